/- from: the search at a place that is not known. -/
import Derived.Test.YtgljpjcclncknaaFrR
import Derived.Deep.AppendLies
import Derived.Deep.RegionLaw
import Derived.Laws.Cover3
namespace Go.Proofs.Ytgljpjcclncknaa
open Go.RowKit

/-- The best of the first k choices, in memory. -/
def OutI (f : Int → Bst) (k : Nat) (A : Option Addr) (c : Nat) (b : Bst) : Prop := (k = 0 ∧ A = none ∧ c = 0 ∧ b = ⟨[], ⟨0, 0, 0⟩⟩) ∨ (0 < k ∧ bestK f k = some b ∧ ∃ g, A = some ⟨g, 0, none⟩)
/-- The contract of the next quarter hours. -/
def NextF (st mo lv0 : Int) (A : Option Addr) (c r q : Nat) (qs : List Qt) : Prop := ∀ (lv : Int) (W : World), 0 ≤ lv → lv ≤ st → Rw W W.heap.size 2 A (qs.map encQ) → KnM st mo qs W r →
  Calls Try.prog 36 #[skV st mo lv0 A qs.length c r, keyP ((q : Int) + 1, lv)] W (RetF st mo qs r (q + 1) lv W)
theorem step_append_nil {P : Program} {ops : Array Oper} {o : Oper} {a : Act} {w : World} {K : Act → World → Prop} {Q : Exit → Act → World → Prop} {E : Prop} (hgd : o.guard = none) (s x : Operand) (t : TypeId)
    (ho : o.op = .call { callee := .builtin .append, args := #[s, x], argTypes := #[t, t] })
    (base : Nat) (e : TypeId) (i : TypeInfo) (size : Nat) (ht : P.underlying t = some (.slice e)) (hi : P.info? e = some i)
    (v : Value) (n : Nat) (xs : List Value) (hs : a.eval s = v) (hown : w.ownsRow base e size v n xs) (c : Nat) (hx : a.eval x = .slice none 0 c)
    (h : K (a.put o.dst v) w) : if Region.wanted o (yielded ops a.tmps) = true then Oper.wp P o a w K Q else E := by
  have hw : Region.wanted o (yielded ops a.tmps) = true := by simp [Region.wanted, hgd]
  rw [if_pos hw]
  have hrun : (Builtin.append_ #[t, t] o.type #[v, .slice none 0 c]).run P w = .ok v w := by
    rcases hown.2 with ⟨rfl, rfl⟩ | ⟨g, cap, cur, rfl, _, _, hnc, _⟩
    · simp [Builtin.append_, run_underlying ht, sizeOf, typeInfo, hi, Builtin.lenOf, Builtin.firstCells]
    · simp [Builtin.append_, run_underlying ht, sizeOf, typeInfo, hi, Builtin.lenOf, Builtin.firstCells, hnc, storeCells]
  unfold Oper.wp
  simp [execOp, ho, resolve, invoke, builtin, hs, hx, hrun, Result.andThen]
  exact h
theorem Try.eqnil (a : Option Addr) (l c : Nat) (w : World) : (binOp .eql 46 (.slice a l c) (.slice none 0 0)).run Try.prog w = .ok (.bool a.isNone) w := by
  simp [binOp, run_equal_slice_nil w 46 3 a l c Try.underlying46]
theorem Try.infoInt : (Try.prog.info? 3).map (fun i => (i.zero, i.size, i.bytes)) = some (some (.int .i64 0), 1, 8) := by kernel_rfl
theorem aft_bd {st lv mo k : Int} {x : Qt} (hx : okQ x) (h0 : 0 ≤ lv) (h1 : lv ≤ st) (_h2 : st ≤ 60) (k0 : 0 ≤ k) (k1 : k ≤ canG ⟨st, lv, mo, ⟨0, 0, 0⟩⟩ x) (hm : mo ≤ 30) :
    0 ≤ (aftG ⟨st, lv, mo, ⟨0, 0, 0⟩⟩ x k).lv ∧ (aftG ⟨st, lv, mo, ⟨0, 0, 0⟩⟩ x k).lv ≤ st ∧ -3000000 ≤ (aftG ⟨st, lv, mo, ⟨0, 0, 0⟩⟩ x k).t.inc ∧ (aftG ⟨st, lv, mo, ⟨0, 0, 0⟩⟩ x k).t.inc ≤ 3000000 ∧ 0 ≤ (aftG ⟨st, lv, mo, ⟨0, 0, 0⟩⟩ x k).t.spl ∧ (aftG ⟨st, lv, mo, ⟨0, 0, 0⟩⟩ x k).t.spl ≤ 100 := by
  obtain ⟨q0, q1, q2, q3⟩ := hx
  unfold canG at k1
  simp only at k1
  obtain ⟨m0, m1⟩ := mul_bd (a := x.p) (b := k) (A := 100000) (B := 30) (by omega) (by omega) (by omega) (by omega)
  simp only [aftG]
  omega
theorem fromG_bd {st mo : Int} (hs0 : 0 ≤ st) (hs1 : st ≤ 60) (hm0 : 0 ≤ mo) (hm1 : mo ≤ 30) : ∀ (l : List Qt), (∀ x ∈ l, okQ x) → ∀ lv, 0 ≤ lv → lv ≤ st →
    (fromG st mo l lv).u.length = l.length ∧ -(3000000 * l.length : Int) ≤ (fromG st mo l lv).t.inc ∧ (fromG st mo l lv).t.inc ≤ 3000000 * l.length ∧ 0 ≤ (fromG st mo l lv).t.spl ∧ (fromG st mo l lv).t.spl ≤ 100 * l.length ∧ 0 ≤ (fromG st mo l lv).t.lft ∧ (fromG st mo l lv).t.lft ≤ st := by
  intro l
  induction l with
  | nil => intro _ lv h0 h1; simp [fromG]; omega
  | cons x l ih =>
    intro hq lv h0 h1
    have hx := hq x (by simp)
    obtain ⟨u, u0, u1, u2⟩ := bestK_some (cndG st mo lv x (fromG st mo l)) (canG ⟨st, lv, mo, ⟨0, 0, 0⟩⟩ x + 1).toNat (by unfold canG; have := hx.2.2.1; simp only; omega)
    have e : fromG st mo (x :: l) lv = cndG st mo lv x (fromG st mo l) u := by rw [fromG, u2]; rfl
    rw [e]
    obtain ⟨a0, a1, a2, a3, a4, a5⟩ := aft_bd (k := u) hx h0 h1 hs1 u0 (by omega) hm1
    obtain ⟨b0, b1, b2, b3, b4, b5, b6⟩ := ih (fun q h => hq q (by simp [h])) _ a0 a1
    refine ⟨by simp [cndG, b0], ?_, ?_, ?_, ?_, b5, b6⟩
    all_goals
      simp only [cndG, List.length_cons]
      omega
/-- The boxes that stay while the search goes on. -/
structure FrB (n : Nat) (st mo lv0 : Int) (A : Option Addr) (len c r q : Nat) (lv : Int) (x : Qt) (W : World) : Prop where
  bs : W.heap[n]? = some (.cells #[.int .i64 st, .int .i64 lv0, .int .i64 mo, .slice A len c, .map (some r)] 101 (0, 0))
  bp : W.heap[n + 1]? = some (.cells #[.int .i64 q, .int .i64 lv] 104 (0, 0))
  br : W.heap[n + 1 + 1]? = some (.cells #[.slice none 0 0, .int .i64 0, .int .i64 0, .int .i64 0] 98 (0, 0))
  bx : W.heap[n + 1 + 1 + 1 + 1]? = some (.cells #[.int .i64 x.p, .int .i64 x.h] 77 (0, 0))
  bn : W.heap[n + 1 + 1 + 1 + 1 + 1]? = some (.cells #[.int .i64 st, .int .i64 lv, .int .i64 mo, .int .i64 0, .int .i64 0, .int .i64 0] 110 (0, 0))
theorem FrB.keep {n : Nat} {st mo lv0 : Int} {A : Option Addr} {len c r q : Nat} {lv : Int} {x : Qt} {W W' : World} (h : FrB n st mo lv0 A len c r q lv x W) (hk : ∀ b, n ≤ b → b ≤ n + 5 → b < W.heap.size → W'.heap[b]? = W.heap[b]?) : FrB n st mo lv0 A len c r q lv x W' :=
  ⟨(hk _ (by omega) (by omega) (blk_lt h.bs)).trans h.bs, (hk _ (by omega) (by omega) (blk_lt h.bp)).trans h.bp, (hk _ (by omega) (by omega) (blk_lt h.br)).trans h.br, (hk _ (by omega) (by omega) (blk_lt h.bx)).trans h.bx, (hk _ (by omega) (by omega) (blk_lt h.bn)).trans h.bn⟩
theorem FrB.below {n : Nat} {st mo lv0 : Int} {A : Option Addr} {len c r q : Nat} {lv : Int} {x : Qt} {W W' : World} (h : FrB n st mo lv0 A len c r q lv x W) (hb : Below W.heap.size W W') : FrB n st mo lv0 A len c r q lv x W' := h.keep fun b _ _ hlt => hb.block b hlt
theorem FrB.grow {n : Nat} {st mo lv0 : Int} {A : Option Addr} {len c r q : Nat} {lv : Int} {x : Qt} {W W' : World} (h : FrB n st mo lv0 A len c r q lv x W) {g : Nat} (hg : W.grownBy W' (some g)) (hne : g < n ∨ n + 5 < g) : FrB n st mo lv0 A len c r q lv x W' := h.keep fun b h1 h2 hlt => hg.block b hlt (fun e => by cases e; omega)
theorem OutI.no {f : Int → Bst} {k c g : Nat} {b : Bst} (h : bestK f k = some b) (ht : btr (f k).t b.t = false) : OutI f (k + 1) (some ⟨g, 0, none⟩) c b :=
  .inr ⟨Nat.succ_pos k, by rw [bestK, h, pickG, ht]; rfl, g, rfl⟩
theorem OutI.yes {f : Int → Bst} {k c g : Nat} {b : Bst} (h : bestK f k = some b) (ht : btr (f k).t b.t = true) : OutI f (k + 1) (some ⟨g, 0, none⟩) c (f k) :=
  .inr ⟨Nat.succ_pos k, by rw [bestK, h, pickG, ht]; rfl, g, rfl⟩
theorem OutI.first {f : Int → Bst} {c g : Nat} : OutI f 1 (some ⟨g, 0, none⟩) c (f 0) := .inr ⟨Nat.succ_pos 0, rfl, g, rfl⟩
theorem ints_flat : ∀ xs : List Int, (xs.map fun x => [Value.int .i64 x]).flatten = xs.map (Value.int .i64)
  | [] => rfl
  | x :: xs => by simp [ints_flat xs]
theorem UnR.ofI {w : World} {base n c : Nat} {A : Option Addr} {k : Int} {us : List Int} {t : Tl} (h : OwnI w base (.slice A n c) (k :: us)) (_hn : n = us.length + 1) : ∃ g, A = some ⟨g, 0, none⟩ ∧ UnR w A c ⟨k :: us, t⟩ := by
  obtain ⟨A', c', e, h1, h2⟩ := h.rw_
  injection e with e1 e2 e3
  subst e1 e3
  rcases h.2 with ⟨hv, h0⟩ | ⟨g, cap, cur, hv, hb, hg, _⟩
  · simp at h0
  · injection hv with e4 e5 e6
    subst e4
    exact ⟨g, rfl, h1, h2, (fun e => by cases e), fun a ha => by cases ha; exact ⟨_, _, hg⟩⟩
theorem UnR.own {w : World} {base n g c : Nat} {k : Int} {us : List Int} {t : Tl} (h : w.ownsRow base 3 1 (.slice (some ⟨g, 0, none⟩) n c) n ([.int .i64 k] ++ us.map (Value.int .i64))) (hn : n = (k :: us).length) : UnR w (some ⟨g, 0, none⟩) c ⟨k :: us, t⟩ := by
  obtain ⟨A, c2, h1, h2, h3, _⟩ := own_rw (l := (k :: us).map fun x => [Value.int .i64 x]) (n := n) (by rw [ints_flat]; exact h) (by rw [List.length_map, hn]) (fun x hx => by obtain ⟨y, _, rfl⟩ := List.mem_map.1 hx; rfl)
  cases h1
  refine ⟨by show (k :: us).length ≤ c; omega, h3, (fun e => by cases e), fun a ha => ?_⟩
  cases ha
  rcases h.2 with ⟨hv, _⟩ | ⟨g2, cap, cur, hv, hb, hg, _⟩
  · cases hv
  · cases hv; exact ⟨_, _, hg⟩
set_option maxRecDepth 100000 in
set_option maxHeartbeats 8000000 in
theorem fromSeek_c (st mo lv0 lv : Int) (A : Option Addr) (c r q : Nat) (qs : List Qt) (w : World) (hl : qs.length ≤ 8) (hqs : ∀ x ∈ qs, okQ x) (hst0 : 0 ≤ st) (hst1 : st ≤ 60) (hmo0 : 0 ≤ mo) (hmo1 : mo ≤ 30) (hlv0 : 0 ≤ lv) (hlv1 : lv ≤ st)
    (hq : q < qs.length) (hr : QtR w w.heap.size A qs) (hk : KnM st mo qs w r) (l : List ((Int × Int) × Value)) (hm : MapP w r l) (hg : getP ((q : Int), lv) l = none) (ih : NextF st mo lv0 A c r q qs) :
    Calls Try.prog 36 #[skV st mo lv0 A qs.length c r, keyP ((q : Int), lv)] w (RetF st mo qs r q lv w) := by
  obtain ⟨i0, hi, hz0, hz1, hz2⟩ := info_parts Try.infoInt
  have heq : ((q : Int) == (qs.length : Int)) = false := by simp; omega
  have hrl := hk.lt
  have hb3 : Below w.heap.size w (frW w st mo lv0 A qs.length c r q lv) := by unfold frW; (repeat first | (with_reducible first | assumption | exact Below.refl _ _ | refine Bl.drew ?_ | refine Bl.drewN ?_ _ | refine Bl.alloc ?_ _ | refine Bl.set ?_ _ ?_) | (with_reducible apply Bl.step'; (focus (with_reducible assumption))) | omega | (focus (simp; done)) | (focus (simp; omega)))
  have hlk := Try.lookupP ((q : Int), lv) _ (Try.zeroBest (frW w st mo lv0 A qs.length c r q lv)) (hm.keep (hb3.block _ hm.lt))
  rw [hg] at hlk
  simp only [Option.getD_none, Option.isSome_none, frW, keyP] at hlk
  obtain ⟨b1, off, rfl, hbl, c0, c1⟩ := hr.get2 (k := q) (by simpa using hq) (by rw [List.getElem_map]; rfl)
  obtain ⟨x, hx⟩ : ∃ x, x = qs[q] := ⟨_, rfl⟩
  have hxo : okQ x := by rw [hx]; exact hqs _ (List.getElem_mem hq)
  rw [← hx] at c0 c1
  have hfr : fromG st mo (qs.drop q) lv = (bestK (cndG st mo lv x (fromG st mo (qs.drop (q + 1)))) (canG ⟨st, lv, mo, ⟨0, 0, 0⟩⟩ x + 1).toNat).getD ⟨[], ⟨0, 0, 0⟩⟩ := by rw [List.drop_eq_getElem_cons hq, ← hx]; rfl
  have hbd : bdS ⟨st, lv, mo, ⟨0, 0, 0⟩⟩ := ⟨hst0, hst1, hlv0, hlv1, hmo0, hmo1, by simp, by simp, by simp, by simp⟩
  obtain ⟨CN, hCN⟩ : ∃ CN, CN = canG ⟨st, lv, mo, ⟨0, 0, 0⟩⟩ x := ⟨_, rfl⟩
  rw [← hCN] at hfr
  have hC0 : 0 ≤ CN := by rw [hCN]; unfold canG; have := hxo.2.2.1; simp only; omega
  have hC1 : CN ≤ 30 := by rw [hCN]; unfold canG; simp only; omega
  have HCA := Lib.hid (fun W => hCN ▸ can_c ⟨st, lv, mo, ⟨0, 0, 0⟩⟩ x W hbd hxo)
  have HAF := Lib.hid (fun u W h0 h1 => after_c ⟨st, lv, mo, ⟨0, 0, 0⟩⟩ x u W hbd hxo h0 h1)
  have HR := Lib.hid hr
  have HK := Lib.hid hk
  have HFR := Lib.hid hfr
  have HIH := Lib.hid ih
  have HXO := Lib.hid hxo
  have HBD := Lib.hid (fromG_bd hst0 hst1 hmo0 hmo1 (qs.drop (q + 1)) fun y hy => hqs y (List.mem_of_mem_drop hy))
  have HCN := Lib.hid hCN
  clear hr hk hm hg hb3 hx hfr hbd hCN ih hxo hqs
  have hbl1 : b1 < w.heap.size + 1 := by omega
  have hbl2 : b1 < w.heap.size + 1 + 1 := by omega
  have hbl3 : b1 < w.heap.size + 1 + 1 + 1 := by omega
  unfold sndV qtV at HCA HAF
  unfold skV keyP
  go_enter Try.func36, Try.ntmps36
  go_wp2_with fail
  obtain ⟨W7, hW7⟩ : ∃ W7, W7 = ((((((w.alloc (.cells #[.int .i64 st, .int .i64 lv0, .int .i64 mo, .slice (some ⟨b1, off, none⟩) qs.length c, .map (some r)] 101)).alloc (.cells #[.int .i64 q, .int .i64 lv] 104)).alloc (.cells #[.slice none 0 0, .int .i64 0, .int .i64 0, .int .i64 0] 98)).alloc (.cells #[.slice none 0 0, .int .i64 0, .int .i64 0, .int .i64 0] 98)).alloc (.cells #[.int .i64 x.p, .int .i64 x.h] 77)).alloc (.cells #[.int .i64 st, .int .i64 lv, .int .i64 mo, .int .i64 0, .int .i64 0, .int .i64 0] 110)).alloc (.cells #[.slice none 0 0, .int .i64 0, .int .i64 0, .int .i64 0] 98) := ⟨_, rfl⟩
  have hb7 : Below w.heap.size w W7 := by rw [hW7]; (repeat first | (with_reducible first | assumption | exact Below.refl _ _ | refine Bl.drew ?_ | refine Bl.drewN ?_ _ | refine Bl.alloc ?_ _ | refine Bl.set ?_ _ ?_) | (with_reducible apply Bl.step'; (focus (with_reducible assumption))) | omega | (focus (simp; done)) | (focus (simp; omega)))
  have F7 : FrB w.heap.size st mo lv0 (some ⟨b1, off, none⟩) qs.length c r q lv x W7 := by
    rw [hW7]
    exact ⟨blk_alloc (blk_alloc (blk_alloc (blk_alloc (blk_alloc (blk_alloc (blk_new rfl)))))), blk_alloc (blk_alloc (blk_alloc (blk_alloc (blk_alloc (blk_new (by simp)))))), blk_alloc (blk_alloc (blk_alloc (blk_alloc (blk_new (by simp))))), blk_alloc (blk_alloc (blk_new (by simp))), blk_alloc (blk_new (by simp))⟩
  have ko : W7.heap[w.heap.size + 1 + 1 + 1 + 1 + 1 + 1]? = some (.cells #[.slice none 0 0, .int .i64 0, .int .i64 0, .int .i64 0] 98 (0, 0)) := by rw [hW7]; exact blk_new (by simp)
  rw [← hW7]
  clear hW7 hlk hbl1 hbl2 hbl3 c0 c1
  refine (HCA.out _).mono ?_
  rintro e w1 ⟨rfl, hb1⟩
  have F1 := F7.below hb1
  have ko1 := blk_step hb1 ko
  have hg1 : w.grownBy w1 (some r) := grown_below (hb7.trans (hb1.mono hb7.size))
  have K1 := HK.out.below (hb7.trans (hb1.mono hb7.size))
  have hKN : (((CN + 1).toNat : Nat) : Int) = CN + 1 := by omega
  obtain ⟨KN, hKN2⟩ : ∃ KN, KN = (CN + 1).toNat := ⟨_, rfl⟩
  rw [← hKN2] at hKN
  have HKN2 := Lib.hid hKN2
  clear F7 ko hb1 hb7 hKN2
  go_wp2_with fail
  obtain ⟨f, hf⟩ : ∃ f, f = cndG st mo lv x (fromG st mo (qs.drop (q + 1))) := ⟨_, rfl⟩
  have HF := Lib.hid hf
  clear hf
  go_loopw [54] (fun i wr => ∃ (k : Nat) (B : Option Addr) (d : Nat) (b : Bst), k ≤ KN ∧ i = .int .i64 k ∧ FrB w.heap.size st mo lv0 (some ⟨b1, off, none⟩) qs.length c r q lv x wr ∧ wr.heap[w.heap.size + 1 + 1 + 1 + 1 + 1 + 1]? = some (.cells #[.slice B b.u.length d, .int .i64 b.t.inc, .int .i64 b.t.lft, .int .i64 b.t.spl] 98 (0, 0)) ∧ UnR wr B d b ∧ w.grownBy wr (some r) ∧ KnM st mo qs wr r ∧ Hid (OutI f k B d b)) (fun i _ => KN - (intOf i).toNat)
  case atStart => exact ⟨0, none, 0, ⟨[], ⟨0, 0, 0⟩⟩, Nat.zero_le _, rfl, F1, ko1, ⟨Nat.zero_le _, Rw.nil_, fun _ => ⟨rfl, rfl⟩, fun a h => by cases h⟩, hg1, K1, Lib.hid (.inl ⟨rfl, rfl, rfl, rfl⟩)⟩
  case round =>
    obtain ⟨k, B, d, b, hk, rfl, Fr, ko, hu, hgr, hkn, hou⟩ := hrel
    clear F1 ko1 hg1 K1
    have hgs := hgr.size
    obtain ⟨a0, af0, a1, af1, a2, af2, a3, af3, a4, af4⟩ := cv5 Fr.bs
    obtain ⟨p0, pf0, p1, pf1⟩ := cv2 Fr.bp
    obtain ⟨o0, of0, o1, of1, o2, of2, o3, of3⟩ := cv4 ko
    have hol := blk_lt ko
    by_cases hlt : k < KN
    · obtain ⟨x0, xf0, x1, xf1⟩ := cv2 Fr.bx
      obtain ⟨n0, nf0, n1, nf1, n2, nf2, n3, nf3, n4, nf4, n5, nf5⟩ := cv6 Fr.bn
      have hkd : decide ((k : Int) < CN + 1) = true := decide_eq_true (by omega)
      obtain ⟨nx, hnx⟩ : ∃ nx, nx = aftG ⟨st, lv, mo, ⟨0, 0, 0⟩⟩ x k := ⟨_, rfl⟩
      have HAK := Lib.hid (fun W => hnx ▸ HAF.out k W (by omega) (by omega))
      have HNX := Lib.hid hnx
      have HFr := Lib.hid Fr
      have HKO := Lib.hid ko
      have HU := Lib.hid hu
      have HGR := Lib.hid hgr
      have HKM := Lib.hid hkn
      clear hnx Fr ko hu hgr hkn
      go_wp2_with (go_at_call 54; refine (HAK.out _).mono ?_; rintro e w2 ⟨rfl, hb2⟩; (have Fr2 := HFr.out.below hb2); (obtain ⟨s0, sf0, s1, sf1, s2, sf2, s3, sf3, s4, sf4⟩ := cv5 Fr2.bs); (obtain ⟨t0, tf0, t1, tf1⟩ := cv2 Fr2.bp); (have hsl := blk_lt Fr2.bs); (have hpl := blk_lt Fr2.bp); (have HF2 := Lib.hid Fr2); clear Fr2)
      have hkc : (k : Int) ≤ CN := by omega
      obtain ⟨l0, l1, i0, i1, j0, j1⟩ := aft_bd (k := (k : Int)) HXO.out hlv0 hlv1 hst1 (by omega) (by rw [← HCN.out]; exact hkc) hmo1
      rw [← HNX.out] at l0 l1 i0 i1 j0 j1
      obtain ⟨W3, hW3⟩ : ∃ W3, W3 = w2.alloc (.cells #[.int .i64 nx.st, .int .i64 nx.lv, .int .i64 nx.mo, .int .i64 nx.t.inc, .int .i64 nx.t.lft, .int .i64 nx.t.spl] 110) := ⟨_, rfl⟩
      have hb3 : Below wr.heap.size wr W3 := by rw [hW3]; exact hb2.alloc hb2.size _
      have kx3 : W3.heap[w2.heap.size]? = some (.cells #[.int .i64 nx.st, .int .i64 nx.lv, .int .i64 nx.mo, .int .i64 nx.t.inc, .int .i64 nx.t.lft, .int .i64 nx.t.spl] 110 (0, 0)) := by rw [hW3]; exact heap_alloc_new _ _
      have hR3 : Rw W3 W3.heap.size 2 (some ⟨b1, off, none⟩) (qs.map encQ) := by
        obtain ⟨lm, hlm⟩ := HK.out.map
        exact rw_to ((Rw.grow HR.out hlm HGR.out).more HGR.out.size) hb3
      have Fr3 := HFr.out.below hb3
      have hs2 := hb2.size
      rw [← hW3]
      clear hW3 s0 sf0 s1 sf1 s2 sf2 s3 sf3 s4 sf4 t0 tf0 t1 tf1 hsl hpl a0 af0 a1 af1 a2 af2 a3 af3 a4 af4 p0 pf0 p1 pf1 o0 of0 o1 of1 o2 of2 o3 of3 x0 xf0 x1 xf1 n0 nf0 n1 nf1 n2 nf2 n3 nf3 n4 nf4 n5 nf5
      refine (HIH.out nx.lv W3 l0 l1 hR3 (HKM.out.below hb3)).mono ?_
      rintro e w4 ⟨B2, d2, rfl, hu2, hgr2, hkn4⟩
      have Fr4 := Fr3.grow hgr2 (Or.inl hrl)
      have ko4 : w4.heap[w.heap.size + 1 + 1 + 1 + 1 + 1 + 1]? = _ := (hgr2.block _ (Nat.lt_of_lt_of_le hol hb3.size) (fun e => by cases e; omega)).trans (blk_step hb3 HKO.out)
      have kx4 : w4.heap[w2.heap.size]? = _ := (hgr2.block _ (blk_lt kx3) (fun e => by cases e; omega)).trans kx3
      obtain ⟨v, hv⟩ : ∃ v, v = fromG st mo (qs.drop (q + 1)) nx.lv := ⟨_, rfl⟩
      obtain ⟨bd0, bd1, bd2, bd3, bd4, bd5, bd6⟩ := HBD.out nx.lv l0 l1
      rw [← hv] at hu2 bd0 bd1 bd2 bd3 bd4 bd5 bd6 ⊢
      have hdl : (qs.drop (q + 1)).length ≤ 8 := by rw [List.length_drop]; omega
      have HBL := Lib.hid bd0
      have hvl : v.u.length ≤ 8 := by rw [bd0]; exact hdl
      clear bd0
      have hgr4 : w.grownBy w4 (some r) := (HGR.out.trans (grown_below hb3)).trans hgr2
      obtain ⟨lm, hlm⟩ := HKM.out.map
      have hu4 : UnR w4 B d b := (HU.out.below hb3).grow (hlm.keep (hb3.block _ hlm.lt)) hgr2
      have HV := Lib.hid hv
      have HG4 := Lib.hid hgr4
      have HU4 := Lib.hid hu4
      have HV4 := Lib.hid hu2
      have HK4 := Lib.hid hkn4
      have HF4 := Lib.hid Fr4
      have HO4 := Lib.hid ko4
      obtain ⟨n0, nf0, n1, nf1, n2, nf2, n3, nf3, n4, nf4, n5, nf5⟩ := cv6 kx4
      obtain ⟨o0, of0, o1, of1, o2, of2, o3, of3⟩ := cv4 ko4
      have hxl4 := blk_lt kx4
      have hol4 := blk_lt ko4
      clear hv hgr4 hlm hu4 hu2 hkn4 Fr4 ko4 kx4 Fr3 hR3 hb3 kx3 hgr2 HF2 hs2
      have hol5 := Nat.lt_succ_of_lt hol4
      have hnil := Try.eqnil
      unfold encB
      obtain ⟨T, hT⟩ : ∃ T : Tl, T = ⟨nx.t.inc + v.t.inc, v.t.lft, nx.t.spl + v.t.spl⟩ := ⟨_, rfl⟩
      have hT1 : nx.t.inc + v.t.inc = T.inc := by rw [hT]
      have hT2 : v.t.lft = T.lft := by rw [hT]
      have hT3 : nx.t.spl + v.t.spl = T.spl := by rw [hT]
      have hfk : f k = ⟨(k : Int) :: v.u, T⟩ := by rw [HF.out, hT, HV.out, HNX.out]; rfl
      have HT := Lib.hid hT
      have HFK := Lib.hid hfk
      clear hfk
      have HBE := Lib.hid (fun W => better_c T b.t W)
      unfold tlV at HBE
      obtain ⟨bt, hbt⟩ : ∃ bt, bt = btr T b.t := ⟨_, rfl⟩
      rw [← hbt] at HBE
      have HBT := Lib.hid hbt
      clear hT hbt
      rcases hou.out with ⟨hk0, rfl, rfl, hbe⟩ | ⟨hk1, hbst, g, rfl⟩
      · have HBB := Lib.hid hbe
        have HK0 := Lib.hid hk0
        clear hbe hk0
        go_wp2_with fail
        obtain ⟨W6, hW6⟩ : ∃ W6, W6 = (w4.alloc (.cells #[.slice B2 v.u.length d2, .int .i64 v.t.inc, .int .i64 T.lft, .int .i64 v.t.spl] 98)).alloc (.cells #[.int .i64 T.inc, .int .i64 T.lft, .int .i64 T.spl] 48) := ⟨_, rfl⟩
        have hb6 : Below w4.heap.size w4 W6 := by rw [hW6]; exact ((Below.refl _ w4).alloc (Nat.le_refl _) _).alloc (by simp) _
        have kv6 : W6.heap[w4.heap.size]? = some (.cells #[.slice B2 v.u.length d2, .int .i64 v.t.inc, .int .i64 T.lft, .int .i64 v.t.spl] 98 (0, 0)) := by rw [hW6]; exact blk_alloc (blk_new rfl)
        have kt6 : W6.heap[w4.heap.size + 1]? = some (.cells #[.int .i64 T.inc, .int .i64 T.lft, .int .i64 T.spl] 48 (0, 0)) := by rw [hW6]; exact blk_new (by simp)
        rw [← hW6]
        clear hW6
        have HB6 := Lib.hid hb6
        have ko6 := blk_step hb6 HO4.out
        have hol6 := blk_lt ko6
        have hvl6 := blk_lt kv6
        have htl6 := blk_lt kt6
        have HKO6 := Lib.hid ko6
        clear n0 nf0 n1 nf1 n2 nf2 n3 nf3 n4 nf4 n5 nf5 o0 of0 o1 of1 o2 of2 o3 of3 hxl4 hol4 hol5 hb6 ko6
        have hol9 := blk_lt HO4.out
        have hu6 := (HV4.out.below HB6.out).2.1
        refine sk_r16 W6 w4.heap.size (w4.heap.size + 1) (w.heap.size + 1 + 1 + 1 + 1 + 1 + 1) k v.u B2 d2 _ _ _ _ _ _ _ T kv6 kt6 HKO6.out hu6 (by omega) (by omega) (by omega) _ _ _ _ _ _ _ _ _ _ _ _ _ _ _ _ _ _ _ _ _ _ _ _ _ _ _ _ _ _ _ _ _ _ _ _ _ _ _ _ _ _ _ _ _ _ _ _ _ _ _ _ _ _ _ _ _ _ _ _ _ _ _ _ _ _ _ _ _ _ _ _ _ _ _ _ _ _ _ _ _ _ _ _ _ _ _ _ _ _ _ _ _ _ _ _ _ _ _ _ _ _ _ _ _ _ _ _ ?_
        intro v97 v98 v99 v100 v101 v102 v103 W8 A8 c8 hob hui hg8
        dsimp only
        obtain ⟨g8, rfl, hun⟩ := UnR.ofI (t := T) hui rfl
        have HOB := Lib.hid hob
        have HUB : Hid (UnR W8 (some ⟨g8, 0, none⟩) c8 (f k)) := Lib.hid (by rw [HFK.out]; exact hun)
        have HFB := Lib.hid ((HF4.out.below HB6.out).grow hg8 (Or.inr (by omega)))
        have HKB := Lib.hid ((HK4.out.below HB6.out).box hg8 HKO6.out (by decide))
        have HGB : Hid (w.grownBy W8 (some r)) := Lib.hid ((HG4.out.trans (grown_below HB6.out)).andThen hg8 (fun j e => by cases e; exact Or.inl (by omega)))
        clear hob hui hg8 hun hu6 kv6 kt6 hol9
        go_wp2_with fail
        refine ⟨⟨k + 1, some ⟨g8, 0, none⟩, c8, f k, hlt, by go_num, HFB.out, ?_, HUB.out, HGB.out, HKB.out, Lib.hid (by rw [HK0.out]; exact OutI.first)⟩, by simp [intOf]; omega⟩
        rw [HFK.out]
        exact HOB.out
      · have HBS := Lib.hid hbst
        clear hbst
        cases bt
        · go_wp2_with (go_at_call 55; refine (HBE.out _).mono ?_; rintro e w5 ⟨rfl, hb5⟩)
          have hb6 : Below w4.heap.size w4 w5 := by (repeat first | (with_reducible first | assumption | exact Below.refl _ _ | refine Bl.drew ?_ | refine Bl.drewN ?_ _ | refine Bl.alloc ?_ _ | refine Bl.set ?_ _ ?_) | (with_reducible apply Bl.step'; (focus (with_reducible assumption))) | omega | (focus (simp; done)) | (focus (simp; omega)))
          refine ⟨⟨k + 1, _, d, b, hlt, by go_num, HF4.out.below hb6, blk_step hb6 HO4.out, HU4.out.below hb6, HG4.out.trans (grown_below hb6), HK4.out.below hb6, Lib.hid (OutI.no HBS.out (by rw [HFK.out]; exact HBT.out.symm))⟩, by simp [intOf]; omega⟩
        · go_wp2_with (go_at_call 55; refine (HBE.out _).mono ?_; rintro e w5 ⟨rfl, hb5⟩)
          have hb6 : Below w4.heap.size w4 w5 := by (repeat first | (with_reducible first | assumption | exact Below.refl _ _ | refine Bl.drew ?_ | refine Bl.drewN ?_ _ | refine Bl.alloc ?_ _ | refine Bl.set ?_ _ ?_) | (with_reducible apply Bl.step'; (focus (with_reducible assumption))) | omega | (focus (simp; done)) | (focus (simp; omega)))
          have kv6 : w5.heap[w4.heap.size]? = some (.cells #[.slice B2 v.u.length d2, .int .i64 v.t.inc, .int .i64 T.lft, .int .i64 v.t.spl] 98 (0, 0)) := blk_step hb5 (blk_alloc (blk_new rfl))
          have kt6 : w5.heap[w4.heap.size + 1]? = some (.cells #[.int .i64 T.inc, .int .i64 T.lft, .int .i64 T.spl] 48 (0, 0)) := blk_step hb5 (blk_new (by simp))
          obtain ⟨W6, hW6⟩ : ∃ W6, W6 = w5 := ⟨_, rfl⟩
          rw [← hW6] at hb6 kv6 kt6 ⊢
          clear hW6 hb5
          have HB6 := Lib.hid hb6
          have ko6 := blk_step hb6 HO4.out
          have hol6 := blk_lt ko6
          have hvl6 := blk_lt kv6
          have htl6 := blk_lt kt6
          have HKO6 := Lib.hid ko6
          clear n0 nf0 n1 nf1 n2 nf2 n3 nf3 n4 nf4 n5 nf5 o0 of0 o1 of1 o2 of2 o3 of3 hxl4 hol4 hol5 hb6 ko6
          have hol9 := blk_lt HO4.out
          have hu6 := (HV4.out.below HB6.out).2.1
          refine sk_r16 W6 w4.heap.size (w4.heap.size + 1) (w.heap.size + 1 + 1 + 1 + 1 + 1 + 1) k v.u B2 d2 _ _ _ _ _ _ _ T kv6 kt6 HKO6.out hu6 (by omega) (by omega) (by omega) _ _ _ _ _ _ _ _ _ _ _ _ _ _ _ _ _ _ _ _ _ _ _ _ _ _ _ _ _ _ _ _ _ _ _ _ _ _ _ _ _ _ _ _ _ _ _ _ _ _ _ _ _ _ _ _ _ _ _ _ _ _ _ _ _ _ _ _ _ _ _ _ _ _ _ _ _ _ _ _ _ _ _ _ _ _ _ _ _ _ _ _ _ _ _ _ _ _ _ _ _ _ _ _ _ _ _ _ ?_
          intro v97 v98 v99 v100 v101 v102 v103 W8 A8 c8 hob hui hg8
          dsimp only
          obtain ⟨g8, rfl, hun⟩ := UnR.ofI (t := T) hui rfl
          have HOB := Lib.hid hob
          have HUB : Hid (UnR W8 (some ⟨g8, 0, none⟩) c8 (f k)) := Lib.hid (by rw [HFK.out]; exact hun)
          have HFB := Lib.hid ((HF4.out.below HB6.out).grow hg8 (Or.inr (by omega)))
          have HKB := Lib.hid ((HK4.out.below HB6.out).box hg8 HKO6.out (by decide))
          have HGB : Hid (w.grownBy W8 (some r)) := Lib.hid ((HG4.out.trans (grown_below HB6.out)).andThen hg8 (fun j e => by cases e; exact Or.inl (by omega)))
          clear hob hui hg8 hun hu6 kv6 kt6 hol9
          go_wp2_with fail
          refine ⟨⟨k + 1, some ⟨g8, 0, none⟩, c8, f k, hlt, by go_num, HFB.out, ?_, HUB.out, HGB.out, HKB.out, Lib.hid (by exact OutI.yes HBS.out (by rw [HFK.out]; exact HBT.out.symm))⟩, by simp [intOf]; omega⟩
          rw [HFK.out]
          exact HOB.out
    · obtain rfl : k = KN := by omega
      have hkd : decide ((k : Int) < CN + 1) = false := decide_eq_false (by omega)
      rcases hou.out with ⟨hk0, _⟩ | ⟨hk1, hbst, g, rfl⟩
      · omega
      obtain ⟨lm, hm1, hm2⟩ := hkn
      obtain ⟨wu, hrun, hmu, hgu⟩ := Try.updateP ((q : Int), lv) (encB (some ⟨g, 0, none⟩) d b) hm1
      simp only [keyP, encB] at hrun
      have hbf : b = fromG st mo (qs.drop q) lv := by rw [HFR.out, ← HF.out, ← HKN2.out, hbst]; rfl
      have Ku : KnM st mo qs wu r := KnM.put hm1 hm2 (Nat.le_of_lt hq) hlv0 hlv1 (by rw [← hbf]; exact hu) (by rw [← hbf]; exact hmu) hgu
      have Fu := Fr.grow hgu (Or.inl hrl)
      have kou := (hgu.block _ hol (fun e => by cases e; omega)).trans ko
      have Uu := hu.grow hm1 hgu
      have Gu := hgr.trans hgu
      have HBF := Lib.hid hbf
      have HFU := Lib.hid Fu
      have HKU := Lib.hid Ku
      have HUU := Lib.hid Uu
      have HGU := Lib.hid Gu
      obtain ⟨u0, uf0, u1, uf1, u2, uf2, u3, uf3⟩ := cv4 kou
      obtain ⟨e0, ef0, e1, ef1, e2, ef2, e3, ef3⟩ := cv4 Fu.br
      have hul := blk_lt kou
      have hel := blk_lt Fu.br
      clear hm1 hm2 hmu hgu hbf Ku Fu kou Uu Gu hu hgr Fr ko hbst
      go_wp2_with fail
      have h8 := grown_set4 wu (w.heap.size + 1 + 1) (.slice (some ⟨g, 0, none⟩) b.u.length d) (.int .i64 b.t.inc) (.int .i64 b.t.lft) (.int .i64 b.t.spl)
      refine bodyPost_ret (Try.resB rfl _ _ rfl (set4_block HFU.out.br)) rfl ⟨some ⟨g, 0, none⟩, d, ?_, ?_, HGU.out.andThen h8 (fun j e => by cases e; exact Or.inl (by omega)), HKU.out.box h8 HFU.out.br (by decide)⟩
      · rw [← HBF.out]; rfl
      · rw [← HBF.out]; exact HUU.out.box h8 HFU.out.br (by decide)
end Go.Proofs.Ytgljpjcclncknaa

/- The stands of a dispatch. -/
import Derived.Test.YtgljpjcclncknaaGs1
import Derived.Deep.RegionWith
namespace Go.Proofs.Ytgljpjcclncknaa
open Go.RowKit

theorem set6_block {W : World} {b : Nat} {T : TypeId} {a0 a1 a2 a3 a4 a5 v0 v1 v2 v3 v4 v5 : Value} (h : W.heap[b]? = some (.cells #[a0, a1, a2, a3, a4, a5] T (0, 0))) :
    ((((((W.setCell ⟨b, 0, none⟩ v0).setCell ⟨b, 1, none⟩ v1).setCell ⟨b, 2, none⟩ v2).setCell ⟨b, 3, none⟩ v3).setCell ⟨b, 4, none⟩ v4).setCell ⟨b, 5, none⟩ v5).heap[b]? = some (.cells #[v0, v1, v2, v3, v4, v5] T (0, 0)) :=
  heap_setCell_same _ b 5 _ T v5 (heap_setCell_same _ b 4 _ T v4 (heap_setCell_same _ b 3 _ T v3 (heap_setCell_same _ b 2 _ T v2 (heap_setCell_same _ b 1 _ T v1 (heap_setCell_same W b 0 _ T v0 h)))))
theorem set6_other {W : World} {b d : Nat} (v0 v1 v2 v3 v4 v5 : Value) (h : d ≠ b) :
    ((((((W.setCell ⟨b, 0, none⟩ v0).setCell ⟨b, 1, none⟩ v1).setCell ⟨b, 2, none⟩ v2).setCell ⟨b, 3, none⟩ v3).setCell ⟨b, 4, none⟩ v4).setCell ⟨b, 5, none⟩ v5).heap[d]? = W.heap[d]? := by
  rw [heap_setCell_other _ _ _ _ h, heap_setCell_other _ _ _ _ h, heap_setCell_other _ _ _ _ h, heap_setCell_other _ _ _ _ h, heap_setCell_other _ _ _ _ h, heap_setCell_other _ _ _ _ h]
theorem below_set6 {B : Nat} {a w : World} (h : Below B a w) {b : Nat} (hb : B ≤ b) (v0 v1 v2 v3 v4 v5 : Value) :
    Below B a ((((((w.setCell ⟨b, 0, none⟩ v0).setCell ⟨b, 1, none⟩ v1).setCell ⟨b, 2, none⟩ v2).setCell ⟨b, 3, none⟩ v3).setCell ⟨b, 4, none⟩ v4).setCell ⟨b, 5, none⟩ v5) :=
  Below.setCell (Below.setCell (Below.setCell (Below.setCell (Below.setCell (Below.setCell h (p := ⟨b, 0, none⟩) hb _) (p := ⟨b, 1, none⟩) hb _) (p := ⟨b, 2, none⟩) hb _) (p := ⟨b, 3, none⟩) hb _) (p := ⟨b, 4, none⟩) hb _) (p := ⟨b, 5, none⟩) hb _
def encN (s : Snd) : List Value := [.int .i64 s.st, .int .i64 s.lv, .int .i64 s.mo, .int .i64 s.t.inc, .int .i64 s.t.lft, .int .i64 s.t.spl]
def cellsN (s : Snd) : Array Value := #[.int .i64 s.st, .int .i64 s.lv, .int .i64 s.mo, .int .i64 s.t.inc, .int .i64 s.t.lft, .int .i64 s.t.spl]
theorem encN_at {U : World} {b : Nat} {s : Snd} {T : TypeId} (hb : U.heap[b]? = some (.cells (cellsN s) T (0, 0))) : ∀ (j : Nat) (u : Value), (encN s)[j]? = some u → U.cell? ((⟨b, 0, none⟩ : Addr).add j) = some u := by
  intro j u h
  rw [add0, cell_of_row _ _ j _ _ _ hb]
  match j, h with
  | 0, h => simpa [encN, cellsN] using h
  | 1, h => simpa [encN, cellsN] using h
  | 2, h => simpa [encN, cellsN] using h
  | 3, h => simpa [encN, cellsN] using h
  | 4, h => simpa [encN, cellsN] using h
  | 5, h => simpa [encN, cellsN] using h
theorem encN_one (s : Snd) : ∀ u ∈ encN s, u.oneCell' = true := by
  intro u hu
  simp [encN] at hu
  rcases hu with rfl | rfl | rfl | rfl | rfl | rfl <;> rfl
theorem encN_len {l : List Snd} : ∀ x ∈ l.map encN, x.length = 6 := by
  intro x hx; obtain ⟨m, _, rfl⟩ := List.mem_map.1 hx; rfl
/-- A slice of one element that was just built. -/
theorem OwnR.one {T : TypeId} {sz : Nat} {w : World} {base b : Nat} {cur : Array Value} (hb : base ≤ b) (h : w.heap[b]? = some (.cells cur T (0, 0))) (hs : cur.size = sz) : OwnR T sz w base (.slice (some ⟨b, 0, none⟩) 1 1) [cur.toList] := by
  refine ⟨by simp [hs], .inr ⟨b, 1, cur, rfl, hb, h, Nat.le_refl _, by unfold maxLen; omega, by rw [hs, Nat.one_mul], ?_⟩⟩
  rw [← hs, List.length_singleton, Nat.one_mul, ← Array.length_toList, List.take_length]
  simp
/-- What holds of the stand before the quarter hour k. -/
structure StI (p : Pla) (F : Snd) (l : List Qt) (d : List Int) (k : Nat) (s : Snd) : Prop where
  st : s.st = p.st
  mo : s.mo = p.mo
  l0 : 0 ≤ s.lv
  l1 : s.lv ≤ p.st
  i0 : -(3000000 * k : Int) ≤ s.t.inc
  i1 : s.t.inc ≤ 3000000 * k
  p0 : 0 ≤ s.t.spl
  p1 : s.t.spl ≤ 100 * k
  may : mayQ s (l.drop k) (d.drop k)
  run : runQ s (l.drop k) (d.drop k) = F
theorem StI.bd {p : Pla} {F : Snd} {l : List Qt} {d : List Int} {k : Nat} {s : Snd} (h : StI p F l d k s) (hp : okP p) (hk : k ≤ 8) : bdS s := by
  obtain ⟨a1, a2, a3, a4, a5, a6, a7, a8, _, _⟩ := h
  obtain ⟨b1, b2, b3, b4, b5, b6⟩ := hp
  exact ⟨by omega, by omega, a3, by omega, by omega, by omega, by omega, by omega, a7, by omega⟩
theorem StI.step {p : Pla} {F : Snd} {l : List Qt} {d : List Int} {k : Nat} {s : Snd} (h : StI p F l d k s) (hp : okP p) (hk : k < l.length) (hd : k < d.length) (hq : okQ l[k]) :
    0 ≤ d[k] ∧ d[k] ≤ s.mo ∧ d[k] ≤ canG s l[k] ∧ StI p F l d (k + 1) (aftG s l[k] d[k]) := by
  obtain ⟨a1, a2, a3, a4, a5, a6, a7, a8, a9, a10⟩ := h
  obtain ⟨b1, b2, b3, b4, b5, b6⟩ := hp
  obtain ⟨q0, q1, q2, q3⟩ := hq
  rw [List.drop_eq_getElem_cons hk, List.drop_eq_getElem_cons hd] at a9 a10
  obtain ⟨c1, c2, c3, c4⟩ := a9
  obtain ⟨m0, m1⟩ := mul_bd (a := (l[k]).p) (b := d[k]) (A := 100000) (B := 30) (by omega) (by omega) (by omega) (by omega)
  refine ⟨c1, c2, c3, ⟨a1, a2, ?_, ?_, ?_, ?_, ?_, ?_, c4, a10⟩⟩
  all_goals
    unfold canG at c3
    simp only [aftG]
    omega
theorem OwnR.keep {T : TypeId} {sz : Nat} {w w' : World} {base : Nat} {v : Value} {rows : List (List Value)} (h : OwnR T sz w base v rows) {g : Nat} (hb : g < base) (hs : w.heap.size ≤ w'.heap.size) (he : ∀ b, b < w.heap.size → b ≠ g → w'.heap[b]? = w.heap[b]?) (ho : w'.os = w.os) (ht : w'.tape = w.tape) (hu : w'.output = w.output) : OwnR T sz w' base v rows :=
  World.ownsRow.kept h (row := some g) ⟨ho, ht, hu, hs, fun k hk hne => he k hk (fun e => hne (by rw [e]))⟩ (by
    rcases h.2 with ⟨hv, _⟩ | ⟨b, cap, cur, hv, hbb, _⟩
    · exact .inl (by rw [hv]; rfl)
    · refine .inr ?_
      rw [hv]
      simp [Value.ownBlock]
      omega)
def RetN (F : Snd) (n : Nat) (w : World) (e : Ending) (w' : World) : Prop :=
  ∃ (A : Option Addr) (c : Nat) (ss : List Snd), e = .returned (.tuple #[.slice A (n + 1) c, .int .i64 0]) ∧ ss.length = n + 1 ∧ ss[n]? = some F ∧ Rw w' w'.heap.size 6 A (ss.map encN) ∧ Below w.heap.size w w'
theorem Try.infoN : (Try.prog.info? 110).map (fun i => (i.zero, i.size, i.bytes)) = some (some (.agg #[.int .i64 0, .int .i64 0, .int .i64 0, .int .i64 0, .int .i64 0, .int .i64 0]), 6, 48) := by kernel_rfl
set_option maxRecDepth 100000 in
set_option maxHeartbeats 8000000 in
theorem stands_c (p : Pla) (A C : Option Addr) (c c2 : Nat) (l : List Qt) (d : List Int) (w : World) (hp : okP p) (hl : l.length ≤ 8) (hld : d.length = l.length) (hq : ∀ q ∈ l, okQ q) (hm : mayQ (begG p) l d)
    (hr : QtR w w.heap.size A l) (hrd : IntsR w w.heap.size C d) :
    Calls Try.prog 38 #[plaV p, .slice A l.length c, .slice C l.length c2] w (RetN (runQ (begG p) l d) l.length w) := by
  obtain ⟨i0, hi, hz0, hz1, hz2⟩ := info_parts Try.infoN
  have HC := Lib.hid (fun W h => CheckOffers_c p A c l W hp hl hq h)
  have HRA := Lib.hid hr
  have HRC := Lib.hid hrd
  have HLD := Lib.hid hld
  have HQ := Lib.hid hq
  have HP := Lib.hid hp
  have HST : Hid (StI p (runQ (begG p) l d) l d 0 (begG p)) := Lib.hid ⟨rfl, rfl, hp.l0, hp.l1, by simp [begG], by simp [begG], by simp [begG], by simp [begG], hm, rfl⟩
  have hne : ((l.length : Int) != (l.length : Int)) = false := by simp
  obtain ⟨F, hF⟩ : ∃ F, F = runQ (begG p) l d := ⟨_, rfl⟩
  rw [← hF] at HST ⊢
  obtain ⟨b, hb0⟩ : ∃ b, b = begG p := ⟨_, rfl⟩
  rw [← hb0] at HST
  have HBG := Lib.hid (fun W => hb0 ▸ begin_c p W)
  have HEZ := Lib.hid (show firstErr [0, whn false 2] = 0 from rfl)
  clear hr hrd hld hq hp hm hF hb0
  unfold plaV at HC HBG ⊢
  go_enter Try.func38, Try.ntmps38
  go_wp2_with (first | (go_at_call 35; refine (HC.out _ (rw_to HRA.out (by (repeat first | (with_reducible first | assumption | exact Below.refl _ _ | refine Bl.drew ?_ | refine Bl.drewN ?_ _ | refine Bl.alloc ?_ _ | refine Bl.set ?_ _ ?_) | (with_reducible apply Bl.step'; (focus (with_reducible assumption))) | omega | (focus (simp; done)) | (focus (simp; omega)))))).mono ?_; rintro e w1 ⟨rfl, hb1⟩; (have kp : w1.heap[w.heap.size]? = some (.cells #[.int .i64 p.st, .int .i64 p.lv, .int .i64 p.mo] 51 (0, 0)) := blk_step hb1 (heap_alloc_new w _)); (obtain ⟨p0, pf0, p1, pf1, p2, pf2⟩ := cv3 kp); (have hpl := blk_lt kp)) | (go_at_call 45; refine (gwhen_c _ _ _).mono ?_; rintro e w' ⟨rfl, rfl⟩) | (go_at_call 39; refine (gfirst_c _ [0, whn false 2] _ ?_ ?_).mono ?_; (focus simp); (focus simp [CellsAt]); rintro e w' ⟨rfl, rfl⟩; rw [HEZ.out]) | (go_at_call 56; refine (HBG.out _).mono ?_; rintro e w2 ⟨rfl, hb2⟩; unfold sndV))
  obtain ⟨g, hg⟩ : ∃ g, g = w2.heap.size := ⟨_, rfl⟩
  obtain ⟨W0, hW0⟩ : ∃ W0, W0 = (w2.alloc (.cells (cellsN b) 110)).alloc (.cells (cellsN b) 110) := ⟨_, rfl⟩
  have hbw2 : Below w.heap.size w w2 := by (repeat first | (with_reducible first | assumption | exact Below.refl _ _ | refine Bl.drew ?_ | refine Bl.drewN ?_ _ | refine Bl.alloc ?_ _ | refine Bl.set ?_ _ ?_) | (with_reducible apply Bl.step'; (focus (with_reducible assumption))) | omega | (focus (simp; done)) | (focus (simp; omega)))
  have hk2 : w2.heap[w.heap.size]? = some (.cells #[.int .i64 p.st, .int .i64 p.lv, .int .i64 p.mo] 51 (0, 0)) := blk_step hb2 (blk_alloc kp)
  have hn2 := blk_lt hk2
  have hbW : Below w.heap.size w W0 := by rw [hW0]; (repeat first | (with_reducible first | assumption | exact Below.refl _ _ | refine Bl.drew ?_ | refine Bl.drewN ?_ _ | refine Bl.alloc ?_ _ | refine Bl.set ?_ _ ?_) | (with_reducible apply Bl.step'; (focus (with_reducible assumption))) | omega | (focus (simp; done)) | (focus (simp; omega)))
  have kn : W0.heap[w.heap.size]? = some (.cells #[.int .i64 p.st, .int .i64 p.lv, .int .i64 p.mo] 51 (0, 0)) := by rw [hW0]; exact blk_alloc (blk_alloc hk2)
  have kg : W0.heap[g]? = some (.cells (cellsN b) 110 (0, 0)) := by rw [hW0, hg]; exact blk_alloc (heap_alloc_new _ _)
  have ko : OwnR 110 6 W0 (g + 1) (.slice (some ⟨g + 1, 0, none⟩) 1 1) [encN b] := by
    rw [hW0]; exact OwnR.one (cur := cellsN b) (Nat.le_refl _) (blk_new (by rw [hg]; simp)) rfl
  have hng : w.heap.size < g := by omega
  show Code.wp _ _ _ _ ((w2.alloc (.cells (cellsN b) 110)).alloc (.cells (cellsN b) 110))
  rw [← hW0, ← hg]
  clear hW0 hg hb1 hb2 kp p0 pf0 p1 pf1 p2 pf2 hpl hbw2 hk2 hn2
  go_loopw [10, 34] (fun v i wr => ∃ (k : Nat) (s : Snd) (ss : List Snd), k ≤ l.length ∧ i = .int .i64 k ∧ ss.length = k + 1 ∧ ss[k]? = some s ∧ OwnR 110 6 wr (g + 1) v (ss.map encN) ∧ wr.heap[w.heap.size]? = some (.cells #[.int .i64 p.st, .int .i64 p.lv, .int .i64 p.mo] 51 (0, 0)) ∧ wr.heap[g]? = some (.cells (cellsN s) 110 (0, 0)) ∧ Below w.heap.size w wr ∧ Hid (StI p F l d k s)) (fun _ i _ => l.length - (intOf i).toNat)
  case atStart => exact ⟨0, b, [b], Nat.zero_le _, rfl, rfl, rfl, ko, kn, kg, hbW, HST⟩
  case round =>
    obtain ⟨k, s, ss, hk, rfl, hsl, hsk, hown, hkn, hkg, hb, hst⟩ := hrel
    clear ko kn kg hbW
    by_cases hlt : k < l.length
    · have hgl := blk_lt hkg
      have hnl := blk_lt hkn
      have hbs := hb.size
      obtain ⟨n0, nf0, n1, nf1, n2, nf2⟩ := cv3 hkn
      obtain ⟨a0, af0, a1, af1, a2, af2, a3, af3, a4, af4, a5, af5⟩ := cv6 hkg
      obtain ⟨b1, off, hA, hbl, c0, c1⟩ := ((show Rw wr w.heap.size 2 A (l.map encQ) from Rw.belowB (w0 := w) HRA.out hb (Nat.le_refl _)).more hbs).get2 (k := k) (by simpa using hlt) (by rw [List.getElem_map]; rfl)
      obtain ⟨b2, off2, hC, hbl2, g0⟩ := IntsR.get (k := k) ((show IntsR wr w.heap.size C d from Rw.belowB (w0 := w) HRC.out hb (Nat.le_refl _)).more hbs) (by rw [HLD.out]; exact hlt)
      have hlt2 : k < d.length := by rw [HLD.out]; exact hlt
      obtain ⟨x0, x1, x2, hst2⟩ := hst.out.step HP.out hlt hlt2 (HQ.out _ (List.getElem_mem hlt))
      have hbd := hst.out.bd HP.out (by omega)
      obtain ⟨q, hq⟩ : ∃ q, q = l[k] := ⟨_, rfl⟩
      obtain ⟨x, hx⟩ : ∃ x, x = d[k] := ⟨_, rfl⟩
      have hqo : okQ q := by rw [hq]; exact HQ.out _ (List.getElem_mem hlt)
      rw [← hq] at c0 c1 x2 hst2
      rw [← hx] at g0 x0 x1 x2 hst2
      have hmo : s.mo = p.mo := hst.out.mo
      have hpm := HP.out.m1
      obtain ⟨CN, hCN⟩ : ∃ CN, CN = canG s q := ⟨_, rfl⟩
      have hgt : decide (CN < x) = false := decide_eq_false (by omega)
      have hfe : firstErr [rng x 0 p.mo, whn false 16] = 0 := by rw [rng_ok x0 (by omega)]; rfl
      have HCA := Lib.hid (fun W => hCN ▸ can_c s q W hbd hqo)
      have HAF := Lib.hid (fun W => after_c s q x W hbd hqo x0 (by omega))
      unfold sndV qtV at HCA HAF
      have HFE := Lib.hid hfe
      have HS2 := Lib.hid hst2
      have HB := Lib.hid hb
      have HKN := Lib.hid hkn
      have HKG := Lib.hid hkg
      have HSL := Lib.hid hsl
      have HAA := Lib.hid hA
      have HCC := Lib.hid hC
      have HOW := Lib.hid hown
      have HSK := Lib.hid hsk
      clear hst2 hbd hq hx hqo hCN hfe hb hkn hkg hsl hsk x2 hmo hpm hown hst
      rw [hA, hC]
      clear hA hC
      go_wp2_with fail
      go_region_held3 (fun W => (wr.alloc (.cells #[.int .i64 q.p, .int .i64 q.h] 77)).heap.size ≤ W.heap.size ∧ (∀ b o, b < (wr.alloc (.cells #[.int .i64 q.p, .int .i64 q.h] 77)).heap.size → W.cell? ⟨b, o, none⟩ = (wr.alloc (.cells #[.int .i64 q.p, .int .i64 q.h] 77)).cell? ⟨b, o, none⟩) ∧ (∀ b, b < (wr.alloc (.cells #[.int .i64 q.p, .int .i64 q.h] 77)).heap.size → W.heap[b]? = (wr.alloc (.cells #[.int .i64 q.p, .int .i64 q.h] 77)).heap[b]?)) ((refine Sh.goal ?_; repeat first | (with_reducible first | assumption | exact Sh.refl _ | refine Sh.drew ?_ | refine Sh.alloc ?_ _ | refine Sh.set ?_ _ ?_) | (with_reducible apply Sh.below'; (focus (with_reducible assumption))) | omega | (focus (simp; done)) | (focus (simp; omega)))) (first | (go_at_call 42; refine (gwithin_c _ _ _ _).mono ?_; rintro e w' ⟨rfl, rfl⟩) | (go_at_call 45; refine (gwhen_c _ _ _).mono ?_; rintro e w' ⟨rfl, rfl⟩) | (go_at_call 53; refine (HCA.out _).mono ?_; rintro e w3 ⟨rfl, hb3⟩) | (go_at_call 39; refine (gfirst_c _ [rng x 0 p.mo, whn false 16] _ ?_ ?_).mono ?_; (focus simp); (focus simp [CellsAt]); rintro e w' ⟨rfl, rfl⟩; rw [HFE.out]))
      all_goals
        rename_i hHeld
        clear hHeld
        have hal : Below wr.heap.size wr w3 := (show Below wr.heap.size wr (wr.alloc (.cells #[.int .i64 q.p, .int .i64 q.h] 77)).drew by (repeat first | (with_reducible first | assumption | exact Below.refl _ _ | refine Bl.drew ?_ | refine Bl.drewN ?_ _ | refine Bl.alloc ?_ _ | refine Bl.set ?_ _ ?_) | (with_reducible apply Bl.step'; (focus (with_reducible assumption))) | omega | (focus (simp; done)) | (focus (simp; omega)))).trans (hb3.mono (by simp))
        have kq3 : w3.heap[wr.heap.size]? = some (.cells #[.int .i64 q.p, .int .i64 q.h] 77 (0, 0)) := blk_step hb3 (blk_drew (heap_alloc_new wr _))
        obtain ⟨W3, hW3⟩ : ∃ W3, W3 = w3.alloc (.cells #[.int .i64 (rng x 0 p.mo), .int .i64 (whn false 16)] 35) := ⟨_, rfl⟩
        rw [← hW3]
        have hal3 : Below wr.heap.size wr W3 := by rw [hW3]; exact hal.alloc hal.size _
        have kq : W3.heap[wr.heap.size]? = some (.cells #[.int .i64 q.p, .int .i64 q.h] 77 (0, 0)) := by rw [hW3]; exact blk_alloc kq3
        have kg : W3.heap[g]? = some (.cells (cellsN s) 110 (0, 0)) := (hal3.block _ hgl).trans HKG.out
        have gd : W3.cell? ⟨b2, off2 + k, none⟩ = some (.int .i64 x) := (hal3.cell (p := ⟨b2, off2 + k, none⟩) hbl2).trans g0
        obtain ⟨q0, qf0, q1, qf1⟩ := cv2 kq
        obtain ⟨s0, sf0, s1, sf1, s2, sf2, s3, sf3, s4, sf4, s5, sf5⟩ := cv6 kg
        have hql := blk_lt kq
        have hgl3 := blk_lt kg
        have hbl3 : b2 < W3.heap.size := Nat.lt_of_lt_of_le hbl2 hal3.size
        have HKQ := Lib.hid kq
        have HG3 := Lib.hid kg
        have HAL := Lib.hid hal3
        clear hW3 hal kq3 hal3 kq kg hb3 a0 af0 a1 af1 a2 af2 a3 af3 a4 af4 a5 af5 c0 c1 g0 n0 nf0 n1 nf1 n2 nf2
        go_wp2_with fail
        go_region_with (go_at_call 54; refine (HAF.out _).mono ?_; rintro e w4 ⟨rfl, hb4⟩; (obtain ⟨t0, tf0, t1, tf1, t2, tf2, t3, tf3, t4, tf4, t5, tf5⟩ := cv6 (blk_step hb4 HG3.out)))
        all_goals
          have hal3 := HAL.out
          have hal4 : Below wr.heap.size wr w4 := by (repeat first | (with_reducible first | assumption | exact Below.refl _ _ | refine Bl.drew ?_ | refine Bl.drewN ?_ _ | refine Bl.alloc ?_ _ | refine Bl.set ?_ _ ?_) | (with_reducible apply Bl.step'; (focus (with_reducible assumption))) | omega | (focus (simp; done)) | (focus (simp; omega)))
          obtain ⟨S2, hS2⟩ : ∃ S2, S2 = aftG s q x := ⟨_, rfl⟩
          rw [← hS2]
          have HS3 := HS2
          rw [← hS2] at HS3
          obtain ⟨W5, hW5⟩ : ∃ W5, W5 = ((((((w4.setCell ⟨g, 0, none⟩ (.int .i64 S2.st)).setCell ⟨g, 1, none⟩ (.int .i64 S2.lv)).setCell ⟨g, 2, none⟩ (.int .i64 S2.mo)).setCell ⟨g, 3, none⟩ (.int .i64 S2.t.inc)).setCell ⟨g, 4, none⟩ (.int .i64 S2.t.lft)).setCell ⟨g, 5, none⟩ (.int .i64 S2.t.spl)) := ⟨_, rfl⟩
          rw [← hW5]
          have kg5 : W5.heap[g]? = some (.cells (cellsN S2) 110 (0, 0)) := by rw [hW5]; exact set6_block ((hal4.block _ hgl).trans HKG.out)
          have kn5 : W5.heap[w.heap.size]? = some (.cells #[.int .i64 p.st, .int .i64 p.lv, .int .i64 p.mo] 51 (0, 0)) := by rw [hW5, set6_other _ _ _ _ _ _ (Nat.ne_of_lt hng)]; exact (hal4.block _ hnl).trans HKN.out
          have hb5 : Below w.heap.size w W5 := by rw [hW5]; exact below_set6 (HB.out.trans (hal4.mono hbs)) (Nat.le_of_lt hng) _ _ _ _ _ _
          have hz5 : Below 0 wr W5 := by rw [hW5]; exact below_set6 (hal4.mono (Nat.zero_le _)) (Nat.zero_le g) _ _ _ _ _ _
          have own5 : OwnR 110 6 W5 (g + 1) u10 (ss.map encN) := HOW.out.keep (Nat.lt_succ_self g) hz5.size (fun b hb hne => by rw [hW5, set6_other _ _ _ _ _ _ hne]; exact hal4.block _ hb) hz5.os hz5.tape hz5.output
          have hg5 := blk_lt kg5
          have hn5 := blk_lt kn5
          obtain ⟨r0, rf0, r1, rf1, r2, rf2, r3, rf3, r4, rf4, r5, rf5⟩ := cv6 kg5
          have HKG5 := Lib.hid kg5
          have HKN5 := Lib.hid kn5
          have HB5 := Lib.hid hb5
          have hssl : ss.length ≤ 9 := by rw [HSL.out]; omega
          clear hW5 hz5 hal3 hal4 hS2 hb4 t0 tf0 t1 tf1 t2 tf2 t3 tf3 t4 tf4 t5 tf5 s0 sf0 s1 sf1 s2 sf2 s3 sf3 s4 sf4 s5 sf5 q0 qf0 q1 qf1 gd kg5 kn5 hb5
          go_wp2_with (at_builtin; refine wpList_append_own _ rfl _ _ 106 rfl (g + 1) 110 i0 (.agg #[.int .i64 0, .int .i64 0, .int .i64 0, .int .i64 0, .int .i64 0, .int .i64 0]) 6 48 Try.underlying106 hi hz0 hz1 hz2 rfl (by decide) _ _ _ rfl (own5.alloc _) ⟨W5.heap.size, 0, none⟩ 1 1 (encN S2) rfl rfl ?c1 ?c2 ?c3 ?c4 ?c5 ?_)
          case c1 => exact encN_at (heap_alloc_new W5 (.cells (cellsN S2) 110))
          case c2 => exact encN_one _
          case c3 => unfold maxLen; simp; omega
          case c4 => simp; omega
          case c5 => simp; omega
          intro v' w6 hown' hgrow _
          have ha : ∀ {b : Nat} {c : Obj}, b ≤ g → W5.heap[b]? = some c → w6.heap[b]? = some c := fun {b c} hbg h => (gr_block hgrow (by simp; have := blk_lt h; omega) fun e => by have := (World.ownsRow.lt own5 _ e).1; omega).trans (blk_alloc h)
          have kn6 := ha (Nat.le_of_lt hng) HKN5.out
          have kg6 := ha (Nat.le_refl _) HKG5.out
          have hb6 : Below w.heap.size w w6 := Below.grown (HB5.out.alloc HB5.out.size _) hgrow (by simp; omega) (fun j e => by have := (World.ownsRow.lt own5 _ e).1; omega)
          have HKN6 := Lib.hid kn6
          have HKG6 := Lib.hid kg6
          have HB6 := Lib.hid hb6
          clear ha kn6 kg6 hb6 hgrow r0 rf0 r1 rf1 r2 rf2 r3 rf3 r4 rf4 r5 rf5 own5
          go_wp2_with fail
          go_roundw
          case rel =>
            refine ⟨k + 1, S2, ss ++ [S2], hlt, by go_num, by simp [HSL.out], ?_, ?_, HKN6.out, HKG6.out, HB6.out, HS3⟩
            · rw [List.getElem?_append_right (by rw [HSL.out]; omega), HSL.out]; simp
            · rw [List.map_append]; exact OwnR.app (by rw [List.length_map]; exact hown')
          case measure => simp [intOf]; omega
    · obtain rfl : k = l.length := by omega
      go_wp2_with fail
      obtain ⟨A2, cc, rfl, hlc, hrw⟩ := hown.rw_ encN_len
      go_ret2
      refine ⟨A2, cc, ss, ?_, hsl, ?_, hrw, hb⟩
      · show Ending.returned (.tuple #[.slice A2 (ss.map encN).length cc, .int .i64 0]) = _
        rw [List.length_map, hsl]
      · have h1 := hst.out.run
        rw [List.drop_length, List.drop_eq_nil_of_le (by rw [HLD.out]; exact Nat.le_refl _)] at h1
        rw [hsk, ← h1]; rfl
end Go.Proofs.Ytgljpjcclncknaa

/- Dispatch: the best units, and what they result in. -/
import Derived.Test.YtgljpjcclncknaaDi0
import Derived.Test.YtgljpjcclncknaaFr2
namespace Go.Proofs.Ytgljpjcclncknaa
open Go.RowKit

def RetDi (p : Pla) (l : List Qt) (w : World) (e : Ending) (w' : World) : Prop :=
  ∃ v, e = .returned (.tuple #[v, tlV (fromG p.st p.mo l p.lv).t, .int .i64 0]) ∧ OwnI w' w.heap.size v (fromG p.st p.mo l p.lv).u ∧ Below w.heap.size w w'
theorem grown_new {w W w' : World} {r : Nat} (h : Below w.heap.size w W) (hr : w.heap.size ≤ r) (hg : W.grownBy w' (some r)) : Below w.heap.size w w' :=
  Below.grown h hg h.size (fun j e => by cases e; exact hr)
theorem Try.resDi {fn : Func} {a t e : Tmp} (h : fn.results = #[.tmp a, .cell t 48, .tmp e]) (tmps : Array Value) (w : World) {b : Nat} {T : TypeId} {v0 v1 v2 : Value} (ht : tmps.getD t undef = .pointer (some ⟨b, 0, none⟩)) (hb : w.heap[b]? = some (.cells #[v0, v1, v2] T (0, 0))) :
    (results fn tmps).run Try.prog w = .ok (.tuple #[tmps.getD a undef, .agg #[v0, v1, v2], tmps.getD e undef]) w := by
  have c0 : w.cell? ⟨b, 0, none⟩ = some v0 := by rw [cell_of_row w _ 0 _ _ _ hb]; rfl
  have c1 : w.cell? ⟨b, 1, none⟩ = some v1 := by rw [cell_of_row w _ 1 _ _ _ hb]; rfl
  have c2 : w.cell? ⟨b, 2, none⟩ = some v2 := by rw [cell_of_row w _ 2 _ _ _ hb]; rfl
  rw [Array.getD_eq_getD_getElem?] at ht
  simp only [results, h]
  simp [go_sem, ht, c0, c1, c2]
theorem OwnI.keepB {w w' : World} {base g : Nat} {v : Value} {xs : List Int} (h : OwnI w base v xs) (hg : w.grownBy w' (some g)) (hb : g < base) : OwnI w' base v xs :=
  World.ownsRow.kept h hg (by
    rcases hv : v.ownBlock with _ | k
    · exact .inl rfl
    · exact .inr fun e => h.ne hb (by rw [hv]; exact e.symm))
theorem grown_set3 (W : World) (b : Nat) (v0 v1 v2 : Value) : W.grownBy (((W.setCell ⟨b, 0, none⟩ v0).setCell ⟨b, 1, none⟩ v1).setCell ⟨b, 2, none⟩ v2) (some b) := by
  have h : Below 0 W (((W.setCell ⟨b, 0, none⟩ v0).setCell ⟨b, 1, none⟩ v1).setCell ⟨b, 2, none⟩ v2) := Below.set3 (Below.refl 0 W) (Nat.zero_le _) _ _ _
  refine ⟨h.os, h.tape, h.output, h.size, fun k _ hne => ?_⟩
  have hkb : k ≠ b := fun e => hne (by rw [e])
  rw [heap_setCell_other _ _ _ _ hkb, heap_setCell_other _ _ _ _ hkb, heap_setCell_other _ _ _ _ hkb]
/-- The contract of the search. -/
def FromC (p : Pla) (l : List Qt) : Prop := ∀ (A : Option Addr) (c r : Nat) (W : World), QtR W W.heap.size A l → KnM p.st p.mo l W r →
  Calls Try.prog 36 #[skV p.st p.mo p.lv A l.length c r, keyP ((0 : Int), p.lv)] W (RetF p.st p.mo l r 0 p.lv W)
set_option maxRecDepth 100000 in
set_option maxHeartbeats 4000000 in
theorem Dispatch_c0 (p : Pla) (A : Option Addr) (c : Nat) (l : List Qt) (w : World) (hp : okP p) (hl : l.length ≤ 8) (hq : ∀ q ∈ l, okQ q) (hr : QtR w w.heap.size A l) (hfrom : FromC p l) :
    Calls Try.prog 12 #[plaV p, .slice A l.length c] w (RetDi p l w) := by
  have HC := Lib.hid (fun W h => CheckOffers_c p A c l W hp hl hq h)
  obtain ⟨s0, s1, l0, l1, m0, m1⟩ := hp
  have HF := Lib.hid (hfrom A c)
  obtain ⟨fl, _⟩ := fromG_ok p.st p.mo s0 m0 l hq p.lv l0 l1
  have HR := Lib.hid hr
  have HL := Lib.hid fl
  clear hr hq fl hfrom
  unfold plaV at HC ⊢
  go_enter Try.func12, Try.ntmps12
  go_wp2_with fail
  refine (HC.out _ (rw_to HR.out (by (repeat first | (with_reducible first | assumption | exact Below.refl _ _ | refine Bl.drew ?_ | refine Bl.drewN ?_ _ | refine Bl.alloc ?_ _ | refine Bl.set ?_ _ ?_) | (with_reducible apply Bl.step'; (focus (with_reducible assumption))) | omega | (focus (simp; done)) | (focus (simp; omega)))))).mono ?_
  rintro e w1 ⟨rfl, hb1⟩
  obtain ⟨p0, pf0, p1, pf1, p2, pf2⟩ := cv3 (blk_step hb1 (blk_alloc (blk_new rfl)))
  have kt : w1.heap[w.heap.size + 1]? = some (.cells #[.int .i64 0, .int .i64 0, .int .i64 0] 48 (0, 0)) := blk_step hb1 (blk_new (by simp))
  have htl := blk_lt kt
  have hb : Below w.heap.size w w1 := by (repeat first | (with_reducible first | assumption | exact Below.refl _ _ | refine Bl.drew ?_ | refine Bl.drewN ?_ _ | refine Bl.alloc ?_ _ | refine Bl.set ?_ _ ?_) | (with_reducible apply Bl.step'; (focus (with_reducible assumption))) | omega | (focus (simp; done)) | (focus (simp; omega)))
  have HT := Lib.hid kt
  have HB := Lib.hid hb
  have hpl : w.heap.size < w1.heap.size := by omega
  have hmm := @run_makeMap Try.prog
  clear kt hb hb1
  go_wp2_with fail
  clear hmm
  obtain ⟨W2, hW2⟩ : ∃ W2, W2 = w1.alloc (.map #[] 0) := ⟨_, rfl⟩
  have hm2 : MapP W2 w1.heap.size [] := by rw [hW2]; exact MapP.new w1
  have hk2 : KnM p.st p.mo l W2 w1.heap.size := ⟨[], hm2, fun k v h => by cases h⟩
  have hb2 : Below w.heap.size w W2 := by rw [hW2]; exact HB.out.alloc HB.out.size _
  have kt2 : W2.heap[w.heap.size + 1]? = some (.cells #[.int .i64 0, .int .i64 0, .int .i64 0] 48 (0, 0)) := by rw [hW2]; exact blk_alloc HT.out
  rw [← hW2]
  have hs2 : W2.heap.size = w1.heap.size + 1 := by rw [hW2]; simp
  clear hW2 p0 pf0 p1 pf1 p2 pf2 hm2
  refine (HF.out _ W2 (rw_to HR.out hb2) hk2).mono ?_
  rintro e w3 ⟨A3, c3, rfl, hu3, hg3, _⟩
  rw [List.drop_zero] at hu3 ⊢
  have hb3 : Below w.heap.size w w3 := grown_new hb2 (by omega) hg3
  have kt3 : w3.heap[w.heap.size + 1]? = _ := (hg3.block _ (blk_lt kt2) (fun e => by injection e with e; omega)).trans kt2
  obtain ⟨b, hbb⟩ : ∃ b, b = fromG p.st p.mo l p.lv := ⟨_, rfl⟩
  unfold RetDi
  rw [← hbb] at hu3 ⊢
  have hbl : b.u.length ≤ 1000 := by rw [hbb, HL.out]; omega
  have HU := Lib.hid hu3
  have HB3 := Lib.hid hb3
  have HK3 := Lib.hid kt3
  have HBB := Lib.hid hbb
  clear hbb hu3 hb3 kt3 kt2 hg3 hk2 hb2 hs2
  unfold encB
  go_wp2_with fail
  obtain ⟨W4, hW4⟩ : ∃ W4, W4 = w3.alloc (.cells #[.slice A3 b.u.length c3, .int .i64 b.t.inc, .int .i64 b.t.lft, .int .i64 b.t.spl] 98) := ⟨_, rfl⟩
  have hb4 : Below w3.heap.size w3 W4 := by rw [hW4]; exact (Below.refl _ w3).alloc (Nat.le_refl _) _
  have kb4 : W4.heap[w3.heap.size]? = some (.cells #[.slice A3 b.u.length c3, .int .i64 b.t.inc, .int .i64 b.t.lft, .int .i64 b.t.spl] 98 (0, 0)) := by rw [hW4]; exact blk_new rfl
  have kt4 := blk_step hb4 HK3.out
  have hu4 : IntsR W4 W4.heap.size A3 b.u := ((HU.out.below hb4).2.1)
  rw [← hW4]
  have HC2 := Lib.hid (fun (W : World) (h : Below W4.heap.size W4 W) => clone_c W.heap.size A3 c3 b.u W hbl (rw_to hu4 h))
  have HB4 := Lib.hid (HB3.out.trans (hb4.mono HB3.out.size))
  have HKT := Lib.hid kt4
  have HKB := Lib.hid kb4
  obtain ⟨b0, bf0, b1, bf1, b2, bf2, b3, bf3⟩ := cv4 kb4
  obtain ⟨t0, tf0, t1, tf1, t2, tf2⟩ := cv3 kt4
  have hbl4 := blk_lt kb4
  have htl4 := blk_lt kt4
  clear hW4 hb4 kb4 kt4 hu4
  go_region_with (go_at_call 37; refine (HC2.out _ (by (repeat first | (with_reducible first | assumption | exact Below.refl _ _ | refine Bl.drew ?_ | refine Bl.drewN ?_ _ | refine Bl.alloc ?_ _ | refine Bl.set ?_ _ ?_) | (with_reducible apply Bl.step'; (focus (with_reducible assumption))) | omega | (focus (simp; done)) | (focus (simp; omega))))).mono ?_; rintro e w5 ⟨v5, rfl, hown5, hb5⟩; (obtain ⟨x0, xf0, x1, xf1, x2, xf2⟩ := cv3 (blk_step hb5 HKT.out)); (obtain ⟨y0, yf0, y1, yf1, y2, yf2, y3, yf3⟩ := cv4 (blk_step hb5 HKB.out)))
  all_goals
    have hb45 : Below W4.heap.size W4 w5 := by (repeat first | (with_reducible first | assumption | exact Below.refl _ _ | refine Bl.drew ?_ | refine Bl.drewN ?_ _ | refine Bl.alloc ?_ _ | refine Bl.set ?_ _ ?_) | (with_reducible apply Bl.step'; (focus (with_reducible assumption))) | omega | (focus (simp; done)) | (focus (simp; omega)))
    have hb6 : Below w.heap.size w w5 := HB4.out.trans (hb45.mono HB4.out.size)
    have kt6 := blk_step hb45 HKT.out
    have ho6 : OwnI w5 W4.heap.size v5 b.u := hown5
    have hs6 := hb6.size
    have hs45 := hb45.size
    have hs4 := HB4.out.size
    have HBW := Lib.hid hb6
    have HKW := Lib.hid kt6
    have HOW := Lib.hid ho6
    clear hb6 kt6 ho6 hown5 hb5 hb45 x0 xf0 x1 xf1 x2 xf2 y0 yf0 y1 yf1 y2 yf2 y3 yf3 b0 bf0 b1 bf1 b2 bf2 b3 bf3 t0 tf0 t1 tf1 t2 tf2
    go_wp2_with fail
    refine bodyPost_ret (Try.resDi rfl _ _ rfl (set3_block HKW.out)) rfl ⟨v5, ?_, ?_, Below.set3 HBW.out (Nat.le_succ _) _ _ _⟩
    focus first | rfl | (rw [← HBB.out]; rfl)
    (try rw [← HBB.out])
    exact (HOW.out.keepB (grown_set3 _ _ _ _ _) htl4).mono (Nat.le_of_lt (Nat.lt_of_succ_lt htl4))
end Go.Proofs.Ytgljpjcclncknaa

/- The fixed example. -/
import Derived.Test.YtgljpjcclncknaaDi2
import Derived.Test.YtgljpjcclncknaaTh3
import Derived.Test.YtgljpjcclncknaaAp
namespace Go.Proofs.Ytgljpjcclncknaa
open Go.RowKit

theorem sale_okT : okT 100 [⟨10, 5000⟩] := by
  refine ⟨by omega, by omega, by simp, ?_, trivial, by decide, by decide⟩
  intro x hx
  simp only [List.mem_singleton] at hx
  subst hx
  exact ⟨by decide, by decide⟩
theorem sale_H : drawH [⟨10, 5000⟩] 5 true = 2500 := by decide
theorem sale_D : fromG 0 3 [⟨7, 2⟩] 0 = ⟨[2], ⟨14, 0, 0⟩⟩ := by rfl
theorem Rw.one2 {w : World} {B b : Nat} {T : TypeId} {v0 v1 : Value} (h : w.heap[b]? = some (.cells #[v0, v1] T (0, 0))) (hB : b < B) : Rw w B 2 (some ⟨b, 0, none⟩) [[v0, v1]] := fun _ => by
  refine ⟨b, 0, rfl, hB, fun k hk j v hv => ?_⟩
  obtain rfl : k = 0 := by simpa using hk
  obtain ⟨c0, _, c1, _⟩ := cv2 h
  match j, hv with
  | 0, hv => simpa using c0.trans (by simpa using hv)
  | 1, hv => simpa using c1.trans (by simpa using hv)
theorem IntsR.one {w : World} {B b : Nat} {T : TypeId} {x : Int} (h : w.heap[b]? = some (.cells #[.int .i64 x] T (0, 0))) (hB : b < B) : IntsR w B (some ⟨b, 0, none⟩) [x] := fun _ => by
  refine ⟨b, 0, rfl, hB, fun k hk j v hv => ?_⟩
  obtain rfl : k = 0 := by simpa using hk
  obtain ⟨c0, _⟩ := cv1 h
  match j, hv with
  | 0, hv => simpa using c0.trans (by simpa using hv)
def RetSl (w : World) (e : Ending) (w' : World) : Prop := e = .returned (.bool true) ∧ Below w.heap.size w w'
set_option maxRecDepth 100000 in
set_option maxHeartbeats 4000000 in
theorem thistleSale_c (w : World) : Calls Try.prog 5 #[] w (RetSl w) := by
  have HD1 := Lib.hid (fun (A : Option Addr) (W : World) (h : Rw W W.heap.size 2 A ([⟨10, 5000⟩].map encL)) => Drawn_yes 100 A 1 [⟨10, 5000⟩] 5 true W sale_okT (by omega) (by omega) (by decide) h)
  obtain ⟨hT1, hT2, _, _⟩ := drawT_ok true sale_okT (m := 5) (by omega)
  unfold RetDr at HD1
  rw [sale_H] at hT2 HD1
  obtain ⟨DT, hDT⟩ : ∃ DT, DT = drawT [⟨10, 5000⟩] 5 true := ⟨_, rfl⟩
  rw [← hDT] at HD1 hT1 hT2
  have hsum : sumH DT = 2500 := by have e : sumH [⟨10, 5000⟩] = 5000 := by decide
                                   omega
  have hdl := hT1.len
  have HE := Lib.hid (fun (A : Option Addr) (c : Nat) (W : World) (h : Rw W W.heap.size 2 A (DT.map encL)) => hsum ▸ Enthalpy_c 100 A c DT W hT1 h)
  have HDI := Lib.hid (show ∀ (A : Option Addr) (W : World), Rw W W.heap.size 2 A [[.int .i64 7, .int .i64 2]] → Calls Try.prog 12 #[.agg #[.int .i64 0, .int .i64 0, .int .i64 3], .slice A 1 1] W (fun e w' => ∃ A c, e = .returned (.tuple #[.slice A 1 c, .agg #[.int .i64 14, .int .i64 0, .int .i64 0], .int .i64 0]) ∧ IntsR w' w'.heap.size A [2] ∧ Below W.heap.size W w') from fun A W h => by
    have h1 := Dispatch_c ⟨0, 0, 3⟩ A 1 [⟨7, 2⟩] W ⟨by decide, by decide, by decide, by decide, by decide, by decide⟩ (by decide) (by intro q hq; simp only [List.mem_singleton] at hq; subst hq; exact ⟨by decide, by decide, by decide, by decide⟩) h
    unfold RetDi at h1
    rw [sale_D] at h1
    refine h1.mono ?_
    rintro e w' ⟨v, rfl, ho, hb⟩
    obtain ⟨A, c, rfl, _, hr⟩ := ho.rw_
    exact ⟨A, c, rfl, hr, hb⟩)
  have HSI := Lib.hid (show ∀ (A A' : Option Addr) (c c' : Nat) (W : World), IntsR W W.heap.size A [2] → IntsR W W.heap.size A' [2] → Calls Try.prog 18 #[.slice A 1 c, .slice A' 1 c'] W (fun e w' => e = .returned (.bool true) ∧ Below W.heap.size W w') from fun A A' c c' W h h' => by
    have h1 := sameInts_c A A' c c' [2] [2] W (by decide) h h'
    rw [show decide (([2] : List Int) = [2]) = true by decide] at h1
    exact h1)
  clear hT1 hT2 hDT hsum
  go_enter Try.func5, Try.ntmps5
  go_wp2_with fail
  refine (HD1.out _ _ (Rw.one2 (blk_new rfl) (by simp))).mono ?_
  rintro e w1 ⟨A1, c1, rfl, hown1, hb1⟩
  have hb1 : Below w.heap.size w w1 := by (repeat first | (with_reducible first | assumption | exact Below.refl _ _ | refine Bl.drew ?_ | refine Bl.drewN ?_ _ | refine Bl.alloc ?_ _ | refine Bl.set ?_ _ ?_) | (with_reducible apply Bl.step'; (focus (with_reducible assumption))) | omega | (focus (simp; done)) | (focus (simp; omega)))
  have HO1 := Lib.hid hown1
  have HB1 := Lib.hid hb1
  have hs1 := hb1.size
  clear hown1 hb1
  go_wp2_with fail
  refine (thistleOwn_c 100 A1 c1 DT _ (by omega) (rw_to HO1.out.row.1 (by (repeat first | (with_reducible first | assumption | exact Below.refl _ _ | refine Bl.drew ?_ | refine Bl.drewN ?_ _ | refine Bl.alloc ?_ _ | refine Bl.set ?_ _ ?_) | (with_reducible apply Bl.step'; (focus (with_reducible assumption))) | omega | (focus (simp; done)) | (focus (simp; omega)))))).mono ?_
  rintro e w2 ⟨A2, c2, rfl, hown2, hb2⟩
  have kt2 : w2.heap[w1.heap.size]? = some (.cells #[.int .i64 100, .slice A1 DT.length c1] 33 (0, 0)) := blk_step hb2 (blk_new rfl)
  have hb2' : Below w.heap.size w w2 := HB1.out.trans (((Below.refl _ w1).alloc (Nat.le_refl _) _ |>.trans (hb2.mono (by simp))).mono hs1)
  have HO2 := Lib.hid hown2
  have HB2 := Lib.hid hb2'
  have hs2 := hb2'.size
  clear hown2 hb2 hb2' kt2
  go_wp2_with fail
  refine (HE.out _ _ _ HO2.out.row.1).mono ?_
  rintro e w3 ⟨rfl, hb3⟩
  have HB3 := Lib.hid (HB2.out.trans (hb3.mono hs2))
  have hs3 := HB3.out.size
  clear hb3
  go_wp2_with fail
  refine (HDI.out _ _ (Rw.one2 (blk_new rfl) (by simp))).mono ?_
  rintro e w4 ⟨A4, c4, rfl, hi4, hb4⟩
  have HB4 := Lib.hid (HB3.out.trans (((Below.refl _ w3).alloc (Nat.le_refl _) _ |>.trans (hb4.mono (by simp))).mono hs3))
  have HI4 := Lib.hid hi4
  have hs4 := HB4.out.size
  clear hi4 hb4
  go_wp2_with fail
  refine (HSI.out A4 _ c4 _ _ (rw_to HI4.out (by (repeat first | (with_reducible first | assumption | exact Below.refl _ _ | refine Bl.drew ?_ | refine Bl.drewN ?_ _ | refine Bl.alloc ?_ _ | refine Bl.set ?_ _ ?_) | (with_reducible apply Bl.step'; (focus (with_reducible assumption))) | omega | (focus (simp; done)) | (focus (simp; omega))))) (IntsR.one (blk_new (by simp)) (by simp))).mono ?_
  rintro e w5 ⟨rfl, hb5⟩
  have kt5 : w5.heap[w4.heap.size]? = some (.cells #[.int .i64 14, .int .i64 0, .int .i64 0] 48 (0, 0)) := blk_step hb5 (blk_alloc (blk_new rfl))
  have hb5' : Below w4.heap.size w4 w5 := by (repeat first | (with_reducible first | assumption | exact Below.refl _ _ | refine Bl.drew ?_ | refine Bl.drewN ?_ _ | refine Bl.alloc ?_ _ | refine Bl.set ?_ _ ?_) | (with_reducible apply Bl.step'; (focus (with_reducible assumption))) | omega | (focus (simp; done)) | (focus (simp; omega)))
  have HB5 := Lib.hid (HB4.out.trans (hb5'.mono hs4))
  obtain ⟨t0, tf0, t1, tf1, t2, tf2⟩ := cv3 kt5
  have htl := blk_lt kt5
  clear hb5 hb5' kt5
  go_wp2_with fail
  go_ret
  exact ⟨rfl, HB5.out⟩
end Go.Proofs.Ytgljpjcclncknaa

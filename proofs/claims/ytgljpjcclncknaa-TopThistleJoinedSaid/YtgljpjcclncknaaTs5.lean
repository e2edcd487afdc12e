/- Enthalpy; the layers that are put together. -/
import Derived.Test.YtgljpjcclncknaaTs4
namespace Go.Proofs.Ytgljpjcclncknaa
open Go.RowKit

theorem Try.fldL0 (v0 v1 : Value) (W : World) : (Instr.field 76 (.agg #[v0, v1]) 0).run Try.prog W = .ok v0 W := by kernel_rfl
theorem Try.fldL1 (v0 v1 : Value) (W : World) : (Instr.field 76 (.agg #[v0, v1]) 1).run Try.prog W = .ok v1 W := by kernel_rfl
set_option maxRecDepth 100000 in
set_option maxHeartbeats 2000000 in
theorem Enthalpy_c (room : Int) (A : Option Addr) (c : Nat) (ls : List Lay) (w : World) (ht : okT room ls) (hr : Rw w w.heap.size 2 A (ls.map encL)) :
    Calls Try.prog 9 #[.agg #[.int .i64 room, .slice A ls.length c]] w fun e w' => e = .returned (.tuple #[.int .i64 (sumH ls), .int .i64 0]) ∧ Below w.heap.size w w' := by
  have HR := Lib.hid hr; clear hr
  have HT := Lib.hid ht
  have hn := ht.len
  clear ht
  have hs := Lib.hid (fun (W : World) (hb : Below w.heap.size w W) => CheckTank_c room A c ls W HT.out ((Rw.belowB (w0 := w) HR.out hb (Nat.le_refl _)).more hb.size))
  have hs2 := Lib.hid (fun (W : World) (hb : Below w.heap.size w W) => sum_c room A c ls W hn (fun x hx => HT.out.bd hx) ((Rw.belowB (w0 := w) HR.out hb (Nat.le_refl _)).more hb.size))
  have hfd := Try.fldL1 (.int .i64 (sumA ls)) (.int .i64 (sumH ls))
  go_enter Try.func9, Try.ntmps9
  go_wp2_with (first | (go_at_call 26; refine (hs.out _ (by (repeat first | (with_reducible first | assumption | exact Below.refl _ _ | refine Bl.drew ?_ | refine Bl.drewN ?_ _ | refine Bl.alloc ?_ _ | refine Bl.set ?_ _ ?_) | (with_reducible apply Bl.step'; (focus (with_reducible assumption))) | omega | (focus (simp; done)) | (focus (simp; omega))))).mono ?_; rintro e w1 ⟨rfl, hb1⟩; (have hw0 : w.heap.size < w1.heap.size := by have := hb1.size; simp at this; omega); (obtain ⟨d0, df0, d1, df1⟩ := cv2 (blk_step hb1 (heap_alloc_new w _)))) | (go_at_call 27; refine (hs2.out _ (by (repeat first | (with_reducible first | assumption | exact Below.refl _ _ | refine Bl.drew ?_ | refine Bl.drewN ?_ _ | refine Bl.alloc ?_ _ | refine Bl.set ?_ _ ?_) | (with_reducible apply Bl.step'; (focus (with_reducible assumption))) | omega | (focus (simp; done)) | (focus (simp; omega))))).mono ?_; rintro e w2 ⟨rfl, hb2⟩))
  go_ret2
  exact ⟨rfl, by (repeat first | (with_reducible first | assumption | exact Below.refl _ _ | refine Bl.drew ?_ | refine Bl.drewN ?_ _ | refine Bl.alloc ?_ _ | refine Bl.set ?_ _ ?_) | (with_reducible apply Bl.step'; (focus (with_reducible assumption))) | omega | (focus (simp; done)) | (focus (simp; omega)))⟩
end Go.Proofs.Ytgljpjcclncknaa

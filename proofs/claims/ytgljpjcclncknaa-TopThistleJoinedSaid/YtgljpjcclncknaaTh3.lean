/- The law's helper: quarter hours. -/
import Derived.Test.YtgljpjcclncknaaTh2
namespace Go.Proofs.Ytgljpjcclncknaa
open Go.RowKit

theorem Try.infoQt : (Try.prog.info? 77).map (fun i => (i.zero, i.size, i.bytes)) = some (some (.agg #[.int .i64 0, .int .i64 0]), 2, 16) := by kernel_rfl
def RetQs (l : List Qt) (w : World) (e : Ending) (w' : World) : Prop := ∃ v, e = .returned v ∧ OwnR 77 2 w' w.heap.size v (l.map encQ) ∧ Below w.heap.size w w'
set_option maxRecDepth 100000 in
set_option maxHeartbeats 4000000 in
theorem thistleQuarters_c (A : Option Addr) (c : Nat) (l : List Qt) (w : World) (hl : l.length ≤ 1000) (hr : QtR w w.heap.size A l) :
    Calls Try.prog 13 #[.slice A l.length c] w (RetQs l w) := by
  obtain ⟨i0, hi, hz0, hz1, hz2⟩ := info_parts Try.infoQt
  have HR := Lib.hid hr
  clear hr
  go_enter Try.func13, Try.ntmps13
  go_wp2_with fail
  go_loopw [3, 8] (fun v i wr => ∃ k : Nat, k ≤ l.length ∧ i = .int .i64 k ∧ OwnR 77 2 wr w.heap.size v ((l.take k).map encQ) ∧ Below w.heap.size w wr) (fun _ i _ => l.length - (intOf i).toNat)
  case atStart => exact ⟨0, Nat.zero_le _, rfl, OwnR.nil_, by (repeat first | (with_reducible first | assumption | exact Below.refl _ _ | refine Bl.drew ?_ | refine Bl.drewN ?_ _ | refine Bl.alloc ?_ _ | refine Bl.set ?_ _ ?_) | (with_reducible apply Bl.step'; (focus (with_reducible assumption))) | omega | (focus (simp; done)) | (focus (simp; omega)))⟩
  case round =>
    obtain ⟨k, hk, rfl, hown, hb⟩ := hrel
    have hbs := hb.size
    have HB := Lib.hid hb
    by_cases hlt : k < l.length
    · obtain ⟨b, off, hA, hbl, c0, c1⟩ := ((show Rw wr w.heap.size 2 A (l.map encQ) from Rw.belowB (w0 := w) HR.out hb (Nat.le_refl _)).more hbs).get2 (k := k) (by simpa using hlt) (by rw [List.getElem_map]; rfl)
      obtain ⟨x, hx⟩ : ∃ x, x = l[k] := ⟨_, rfl⟩
      rw [← hx] at c0 c1
      obtain ⟨L, hL⟩ : ∃ L, L = (l.take k).map encQ := ⟨_, rfl⟩
      have hlk : L.length = k := by rw [hL, List.length_map, List.length_take]; omega
      have HTK := Lib.hid (show (l.take (k + 1)).map encQ = L ++ [encQ x] by rw [hL, hx, List.take_succ_eq_append_getElem hlt, List.map_append]; rfl)
      rw [← hL] at hown
      have HLK := Lib.hid hlk
      clear hx hL hb
      rw [hA]
      go_wp2_with (at_builtin; refine wpList_append_own _ rfl _ _ 52 rfl w.heap.size 77 i0 (.agg #[.int .i64 0, .int .i64 0]) 2 16 Try.underlying52 hi hz0 hz1 hz2 rfl (by decide) _ _ _ rfl ((hown.alloc _).alloc _) ⟨wr.heap.size + 1, 0, none⟩ 1 1 (encQ x) rfl rfl ?c1 ?c2 ?c3 ?c4 ?c5 ?_)
      case c1 => exact encS_at (x := (x.p, x.h)) (blk_new (by simp))
      case c2 => exact encS_one (x.p, x.h)
      case c3 => unfold maxLen; omega
      case c4 => omega
      case c5 => simp; omega
      intro v' w4 hown' hgrow _
      have hb4 : Below w.heap.size w w4 := Below.grown ((HB.out.alloc HB.out.size _).alloc (by simp; omega) _) hgrow (by simp; omega) (fun j e => (World.ownsRow.lt hown j e).1)
      have HB4 := Lib.hid hb4
      clear hgrow hb4
      go_wp2_with fail
      go_roundw
      case rel => exact ⟨k + 1, hlt, by go_num, by rw [HTK.out]; exact OwnR.app (by rw [HLK.out]; exact hown'), HB4.out⟩
      case measure => simp [intOf]; omega
    · obtain rfl : k = l.length := by omega
      rw [List.take_length] at hown
      clear hb
      go_wp2_with fail
      go_ret
      exact ⟨_, rfl, hown, HB.out⟩
end Go.Proofs.Ytgljpjcclncknaa

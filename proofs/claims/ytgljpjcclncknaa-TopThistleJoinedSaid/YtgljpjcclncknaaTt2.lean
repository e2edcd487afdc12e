/- Drawn where more is asked for than is there. -/
import Derived.Test.YtgljpjcclncknaaTt1
namespace Go.Proofs.Ytgljpjcclncknaa
open Go.RowKit

theorem Try.resTank {fn : Func} {t u v : Tmp} (h : fn.results = #[.cell t 33, .tmp u, .tmp v]) (tmps : Array Value) (w : World) {b : Nat} {T : TypeId} {v0 v1 : Value} (ht : tmps.getD t undef = .pointer (some ⟨b, 0, none⟩)) (hb : w.heap[b]? = some (.cells #[v0, v1] T (0, 0))) :
    (results fn tmps).run Try.prog w = .ok (.tuple #[.agg #[v0, v1], tmps.getD u undef, tmps.getD v undef]) w := by
  have c0 : w.cell? ⟨b, 0, none⟩ = some v0 := by rw [cell_of_row w _ 0 _ _ _ hb]; rfl
  have c1 : w.cell? ⟨b, 1, none⟩ = some v1 := by rw [cell_of_row w _ 1 _ _ _ hb]; rfl
  rw [Array.getD_eq_getD_getElem?] at ht
  simp only [results, h]
  simp [go_sem, ht, c0, c1]
set_option maxRecDepth 100000 in
set_option maxHeartbeats 8000000 in
theorem Drawn_no (room : Int) (A : Option Addr) (c : Nat) (ls : List Lay) (m : Int) (top : Bool) (w : World) (ht : okT room ls) (h0 : 1 ≤ m) (h1 : m ≤ 1000000) (hm : sumA ls < m) (hr : Rw w w.heap.size 2 A (ls.map encL)) :
    Calls Try.prog 11 #[.agg #[.int .i64 room, .slice A ls.length c], .int .i64 m, .bool top] w fun e w' => e = .returned (.tuple #[.agg #[.int .i64 0, .slice none 0 0], .int .i64 0, .int .i64 16]) ∧ Below w.heap.size w w' := by
  obtain ⟨W0, hW0⟩ : ∃ W0, W0 = ((w.alloc (.cells #[.int .i64 room, .slice A ls.length c] 33)).alloc (.cells #[.int .i64 m] 3)).alloc (.cells #[.int .i64 0, .slice none 0 0] 33) := ⟨_, rfl⟩
  have hB0 : Below w.heap.size w W0 := by rw [hW0]; (repeat first | (with_reducible first | assumption | exact Below.refl _ _ | refine Bl.drew ?_ | refine Bl.drewN ?_ _ | refine Bl.alloc ?_ _ | refine Bl.set ?_ _ ?_) | (with_reducible apply Bl.step'; (focus (with_reducible assumption))) | omega | (focus (simp; done)) | (focus (simp; omega)))
  have k0 : W0.heap[w.heap.size]? = some (.cells #[.int .i64 room, .slice A ls.length c] 33 (0, 0)) := by
    rw [hW0]; exact (Below.heap_alloc _ _ _ (by simp)).trans ((Below.heap_alloc _ _ _ (by simp)).trans (heap_alloc_new w _))
  have k1 : W0.heap[w.heap.size + 1]? = some (.cells #[.int .i64 m] 3 (0, 0)) := by
    rw [hW0]; exact (Below.heap_alloc _ _ _ (by simp)).trans (heap_two w _ _)
  have k2 : W0.heap[w.heap.size + 1 + 1]? = some (.cells #[.int .i64 0, .slice none 0 0] 33 (0, 0)) := by
    rw [hW0]; have := heap_alloc_new ((w.alloc (.cells #[.int .i64 room, .slice A ls.length c] 33)).alloc (.cells #[.int .i64 m] 3)) (.cells #[.int .i64 0, .slice none 0 0] 33)
    rwa [World.size_alloc, World.size_alloc] at this
  have HR := Lib.hid hr; clear hr
  have HT := Lib.hid ht
  have hn := ht.len
  have hRw : Rw W0 W0.heap.size 2 A (ls.map encL) := (Rw.belowB (w0 := w) HR.out hB0 (Nat.le_refl _)).more hB0.size
  have hCT := Lib.hid (fun (W : World) (hb : Below W0.heap.size W0 W) => CheckTank_c room A c ls W HT.out ((Rw.belowB (w0 := W0) hRw hb (Nat.le_refl _)).more hb.size))
  have hSM := Lib.hid (fun (W : World) (hb : Below W0.heap.size W0 W) => sum_c room A c ls W hn (fun x hx => HT.out.bd hx) ((Rw.belowB (w0 := W0) hRw hb (Nat.le_refl _)).more hb.size))
  obtain ⟨d0, df0, d1, df1⟩ := cv2 k0
  obtain ⟨a0, af0⟩ := cv1 k1
  have z0 := blk_lt k0
  have z1 := blk_lt k1
  have z2 := blk_lt k2
  have hfd := Try.fldL0 (.int .i64 (sumA ls)) (.int .i64 (sumH ls))
  have hgt : decide (sumA ls < m) = true := decide_eq_true hm
  have hrg : rng m 1 1000000 = 0 := rng_ok h0 h1
  have hz1 : (firstErr [0, rng m 1 1000000, whn true 16] != 0) = true := by rw [hrg]; rfl
  have HFE := Lib.hid (show firstErr [0, rng m 1 1000000, whn true 16] = 16 by rw [hrg]; rfl)
  have K2 := Lib.hid k2
  have HB0 := Lib.hid hB0
  clear hrg hm k0 k1 k2 ht hB0 hRw
  go_enter Try.func11, Try.ntmps11
  go_upto_region 1 with fail
  rw [← hW0]
  clear hW0
  go_region_held3 (fun W => (W0).heap.size ≤ W.heap.size ∧ (∀ b o, b < (W0).heap.size → W.cell? ⟨b, o, none⟩ = (W0).cell? ⟨b, o, none⟩) ∧ (∀ b, b < (W0).heap.size → W.heap[b]? = (W0).heap[b]?)) ((refine Sh.goal ?_; repeat first | (with_reducible first | assumption | exact Sh.refl _ | refine Sh.drew ?_ | refine Sh.alloc ?_ _ | refine Sh.set ?_ _ ?_) | (with_reducible apply Sh.below'; (focus (with_reducible assumption))) | omega | (focus (simp; done)) | (focus (simp; omega)))) (first | (go_at_call 26; (with_reducible refine Calls.mono (hCT.out _ (by (repeat first | (with_reducible first | assumption | exact Below.refl _ _ | refine Bl.drew ?_ | refine Bl.drewN ?_ _ | refine Bl.alloc ?_ _ | refine Bl.set ?_ _ ?_) | (with_reducible apply Bl.step'; (focus (with_reducible assumption))) | omega | (focus (simp; done)) | (focus (simp; omega))))) ?_); rintro e w1 ⟨rfl, hb1⟩) | (go_at_call 29; (with_reducible refine Calls.mono (swithin_c _ _ _ _) ?_); rintro e w' ⟨rfl, rfl⟩) | (go_at_call 27; (with_reducible refine Calls.mono (hSM.out _ (by (repeat first | (with_reducible first | assumption | exact Below.refl _ _ | refine Bl.drew ?_ | refine Bl.drewN ?_ _ | refine Bl.alloc ?_ _ | refine Bl.set ?_ _ ?_) | (with_reducible apply Bl.step'; (focus (with_reducible assumption))) | omega | (focus (simp; done)) | (focus (simp; omega))))) ?_); rintro e w2 ⟨rfl, hb2⟩) | (go_at_call 30; (with_reducible refine Calls.mono (swhen_c _ _ _) ?_); rintro e w' ⟨rfl, rfl⟩) | (go_at_call 28; refine (sfirst_c _ [0, rng m 1 1000000, whn true 16] _ ?_ ?_).mono ?_; (focus simp); (focus simp [CellsAt]); rintro e w' ⟨rfl, rfl⟩))
  all_goals
    rename_i hHeld
    clear hHeld
    have hb3 : Below W0.heap.size W0 w2 := by (repeat first | (with_reducible first | assumption | exact Below.refl _ _ | refine Bl.drew ?_ | refine Bl.drewN ?_ _ | refine Bl.alloc ?_ _ | refine Bl.set ?_ _ ?_) | (with_reducible apply Bl.step'; (focus (with_reducible assumption))) | omega | (focus (simp; done)) | (focus (simp; omega)))
    obtain ⟨r0, rf0, r1, rf1⟩ := cv2 ((hb3.block _ z2).trans K2.out)
    have z4 : w.heap.size + 1 + 1 < w2.heap.size := Nat.lt_of_lt_of_le z2 hb3.size
    have HB3 := Lib.hid hb3
    clear d0 d1 a0 df0 df1 af0 hb3
    go_wp2_with fail
    have hbw : Below w.heap.size w w2 := HB0.out.trans (HB3.out.mono HB0.out.size)
    refine bodyPost_ret (Try.resTank rfl _ _ rfl (blk_alloc (set2_block ((HB3.out.block _ z2).trans K2.out)))) rfl ⟨?_, (Below.set2 hbw (by omega) _ _).alloc (by have := hbw.size; simp; omega) _⟩
    show Ending.returned (.tuple #[.agg #[.int .i64 0, .slice none 0 0], .int .i64 0, .int .i64 (firstErr [0, rng m 1 1000000, whn true 16])]) = _
    rw [HFE.out]
end Go.Proofs.Ytgljpjcclncknaa

/- The reference's CheckOffers at no quarter hours. -/
import Derived.Test.YtgljpjcclncknaaGr3
namespace Go.Proofs.Ytgljpjcclncknaa
open Go.RowKit

theorem rCheckQ0_c (w : World) : Calls Try.prog 25 #[.slice none 0 0] w fun e w' => e = .returned (.int .i64 0) ∧ w = w' := by
  go_enter Try.func25, Try.ntmps25
  go_wp2
  go_loop [3] (fun i => i = .int .i64 (0 : Nat)) (fun _ => 0)
  case atStart => rfl
  case round =>
    obtain rfl := hrel
    go_wp2
    go_ret
    exact ⟨rfl, rfl⟩
theorem fe4_zero {a b c d : Int} (h : firstErr [a, b, c, d] = 0) : a = 0 ∧ b = 0 ∧ c = 0 ∧ d = 0 := by
  unfold firstErr at h
  split at h
  · rename_i h1
    obtain ⟨h2, h3, h4⟩ := fe3_zero h
    exact ⟨h1, h2, h3, h4⟩
  · rename_i h1; exact absurd h h1
set_option maxRecDepth 100000 in
set_option maxHeartbeats 2000000 in
theorem rCheckOffers_c (p : Pla) (w : World) :
    Calls Try.prog 7 #[plaV p, .slice none 0 0] w fun e w' => ∃ n : Int, e = .returned (.int .i64 n) ∧ (n = 0 → okP p) ∧ Below w.heap.size w w' := by
  obtain ⟨D, hD⟩ : ∃ D, D = firstErr [rng p.st 0 60, rng p.lv 0 p.st, rng p.mo 0 30, 0] := ⟨_, rfl⟩
  have HD := Lib.hid hD
  clear hD
  unfold plaV
  go_enter Try.func7, Try.ntmps7
  go_wp2_with fail
  go_region_held3 (fun W => (w.alloc (.cells #[.int .i64 p.st, .int .i64 p.lv, .int .i64 p.mo] 26)).heap.size ≤ W.heap.size ∧ (∀ b o, b < (w.alloc (.cells #[.int .i64 p.st, .int .i64 p.lv, .int .i64 p.mo] 26)).heap.size → W.cell? ⟨b, o, none⟩ = (w.alloc (.cells #[.int .i64 p.st, .int .i64 p.lv, .int .i64 p.mo] 26)).cell? ⟨b, o, none⟩)) ((refine Sx.goal ?_; repeat first | (with_reducible first | assumption | exact Sx.refl _ | refine Sx.drew ?_ | refine Sx.alloc ?_ _ | refine Sx.set ?_ _ ?_) | (with_reducible apply Sx.below'; (focus (with_reducible assumption))) | omega | (focus (simp; done)) | (focus (simp; omega)))) (first | (go_at_call 20; refine (rRange_c _ _ _ _).mono ?_; rintro e w' ⟨rfl, rfl⟩) | (go_at_call 25; refine (rCheckQ0_c _).mono ?_; rintro e w2 ⟨rfl, rfl⟩) | (go_at_call 19; refine (rFirst_c _ [rng p.st 0 60, rng p.lv 0 p.st, rng p.mo 0 30, 0] _ ?_ ?_).mono ?_; (focus simp); (focus simp [CellsAt]); rintro e w' ⟨rfl, rfl⟩))
  all_goals
    rename_i hHeld
    clear hHeld
    go_wp2_with fail
    go_ret
    refine ⟨D, ret_int HD.out.symm, fun h => ?_, by (repeat first | (with_reducible first | assumption | exact Below.refl _ _ | refine Bl.drew ?_ | refine Bl.drewN ?_ _ | refine Bl.alloc ?_ _ | refine Bl.set ?_ _ ?_) | (with_reducible apply Bl.step'; (focus (with_reducible assumption))) | omega | (focus (simp; done)) | (focus (simp; omega)))⟩
    rw [HD.out] at h
    obtain ⟨h1, h2, h3, _⟩ := fe4_zero h
    have e1 := rng_zero h1
    have e2 := rng_zero h2
    have e3 := rng_zero h3
    exact ⟨e1.1, e1.2, e2.1, e2.2, e3.1, e3.2⟩
end Go.Proofs.Ytgljpjcclncknaa

/- The checks of quarters, units and offers. -/
import Derived.Test.YtgljpjcclncknaaGr2
namespace Go.Proofs.Ytgljpjcclncknaa
open Go.RowKit

theorem firstErr_zeros : ∀ (l : List Int), (∀ x ∈ l, x = 0) → firstErr l = 0
  | [], _ => rfl
  | x :: l, h => by
    unfold firstErr
    rw [if_pos (h x (by simp))]
    exact firstErr_zeros l fun y hy => h y (by simp [hy])
theorem Try.enters_q (args : Array Value) (w : World) : (callFunc 58 args).run Try.prog w = .ok (.enter 58 args) w := rfl
theorem Try.enters_u (args : Array Value) (w : World) : (callFunc 60 args).run Try.prog w = .ok (.enter 60 args) w := rfl
theorem gfirst0_c (w : World) : Calls Try.prog 39 #[.slice none 0 0] w fun e w' => e = .returned (.int .i64 0) ∧ w = w' := by
  go_enter Try.func39, Try.ntmps39
  go_wp2
  go_loop [7] (fun i => i = .int .i64 (0 : Nat)) (fun _ => 0)
  case atStart => rfl
  case round =>
    obtain rfl := hrel
    go_wp2
    go_ret
    exact ⟨rfl, rfl⟩
set_option maxHeartbeats 1000000 in
theorem checkQ1_c (q : Qt) (w : World) (hq : okQ q) :
    Calls Try.prog 58 #[qtV q] w fun e w' => e = .returned (.int .i64 0) ∧ Below w.heap.size w w' := by
  obtain ⟨q0, q1, q2, q3⟩ := hq
  have h1 : rng q.p (-100000) 100000 = 0 := rng_ok q0 q1
  have h2 : rng q.h 0 30 = 0 := rng_ok q2 q3
  have HE := Lib.hid (show firstErr [rng q.p (-100000) 100000, rng q.h 0 30] = 0 by rw [h1, h2]; rfl)
  clear h1 h2
  unfold qtV
  go_enter Try.func58, Try.ntmps58
  go_wp2_with fail
  go_region_held3 (fun W => (w.alloc (.cells #[.int .i64 q.p, .int .i64 q.h] 77)).heap.size ≤ W.heap.size ∧ (∀ b o, b < (w.alloc (.cells #[.int .i64 q.p, .int .i64 q.h] 77)).heap.size → W.cell? ⟨b, o, none⟩ = (w.alloc (.cells #[.int .i64 q.p, .int .i64 q.h] 77)).cell? ⟨b, o, none⟩)) ((refine Sx.goal ?_; repeat first | (with_reducible first | assumption | exact Sx.refl _ | refine Sx.drew ?_ | refine Sx.alloc ?_ _ | refine Sx.set ?_ _ ?_) | (with_reducible apply Sx.below'; (focus (with_reducible assumption))) | omega | (focus (simp; done)) | (focus (simp; omega)))) (first | (go_at_call 42; refine (gwithin_c _ _ _ _).mono ?_; rintro e w' ⟨rfl, rfl⟩) | (go_at_call 39; refine (gfirst_c _ [rng q.p (-100000) 100000, rng q.h 0 30] _ ?_ ?_).mono ?_; (focus simp); (focus simp [CellsAt]); rintro e w' ⟨rfl, rfl⟩))
  all_goals
    rename_i hHeld
    clear hHeld
    go_wp2_with fail
    go_ret
    exact ⟨ret_int HE.out, by (repeat first | (with_reducible first | assumption | exact Below.refl _ _ | refine Bl.drew ?_ | refine Bl.drewN ?_ _ | refine Bl.alloc ?_ _ | refine Bl.set ?_ _ ?_) | (with_reducible apply Bl.step'; (focus (with_reducible assumption))) | omega | (focus (simp; done)) | (focus (simp; omega)))⟩
set_option maxHeartbeats 1000000 in
theorem checkQs_c (A : Option Addr) (c : Nat) (l : List Qt) (w : World) (hl : l.length ≤ 8) (hq : ∀ q ∈ l, okQ q) (hr : QtR w w.heap.size A l) :
    Calls Try.prog 40 #[.slice A l.length c] w fun e w' => e = .returned (.int .i64 0) ∧ Below w.heap.size w w' := by
  have HM := Lib.hid (mappedQ_c (fun _ => 0) 58 #[] #[] A l c w (by omega) Try.enters_q hr fun x hx W _ => by simpa using checkQ1_c x W (hq x hx))
  have hgt : decide ((8 : Int) < (l.length : Int)) = false := decide_eq_false (by omega)
  have HZ := Lib.hid (firstErr_zeros (l.map fun _ => (0 : Int)) (by simp))
  clear hr hq
  go_enter Try.func40, Try.ntmps40
  go_wp2_with (first | (go_at_call 57; refine HM.out.mono ?_; rintro e w1 ⟨v, rfl, ho, hb1⟩))
  rcases ho.cells with ⟨rfl, hnil⟩ | ⟨b, cc, rfl, hc⟩
  · refine (gfirst0_c w1).mono ?_
    rintro e w' ⟨rfl, rfl⟩
    go_wp2_with fail
    go_ret
    exact ⟨rfl, hb1⟩
  · go_wp2_with (first | (go_at_call 39; refine (gfirstA_c b cc _ _ ?_ hc).mono ?_; (focus simp; omega); rintro e w' ⟨rfl, rfl⟩))
    go_ret
    exact ⟨ret_int HZ.out, hb1⟩
set_option maxHeartbeats 1000000 in
theorem checkU1_c (n : Int) (w : World) (h0 : 0 ≤ n) (h1 : n ≤ 30) :
    Calls Try.prog 60 #[.int .i64 n] w fun e w' => e = .returned (.int .i64 0) ∧ Below w.heap.size w w' := by
  have HZ := Lib.hid (show rng n 0 30 = 0 from rng_ok h0 h1)
  go_enter Try.func60, Try.ntmps60
  go_wp2_with (first | (go_at_call 42; refine (gwithin_c _ _ _ _).mono ?_; rintro e w' ⟨rfl, rfl⟩))
  go_ret
  exact ⟨ret_int HZ.out, by (repeat first | (with_reducible first | assumption | exact Below.refl _ _ | refine Bl.drew ?_ | refine Bl.drewN ?_ _ | refine Bl.alloc ?_ _ | refine Bl.set ?_ _ ?_) | (with_reducible apply Bl.step'; (focus (with_reducible assumption))) | omega | (focus (simp; done)) | (focus (simp; omega)))⟩
set_option maxHeartbeats 1000000 in
theorem checkUs_c (A B : Option Addr) (c c2 : Nat) (n : Nat) (l : List Int) (w : World) (hn : n = l.length) (hl : l.length ≤ 8) (hq : ∀ x ∈ l, 0 ≤ x ∧ x ≤ 30) (hr : IntsR w w.heap.size B l) :
    Calls Try.prog 41 #[.slice A n c, .slice B l.length c2] w fun e w' => e = .returned (.int .i64 0) ∧ Below w.heap.size w w' := by
  have HM := Lib.hid (mappedN_c (fun _ => 0) 60 #[] #[] B l c2 w (by omega) Try.enters_u hr fun x hx W _ => by simpa using checkU1_c x W (hq x hx).1 (hq x hx).2)
  have HZ := Lib.hid (firstErr_zeros (l.map fun _ => (0 : Int)) (by simp))
  subst hn
  clear hr hq
  go_enter Try.func41, Try.ntmps41
  go_wp2_with (first | (go_at_call 59; refine HM.out.mono ?_; rintro e w1 ⟨v, rfl, ho, hb1⟩))
  rcases ho.cells with ⟨rfl, hnil⟩ | ⟨b, cc, rfl, hc⟩
  · refine (gfirst0_c w1).mono ?_
    rintro e w' ⟨rfl, rfl⟩
    go_wp2_with fail
    go_ret
    exact ⟨rfl, hb1⟩
  · go_wp2_with (first | (go_at_call 39; refine (gfirstA_c b cc _ _ ?_ hc).mono ?_; (focus simp; omega); rintro e w' ⟨rfl, rfl⟩))
    go_ret
    exact ⟨ret_int HZ.out, hb1⟩
set_option maxRecDepth 100000 in
set_option maxHeartbeats 2000000 in
theorem CheckOffers_c (p : Pla) (A : Option Addr) (c : Nat) (l : List Qt) (w : World) (hp : okP p) (hl : l.length ≤ 8) (hq : ∀ q ∈ l, okQ q) (hr : QtR w w.heap.size A l) :
    Calls Try.prog 35 #[plaV p, .slice A l.length c] w fun e w' => e = .returned (.int .i64 0) ∧ Below w.heap.size w w' := by
  obtain ⟨s0, s1, l0, l1, m0, m1⟩ := hp
  have HE := Lib.hid (show firstErr [rng p.st 0 60, rng p.lv 0 p.st, rng p.mo 0 30, 0] = 0 by rw [rng_ok s0 s1, rng_ok l0 l1, rng_ok m0 m1]; rfl)
  have HC := Lib.hid (fun W h => checkQs_c A c l W hl hq h)
  have HR := Lib.hid hr
  clear hr hq s0 s1 l0 l1 m0 m1
  unfold plaV
  go_enter Try.func35, Try.ntmps35
  go_wp2_with fail
  obtain ⟨W0, hW0⟩ : ∃ W0, W0 = w.alloc (.cells #[.int .i64 p.st, .int .i64 p.lv, .int .i64 p.mo] 51) := ⟨_, rfl⟩
  have hb0 : Below w.heap.size w W0 := by rw [hW0]; (repeat first | (with_reducible first | assumption | exact Below.refl _ _ | refine Bl.drew ?_ | refine Bl.drewN ?_ _ | refine Bl.alloc ?_ _ | refine Bl.set ?_ _ ?_) | (with_reducible apply Bl.step'; (focus (with_reducible assumption))) | omega | (focus (simp; done)) | (focus (simp; omega)))
  go_region_held3 (fun W => (w.alloc (.cells #[.int .i64 p.st, .int .i64 p.lv, .int .i64 p.mo] 51)).heap.size ≤ W.heap.size ∧ (∀ b o, b < (w.alloc (.cells #[.int .i64 p.st, .int .i64 p.lv, .int .i64 p.mo] 51)).heap.size → W.cell? ⟨b, o, none⟩ = (w.alloc (.cells #[.int .i64 p.st, .int .i64 p.lv, .int .i64 p.mo] 51)).cell? ⟨b, o, none⟩)) ((refine Sx.goal ?_; repeat first | (with_reducible first | assumption | exact Sx.refl _ | refine Sx.drew ?_ | refine Sx.alloc ?_ _ | refine Sx.set ?_ _ ?_) | (with_reducible apply Sx.below'; (focus (with_reducible assumption))) | omega | (focus (simp; done)) | (focus (simp; omega)))) (first | (go_at_call 42; refine (gwithin_c _ _ _ _).mono ?_; rintro e w' ⟨rfl, rfl⟩) | (go_at_call 40; refine (HC.out _ (rw_to HR.out (by (repeat first | (with_reducible first | assumption | exact Below.refl _ _ | refine Bl.drew ?_ | refine Bl.drewN ?_ _ | refine Bl.alloc ?_ _ | refine Bl.set ?_ _ ?_) | (with_reducible apply Bl.step'; (focus (with_reducible assumption))) | omega | (focus (simp; done)) | (focus (simp; omega)))))).mono ?_; rintro e w2 ⟨rfl, hb2⟩) | (go_at_call 39; refine (gfirst_c _ [rng p.st 0 60, rng p.lv 0 p.st, rng p.mo 0 30, 0] _ ?_ ?_).mono ?_; (focus simp); (focus simp [CellsAt]); rintro e w' ⟨rfl, rfl⟩))
  all_goals
    rename_i hHeld
    clear hHeld
    go_wp2_with fail
    go_ret
    exact ⟨ret_int HE.out, by (repeat first | (with_reducible first | assumption | exact Below.refl _ _ | refine Bl.drew ?_ | refine Bl.drewN ?_ _ | refine Bl.alloc ?_ _ | refine Bl.set ?_ _ ?_) | (with_reducible apply Bl.step'; (focus (with_reducible assumption))) | omega | (focus (simp; done)) | (focus (simp; omega)))⟩
end Go.Proofs.Ytgljpjcclncknaa

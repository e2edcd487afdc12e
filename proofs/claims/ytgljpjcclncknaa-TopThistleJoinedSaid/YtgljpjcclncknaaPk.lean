/- Small contracts: when, within, first of salt and grid; the reference's When, CheckRange, First. -/
import Derived.Test.YtgljpjcclncknaaKa
namespace Go.Proofs.Ytgljpjcclncknaa
open Go.RowKit

set_option maxHeartbeats 400000 in
theorem swhen_c (b : Bool) (n : Int) (w : World) :
    Calls Try.prog 30 #[.bool b, .int .i64 n] w fun e w' => e = .returned (.int .i64 (whn b n)) ∧ w = w' := by
  cases b
  all_goals
    go_enter Try.func30, Try.ntmps30
    go_wp2
    go_ret
    exact ⟨rfl, rfl⟩
set_option maxHeartbeats 400000 in
theorem swithin_c (n lo hi : Int) (w : World) :
    Calls Try.prog 29 #[.int .i64 n, .int .i64 lo, .int .i64 hi] w fun e w' => e = .returned (.int .i64 (rng n lo hi)) ∧ w = w' := by
  have hr : rng n lo hi = whn (decide (n < lo ∨ n > hi)) 3 := by unfold rng whn; simp
  by_cases h1 : n < lo
  · have h2 : decide (n < lo) = true := by simpa using h1
    go_enter Try.func29, Try.ntmps29
    go_wp2_with (go_at_call 30; refine (swhen_c _ _ _).mono ?_; rintro e w' ⟨rfl, rfl⟩)
    go_ret
    exact ⟨ret_int (by rw [hr]; simp [h2]), rfl⟩
  · have h2 : decide (n < lo) = false := by simpa using h1
    go_enter Try.func29, Try.ntmps29
    go_wp2_with (go_at_call 30; refine (swhen_c _ _ _).mono ?_; rintro e w' ⟨rfl, rfl⟩)
    go_ret
    exact ⟨ret_int (by rw [hr]; simp [h2]), rfl⟩
set_option maxHeartbeats 400000 in
theorem sfirst_c (b : Nat) (xs : List Int) (w : World) (hx : xs.length ≤ 1000) (hb : CellsAt w b 0 xs) :
    Calls Try.prog 28 #[.slice (some ⟨b, 0, none⟩) xs.length xs.length] w fun e w' => e = .returned (.int .i64 (firstErr xs)) ∧ w = w' := by
  have hcell : ∀ k (h : k < xs.length), w.cell? ⟨b, k, none⟩ = some (.int .i64 xs[k]) := by
    intro k h
    simpa using hb.get k h
  have HB := Lib.hid hb; clear hb
  have HC := Lib.hid hcell; clear hcell
  go_enter Try.func28, Try.ntmps28
  go_wp2
  go_loop [7] (fun i => ∃ k : Nat, k ≤ xs.length ∧ i = .int .i64 k ∧ Hid (firstErr (xs.take k) = 0)) (fun i => xs.length - (intOf i).toNat)
  case atStart => exact ⟨0, Nat.zero_le _, rfl, Lib.hid (by simp [firstErr])⟩
  case round =>
    obtain ⟨k, hk, rfl, hf⟩ := hrel
    by_cases hlt : k < xs.length
    · have hc := HC.out k hlt
      by_cases hz : xs[k] = 0
      · have hz' : (xs[k] != 0) = false := by simp [hz]
        go_wp2
        go_round
        case rel => exact ⟨k + 1, by omega, by go_num, Lib.hid ((firstErr_take_succ xs k hlt hf.out).trans hz)⟩
        case measure => simp [intOf]; omega
      · have hz' : (xs[k] != 0) = true := by simp [hz]
        have HF := Lib.hid (firstErr_at xs k hlt hf.out hz)
        clear hz
        go_wp2
        go_ret
        exact ⟨ret_int HF.out.symm, rfl⟩
    · go_wp2
      go_ret
      have := hf.out
      rw [List.take_of_length_le (by omega)] at this
      exact ⟨ret_int this.symm, rfl⟩
set_option maxHeartbeats 400000 in
theorem gwhen_c (b : Bool) (n : Int) (w : World) :
    Calls Try.prog 45 #[.bool b, .int .i64 n] w fun e w' => e = .returned (.int .i64 (whn b n)) ∧ w = w' := by
  cases b
  all_goals
    go_enter Try.func45, Try.ntmps45
    go_wp2
    go_ret
    exact ⟨rfl, rfl⟩
set_option maxHeartbeats 400000 in
theorem gwithin_c (n lo hi : Int) (w : World) :
    Calls Try.prog 42 #[.int .i64 n, .int .i64 lo, .int .i64 hi] w fun e w' => e = .returned (.int .i64 (rng n lo hi)) ∧ w = w' := by
  have hr : rng n lo hi = whn (decide (n < lo ∨ n > hi)) 3 := by unfold rng whn; simp
  by_cases h1 : n < lo
  · have h2 : decide (n < lo) = true := by simpa using h1
    go_enter Try.func42, Try.ntmps42
    go_wp2_with (go_at_call 45; refine (gwhen_c _ _ _).mono ?_; rintro e w' ⟨rfl, rfl⟩)
    go_ret
    exact ⟨ret_int (by rw [hr]; simp [h2]), rfl⟩
  · have h2 : decide (n < lo) = false := by simpa using h1
    go_enter Try.func42, Try.ntmps42
    go_wp2_with (go_at_call 45; refine (gwhen_c _ _ _).mono ?_; rintro e w' ⟨rfl, rfl⟩)
    go_ret
    exact ⟨ret_int (by rw [hr]; simp [h2]), rfl⟩
set_option maxHeartbeats 400000 in
theorem gfirst_c (b : Nat) (xs : List Int) (w : World) (hx : xs.length ≤ 1000) (hb : CellsAt w b 0 xs) :
    Calls Try.prog 39 #[.slice (some ⟨b, 0, none⟩) xs.length xs.length] w fun e w' => e = .returned (.int .i64 (firstErr xs)) ∧ w = w' := by
  have hcell : ∀ k (h : k < xs.length), w.cell? ⟨b, k, none⟩ = some (.int .i64 xs[k]) := by
    intro k h
    simpa using hb.get k h
  have HB := Lib.hid hb; clear hb
  have HC := Lib.hid hcell; clear hcell
  go_enter Try.func39, Try.ntmps39
  go_wp2
  go_loop [7] (fun i => ∃ k : Nat, k ≤ xs.length ∧ i = .int .i64 k ∧ Hid (firstErr (xs.take k) = 0)) (fun i => xs.length - (intOf i).toNat)
  case atStart => exact ⟨0, Nat.zero_le _, rfl, Lib.hid (by simp [firstErr])⟩
  case round =>
    obtain ⟨k, hk, rfl, hf⟩ := hrel
    by_cases hlt : k < xs.length
    · have hc := HC.out k hlt
      by_cases hz : xs[k] = 0
      · have hz' : (xs[k] != 0) = false := by simp [hz]
        go_wp2
        go_round
        case rel => exact ⟨k + 1, by omega, by go_num, Lib.hid ((firstErr_take_succ xs k hlt hf.out).trans hz)⟩
        case measure => simp [intOf]; omega
      · have hz' : (xs[k] != 0) = true := by simp [hz]
        have HF := Lib.hid (firstErr_at xs k hlt hf.out hz)
        clear hz
        go_wp2
        go_ret
        exact ⟨ret_int HF.out.symm, rfl⟩
    · go_wp2
      go_ret
      have := hf.out
      rw [List.take_of_length_le (by omega)] at this
      exact ⟨ret_int this.symm, rfl⟩
set_option maxHeartbeats 400000 in
theorem rWhen_c (b : Bool) (n : Int) (w : World) :
    Calls Try.prog 21 #[.bool b, .int .i64 n] w fun e w' => e = .returned (.int .i64 (whn b n)) ∧ w = w' := by
  cases b
  all_goals
    go_enter Try.func21, Try.ntmps21
    go_wp2
    go_ret
    exact ⟨rfl, rfl⟩
set_option maxHeartbeats 400000 in
theorem rRange_c (n lo hi : Int) (w : World) :
    Calls Try.prog 20 #[.int .i64 n, .int .i64 lo, .int .i64 hi] w fun e w' => e = .returned (.int .i64 (rng n lo hi)) ∧ w = w' := by
  have hr : rng n lo hi = whn (decide (n < lo ∨ n > hi)) 3 := by unfold rng whn; simp
  by_cases h1 : n < lo
  · have h2 : decide (n < lo) = true := by simpa using h1
    go_enter Try.func20, Try.ntmps20
    go_wp2_with (go_at_call 21; refine (rWhen_c _ _ _).mono ?_; rintro e w' ⟨rfl, rfl⟩)
    go_ret
    exact ⟨ret_int (by rw [hr]; simp [h1]), rfl⟩
  · have h2 : decide (n < lo) = false := by simpa using h1
    go_enter Try.func20, Try.ntmps20
    go_wp2_with (go_at_call 21; refine (rWhen_c _ _ _).mono ?_; rintro e w' ⟨rfl, rfl⟩)
    go_ret
    exact ⟨ret_int (by rw [hr]; simp [h2]), rfl⟩
set_option maxHeartbeats 400000 in
theorem rFirst_c (b : Nat) (xs : List Int) (w : World) (hx : xs.length ≤ 1000) (hb : CellsAt w b 0 xs) :
    Calls Try.prog 19 #[.slice (some ⟨b, 0, none⟩) xs.length xs.length] w fun e w' => e = .returned (.int .i64 (firstErr xs)) ∧ w = w' := by
  have hcell : ∀ k (h : k < xs.length), w.cell? ⟨b, k, none⟩ = some (.int .i64 xs[k]) := by
    intro k h
    simpa using hb.get k h
  have HB := Lib.hid hb; clear hb
  have HC := Lib.hid hcell; clear hcell
  go_enter Try.func19, Try.ntmps19
  go_wp2
  go_loop [3] (fun i => ∃ k : Nat, k ≤ xs.length ∧ i = .int .i64 k ∧ Hid (firstErr (xs.take k) = 0)) (fun i => xs.length - (intOf i).toNat)
  case atStart => exact ⟨0, Nat.zero_le _, rfl, Lib.hid (by simp [firstErr])⟩
  case round =>
    obtain ⟨k, hk, rfl, hf⟩ := hrel
    by_cases hlt : k < xs.length
    · have hc := HC.out k hlt
      by_cases hz : xs[k] = 0
      · have hz' : (xs[k] != 0) = false := by simp [hz]
        go_wp2
        go_round
        case rel => exact ⟨k + 1, by omega, by go_num, Lib.hid ((firstErr_take_succ xs k hlt hf.out).trans hz)⟩
        case measure => simp [intOf]; omega
      · have hz' : (xs[k] != 0) = true := by simp [hz]
        have HF := Lib.hid (firstErr_at xs k hlt hf.out hz)
        clear hz
        go_wp2
        go_ret
        exact ⟨ret_int HF.out.symm, rfl⟩
    · go_wp2
      go_ret
      have := hf.out
      rw [List.take_of_length_le (by omega)] at this
      exact ⟨ret_int this.symm, rfl⟩
end Go.Proofs.Ytgljpjcclncknaa

/- The reference's tanks: Warmer, Level, Enthalpy. -/
import Derived.Test.YtgljpjcclncknaaTt3
namespace Go.Proofs.Ytgljpjcclncknaa
open Go.RowKit

def warmF (x y : Lay) : Int := if wrap64 (x.h * y.a) > wrap64 (y.h * x.a) then 1 else if wrap64 (x.h * y.a) < wrap64 (y.h * x.a) then -1 else 0
theorem warmF_cold {x y : Lay} (hx : bdL x) (hy : bdL y) (h : ¬ 0 ≤ warmF x y) : coldr x y = true := by
  obtain ⟨x0, x1, x2, x3⟩ := hx
  obtain ⟨y0, y1, y2, y3⟩ := hy
  obtain ⟨h1, h2⟩ := mul_bd (a := x.h) (b := y.a) (A := 1000000000) (B := 1000000) (by omega) (by omega) (by omega) (by omega)
  obtain ⟨h3, h4⟩ := mul_bd (a := y.h) (b := x.a) (A := 1000000000) (B := 1000000) (by omega) (by omega) (by omega) (by omega)
  unfold warmF at h
  rw [IntWalk.wrap64_in _ ⟨by omega, by omega⟩, IntWalk.wrap64_in _ ⟨by omega, by omega⟩] at h
  unfold coldr
  split at h
  · omega
  · split at h
    · rename_i h5; exact decide_eq_true h5
    · omega
theorem sum_bd {ls : List Lay} (hb : ∀ x ∈ ls, bdL x) : 0 ≤ sumA ls ∧ sumA ls ≤ 1000000 * ls.length ∧ 0 ≤ sumH ls ∧ sumH ls ≤ 1000000000 * ls.length := by
  induction ls with
  | nil => simp
  | cons x l ih =>
    obtain ⟨h1, h2, h3, h4⟩ := hb x (by simp)
    have := ih fun y hy => hb y (by simp [hy])
    simp only [sumA_cons, sumH_cons, List.length_cons]
    omega
theorem sumA_take_bd {ls : List Lay} (hb : ∀ x ∈ ls, bdL x) (k : Nat) : 0 ≤ sumA (ls.take k) ∧ sumA (ls.take k) ≤ 1000000 * k := by
  have h := sum_bd (ls := ls.take k) fun x hx => hb x (List.mem_of_mem_take hx)
  have h2 : (ls.take k).length ≤ k := List.length_take_le _ _
  omega
theorem sumH_take_bd {ls : List Lay} (hb : ∀ x ∈ ls, bdL x) (k : Nat) : 0 ≤ sumH (ls.take k) ∧ sumH (ls.take k) ≤ 1000000000 * k := by
  have h := sum_bd (ls := ls.take k) fun x hx => hb x (List.mem_of_mem_take hx)
  have h2 : (ls.take k).length ≤ k := List.length_take_le _ _
  omega
set_option maxHeartbeats 1000000 in
theorem warmer_c (x y : Lay) (w : World) :
    Calls Try.prog 22 #[.agg #[.int .i64 x.a, .int .i64 x.h], .agg #[.int .i64 y.a, .int .i64 y.h]] w fun e w' => e = .returned (.int .i64 (warmF x y)) ∧ Below w.heap.size w w' := by
  obtain ⟨p, hp⟩ : ∃ p, p = wrap64 (x.h * y.a) := ⟨_, rfl⟩
  obtain ⟨q, hq⟩ : ∃ q, q = wrap64 (y.h * x.a) := ⟨_, rfl⟩
  by_cases h1 : p > q
  · have hw : warmF x y = 1 := by unfold warmF; rw [← hp, ← hq, if_pos h1]
    rw [hw]
    have hd : decide (q < p) = true := decide_eq_true h1
    have hp' : IntKind.i64.wrap (x.h * y.a) = p := by rw [hp, IntKind.wrap_i64]; unfold wrap64; rfl
    have hq' : IntKind.i64.wrap (y.h * x.a) = q := by rw [hq, IntKind.wrap_i64]; unfold wrap64; rfl
    clear hp hq h1 hw
    go_enter Try.func22, Try.ntmps22
    go_wp2_with fail
    go_quiet (fail)
    go_wp2_with fail
    go_ret
    exact ⟨rfl, by (repeat first | (with_reducible first | assumption | exact Below.refl _ _ | refine Bl.drew ?_ | refine Bl.drewN ?_ _ | refine Bl.alloc ?_ _ | refine Bl.set ?_ _ ?_) | (with_reducible apply Bl.step'; (focus (with_reducible assumption))) | omega | (focus (simp; done)) | (focus (simp; omega)))⟩
  · have hd : decide (q < p) = false := decide_eq_false h1
    by_cases h2 : p < q
    · have hw : warmF x y = -1 := by unfold warmF; rw [← hp, ← hq, if_neg h1, if_pos h2]
      rw [hw]
      have hd2 : decide (p < q) = true := decide_eq_true h2
      have hp' : IntKind.i64.wrap (x.h * y.a) = p := by rw [hp, IntKind.wrap_i64]; unfold wrap64; rfl
      have hq' : IntKind.i64.wrap (y.h * x.a) = q := by rw [hq, IntKind.wrap_i64]; unfold wrap64; rfl
      clear hp hq h1 hw h2
      go_enter Try.func22, Try.ntmps22
      go_wp2_with fail
      go_quiet (fail)
      go_wp2_with fail
      go_ret
      exact ⟨rfl, by (repeat first | (with_reducible first | assumption | exact Below.refl _ _ | refine Bl.drew ?_ | refine Bl.drewN ?_ _ | refine Bl.alloc ?_ _ | refine Bl.set ?_ _ ?_) | (with_reducible apply Bl.step'; (focus (with_reducible assumption))) | omega | (focus (simp; done)) | (focus (simp; omega)))⟩
    · have hw : warmF x y = 0 := by unfold warmF; rw [← hp, ← hq, if_neg h1, if_neg h2]
      rw [hw]
      have hd2 : decide (p < q) = false := decide_eq_false h2
      have hp' : IntKind.i64.wrap (x.h * y.a) = p := by rw [hp, IntKind.wrap_i64]; unfold wrap64; rfl
      have hq' : IntKind.i64.wrap (y.h * x.a) = q := by rw [hq, IntKind.wrap_i64]; unfold wrap64; rfl
      clear hp hq h1 hw h2
      go_enter Try.func22, Try.ntmps22
      go_wp2_with fail
      go_quiet (fail)
      go_wp2_with fail
      go_ret
      exact ⟨rfl, by (repeat first | (with_reducible first | assumption | exact Below.refl _ _ | refine Bl.drew ?_ | refine Bl.drewN ?_ _ | refine Bl.alloc ?_ _ | refine Bl.set ?_ _ ?_) | (with_reducible apply Bl.step'; (focus (with_reducible assumption))) | omega | (focus (simp; done)) | (focus (simp; omega)))⟩
set_option maxRecDepth 100000 in
set_option maxHeartbeats 2000000 in
theorem rLevel_c (room : Int) (A : Option Addr) (c : Nat) (ls : List Lay) (w : World) (hl : ls.length ≤ 16) (hb : ∀ x ∈ ls, bdL x) (hr : Rw w w.heap.size 2 A (ls.map encL)) :
    Calls Try.prog 23 #[.agg #[.int .i64 room, .slice A ls.length c]] w fun e w' => e = .returned (.int .i64 (sumA ls)) ∧ Below w.heap.size w w' := by
  have HR := Lib.hid hr; clear hr
  have HB := Lib.hid hb; clear hb
  go_enter Try.func23, Try.ntmps23
  go_wp2_with fail
  go_loop [3, 4] (fun s i => ∃ k : Nat, k ≤ ls.length ∧ i = .int .i64 k ∧ s = .int .i64 (sumA (ls.take k))) (fun _ i => ls.length - (intOf i).toNat)
  case atStart => exact ⟨0, Nat.zero_le _, rfl, rfl⟩
  case round =>
    obtain ⟨k, hk, rfl, rfl⟩ := hrel
    by_cases hlt : k < ls.length
    · obtain ⟨b, off, rfl, hbl, c0, c1⟩ := HR.out.get2 (k := k) (by simpa using hlt) (by rw [List.getElem_map]; rfl)
      obtain ⟨h1, h2, h3, h4⟩ := HB.out _ (List.getElem_mem hlt)
      have hst := sumA_take_bd HB.out k
      have hsn : sumA (ls.take (k + 1)) = sumA (ls.take k) + ls[k].a := by rw [List.take_succ_eq_append_getElem hlt, sumA_app]; simp
      obtain ⟨S, hS⟩ : ∃ S, S = sumA (ls.take k) := ⟨_, rfl⟩
      rw [← hS] at hst hsn ⊢
      have HSN := Lib.hid hsn
      clear hS hsn
      go_wp2_with fail
      go_round
      case rel => exact ⟨k + 1, hlt, by go_num, by rw [HSN.out]⟩
      case measure => simp [intOf]; omega
    · obtain rfl : k = ls.length := by omega
      rw [List.take_length]
      go_wp2_with fail
      go_ret
      exact ⟨rfl, by (repeat first | (with_reducible first | assumption | exact Below.refl _ _ | refine Bl.drew ?_ | refine Bl.drewN ?_ _ | refine Bl.alloc ?_ _ | refine Bl.set ?_ _ ?_) | (with_reducible apply Bl.step'; (focus (with_reducible assumption))) | omega | (focus (simp; done)) | (focus (simp; omega)))⟩
set_option maxRecDepth 100000 in
set_option maxHeartbeats 2000000 in
theorem rEnthalpy_c (room : Int) (A : Option Addr) (c : Nat) (ls : List Lay) (w : World) (hl : ls.length ≤ 16) (hb : ∀ x ∈ ls, bdL x) (hr : Rw w w.heap.size 2 A (ls.map encL)) :
    Calls Try.prog 24 #[.agg #[.int .i64 room, .slice A ls.length c]] w fun e w' => e = .returned (.int .i64 (sumH ls)) ∧ Below w.heap.size w w' := by
  have HR := Lib.hid hr; clear hr
  have HB := Lib.hid hb; clear hb
  go_enter Try.func24, Try.ntmps24
  go_wp2_with fail
  go_loop [3, 4] (fun s i => ∃ k : Nat, k ≤ ls.length ∧ i = .int .i64 k ∧ s = .int .i64 (sumH (ls.take k))) (fun _ i => ls.length - (intOf i).toNat)
  case atStart => exact ⟨0, Nat.zero_le _, rfl, rfl⟩
  case round =>
    obtain ⟨k, hk, rfl, rfl⟩ := hrel
    by_cases hlt : k < ls.length
    · obtain ⟨b, off, rfl, hbl, c0, c1⟩ := HR.out.get2 (k := k) (by simpa using hlt) (by rw [List.getElem_map]; rfl)
      obtain ⟨h1, h2, h3, h4⟩ := HB.out _ (List.getElem_mem hlt)
      have hst := sumH_take_bd HB.out k
      have hsn : sumH (ls.take (k + 1)) = sumH (ls.take k) + ls[k].h := by rw [List.take_succ_eq_append_getElem hlt, sumH_app]; simp
      obtain ⟨S, hS⟩ : ∃ S, S = sumH (ls.take k) := ⟨_, rfl⟩
      rw [← hS] at hst hsn ⊢
      have HSN := Lib.hid hsn
      clear hS hsn
      go_wp2_with fail
      go_round
      case rel => exact ⟨k + 1, hlt, by go_num, by rw [HSN.out]⟩
      case measure => simp [intOf]; omega
    · obtain rfl : k = ls.length := by omega
      rw [List.take_length]
      go_wp2_with fail
      go_ret
      exact ⟨rfl, by (repeat first | (with_reducible first | assumption | exact Below.refl _ _ | refine Bl.drew ?_ | refine Bl.drewN ?_ _ | refine Bl.alloc ?_ _ | refine Bl.set ?_ _ ?_) | (with_reducible apply Bl.step'; (focus (with_reducible assumption))) | omega | (focus (simp; done)) | (focus (simp; omega)))⟩
end Go.Proofs.Ytgljpjcclncknaa

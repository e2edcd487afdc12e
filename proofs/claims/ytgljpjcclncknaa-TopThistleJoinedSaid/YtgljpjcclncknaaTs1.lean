/- The layers' small functions: colder, and. -/
import Derived.Test.YtgljpjcclncknaaTkA
import Derived.Test.YtgljpjcclncknaaPk
namespace Go.Proofs.Ytgljpjcclncknaa
open Go.RowKit

theorem mul_bd {a b A B : Int} (h1 : -A ≤ a) (h2 : a ≤ A) (h3 : -B ≤ b) (h4 : b ≤ B) : -(A * B) ≤ a * b ∧ a * b ≤ A * B := by
  have hA : a.natAbs ≤ A.toNat := by omega
  have hB : b.natAbs ≤ B.toNat := by omega
  have h := Nat.mul_le_mul hA hB
  rw [← Int.natAbs_mul] at h
  have e : ((A.toNat * B.toNat : Nat) : Int) = A * B := by
    rw [Int.natCast_mul, Int.toNat_of_nonneg (by omega), Int.toNat_of_nonneg (by omega)]
  omega
def encL (x : Lay) : List Value := [.int .i64 x.a, .int .i64 x.h]
/-- A layer whose products fit. -/
structure bdL (x : Lay) : Prop where
  a0 : 0 ≤ x.a
  a1 : x.a ≤ 1000000
  h0 : 0 ≤ x.h
  h1 : x.h ≤ 1000000000
theorem okT.bd {room : Int} {l : List Lay} (h : okT room l) {x : Lay} (hx : x ∈ l) : bdL x := by
  obtain ⟨h1, h2, h3, h4⟩ := h.le hx
  exact ⟨by omega, h2, h3, h4⟩
theorem Rw.get2 {w : World} {B : Nat} {A : Option Addr} {l : List (List Value)} {k : Nat} (h : Rw w B 2 A l) (hk : k < l.length) {v0 v1 : Value} (hv : l[k] = [v0, v1]) :
    ∃ b off, A = some ⟨b, off, none⟩ ∧ b < B ∧ w.cell? ⟨b, off + k * 2, none⟩ = some v0 ∧ w.cell? ⟨b, off + k * 2 + 1, none⟩ = some v1 := by
  obtain ⟨b, off, e, hb, hc⟩ := h.get hk
  exact ⟨b, off, e, hb, hc 0 v0 (by rw [hv]; rfl), hc 1 v1 (by rw [hv]; rfl)⟩
set_option maxHeartbeats 400000 in
theorem colder_c (x y : Lay) (w : World) (hx : bdL x) (hy : bdL y) :
    Calls Try.prog 49 #[.agg #[.int .i64 x.a, .int .i64 x.h], .agg #[.int .i64 y.a, .int .i64 y.h]] w fun e w' => e = .returned (.bool (coldr x y)) ∧ Below w.heap.size w w' := by
  obtain ⟨x0, x1, x2, x3⟩ := hx
  obtain ⟨y0, y1, y2, y3⟩ := hy
  obtain ⟨h1, h2⟩ := mul_bd (a := x.h) (b := y.a) (A := 1000000000) (B := 1000000) (by omega) (by omega) (by omega) (by omega)
  obtain ⟨h3, h4⟩ := mul_bd (a := y.h) (b := x.a) (A := 1000000000) (B := 1000000) (by omega) (by omega) (by omega) (by omega)
  go_enter Try.func49, Try.ntmps49
  go_wp2
  go_ret
  exact ⟨rfl, by (repeat first | (with_reducible first | assumption | exact Below.refl _ _ | refine Bl.drew ?_ | refine Bl.drewN ?_ _ | refine Bl.alloc ?_ _ | refine Bl.set ?_ _ ?_) | (with_reducible apply Bl.step'; (focus (with_reducible assumption))) | omega | (focus (simp; done)) | (focus (simp; omega)))⟩
set_option maxHeartbeats 400000 in
theorem and_c (x y : Lay) (w : World) (hx : -2000000000000 ≤ x.a ∧ x.a ≤ 2000000000000 ∧ -2000000000000 ≤ x.h ∧ x.h ≤ 2000000000000) (hy : -2000000000000 ≤ y.a ∧ y.a ≤ 2000000000000 ∧ -2000000000000 ≤ y.h ∧ y.h ≤ 2000000000000) :
    Calls Try.prog 50 #[.agg #[.int .i64 x.a, .int .i64 x.h], .agg #[.int .i64 y.a, .int .i64 y.h]] w fun e w' => e = .returned (.agg #[.int .i64 (x.a + y.a), .int .i64 (x.h + y.h)]) ∧ Below w.heap.size w w' := by
  obtain ⟨x0, x1, x2, x3⟩ := hx
  obtain ⟨y0, y1, y2, y3⟩ := hy
  go_enter Try.func50, Try.ntmps50
  go_wp2
  go_returns
  exact ⟨rfl, by (repeat first | (with_reducible first | assumption | exact Below.refl _ _ | refine Bl.drew ?_ | refine Bl.drewN ?_ _ | refine Bl.alloc ?_ _ | refine Bl.set ?_ _ ?_) | (with_reducible apply Bl.step'; (focus (with_reducible assumption))) | omega | (focus (simp; done)) | (focus (simp; omega)))⟩
end Go.Proofs.Ytgljpjcclncknaa

/- The stand's small functions: can, after, begin, better. -/
import Derived.Test.YtgljpjcclncknaaTkB
import Derived.Test.YtgljpjcclncknaaTs1
namespace Go.Proofs.Ytgljpjcclncknaa
open Go.RowKit

def plaV (p : Pla) : Value := .agg #[.int .i64 p.st, .int .i64 p.lv, .int .i64 p.mo]
def qtV (q : Qt) : Value := .agg #[.int .i64 q.p, .int .i64 q.h]
def tlV (t : Tl) : Value := .agg #[.int .i64 t.inc, .int .i64 t.lft, .int .i64 t.spl]
def sndV (s : Snd) : Value := .agg #[.int .i64 s.st, .int .i64 s.lv, .int .i64 s.mo, .int .i64 s.t.inc, .int .i64 s.t.lft, .int .i64 s.t.spl]
/-- A stand whose sums fit. -/
structure bdS (s : Snd) : Prop where
  s0 : 0 ≤ s.st
  s1 : s.st ≤ 60
  l0 : 0 ≤ s.lv
  l1 : s.lv ≤ s.st
  m0 : 0 ≤ s.mo
  m1 : s.mo ≤ 30
  i0 : -1000000000 ≤ s.t.inc
  i1 : s.t.inc ≤ 1000000000
  p0 : 0 ≤ s.t.spl
  p1 : s.t.spl ≤ 1000000
set_option maxHeartbeats 800000 in
theorem can_c (s : Snd) (x : Qt) (w : World) (hs : bdS s) (hx : okQ x) :
    Calls Try.prog 53 #[sndV s, qtV x] w fun e w' => e = .returned (.int .i64 (canG s x)) ∧ Below w.heap.size w w' := by
  obtain ⟨s0, s1, l0, l1, m0, m1, i0, i1, p0, p1⟩ := hs
  obtain ⟨x0, x1, x2, x3⟩ := hx
  unfold sndV qtV
  go_enter Try.func53, Try.ntmps53
  go_wp2
  go_ret
  exact ⟨rfl, by (repeat first | (with_reducible first | assumption | exact Below.refl _ _ | refine Bl.drew ?_ | refine Bl.drewN ?_ _ | refine Bl.alloc ?_ _ | refine Bl.set ?_ _ ?_) | (with_reducible apply Bl.step'; (focus (with_reducible assumption))) | omega | (focus (simp; done)) | (focus (simp; omega)))⟩
set_option maxHeartbeats 2000000 in
theorem after_c (s : Snd) (x : Qt) (u : Int) (w : World) (hs : bdS s) (hx : okQ x) (hu : 0 ≤ u) (hu2 : u ≤ 100) :
    Calls Try.prog 54 #[sndV s, qtV x, .int .i64 u] w fun e w' => e = .returned (sndV (aftG s x u)) ∧ Below w.heap.size w w' := by
  obtain ⟨s0, s1, l0, l1, m0, m1, i0, i1, p0, p1⟩ := hs
  obtain ⟨x0, x1, x2, x3⟩ := hx
  obtain ⟨h1, h2⟩ := mul_bd (a := x.p) (b := u) (A := 100000) (B := 100) (by omega) (by omega) (by omega) (by omega)
  unfold sndV qtV
  go_enter Try.func54, Try.ntmps54
  go_wp2
  go_returns
  exact ⟨rfl, by (repeat first | (with_reducible first | assumption | exact Below.refl _ _ | refine Bl.drew ?_ | refine Bl.drewN ?_ _ | refine Bl.alloc ?_ _ | refine Bl.set ?_ _ ?_) | (with_reducible apply Bl.step'; (focus (with_reducible assumption))) | omega | (focus (simp; done)) | (focus (simp; omega)))⟩
set_option maxHeartbeats 800000 in
theorem begin_c (p : Pla) (w : World) :
    Calls Try.prog 56 #[plaV p] w fun e w' => e = .returned (sndV (begG p)) ∧ Below w.heap.size w w' := by
  unfold plaV
  go_enter Try.func56, Try.ntmps56
  go_wp2
  go_returns
  exact ⟨rfl, by (repeat first | (with_reducible first | assumption | exact Below.refl _ _ | refine Bl.drew ?_ | refine Bl.drewN ?_ _ | refine Bl.alloc ?_ _ | refine Bl.set ?_ _ ?_) | (with_reducible apply Bl.step'; (focus (with_reducible assumption))) | omega | (focus (simp; done)) | (focus (simp; omega)))⟩
set_option maxHeartbeats 2000000 in
theorem better_c (t o : Tl) (w : World) :
    Calls Try.prog 55 #[tlV t, tlV o] w fun e w' => e = .returned (.bool (btr t o)) ∧ Below w.heap.size w w' := by
  unfold tlV
  by_cases h1 : t.inc > o.inc
  · have hb : btr t o = true := by unfold btr; exact decide_eq_true (Or.inl h1)
    rw [hb]
    have h2 : decide (o.inc < t.inc) = true := decide_eq_true h1
    go_enter Try.func55, Try.ntmps55
    go_wp2
    go_ret
    exact ⟨rfl, by (repeat first | (with_reducible first | assumption | exact Below.refl _ _ | refine Bl.drew ?_ | refine Bl.drewN ?_ _ | refine Bl.alloc ?_ _ | refine Bl.set ?_ _ ?_) | (with_reducible apply Bl.step'; (focus (with_reducible assumption))) | omega | (focus (simp; done)) | (focus (simp; omega)))⟩
  · have h2 : decide (o.inc < t.inc) = false := decide_eq_false h1
    by_cases h3 : t.inc = o.inc
    · have hb : btr t o = decide (o.lft < t.lft) := by unfold btr; congr 1; simp [h3]
      rw [hb]
      obtain ⟨ti, tl, ts⟩ := t
      obtain ⟨oi, ol, os⟩ := o
      subst h3
      go_enter Try.func55, Try.ntmps55
      go_wp2
      go_ret
      exact ⟨rfl, by (repeat first | (with_reducible first | assumption | exact Below.refl _ _ | refine Bl.drew ?_ | refine Bl.drewN ?_ _ | refine Bl.alloc ?_ _ | refine Bl.set ?_ _ ?_) | (with_reducible apply Bl.step'; (focus (with_reducible assumption))) | omega | (focus (simp; done)) | (focus (simp; omega)))⟩
    · have hb : btr t o = false := by unfold btr; exact decide_eq_false (by rintro (h | h); exact h1 h; exact h3 h.1)
      rw [hb]
      have h4 : (t.inc == o.inc) = false := by simpa using h3
      go_enter Try.func55, Try.ntmps55
      go_wp2
      go_ret
      exact ⟨rfl, by (repeat first | (with_reducible first | assumption | exact Below.refl _ _ | refine Bl.drew ?_ | refine Bl.drewN ?_ _ | refine Bl.alloc ?_ _ | refine Bl.set ?_ _ ?_) | (with_reducible apply Bl.step'; (focus (with_reducible assumption))) | omega | (focus (simp; done)) | (focus (simp; omega)))⟩
end Go.Proofs.Ytgljpjcclncknaa

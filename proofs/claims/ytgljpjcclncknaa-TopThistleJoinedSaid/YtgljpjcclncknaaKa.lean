/- What every seat uses: words of the walk, boxes, slices that are read. -/
import Derived.Test.YtgljpjcclncknaaChecked
import Derived.WalkKit
import Derived.WalkSpells
import Derived.WalkLawsBesides
import Derived.Deep.QuietTactic
import Derived.BigQuiet
import Derived.Deep.RegionHeld3
import Derived.Deep.RegionWith
import Derived.Deep.DeepCutAuto
import Derived.Deep.CutRange
import Derived.Deep.AppendLies
import Derived.Deep.Draws
import Derived.Maps.AppendAt
import Derived.Handy
import Derived.Lib.Hide
import Derived.OneCell
import Derived.OwnWalk
import Derived.IntWalk
import Derived.Lib.MinMax
import Derived.Laws.EntriesVeiled
namespace Go.Proofs.Ytgljpjcclncknaa
open Go.RowKit

/-- An error, or 0. -/
def rng (n lo hi : Int) : Int := if n < lo ∨ n > hi then 3 else 0
def whn (b : Bool) (e : Int) : Int := if b then e else 0
def firstErr : List Int → Int
  | [] => 0
  | x :: l => if x = 0 then firstErr l else x
theorem firstErr_append (l m : List Int) (h : firstErr l = 0) : firstErr (l ++ m) = firstErr m := by
  induction l with
  | nil => rfl
  | cons x l ih => simp only [firstErr, List.cons_append] at *; split at h <;> simp_all
theorem firstErr_take_succ (l : List Int) (k : Nat) (hk : k < l.length) (h : firstErr (l.take k) = 0) : firstErr (l.take (k + 1)) = l[k] := by
  rw [List.take_succ_eq_append_getElem hk, firstErr_append _ _ h]
  simp only [firstErr]; split <;> simp_all
theorem firstErr_at (l : List Int) (k : Nat) (hk : k < l.length) (h : firstErr (l.take k) = 0) (hn : l[k] ≠ 0) : firstErr l = l[k] := by
  have : l = l.take k ++ (l[k] :: l.drop (k + 1)) := by rw [← List.drop_eq_getElem_cons hk, List.take_append_drop]
  conv => lhs; rw [this, firstErr_append _ _ h]
  simp [firstErr, hn]
theorem ret_int {k : IntKind} {a b : Int} (h : a = b) : Ending.returned (.int k a) = .returned (.int k b) := by rw [h]
theorem ret_bool {a b : Bool} (h : a = b) : Ending.returned (.bool a) = .returned (.bool b) := by rw [h]

theorem bcell {W w1 : World} (hb : Below W.heap.size W w1) : (∀ b o, b < W.heap.size → w1.cell? ⟨b, o, none⟩ = W.cell? ⟨b, o, none⟩) ∧ (∀ b o, b < W.heap.size → w1.frozen? ⟨b, o, none⟩ = W.frozen? ⟨b, o, none⟩) :=
  ⟨fun b o h => hb.cell (p := ⟨b, o, none⟩) h, fun b o h => hb.frozen (p := ⟨b, o, none⟩) h⟩

@[simp, go_sem] theorem nlt2 (n : Nat) : n < n + 1 + 1 := by omega
@[simp, go_sem] theorem nle2 (n : Nat) : n ≤ n + 1 + 1 := by omega
@[simp, go_sem] theorem nlt3 (n : Nat) : n < n + 1 + 1 + 1 := by omega
@[simp, go_sem] theorem nle3 (n : Nat) : n ≤ n + 1 + 1 + 1 := by omega
@[simp, go_sem] theorem nlt4 (n : Nat) : n < n + 1 + 1 + 1 + 1 := by omega
@[simp, go_sem] theorem nle4 (n : Nat) : n ≤ n + 1 + 1 + 1 + 1 := by omega
@[simp, go_sem] theorem nlt5 (n : Nat) : n < n + 1 + 1 + 1 + 1 + 1 := by omega
@[simp, go_sem] theorem nle5 (n : Nat) : n ≤ n + 1 + 1 + 1 + 1 + 1 := by omega
@[simp, go_sem] theorem nlt6 (n : Nat) : n < n + 1 + 1 + 1 + 1 + 1 + 1 := by omega
@[simp, go_sem] theorem nle6 (n : Nat) : n ≤ n + 1 + 1 + 1 + 1 + 1 + 1 := by omega
@[simp, go_sem] theorem nlt7 (n : Nat) : n < n + 1 + 1 + 1 + 1 + 1 + 1 + 1 := by omega
@[simp, go_sem] theorem nle7 (n : Nat) : n ≤ n + 1 + 1 + 1 + 1 + 1 + 1 + 1 := by omega
@[simp, go_sem] theorem nlt8 (n : Nat) : n < n + 1 + 1 + 1 + 1 + 1 + 1 + 1 + 1 := by omega
@[simp, go_sem] theorem nle8 (n : Nat) : n ≤ n + 1 + 1 + 1 + 1 + 1 + 1 + 1 + 1 := by omega
/-- All cells that lie in W0 lie in W as they lay. -/
def Sx (W0 W : World) : Prop := W0.heap.size ≤ W.heap.size ∧ (∀ b o, b < W0.heap.size → W.cell? ⟨b, o, none⟩ = W0.cell? ⟨b, o, none⟩)
theorem Sx.goal {W0 W : World} (h : Sx W0 W) : W0.heap.size ≤ W.heap.size ∧ (∀ b o, b < W0.heap.size → W.cell? ⟨b, o, none⟩ = W0.cell? ⟨b, o, none⟩) := h
theorem Sx.refl (W : World) : Sx W W := ⟨Nat.le_refl _, fun _ _ _ => rfl⟩
theorem Sx.drew {W0 W : World} (h : Sx W0 W) : Sx W0 W.drew := h
theorem Sx.alloc {W0 W : World} (h : Sx W0 W) (o : Obj) : Sx W0 (W.alloc o) :=
  ⟨by simp; have := h.1; omega, fun b i hb => (World.cell?_alloc_lt W o ⟨b, i, none⟩ (Nat.lt_of_lt_of_le hb h.1)).trans (h.2 b i hb)⟩
theorem Sx.below {W0 W W' : World} (h : Sx W0 W) (hb : Below W.heap.size W W') : Sx W0 W' :=
  ⟨Nat.le_trans h.1 hb.size, fun b i hlt => (hb.cell (p := ⟨b, i, none⟩) (Nat.lt_of_lt_of_le hlt h.1)).trans (h.2 b i hlt)⟩

theorem Sx.set {W0 W : World} (h : Sx W0 W) {a : Addr} (v : Value) (hb : W0.heap.size ≤ a.block) : Sx W0 (W.setCell a v) :=
  ⟨by simpa using h.1, fun b i hlt => (World.cell?_setCell_other W a ⟨b, i, none⟩ v (fun e => by subst e; exact absurd hlt (Nat.not_lt.2 hb))).trans (h.2 b i hlt)⟩
theorem Sx.below' {W0 W W' : World} (hb : Below W.heap.size W W') (h : Sx W0 W) : Sx W0 W' := h.below hb
theorem Sx.at {W0 W : World} (hs : Sx W0 W) {b o : Nat} {v : Value} (h : W0.cell? ⟨b, o, none⟩ = some v) : W.cell? ⟨b, o, none⟩ = some v :=
  (hs.2 b o (World.block_lt_of_cell? W0 ⟨b, o, none⟩ h)).trans h
theorem Bl.drew {w W : World} (h : Below w.heap.size w W) : Below w.heap.size w W.drew := ⟨h.os, h.tape, h.output, h.size, h.block⟩
theorem Bl.drewN {w W : World} (h : Below w.heap.size w W) (n : Nat) : Below w.heap.size w (W.drewN n) := ⟨h.os, h.tape, h.output, h.size, h.block⟩
theorem Bl.alloc {w W : World} (h : Below w.heap.size w W) (o : Obj) : Below w.heap.size w (W.alloc o) := Below.alloc h h.size o
theorem Bl.set {w W : World} (h : Below w.heap.size w W) {a : Addr} (v : Value) (hb : w.heap.size ≤ a.block) : Below w.heap.size w (W.setCell a v) := h.setCell hb v
theorem Bl.step {w W W' : World} (h : Below w.heap.size w W) (hb : Below W.heap.size W W') : Below w.heap.size w W' := h.trans (hb.mono h.size)
theorem Bl.step' {w W W' : World} (hb : Below W.heap.size W W') (h : Below w.heap.size w W) : Below w.heap.size w W' := Bl.step h hb
theorem Bl.lt {w W : World} (h : Below w.heap.size w W) : w.heap.size ≤ W.heap.size := h.size

theorem bdec (p q : Prop) [Decidable p] [Decidable q] : (if decide p = true then true else decide q) = decide (p ∨ q) := by
  by_cases p <;> simp_all
/-- The cells of block b from k on hold these integers. -/
def CellsAt (w : World) (b : Nat) : Nat → List Int → Prop
  | _, [] => True
  | k, x :: l => w.cell? ⟨b, k, none⟩ = some (.int .i64 x) ∧ CellsAt w b (k + 1) l
theorem CellsAt.get {w : World} {b : Nat} {xs : List Int} {j : Nat} (h : CellsAt w b j xs) : ∀ k (hk : k < xs.length), w.cell? ⟨b, j + k, none⟩ = some (.int .i64 xs[k]) := by
  induction xs generalizing j with
  | nil => intro k hk; simp at hk
  | cons x l ih =>
    intro k hk
    cases k with
    | zero => exact h.1
    | succ k =>
      have := ih h.2 k (by simpa using hk)
      rw [show j + (k + 1) = j + 1 + k by omega]
      simpa using this

/-- All blocks that lie in W0 lie in W as they lay; cells too. -/
def Sh (W0 W : World) : Prop := W0.heap.size ≤ W.heap.size ∧ (∀ b o, b < W0.heap.size → W.cell? ⟨b, o, none⟩ = W0.cell? ⟨b, o, none⟩) ∧ (∀ b, b < W0.heap.size → W.heap[b]? = W0.heap[b]?)
theorem Sh.goal {W0 W : World} (h : Sh W0 W) : W0.heap.size ≤ W.heap.size ∧ (∀ b o, b < W0.heap.size → W.cell? ⟨b, o, none⟩ = W0.cell? ⟨b, o, none⟩) ∧ (∀ b, b < W0.heap.size → W.heap[b]? = W0.heap[b]?) := h
theorem Sh.refl (W : World) : Sh W W := ⟨Nat.le_refl _, fun _ _ _ => rfl, fun _ _ => rfl⟩
theorem Sh.drew {W0 W : World} (h : Sh W0 W) : Sh W0 W.drew := h
theorem Sh.alloc {W0 W : World} (h : Sh W0 W) (o : Obj) : Sh W0 (W.alloc o) :=
  ⟨by have := h.1; simp; omega, fun b i hb => (World.cell?_alloc_lt W o ⟨b, i, none⟩ (Nat.lt_of_lt_of_le hb h.1)).trans (h.2.1 b i hb), fun b hb => (Below.heap_alloc W o b (Nat.lt_of_lt_of_le hb h.1)).trans (h.2.2 b hb)⟩
theorem Sh.below' {W0 W W' : World} (hb : Below W.heap.size W W') (h : Sh W0 W) : Sh W0 W' :=
  ⟨Nat.le_trans h.1 hb.size, fun b i hlt => (hb.cell (p := ⟨b, i, none⟩) (Nat.lt_of_lt_of_le hlt h.1)).trans (h.2.1 b i hlt), fun b hlt => (hb.block b (Nat.lt_of_lt_of_le hlt h.1)).trans (h.2.2 b hlt)⟩
theorem Sh.set {W0 W : World} (h : Sh W0 W) {a : Addr} (v : Value) (hb : W0.heap.size ≤ a.block) : Sh W0 (W.setCell a v) :=
  ⟨by simpa using h.1, fun b i hlt => (World.cell?_setCell_other W a ⟨b, i, none⟩ v (fun e => by subst e; exact absurd hlt (Nat.not_lt.2 hb))).trans (h.2.1 b i hlt),
   fun b hlt => (Below.heap_setCell W a v b (by omega)).trans (h.2.2 b hlt)⟩
theorem Sh.at {W0 W : World} (hs : Sh W0 W) {b o : Nat} {v : Value} (h : W0.cell? ⟨b, o, none⟩ = some v) : W.cell? ⟨b, o, none⟩ = some v :=
  (hs.2.1 b o (World.block_lt_of_cell? W0 ⟨b, o, none⟩ h)).trans h
theorem Sh.at2 {W0 W : World} {r : Nat} (hr : r < W0.heap.size) (h : Sh W0 W) : W.heap[r]? = W0.heap[r]? := h.2.2 r hr
theorem zbl {p : Prop} (h : p := by (repeat first | (with_reducible first | assumption | exact Below.refl _ _ | refine Bl.drew ?_ | refine Bl.drewN ?_ _ | refine Bl.alloc ?_ _ | refine Bl.set ?_ _ ?_) | (with_reducible apply Bl.step'; (focus (with_reducible assumption))) | omega | (focus (simp; done)) | (focus (simp; omega)))) : p := h
theorem zsx {p : Prop} (h : p := by (repeat first | (with_reducible first | assumption | exact Sx.refl _ | refine Sx.drew ?_ | refine Sx.alloc ?_ _ | refine Sx.set ?_ _ ?_) | (with_reducible apply Sx.below'; (focus (with_reducible assumption))) | omega | (focus (simp; done)) | (focus (simp; omega)))) : p := h
theorem zsh {p : Prop} (h : p := by (repeat first | (with_reducible first | assumption | exact Sh.refl _ | refine Sh.drew ?_ | refine Sh.alloc ?_ _ | refine Sh.set ?_ _ ?_) | (with_reducible apply Sh.below'; (focus (with_reducible assumption))) | omega | (focus (simp; done)) | (focus (simp; omega)))) : p := h
section
variable {W : World} {b : Nat} {T : TypeId} {v0 v1 v2 v3 v4 v5 : Value}
theorem cv1 (h : W.heap[b]? = some (.cells #[v0] T (0, 0))) : W.cell? ⟨b, 0, none⟩ = some v0 ∧ W.frozen? ⟨b, 0, none⟩ = false := by
  refine ⟨(cell_of_row W b 0 _ _ _ h).trans rfl, frozen_of_row W b 0 _ _ h⟩
theorem cv2 (h : W.heap[b]? = some (.cells #[v0, v1] T (0, 0))) : W.cell? ⟨b, 0, none⟩ = some v0 ∧ W.frozen? ⟨b, 0, none⟩ = false ∧ W.cell? ⟨b, 1, none⟩ = some v1 ∧ W.frozen? ⟨b, 1, none⟩ = false := by
  refine ⟨(cell_of_row W b 0 _ _ _ h).trans rfl, frozen_of_row W b 0 _ _ h, (cell_of_row W b 1 _ _ _ h).trans rfl, frozen_of_row W b 1 _ _ h⟩
theorem cv3 (h : W.heap[b]? = some (.cells #[v0, v1, v2] T (0, 0))) : W.cell? ⟨b, 0, none⟩ = some v0 ∧ W.frozen? ⟨b, 0, none⟩ = false ∧ W.cell? ⟨b, 1, none⟩ = some v1 ∧ W.frozen? ⟨b, 1, none⟩ = false ∧ W.cell? ⟨b, 2, none⟩ = some v2 ∧ W.frozen? ⟨b, 2, none⟩ = false := by
  refine ⟨(cell_of_row W b 0 _ _ _ h).trans rfl, frozen_of_row W b 0 _ _ h, (cell_of_row W b 1 _ _ _ h).trans rfl, frozen_of_row W b 1 _ _ h, (cell_of_row W b 2 _ _ _ h).trans rfl, frozen_of_row W b 2 _ _ h⟩
theorem cv4 (h : W.heap[b]? = some (.cells #[v0, v1, v2, v3] T (0, 0))) : W.cell? ⟨b, 0, none⟩ = some v0 ∧ W.frozen? ⟨b, 0, none⟩ = false ∧ W.cell? ⟨b, 1, none⟩ = some v1 ∧ W.frozen? ⟨b, 1, none⟩ = false ∧ W.cell? ⟨b, 2, none⟩ = some v2 ∧ W.frozen? ⟨b, 2, none⟩ = false ∧ W.cell? ⟨b, 3, none⟩ = some v3 ∧ W.frozen? ⟨b, 3, none⟩ = false := by
  refine ⟨(cell_of_row W b 0 _ _ _ h).trans rfl, frozen_of_row W b 0 _ _ h, (cell_of_row W b 1 _ _ _ h).trans rfl, frozen_of_row W b 1 _ _ h, (cell_of_row W b 2 _ _ _ h).trans rfl, frozen_of_row W b 2 _ _ h, (cell_of_row W b 3 _ _ _ h).trans rfl, frozen_of_row W b 3 _ _ h⟩
theorem cv5 (h : W.heap[b]? = some (.cells #[v0, v1, v2, v3, v4] T (0, 0))) : W.cell? ⟨b, 0, none⟩ = some v0 ∧ W.frozen? ⟨b, 0, none⟩ = false ∧ W.cell? ⟨b, 1, none⟩ = some v1 ∧ W.frozen? ⟨b, 1, none⟩ = false ∧ W.cell? ⟨b, 2, none⟩ = some v2 ∧ W.frozen? ⟨b, 2, none⟩ = false ∧ W.cell? ⟨b, 3, none⟩ = some v3 ∧ W.frozen? ⟨b, 3, none⟩ = false ∧ W.cell? ⟨b, 4, none⟩ = some v4 ∧ W.frozen? ⟨b, 4, none⟩ = false := by
  refine ⟨(cell_of_row W b 0 _ _ _ h).trans rfl, frozen_of_row W b 0 _ _ h, (cell_of_row W b 1 _ _ _ h).trans rfl, frozen_of_row W b 1 _ _ h, (cell_of_row W b 2 _ _ _ h).trans rfl, frozen_of_row W b 2 _ _ h, (cell_of_row W b 3 _ _ _ h).trans rfl, frozen_of_row W b 3 _ _ h, (cell_of_row W b 4 _ _ _ h).trans rfl, frozen_of_row W b 4 _ _ h⟩
theorem cv6 (h : W.heap[b]? = some (.cells #[v0, v1, v2, v3, v4, v5] T (0, 0))) : W.cell? ⟨b, 0, none⟩ = some v0 ∧ W.frozen? ⟨b, 0, none⟩ = false ∧ W.cell? ⟨b, 1, none⟩ = some v1 ∧ W.frozen? ⟨b, 1, none⟩ = false ∧ W.cell? ⟨b, 2, none⟩ = some v2 ∧ W.frozen? ⟨b, 2, none⟩ = false ∧ W.cell? ⟨b, 3, none⟩ = some v3 ∧ W.frozen? ⟨b, 3, none⟩ = false ∧ W.cell? ⟨b, 4, none⟩ = some v4 ∧ W.frozen? ⟨b, 4, none⟩ = false ∧ W.cell? ⟨b, 5, none⟩ = some v5 ∧ W.frozen? ⟨b, 5, none⟩ = false := by
  refine ⟨(cell_of_row W b 0 _ _ _ h).trans rfl, frozen_of_row W b 0 _ _ h, (cell_of_row W b 1 _ _ _ h).trans rfl, frozen_of_row W b 1 _ _ h, (cell_of_row W b 2 _ _ _ h).trans rfl, frozen_of_row W b 2 _ _ h, (cell_of_row W b 3 _ _ _ h).trans rfl, frozen_of_row W b 3 _ _ h, (cell_of_row W b 4 _ _ _ h).trans rfl, frozen_of_row W b 4 _ _ h, (cell_of_row W b 5 _ _ _ h).trans rfl, frozen_of_row W b 5 _ _ h⟩
theorem cg4 (h : W.heap[b]? = some (.cells #[v0, v1, v2, v3] T (0, 0))) : W.cell? ⟨b, 0, none⟩ = some v0 ∧ W.cell? ⟨b, 1, none⟩ = some v1 ∧ W.cell? ⟨b, 2, none⟩ = some v2 ∧ W.cell? ⟨b, 3, none⟩ = some v3 :=
  ⟨(cell_of_row W b 0 _ _ _ h).trans rfl, (cell_of_row W b 1 _ _ _ h).trans rfl, (cell_of_row W b 2 _ _ _ h).trans rfl, (cell_of_row W b 3 _ _ _ h).trans rfl⟩
end
theorem zh {p : Prop} (h : p) : Hid p := Lib.hid h
abbrev SHd (X : World) : World → Prop := fun W => X.heap.size ≤ W.heap.size ∧ (∀ b o, b < X.heap.size → W.cell? ⟨b, o, none⟩ = X.cell? ⟨b, o, none⟩) ∧ (∀ b, b < X.heap.size → W.heap[b]? = X.heap[b]?)
abbrev SSd (X : World) : World → Prop := fun W => X.heap.size ≤ W.heap.size ∧ (∀ b o, b < X.heap.size → W.cell? ⟨b, o, none⟩ = X.cell? ⟨b, o, none⟩)
/-- The slice at A holds the elements l, each of sz cells, in a block below B. -/
def Rw (w : World) (B sz : Nat) (A : Option Addr) (l : List (List Value)) : Prop :=
  l ≠ [] → ∃ b off, A = some ⟨b, off, none⟩ ∧ b < B ∧ ∀ k (h : k < l.length) (j : Nat) (v : Value), l[k][j]? = some v → w.cell? ⟨b, off + k * sz + j, none⟩ = some v
section
variable {w w' : World} {B sz : Nat} {A : Option Addr} {l : List (List Value)}
theorem Rw.nil_ : Rw w B sz A [] := fun h => absurd rfl h
theorem Rw.keep (h : Rw w B sz A l) (hk : ∀ b o, b < B → w'.cell? ⟨b, o, none⟩ = w.cell? ⟨b, o, none⟩) : Rw w' B sz A l := fun hn => by
  obtain ⟨b, off, e, hb, hc⟩ := h hn
  exact ⟨b, off, e, hb, fun k hk' j v hv => (hk _ _ hb).trans (hc k hk' j v hv)⟩
theorem Rw.more {B' : Nat} (h : Rw w B sz A l) (hB : B ≤ B') : Rw w B' sz A l := fun hn => by
  obtain ⟨b, off, e, hb, hc⟩ := h hn
  exact ⟨b, off, e, by omega, hc⟩
theorem Rw.below (h : Rw w B sz A l) (hb : Below w.heap.size w w') (hB : B ≤ w.heap.size) : Rw w' B sz A l :=
  h.keep fun b o hlt => hb.cell (p := ⟨b, o, none⟩) (by show b < _; omega)
theorem Rw.belowB {w0 : World} (h : Rw w B sz A l) (hb : Below w0.heap.size w w') (hB : B ≤ w0.heap.size) : Rw w' B sz A l :=
  h.keep fun b o hlt => hb.cell (p := ⟨b, o, none⟩) (by show b < _; omega)
theorem Rw.get {k : Nat} (h : Rw w B sz A l) (hk : k < l.length) : ∃ b off, A = some ⟨b, off, none⟩ ∧ b < B ∧ ∀ (j : Nat) (v : Value), l[k][j]? = some v → w.cell? ⟨b, off + k * sz + j, none⟩ = some v := by
  obtain ⟨b, off, e, hb, hc⟩ := h (by intro e; subst e; simp at hk)
  exact ⟨b, off, e, hb, hc k hk⟩
theorem Rw.get1 {k : Nat} (h : Rw w B 1 A l) (hk : k < l.length) {v0 : Value} (hv : l[k] = [v0]) :
    ∃ b off, A = some ⟨b, off, none⟩ ∧ b < B ∧ w.cell? ⟨b, off + k, none⟩ = some v0 := by
  obtain ⟨b, off, e, hb, hc⟩ := h.get hk
  exact ⟨b, off, e, hb, by have := hc 0 v0 (by rw [hv]; rfl); simpa using this⟩
theorem Rw.get3 {k : Nat} (h : Rw w B 3 A l) (hk : k < l.length) {v0 v1 v2 : Value} (hv : l[k] = [v0, v1, v2]) :
    ∃ b off, A = some ⟨b, off, none⟩ ∧ b < B ∧ w.cell? ⟨b, off + k * 3, none⟩ = some v0 ∧ w.cell? ⟨b, off + k * 3 + 1, none⟩ = some v1 ∧ w.cell? ⟨b, off + k * 3 + 2, none⟩ = some v2 := by
  obtain ⟨b, off, e, hb, hc⟩ := h.get hk
  exact ⟨b, off, e, hb, hc 0 v0 (by rw [hv]; rfl), hc 1 v1 (by rw [hv]; rfl), hc 2 v2 (by rw [hv]; rfl)⟩
theorem Rw.get4 {k : Nat} (h : Rw w B 4 A l) (hk : k < l.length) {v0 v1 v2 v3 : Value} (hv : l[k] = [v0, v1, v2, v3]) :
    ∃ b off, A = some ⟨b, off, none⟩ ∧ b < B ∧ w.cell? ⟨b, off + k * 4, none⟩ = some v0 ∧ w.cell? ⟨b, off + k * 4 + 1, none⟩ = some v1 ∧ w.cell? ⟨b, off + k * 4 + 2, none⟩ = some v2 ∧ w.cell? ⟨b, off + k * 4 + 3, none⟩ = some v3 := by
  obtain ⟨b, off, e, hb, hc⟩ := h.get hk
  exact ⟨b, off, e, hb, hc 0 v0 (by rw [hv]; rfl), hc 1 v1 (by rw [hv]; rfl), hc 2 v2 (by rw [hv]; rfl), hc 3 v3 (by rw [hv]; rfl)⟩
theorem Rw.get6 {k : Nat} (h : Rw w B 6 A l) (hk : k < l.length) {v0 v1 v2 v3 v4 v5 : Value} (hv : l[k] = [v0, v1, v2, v3, v4, v5]) :
    ∃ b off, A = some ⟨b, off, none⟩ ∧ b < B ∧ w.cell? ⟨b, off + k * 6, none⟩ = some v0 ∧ w.cell? ⟨b, off + k * 6 + 1, none⟩ = some v1 ∧ w.cell? ⟨b, off + k * 6 + 2, none⟩ = some v2 ∧
      w.cell? ⟨b, off + k * 6 + 3, none⟩ = some v3 ∧ w.cell? ⟨b, off + k * 6 + 4, none⟩ = some v4 ∧ w.cell? ⟨b, off + k * 6 + 5, none⟩ = some v5 := by
  obtain ⟨b, off, e, hb, hc⟩ := h.get hk
  exact ⟨b, off, e, hb, hc 0 v0 (by rw [hv]; rfl), hc 1 v1 (by rw [hv]; rfl), hc 2 v2 (by rw [hv]; rfl), hc 3 v3 (by rw [hv]; rfl), hc 4 v4 (by rw [hv]; rfl), hc 5 v5 (by rw [hv]; rfl)⟩
end

/-- The first index at which p holds, or -1. -/
def idxF {α : Type} (p : α → Bool) : List α → Int
  | [] => -1
  | x :: l => if p x then 0 else (if idxF p l < 0 then -1 else idxF p l + 1)
theorem idxF_none {α : Type} (p : α → Bool) (l : List α) (h : ∀ x ∈ l, p x = false) : idxF p l = -1 := by
  induction l with
  | nil => rfl
  | cons x l ih => simp [idxF, h x (by simp), ih (fun y hy => h y (by simp [hy]))]
theorem idxF_lt {α : Type} (p : α → Bool) (l : List α) : idxF p l < l.length ∧ -1 ≤ idxF p l := by
  induction l with
  | nil => simp [idxF]
  | cons x l ih =>
    simp only [idxF, List.length_cons]; split
    · omega
    · split <;> omega
theorem idxF_at {α : Type} (p : α → Bool) (l : List α) (k : Nat) (hk : k < l.length) (h : ∀ x ∈ l.take k, p x = false) (hp : p l[k] = true) : idxF p l = k := by
  induction l generalizing k with
  | nil => simp at hk
  | cons x l ih =>
    cases k with
    | zero => simp at hp; simp [idxF, hp]
    | succ k =>
      have hx : p x = false := h x (by simp)
      have := ih k (by simpa using hk) (fun y hy => h y (by simp [hy])) (by simpa using hp)
      simp only [idxF, hx, this]
      rw [if_neg (by decide), if_neg (by omega)]; omega
theorem idxF_any {α : Type} (p : α → Bool) (l : List α) : decide (0 ≤ idxF p l) = l.any p := by
  induction l with
  | nil => simp [idxF]
  | cons x l ih =>
    simp only [idxF, List.any_cons]
    by_cases hx : p x
    · simp [hx]
    · simp only [hx, Bool.false_or]
      rw [← ih]
      have := idxF_lt p l
      by_cases h0 : idxF p l < 0
      · simp [h0]
      · simp [h0]; omega
theorem take_all {α : Type} {p : α → Bool} {l : List α} {k : Nat} (hk : k < l.length) (h : ∀ x ∈ l.take k, p x = false) (hp : p l[k] = false) : ∀ x ∈ l.take (k + 1), p x = false := by
  intro x hx
  rw [List.take_succ_eq_append_getElem hk] at hx
  simp only [List.mem_append, List.mem_singleton] at hx
  rcases hx with hx | rfl
  · exact h x hx
  · exact hp
theorem cell_heap {w w' : World} {b : Nat} (h : w'.heap[b]? = w.heap[b]?) (o : Nat) : w'.cell? ⟨b, o, none⟩ = w.cell? ⟨b, o, none⟩ := by
  unfold World.cell?; simp only [h]
theorem flat_at {α : Type} {n : Nat} : ∀ {l : List (List α)}, (∀ x ∈ l, x.length = n) → ∀ {k : Nat} (hk : k < l.length) {j : Nat}, j < n → l.flatten[k * n + j]? = l[k][j]?
  | x :: l, h, 0, _, j, hj => by
    rw [List.flatten_cons, List.getElem?_append_left (by rw [h x (by simp)]; omega)]; simp
  | x :: l, h, k + 1, hk, j, hj => by
    have hx := h x (by simp)
    rw [List.flatten_cons, List.getElem?_append_right (by rw [hx, Nat.succ_mul]; omega), hx, show (k + 1) * n + j - n = k * n + j by rw [Nat.succ_mul]; omega]
    simpa using flat_at (fun y hy => h y (by simp [hy])) (k := k) (by simpa using hk) hj
theorem flat_len {α : Type} {n : Nat} : ∀ {l : List (List α)}, (∀ x ∈ l, x.length = n) → l.flatten.length = l.length * n
  | [], _ => by simp
  | x :: l, h => by rw [List.flatten_cons, List.length_append, h x (by simp), flat_len fun y hy => h y (by simp [hy]), List.length_cons, Nat.succ_mul]; omega
theorem ownsRow_mono {w : World} {base base' : Nat} {e : TypeId} {size : Nat} {v : Value} {n : Nat} {xs : List Value} (h : w.ownsRow base e size v n xs) (hb : base' ≤ base) : w.ownsRow base' e size v n xs := by
  refine ⟨h.1, ?_⟩
  rcases h.2 with hn | ⟨g, cap, cur, h1, h2, h3⟩
  · exact .inl hn
  · exact .inr ⟨g, cap, cur, h1, Nat.le_trans hb h2, h3⟩
theorem add0 (g n : Nat) : (⟨g, 0, none⟩ : Addr).add n = ⟨g, n, none⟩ := by unfold Addr.add; split <;> simp_all
theorem flatten_at {sz : Nat} : ∀ {l : List (List Value)}, (∀ x ∈ l, x.length = sz) → ∀ k (hk : k < l.length) (j : Nat) (v : Value), l[k][j]? = some v → l.flatten[k * sz + j]? = some v
  | x :: l, h, 0, _, j, v, hv => by
    have hv : x[j]? = some v := hv
    have hj := (List.getElem?_eq_some_iff.1 hv).1
    rw [List.flatten_cons, Nat.zero_mul, Nat.zero_add, List.getElem?_append_left hj]
    exact hv
  | x :: l, h, k + 1, hk, j, v, hv => by
    have hx := h x (by simp)
    rw [List.flatten_cons, List.getElem?_append_right (by rw [hx, Nat.succ_mul]; omega), hx, Nat.succ_mul, show k * sz + sz + j - sz = k * sz + j by omega]
    exact flatten_at (fun y hy => h y (by simp [hy])) k (by simpa using hk) j v hv
/-- All blocks that lie in U but one lie in W as they lay. -/
def Ke (p : Nat) (U W : World) : Prop := U.heap.size ≤ W.heap.size ∧ ∀ b, b < U.heap.size → b ≠ p → W.heap[b]? = U.heap[b]?
theorem Ke.refl (p : Nat) (U : World) : Ke p U U := ⟨Nat.le_refl _, fun _ _ _ => rfl⟩
theorem Ke.rw_ {p B sz : Nat} {U W : World} {A : Option Addr} {l : List (List Value)} (h : Rw U B sz A l) (hk : Ke p U W) (hB : B ≤ U.heap.size) (hp : ∀ a, A = some a → a.block ≠ p) : Rw W B sz A l := fun hn => by
  obtain ⟨b, off, e, hb, hc⟩ := h hn
  refine ⟨b, off, e, hb, fun k hk' j v hv => ?_⟩
  have h1 := hk.2 b (Nat.lt_of_lt_of_le hb hB) (hp _ e)
  rw [← hc k hk' j v hv]
  unfold World.cell?
  simp only [h1]
theorem gr_block {w w' : World} {row : Option Nat} {k : Nat} (h : w.grownBy w' row) (hk : k < w.heap.size) (hne : row ≠ some k) : w'.heap[k]? = w.heap[k]? := by
  first | exact h.block k hk hne | exact h.block k hk (Ne.symm hne) | exact h.block k hk (fun e => hne e.symm)
theorem own_form {w : World} {base n sz : Nat} {T : TypeId} {v : Value} {l : List Value} (h : w.ownsRow base T sz v n l) : ∃ A c, v = .slice A n c := by
  rcases h.2 with ⟨hv, h0⟩ | ⟨g, cap, cur, hv, _⟩
  · exact ⟨none, 0, by rw [hv, h0]⟩
  · exact ⟨_, _, hv⟩
theorem own_rw {w : World} {base n sz : Nat} {T : TypeId} {v : Value} {l : List (List Value)} (h : w.ownsRow base T sz v n l.flatten) (hn : l.length = n) (hl : ∀ x ∈ l, x.length = sz) :
    ∃ A c, v = .slice A n c ∧ n ≤ c ∧ Rw w w.heap.size sz A l ∧ ∀ a, A = some a → base ≤ a.block := by
  rcases h.2 with ⟨hv, h0⟩ | ⟨g, cap, cur, hv, hb, hg, hc, _⟩
  · exact ⟨none, 0, by rw [hv, h0], by omega, fun hne => absurd (List.eq_nil_of_length_eq_zero (by omega)) hne, fun a ha => by cases ha⟩
  · subst hv
    have hlt : g < w.heap.size := (Array.getElem?_eq_some_iff.1 hg).1
    refine ⟨some ⟨g, 0, none⟩, cap, rfl, hc, fun _ => ⟨g, 0, rfl, hlt, fun k hk j u hj => ?_⟩, fun a ha => by cases ha; exact hb⟩
    have := h.cells (g := g) rfl (k * sz + j) u (flatten_at hl k hk j u hj)
    rw [add0] at this
    simpa using this
theorem Ke.set4 {p : Nat} (W : World) (v0 v1 v2 v3 : Value) : Ke p W ((((W.setCell ⟨p, 0, none⟩ v0).setCell ⟨p, 1, none⟩ v1).setCell ⟨p, 2, none⟩ v2).setCell ⟨p, 3, none⟩ v3) :=
  ⟨by simp, fun b _ hne => by
    rw [heap_setCell_other _ _ _ _ hne, heap_setCell_other _ _ _ _ hne, heap_setCell_other _ _ _ _ hne, heap_setCell_other _ _ _ _ hne]⟩
theorem Ke.trans {p : Nat} {U V W : World} (h : Ke p U V) (k : Ke p V W) : Ke p U W := ⟨Nat.le_trans h.1 k.1, fun b hb hne => (k.2 b (Nat.lt_of_lt_of_le hb h.1) hne).trans (h.2 b hb hne)⟩
theorem blk_lt {U : World} {b : Nat} {c : Obj} (h : U.heap[b]? = some c) : b < U.heap.size := (Array.getElem?_eq_some_iff.1 h).1
theorem blk_step {U W : World} {b : Nat} {c : Obj} (hb : Below U.heap.size U W) (h : U.heap[b]? = some c) : W.heap[b]? = some c := (hb.block b (blk_lt h)).trans h
theorem blk_alloc {U : World} {b : Nat} {c o : Obj} (h : U.heap[b]? = some c) : (U.alloc o).heap[b]? = some c := (Below.heap_alloc _ _ _ (blk_lt h)).trans h
theorem blk_drew {U : World} {b : Nat} {c : Obj} (h : U.heap[b]? = some c) : U.drew.heap[b]? = some c := h
theorem blk_new {U : World} {b : Nat} {o : Obj} (hb : b = U.heap.size) : (U.alloc o).heap[b]? = some o := by subst hb; exact heap_alloc_new _ _
theorem heap4_0 (w : World) (x y z u : Obj) : ((((w.alloc x).alloc y).alloc z).alloc u).heap[w.heap.size]? = some x :=
  (Below.heap_alloc _ _ _ (by simp)).trans ((Below.heap_alloc _ _ _ (by simp)).trans ((Below.heap_alloc _ _ _ (by simp)).trans (heap_alloc_new w _)))
theorem heap4_1 (w : World) (x y z u : Obj) : ((((w.alloc x).alloc y).alloc z).alloc u).heap[w.heap.size + 1]? = some y := by
  refine (Below.heap_alloc _ _ _ (by simp)).trans ((Below.heap_alloc _ _ _ (by simp)).trans ?_)
  have := heap_alloc_new (w.alloc x) y
  rwa [World.size_alloc] at this
theorem heap4_2 (w : World) (x y z u : Obj) : ((((w.alloc x).alloc y).alloc z).alloc u).heap[w.heap.size + 1 + 1]? = some z := by
  refine (Below.heap_alloc _ _ _ (by simp)).trans ?_
  have := heap_alloc_new ((w.alloc x).alloc y) z
  rwa [World.size_alloc, World.size_alloc] at this
theorem heap4_3 (w : World) (x y z u : Obj) : ((((w.alloc x).alloc y).alloc z).alloc u).heap[w.heap.size + 1 + 1 + 1]? = some u := by
  have := heap_alloc_new (((w.alloc x).alloc y).alloc z) u
  rwa [World.size_alloc, World.size_alloc, World.size_alloc] at this
theorem Below.set3 {B : Nat} {a w : World} (h : Below B a w) {b : Nat} (hb : B ≤ b) (v0 v1 v2 : Value) : Below B a (((w.setCell ⟨b, 0, none⟩ v0).setCell ⟨b, 1, none⟩ v1).setCell ⟨b, 2, none⟩ v2) :=
  Below.setCell (Below.setCell (Below.setCell h (p := ⟨b, 0, none⟩) hb _) (p := ⟨b, 1, none⟩) hb _) (p := ⟨b, 2, none⟩) hb _
/-- The slice at A (of some capacity c) holds the ints l, below B. -/
def IntsR (w : World) (B : Nat) (A : Option Addr) (l : List Int) : Prop := Rw w B 1 A (l.map fun x => [Value.int .i64 x])
def StrsR (w : World) (B : Nat) (A : Option Addr) (l : List ByteArray) : Prop := Rw w B 1 A (l.map fun s => [Value.string s])
theorem StrsR.get {w : World} {B : Nat} {A : Option Addr} {l : List ByteArray} (h : StrsR w B A l) {k : Nat} (hk : k < l.length) : ∃ b off, A = some ⟨b, off, none⟩ ∧ b < B ∧ w.cell? ⟨b, off + k, none⟩ = some (.string l[k]) :=
  Rw.get1 h (k := k) (by simpa using hk) (by rw [List.getElem_map])
theorem take_eq_succ {α : Type} {xs ys : List α} {k : Nat} (h1 : k < xs.length) (h2 : k < ys.length) (h : xs.take k = ys.take k) (he : xs[k] = ys[k]) : xs.take (k + 1) = ys.take (k + 1) := by
  rw [List.take_succ_eq_append_getElem h1, List.take_succ_eq_append_getElem h2, h, he]
theorem ba_toList {x y : ByteArray} (e : x.toList = y.toList) : x = y := by
  rw [ByteArray.toList_eq, ByteArray.toList_eq] at e
  cases x; cases y
  simp only [Array.toList_inj] at e
  rw [e]
theorem IntsR.to {w W : World} {A : Option Addr} {l : List Int} (h : IntsR w w.heap.size A l) (hb : Below w.heap.size w W) : IntsR W W.heap.size A l := Rw.more (Rw.belowB (w0 := w) h hb (Nat.le_refl _)) hb.size
theorem StrsR.to {w W : World} {A : Option Addr} {l : List ByteArray} (h : StrsR w w.heap.size A l) (hb : Below w.heap.size w W) : StrsR W W.heap.size A l := Rw.more (Rw.belowB (w0 := w) h hb (Nat.le_refl _)) hb.size
theorem heap_two (w : World) (x y : Obj) : ((w.alloc x).alloc y).heap[w.heap.size + 1]? = some y := by
  have := heap_alloc_new (w.alloc x) y
  rwa [World.size_alloc] at this
theorem Ke.of {p : Nat} {U W : World} (h : Below U.heap.size U W) : Ke p U W := ⟨h.size, fun b hb _ => h.block b hb⟩
theorem cells_new (W : World) (b : Nat) (hb : b = W.heap.size) (o : Array Value) (t : TypeId) (k : Nat) : (W.alloc (.cells o t)).cell? ⟨b, k, none⟩ = o[k]? := by
  subst hb
  have := heap_alloc_new W (.cells o t)
  unfold World.cell?
  simp only [this]
  cases o[k]? <;> simp
theorem set3_block {W : World} {b : Nat} {T : TypeId} {a0 a1 a2 v0 v1 v2 : Value} (h : W.heap[b]? = some (.cells #[a0, a1, a2] T (0, 0))) :
    (((W.setCell ⟨b, 0, none⟩ v0).setCell ⟨b, 1, none⟩ v1).setCell ⟨b, 2, none⟩ v2).heap[b]? = some (.cells #[v0, v1, v2] T (0, 0)) :=
  heap_setCell_same _ b 2 _ T v2 (heap_setCell_same _ b 1 _ T v1 (heap_setCell_same W b 0 _ T v0 h))
theorem set2_block {W : World} {b : Nat} {T : TypeId} {a0 a1 v0 v1 : Value} (h : W.heap[b]? = some (.cells #[a0, a1] T (0, 0))) :
    ((W.setCell ⟨b, 0, none⟩ v0).setCell ⟨b, 1, none⟩ v1).heap[b]? = some (.cells #[v0, v1] T (0, 0)) :=
  heap_setCell_same _ b 1 _ T v1 (heap_setCell_same W b 0 _ T v0 h)
theorem set2_other {W : World} {b d : Nat} (v0 v1 : Value) (h : d ≠ b) : ((W.setCell ⟨b, 0, none⟩ v0).setCell ⟨b, 1, none⟩ v1).heap[d]? = W.heap[d]? := by
  rw [heap_setCell_other _ _ _ _ h, heap_setCell_other _ _ _ _ h]
theorem Below.set2 {B : Nat} {a w : World} (h : Below B a w) {b : Nat} (hb : B ≤ b) (v0 v1 : Value) : Below B a ((w.setCell ⟨b, 0, none⟩ v0).setCell ⟨b, 1, none⟩ v1) :=
  Below.setCell (Below.setCell h (p := ⟨b, 0, none⟩) hb _) (p := ⟨b, 1, none⟩) hb _
end Go.Proofs.Ytgljpjcclncknaa

/- Lists of layers that a call has made. -/
import Derived.Test.YtgljpjcclncknaaTs5
import Derived.Deep.RegionLaw
import Derived.Laws.OwnMore
namespace Go.Proofs.Ytgljpjcclncknaa
open Go.RowKit

def zeroLay : Value := .agg #[.int .i64 0, .int .i64 0]
theorem Try.infoLay : (Try.prog.info? 76).map (fun i => (i.zero, i.size, i.bytes)) = some (some zeroLay, 2, 16) := by kernel_rfl
theorem encL_len {ys : List Lay} : ∀ x ∈ ys.map encL, x.length = 2 := by
  intro x hx; obtain ⟨m, _, rfl⟩ := List.mem_map.1 hx; rfl
theorem flatL_len (ys : List Lay) : (ys.map encL).flatten.length = ys.length * 2 := by rw [flat_len (n := 2) encL_len, List.length_map]
theorem flatL_app (ys zs : List Lay) : ((ys ++ zs).map encL).flatten = (ys.map encL).flatten ++ (zs.map encL).flatten := by simp
/-- The slice holds these layers, in a block that the call has made. -/
def OwnL (w : World) (base : Nat) (A : Option Addr) (c : Nat) (ys : List Lay) : Prop := w.ownsRow base 76 2 (.slice A ys.length c) ys.length (ys.map encL).flatten
theorem OwnL.nil_ (w : World) (base : Nat) : OwnL w base none 0 [] := World.ownsRow_nil _ _ _ _
theorem OwnL.below {w w' : World} {base c : Nat} {A : Option Addr} {ys : List Lay} (h : OwnL w base A c ys) (hb : Below w.heap.size w w') : OwnL w' base A c ys :=
  World.ownsRow.kept h (row := none) ⟨hb.os, hb.tape, hb.output, hb.size, fun k hk _ => hb.block k hk⟩ (by cases A <;> simp [Value.ownBlock])
theorem OwnL.keep {w w' : World} {base c : Nat} {A : Option Addr} {ys : List Lay} (h : OwnL w base A c ys) {row : Option Nat} (hg : w.grownBy w' row) (hr : ∀ a, A = some a → row ≠ some a.block) : OwnL w' base A c ys :=
  World.ownsRow.kept h hg (by
    cases A with
    | none => exact .inl rfl
    | some a => exact .inr fun e => hr a rfl e.symm)
theorem OwnL.mono {w : World} {base base' c : Nat} {A : Option Addr} {ys : List Lay} (h : OwnL w base A c ys) (hb : base' ≤ base) : OwnL w base' A c ys := ownsRow_mono h hb
theorem OwnL.row {w : World} {base c : Nat} {A : Option Addr} {ys : List Lay} (h : OwnL w base A c ys) : Rw w w.heap.size 2 A (ys.map encL) ∧ ys.length ≤ c ∧ ∀ a, A = some a → base ≤ a.block ∧ a.block < w.heap.size ∧ a = ⟨a.block, 0, none⟩ := by
  obtain ⟨A', c', e, h1, h2, h3⟩ := own_rw h (by simp) encL_len
  injection e with e1 _ e3
  subst e1 e3
  refine ⟨h2, h1, fun a ha => ?_⟩
  rcases h.2 with ⟨hv, _⟩ | ⟨g, cap, cur, hv, hb, hg, _⟩
  · rw [ha] at hv; cases hv
  · rw [ha] at hv
    cases hv
    exact ⟨hb, (Array.getElem?_eq_some_iff.1 hg).1, rfl⟩
theorem OwnL.shrink {w : World} {base g c : Nat} {ys : List Lay} {y : Lay} (h : OwnL w base (some ⟨g, 0, none⟩) c (ys ++ [y])) : OwnL w base (some ⟨g, 0, none⟩) c ys := by
  unfold OwnL at h ⊢
  rcases h.2 with ⟨hv, _⟩ | ⟨g', cap, cur, hv, hb, hg, hc, hm, hs, ht⟩
  · cases hv
  · injection hv with h1 h2 h3
    injection h1 with h1
    injection h1 with h1
    subst h1 h3
    refine ⟨flatL_len ys, .inr ⟨g, _, cur, rfl, hb, hg, by simp at hc; omega, hm, hs, ?_⟩⟩
    rw [flatL_app] at ht
    have h5 := congrArg (List.take (ys.length * 2)) ht
    rw [List.take_take, List.take_left' (flatL_len ys), List.length_append, List.length_singleton, Nat.min_eq_left (by omega)] at h5
    exact h5
theorem OwnL.put {w : World} {base g c : Nat} {ys : List Lay} {x z : Lay} (h : OwnL w base (some ⟨g, 0, none⟩) c (ys ++ [x])) :
    OwnL ((w.setCell ⟨g, ys.length * 2, none⟩ (.int .i64 z.a)).setCell ⟨g, ys.length * 2 + 1, none⟩ (.int .i64 z.h)) base (some ⟨g, 0, none⟩) c (ys ++ [z]) := by
  unfold OwnL at h ⊢
  have h1 := ((h.stored (ys.length * 2) (.int .i64 z.a)).1.stored (ys.length * 2 + 1) (.int .i64 z.h)).1
  have e : (((ys ++ [x]).map encL).flatten.set (ys.length * 2) (Value.int .i64 z.a)).set (ys.length * 2 + 1) (Value.int .i64 z.h) = ((ys ++ [z]).map encL).flatten := by
    rw [flatL_app, flatL_app, List.set_append_right _ _ (by rw [flatL_len]; omega), flatL_len, List.set_append_right _ _ (by rw [flatL_len]; omega), flatL_len]
    simp [encL]
  rw [e] at h1
  simpa using h1
theorem OwnL.fz {w : World} {base c : Nat} {g : Nat} {ys : List Lay} (h : OwnL w base (some ⟨g, 0, none⟩) c ys) (j : Nat) : w.frozen? ⟨g, j, none⟩ = false := World.ownsRow.frozenAt h j
theorem OwnL.app {w : World} {base : Nat} {v : Value} {ys : List Lay} {y : Lay} (h : w.ownsRow base 76 2 v (ys.length + 1) ((ys.map encL).flatten ++ encL y)) : ∃ A c, v = .slice A (ys ++ [y]).length c ∧ OwnL w base A c (ys ++ [y]) := by
  have h2 : w.ownsRow base 76 2 v (ys ++ [y]).length ((ys ++ [y]).map encL).flatten := by rw [flatL_app]; simpa using h
  obtain ⟨A, c, e⟩ := own_form h2
  exact ⟨A, c, e, by unfold OwnL; rw [← e]; exact h2⟩
end Go.Proofs.Ytgljpjcclncknaa

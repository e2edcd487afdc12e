/- More arguments opened: lists of ints. -/
import Derived.Test.YtehnikhicnnnhaaGreatDoorPa20
import Derived.Test.YtehnikhicnnnhaaGreatDoorPa06
import Derived.Test.YtehnikhicnnnhaaGreatDoorPa01
namespace Go.Proofs.YtehnikhicnnnhaaGreatDoor
open Go Go.ChangeShapes Go.WideShapes Go.Deep Go.RowKit

section
variable {H : Type} {enc : TypeId × Value → H} {w : World} {base : Nat} {sp : Nat → Bool} {held : Bool}
set_option maxRecDepth 100000 in
theorem open_list {r : Reach} {b0 : Nat} {v : Value} {d : DataW H} {p : List MemPlace} (hv : Value.okWide Tryz.prog w r b0 30 v) (h : DataW.Trod enc Tryz.prog w base sp held 30 v d p) :
    ∃ (A : Option Addr) (l : List Int) (c : Nat), v = .slice A l.length c ∧ IntsR w w.heap.size A l ∧ (A = none → c = 0) ∧ l.length ≤ c ∧ c ≤ maxLen := by
  obtain ⟨a, len, cap, rfl⟩ := okWide_slice Tryz.underlying30 hv
  obtain ⟨fuel, h⟩ := h
  replace h : DataW.trod enc Tryz.prog w base sp held fuel 30 [.slice a len cap] = some (d, p) := h
  obtain ⟨A, l, c, e, h1, h2, h3, h4, _⟩ := openRow (fun x : Int => [Value.int .i64 x]) (fun z => (Lit.int .i64 z).wf = true) Tryz.underlying30 Tryz.cInt (by decide) (fun _ _ _ => elemInt) h
  have e2 : Value.slice a len cap = .slice A l.length c := (List.cons.inj e).1
  exact ⟨A, l, c, e2, h4, h3, h1, h2⟩
end
end Go.Proofs.YtehnikhicnnnhaaGreatDoor

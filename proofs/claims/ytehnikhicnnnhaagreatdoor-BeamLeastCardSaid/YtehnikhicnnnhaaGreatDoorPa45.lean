/- More arguments opened: a pair of bytes. -/
import Derived.Test.YtehnikhicnnnhaaGreatDoorPa20
import Derived.Test.YtehnikhicnnnhaaGreatDoorPa01
namespace Go.Proofs.YtehnikhicnnnhaaGreatDoor
open Go Go.ChangeShapes Go.WideShapes Go.Deep Go.RowKit

section
variable {H : Type} {enc : TypeId × Value → H} {w : World} {base : Nat} {sp : Nat → Bool} {held : Bool} {P : Program} {fuel : Nat} {cs : List Value} {x : DataW H × List MemPlace}
theorem Tryz.cA8 : Tryz.prog.cellsOf 100 = 2 := by kernel_rfl
theorem Tryz.cU8 : Tryz.prog.cellsOf 5 = 1 := by kernel_rfl
theorem u8_wf {n : Int} (h : (Lit.int .u8 n).wf = true) : 0 ≤ n ∧ n ≤ 255 := by
  have h1 : IntKind.u8.min ≤ n ∧ n ≤ IntKind.u8.max := by simpa [Lit.wf] using h
  have h2 : IntKind.u8.min = 0 := by decide
  have h3 : IntKind.u8.max = 255 := by decide
  omega
theorem open_arr8 {n : Nat} {t : TypeId} (ht : Tryz.prog.underlying t = some (.array n 5)) (hc : Tryz.prog.cellsOf t = n) (h : DataW.trod enc Tryz.prog w base sp held fuel t cs = some x) : ∃ zs : List Int, zs.length = n ∧ cs = zs.map (Value.int .u8) ∧ ∀ z ∈ zs, (Lit.int .u8 z).wf = true := by
  obtain ⟨xs, m, _, _, hl, hx, hi⟩ := DataW.trod_array ht h
  rw [hc] at hl
  simp only [Tryz.cU8, Nat.mul_one] at hi
  have hz : ∀ i : Fin n, ∃ z : Int, cs[i.1]? = some (Value.int .u8 z) ∧ (Lit.int .u8 z).wf = true := fun i => by
    have h1 : (cs.drop i.1).take 1 = [cs[i.1]'(by omega)] := by rw [List.drop_eq_getElem_cons (by omega)]; rfl
    have h2 := hi i.1 i.2
    rw [h1, List.getElem?_eq_getElem (by omega)] at h2
    obtain ⟨z, h3, _, h4⟩ := DataW.trod_int Tryz.underlying5 h2
    refine ⟨z, ?_, h4⟩
    rw [List.getElem?_eq_getElem (by omega)]
    exact congrArg some (List.cons.inj h3).1
  obtain ⟨F, hFQ⟩ : ∃ F : Fin n → Int, ∀ i, cs[i.1]? = some (Value.int .u8 (F i)) ∧ (Lit.int .u8 (F i)).wf = true := ⟨fun i => Classical.choose (hz i), fun i => Classical.choose_spec (hz i)⟩
  have hF := fun i => (hFQ i).1
  have hW := fun i => (hFQ i).2
  refine ⟨List.ofFn F, by simp, ?_, fun z hz => ?_⟩
  · apply List.ext_getElem?
    intro i
    by_cases hi : i < n
    · rw [hF ⟨i, hi⟩]; simp [hi]
    · rw [List.getElem?_eq_none (by omega), List.getElem?_eq_none (by simp; omega)]
  · obtain ⟨i, rfl⟩ := (List.mem_ofFn).1 hz
    exact hW i
set_option maxRecDepth 100000 in
theorem open_two8 {r : Reach} {b0 : Nat} {v : Value} {d : DataW H} {p : List MemPlace} (hv : Value.okWide Tryz.prog w r b0 100 v) (h : DataW.Trod enc Tryz.prog w base sp held 100 v d p) :
    ∃ n0 n1 : Int, v = .agg #[.int .u8 n0, .int .u8 n1] ∧ (0 ≤ n0 ∧ n0 ≤ 255) ∧ (0 ≤ n1 ∧ n1 ≤ 255) := by
  obtain ⟨l, fuel, rfl, h2⟩ := open_agg (P := Tryz.prog) (t := 100) (Or.inr ⟨_, _, Tryz.underlying100⟩) (by with_reducible exact hv) (by with_reducible exact h)
  obtain ⟨zs, hl, rfl, hw⟩ := open_arr8 Tryz.underlying100 Tryz.cA8 h2
  obtain ⟨n0, n1, rfl⟩ := len2_ hl
  exact ⟨n0, n1, rfl, u8_wf (hw _ (by simp)), u8_wf (hw _ (by simp))⟩
end
end Go.Proofs.YtehnikhicnnnhaaGreatDoor

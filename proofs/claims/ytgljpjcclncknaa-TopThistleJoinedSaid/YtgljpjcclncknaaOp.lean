/- The arguments of the laws of this seat, opened. -/
import Derived.Test.YtgljpjcclncknaaOpG
import Derived.Test.YtgljpjcclncknaaTs1
import Derived.Test.YtgljpjcclncknaaGr1
namespace Go.Proofs.Ytgljpjcclncknaa
open Go Go.ChangeShapes Go.WideShapes Go.Deep Go.RowKit

theorem Try.cInt : Try.prog.cellsOf 3 = 1 := by kernel_rfl
theorem Try.cU16 : Try.prog.cellsOf 40 = 1 := by kernel_rfl
theorem Try.cI8 : Try.prog.cellsOf 67 = 1 := by kernel_rfl
theorem Try.cU8 : Try.prog.cellsOf 5 = 1 := by kernel_rfl
theorem Try.cA16 : Try.prog.cellsOf 41 = 2 := by kernel_rfl
theorem Try.cA8 : Try.prog.cellsOf 68 = 3 := by kernel_rfl
theorem Try.cB8 : Try.prog.cellsOf 61 = 2 := by kernel_rfl
theorem Try.cLay : Try.prog.cellsOf 82 = 2 := by kernel_rfl
theorem Try.cSL : Try.prog.cellsOf 22 = 1 := by kernel_rfl
theorem Try.cTk : Try.prog.cellsOf 24 = 2 := by kernel_rfl
theorem Try.cPl : Try.prog.cellsOf 26 = 3 := by kernel_rfl
theorem wf_bd {k : IntKind} {n a b : Int} (h : (Lit.int k n).wf = true) (ha : k.min = a) (hb : k.max = b) : a ≤ n ∧ n ≤ b := by
  have h1 : k.min ≤ n ∧ n ≤ k.max := by simpa [Lit.wf] using h
  omega
def encU16 (x : Int × Int) : List Value := [.int .u16 x.1, .int .u16 x.2]
def encI8 (x : Int × Int × Int) : List Value := [.int .i8 x.1, .int .i8 x.2.1, .int .i8 x.2.2]
section
variable {H : Type} {enc : TypeId × Value → H} {w : World} {base : Nat} {sp : Nat → Bool} {held : Bool} {fuel : Nat} {cs : List Value} {x : DataW H × List MemPlace}
theorem elemLay (h : DataW.trod enc Try.prog w base sp held fuel 82 cs = some x) : ∃ s : Lay, cs = encL s ∧ True := by
  obtain ⟨hl, hf⟩ := trod_parts Try.underlying82 h
  rw [Try.cLay] at hl
  obtain ⟨c0, c1, rfl⟩ := len2_ hl
  obtain ⟨_, _, h0⟩ := hf 0 _ rfl
  obtain ⟨_, _, h1⟩ := hf 1 _ rfl
  simp only [List.getElem_toArray, List.getElem_cons_zero, List.getElem_cons_succ, Try.cInt, List.drop_succ_cons, List.drop_zero, List.take_succ_cons, List.take_zero] at h0 h1
  obtain ⟨a, ha, _⟩ := DataW.trod_int Try.underlying3 h0
  obtain ⟨b, hb, _⟩ := DataW.trod_int Try.underlying3 h1
  cases ha; cases hb
  exact ⟨⟨a, b⟩, rfl, trivial⟩
theorem elemU16 (h : DataW.trod enc Try.prog w base sp held fuel 41 cs = some x) : ∃ s : Int × Int, cs = encU16 s ∧ (0 ≤ s.1 ∧ s.1 ≤ 65535) ∧ 0 ≤ s.2 ∧ s.2 ≤ 65535 := by
  obtain ⟨zs, hl, rfl, hw⟩ := open_arrK Try.underlying40 Try.cU16 Try.underlying41 Try.cA16 h
  obtain ⟨n0, n1, rfl⟩ := len2_ hl
  exact ⟨(n0, n1), rfl, wf_bd (hw _ (by simp)) (by decide) (by decide), wf_bd (hw _ (by simp)) (by decide) (by decide)⟩
theorem elemI8 (h : DataW.trod enc Try.prog w base sp held fuel 68 cs = some x) : ∃ s : Int × Int × Int, cs = encI8 s ∧ (-128 ≤ s.1 ∧ s.1 ≤ 127) ∧ (-128 ≤ s.2.1 ∧ s.2.1 ≤ 127) ∧ -128 ≤ s.2.2 ∧ s.2.2 ≤ 127 := by
  obtain ⟨zs, hl, rfl, hw⟩ := open_arrK Try.underlying67 Try.cI8 Try.underlying68 Try.cA8 h
  obtain ⟨n0, n1, n2, rfl⟩ := len3_ hl
  exact ⟨(n0, n1, n2), rfl, wf_bd (hw _ (by simp)) (by decide) (by decide), wf_bd (hw _ (by simp)) (by decide) (by decide), wf_bd (hw _ (by simp)) (by decide) (by decide)⟩
set_option maxRecDepth 100000 in
theorem open_tank {r : Reach} {b0 : Nat} {v : Value} {d : DataW H} {p : List MemPlace} (hv : Value.okWide Try.prog w r b0 24 v) (h : DataW.Trod enc Try.prog w base sp held 24 v d p) :
    ∃ (room : Int) (A : Option Addr) (c : Nat) (ls : List Lay), v = .agg #[.int .i64 room, .slice A ls.length c] ∧ Rw w w.heap.size 2 A (ls.map encL) := by
  obtain ⟨l, fuel, rfl, h2⟩ := open_agg (P := Try.prog) (t := 24) (Or.inl ⟨_, Try.underlying24⟩) (by with_reducible exact hv) (by with_reducible exact h)
  obtain ⟨hl, hf⟩ := trod_parts Try.underlying24 h2
  rw [Try.cTk] at hl
  obtain ⟨c0, c1, rfl⟩ := len2_ hl
  obtain ⟨_, _, h0⟩ := hf 0 _ rfl
  obtain ⟨_, _, h1⟩ := hf 1 _ rfl
  simp only [List.getElem_toArray, List.getElem_cons_zero, List.getElem_cons_succ, Try.cInt, Try.cSL, List.drop_succ_cons, List.drop_zero, List.take_succ_cons, List.take_zero] at h0 h1
  obtain ⟨room, e0, _⟩ := DataW.trod_int Try.underlying3 h0
  obtain ⟨A, xs, c, e1, hc, _, hA, hr, hq⟩ := openRow encL (fun _ => True) Try.underlying22 Try.cLay (by decide) (fun _ _ _ => elemLay) h1
  cases e0; cases e1
  exact ⟨room, A, c, xs, rfl, hr⟩
set_option maxRecDepth 100000 in
theorem open_plant {r : Reach} {b0 : Nat} {v : Value} {d : DataW H} {p : List MemPlace} (hv : Value.okWide Try.prog w r b0 26 v) (h : DataW.Trod enc Try.prog w base sp held 26 v d p) :
    ∃ q : Pla, v = plaV q := by
  obtain ⟨l, fuel, rfl, h2⟩ := open_agg (P := Try.prog) (t := 26) (Or.inl ⟨_, Try.underlying26⟩) (by with_reducible exact hv) (by with_reducible exact h)
  obtain ⟨hl, hf⟩ := trod_parts Try.underlying26 h2
  rw [Try.cPl] at hl
  obtain ⟨c0, c1, c2, rfl⟩ := len3_ hl
  obtain ⟨_, _, h0⟩ := hf 0 _ rfl
  obtain ⟨_, _, h1⟩ := hf 1 _ rfl
  obtain ⟨_, _, h2⟩ := hf 2 _ rfl
  simp only [List.getElem_toArray, List.getElem_cons_zero, List.getElem_cons_succ, Try.cInt, List.drop_succ_cons, List.drop_zero, List.take_succ_cons, List.take_zero] at h0 h1 h2
  obtain ⟨a, e0, _⟩ := DataW.trod_int Try.underlying3 h0
  obtain ⟨b, e1, _⟩ := DataW.trod_int Try.underlying3 h1
  obtain ⟨c, e2, _⟩ := DataW.trod_int Try.underlying3 h2
  cases e0; cases e1; cases e2
  exact ⟨⟨a, b, c⟩, rfl⟩
set_option maxRecDepth 100000 in
theorem open_u16s {r : Reach} {b0 : Nat} {v : Value} {d : DataW H} {p : List MemPlace} (hv : Value.okWide Try.prog w r b0 27 v) (h : DataW.Trod enc Try.prog w base sp held 27 v d p) :
    ∃ (A : Option Addr) (l : List (Int × Int)) (c : Nat), v = .slice A l.length c ∧ Rw w w.heap.size 2 A (l.map encU16) ∧ ∀ s ∈ l, (0 ≤ s.1 ∧ s.1 ≤ 65535) ∧ 0 ≤ s.2 ∧ s.2 ≤ 65535 := by
  obtain ⟨a, len, cap, rfl⟩ := okWide_slice Try.underlying27 hv
  obtain ⟨fuel, h⟩ := h
  replace h : DataW.trod enc Try.prog w base sp held fuel 27 [.slice a len cap] = some (d, p) := h
  obtain ⟨A, l, c, e, h1, h2, h3, h4, h5⟩ := openRow encU16 (fun s => (0 ≤ s.1 ∧ s.1 ≤ 65535) ∧ 0 ≤ s.2 ∧ s.2 ≤ 65535) Try.underlying27 Try.cA16 (by decide) (fun _ _ _ => elemU16) h
  exact ⟨A, l, c, (List.cons.inj e).1, h4, h5⟩
set_option maxRecDepth 100000 in
theorem open_i8s {r : Reach} {b0 : Nat} {v : Value} {d : DataW H} {p : List MemPlace} (hv : Value.okWide Try.prog w r b0 60 v) (h : DataW.Trod enc Try.prog w base sp held 60 v d p) :
    ∃ (A : Option Addr) (l : List (Int × Int × Int)) (c : Nat), v = .slice A l.length c ∧ Rw w w.heap.size 3 A (l.map encI8) ∧ ∀ s ∈ l, (-128 ≤ s.1 ∧ s.1 ≤ 127) ∧ (-128 ≤ s.2.1 ∧ s.2.1 ≤ 127) ∧ -128 ≤ s.2.2 ∧ s.2.2 ≤ 127 := by
  obtain ⟨a, len, cap, rfl⟩ := okWide_slice Try.underlying60 hv
  obtain ⟨fuel, h⟩ := h
  replace h : DataW.trod enc Try.prog w base sp held fuel 60 [.slice a len cap] = some (d, p) := h
  obtain ⟨A, l, c, e, h1, h2, h3, h4, h5⟩ := openRow encI8 (fun s => (-128 ≤ s.1 ∧ s.1 ≤ 127) ∧ (-128 ≤ s.2.1 ∧ s.2.1 ≤ 127) ∧ -128 ≤ s.2.2 ∧ s.2.2 ≤ 127) Try.underlying60 Try.cA8 (by decide) (fun _ _ _ => elemI8) h
  exact ⟨A, l, c, (List.cons.inj e).1, h4, h5⟩
set_option maxRecDepth 100000 in
theorem open_two8 {r : Reach} {b0 : Nat} {v : Value} {d : DataW H} {p : List MemPlace} (hv : Value.okWide Try.prog w r b0 61 v) (h : DataW.Trod enc Try.prog w base sp held 61 v d p) :
    ∃ n0 n1 : Int, v = .agg #[.int .u8 n0, .int .u8 n1] ∧ (0 ≤ n0 ∧ n0 ≤ 255) ∧ (0 ≤ n1 ∧ n1 ≤ 255) := by
  obtain ⟨l, fuel, rfl, h2⟩ := open_agg (P := Try.prog) (t := 61) (Or.inr ⟨_, _, Try.underlying61⟩) (by with_reducible exact hv) (by with_reducible exact h)
  obtain ⟨zs, hl, rfl, hw⟩ := open_arrK Try.underlying5 Try.cU8 Try.underlying61 Try.cB8 h2
  obtain ⟨n0, n1, rfl⟩ := len2_ hl
  exact ⟨n0, n1, rfl, wf_bd (hw _ (by simp)) (by decide) (by decide), wf_bd (hw _ (by simp)) (by decide) (by decide)⟩
end
end Go.Proofs.Ytgljpjcclncknaa

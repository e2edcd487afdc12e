/- Regions that draw their order, each operation with a value known ahead: one invariant over what is listed. | The reference: CheckBarrier, the region that looks at a move. -/
import Derived.Test.YtehnikhicnnnhaaGreatDoorPa35
import Derived.Test.YtehnikhicnnnhaaGreatDoorPa07
import Derived.Test.YtehnikhicnnnhaaGreatDoorPa01
namespace Go.Proofs.YtehnikhicnnnhaaGreatDoor
open Go.RowKit Go.Shelf

/-- The region with a number, in loops too. -/
def findZ (n : Nat) : Code → Option Code
  | .region k ops b => if k = n then some (.region k ops b) else none
  | .seq a b => (findZ n a).or (findZ n b)
  | .block _ c => findZ n c
  | .cond _ a b => (findZ n a).or (findZ n b)
  | .scope c => findZ n c
  | .loop c => findZ n c
  | _ => none
def updS (s : Nat → Value) (i : Nat) (v : Value) : Nat → Value := fun j => if j = i then v else s j
structure RC (X : World) (C : Nat → Value) (sp : Nat → Bool) (L : Nat → Bool) (s : Nat → Value) (w : World) : Prop where
  low : Below X.heap.size X w
  k : ∀ i, sp i = true → L i = true → s i = C i
section
variable {X w w2 : World} {C : Nat → Value} {sp L : Nat → Bool} {s : Nat → Value}
theorem RC.const (h : RC X C sp L s w) (i : Nat) {v : Value} (hv : v = C i) : RC X C sp (updL L i) (updS s i v) w := by
  subst hv
  refine ⟨h.low, fun j hj hL => ?_⟩
  unfold updS
  by_cases e : j = i
  · subst e; rw [if_pos rfl]
  · rw [if_neg e]; unfold updL at hL; rw [if_neg e] at hL; exact h.k j hj hL
theorem RC.world (h : RC X C sp L s w) (hb : Below w.heap.size w w2) : RC X C sp L s w2 := ⟨h.low.trans (hb.mono h.low.size), h.k⟩
theorem RC.skip (h : RC X C sp L s w) (i : Nat) (v : Value) (hi : sp i = false) : RC X C sp (updL L i) (updS s i v) w := by
  refine ⟨h.low, fun j hj hL => ?_⟩
  have e : j ≠ i := fun e => by rw [e, hi] at hj; cases hj
  unfold updL at hL; rw [if_neg e] at hL
  unfold updS; rw [if_neg e]
  exact h.k j hj hL
end
end Go.Proofs.YtehnikhicnnnhaaGreatDoor
namespace Go.Proofs.YtehnikhicnnnhaaGreatDoor
open Go.RowKit Go.Shelf

noncomputable def cbt_c : Code := (findZ 19 (Tryz.f36.body.getD .skip)).getD .skip
def cbt_v (a : GA) (g : Grd) (A : Option Addr) (n : Nat) (c : Nat) (_bG : Nat) (bX : Nat) (xa : Int) (xb : Int) (pa : Bool) (pb : Bool) : Nat → Value
  | 0 => .agg #[.int .i64 g.blur, .slice a.pS g.sta.length a.cs, .slice a.pM g.mov.length a.cm, .slice a.pZ g.zon.length a.cz]
  | 1 => .pointer (some ⟨bX, 0, none⟩)
  | 2 => .int .i64 xa
  | 3 => .pointer (some ⟨bX, 1, none⟩)
  | 4 => .int .i64 xb
  | 5 => .bool true
  | 6 => .bool true
  | 7 => .slice A n c
  | 8 => .pointer (some ⟨bX, 0, none⟩)
  | 9 => .int .i64 xa
  | 10 => .bool pa
  | 11 => .slice A n c
  | 12 => .pointer (some ⟨bX, 1, none⟩)
  | 13 => .int .i64 xb
  | 14 => .bool pb
  | 15 => .bool (pa != pb)
  | 16 => .bool (pa != pb)
  | _ => .bool false
def cbt_s (_ : Nat) : Bool := true
set_option maxRecDepth 100000 in
set_option maxHeartbeats 16000000 in
theorem cbt_r (X : World) (a : GA) (g : Grd) (A : Option Addr) (n c bG bX : Nat) (xa xb : Int) (pa pb : Bool) (hG0 : X.cell? ⟨bG, 0, none⟩ = some (.int .i64 g.blur)) (hG1 : X.cell? ⟨bG, 1, none⟩ = some (.slice a.pS g.sta.length a.cs)) (hG2 : X.cell? ⟨bG, 2, none⟩ = some (.slice a.pM g.mov.length a.cm)) (hG3 : X.cell? ⟨bG, 3, none⟩ = some (.slice a.pZ g.zon.length a.cz)) (hX0 : X.cell? ⟨bX, 0, none⟩ = some (.int .i64 xa)) (hX1 : X.cell? ⟨bX, 1, none⟩ = some (.int .i64 xb)) (hfree : ∀ W, Below X.heap.size X W → Calls Tryz.prog 114 #[.agg #[.int .i64 g.blur, .slice a.pS g.sta.length a.cs, .slice a.pM g.mov.length a.cm, .slice a.pZ g.zon.length a.cz], .int .i64 xa, .int .i64 xb] W fun e w' => e = .returned (.bool true) ∧ Below W.heap.size W w') (hA : ∀ W, Below X.heap.size X W → Calls Tryz.prog 35 #[.slice A n c, .int .i64 xa] W fun e w' => e = .returned (.bool pa) ∧ W = w') (hB : ∀ W, Below X.heap.size X W → Calls Tryz.prog 35 #[.slice A n c, .int .i64 xb] W fun e w' => e = .returned (.bool pb) ∧ W = w')
    (u0 u1 u2 u5 u6 u7 u8 u9 u10 u11 u13 u14 u15 u16 u17 u18 u19 u20 u21 u22 u23 u24 u25 u26 u27 u28 u29 u30 u31 u32 u33 u34 u35 u36 u37 u38 u39 u40 u41 u42 u43 u44 u45 u46 u47 u48 u49 u50 u51 u52 u53 u54 u55 u56 u57 u58 u59 u60 u61 u62 u63 u64 u65 u66 u67 u68 u69 u70 u71 u72 u73 u74 u75 u76 u77 u78 u79 u80 u81 u82 : Value) (K : Act → World → Prop) (Q : Exit → Act → World → Prop)
    (hK : ∀ (v66 v67 v68 v69 v70 v71 v72 v73 v74 v75 v76 v77 v78 v79 v80 v81 : Value) (wx : World), Below X.heap.size X wx → K { tmps := #[u0, u1, u2, .slice A n c, .pointer (some ⟨bG, 0, none⟩), u5, u6, u7, u8, u9, u10, u11, .pointer (some ⟨bX, 0, none⟩), u13, u14, u15, u16, u17, u18, u19, u20, u21, u22, u23, u24, u25, u26, u27, u28, u29, u30, u31, u32, u33, u34, u35, u36, u37, u38, u39, u40, u41, u42, u43, u44, u45, u46, u47, u48, u49, u50, u51, u52, u53, u54, u55, u56, u57, u58, u59, u60, u61, u62, u63, u64, u65, v66, v67, v68, v69, v70, v71, v72, v73, v74, v75, v76, v77, v78, v79, v80, v81, .bool (pa != pb)], defers := [] } wx) :
    Code.wp Tryz.prog cbt_c (Exit.then K Q) { tmps := #[u0, u1, u2, .slice A n c, .pointer (some ⟨bG, 0, none⟩), u5, u6, u7, u8, u9, u10, u11, .pointer (some ⟨bX, 0, none⟩), u13, u14, u15, u16, u17, u18, u19, u20, u21, u22, u23, u24, u25, u26, u27, u28, u29, u30, u31, u32, u33, u34, u35, u36, u37, u38, u39, u40, u41, u42, u43, u44, u45, u46, u47, u48, u49, u50, u51, u52, u53, u54, u55, u56, u57, u58, u59, u60, u61, u62, u63, u64, u65, u66, u67, u68, u69, u70, u71, u72, u73, u74, u75, u76, u77, u78, u79, u80, u81, u82], defers := [] } X := by
  have yG : bG < X.heap.size := World.block_lt_of_cell? X ⟨bG, 0, none⟩ hG0
  have yX : bX < X.heap.size := World.block_lt_of_cell? X ⟨bX, 0, none⟩ hX0
  have hmo : Tryz.prog.follows .mixedOrders = true := by kernel_rfl
  have HK := Lib.hid hK
  clear hK
  conv => arg 2; whnf
  refine (wpIn_wide (n := 3)).1 ?_
  refine wpIn_region_inv2 hmo (fun L a' w' => ∃ s : Nat → Value, RC X (cbt_v a g A n c bG bX xa xb pa pb) cbt_s L s w' ∧ a' = { tmps := #[u0, u1, u2, .slice A n c, .pointer (some ⟨bG, 0, none⟩), u5, u6, u7, u8, u9, u10, u11, .pointer (some ⟨bX, 0, none⟩), u13, u14, u15, u16, u17, u18, u19, u20, u21, u22, u23, u24, u25, u26, u27, u28, u29, u30, u31, u32, u33, u34, u35, u36, u37, u38, u39, u40, u41, u42, u43, u44, u45, u46, u47, u48, u49, u50, u51, u52, u53, u54, u55, u56, u57, u58, u59, u60, u61, u62, u63, u64, u65, s 0, s 1, s 2, s 3, s 4, s 5, s 6, s 7, s 8, s 9, s 10, s 11, s 12, s 13, s 14, s 15, s 16], defers := [] }) ?acyc ?h0 ?step ?fin
  case acyc =>
    intro i o ho
    have hi : i < 17 := by have := (Array.getElem?_eq_some_iff.1 ho).1; simpa using this
    rcases (show i = 0 ∨ i = 1 ∨ i = 2 ∨ i = 3 ∨ i = 4 ∨ i = 5 ∨ i = 6 ∨ i = 7 ∨ i = 8 ∨ i = 9 ∨ i = 10 ∨ i = 11 ∨ i = 12 ∨ i = 13 ∨ i = 14 ∨ i = 15 ∨ i = 16 by omega) with rfl | rfl | rfl | rfl | rfl | rfl | rfl | rfl | rfl | rfl | rfl | rfl | rfl | rfl | rfl | rfl | rfl <;> (simp at ho; subst ho; simp)
  case h0 => exact ⟨fun i => match i with | 0 => u66 | 1 => u67 | 2 => u68 | 3 => u69 | 4 => u70 | 5 => u71 | 6 => u72 | 7 => u73 | 8 => u74 | 9 => u75 | 10 => u76 | 11 => u77 | 12 => u78 | 13 => u79 | 14 => u80 | 15 => u81 | 16 => u82 | _ => .bool false, ⟨by exact zbl, fun _ _ h => (by cases h)⟩, rfl⟩
  case step =>
    intro i o ho L a' w' hI hLi hcl he K' hK
    obtain ⟨s, hf, rfl⟩ := hI
    have hi : i < 17 := by have := (Array.getElem?_eq_some_iff.1 ho).1; simpa using this
    rcases (show i = 0 ∨ i = 1 ∨ i = 2 ∨ i = 3 ∨ i = 4 ∨ i = 5 ∨ i = 6 ∨ i = 7 ∨ i = 8 ∨ i = 9 ∨ i = 10 ∨ i = 11 ∨ i = 12 ∨ i = 13 ∨ i = 14 ∨ i = 15 ∨ i = 16 by omega) with rfl | rfl | rfl | rfl | rfl | rfl | rfl | rfl | rfl | rfl | rfl | rfl | rfl | rfl | rfl | rfl | rfl
    · simp at ho
      subst ho
      simp [Region.binds] at he
      simp [wpOpIn, Region.wanted]
      have hc0 := (hf.low.cell (p := ⟨bG, 0, none⟩) yG).trans hG0
      have hc1 := (hf.low.cell (p := ⟨bG, 1, none⟩) yG).trans hG1
      have hc2 := (hf.low.cell (p := ⟨bG, 2, none⟩) yG).trans hG2
      have hc3 := (hf.low.cell (p := ⟨bG, 3, none⟩) yG).trans hG3
      go_simp
      refine hK _ _ ⟨updS s 0 (.agg #[.int .i64 g.blur, .slice a.pS g.sta.length a.cs, .slice a.pM g.mov.length a.cm, .slice a.pZ g.zon.length a.cz]), hf.const 0 rfl, ?_⟩
      simp [updS]
    · simp at ho
      subst ho
      simp [Region.binds] at he
      simp [wpOpIn, Region.wanted]
      go_simp
      refine hK _ _ ⟨updS s 1 (.pointer (some ⟨bX, 0, none⟩)), hf.const 1 rfl, ?_⟩
      simp [updS]
    · simp at ho
      subst ho
      simp [Region.binds] at he
      have e1 : s 1 = .pointer (some ⟨bX, 0, none⟩) := hf.k 1 rfl (by simp [he])
      simp [wpOpIn, Region.wanted]
      have hcx := (hf.low.cell (p := ⟨bX, 0, none⟩) yX).trans hX0
      go_simp
      refine hK _ _ ⟨updS s 2 (.int .i64 xa), hf.const 2 rfl, ?_⟩
      simp [updS, e1]
    · simp at ho
      subst ho
      simp [Region.binds] at he
      simp [wpOpIn, Region.wanted]
      go_simp
      refine hK _ _ ⟨updS s 3 (.pointer (some ⟨bX, 1, none⟩)), hf.const 3 rfl, ?_⟩
      simp [updS]
    · simp at ho
      subst ho
      simp [Region.binds] at he
      have e3 : s 3 = .pointer (some ⟨bX, 1, none⟩) := hf.k 3 rfl (by simp [he])
      simp [wpOpIn, Region.wanted]
      have hcx := (hf.low.cell (p := ⟨bX, 1, none⟩) yX).trans hX1
      go_simp
      refine hK _ _ ⟨updS s 4 (.int .i64 xb), hf.const 4 rfl, ?_⟩
      simp [updS, e3]
    · simp at ho
      subst ho
      simp [Region.binds] at he
      have e0 : s 0 = .agg #[.int .i64 g.blur, .slice a.pS g.sta.length a.cs, .slice a.pM g.mov.length a.cm, .slice a.pZ g.zon.length a.cz] := hf.k 0 rfl (by simp [he])
      have e2 : s 2 = .int .i64 xa := hf.k 2 rfl (by simp [he])
      have e4 : s 4 = .int .i64 xb := hf.k 4 rfl (by simp [he])
      simp [wpOpIn, Region.wanted]
      have HC := Lib.hid ((callsIn_wide (n := 2)).2 (hfree w' hf.low))
      go_simp
      refine ⟨trivial, HC.out.mono ?_⟩
      rintro e wc ⟨rfl, hbc⟩
      simp only
      refine hK _ _ ⟨updS s 5 (.bool true), (hf.world hbc).const 5 rfl, ?_⟩
      simp [updS, e0, e2, e4]
    · simp at ho
      subst ho
      simp [Region.binds] at he
      have e5 : s 5 = .bool true := hf.k 5 rfl (by simp [he])
      simp [wpOpIn, Region.wanted]
      go_simp
      refine hK _ _ ⟨updS s 6 (.bool true), hf.const 6 rfl, ?_⟩
      simp [updS, e5]
    · simp at ho
      subst ho
      simp [Region.binds] at he
      have e6 : s 6 = .bool true := hf.k 6 rfl (by simp [he])
      simp [wpOpIn, Region.wanted, e6]
      go_simp
      refine hK _ _ ⟨updS s 7 (.slice A n c), hf.const 7 rfl, ?_⟩
      simp [updS, e6]
    · simp at ho
      subst ho
      simp [Region.binds] at he
      have e6 : s 6 = .bool true := hf.k 6 rfl (by simp [he])
      simp [wpOpIn, Region.wanted, e6]
      go_simp
      refine hK _ _ ⟨updS s 8 (.pointer (some ⟨bX, 0, none⟩)), hf.const 8 rfl, ?_⟩
      simp [updS, e6]
    · simp at ho
      subst ho
      simp [Region.binds] at he
      have e6 : s 6 = .bool true := hf.k 6 rfl (by simp [he])
      have e8 : s 8 = .pointer (some ⟨bX, 0, none⟩) := hf.k 8 rfl (by simp [he])
      simp [wpOpIn, Region.wanted, e6, e8]
      have hcx := (hf.low.cell (p := ⟨bX, 0, none⟩) yX).trans hX0
      go_simp
      refine hK _ _ ⟨updS s 9 (.int .i64 xa), hf.const 9 rfl, ?_⟩
      simp [updS, e6, e8]
    · simp at ho
      subst ho
      simp [Region.binds] at he
      have e6 : s 6 = .bool true := hf.k 6 rfl (by simp [he])
      have e7 : s 7 = .slice A n c := hf.k 7 rfl (by simp [he])
      have e9 : s 9 = .int .i64 xa := hf.k 9 rfl (by simp [he])
      simp [wpOpIn, Region.wanted, e6, e7, e9]
      have HC := Lib.hid ((callsIn_wide (n := 2)).2 (hA w' hf.low))
      go_simp
      refine ⟨trivial, HC.out.mono ?_⟩
      rintro e wc ⟨rfl, rfl⟩
      simp only
      refine hK _ _ ⟨updS s 10 (.bool pa), hf.const 10 rfl, ?_⟩
      simp [updS, e6, e7, e9]
    · simp at ho
      subst ho
      simp [Region.binds] at he
      have e6 : s 6 = .bool true := hf.k 6 rfl (by simp [he])
      simp [wpOpIn, Region.wanted, e6]
      go_simp
      refine hK _ _ ⟨updS s 11 (.slice A n c), hf.const 11 rfl, ?_⟩
      simp [updS, e6]
    · simp at ho
      subst ho
      simp [Region.binds] at he
      have e6 : s 6 = .bool true := hf.k 6 rfl (by simp [he])
      simp [wpOpIn, Region.wanted, e6]
      go_simp
      refine hK _ _ ⟨updS s 12 (.pointer (some ⟨bX, 1, none⟩)), hf.const 12 rfl, ?_⟩
      simp [updS, e6]
    · simp at ho
      subst ho
      simp [Region.binds] at he
      have e6 : s 6 = .bool true := hf.k 6 rfl (by simp [he])
      have e12 : s 12 = .pointer (some ⟨bX, 1, none⟩) := hf.k 12 rfl (by simp [he])
      simp [wpOpIn, Region.wanted, e6, e12]
      have hcx := (hf.low.cell (p := ⟨bX, 1, none⟩) yX).trans hX1
      go_simp
      refine hK _ _ ⟨updS s 13 (.int .i64 xb), hf.const 13 rfl, ?_⟩
      simp [updS, e6, e12]
    · simp at ho
      subst ho
      simp [Region.binds] at he
      have e6 : s 6 = .bool true := hf.k 6 rfl (by simp [he])
      have e11 : s 11 = .slice A n c := hf.k 11 rfl (by simp [he])
      have e13 : s 13 = .int .i64 xb := hf.k 13 rfl (by simp [he])
      simp [wpOpIn, Region.wanted, e6, e11, e13]
      have HC := Lib.hid ((callsIn_wide (n := 2)).2 (hB w' hf.low))
      go_simp
      refine ⟨trivial, HC.out.mono ?_⟩
      rintro e wc ⟨rfl, rfl⟩
      simp only
      refine hK _ _ ⟨updS s 14 (.bool pb), hf.const 14 rfl, ?_⟩
      simp [updS, e6, e11, e13]
    · simp at ho
      subst ho
      simp [Region.binds] at he
      have e6 : s 6 = .bool true := hf.k 6 rfl (by simp [he])
      have e10 : s 10 = .bool pa := hf.k 10 rfl (by simp [he])
      have e14 : s 14 = .bool pb := hf.k 14 rfl (by simp [he])
      simp [wpOpIn, Region.wanted, e6, e10, e14]
      go_simp
      refine hK _ _ ⟨updS s 15 (.bool (pa != pb)), hf.const 15 rfl, ?_⟩
      first | (simp [updS, e6, e10, e14]; done) | (cases pa <;> cases pb <;> simp [updS, e6, e10, e14])
    · simp at ho
      subst ho
      simp [Region.binds] at he
      have e6 : s 6 = .bool true := hf.k 6 rfl (by simp [he])
      have e15 : s 15 = .bool (pa != pb) := hf.k 15 rfl (by simp [he])
      simp [wpOpIn, Region.wanted]
      go_simp
      refine hK _ _ ⟨updS s 16 (.bool (pa != pb)), hf.const 16 rfl, ?_⟩
      first | (simp [updS, e6, e15]; done) | (cases pa <;> cases pb <;> simp [updS, e6, e15])
  case fin =>
    intro L a' w' hI hall
    obtain ⟨s, hf, rfl⟩ := hI
    rw [hf.k 16 rfl (hall 16 (by simp))]
    exact HK.out (s 0) (s 1) (s 2) (s 3) (s 4) (s 5) (s 6) (s 7) (s 8) (s 9) (s 10) (s 11) (s 12) (s 13) (s 14) (s 15) w' hf.low
noncomputable def cbf_c : Code := (findZ 19 (Tryz.f36.body.getD .skip)).getD .skip
def cbf_v (a : GA) (g : Grd) (A : Option Addr) (n : Nat) (c : Nat) (_bG : Nat) (bX : Nat) (xa : Int) (xb : Int) (pa : Bool) (pb : Bool) : Nat → Value
  | 0 => .agg #[.int .i64 g.blur, .slice a.pS g.sta.length a.cs, .slice a.pM g.mov.length a.cm, .slice a.pZ g.zon.length a.cz]
  | 1 => .pointer (some ⟨bX, 0, none⟩)
  | 2 => .int .i64 xa
  | 3 => .pointer (some ⟨bX, 1, none⟩)
  | 4 => .int .i64 xb
  | 5 => .bool false
  | 6 => .bool false
  | 7 => .slice A n c
  | 8 => .pointer (some ⟨bX, 0, none⟩)
  | 9 => .int .i64 xa
  | 10 => .bool pa
  | 11 => .slice A n c
  | 12 => .pointer (some ⟨bX, 1, none⟩)
  | 13 => .int .i64 xb
  | 14 => .bool pb
  | 15 => .bool (pa != pb)
  | 16 => .bool false
  | _ => .bool false
def cbf_s (i : Nat) : Bool := !(i == 7) && !(i == 8) && !(i == 9) && !(i == 10) && !(i == 11) && !(i == 12) && !(i == 13) && !(i == 14) && !(i == 15)
set_option maxRecDepth 100000 in
set_option maxHeartbeats 16000000 in
theorem cbf_r (X : World) (a : GA) (g : Grd) (A : Option Addr) (n c bG bX : Nat) (xa xb : Int) (pa pb : Bool) (hG0 : X.cell? ⟨bG, 0, none⟩ = some (.int .i64 g.blur)) (hG1 : X.cell? ⟨bG, 1, none⟩ = some (.slice a.pS g.sta.length a.cs)) (hG2 : X.cell? ⟨bG, 2, none⟩ = some (.slice a.pM g.mov.length a.cm)) (hG3 : X.cell? ⟨bG, 3, none⟩ = some (.slice a.pZ g.zon.length a.cz)) (hX0 : X.cell? ⟨bX, 0, none⟩ = some (.int .i64 xa)) (hX1 : X.cell? ⟨bX, 1, none⟩ = some (.int .i64 xb)) (hfree : ∀ W, Below X.heap.size X W → Calls Tryz.prog 114 #[.agg #[.int .i64 g.blur, .slice a.pS g.sta.length a.cs, .slice a.pM g.mov.length a.cm, .slice a.pZ g.zon.length a.cz], .int .i64 xa, .int .i64 xb] W fun e w' => e = .returned (.bool false) ∧ Below W.heap.size W w')
    (u0 u1 u2 u5 u6 u7 u8 u9 u10 u11 u13 u14 u15 u16 u17 u18 u19 u20 u21 u22 u23 u24 u25 u26 u27 u28 u29 u30 u31 u32 u33 u34 u35 u36 u37 u38 u39 u40 u41 u42 u43 u44 u45 u46 u47 u48 u49 u50 u51 u52 u53 u54 u55 u56 u57 u58 u59 u60 u61 u62 u63 u64 u65 u66 u67 u68 u69 u70 u71 u72 u73 u74 u75 u76 u77 u78 u79 u80 u81 u82 : Value) (K : Act → World → Prop) (Q : Exit → Act → World → Prop)
    (hK : ∀ (v66 v67 v68 v69 v70 v71 v72 v73 v74 v75 v76 v77 v78 v79 v80 v81 : Value) (wx : World), Below X.heap.size X wx → K { tmps := #[u0, u1, u2, .slice A n c, .pointer (some ⟨bG, 0, none⟩), u5, u6, u7, u8, u9, u10, u11, .pointer (some ⟨bX, 0, none⟩), u13, u14, u15, u16, u17, u18, u19, u20, u21, u22, u23, u24, u25, u26, u27, u28, u29, u30, u31, u32, u33, u34, u35, u36, u37, u38, u39, u40, u41, u42, u43, u44, u45, u46, u47, u48, u49, u50, u51, u52, u53, u54, u55, u56, u57, u58, u59, u60, u61, u62, u63, u64, u65, v66, v67, v68, v69, v70, v71, v72, v73, v74, v75, v76, v77, v78, v79, v80, v81, .bool false], defers := [] } wx) :
    Code.wp Tryz.prog cbf_c (Exit.then K Q) { tmps := #[u0, u1, u2, .slice A n c, .pointer (some ⟨bG, 0, none⟩), u5, u6, u7, u8, u9, u10, u11, .pointer (some ⟨bX, 0, none⟩), u13, u14, u15, u16, u17, u18, u19, u20, u21, u22, u23, u24, u25, u26, u27, u28, u29, u30, u31, u32, u33, u34, u35, u36, u37, u38, u39, u40, u41, u42, u43, u44, u45, u46, u47, u48, u49, u50, u51, u52, u53, u54, u55, u56, u57, u58, u59, u60, u61, u62, u63, u64, u65, u66, u67, u68, u69, u70, u71, u72, u73, u74, u75, u76, u77, u78, u79, u80, u81, u82], defers := [] } X := by
  have yG : bG < X.heap.size := World.block_lt_of_cell? X ⟨bG, 0, none⟩ hG0
  have yX : bX < X.heap.size := World.block_lt_of_cell? X ⟨bX, 0, none⟩ hX0
  have hmo : Tryz.prog.follows .mixedOrders = true := by kernel_rfl
  have HK := Lib.hid hK
  clear hK
  conv => arg 2; whnf
  refine (wpIn_wide (n := 3)).1 ?_
  refine wpIn_region_inv2 hmo (fun L a' w' => ∃ s : Nat → Value, RC X (cbf_v a g A n c bG bX xa xb pa pb) cbf_s L s w' ∧ a' = { tmps := #[u0, u1, u2, .slice A n c, .pointer (some ⟨bG, 0, none⟩), u5, u6, u7, u8, u9, u10, u11, .pointer (some ⟨bX, 0, none⟩), u13, u14, u15, u16, u17, u18, u19, u20, u21, u22, u23, u24, u25, u26, u27, u28, u29, u30, u31, u32, u33, u34, u35, u36, u37, u38, u39, u40, u41, u42, u43, u44, u45, u46, u47, u48, u49, u50, u51, u52, u53, u54, u55, u56, u57, u58, u59, u60, u61, u62, u63, u64, u65, s 0, s 1, s 2, s 3, s 4, s 5, s 6, s 7, s 8, s 9, s 10, s 11, s 12, s 13, s 14, s 15, s 16], defers := [] }) ?acyc ?h0 ?step ?fin
  case acyc =>
    intro i o ho
    have hi : i < 17 := by have := (Array.getElem?_eq_some_iff.1 ho).1; simpa using this
    rcases (show i = 0 ∨ i = 1 ∨ i = 2 ∨ i = 3 ∨ i = 4 ∨ i = 5 ∨ i = 6 ∨ i = 7 ∨ i = 8 ∨ i = 9 ∨ i = 10 ∨ i = 11 ∨ i = 12 ∨ i = 13 ∨ i = 14 ∨ i = 15 ∨ i = 16 by omega) with rfl | rfl | rfl | rfl | rfl | rfl | rfl | rfl | rfl | rfl | rfl | rfl | rfl | rfl | rfl | rfl | rfl <;> (simp at ho; subst ho; simp)
  case h0 => exact ⟨fun i => match i with | 0 => u66 | 1 => u67 | 2 => u68 | 3 => u69 | 4 => u70 | 5 => u71 | 6 => u72 | 7 => u73 | 8 => u74 | 9 => u75 | 10 => u76 | 11 => u77 | 12 => u78 | 13 => u79 | 14 => u80 | 15 => u81 | 16 => u82 | _ => .bool false, ⟨by exact zbl, fun _ _ h => (by cases h)⟩, rfl⟩
  case step =>
    intro i o ho L a' w' hI hLi hcl he K' hK
    obtain ⟨s, hf, rfl⟩ := hI
    have hi : i < 17 := by have := (Array.getElem?_eq_some_iff.1 ho).1; simpa using this
    rcases (show i = 0 ∨ i = 1 ∨ i = 2 ∨ i = 3 ∨ i = 4 ∨ i = 5 ∨ i = 6 ∨ i = 7 ∨ i = 8 ∨ i = 9 ∨ i = 10 ∨ i = 11 ∨ i = 12 ∨ i = 13 ∨ i = 14 ∨ i = 15 ∨ i = 16 by omega) with rfl | rfl | rfl | rfl | rfl | rfl | rfl | rfl | rfl | rfl | rfl | rfl | rfl | rfl | rfl | rfl | rfl
    · simp at ho
      subst ho
      simp [Region.binds] at he
      simp [wpOpIn, Region.wanted]
      have hc0 := (hf.low.cell (p := ⟨bG, 0, none⟩) yG).trans hG0
      have hc1 := (hf.low.cell (p := ⟨bG, 1, none⟩) yG).trans hG1
      have hc2 := (hf.low.cell (p := ⟨bG, 2, none⟩) yG).trans hG2
      have hc3 := (hf.low.cell (p := ⟨bG, 3, none⟩) yG).trans hG3
      go_simp
      refine hK _ _ ⟨updS s 0 (.agg #[.int .i64 g.blur, .slice a.pS g.sta.length a.cs, .slice a.pM g.mov.length a.cm, .slice a.pZ g.zon.length a.cz]), hf.const 0 rfl, ?_⟩
      simp [updS]
    · simp at ho
      subst ho
      simp [Region.binds] at he
      simp [wpOpIn, Region.wanted]
      go_simp
      refine hK _ _ ⟨updS s 1 (.pointer (some ⟨bX, 0, none⟩)), hf.const 1 rfl, ?_⟩
      simp [updS]
    · simp at ho
      subst ho
      simp [Region.binds] at he
      have e1 : s 1 = .pointer (some ⟨bX, 0, none⟩) := hf.k 1 rfl (by simp [he])
      simp [wpOpIn, Region.wanted]
      have hcx := (hf.low.cell (p := ⟨bX, 0, none⟩) yX).trans hX0
      go_simp
      refine hK _ _ ⟨updS s 2 (.int .i64 xa), hf.const 2 rfl, ?_⟩
      simp [updS, e1]
    · simp at ho
      subst ho
      simp [Region.binds] at he
      simp [wpOpIn, Region.wanted]
      go_simp
      refine hK _ _ ⟨updS s 3 (.pointer (some ⟨bX, 1, none⟩)), hf.const 3 rfl, ?_⟩
      simp [updS]
    · simp at ho
      subst ho
      simp [Region.binds] at he
      have e3 : s 3 = .pointer (some ⟨bX, 1, none⟩) := hf.k 3 rfl (by simp [he])
      simp [wpOpIn, Region.wanted]
      have hcx := (hf.low.cell (p := ⟨bX, 1, none⟩) yX).trans hX1
      go_simp
      refine hK _ _ ⟨updS s 4 (.int .i64 xb), hf.const 4 rfl, ?_⟩
      simp [updS, e3]
    · simp at ho
      subst ho
      simp [Region.binds] at he
      have e0 : s 0 = .agg #[.int .i64 g.blur, .slice a.pS g.sta.length a.cs, .slice a.pM g.mov.length a.cm, .slice a.pZ g.zon.length a.cz] := hf.k 0 rfl (by simp [he])
      have e2 : s 2 = .int .i64 xa := hf.k 2 rfl (by simp [he])
      have e4 : s 4 = .int .i64 xb := hf.k 4 rfl (by simp [he])
      simp [wpOpIn, Region.wanted]
      have HC := Lib.hid ((callsIn_wide (n := 2)).2 (hfree w' hf.low))
      go_simp
      refine ⟨trivial, HC.out.mono ?_⟩
      rintro e wc ⟨rfl, hbc⟩
      simp only
      refine hK _ _ ⟨updS s 5 (.bool false), (hf.world hbc).const 5 rfl, ?_⟩
      simp [updS, e0, e2, e4]
    · simp at ho
      subst ho
      simp [Region.binds] at he
      have e5 : s 5 = .bool false := hf.k 5 rfl (by simp [he])
      simp [wpOpIn, Region.wanted]
      go_simp
      refine hK _ _ ⟨updS s 6 (.bool false), hf.const 6 rfl, ?_⟩
      simp [updS, e5]
    · simp at ho
      subst ho
      simp [Region.binds] at he
      have e6 : s 6 = .bool false := hf.k 6 rfl (by simp [he])
      simp [wpOpIn, Region.wanted, e6]
      go_simp
      refine hK _ _ ⟨updS s 7 undef, hf.skip 7 undef rfl, ?_⟩
      first | rfl | simp [updS, e6]
    · simp at ho
      subst ho
      simp [Region.binds] at he
      have e6 : s 6 = .bool false := hf.k 6 rfl (by simp [he])
      simp [wpOpIn, Region.wanted, e6]
      go_simp
      refine hK _ _ ⟨updS s 8 undef, hf.skip 8 undef rfl, ?_⟩
      first | rfl | simp [updS, e6]
    · simp at ho
      subst ho
      simp [Region.binds] at he
      have e6 : s 6 = .bool false := hf.k 6 rfl (by simp [he])
      simp [wpOpIn, Region.wanted, e6]
      go_simp
      refine hK _ _ ⟨updS s 9 undef, hf.skip 9 undef rfl, ?_⟩
      first | rfl | simp [updS, e6]
    · simp at ho
      subst ho
      simp [Region.binds] at he
      have e6 : s 6 = .bool false := hf.k 6 rfl (by simp [he])
      simp [wpOpIn, Region.wanted, e6]
      go_simp
      refine ⟨trivial, hK _ _ ?_⟩
      refine ⟨updS s 10 undef, hf.skip 10 undef rfl, ?_⟩
      first | rfl | simp [updS, e6]
    · simp at ho
      subst ho
      simp [Region.binds] at he
      have e6 : s 6 = .bool false := hf.k 6 rfl (by simp [he])
      simp [wpOpIn, Region.wanted, e6]
      go_simp
      refine hK _ _ ⟨updS s 11 undef, hf.skip 11 undef rfl, ?_⟩
      first | rfl | simp [updS, e6]
    · simp at ho
      subst ho
      simp [Region.binds] at he
      have e6 : s 6 = .bool false := hf.k 6 rfl (by simp [he])
      simp [wpOpIn, Region.wanted, e6]
      go_simp
      refine hK _ _ ⟨updS s 12 undef, hf.skip 12 undef rfl, ?_⟩
      first | rfl | simp [updS, e6]
    · simp at ho
      subst ho
      simp [Region.binds] at he
      have e6 : s 6 = .bool false := hf.k 6 rfl (by simp [he])
      simp [wpOpIn, Region.wanted, e6]
      go_simp
      refine hK _ _ ⟨updS s 13 undef, hf.skip 13 undef rfl, ?_⟩
      first | rfl | simp [updS, e6]
    · simp at ho
      subst ho
      simp [Region.binds] at he
      have e6 : s 6 = .bool false := hf.k 6 rfl (by simp [he])
      simp [wpOpIn, Region.wanted, e6]
      go_simp
      refine ⟨trivial, hK _ _ ?_⟩
      refine ⟨updS s 14 undef, hf.skip 14 undef rfl, ?_⟩
      first | rfl | simp [updS, e6]
    · simp at ho
      subst ho
      simp [Region.binds] at he
      have e6 : s 6 = .bool false := hf.k 6 rfl (by simp [he])
      simp [wpOpIn, Region.wanted, e6]
      go_simp
      refine hK _ _ ⟨updS s 15 undef, hf.skip 15 undef rfl, ?_⟩
      first | rfl | simp [updS, e6]
    · simp at ho
      subst ho
      simp [Region.binds] at he
      have e6 : s 6 = .bool false := hf.k 6 rfl (by simp [he])
      simp [wpOpIn, Region.wanted]
      go_simp
      refine hK _ _ ⟨updS s 16 (.bool false), hf.const 16 rfl, ?_⟩
      simp [updS, e6]
  case fin =>
    intro L a' w' hI hall
    obtain ⟨s, hf, rfl⟩ := hI
    rw [hf.k 16 rfl (hall 16 (by simp))]
    exact HK.out (s 0) (s 1) (s 2) (s 3) (s 4) (s 5) (s 6) (s 7) (s 8) (s 9) (s 10) (s 11) (s 12) (s 13) (s 14) (s 15) w' hf.low
end Go.Proofs.YtehnikhicnnnhaaGreatDoor

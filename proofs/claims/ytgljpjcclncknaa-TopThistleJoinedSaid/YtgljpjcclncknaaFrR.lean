/- from: the region that takes a better choice, over a frame of letters. -/
import Derived.Test.YtgljpjcclncknaaFr2
import Derived.Test.YtgljpjcclncknaaAp
namespace Go.Proofs.Ytgljpjcclncknaa
open Go.RowKit

/-- The region with a number, in loops too. -/
def findF (n : Nat) : Code → Option Code
  | .region k ops b => if k = n then some (.region k ops b) else none
  | .seq a b => (findF n a).or (findF n b)
  | .block _ c => findF n c
  | .cond _ a b => (findF n a).or (findF n b)
  | .scope c => findF n c
  | .loop c => findF n c
  | _ => none
noncomputable def skR (n : Nat) : Code := (findF n (Try.f36.body.getD .skip)).getD .skip
theorem OwnI.bestb {W : World} {base b : Nat} {v : Value} {xs : List Int} {u0 u1 u2 u3 : Value} (h : OwnI W base v xs) (hk : W.heap[b]? = some (.cells #[u0, u1, u2, u3] 98 (0, 0))) (v0 v1 v2 v3 : Value) :
    OwnI ((((W.setCell ⟨b, 0, none⟩ v0).setCell ⟨b, 1, none⟩ v1).setCell ⟨b, 2, none⟩ v2).setCell ⟨b, 3, none⟩ v3) base v xs :=
  World.ownsRow.kept h (grown_set4 W b v0 v1 v2 v3) (by
    rcases hv : v.ownBlock with _ | k
    · exact .inl rfl
    · refine .inr fun e => ?_
      rcases h.2 with ⟨rfl, _⟩ | ⟨g, cap, cur, rfl, _, hg, _⟩
      · cases hv
      · simp [Value.ownBlock] at hv
        subst hv
        rw [Option.some.inj e, hk] at hg
        cases hg)
theorem one_own {W : World} {base b : Nat} {k : Int} (h : W.heap[b]? = some (.cells #[.int .i64 k] 3 (0, 0))) (hb : base ≤ b) : OwnR 3 1 W base (.slice (some ⟨b, 0, none⟩) 1 1) [[.int .i64 k]] :=
  ⟨rfl, .inr ⟨b, 1, #[.int .i64 k], rfl, hb, h, Nat.le_refl _, by unfold maxLen; omega, rfl, rfl⟩⟩
set_option maxRecDepth 100000 in
set_option maxHeartbeats 16000000 in
theorem sk_r16 (X : World) (vb tb ob k : Nat) (us : List Int) (A2 : Option Addr) (c2 : Nat) (y1 y2 y3 o0 o1 o2 o3 : Value) (t : Tl) (hV : X.heap[vb]? = some (.cells #[.slice A2 us.length c2, y1, y2, y3] 98 (0, 0))) (hT : X.heap[tb]? = some (.cells #[.int .i64 t.inc, .int .i64 t.lft, .int .i64 t.spl] 48 (0, 0)))
    (hO : X.heap[ob]? = some (.cells #[o0, o1, o2, o3] 98 (0, 0))) (hu : IntsR X X.heap.size A2 us) (hl : us.length ≤ 1000) (hvo : vb ≠ ob) (hto : tb ≠ ob) (u0 u1 u2 u3 u4 u5 u6 u7 u8 u11 u14 u15 u16 u17 u18 u19 u20 u21 u22 u23 u24 u25 u26 u27 u28 u29 u30 u31 u32 u33 u34 u35 u36 u37 u38 u39 u40 u41 u42 u43 u44 u45 u46 u47 u48 u49 u50 u51 u52 u53 u54 u55 u56 u57 u58 u59 u60 u61 u62 u63 u64 u65 u66 u67 u68 u69 u70 u71 u72 u73 u74 u75 u76 u77 u78 u79 u80 u81 u82 u83 u84 u85 u86 u87 u88 u89 u90 u91 u92 u93 u94 u95 u96 u97 u98 u99 u100 u101 u102 u103 u104 u105 u106 u107 u108 u109 : Value) (K : Act → World → Prop) (Q : Exit → Act → World → Prop)
    (hK : ∀ (v97 v98 v99 v100 v101 v102 v103 : Value) (wx : World) (A : Option Addr) (c : Nat), wx.heap[ob]? = some (.cells #[.slice A (us.length + 1) c, .int .i64 t.inc, .int .i64 t.lft, .int .i64 t.spl] 98 (0, 0)) → OwnI wx X.heap.size (.slice A (us.length + 1) c) ((k : Int) :: us) → X.grownBy wx (some ob) → K { tmps := #[u0, u1, u2, u3, u4, u5, u6, u7, u8, .pointer (some ⟨ob, 0, none⟩), .int .i64 (k : Int), u11, .pointer (some ⟨vb, 0, none⟩), .pointer (some ⟨tb, 0, none⟩), u14, u15, u16, u17, u18, u19, u20, u21, u22, u23, u24, u25, u26, u27, u28, u29, u30, u31, u32, u33, u34, u35, u36, u37, u38, u39, u40, u41, u42, u43, u44, u45, u46, u47, u48, u49, u50, u51, u52, u53, u54, u55, u56, u57, u58, u59, u60, u61, u62, u63, u64, u65, u66, u67, u68, u69, u70, u71, u72, u73, u74, u75, u76, u77, u78, u79, u80, u81, u82, u83, u84, u85, u86, u87, u88, u89, u90, u91, u92, u93, u94, u95, u96, v97, v98, v99, v100, v101, v102, v103, u104, u105, u106, u107, u108, u109], defers := [] } wx) :
    Code.wp Try.prog (skR 16) (Exit.inBlock 1 (Exit.then K Q)) { tmps := #[u0, u1, u2, u3, u4, u5, u6, u7, u8, .pointer (some ⟨ob, 0, none⟩), .int .i64 (k : Int), u11, .pointer (some ⟨vb, 0, none⟩), .pointer (some ⟨tb, 0, none⟩), u14, u15, u16, u17, u18, u19, u20, u21, u22, u23, u24, u25, u26, u27, u28, u29, u30, u31, u32, u33, u34, u35, u36, u37, u38, u39, u40, u41, u42, u43, u44, u45, u46, u47, u48, u49, u50, u51, u52, u53, u54, u55, u56, u57, u58, u59, u60, u61, u62, u63, u64, u65, u66, u67, u68, u69, u70, u71, u72, u73, u74, u75, u76, u77, u78, u79, u80, u81, u82, u83, u84, u85, u86, u87, u88, u89, u90, u91, u92, u93, u94, u95, u96, u97, u98, u99, u100, u101, u102, u103, u104, u105, u106, u107, u108, u109], defers := [] } X := by
  conv => arg 2; whnf
  obtain ⟨i0, hi, hz0, hz1, hz2⟩ := info_parts Try.infoI2
  obtain ⟨a0, af0, a1, af1, a2, af2, a3, af3⟩ := cv4 hV
  obtain ⟨b0, bf0, b1, bf1, b2, bf2⟩ := cv3 hT
  obtain ⟨d0, df0, d1, df1, d2, df2, d3, df3⟩ := cv4 hO
  have yV := blk_lt hV
  have yT := blk_lt hT
  have yO := blk_lt hO
  have HO := Lib.hid hO
  have HV := Lib.hid hV
  have HT := Lib.hid hT
  have hvo2 := Ne.symm hvo
  have hto2 := Ne.symm hto
  have HU := Lib.hid (show Rw X X.heap.size 1 A2 (us.map fun n => [Value.int .i64 n]) from hu)
  have HLU := Lib.hid (show (us.map fun n => [Value.int .i64 n]).length = us.length by rw [List.length_map])
  clear hV hT hO hu
  go_region_held3 (fun W => X.heap.size ≤ W.heap.size ∧ W.cell? ⟨vb, 0, none⟩ = some (.slice A2 us.length c2) ∧ W.cell? ⟨tb, 0, none⟩ = some (.int .i64 t.inc) ∧ W.cell? ⟨tb, 1, none⟩ = some (.int .i64 t.lft) ∧ W.cell? ⟨tb, 2, none⟩ = some (.int .i64 t.spl)) ((first | go_keep | (refine ⟨by first | omega | (simp; omega), ?_, ?_, ?_, ?_⟩ <;> first | assumption | (simp [*]; done)))) (first | (refine step_append_full _ rfl (.tmp 98) (.tmp 100) 46 rfl X.heap.size 3 _ (.int .i64 0) 1 8 Try.underlying46 hi hz0 hz1 hz2 rfl (by decide) _ 1 rfl A2 us.length c2 rfl [[.int .i64 (k : Int)]] rfl (one_own (by (repeat first | (with_reducible first | assumption | exact blk_new (by first | rfl | (simp; done)) | refine blk_drew ?_) | (with_reducible apply blk_step; (focus (with_reducible assumption))) | (refine blk_alloc ?_))) (by first | omega | (simp; done) | (simp; omega))) (us.map fun n => [Value.int .i64 n]) HLU.out (rw_to HU.out (by (repeat first | (with_reducible first | assumption | exact Below.refl _ _ | refine Bl.drew ?_ | refine Bl.drewN ?_ _ | refine Bl.alloc ?_ _ | refine Bl.set ?_ _ ?_) | (with_reducible apply Bl.step'; (focus (with_reducible assumption))) | omega | (focus (simp; done)) | (focus (simp; omega))))) ints_len (by unfold maxLen; omega) (by omega) (by first | omega | (simp; done) | (simp; omega)) ?_; intro v3 w3 ho3 hb; (obtain ⟨A3, c3, hv3, _, _⟩ := ((show OwnR 3 1 w3 X.heap.size v3 (((k : Int) :: us).map fun n => [Value.int .i64 n]) from ho3).ints).rw_); (rw [List.length_cons] at hv3); subst hv3; (have hbx : Below X.heap.size X w3 := by (repeat first | (with_reducible first | assumption | exact Below.refl _ _ | refine Bl.drew ?_ | refine Bl.drewN ?_ _ | refine Bl.alloc ?_ _ | refine Bl.set ?_ _ ?_) | (with_reducible apply Bl.step'; (focus (with_reducible assumption))) | omega | (focus (simp; done)) | (focus (simp; omega)))); (have hxs := hbx.size); (obtain ⟨e0, ef0, e1, ef1, e2, ef2, e3, ef3⟩ := cv4 (blk_step hbx HV.out)); (obtain ⟨g0, gf0, g1, gf1, g2, gf2⟩ := cv3 (blk_step hbx HT.out)); (obtain ⟨h0, hf0, h1, hf1, h2, hf2, h3, hf3⟩ := cv4 (blk_step hbx HO.out)); (have yO3 := blk_lt (blk_step hbx HO.out)); clear hb))
  go_wp2_with fail
  refine hK _ _ _ _ _ _ _ _ _ _ (set4_block (blk_step hbx HO.out)) (OwnI.bestb ?_ (blk_step hbx HO.out) _ _ _ _) ((grown_below hbx).trans (grown_set4 _ _ _ _ _ _))
  exact ((show OwnR 3 1 w3 X.heap.size _ (((k : Int) :: us).map fun n => [Value.int .i64 n]) from ho3)).ints
end Go.Proofs.Ytgljpjcclncknaa

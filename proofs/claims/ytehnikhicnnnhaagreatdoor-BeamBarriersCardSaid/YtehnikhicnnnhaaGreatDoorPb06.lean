/- For every grid, two ints and a list of ints the law 'BeamBarriers' (Steps, Barrier and CheckBarrier return the results or the errors of the reference) answers true, and the arguments read as they did. Conditions: the four listed package-level variables hold what the program's text lays in them. -/
import Derived.Test.YtehnikhicnnnhaaGreatDoorCards
import Derived.Test.YtehnikhicnnnhaaGreatDoorTie
import Derived.Test.YtehnikhicnnnhaaGreatDoorPa20
import Derived.Test.YtehnikhicnnnhaaGreatDoorPa40
import Derived.Test.YtehnikhicnnnhaaGreatDoorPb05
import Derived.Test.YtehnikhicnnnhaaGreatDoorPa01
import Derived.WalkKit
import Derived.ProofKit
import Derived.OpenShut
import Derived.Deep.DeepHandedRow
import Derived.Lib.LaidTab
namespace Go.Proofs.YtehnikhicnnnhaaGreatDoor
open Go.ChangeShapes Go.WideShapes Go.ChangeAt Go.RowKit

theorem beamBarriers_own : ownKnob Tryz.prog.godebug = none := by kernel_rfl
theorem beamBarriers_laidOut : laidOutB Tryz.prog = true := by kernel_rfl
theorem beamBarriers_types : (Tryz.f4.params.toList.all fun t => Tryz.prog.readableRec t && decide (t < Tryz.prog.types.size)) = true := by kernel_rfl
set_option maxRecDepth 100000 in
theorem beamBarriers_contract (H : Type) (enc : TypeId × Value → H) (W : World) (base : Nat) (args : Array Value) (ds gs : List (DataW H)) (before : List MemPlace)
    (hval : ∀ (j : Nat) t v, Tryz.f4.params[j]? = some t → args[j]? = some v → Value.okWide Tryz.prog W .any base t v)
    (hW : DataW.Whole enc Tryz.prog Tryz.f4.params.toList Rows.beamBarriersSpec.vars false W args.toList ds gs before) (hL : laidMetH Tryz.prog Rows.beamBarriersRow.laid W) :
    Calls Tryz.prog 4 args W fun e W' => ∃ v, e = .returned v ∧ Rows.beamBarriersSpec.post enc Tryz.prog Tryz.f4 false true false false W args v W' := by
  have hW' := hW
  have hl : laidMet Tryz.prog Rows.beamBarriersRow.laid W := hL
  obtain ⟨p, q, hA0, hV, rfl, hfz, hnd⟩ := hW
  have hA : DataW.TrodAll enc Tryz.prog W 0 (fun _ => true) true Tryz.f4.params.toList args.toList ds p := hA0
  rw [Tryz.params4] at hA hval
  obtain ⟨v0, vs0, d0, ds0, p0, q0, hargs, rfl, rfl, h0, r0⟩ := trodAll_cons hA
  obtain ⟨v1, vs1, d1, ds1, p1, q1, rfl, rfl, rfl, h1, r1⟩ := trodAll_cons r0
  obtain ⟨v2, vs2, d2, ds2, p2, q2, rfl, rfl, rfl, h2, r2⟩ := trodAll_cons r1
  obtain ⟨rfl, rfl, rfl⟩ := trodAll_nil r2
  obtain rfl : args = #[v0, v1, v2] := by cases args; simp_all
  obtain ⟨rfl, rfl⟩ := trodVars_none hV
  obtain ⟨a, g, rfl, hg⟩ := open_grid (hval 0 _ v0 rfl rfl) h0
  obtain ⟨n0, n1, rfl, hn⟩ := open_two (hval 1 _ v1 rfl rfl) h1
  obtain ⟨A, l, c, rfl, hx, hA, hcl, hcm⟩ := open_list (hval 2 _ v2 rfl rfl) h2
  refine (BeamBarriers_c a g n0 n1 A l c W hg hx hA hcl hcm (laid_kinds hl (by simp [Rows.beamBarriersRow])) (laid_pow hl (by simp [Rows.beamBarriersRow]))).mono fun e W' ⟨he, hb⟩ => ?_
  subst he
  refine ⟨_, rfl, post_true beamBarriers_laidOut (fun t ht => ?_) (fun _ h => by cases h) hW' rfl Tryz.underlying4 rfl hb⟩
  have h := List.all_eq_true.1 beamBarriers_types t ht
  simp only [Bool.and_eq_true, decide_eq_true_eq] at h
  exact h
/-- The cells of an array of numbers. -/
def beamBarriers_tab : DataW Unit → List Value
  | .agg l => l.map fun | .lit (.int k n) => .int k n | _ => .bool false
  | _ => []
/-- A world in which the listed variables hold what the text lays. -/
noncomputable def beamBarriers_laidWorld (os : Os) : World :=
  let w0 := World.holding Tryz.prog os ⟨#[], #[], []⟩
  let put (h : Array Obj) (g : Nat) (l : List Value) : Array Obj := h.modify g fun
    | .cells _ t frozen => .cells l.toArray t frozen
    | o => o
  { w0 with heap := put (put (put (put w0.heap 0 [.string ⟨#[102, 111, 99, 117, 115]⟩, .string ⟨#[115, 116, 97, 110, 100, 98, 121]⟩, .string ⟨#[115, 116, 111, 119]⟩]) 2 (Lib.pow10Tab.map (Value.int .u64)))
    5 (beamBarriers_tab Rows.laid_math_bits_deBruijn32tab)) 6 (beamBarriers_tab Rows.laid_math_bits_deBruijn64tab) }
theorem beamBarriers_laid_met (os : Os) : laidMet Tryz.prog Rows.beamBarriersRow.laid ((beamBarriers_laidWorld os).forCall (fun _ _ => 0) ⟨#[], #[.agg #[.int .i64 0, .slice none 0 0, .slice none 0 0, .slice none 0 0], .agg #[.int .i64 0, .int .i64 0], .slice none 0 0], []⟩).memory :=
  laidMet_of_run' 8 (by kernel_rfl) (by kernel_rfl)
theorem beamBarriers_reads (os : Os) {H : Type} (enc : TypeId × Value → H) : ∃ places, DataW.whole enc Tryz.prog ((beamBarriers_laidWorld os).forCall (fun _ _ => 0) ⟨#[], #[.agg #[.int .i64 0, .slice none 0 0, .slice none 0 0, .slice none 0 0], .agg #[.int .i64 0, .int .i64 0], .slice none 0 0], []⟩).memory Tryz.f4.params.toList Rows.beamBarriersSpec.vars false (#[.agg #[.int .i64 0, .slice none 0 0, .slice none 0 0, .slice none 0 0], .agg #[.int .i64 0, .int .i64 0], .slice none 0 0] : Array Value).toList 8 = some ([.agg [.lit (.int .i64 0), .nil, .nil, .nil], .agg [.lit (.int .i64 0), .lit (.int .i64 0)], .nil], [], places) :=
  ⟨[], by kernel_rfl⟩
set_option maxRecDepth 100000 in
theorem beamBarriers_lifted (os : Os) (started : os.Started) (H : Type) (enc : TypeId × Value → H) (F : Stop.Interp) :
    ReturnsInHanded {} Tryz.checked os 4 .any ((OpenSpec.ofChange Rows.beamBarriersSpec).preRow enc Tryz.prog Tryz.f4 Rows.beamBarriersRow.domain false Rows.beamBarriersRow.laid) (((OpenSpec.ofChange Rows.beamBarriersSpec).at F).post enc Tryz.prog Tryz.f4 false true false false) := by
  obtain ⟨places, hx⟩ := beamBarriers_reads os enc
  refine returnsInHanded_of_row (C := Tryz.checked) (s := OpenSpec.ofChange Rows.beamBarriersSpec) beamBarriers_own started (by kernel_rfl) Tryz.func4
    (witness_row_at (enc := enc) (C := Tryz.checked) false (beamBarriers_laidWorld os) #[.agg #[.int .i64 0, .slice none 0 0, .slice none 0 0, .slice none 0 0], .agg #[.int .i64 0, .int .i64 0], .slice none 0 0] rfl (by kernel_rfl) (by kernel_rfl) (by kernel_rfl)
      (OpenSpec.preRow_of_cond 8 hx (by kernel_rfl) (fun k hk => by cases hk) (by kernel_rfl) (beamBarriers_laid_met os))) ?_
  intro W base args ds gs before hval hW _ _ _ hL _ _
  exact beamBarriers_contract H enc W base args ds gs before hval hW hL
theorem beamBarriers_and {a b : Bool} (h : a = true) (k : b = true) : (a && b) = true := by rw [h, k]; rfl
theorem beamBarriers_k0 : (Rows.beamBarriersRow.wf (OpenSpec.ofChange Rows.beamBarriersSpec)) = true := by kernel_rfl
theorem beamBarriers_k1 : (laidOutB Tryz.prog) = true := by kernel_rfl
theorem beamBarriers_k2 : (mapsRowed Tryz.prog) = true := by kernel_rfl
theorem beamBarriers_k3 : (Tryz.f4.params.all (Tryz.prog.readableRec ·)) = true := by kernel_rfl
theorem beamBarriers_k4 : (namedTie Tryz.prog Rows.beamBarriersRow.named Rows.beamBarriersSpec.vars) = true := by kernel_rfl
theorem beamBarriers_k5 : ((Rows.beamBarriersRow.stops == [])) = true := by kernel_rfl
theorem beamBarriers_k6 : ((Tryz.prog.stops == [])) = true := by kernel_rfl
theorem beamBarriers_k7 : ((Rows.beamBarriersRow.knobs == [])) = true := by kernel_rfl
theorem beamBarriers_k8 : ((Tryz.prog.stopKnobs == [])) = true := by kernel_rfl
theorem beamBarriers_k9 : ((Rows.beamBarriersRow.inPlace == Tryz.prog.inPlace 4)) = true := by kernel_rfl
theorem beamBarriers_k10 : ((Rows.beamBarriersRow.unfollowed == Tryz.prog.unfollowed 4)) = true := by kernel_rfl
theorem beamBarriers_k11 : ((Rows.beamBarriersRow.recurses == Tryz.prog.recurses 4)) = true := by kernel_rfl
theorem beamBarriers_k12 : ((Rows.beamBarriersRow.named == Tryz.prog.varsNamed 4)) = true := by kernel_rfl
theorem beamBarriers_k13 : ((Rows.beamBarriersRow.maps == (Tryz.f4.params.toList ++ Rows.beamBarriersSpec.plain.varTypes Tryz.prog).any (Tryz.prog.mapsRec ·))) = true := by kernel_rfl
theorem beamBarriers_k14 : ((Rows.beamBarriersRow.ifaces == (Tryz.f4.params.toList ++ Rows.beamBarriersSpec.plain.varTypes Tryz.prog).any (Tryz.prog.ifacesRec ·))) = true := by kernel_rfl
theorem beamBarriers_k15 : ((Rows.beamBarriersRow.mapsOut == Tryz.prog.mapsAmong Tryz.f4.resultTypes.toList)) = true := by kernel_rfl
theorem beamBarriers_k16 : ((Rows.beamBarriersRow.loops == (Tryz.f4.params.toList ++ Rows.beamBarriersSpec.plain.varTypes Tryz.prog).any (Tryz.prog.loopsFrom ·))) = true := by kernel_rfl
theorem beamBarriers_k17 : ((Rows.beamBarriersRow.wideKeys == (Tryz.f4.params.toList ++ Rows.beamBarriersSpec.plain.varTypes Tryz.prog ++ Tryz.f4.resultTypes.toList).any (Tryz.prog.wideKeysFrom ·))) = true := by kernel_rfl
theorem beamBarriers_k18 : (Rows.beamBarriersSpec.vars.all (Tryz.prog.varReadable ·)) = true := by kernel_rfl
theorem beamBarriers_k19 : (Tryz.f4.resultTypes.all (fun t => Tryz.prog.readableRec t && decide (t < Tryz.prog.types.size))) = true := by kernel_rfl
theorem beamBarriers_k20 : ((Rows.beamBarriersRow.ifacesOut == Tryz.f4.resultTypes.toList.any (Tryz.prog.ifacesRec ·))) = true := by kernel_rfl
theorem beamBarriers_k21 : ((Rows.beamBarriersRow.loopsOut == Tryz.f4.resultTypes.toList.any (Tryz.prog.loopsFrom ·))) = true := by kernel_rfl
theorem beamBarriers_k22 : ((Rows.beamBarriersRow.plainKeys == Tryz.prog.plainKeys)) = true := by kernel_rfl
theorem beamBarriers_k23 : (Rows.beamBarriersRow.shortTexts.isNone) = true := by kernel_rfl
theorem beamBarriers_k24 : (Tryz.prog.stopsHeard) = true := by kernel_rfl
theorem beamBarriers_k25 : (Tryz.prog.mayEnter) = true := by kernel_rfl
theorem beamBarriers_k26 : ((Rows.beamBarriersRow.lifted == Tryz.prog.liftsFinal)) = true := by kernel_rfl
theorem beamBarriers_k27 : ((Tryz.prog.make == some Rows.beamBarriersRow.make)) = true := by kernel_rfl
theorem beamBarriers_k28 : ((Rows.beamBarriersRow.kinds == (if Rows.beamBarriersRow.domain.isEmpty then [] else Tryz.f4.params.toList.map fun t => match Tryz.prog.underlying t with | some (.int k) => some k | _ => none))) = true := by kernel_rfl
theorem beamBarriers_k29 : ((Rows.beamBarriersRow.pinned == Rows.beamBarriersRow.pinnedBy)) = true := by kernel_rfl
theorem beamBarriers_k30 : ((Rows.beamBarriersRow.veiled == (Tryz.f4.params.toList ++ Rows.beamBarriersSpec.plain.varTypes Tryz.prog ++ Tryz.f4.resultTypes.toList).any (Tryz.prog.veiledRec ·))) = true := by kernel_rfl
theorem beamBarriers_k31 : (Rows.beamBarriersRow.veiledFits Tryz.prog Tryz.f4.params.toList (Tryz.f4.params.toList ++ Rows.beamBarriersSpec.plain.varTypes Tryz.prog ++ Tryz.f4.resultTypes.toList)) = true := by kernel_rfl
set_option maxRecDepth 100000 in
theorem beamBarriers_closed : joinedFacts Tryz.prog 4 Tryz.f4 Rows.beamBarriersSpec Rows.beamBarriersRow = true := beamBarriers_and (beamBarriers_and (beamBarriers_and (beamBarriers_and (beamBarriers_and (beamBarriers_and (beamBarriers_and (beamBarriers_and (beamBarriers_and (beamBarriers_and (beamBarriers_and (beamBarriers_and (beamBarriers_and (beamBarriers_and (beamBarriers_and (beamBarriers_and (beamBarriers_and (beamBarriers_and (beamBarriers_and (beamBarriers_and (beamBarriers_and (beamBarriers_and (beamBarriers_and (beamBarriers_and (beamBarriers_and (beamBarriers_and (beamBarriers_and (beamBarriers_and (beamBarriers_and (beamBarriers_and (beamBarriers_and (beamBarriers_k0) beamBarriers_k1) beamBarriers_k2) beamBarriers_k3) beamBarriers_k4) beamBarriers_k5) beamBarriers_k6) beamBarriers_k7) beamBarriers_k8) beamBarriers_k9) beamBarriers_k10) beamBarriers_k11) beamBarriers_k12) beamBarriers_k13) beamBarriers_k14) beamBarriers_k15) beamBarriers_k16) beamBarriers_k17) beamBarriers_k18) beamBarriers_k19) beamBarriers_k20) beamBarriers_k21) beamBarriers_k22) beamBarriers_k23) beamBarriers_k24) beamBarriers_k25) beamBarriers_k26) beamBarriers_k27) beamBarriers_k28) beamBarriers_k29) beamBarriers_k30) beamBarriers_k31
set_option maxRecDepth 100000 in
theorem beamBarriers_said : Rows.BeamBarriersSaid :=
  OpenClaim.holds_of_cond 4 Tryz.f4 rfl rfl rfl rfl rfl rfl rfl ⟨rfl, rfl, rfl, rfl, rfl⟩ rfl rfl rfl rfl rfl (by kernel_rfl) Tryz.func4 beamBarriers_closed
    (of_decide_eq_true (by kernel_rfl)) (by unfold Func.isWrapper; first | (rw [if_pos (by decide +kernel)]; kernel_rfl) | (rw [if_neg (by decide +kernel)]; exact ⟨rfl, rfl⟩))
    (fun os started H enc _ F => by rw [OpenClaim.pre_eq_preRow]; exact beamBarriers_lifted os started H enc F)
set_option maxRecDepth 100000 in
theorem beamBarriers_plain (f : FuncId) (fn : Func) (hf : Tryz.pinned.checked.prog.funcNamed "spillage/spillagelaw06.BeamBarriers" = some f) (hfn : Tryz.pinned.checked.prog.funcs[f]? = some fn) :
    false = Tryz.pinned.checked.prog.looks [] ∧ ∀ (j : Nat) t, fn.params[j]? = some t → Tryz.pinned.checked.prog.wantsStandIn t = false := by
  obtain rfl : f = 4 := Option.some.inj ((show Tryz.prog.funcNamed "spillage/spillagelaw06.BeamBarriers" = some 4 by kernel_rfl).symm.trans hf) |>.symm
  obtain rfl : fn = Tryz.f4 := (Option.some.inj (Tryz.func4.symm.trans hfn)).symm
  refine ⟨by kernel_rfl, fun j t ht => ?_⟩
  have hall : (Tryz.f4.params.toList.all fun t => !(Tryz.prog.wantsStandIn t)) = true := by kernel_rfl
  have h := List.all_eq_true.1 hall t (by simpa using Array.mem_of_getElem? ht)
  show Tryz.prog.wantsStandIn t = false
  simpa using h
set_option maxRecDepth 100000 in
/-- The card. -/
theorem beamBarriers_card : Rows.BeamBarriersCardSaid :=
  Claim7.holds_tied_plain_at .later [] _ _ _ _ beamBarriers_said (fun _ h => by cases h) (by kernel_rfl) (fun _ h => by cases h) beamBarriers_row_tie rfl ⟨rfl, rfl⟩ (by kernel_rfl) rfl beamBarriers_plain (by kernel_rfl)
#print axioms beamBarriers_card
end Go.Proofs.YtehnikhicnnnhaaGreatDoor

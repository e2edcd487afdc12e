/- For every grid and two ints the law 'BeamWays' (Reached, Way and Homes return the results or the errors of the reference) answers true, and the arguments read as they did. Conditions: the four listed package-level variables hold what the program's text lays in them. -/
import Derived.Test.YtehnikhicnnnhaaGreatDoorCards
import Derived.Test.YtehnikhicnnnhaaGreatDoorTie
import Derived.Test.YtehnikhicnnnhaaGreatDoorPa20
import Derived.Test.YtehnikhicnnnhaaGreatDoorPb03
import Derived.Test.YtehnikhicnnnhaaGreatDoorPa01
import Derived.WalkKit
import Derived.ProofKit
import Derived.OpenShut
import Derived.Deep.DeepHandedRow
import Derived.Lib.LaidTab
namespace Go.Proofs.YtehnikhicnnnhaaGreatDoor
open Go.ChangeShapes Go.WideShapes Go.ChangeAt Go.RowKit

theorem beamWays_own : ownKnob Tryz.prog.godebug = none := by kernel_rfl
theorem beamWays_laidOut : laidOutB Tryz.prog = true := by kernel_rfl
theorem beamWays_types : (Tryz.f3.params.toList.all fun t => Tryz.prog.readableRec t && decide (t < Tryz.prog.types.size)) = true := by kernel_rfl
set_option maxRecDepth 100000 in
theorem beamWays_contract (H : Type) (enc : TypeId × Value → H) (W : World) (base : Nat) (args : Array Value) (ds gs : List (DataW H)) (before : List MemPlace)
    (hval : ∀ (j : Nat) t v, Tryz.f3.params[j]? = some t → args[j]? = some v → Value.okWide Tryz.prog W .any base t v)
    (hW : DataW.Whole enc Tryz.prog Tryz.f3.params.toList Rows.beamWaysSpec.vars false W args.toList ds gs before) (hL : laidMetH Tryz.prog Rows.beamWaysRow.laid W) :
    Calls Tryz.prog 3 args W fun e W' => ∃ v, e = .returned v ∧ Rows.beamWaysSpec.post enc Tryz.prog Tryz.f3 false true false false W args v W' := by
  have hW' := hW
  have hl : laidMet Tryz.prog Rows.beamWaysRow.laid W := hL
  obtain ⟨p, q, hA0, hV, rfl, hfz, hnd⟩ := hW
  have hA : DataW.TrodAll enc Tryz.prog W 0 (fun _ => true) true Tryz.f3.params.toList args.toList ds p := hA0
  rw [Tryz.params3] at hA hval
  obtain ⟨v0, vs0, d0, ds0, p0, q0, hargs, rfl, rfl, h0, r0⟩ := trodAll_cons hA
  obtain ⟨v1, vs1, d1, ds1, p1, q1, rfl, rfl, rfl, h1, r1⟩ := trodAll_cons r0
  obtain ⟨rfl, rfl, rfl⟩ := trodAll_nil r1
  obtain rfl : args = #[v0, v1] := by cases args; simp_all
  obtain ⟨rfl, rfl⟩ := trodVars_none hV
  obtain ⟨a, g, rfl, hg⟩ := open_grid (hval 0 _ v0 rfl rfl) h0
  obtain ⟨n0, n1, rfl, hn⟩ := open_two (hval 1 _ v1 rfl rfl) h1
  refine (BeamWays_c a g n0 n1 W hg (laid_kinds hl (by simp [Rows.beamWaysRow])) (laid_pow hl (by simp [Rows.beamWaysRow]))).mono fun e W' ⟨he, hb⟩ => ?_
  subst he
  refine ⟨_, rfl, post_true beamWays_laidOut (fun t ht => ?_) (fun _ h => by cases h) hW' rfl Tryz.underlying4 rfl hb⟩
  have h := List.all_eq_true.1 beamWays_types t ht
  simp only [Bool.and_eq_true, decide_eq_true_eq] at h
  exact h
/-- The cells of an array of numbers. -/
def beamWays_tab : DataW Unit → List Value
  | .agg l => l.map fun | .lit (.int k n) => .int k n | _ => .bool false
  | _ => []
/-- A world in which the listed variables hold what the text lays. -/
noncomputable def beamWays_laidWorld (os : Os) : World :=
  let w0 := World.holding Tryz.prog os ⟨#[], #[], []⟩
  let put (h : Array Obj) (g : Nat) (l : List Value) : Array Obj := h.modify g fun
    | .cells _ t frozen => .cells l.toArray t frozen
    | o => o
  { w0 with heap := put (put (put (put w0.heap 0 [.string ⟨#[102, 111, 99, 117, 115]⟩, .string ⟨#[115, 116, 97, 110, 100, 98, 121]⟩, .string ⟨#[115, 116, 111, 119]⟩]) 2 (Lib.pow10Tab.map (Value.int .u64)))
    5 (beamWays_tab Rows.laid_math_bits_deBruijn32tab)) 6 (beamWays_tab Rows.laid_math_bits_deBruijn64tab) }
theorem beamWays_laid_met (os : Os) : laidMet Tryz.prog Rows.beamWaysRow.laid ((beamWays_laidWorld os).forCall (fun _ _ => 0) ⟨#[], #[.agg #[.int .i64 0, .slice none 0 0, .slice none 0 0, .slice none 0 0], .agg #[.int .i64 0, .int .i64 0]], []⟩).memory :=
  laidMet_of_run' 8 (by kernel_rfl) (by kernel_rfl)
theorem beamWays_reads (os : Os) {H : Type} (enc : TypeId × Value → H) : ∃ places, DataW.whole enc Tryz.prog ((beamWays_laidWorld os).forCall (fun _ _ => 0) ⟨#[], #[.agg #[.int .i64 0, .slice none 0 0, .slice none 0 0, .slice none 0 0], .agg #[.int .i64 0, .int .i64 0]], []⟩).memory Tryz.f3.params.toList Rows.beamWaysSpec.vars false (#[.agg #[.int .i64 0, .slice none 0 0, .slice none 0 0, .slice none 0 0], .agg #[.int .i64 0, .int .i64 0]] : Array Value).toList 8 = some ([.agg [.lit (.int .i64 0), .nil, .nil, .nil], .agg [.lit (.int .i64 0), .lit (.int .i64 0)]], [], places) :=
  ⟨[], by kernel_rfl⟩
set_option maxRecDepth 100000 in
theorem beamWays_lifted (os : Os) (started : os.Started) (H : Type) (enc : TypeId × Value → H) (F : Stop.Interp) :
    ReturnsInHanded {} Tryz.checked os 3 .any ((OpenSpec.ofChange Rows.beamWaysSpec).preRow enc Tryz.prog Tryz.f3 Rows.beamWaysRow.domain false Rows.beamWaysRow.laid) (((OpenSpec.ofChange Rows.beamWaysSpec).at F).post enc Tryz.prog Tryz.f3 false true false false) := by
  obtain ⟨places, hx⟩ := beamWays_reads os enc
  refine returnsInHanded_of_row (C := Tryz.checked) (s := OpenSpec.ofChange Rows.beamWaysSpec) beamWays_own started (by kernel_rfl) Tryz.func3
    (witness_row_at (enc := enc) (C := Tryz.checked) false (beamWays_laidWorld os) #[.agg #[.int .i64 0, .slice none 0 0, .slice none 0 0, .slice none 0 0], .agg #[.int .i64 0, .int .i64 0]] rfl (by kernel_rfl) (by kernel_rfl) (by kernel_rfl)
      (OpenSpec.preRow_of_cond 8 hx (by kernel_rfl) (fun k hk => by cases hk) (by kernel_rfl) (beamWays_laid_met os))) ?_
  intro W base args ds gs before hval hW _ _ _ hL _ _
  exact beamWays_contract H enc W base args ds gs before hval hW hL
theorem beamWays_and {a b : Bool} (h : a = true) (k : b = true) : (a && b) = true := by rw [h, k]; rfl
theorem beamWays_k0 : (Rows.beamWaysRow.wf (OpenSpec.ofChange Rows.beamWaysSpec)) = true := by kernel_rfl
theorem beamWays_k1 : (laidOutB Tryz.prog) = true := by kernel_rfl
theorem beamWays_k2 : (mapsRowed Tryz.prog) = true := by kernel_rfl
theorem beamWays_k3 : (Tryz.f3.params.all (Tryz.prog.readableRec ·)) = true := by kernel_rfl
theorem beamWays_k4 : (namedTie Tryz.prog Rows.beamWaysRow.named Rows.beamWaysSpec.vars) = true := by kernel_rfl
theorem beamWays_k5 : ((Rows.beamWaysRow.stops == [])) = true := by kernel_rfl
theorem beamWays_k6 : ((Tryz.prog.stops == [])) = true := by kernel_rfl
theorem beamWays_k7 : ((Rows.beamWaysRow.knobs == [])) = true := by kernel_rfl
theorem beamWays_k8 : ((Tryz.prog.stopKnobs == [])) = true := by kernel_rfl
theorem beamWays_k9 : ((Rows.beamWaysRow.inPlace == Tryz.prog.inPlace 3)) = true := by kernel_rfl
theorem beamWays_k10 : ((Rows.beamWaysRow.unfollowed == Tryz.prog.unfollowed 3)) = true := by kernel_rfl
theorem beamWays_k11 : ((Rows.beamWaysRow.recurses == Tryz.prog.recurses 3)) = true := by kernel_rfl
theorem beamWays_k12 : ((Rows.beamWaysRow.named == Tryz.prog.varsNamed 3)) = true := by kernel_rfl
theorem beamWays_k13 : ((Rows.beamWaysRow.maps == (Tryz.f3.params.toList ++ Rows.beamWaysSpec.plain.varTypes Tryz.prog).any (Tryz.prog.mapsRec ·))) = true := by kernel_rfl
theorem beamWays_k14 : ((Rows.beamWaysRow.ifaces == (Tryz.f3.params.toList ++ Rows.beamWaysSpec.plain.varTypes Tryz.prog).any (Tryz.prog.ifacesRec ·))) = true := by kernel_rfl
theorem beamWays_k15 : ((Rows.beamWaysRow.mapsOut == Tryz.prog.mapsAmong Tryz.f3.resultTypes.toList)) = true := by kernel_rfl
theorem beamWays_k16 : ((Rows.beamWaysRow.loops == (Tryz.f3.params.toList ++ Rows.beamWaysSpec.plain.varTypes Tryz.prog).any (Tryz.prog.loopsFrom ·))) = true := by kernel_rfl
theorem beamWays_k17 : ((Rows.beamWaysRow.wideKeys == (Tryz.f3.params.toList ++ Rows.beamWaysSpec.plain.varTypes Tryz.prog ++ Tryz.f3.resultTypes.toList).any (Tryz.prog.wideKeysFrom ·))) = true := by kernel_rfl
theorem beamWays_k18 : (Rows.beamWaysSpec.vars.all (Tryz.prog.varReadable ·)) = true := by kernel_rfl
theorem beamWays_k19 : (Tryz.f3.resultTypes.all (fun t => Tryz.prog.readableRec t && decide (t < Tryz.prog.types.size))) = true := by kernel_rfl
theorem beamWays_k20 : ((Rows.beamWaysRow.ifacesOut == Tryz.f3.resultTypes.toList.any (Tryz.prog.ifacesRec ·))) = true := by kernel_rfl
theorem beamWays_k21 : ((Rows.beamWaysRow.loopsOut == Tryz.f3.resultTypes.toList.any (Tryz.prog.loopsFrom ·))) = true := by kernel_rfl
theorem beamWays_k22 : ((Rows.beamWaysRow.plainKeys == Tryz.prog.plainKeys)) = true := by kernel_rfl
theorem beamWays_k23 : (Rows.beamWaysRow.shortTexts.isNone) = true := by kernel_rfl
theorem beamWays_k24 : (Tryz.prog.stopsHeard) = true := by kernel_rfl
theorem beamWays_k25 : (Tryz.prog.mayEnter) = true := by kernel_rfl
theorem beamWays_k26 : ((Rows.beamWaysRow.lifted == Tryz.prog.liftsFinal)) = true := by kernel_rfl
theorem beamWays_k27 : ((Tryz.prog.make == some Rows.beamWaysRow.make)) = true := by kernel_rfl
theorem beamWays_k28 : ((Rows.beamWaysRow.kinds == (if Rows.beamWaysRow.domain.isEmpty then [] else Tryz.f3.params.toList.map fun t => match Tryz.prog.underlying t with | some (.int k) => some k | _ => none))) = true := by kernel_rfl
theorem beamWays_k29 : ((Rows.beamWaysRow.pinned == Rows.beamWaysRow.pinnedBy)) = true := by kernel_rfl
theorem beamWays_k30 : ((Rows.beamWaysRow.veiled == (Tryz.f3.params.toList ++ Rows.beamWaysSpec.plain.varTypes Tryz.prog ++ Tryz.f3.resultTypes.toList).any (Tryz.prog.veiledRec ·))) = true := by kernel_rfl
theorem beamWays_k31 : (Rows.beamWaysRow.veiledFits Tryz.prog Tryz.f3.params.toList (Tryz.f3.params.toList ++ Rows.beamWaysSpec.plain.varTypes Tryz.prog ++ Tryz.f3.resultTypes.toList)) = true := by kernel_rfl
set_option maxRecDepth 100000 in
theorem beamWays_closed : joinedFacts Tryz.prog 3 Tryz.f3 Rows.beamWaysSpec Rows.beamWaysRow = true := beamWays_and (beamWays_and (beamWays_and (beamWays_and (beamWays_and (beamWays_and (beamWays_and (beamWays_and (beamWays_and (beamWays_and (beamWays_and (beamWays_and (beamWays_and (beamWays_and (beamWays_and (beamWays_and (beamWays_and (beamWays_and (beamWays_and (beamWays_and (beamWays_and (beamWays_and (beamWays_and (beamWays_and (beamWays_and (beamWays_and (beamWays_and (beamWays_and (beamWays_and (beamWays_and (beamWays_and (beamWays_k0) beamWays_k1) beamWays_k2) beamWays_k3) beamWays_k4) beamWays_k5) beamWays_k6) beamWays_k7) beamWays_k8) beamWays_k9) beamWays_k10) beamWays_k11) beamWays_k12) beamWays_k13) beamWays_k14) beamWays_k15) beamWays_k16) beamWays_k17) beamWays_k18) beamWays_k19) beamWays_k20) beamWays_k21) beamWays_k22) beamWays_k23) beamWays_k24) beamWays_k25) beamWays_k26) beamWays_k27) beamWays_k28) beamWays_k29) beamWays_k30) beamWays_k31
set_option maxRecDepth 100000 in
theorem beamWays_said : Rows.BeamWaysSaid :=
  OpenClaim.holds_of_cond 3 Tryz.f3 rfl rfl rfl rfl rfl rfl rfl ⟨rfl, rfl, rfl, rfl, rfl⟩ rfl rfl rfl rfl rfl (by kernel_rfl) Tryz.func3 beamWays_closed
    (of_decide_eq_true (by kernel_rfl)) (by unfold Func.isWrapper; first | (rw [if_pos (by decide +kernel)]; kernel_rfl) | (rw [if_neg (by decide +kernel)]; exact ⟨rfl, rfl⟩))
    (fun os started H enc _ F => by rw [OpenClaim.pre_eq_preRow]; exact beamWays_lifted os started H enc F)
set_option maxRecDepth 100000 in
theorem beamWays_plain (f : FuncId) (fn : Func) (hf : Tryz.pinned.checked.prog.funcNamed "spillage/spillagelaw06.BeamWays" = some f) (hfn : Tryz.pinned.checked.prog.funcs[f]? = some fn) :
    false = Tryz.pinned.checked.prog.looks [] ∧ ∀ (j : Nat) t, fn.params[j]? = some t → Tryz.pinned.checked.prog.wantsStandIn t = false := by
  obtain rfl : f = 3 := Option.some.inj ((show Tryz.prog.funcNamed "spillage/spillagelaw06.BeamWays" = some 3 by kernel_rfl).symm.trans hf) |>.symm
  obtain rfl : fn = Tryz.f3 := (Option.some.inj (Tryz.func3.symm.trans hfn)).symm
  refine ⟨by kernel_rfl, fun j t ht => ?_⟩
  have hall : (Tryz.f3.params.toList.all fun t => !(Tryz.prog.wantsStandIn t)) = true := by kernel_rfl
  have h := List.all_eq_true.1 hall t (by simpa using Array.mem_of_getElem? ht)
  show Tryz.prog.wantsStandIn t = false
  simpa using h
set_option maxRecDepth 100000 in
/-- The card. -/
theorem beamWays_card : Rows.BeamWaysCardSaid :=
  Claim7.holds_tied_plain_at .later [] _ _ _ _ beamWays_said (fun _ h => by cases h) (by kernel_rfl) (fun _ h => by cases h) beamWays_row_tie rfl ⟨rfl, rfl⟩ (by kernel_rfl) rfl beamWays_plain (by kernel_rfl)
#print axioms beamWays_card
end Go.Proofs.YtehnikhicnnnhaaGreatDoor

/- For every grid, zone and five ints the law 'BeamGrids' (CheckGrid, Touches and SafeMoves return the results or the errors of the reference) answers true, and the arguments read as they did. Conditions: the four listed package-level variables hold what the program's text lays in them. -/
import Derived.Test.YtehnikhicnnnhaaGreatDoorCards
import Derived.Test.YtehnikhicnnnhaaGreatDoorTie
import Derived.Test.YtehnikhicnnnhaaGreatDoorPa20
import Derived.Test.YtehnikhicnnnhaaGreatDoorPb01
import Derived.Test.YtehnikhicnnnhaaGreatDoorPa01
import Derived.WalkKit
import Derived.ProofKit
import Derived.OpenShut
import Derived.Deep.DeepHandedRow
import Derived.Lib.LaidTab
namespace Go.Proofs.YtehnikhicnnnhaaGreatDoor
open Go.ChangeShapes Go.WideShapes Go.ChangeAt Go.RowKit

theorem beamGrids_own : ownKnob Tryz.prog.godebug = none := by kernel_rfl
theorem beamGrids_laidOut : laidOutB Tryz.prog = true := by kernel_rfl
theorem beamGrids_types : (Tryz.f9.params.toList.all fun t => Tryz.prog.readableRec t && decide (t < Tryz.prog.types.size)) = true := by kernel_rfl
set_option maxRecDepth 100000 in
theorem beamGrids_contract (H : Type) (enc : TypeId × Value → H) (W : World) (base : Nat) (args : Array Value) (ds gs : List (DataW H)) (before : List MemPlace)
    (hval : ∀ (j : Nat) t v, Tryz.f9.params[j]? = some t → args[j]? = some v → Value.okWide Tryz.prog W .any base t v)
    (hW : DataW.Whole enc Tryz.prog Tryz.f9.params.toList Rows.beamGridsSpec.vars false W args.toList ds gs before) (hL : laidMetH Tryz.prog Rows.beamGridsRow.laid W) :
    Calls Tryz.prog 9 args W fun e W' => ∃ v, e = .returned v ∧ Rows.beamGridsSpec.post enc Tryz.prog Tryz.f9 false true false false W args v W' := by
  have hW' := hW
  have hl : laidMet Tryz.prog Rows.beamGridsRow.laid W := hL
  obtain ⟨p, q, hA0, hV, rfl, hfz, hnd⟩ := hW
  have hA : DataW.TrodAll enc Tryz.prog W 0 (fun _ => true) true Tryz.f9.params.toList args.toList ds p := hA0
  rw [Tryz.params9] at hA hval
  obtain ⟨v0, vs0, d0, ds0, p0, q0, hargs, rfl, rfl, h0, r0⟩ := trodAll_cons hA
  obtain ⟨v1, vs1, d1, ds1, p1, q1, rfl, rfl, rfl, h1, r1⟩ := trodAll_cons r0
  obtain ⟨v2, vs2, d2, ds2, p2, q2, rfl, rfl, rfl, h2, r2⟩ := trodAll_cons r1
  obtain ⟨rfl, rfl, rfl⟩ := trodAll_nil r2
  obtain rfl : args = #[v0, v1, v2] := by cases args; simp_all
  obtain ⟨rfl, rfl⟩ := trodVars_none hV
  obtain ⟨a, g, rfl, hg⟩ := open_grid (hval 0 _ v0 rfl rfl) h0
  obtain ⟨z, rfl⟩ := open_zone (hval 1 _ v1 rfl rfl) h1
  obtain ⟨n0, n1, n2, n3, n4, rfl⟩ := open_five (hval 2 _ v2 rfl rfl) h2
  refine (BeamGrids_c a g z n0 n1 n2 n3 n4 W hg (laid_kinds hl (by simp [Rows.beamGridsRow])) (laid_pow hl (by simp [Rows.beamGridsRow]))).mono fun e W' ⟨he, hb⟩ => ?_
  subst he
  refine ⟨_, rfl, post_true beamGrids_laidOut (fun t ht => ?_) (fun _ h => by cases h) hW' rfl Tryz.underlying4 rfl hb⟩
  have h := List.all_eq_true.1 beamGrids_types t ht
  simp only [Bool.and_eq_true, decide_eq_true_eq] at h
  exact h
/-- The cells of an array of numbers. -/
def beamGrids_tab : DataW Unit → List Value
  | .agg l => l.map fun | .lit (.int k n) => .int k n | _ => .bool false
  | _ => []
/-- A world in which the listed variables hold what the text lays. -/
noncomputable def beamGrids_laidWorld (os : Os) : World :=
  let w0 := World.holding Tryz.prog os ⟨#[], #[], []⟩
  let put (h : Array Obj) (g : Nat) (l : List Value) : Array Obj := h.modify g fun
    | .cells _ t frozen => .cells l.toArray t frozen
    | o => o
  { w0 with heap := put (put (put (put w0.heap 0 [.string ⟨#[102, 111, 99, 117, 115]⟩, .string ⟨#[115, 116, 97, 110, 100, 98, 121]⟩, .string ⟨#[115, 116, 111, 119]⟩]) 2 (Lib.pow10Tab.map (Value.int .u64)))
    5 (beamGrids_tab Rows.laid_math_bits_deBruijn32tab)) 6 (beamGrids_tab Rows.laid_math_bits_deBruijn64tab) }
theorem beamGrids_laid_met (os : Os) : laidMet Tryz.prog Rows.beamGridsRow.laid ((beamGrids_laidWorld os).forCall (fun _ _ => 0) ⟨#[], #[.agg #[.int .i64 0, .slice none 0 0, .slice none 0 0, .slice none 0 0], .agg #[.string ⟨#[]⟩, .int .i64 0, .int .i64 0, .int .i64 0], .agg #[.int .i64 0, .int .i64 0, .int .i64 0, .int .i64 0, .int .i64 0]], []⟩).memory :=
  laidMet_of_run' 8 (by kernel_rfl) (by kernel_rfl)
theorem beamGrids_reads (os : Os) {H : Type} (enc : TypeId × Value → H) : ∃ places, DataW.whole enc Tryz.prog ((beamGrids_laidWorld os).forCall (fun _ _ => 0) ⟨#[], #[.agg #[.int .i64 0, .slice none 0 0, .slice none 0 0, .slice none 0 0], .agg #[.string ⟨#[]⟩, .int .i64 0, .int .i64 0, .int .i64 0], .agg #[.int .i64 0, .int .i64 0, .int .i64 0, .int .i64 0, .int .i64 0]], []⟩).memory Tryz.f9.params.toList Rows.beamGridsSpec.vars false (#[.agg #[.int .i64 0, .slice none 0 0, .slice none 0 0, .slice none 0 0], .agg #[.string ⟨#[]⟩, .int .i64 0, .int .i64 0, .int .i64 0], .agg #[.int .i64 0, .int .i64 0, .int .i64 0, .int .i64 0, .int .i64 0]] : Array Value).toList 8 = some ([.agg [.lit (.int .i64 0), .nil, .nil, .nil], .agg [.lit (.string []), .agg [.lit (.int .i64 0), .lit (.int .i64 0)], .lit (.int .i64 0)], .agg [.lit (.int .i64 0), .lit (.int .i64 0), .lit (.int .i64 0), .lit (.int .i64 0), .lit (.int .i64 0)]], [], places) :=
  ⟨[], by kernel_rfl⟩
set_option maxRecDepth 100000 in
theorem beamGrids_lifted (os : Os) (started : os.Started) (H : Type) (enc : TypeId × Value → H) (F : Stop.Interp) :
    ReturnsInHanded {} Tryz.checked os 9 .any ((OpenSpec.ofChange Rows.beamGridsSpec).preRow enc Tryz.prog Tryz.f9 Rows.beamGridsRow.domain false Rows.beamGridsRow.laid) (((OpenSpec.ofChange Rows.beamGridsSpec).at F).post enc Tryz.prog Tryz.f9 false true false false) := by
  obtain ⟨places, hx⟩ := beamGrids_reads os enc
  refine returnsInHanded_of_row (C := Tryz.checked) (s := OpenSpec.ofChange Rows.beamGridsSpec) beamGrids_own started (by kernel_rfl) Tryz.func9
    (witness_row_at (enc := enc) (C := Tryz.checked) false (beamGrids_laidWorld os) #[.agg #[.int .i64 0, .slice none 0 0, .slice none 0 0, .slice none 0 0], .agg #[.string ⟨#[]⟩, .int .i64 0, .int .i64 0, .int .i64 0], .agg #[.int .i64 0, .int .i64 0, .int .i64 0, .int .i64 0, .int .i64 0]] rfl (by kernel_rfl) (by kernel_rfl) (by kernel_rfl)
      (OpenSpec.preRow_of_cond 8 hx (by kernel_rfl) (fun k hk => by cases hk) (by kernel_rfl) (beamGrids_laid_met os))) ?_
  intro W base args ds gs before hval hW _ _ _ hL _ _
  exact beamGrids_contract H enc W base args ds gs before hval hW hL
theorem beamGrids_and {a b : Bool} (h : a = true) (k : b = true) : (a && b) = true := by rw [h, k]; rfl
theorem beamGrids_k0 : (Rows.beamGridsRow.wf (OpenSpec.ofChange Rows.beamGridsSpec)) = true := by kernel_rfl
theorem beamGrids_k1 : (laidOutB Tryz.prog) = true := by kernel_rfl
theorem beamGrids_k2 : (mapsRowed Tryz.prog) = true := by kernel_rfl
theorem beamGrids_k3 : (Tryz.f9.params.all (Tryz.prog.readableRec ·)) = true := by kernel_rfl
theorem beamGrids_k4 : (namedTie Tryz.prog Rows.beamGridsRow.named Rows.beamGridsSpec.vars) = true := by kernel_rfl
theorem beamGrids_k5 : ((Rows.beamGridsRow.stops == [])) = true := by kernel_rfl
theorem beamGrids_k6 : ((Tryz.prog.stops == [])) = true := by kernel_rfl
theorem beamGrids_k7 : ((Rows.beamGridsRow.knobs == [])) = true := by kernel_rfl
theorem beamGrids_k8 : ((Tryz.prog.stopKnobs == [])) = true := by kernel_rfl
theorem beamGrids_k9 : ((Rows.beamGridsRow.inPlace == Tryz.prog.inPlace 9)) = true := by kernel_rfl
theorem beamGrids_k10 : ((Rows.beamGridsRow.unfollowed == Tryz.prog.unfollowed 9)) = true := by kernel_rfl
theorem beamGrids_k11 : ((Rows.beamGridsRow.recurses == Tryz.prog.recurses 9)) = true := by kernel_rfl
theorem beamGrids_k12 : ((Rows.beamGridsRow.named == Tryz.prog.varsNamed 9)) = true := by kernel_rfl
theorem beamGrids_k13 : ((Rows.beamGridsRow.maps == (Tryz.f9.params.toList ++ Rows.beamGridsSpec.plain.varTypes Tryz.prog).any (Tryz.prog.mapsRec ·))) = true := by kernel_rfl
theorem beamGrids_k14 : ((Rows.beamGridsRow.ifaces == (Tryz.f9.params.toList ++ Rows.beamGridsSpec.plain.varTypes Tryz.prog).any (Tryz.prog.ifacesRec ·))) = true := by kernel_rfl
theorem beamGrids_k15 : ((Rows.beamGridsRow.mapsOut == Tryz.prog.mapsAmong Tryz.f9.resultTypes.toList)) = true := by kernel_rfl
theorem beamGrids_k16 : ((Rows.beamGridsRow.loops == (Tryz.f9.params.toList ++ Rows.beamGridsSpec.plain.varTypes Tryz.prog).any (Tryz.prog.loopsFrom ·))) = true := by kernel_rfl
theorem beamGrids_k17 : ((Rows.beamGridsRow.wideKeys == (Tryz.f9.params.toList ++ Rows.beamGridsSpec.plain.varTypes Tryz.prog ++ Tryz.f9.resultTypes.toList).any (Tryz.prog.wideKeysFrom ·))) = true := by kernel_rfl
theorem beamGrids_k18 : (Rows.beamGridsSpec.vars.all (Tryz.prog.varReadable ·)) = true := by kernel_rfl
theorem beamGrids_k19 : (Tryz.f9.resultTypes.all (fun t => Tryz.prog.readableRec t && decide (t < Tryz.prog.types.size))) = true := by kernel_rfl
theorem beamGrids_k20 : ((Rows.beamGridsRow.ifacesOut == Tryz.f9.resultTypes.toList.any (Tryz.prog.ifacesRec ·))) = true := by kernel_rfl
theorem beamGrids_k21 : ((Rows.beamGridsRow.loopsOut == Tryz.f9.resultTypes.toList.any (Tryz.prog.loopsFrom ·))) = true := by kernel_rfl
theorem beamGrids_k22 : ((Rows.beamGridsRow.plainKeys == Tryz.prog.plainKeys)) = true := by kernel_rfl
theorem beamGrids_k23 : (Rows.beamGridsRow.shortTexts.isNone) = true := by kernel_rfl
theorem beamGrids_k24 : (Tryz.prog.stopsHeard) = true := by kernel_rfl
theorem beamGrids_k25 : (Tryz.prog.mayEnter) = true := by kernel_rfl
theorem beamGrids_k26 : ((Rows.beamGridsRow.lifted == Tryz.prog.liftsFinal)) = true := by kernel_rfl
theorem beamGrids_k27 : ((Tryz.prog.make == some Rows.beamGridsRow.make)) = true := by kernel_rfl
theorem beamGrids_k28 : ((Rows.beamGridsRow.kinds == (if Rows.beamGridsRow.domain.isEmpty then [] else Tryz.f9.params.toList.map fun t => match Tryz.prog.underlying t with | some (.int k) => some k | _ => none))) = true := by kernel_rfl
theorem beamGrids_k29 : ((Rows.beamGridsRow.pinned == Rows.beamGridsRow.pinnedBy)) = true := by kernel_rfl
theorem beamGrids_k30 : ((Rows.beamGridsRow.veiled == (Tryz.f9.params.toList ++ Rows.beamGridsSpec.plain.varTypes Tryz.prog ++ Tryz.f9.resultTypes.toList).any (Tryz.prog.veiledRec ·))) = true := by kernel_rfl
theorem beamGrids_k31 : (Rows.beamGridsRow.veiledFits Tryz.prog Tryz.f9.params.toList (Tryz.f9.params.toList ++ Rows.beamGridsSpec.plain.varTypes Tryz.prog ++ Tryz.f9.resultTypes.toList)) = true := by kernel_rfl
set_option maxRecDepth 100000 in
theorem beamGrids_closed : joinedFacts Tryz.prog 9 Tryz.f9 Rows.beamGridsSpec Rows.beamGridsRow = true := beamGrids_and (beamGrids_and (beamGrids_and (beamGrids_and (beamGrids_and (beamGrids_and (beamGrids_and (beamGrids_and (beamGrids_and (beamGrids_and (beamGrids_and (beamGrids_and (beamGrids_and (beamGrids_and (beamGrids_and (beamGrids_and (beamGrids_and (beamGrids_and (beamGrids_and (beamGrids_and (beamGrids_and (beamGrids_and (beamGrids_and (beamGrids_and (beamGrids_and (beamGrids_and (beamGrids_and (beamGrids_and (beamGrids_and (beamGrids_and (beamGrids_and (beamGrids_k0) beamGrids_k1) beamGrids_k2) beamGrids_k3) beamGrids_k4) beamGrids_k5) beamGrids_k6) beamGrids_k7) beamGrids_k8) beamGrids_k9) beamGrids_k10) beamGrids_k11) beamGrids_k12) beamGrids_k13) beamGrids_k14) beamGrids_k15) beamGrids_k16) beamGrids_k17) beamGrids_k18) beamGrids_k19) beamGrids_k20) beamGrids_k21) beamGrids_k22) beamGrids_k23) beamGrids_k24) beamGrids_k25) beamGrids_k26) beamGrids_k27) beamGrids_k28) beamGrids_k29) beamGrids_k30) beamGrids_k31
set_option maxRecDepth 100000 in
theorem beamGrids_said : Rows.BeamGridsSaid :=
  OpenClaim.holds_of_cond 9 Tryz.f9 rfl rfl rfl rfl rfl rfl rfl ⟨rfl, rfl, rfl, rfl, rfl⟩ rfl rfl rfl rfl rfl (by kernel_rfl) Tryz.func9 beamGrids_closed
    (of_decide_eq_true (by kernel_rfl)) (by unfold Func.isWrapper; first | (rw [if_pos (by decide +kernel)]; kernel_rfl) | (rw [if_neg (by decide +kernel)]; exact ⟨rfl, rfl⟩))
    (fun os started H enc _ F => by rw [OpenClaim.pre_eq_preRow]; exact beamGrids_lifted os started H enc F)
set_option maxRecDepth 100000 in
theorem beamGrids_plain (f : FuncId) (fn : Func) (hf : Tryz.pinned.checked.prog.funcNamed "spillage/spillagelaw06.BeamGrids" = some f) (hfn : Tryz.pinned.checked.prog.funcs[f]? = some fn) :
    false = Tryz.pinned.checked.prog.looks [] ∧ ∀ (j : Nat) t, fn.params[j]? = some t → Tryz.pinned.checked.prog.wantsStandIn t = false := by
  obtain rfl : f = 9 := Option.some.inj ((show Tryz.prog.funcNamed "spillage/spillagelaw06.BeamGrids" = some 9 by kernel_rfl).symm.trans hf) |>.symm
  obtain rfl : fn = Tryz.f9 := (Option.some.inj (Tryz.func9.symm.trans hfn)).symm
  refine ⟨by kernel_rfl, fun j t ht => ?_⟩
  have hall : (Tryz.f9.params.toList.all fun t => !(Tryz.prog.wantsStandIn t)) = true := by kernel_rfl
  have h := List.all_eq_true.1 hall t (by simpa using Array.mem_of_getElem? ht)
  show Tryz.prog.wantsStandIn t = false
  simpa using h
set_option maxRecDepth 100000 in
/-- The card. -/
theorem beamGrids_card : Rows.BeamGridsCardSaid :=
  Claim7.holds_tied_plain_at .later [] _ _ _ _ beamGrids_said (fun _ h => by cases h) (by kernel_rfl) (fun _ h => by cases h) beamGrids_row_tie rfl ⟨rfl, rfl⟩ (by kernel_rfl) rfl beamGrids_plain (by kernel_rfl)
#print axioms beamGrids_card
end Go.Proofs.YtehnikhicnnnhaaGreatDoor

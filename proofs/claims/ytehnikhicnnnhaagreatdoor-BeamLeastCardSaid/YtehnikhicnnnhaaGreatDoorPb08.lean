/- For every grid and two bytes the law 'BeamLeast' (between two safe stations there is a way or a barrier, never both; the way back has as many steps, no way over one station more is shorter, what is reached is reached back, and without its first zone no way is longer) answers true, and the arguments read as they did. Conditions: the four listed package-level variables hold what the program's text lays in them. -/
import Derived.Test.YtehnikhicnnnhaaGreatDoorCards
import Derived.Test.YtehnikhicnnnhaaGreatDoorTie
import Derived.Test.YtehnikhicnnnhaaGreatDoorPa20
import Derived.Test.YtehnikhicnnnhaaGreatDoorPa45
import Derived.Test.YtehnikhicnnnhaaGreatDoorPb07
import Derived.Test.YtehnikhicnnnhaaGreatDoorPa01
import Derived.WalkKit
import Derived.ProofKit
import Derived.OpenShut
import Derived.Deep.DeepHandedRow
import Derived.Lib.LaidTab
namespace Go.Proofs.YtehnikhicnnnhaaGreatDoor
open Go.ChangeShapes Go.WideShapes Go.ChangeAt Go.RowKit

theorem beamLeast_own : ownKnob Tryz.prog.godebug = none := by kernel_rfl
theorem beamLeast_laidOut : laidOutB Tryz.prog = true := by kernel_rfl
theorem beamLeast_types : (Tryz.f7.params.toList.all fun t => Tryz.prog.readableRec t && decide (t < Tryz.prog.types.size)) = true := by kernel_rfl
set_option maxRecDepth 100000 in
theorem beamLeast_contract (H : Type) (enc : TypeId × Value → H) (W : World) (base : Nat) (args : Array Value) (ds gs : List (DataW H)) (before : List MemPlace)
    (hval : ∀ (j : Nat) t v, Tryz.f7.params[j]? = some t → args[j]? = some v → Value.okWide Tryz.prog W .any base t v)
    (hW : DataW.Whole enc Tryz.prog Tryz.f7.params.toList Rows.beamLeastSpec.vars false W args.toList ds gs before) (hL : laidMetH Tryz.prog Rows.beamLeastRow.laid W) :
    Calls Tryz.prog 7 args W fun e W' => ∃ v, e = .returned v ∧ Rows.beamLeastSpec.post enc Tryz.prog Tryz.f7 false true false false W args v W' := by
  have hW' := hW
  have hl : laidMet Tryz.prog Rows.beamLeastRow.laid W := hL
  obtain ⟨p, q, hA0, hV, rfl, hfz, hnd⟩ := hW
  have hA : DataW.TrodAll enc Tryz.prog W 0 (fun _ => true) true Tryz.f7.params.toList args.toList ds p := hA0
  rw [Tryz.params7] at hA hval
  obtain ⟨v0, vs0, d0, ds0, p0, q0, hargs, rfl, rfl, h0, r0⟩ := trodAll_cons hA
  obtain ⟨v1, vs1, d1, ds1, p1, q1, rfl, rfl, rfl, h1, r1⟩ := trodAll_cons r0
  obtain ⟨rfl, rfl, rfl⟩ := trodAll_nil r1
  obtain rfl : args = #[v0, v1] := by cases args; simp_all
  obtain ⟨rfl, rfl⟩ := trodVars_none hV
  obtain ⟨a, g, rfl, hg⟩ := open_grid (hval 0 _ v0 rfl rfl) h0
  obtain ⟨n0, n1, rfl, hn⟩ := open_two8 (hval 1 _ v1 rfl rfl) h1
  refine (BeamLeast_c a g n0 n1 W hn.1 hn.2 hg (laid_kinds hl (by simp [Rows.beamLeastRow])) (laid_pow hl (by simp [Rows.beamLeastRow]))).mono fun e W' ⟨he, hb⟩ => ?_
  subst he
  refine ⟨_, rfl, post_true beamLeast_laidOut (fun t ht => ?_) (fun _ h => by cases h) hW' rfl Tryz.underlying4 rfl hb⟩
  have h := List.all_eq_true.1 beamLeast_types t ht
  simp only [Bool.and_eq_true, decide_eq_true_eq] at h
  exact h
/-- The cells of an array of numbers. -/
def beamLeast_tab : DataW Unit → List Value
  | .agg l => l.map fun | .lit (.int k n) => .int k n | _ => .bool false
  | _ => []
/-- A world in which the listed variables hold what the text lays. -/
noncomputable def beamLeast_laidWorld (os : Os) : World :=
  let w0 := World.holding Tryz.prog os ⟨#[], #[], []⟩
  let put (h : Array Obj) (g : Nat) (l : List Value) : Array Obj := h.modify g fun
    | .cells _ t frozen => .cells l.toArray t frozen
    | o => o
  { w0 with heap := put (put (put (put w0.heap 0 [.string ⟨#[102, 111, 99, 117, 115]⟩, .string ⟨#[115, 116, 97, 110, 100, 98, 121]⟩, .string ⟨#[115, 116, 111, 119]⟩]) 2 (Lib.pow10Tab.map (Value.int .u64)))
    5 (beamLeast_tab Rows.laid_math_bits_deBruijn32tab)) 6 (beamLeast_tab Rows.laid_math_bits_deBruijn64tab) }
theorem beamLeast_laid_met (os : Os) : laidMet Tryz.prog Rows.beamLeastRow.laid ((beamLeast_laidWorld os).forCall (fun _ _ => 0) ⟨#[], #[.agg #[.int .i64 0, .slice none 0 0, .slice none 0 0, .slice none 0 0], .agg #[.int .u8 0, .int .u8 0]], []⟩).memory :=
  laidMet_of_run' 8 (by kernel_rfl) (by kernel_rfl)
theorem beamLeast_reads (os : Os) {H : Type} (enc : TypeId × Value → H) : ∃ places, DataW.whole enc Tryz.prog ((beamLeast_laidWorld os).forCall (fun _ _ => 0) ⟨#[], #[.agg #[.int .i64 0, .slice none 0 0, .slice none 0 0, .slice none 0 0], .agg #[.int .u8 0, .int .u8 0]], []⟩).memory Tryz.f7.params.toList Rows.beamLeastSpec.vars false (#[.agg #[.int .i64 0, .slice none 0 0, .slice none 0 0, .slice none 0 0], .agg #[.int .u8 0, .int .u8 0]] : Array Value).toList 8 = some ([.agg [.lit (.int .i64 0), .nil, .nil, .nil], .agg [.lit (.int .u8 0), .lit (.int .u8 0)]], [], places) :=
  ⟨[], by kernel_rfl⟩
set_option maxRecDepth 100000 in
theorem beamLeast_lifted (os : Os) (started : os.Started) (H : Type) (enc : TypeId × Value → H) (F : Stop.Interp) :
    ReturnsInHanded {} Tryz.checked os 7 .any ((OpenSpec.ofChange Rows.beamLeastSpec).preRow enc Tryz.prog Tryz.f7 Rows.beamLeastRow.domain false Rows.beamLeastRow.laid) (((OpenSpec.ofChange Rows.beamLeastSpec).at F).post enc Tryz.prog Tryz.f7 false true false false) := by
  obtain ⟨places, hx⟩ := beamLeast_reads os enc
  refine returnsInHanded_of_row (C := Tryz.checked) (s := OpenSpec.ofChange Rows.beamLeastSpec) beamLeast_own started (by kernel_rfl) Tryz.func7
    (witness_row_at (enc := enc) (C := Tryz.checked) false (beamLeast_laidWorld os) #[.agg #[.int .i64 0, .slice none 0 0, .slice none 0 0, .slice none 0 0], .agg #[.int .u8 0, .int .u8 0]] rfl (by kernel_rfl) (by kernel_rfl) (by kernel_rfl)
      (OpenSpec.preRow_of_cond 8 hx (by kernel_rfl) (fun k hk => by cases hk) (by kernel_rfl) (beamLeast_laid_met os))) ?_
  intro W base args ds gs before hval hW _ _ _ hL _ _
  exact beamLeast_contract H enc W base args ds gs before hval hW hL
theorem beamLeast_and {a b : Bool} (h : a = true) (k : b = true) : (a && b) = true := by rw [h, k]; rfl
theorem beamLeast_k0 : (Rows.beamLeastRow.wf (OpenSpec.ofChange Rows.beamLeastSpec)) = true := by kernel_rfl
theorem beamLeast_k1 : (laidOutB Tryz.prog) = true := by kernel_rfl
theorem beamLeast_k2 : (mapsRowed Tryz.prog) = true := by kernel_rfl
theorem beamLeast_k3 : (Tryz.f7.params.all (Tryz.prog.readableRec ·)) = true := by kernel_rfl
theorem beamLeast_k4 : (namedTie Tryz.prog Rows.beamLeastRow.named Rows.beamLeastSpec.vars) = true := by kernel_rfl
theorem beamLeast_k5 : ((Rows.beamLeastRow.stops == [])) = true := by kernel_rfl
theorem beamLeast_k6 : ((Tryz.prog.stops == [])) = true := by kernel_rfl
theorem beamLeast_k7 : ((Rows.beamLeastRow.knobs == [])) = true := by kernel_rfl
theorem beamLeast_k8 : ((Tryz.prog.stopKnobs == [])) = true := by kernel_rfl
theorem beamLeast_k9 : ((Rows.beamLeastRow.inPlace == Tryz.prog.inPlace 7)) = true := by kernel_rfl
theorem beamLeast_k10 : ((Rows.beamLeastRow.unfollowed == Tryz.prog.unfollowed 7)) = true := by kernel_rfl
theorem beamLeast_k11 : ((Rows.beamLeastRow.recurses == Tryz.prog.recurses 7)) = true := by kernel_rfl
theorem beamLeast_k12 : ((Rows.beamLeastRow.named == Tryz.prog.varsNamed 7)) = true := by kernel_rfl
theorem beamLeast_k13 : ((Rows.beamLeastRow.maps == (Tryz.f7.params.toList ++ Rows.beamLeastSpec.plain.varTypes Tryz.prog).any (Tryz.prog.mapsRec ·))) = true := by kernel_rfl
theorem beamLeast_k14 : ((Rows.beamLeastRow.ifaces == (Tryz.f7.params.toList ++ Rows.beamLeastSpec.plain.varTypes Tryz.prog).any (Tryz.prog.ifacesRec ·))) = true := by kernel_rfl
theorem beamLeast_k15 : ((Rows.beamLeastRow.mapsOut == Tryz.prog.mapsAmong Tryz.f7.resultTypes.toList)) = true := by kernel_rfl
theorem beamLeast_k16 : ((Rows.beamLeastRow.loops == (Tryz.f7.params.toList ++ Rows.beamLeastSpec.plain.varTypes Tryz.prog).any (Tryz.prog.loopsFrom ·))) = true := by kernel_rfl
theorem beamLeast_k17 : ((Rows.beamLeastRow.wideKeys == (Tryz.f7.params.toList ++ Rows.beamLeastSpec.plain.varTypes Tryz.prog ++ Tryz.f7.resultTypes.toList).any (Tryz.prog.wideKeysFrom ·))) = true := by kernel_rfl
theorem beamLeast_k18 : (Rows.beamLeastSpec.vars.all (Tryz.prog.varReadable ·)) = true := by kernel_rfl
theorem beamLeast_k19 : (Tryz.f7.resultTypes.all (fun t => Tryz.prog.readableRec t && decide (t < Tryz.prog.types.size))) = true := by kernel_rfl
theorem beamLeast_k20 : ((Rows.beamLeastRow.ifacesOut == Tryz.f7.resultTypes.toList.any (Tryz.prog.ifacesRec ·))) = true := by kernel_rfl
theorem beamLeast_k21 : ((Rows.beamLeastRow.loopsOut == Tryz.f7.resultTypes.toList.any (Tryz.prog.loopsFrom ·))) = true := by kernel_rfl
theorem beamLeast_k22 : ((Rows.beamLeastRow.plainKeys == Tryz.prog.plainKeys)) = true := by kernel_rfl
theorem beamLeast_k23 : (Rows.beamLeastRow.shortTexts.isNone) = true := by kernel_rfl
theorem beamLeast_k24 : (Tryz.prog.stopsHeard) = true := by kernel_rfl
theorem beamLeast_k25 : (Tryz.prog.mayEnter) = true := by kernel_rfl
theorem beamLeast_k26 : ((Rows.beamLeastRow.lifted == Tryz.prog.liftsFinal)) = true := by kernel_rfl
theorem beamLeast_k27 : ((Tryz.prog.make == some Rows.beamLeastRow.make)) = true := by kernel_rfl
theorem beamLeast_k28 : ((Rows.beamLeastRow.kinds == (if Rows.beamLeastRow.domain.isEmpty then [] else Tryz.f7.params.toList.map fun t => match Tryz.prog.underlying t with | some (.int k) => some k | _ => none))) = true := by kernel_rfl
theorem beamLeast_k29 : ((Rows.beamLeastRow.pinned == Rows.beamLeastRow.pinnedBy)) = true := by kernel_rfl
theorem beamLeast_k30 : ((Rows.beamLeastRow.veiled == (Tryz.f7.params.toList ++ Rows.beamLeastSpec.plain.varTypes Tryz.prog ++ Tryz.f7.resultTypes.toList).any (Tryz.prog.veiledRec ·))) = true := by kernel_rfl
theorem beamLeast_k31 : (Rows.beamLeastRow.veiledFits Tryz.prog Tryz.f7.params.toList (Tryz.f7.params.toList ++ Rows.beamLeastSpec.plain.varTypes Tryz.prog ++ Tryz.f7.resultTypes.toList)) = true := by kernel_rfl
set_option maxRecDepth 100000 in
theorem beamLeast_closed : joinedFacts Tryz.prog 7 Tryz.f7 Rows.beamLeastSpec Rows.beamLeastRow = true := beamLeast_and (beamLeast_and (beamLeast_and (beamLeast_and (beamLeast_and (beamLeast_and (beamLeast_and (beamLeast_and (beamLeast_and (beamLeast_and (beamLeast_and (beamLeast_and (beamLeast_and (beamLeast_and (beamLeast_and (beamLeast_and (beamLeast_and (beamLeast_and (beamLeast_and (beamLeast_and (beamLeast_and (beamLeast_and (beamLeast_and (beamLeast_and (beamLeast_and (beamLeast_and (beamLeast_and (beamLeast_and (beamLeast_and (beamLeast_and (beamLeast_and (beamLeast_k0) beamLeast_k1) beamLeast_k2) beamLeast_k3) beamLeast_k4) beamLeast_k5) beamLeast_k6) beamLeast_k7) beamLeast_k8) beamLeast_k9) beamLeast_k10) beamLeast_k11) beamLeast_k12) beamLeast_k13) beamLeast_k14) beamLeast_k15) beamLeast_k16) beamLeast_k17) beamLeast_k18) beamLeast_k19) beamLeast_k20) beamLeast_k21) beamLeast_k22) beamLeast_k23) beamLeast_k24) beamLeast_k25) beamLeast_k26) beamLeast_k27) beamLeast_k28) beamLeast_k29) beamLeast_k30) beamLeast_k31
set_option maxRecDepth 100000 in
theorem beamLeast_said : Rows.BeamLeastSaid :=
  OpenClaim.holds_of_cond 7 Tryz.f7 rfl rfl rfl rfl rfl rfl rfl ⟨rfl, rfl, rfl, rfl, rfl⟩ rfl rfl rfl rfl rfl (by kernel_rfl) Tryz.func7 beamLeast_closed
    (of_decide_eq_true (by kernel_rfl)) (by unfold Func.isWrapper; first | (rw [if_pos (by decide +kernel)]; kernel_rfl) | (rw [if_neg (by decide +kernel)]; exact ⟨rfl, rfl⟩))
    (fun os started H enc _ F => by rw [OpenClaim.pre_eq_preRow]; exact beamLeast_lifted os started H enc F)
set_option maxRecDepth 100000 in
theorem beamLeast_plain (f : FuncId) (fn : Func) (hf : Tryz.pinned.checked.prog.funcNamed "spillage/spillagelaw06.BeamLeast" = some f) (hfn : Tryz.pinned.checked.prog.funcs[f]? = some fn) :
    false = Tryz.pinned.checked.prog.looks [] ∧ ∀ (j : Nat) t, fn.params[j]? = some t → Tryz.pinned.checked.prog.wantsStandIn t = false := by
  obtain rfl : f = 7 := Option.some.inj ((show Tryz.prog.funcNamed "spillage/spillagelaw06.BeamLeast" = some 7 by kernel_rfl).symm.trans hf) |>.symm
  obtain rfl : fn = Tryz.f7 := (Option.some.inj (Tryz.func7.symm.trans hfn)).symm
  refine ⟨by kernel_rfl, fun j t ht => ?_⟩
  have hall : (Tryz.f7.params.toList.all fun t => !(Tryz.prog.wantsStandIn t)) = true := by kernel_rfl
  have h := List.all_eq_true.1 hall t (by simpa using Array.mem_of_getElem? ht)
  show Tryz.prog.wantsStandIn t = false
  simpa using h
set_option maxRecDepth 100000 in
/-- The card. -/
theorem beamLeast_card : Rows.BeamLeastCardSaid :=
  Claim7.holds_tied_plain_at .later [] _ _ _ _ beamLeast_said (fun _ h => by cases h) (by kernel_rfl) (fun _ h => by cases h) beamLeast_row_tie rfl ⟨rfl, rfl⟩ (by kernel_rfl) rfl beamLeast_plain (by kernel_rfl)
#print axioms beamLeast_card
end Go.Proofs.YtehnikhicnnnhaaGreatDoor

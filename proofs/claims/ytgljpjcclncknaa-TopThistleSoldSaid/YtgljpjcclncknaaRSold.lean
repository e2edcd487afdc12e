/- For every tank, plant and list of pairs of uint16 the law 'TopThistleSold' (heat that is drawn from a tank is the energy that a plant gets; what the plant sells, spills and keeps is what it had and got; and what is delivered as offered is paid with its income, without a shortfall) answers true, and the arguments read as they did. Conditions: none. -/
import Derived.Test.YtgljpjcclncknaaRows
import Derived.Test.YtgljpjcclncknaaOp
import Derived.Test.YtgljpjcclncknaaSold
import Derived.WalkKit
import Derived.ProofKit
import Derived.OpenShut
import Derived.Deep.DeepHandedRow
namespace Go.Proofs.Ytgljpjcclncknaa
open Go.ChangeShapes Go.WideShapes Go.ChangeAt Go.RowKit

theorem topThistleSold_own : ownKnob Try.prog.godebug = none := by kernel_rfl
theorem topThistleSold_laidOut : laidOutB Try.prog = true := by kernel_rfl
theorem topThistleSold_types : (Try.f3.params.toList.all fun t => Try.prog.readableRec t && decide (t < Try.prog.types.size)) = true := by kernel_rfl
set_option maxRecDepth 100000 in
theorem topThistleSold_contract (H : Type) (enc : TypeId × Value → H) (W : World) (base : Nat) (args : Array Value) (ds gs : List (DataW H)) (before : List MemPlace)
    (hval : ∀ (j : Nat) t v, Try.f3.params[j]? = some t → args[j]? = some v → Value.okWide Try.prog W .any base t v)
    (hW : DataW.Whole enc Try.prog Try.f3.params.toList Rows.topThistleSoldSpec.vars false W args.toList ds gs before) :
    Calls Try.prog 3 args W fun e W' => ∃ v, e = .returned v ∧ Rows.topThistleSoldSpec.post enc Try.prog Try.f3 false true false false W args v W' := by
  have hW' := hW
  obtain ⟨p, q, hA0, hV, rfl, hfz, hnd⟩ := hW
  have hA : DataW.TrodAll enc Try.prog W 0 (fun _ => true) true Try.f3.params.toList args.toList ds p := hA0
  rw [Try.params3] at hA hval
  obtain ⟨v0, vs0, d0, ds0, p0, q0, hargs, rfl, rfl, h0, r0⟩ := trodAll_cons hA
  obtain ⟨v1, vs1, d1, ds1, p1, q1, rfl, rfl, rfl, h1, r1⟩ := trodAll_cons r0
  obtain ⟨v2, vs2, d2, ds2, p2, q2, rfl, rfl, rfl, h2, r2⟩ := trodAll_cons r1
  obtain ⟨rfl, rfl, rfl⟩ := trodAll_nil r2
  obtain rfl : args = #[v0, v1, v2] := by cases args; simp_all
  obtain ⟨rfl, rfl⟩ := trodVars_none hV
  obtain ⟨room, A, c, ls, rfl, hr⟩ := open_tank (hval 0 _ v0 rfl rfl) h0
  obtain ⟨p, rfl⟩ := open_plant (hval 1 _ v1 rfl rfl) h1
  obtain ⟨B, xs, c2, rfl, hx, hxb⟩ := open_u16s (hval 2 _ v2 rfl rfl) h2
  refine (Sold_c room A c ls p B c2 xs W hr hx hxb).mono fun e W' ⟨he, hb⟩ => ?_
  subst he
  refine ⟨_, rfl, post_true topThistleSold_laidOut (fun t ht => ?_) (fun _ h => by cases h) hW' rfl Try.underlying4 rfl hb⟩
  have h := List.all_eq_true.1 topThistleSold_types t ht
  simp only [Bool.and_eq_true, decide_eq_true_eq] at h
  exact h
set_option maxRecDepth 100000 in
theorem topThistleSold_lifted (os : Os) (started : os.Started) (H : Type) (enc : TypeId × Value → H) :
    ReturnsInHanded {} Try.checked os 3 .any (Rows.topThistleSoldSpec.pre6 enc Try.prog Try.f3 Rows.topThistleSoldRow.domain false) (Rows.topThistleSoldSpec.post enc Try.prog Try.f3 false true false false) := by
  refine returnsInHanded_of_change (C := Try.checked) topThistleSold_own started (by kernel_rfl) Try.func3
    (ChangeSpec.witness6 (enc := enc) (C := Try.checked) false ⟨#[], #[.agg #[.int .i64 0, .slice none 0 0], .agg #[.int .i64 0, .int .i64 0, .int .i64 0], .slice none 0 0], []⟩ 8 (by kernel_rfl) (by kernel_rfl) (by kernel_rfl) (by kernel_rfl)) ?_
  intro W base args ds gs before hval hW _ _
  exact topThistleSold_contract H enc W base args ds gs before hval hW
theorem topThistleSold_and {a b : Bool} (h : a = true) (k : b = true) : (a && b) = true := by rw [h, k]; rfl
theorem topThistleSold_k0 : (Rows.topThistleSoldRow.wf (OpenSpec.ofChange Rows.topThistleSoldSpec)) = true := by kernel_rfl
theorem topThistleSold_k1 : (laidOutB Try.prog) = true := by kernel_rfl
theorem topThistleSold_k2 : (mapsRowed Try.prog) = true := by kernel_rfl
theorem topThistleSold_k3 : (Try.f3.params.all (Try.prog.readableRec ·)) = true := by kernel_rfl
theorem topThistleSold_k4 : (namedTie Try.prog Rows.topThistleSoldRow.named Rows.topThistleSoldSpec.vars) = true := by kernel_rfl
theorem topThistleSold_k5 : ((Rows.topThistleSoldRow.stops == [])) = true := by kernel_rfl
theorem topThistleSold_k6 : ((Try.prog.stops == [])) = true := by kernel_rfl
theorem topThistleSold_k7 : ((Rows.topThistleSoldRow.knobs == [])) = true := by kernel_rfl
theorem topThistleSold_k8 : ((Try.prog.stopKnobs == [])) = true := by kernel_rfl
theorem topThistleSold_k9 : ((Rows.topThistleSoldRow.inPlace == Try.prog.inPlace 3)) = true := by kernel_rfl
theorem topThistleSold_k10 : ((Rows.topThistleSoldRow.unfollowed == Try.prog.unfollowed 3)) = true := by kernel_rfl
theorem topThistleSold_k11 : ((Rows.topThistleSoldRow.recurses == Try.prog.recurses 3)) = true := by kernel_rfl
theorem topThistleSold_k12 : ((Rows.topThistleSoldRow.named == Try.prog.varsNamed 3)) = true := by kernel_rfl
theorem topThistleSold_k13 : ((Rows.topThistleSoldRow.maps == (Try.f3.params.toList ++ Rows.topThistleSoldSpec.plain.varTypes Try.prog).any (Try.prog.mapsRec ·))) = true := by kernel_rfl
theorem topThistleSold_k14 : ((Rows.topThistleSoldRow.ifaces == (Try.f3.params.toList ++ Rows.topThistleSoldSpec.plain.varTypes Try.prog).any (Try.prog.ifacesRec ·))) = true := by kernel_rfl
theorem topThistleSold_k15 : ((Rows.topThistleSoldRow.mapsOut == Try.prog.mapsAmong Try.f3.resultTypes.toList)) = true := by kernel_rfl
theorem topThistleSold_k16 : ((Rows.topThistleSoldRow.loops == (Try.f3.params.toList ++ Rows.topThistleSoldSpec.plain.varTypes Try.prog).any (Try.prog.loopsFrom ·))) = true := by kernel_rfl
theorem topThistleSold_k17 : ((Rows.topThistleSoldRow.wideKeys == (Try.f3.params.toList ++ Rows.topThistleSoldSpec.plain.varTypes Try.prog ++ Try.f3.resultTypes.toList).any (Try.prog.wideKeysFrom ·))) = true := by kernel_rfl
theorem topThistleSold_k18 : (Rows.topThistleSoldSpec.vars.all (Try.prog.varReadable ·)) = true := by kernel_rfl
theorem topThistleSold_k19 : (Try.f3.resultTypes.all (fun t => Try.prog.readableRec t && decide (t < Try.prog.types.size))) = true := by kernel_rfl
theorem topThistleSold_k20 : ((Rows.topThistleSoldRow.ifacesOut == Try.f3.resultTypes.toList.any (Try.prog.ifacesRec ·))) = true := by kernel_rfl
theorem topThistleSold_k21 : ((Rows.topThistleSoldRow.loopsOut == Try.f3.resultTypes.toList.any (Try.prog.loopsFrom ·))) = true := by kernel_rfl
theorem topThistleSold_k22 : ((Rows.topThistleSoldRow.plainKeys == Try.prog.plainKeys)) = true := by kernel_rfl
theorem topThistleSold_k23 : (Rows.topThistleSoldRow.shortTexts.isNone) = true := by kernel_rfl
theorem topThistleSold_k24 : (Try.prog.stopsHeard) = true := by kernel_rfl
theorem topThistleSold_k25 : (Try.prog.mayEnter) = true := by kernel_rfl
theorem topThistleSold_k26 : ((Rows.topThistleSoldRow.lifted == Try.prog.liftsFinal)) = true := by kernel_rfl
theorem topThistleSold_k27 : ((Try.prog.make == some Rows.topThistleSoldRow.make)) = true := by kernel_rfl
theorem topThistleSold_k28 : ((Rows.topThistleSoldRow.kinds == (if Rows.topThistleSoldRow.domain.isEmpty then [] else Try.f3.params.toList.map fun t => match Try.prog.underlying t with | some (.int k) => some k | _ => none))) = true := by kernel_rfl
theorem topThistleSold_k29 : ((Rows.topThistleSoldRow.pinned == Rows.topThistleSoldRow.pinnedBy)) = true := by kernel_rfl
theorem topThistleSold_k30 : ((Rows.topThistleSoldRow.veiled == (Try.f3.params.toList ++ Rows.topThistleSoldSpec.plain.varTypes Try.prog ++ Try.f3.resultTypes.toList).any (Try.prog.veiledRec ·))) = true := by kernel_rfl
theorem topThistleSold_k31 : (Rows.topThistleSoldRow.veiledFits Try.prog Try.f3.params.toList (Try.f3.params.toList ++ Rows.topThistleSoldSpec.plain.varTypes Try.prog ++ Try.f3.resultTypes.toList)) = true := by kernel_rfl
set_option maxRecDepth 100000 in
theorem topThistleSold_closed : joinedFacts Try.prog 3 Try.f3 Rows.topThistleSoldSpec Rows.topThistleSoldRow = true := topThistleSold_and (topThistleSold_and (topThistleSold_and (topThistleSold_and (topThistleSold_and (topThistleSold_and (topThistleSold_and (topThistleSold_and (topThistleSold_and (topThistleSold_and (topThistleSold_and (topThistleSold_and (topThistleSold_and (topThistleSold_and (topThistleSold_and (topThistleSold_and (topThistleSold_and (topThistleSold_and (topThistleSold_and (topThistleSold_and (topThistleSold_and (topThistleSold_and (topThistleSold_and (topThistleSold_and (topThistleSold_and (topThistleSold_and (topThistleSold_and (topThistleSold_and (topThistleSold_and (topThistleSold_and (topThistleSold_and (topThistleSold_k0) topThistleSold_k1) topThistleSold_k2) topThistleSold_k3) topThistleSold_k4) topThistleSold_k5) topThistleSold_k6) topThistleSold_k7) topThistleSold_k8) topThistleSold_k9) topThistleSold_k10) topThistleSold_k11) topThistleSold_k12) topThistleSold_k13) topThistleSold_k14) topThistleSold_k15) topThistleSold_k16) topThistleSold_k17) topThistleSold_k18) topThistleSold_k19) topThistleSold_k20) topThistleSold_k21) topThistleSold_k22) topThistleSold_k23) topThistleSold_k24) topThistleSold_k25) topThistleSold_k26) topThistleSold_k27) topThistleSold_k28) topThistleSold_k29) topThistleSold_k30) topThistleSold_k31
set_option maxRecDepth 100000 in
/-- The row. -/
theorem topThistleSold_holds : Rows.TopThistleSoldSaid :=
  OpenClaim.holds_of_wide 3 Try.f3 rfl rfl rfl rfl rfl rfl rfl ⟨rfl, rfl, rfl, rfl, rfl⟩ rfl rfl rfl rfl rfl (by kernel_rfl) Try.func3 topThistleSold_closed
    (of_decide_eq_true (by kernel_rfl)) (by unfold Func.isWrapper; first | (rw [if_pos (by decide +kernel)]; kernel_rfl) | (rw [if_neg (by decide +kernel)]; exact ⟨rfl, rfl⟩))
    (fun os started H enc _ => topThistleSold_lifted os started H enc)
#print axioms topThistleSold_holds
end Go.Proofs.Ytgljpjcclncknaa

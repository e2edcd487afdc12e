/- For every list of triples of int8, tank and pair of uint8 the law 'TopThistleJoined' (a generator that is joined has been in step as long as it must; until it is joined no heat is drawn and nothing is delivered; the bill is what was delivered, less the fine for the quarter hours that are short) answers true, and the arguments read as they did. Conditions: none. -/
import Derived.Test.YtgljpjcclncknaaRows
import Derived.Test.YtgljpjcclncknaaOp
import Derived.Test.YtgljpjcclncknaaM9
import Derived.WalkKit
import Derived.ProofKit
import Derived.OpenShut
import Derived.Deep.DeepHandedRow
namespace Go.Proofs.Ytgljpjcclncknaa
open Go.ChangeShapes Go.WideShapes Go.ChangeAt Go.RowKit

theorem topThistleJoined_own : ownKnob Try.prog.godebug = none := by kernel_rfl
theorem topThistleJoined_laidOut : laidOutB Try.prog = true := by kernel_rfl
theorem topThistleJoined_types : (Try.f4.params.toList.all fun t => Try.prog.readableRec t && decide (t < Try.prog.types.size)) = true := by kernel_rfl
set_option maxRecDepth 100000 in
theorem topThistleJoined_contract (H : Type) (enc : TypeId × Value → H) (W : World) (base : Nat) (args : Array Value) (ds gs : List (DataW H)) (before : List MemPlace)
    (hval : ∀ (j : Nat) t v, Try.f4.params[j]? = some t → args[j]? = some v → Value.okWide Try.prog W .any base t v)
    (hW : DataW.Whole enc Try.prog Try.f4.params.toList Rows.topThistleJoinedSpec.vars false W args.toList ds gs before) :
    Calls Try.prog 4 args W fun e W' => ∃ v, e = .returned v ∧ Rows.topThistleJoinedSpec.post enc Try.prog Try.f4 false true false false W args v W' := by
  have hW' := hW
  obtain ⟨p, q, hA0, hV, rfl, hfz, hnd⟩ := hW
  have hA : DataW.TrodAll enc Try.prog W 0 (fun _ => true) true Try.f4.params.toList args.toList ds p := hA0
  rw [Try.params4] at hA hval
  obtain ⟨v0, vs0, d0, ds0, p0, q0, hargs, rfl, rfl, h0, r0⟩ := trodAll_cons hA
  obtain ⟨v1, vs1, d1, ds1, p1, q1, rfl, rfl, rfl, h1, r1⟩ := trodAll_cons r0
  obtain ⟨v2, vs2, d2, ds2, p2, q2, rfl, rfl, rfl, h2, r2⟩ := trodAll_cons r1
  obtain ⟨rfl, rfl, rfl⟩ := trodAll_nil r2
  obtain rfl : args = #[v0, v1, v2] := by cases args; simp_all
  obtain ⟨rfl, rfl⟩ := trodVars_none hV
  obtain ⟨B, xs, c2, rfl, hx, hxb⟩ := open_i8s (hval 0 _ v0 rfl rfl) h0
  obtain ⟨room, A, c, ls, rfl, hr⟩ := open_tank (hval 1 _ v1 rfl rfl) h1
  obtain ⟨n0, n1, rfl, hn0, hn1⟩ := open_two8 (hval 2 _ v2 rfl rfl) h2
  refine (Joind_c B c2 xs room A c ls n0 n1 W hx hxb hr hn0 hn1).mono fun e W' ⟨he, hb⟩ => ?_
  subst he
  refine ⟨_, rfl, post_true topThistleJoined_laidOut (fun t ht => ?_) (fun _ h => by cases h) hW' rfl Try.underlying4 rfl hb⟩
  have h := List.all_eq_true.1 topThistleJoined_types t ht
  simp only [Bool.and_eq_true, decide_eq_true_eq] at h
  exact h
set_option maxRecDepth 100000 in
theorem topThistleJoined_lifted (os : Os) (started : os.Started) (H : Type) (enc : TypeId × Value → H) :
    ReturnsInHanded {} Try.checked os 4 .any (Rows.topThistleJoinedSpec.pre6 enc Try.prog Try.f4 Rows.topThistleJoinedRow.domain false) (Rows.topThistleJoinedSpec.post enc Try.prog Try.f4 false true false false) := by
  refine returnsInHanded_of_change (C := Try.checked) topThistleJoined_own started (by kernel_rfl) Try.func4
    (ChangeSpec.witness6 (enc := enc) (C := Try.checked) false ⟨#[], #[.slice none 0 0, .agg #[.int .i64 0, .slice none 0 0], .agg #[.int .u8 0, .int .u8 0]], []⟩ 8 (by kernel_rfl) (by kernel_rfl) (by kernel_rfl) (by kernel_rfl)) ?_
  intro W base args ds gs before hval hW _ _
  exact topThistleJoined_contract H enc W base args ds gs before hval hW
theorem topThistleJoined_and {a b : Bool} (h : a = true) (k : b = true) : (a && b) = true := by rw [h, k]; rfl
theorem topThistleJoined_k0 : (Rows.topThistleJoinedRow.wf (OpenSpec.ofChange Rows.topThistleJoinedSpec)) = true := by kernel_rfl
theorem topThistleJoined_k1 : (laidOutB Try.prog) = true := by kernel_rfl
theorem topThistleJoined_k2 : (mapsRowed Try.prog) = true := by kernel_rfl
theorem topThistleJoined_k3 : (Try.f4.params.all (Try.prog.readableRec ·)) = true := by kernel_rfl
theorem topThistleJoined_k4 : (namedTie Try.prog Rows.topThistleJoinedRow.named Rows.topThistleJoinedSpec.vars) = true := by kernel_rfl
theorem topThistleJoined_k5 : ((Rows.topThistleJoinedRow.stops == [])) = true := by kernel_rfl
theorem topThistleJoined_k6 : ((Try.prog.stops == [])) = true := by kernel_rfl
theorem topThistleJoined_k7 : ((Rows.topThistleJoinedRow.knobs == [])) = true := by kernel_rfl
theorem topThistleJoined_k8 : ((Try.prog.stopKnobs == [])) = true := by kernel_rfl
theorem topThistleJoined_k9 : ((Rows.topThistleJoinedRow.inPlace == Try.prog.inPlace 4)) = true := by kernel_rfl
theorem topThistleJoined_k10 : ((Rows.topThistleJoinedRow.unfollowed == Try.prog.unfollowed 4)) = true := by kernel_rfl
theorem topThistleJoined_k11 : ((Rows.topThistleJoinedRow.recurses == Try.prog.recurses 4)) = true := by kernel_rfl
theorem topThistleJoined_k12 : ((Rows.topThistleJoinedRow.named == Try.prog.varsNamed 4)) = true := by kernel_rfl
theorem topThistleJoined_k13 : ((Rows.topThistleJoinedRow.maps == (Try.f4.params.toList ++ Rows.topThistleJoinedSpec.plain.varTypes Try.prog).any (Try.prog.mapsRec ·))) = true := by kernel_rfl
theorem topThistleJoined_k14 : ((Rows.topThistleJoinedRow.ifaces == (Try.f4.params.toList ++ Rows.topThistleJoinedSpec.plain.varTypes Try.prog).any (Try.prog.ifacesRec ·))) = true := by kernel_rfl
theorem topThistleJoined_k15 : ((Rows.topThistleJoinedRow.mapsOut == Try.prog.mapsAmong Try.f4.resultTypes.toList)) = true := by kernel_rfl
theorem topThistleJoined_k16 : ((Rows.topThistleJoinedRow.loops == (Try.f4.params.toList ++ Rows.topThistleJoinedSpec.plain.varTypes Try.prog).any (Try.prog.loopsFrom ·))) = true := by kernel_rfl
theorem topThistleJoined_k17 : ((Rows.topThistleJoinedRow.wideKeys == (Try.f4.params.toList ++ Rows.topThistleJoinedSpec.plain.varTypes Try.prog ++ Try.f4.resultTypes.toList).any (Try.prog.wideKeysFrom ·))) = true := by kernel_rfl
theorem topThistleJoined_k18 : (Rows.topThistleJoinedSpec.vars.all (Try.prog.varReadable ·)) = true := by kernel_rfl
theorem topThistleJoined_k19 : (Try.f4.resultTypes.all (fun t => Try.prog.readableRec t && decide (t < Try.prog.types.size))) = true := by kernel_rfl
theorem topThistleJoined_k20 : ((Rows.topThistleJoinedRow.ifacesOut == Try.f4.resultTypes.toList.any (Try.prog.ifacesRec ·))) = true := by kernel_rfl
theorem topThistleJoined_k21 : ((Rows.topThistleJoinedRow.loopsOut == Try.f4.resultTypes.toList.any (Try.prog.loopsFrom ·))) = true := by kernel_rfl
theorem topThistleJoined_k22 : ((Rows.topThistleJoinedRow.plainKeys == Try.prog.plainKeys)) = true := by kernel_rfl
theorem topThistleJoined_k23 : (Rows.topThistleJoinedRow.shortTexts.isNone) = true := by kernel_rfl
theorem topThistleJoined_k24 : (Try.prog.stopsHeard) = true := by kernel_rfl
theorem topThistleJoined_k25 : (Try.prog.mayEnter) = true := by kernel_rfl
theorem topThistleJoined_k26 : ((Rows.topThistleJoinedRow.lifted == Try.prog.liftsFinal)) = true := by kernel_rfl
theorem topThistleJoined_k27 : ((Try.prog.make == some Rows.topThistleJoinedRow.make)) = true := by kernel_rfl
theorem topThistleJoined_k28 : ((Rows.topThistleJoinedRow.kinds == (if Rows.topThistleJoinedRow.domain.isEmpty then [] else Try.f4.params.toList.map fun t => match Try.prog.underlying t with | some (.int k) => some k | _ => none))) = true := by kernel_rfl
theorem topThistleJoined_k29 : ((Rows.topThistleJoinedRow.pinned == Rows.topThistleJoinedRow.pinnedBy)) = true := by kernel_rfl
theorem topThistleJoined_k30 : ((Rows.topThistleJoinedRow.veiled == (Try.f4.params.toList ++ Rows.topThistleJoinedSpec.plain.varTypes Try.prog ++ Try.f4.resultTypes.toList).any (Try.prog.veiledRec ·))) = true := by kernel_rfl
theorem topThistleJoined_k31 : (Rows.topThistleJoinedRow.veiledFits Try.prog Try.f4.params.toList (Try.f4.params.toList ++ Rows.topThistleJoinedSpec.plain.varTypes Try.prog ++ Try.f4.resultTypes.toList)) = true := by kernel_rfl
set_option maxRecDepth 100000 in
theorem topThistleJoined_closed : joinedFacts Try.prog 4 Try.f4 Rows.topThistleJoinedSpec Rows.topThistleJoinedRow = true := topThistleJoined_and (topThistleJoined_and (topThistleJoined_and (topThistleJoined_and (topThistleJoined_and (topThistleJoined_and (topThistleJoined_and (topThistleJoined_and (topThistleJoined_and (topThistleJoined_and (topThistleJoined_and (topThistleJoined_and (topThistleJoined_and (topThistleJoined_and (topThistleJoined_and (topThistleJoined_and (topThistleJoined_and (topThistleJoined_and (topThistleJoined_and (topThistleJoined_and (topThistleJoined_and (topThistleJoined_and (topThistleJoined_and (topThistleJoined_and (topThistleJoined_and (topThistleJoined_and (topThistleJoined_and (topThistleJoined_and (topThistleJoined_and (topThistleJoined_and (topThistleJoined_and (topThistleJoined_k0) topThistleJoined_k1) topThistleJoined_k2) topThistleJoined_k3) topThistleJoined_k4) topThistleJoined_k5) topThistleJoined_k6) topThistleJoined_k7) topThistleJoined_k8) topThistleJoined_k9) topThistleJoined_k10) topThistleJoined_k11) topThistleJoined_k12) topThistleJoined_k13) topThistleJoined_k14) topThistleJoined_k15) topThistleJoined_k16) topThistleJoined_k17) topThistleJoined_k18) topThistleJoined_k19) topThistleJoined_k20) topThistleJoined_k21) topThistleJoined_k22) topThistleJoined_k23) topThistleJoined_k24) topThistleJoined_k25) topThistleJoined_k26) topThistleJoined_k27) topThistleJoined_k28) topThistleJoined_k29) topThistleJoined_k30) topThistleJoined_k31
set_option maxRecDepth 100000 in
/-- The row. -/
theorem topThistleJoined_holds : Rows.TopThistleJoinedSaid :=
  OpenClaim.holds_of_wide 4 Try.f4 rfl rfl rfl rfl rfl rfl rfl ⟨rfl, rfl, rfl, rfl, rfl⟩ rfl rfl rfl rfl rfl (by kernel_rfl) Try.func4 topThistleJoined_closed
    (of_decide_eq_true (by kernel_rfl)) (by unfold Func.isWrapper; first | (rw [if_pos (by decide +kernel)]; kernel_rfl) | (rw [if_neg (by decide +kernel)]; exact ⟨rfl, rfl⟩))
    (fun os started H enc _ => topThistleJoined_lifted os started H enc)
#print axioms topThistleJoined_holds
end Go.Proofs.Ytgljpjcclncknaa

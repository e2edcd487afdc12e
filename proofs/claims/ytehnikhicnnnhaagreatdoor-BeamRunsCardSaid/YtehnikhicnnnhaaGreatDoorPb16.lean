/- For every grid, field and rounds of orders the law 'BeamRuns' (Run, Lit and Dark return the results or the errors of the reference) answers true, and the arguments read as they did. Conditions: the four listed package-level variables hold what the program's text lays in them. -/
import Derived.Test.YtehnikhicnnnhaaGreatDoorCards
import Derived.Test.YtehnikhicnnnhaaGreatDoorTie
import Derived.Test.YtehnikhicnnnhaaGreatDoorPb11
import Derived.Test.YtehnikhicnnnhaaGreatDoorPb12
import Derived.Deep.DeepHandedRow
namespace Go.Proofs.YtehnikhicnnnhaaGreatDoor
open Go.ChangeShapes Go.WideShapes Go.ChangeAt Go.RowKit
theorem beamRuns_own:ownKnob Tryz.prog.godebug=none:=by kernel_rfl
theorem beamRuns_laidOut:laidOutB Tryz.prog=true:=by kernel_rfl
theorem beamRuns_types:(Tryz.f6.params.toList.all fun t=>Tryz.prog.readableRec t&&decide (t<Tryz.prog.types.size))=true:=by kernel_rfl
set_option maxRecDepth 100000 in
theorem beamRuns_contract(H:Type)(enc:TypeId×Value→H)(W:World)(base:Nat)(args:Array Value)(ds gs:List (DataW H))(before:List MemPlace)
 (hval:∀(j:Nat) t v,Tryz.f6.params[j]? =some t→args[j]? =some v→Value.okWide Tryz.prog W .any base t v)
 (hW:DataW.Whole enc Tryz.prog Tryz.f6.params.toList Rows.beamRunsSpec.vars false W args.toList ds gs before) (hL:laidMetH Tryz.prog Rows.beamRunsRow.laid W):
 Calls Tryz.prog 6 args W fun e W'=>∃v,e=.returned v∧Rows.beamRunsSpec.post enc Tryz.prog Tryz.f6 false true false false W args v W':=by
 have hW':=hW
 have hl:laidMet Tryz.prog Rows.beamRunsRow.laid W:=hL
 obtain⟨p,q,hA0,hV,rfl,hfz,hnd⟩:=hW
 have hA:DataW.TrodAll enc Tryz.prog W 0 (fun _=>true) true Tryz.f6.params.toList args.toList ds p:=hA0
 rw[Tryz.params6]at hA hval
 obtain⟨v0,vs0,d0,ds0,p0,q0,hargs,rfl,rfl,h0,r0⟩:=trodAll_cons hA
 obtain⟨v1,vs1,d1,ds1,p1,q1,rfl,rfl,rfl,h1,r1⟩:=trodAll_cons r0
 obtain⟨v2,vs2,d2,ds2,p2,q2,rfl,rfl,rfl,h2,r2⟩:=trodAll_cons r1
 obtain⟨rfl,rfl,rfl⟩:=trodAll_nil r2
 obtain rfl:args= #[v0,v1,v2]:=by cases args;simp_all
 obtain⟨rfl,rfl⟩:=trodVars_none hV
 obtain⟨a,g,rfl,hg⟩:=open_grid (hval 0 _ v0 rfl rfl) h0
 obtain⟨tk,ls,A,c,xs,rfl,hf,hz,hA⟩:=open_field (hval 1 _ v1 rfl rfl) h1
 obtain⟨RA_,rs,rc,rfl,hrr,hrc⟩:=open_rounds (hval 2 _ v2 rfl rfl) h2
 refine(BeamRuns_c a g tk ls A c xs RA_ rc rs W hg hf hz hrr (laid_kinds hl (by simp[Rows.beamRunsRow])) (laid_pow hl (by simp[Rows.beamRunsRow]))).mono fun e W' ⟨he,hb⟩=>?_
 subst he
 refine⟨_,rfl,post_true beamRuns_laidOut (fun t ht=>?_) (fun _ h=>by cases h) hW' rfl Tryz.underlying4 rfl hb⟩
 have h:=List.all_eq_true.1 beamRuns_types t ht
 simp only[Bool.and_eq_true,decide_eq_true_eq]at h
 exact h
def beamRuns_tab:DataW Unit→List Value
 |.agg l=>l.map fun|.lit (.int k n)=>.int k n|_=>.bool false
 |_=> []
noncomputable def beamRuns_laidWorld(os:Os):World:=
 let w0:=World.holding Tryz.prog os ⟨#[],#[],[]⟩
 let put (h:Array Obj) (g:Nat) (l:List Value):Array Obj:=h.modify g fun
  |.cells _ t frozen=>.cells l.toArray t frozen
  |o=>o
 {w0 with heap:=put (put (put (put w0.heap 0 [.string ⟨#[102,111,99,117,115]⟩,.string ⟨#[115,116,97,110,100,98,121]⟩,.string ⟨#[115,116,111,119]⟩]) 2 (Lib.pow10Tab.map (Value.int .u64)))
  5 (beamRuns_tab Rows.laid_math_bits_deBruijn32tab)) 6 (beamRuns_tab Rows.laid_math_bits_deBruijn64tab)}
theorem beamRuns_laid_met(os:Os):laidMet Tryz.prog Rows.beamRunsRow.laid ((beamRuns_laidWorld os).forCall (fun _ _=>0) ⟨#[],#[.agg #[.int .i64 0,.slice none 0 0,.slice none 0 0,.slice none 0 0],.agg #[.int .i64 0,.int .i64 0,.slice none 0 0],.slice none 0 0],[]⟩).memory:=
 laidMet_of_run' 8 (by kernel_rfl) (by kernel_rfl)
theorem beamRuns_reads(os:Os){H:Type}(enc:TypeId×Value→H):∃places,DataW.whole enc Tryz.prog ((beamRuns_laidWorld os).forCall (fun _ _=>0) ⟨#[],#[.agg #[.int .i64 0,.slice none 0 0,.slice none 0 0,.slice none 0 0],.agg #[.int .i64 0,.int .i64 0,.slice none 0 0],.slice none 0 0],[]⟩).memory Tryz.f6.params.toList Rows.beamRunsSpec.vars false (#[.agg #[.int .i64 0,.slice none 0 0,.slice none 0 0,.slice none 0 0],.agg #[.int .i64 0,.int .i64 0,.slice none 0 0],.slice none 0 0]:Array Value).toList 8=some ([.agg [.lit (.int .i64 0),.nil,.nil,.nil],.agg [.lit (.int .i64 0),.lit (.int .i64 0),.nil],.nil],[],places):=
 ⟨[],by kernel_rfl⟩
set_option maxRecDepth 100000 in
theorem beamRuns_lifted(os:Os)(started:os.Started)(H:Type)(enc:TypeId×Value→H)(F:Stop.Interp):
 ReturnsInHanded {} Tryz.checked os 6 .any ((OpenSpec.ofChange Rows.beamRunsSpec).preRow enc Tryz.prog Tryz.f6 Rows.beamRunsRow.domain false Rows.beamRunsRow.laid) (((OpenSpec.ofChange Rows.beamRunsSpec).at F).post enc Tryz.prog Tryz.f6 false true false false):=by
 obtain⟨places,hx⟩:=beamRuns_reads os enc
 refine returnsInHanded_of_row (C:=Tryz.checked) (s:=OpenSpec.ofChange Rows.beamRunsSpec) beamRuns_own started (by kernel_rfl) Tryz.func6
  (witness_row_at (enc:=enc) (C:=Tryz.checked) false (beamRuns_laidWorld os) #[.agg #[.int .i64 0,.slice none 0 0,.slice none 0 0,.slice none 0 0],.agg #[.int .i64 0,.int .i64 0,.slice none 0 0],.slice none 0 0] rfl (by kernel_rfl) (by kernel_rfl) (by kernel_rfl)
    (OpenSpec.preRow_of_cond 8 hx (by kernel_rfl) (fun k hk=>by cases hk) (by kernel_rfl) (beamRuns_laid_met os))) ?_
 intro W base args ds gs before hval hW _ _ _ hL _ _
 exact beamRuns_contract H enc W base args ds gs before hval hW hL
theorem beamRuns_and{a b:Bool}(h:a=true)(k:b=true):(a&&b)=true:=by rw[h,k];rfl
theorem beamRuns_k0:(Rows.beamRunsRow.wf (OpenSpec.ofChange Rows.beamRunsSpec))=true:=by kernel_rfl
theorem beamRuns_k1:(laidOutB Tryz.prog)=true:=by kernel_rfl
theorem beamRuns_k2:(mapsRowed Tryz.prog)=true:=by kernel_rfl
theorem beamRuns_k3:(Tryz.f6.params.all (Tryz.prog.readableRec ·))=true:=by kernel_rfl
theorem beamRuns_k4:(namedTie Tryz.prog Rows.beamRunsRow.named Rows.beamRunsSpec.vars)=true:=by kernel_rfl
theorem beamRuns_k5:((Rows.beamRunsRow.stops== []))=true:=by kernel_rfl
theorem beamRuns_k6:((Tryz.prog.stops== []))=true:=by kernel_rfl
theorem beamRuns_k7:((Rows.beamRunsRow.knobs== []))=true:=by kernel_rfl
theorem beamRuns_k8:((Tryz.prog.stopKnobs== []))=true:=by kernel_rfl
theorem beamRuns_k9:((Rows.beamRunsRow.inPlace==Tryz.prog.inPlace 6))=true:=by kernel_rfl
theorem beamRuns_k10:((Rows.beamRunsRow.unfollowed==Tryz.prog.unfollowed 6))=true:=by kernel_rfl
theorem beamRuns_k11:((Rows.beamRunsRow.recurses==Tryz.prog.recurses 6))=true:=by kernel_rfl
theorem beamRuns_k12:((Rows.beamRunsRow.named==Tryz.prog.varsNamed 6))=true:=by kernel_rfl
theorem beamRuns_k13:((Rows.beamRunsRow.maps==(Tryz.f6.params.toList++Rows.beamRunsSpec.plain.varTypes Tryz.prog).any (Tryz.prog.mapsRec ·)))=true:=by kernel_rfl
theorem beamRuns_k14:((Rows.beamRunsRow.ifaces==(Tryz.f6.params.toList++Rows.beamRunsSpec.plain.varTypes Tryz.prog).any (Tryz.prog.ifacesRec ·)))=true:=by kernel_rfl
theorem beamRuns_k15:((Rows.beamRunsRow.mapsOut==Tryz.prog.mapsAmong Tryz.f6.resultTypes.toList))=true:=by kernel_rfl
theorem beamRuns_k16:((Rows.beamRunsRow.loops==(Tryz.f6.params.toList++Rows.beamRunsSpec.plain.varTypes Tryz.prog).any (Tryz.prog.loopsFrom ·)))=true:=by kernel_rfl
theorem beamRuns_k17:((Rows.beamRunsRow.wideKeys==(Tryz.f6.params.toList++Rows.beamRunsSpec.plain.varTypes Tryz.prog++Tryz.f6.resultTypes.toList).any (Tryz.prog.wideKeysFrom ·)))=true:=by kernel_rfl
theorem beamRuns_k18:(Rows.beamRunsSpec.vars.all (Tryz.prog.varReadable ·))=true:=by kernel_rfl
theorem beamRuns_k19:(Tryz.f6.resultTypes.all (fun t=>Tryz.prog.readableRec t&&decide (t<Tryz.prog.types.size)))=true:=by kernel_rfl
theorem beamRuns_k20:((Rows.beamRunsRow.ifacesOut==Tryz.f6.resultTypes.toList.any (Tryz.prog.ifacesRec ·)))=true:=by kernel_rfl
theorem beamRuns_k21:((Rows.beamRunsRow.loopsOut==Tryz.f6.resultTypes.toList.any (Tryz.prog.loopsFrom ·)))=true:=by kernel_rfl
theorem beamRuns_k22:((Rows.beamRunsRow.plainKeys==Tryz.prog.plainKeys))=true:=by kernel_rfl
theorem beamRuns_k23:(Rows.beamRunsRow.shortTexts.isNone)=true:=by kernel_rfl
theorem beamRuns_k24:(Tryz.prog.stopsHeard)=true:=by kernel_rfl
theorem beamRuns_k25:(Tryz.prog.mayEnter)=true:=by kernel_rfl
theorem beamRuns_k26:((Rows.beamRunsRow.lifted==Tryz.prog.liftsFinal))=true:=by kernel_rfl
theorem beamRuns_k27:((Tryz.prog.make==some Rows.beamRunsRow.make))=true:=by kernel_rfl
theorem beamRuns_k28:((Rows.beamRunsRow.kinds==(if Rows.beamRunsRow.domain.isEmpty then []else Tryz.f6.params.toList.map fun t=>match Tryz.prog.underlying t with|some (.int k)=>some k|_=>none)))=true:=by kernel_rfl
theorem beamRuns_k29:((Rows.beamRunsRow.pinned==Rows.beamRunsRow.pinnedBy))=true:=by kernel_rfl
theorem beamRuns_k30:((Rows.beamRunsRow.veiled==(Tryz.f6.params.toList++Rows.beamRunsSpec.plain.varTypes Tryz.prog++Tryz.f6.resultTypes.toList).any (Tryz.prog.veiledRec ·)))=true:=by kernel_rfl
theorem beamRuns_k31:(Rows.beamRunsRow.veiledFits Tryz.prog Tryz.f6.params.toList (Tryz.f6.params.toList++Rows.beamRunsSpec.plain.varTypes Tryz.prog++Tryz.f6.resultTypes.toList))=true:=by kernel_rfl
set_option maxRecDepth 100000 in
theorem beamRuns_closed:joinedFacts Tryz.prog 6 Tryz.f6 Rows.beamRunsSpec Rows.beamRunsRow=true:=beamRuns_and (beamRuns_and (beamRuns_and (beamRuns_and (beamRuns_and (beamRuns_and (beamRuns_and (beamRuns_and (beamRuns_and (beamRuns_and (beamRuns_and (beamRuns_and (beamRuns_and (beamRuns_and (beamRuns_and (beamRuns_and (beamRuns_and (beamRuns_and (beamRuns_and (beamRuns_and (beamRuns_and (beamRuns_and (beamRuns_and (beamRuns_and (beamRuns_and (beamRuns_and (beamRuns_and (beamRuns_and (beamRuns_and (beamRuns_and (beamRuns_and (beamRuns_k0) beamRuns_k1) beamRuns_k2) beamRuns_k3) beamRuns_k4) beamRuns_k5) beamRuns_k6) beamRuns_k7) beamRuns_k8) beamRuns_k9) beamRuns_k10) beamRuns_k11) beamRuns_k12) beamRuns_k13) beamRuns_k14) beamRuns_k15) beamRuns_k16) beamRuns_k17) beamRuns_k18) beamRuns_k19) beamRuns_k20) beamRuns_k21) beamRuns_k22) beamRuns_k23) beamRuns_k24) beamRuns_k25) beamRuns_k26) beamRuns_k27) beamRuns_k28) beamRuns_k29) beamRuns_k30) beamRuns_k31
set_option maxRecDepth 100000 in
theorem beamRuns_said:Rows.BeamRunsSaid:=
 OpenClaim.holds_of_cond 6 Tryz.f6 rfl rfl rfl rfl rfl rfl rfl ⟨rfl,rfl,rfl,rfl,rfl⟩ rfl rfl rfl rfl rfl (by kernel_rfl) Tryz.func6 beamRuns_closed
  (of_decide_eq_true (by kernel_rfl)) (by unfold Func.isWrapper;first|(rw[if_pos (by decide +kernel)];kernel_rfl)|(rw[if_neg (by decide +kernel)];exact⟨rfl,rfl⟩))
  (fun os started H enc _ F=>by rw[OpenClaim.pre_eq_preRow];exact beamRuns_lifted os started H enc F)
set_option maxRecDepth 100000 in
theorem beamRuns_plain(f:FuncId)(fn:Func)(hf:Tryz.pinned.checked.prog.funcNamed "spillage/spillagelaw06.BeamRuns" =some f)(hfn:Tryz.pinned.checked.prog.funcs[f]? =some fn):
 false=Tryz.pinned.checked.prog.looks []∧∀(j:Nat) t,fn.params[j]? =some t→Tryz.pinned.checked.prog.wantsStandIn t=false:=by
 obtain rfl:f=6:=Option.some.inj ((show Tryz.prog.funcNamed "spillage/spillagelaw06.BeamRuns" =some 6 by kernel_rfl).symm.trans hf) |>.symm
 obtain rfl:fn=Tryz.f6:=(Option.some.inj (Tryz.func6.symm.trans hfn)).symm
 refine⟨by kernel_rfl,fun j t ht=>?_⟩
 have hall:(Tryz.f6.params.toList.all fun t=> !(Tryz.prog.wantsStandIn t))=true:=by kernel_rfl
 have h:=List.all_eq_true.1 hall t (by simpa using Array.mem_of_getElem? ht)
 show Tryz.prog.wantsStandIn t=false
 simpa using h
set_option maxRecDepth 100000 in
theorem beamRuns_card:Rows.BeamRunsCardSaid:=
 Claim7.holds_tied_plain_at .later [] _ _ _ _ beamRuns_said (fun _ h=>by cases h) (by kernel_rfl) (fun _ h=>by cases h) beamRuns_row_tie rfl ⟨rfl,rfl⟩ (by kernel_rfl) rfl beamRuns_plain (by kernel_rfl)
#print axioms beamRuns_card
end Go.Proofs.YtehnikhicnnnhaaGreatDoor
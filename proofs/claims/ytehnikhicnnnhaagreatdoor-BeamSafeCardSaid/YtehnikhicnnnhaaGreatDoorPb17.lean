/- For every grid, field and rounds of orders the law 'BeamSafe' (in all rounds, whatever orders are lost or wrong, the field stays one, the tick grows by the number of rounds, a mirror that hears nothing is bound for no focus after the lease, and rounds are the same one after the other) answers true, and the arguments read as they did. Conditions: the four listed package-level variables hold what the program's text lays in them. -/
import Derived.Test.YtehnikhicnnnhaaGreatDoorCards
import Derived.Test.YtehnikhicnnnhaaGreatDoorTie
import Derived.Test.YtehnikhicnnnhaaGreatDoorPb12
import Derived.Test.YtehnikhicnnnhaaGreatDoorPb15
import Derived.Deep.DeepHandedRow
namespace Go.Proofs.YtehnikhicnnnhaaGreatDoor
open Go.ChangeShapes Go.WideShapes Go.ChangeAt Go.RowKit
theorem beamSafe_own:ownKnob Tryz.prog.godebug=none:=by kernel_rfl
theorem beamSafe_laidOut:laidOutB Tryz.prog=true:=by kernel_rfl
theorem beamSafe_types:(Tryz.f8.params.toList.all fun t=>Tryz.prog.readableRec t&&decide (t<Tryz.prog.types.size))=true:=by kernel_rfl
set_option maxRecDepth 100000 in
theorem beamSafe_contract(H:Type)(enc:TypeId×Value→H)(W:World)(base:Nat)(args:Array Value)(ds gs:List (DataW H))(before:List MemPlace)
 (hval:∀(j:Nat) t v,Tryz.f8.params[j]? =some t→args[j]? =some v→Value.okWide Tryz.prog W .any base t v)
 (hW:DataW.Whole enc Tryz.prog Tryz.f8.params.toList Rows.beamSafeSpec.vars false W args.toList ds gs before) (hL:laidMetH Tryz.prog Rows.beamSafeRow.laid W):
 Calls Tryz.prog 8 args W fun e W'=>∃v,e=.returned v∧Rows.beamSafeSpec.post enc Tryz.prog Tryz.f8 false true false false W args v W':=by
 have hW':=hW
 have hl:laidMet Tryz.prog Rows.beamSafeRow.laid W:=hL
 obtain⟨p,q,hA0,hV,rfl,hfz,hnd⟩:=hW
 have hA:DataW.TrodAll enc Tryz.prog W 0 (fun _=>true) true Tryz.f8.params.toList args.toList ds p:=hA0
 rw[Tryz.params8]at hA hval
 obtain⟨v0,vs0,d0,ds0,p0,q0,hargs,rfl,rfl,h0,r0⟩:=trodAll_cons hA
 obtain⟨v1,vs1,d1,ds1,p1,q1,rfl,rfl,rfl,h1,r1⟩:=trodAll_cons r0
 obtain⟨v2,vs2,d2,ds2,p2,q2,rfl,rfl,rfl,h2,r2⟩:=trodAll_cons r1
 obtain⟨rfl,rfl,rfl⟩:=trodAll_nil r2
 obtain rfl:args= #[v0,v1,v2]:=by cases args;simp_all
 obtain⟨rfl,rfl⟩:=trodVars_none hV
 obtain⟨a,g,rfl,hg⟩:=open_grid (hval 0 _ v0 rfl rfl) h0
 obtain⟨tk,ls,A,c,xs,rfl,hf,hz,hA⟩:=open_field (hval 1 _ v1 rfl rfl) h1
 obtain⟨RA_,rs,rc,rfl,hrr,hrc⟩:=open_rounds (hval 2 _ v2 rfl rfl) h2
 refine(BeamSafe_c a g tk ls A c xs RA_ rc rs W hg hf hrr hrc (laid_kinds hl (by simp[Rows.beamSafeRow])) (laid_pow hl (by simp[Rows.beamSafeRow]))).mono fun e W' ⟨he,hb⟩=>?_
 subst he
 refine⟨_,rfl,post_true beamSafe_laidOut (fun t ht=>?_) (fun _ h=>by cases h) hW' rfl Tryz.underlying4 rfl hb⟩
 have h:=List.all_eq_true.1 beamSafe_types t ht
 simp only[Bool.and_eq_true,decide_eq_true_eq]at h
 exact h
def beamSafe_tab:DataW Unit→List Value
 |.agg l=>l.map fun|.lit (.int k n)=>.int k n|_=>.bool false
 |_=> []
noncomputable def beamSafe_laidWorld(os:Os):World:=
 let w0:=World.holding Tryz.prog os ⟨#[],#[],[]⟩
 let put (h:Array Obj) (g:Nat) (l:List Value):Array Obj:=h.modify g fun
  |.cells _ t frozen=>.cells l.toArray t frozen
  |o=>o
 {w0 with heap:=put (put (put (put w0.heap 0 [.string ⟨#[102,111,99,117,115]⟩,.string ⟨#[115,116,97,110,100,98,121]⟩,.string ⟨#[115,116,111,119]⟩]) 2 (Lib.pow10Tab.map (Value.int .u64)))
  5 (beamSafe_tab Rows.laid_math_bits_deBruijn32tab)) 6 (beamSafe_tab Rows.laid_math_bits_deBruijn64tab)}
theorem beamSafe_laid_met(os:Os):laidMet Tryz.prog Rows.beamSafeRow.laid ((beamSafe_laidWorld os).forCall (fun _ _=>0) ⟨#[],#[.agg #[.int .i64 0,.slice none 0 0,.slice none 0 0,.slice none 0 0],.agg #[.int .i64 0,.int .i64 0,.slice none 0 0],.slice none 0 0],[]⟩).memory:=
 laidMet_of_run' 8 (by kernel_rfl) (by kernel_rfl)
theorem beamSafe_reads(os:Os){H:Type}(enc:TypeId×Value→H):∃places,DataW.whole enc Tryz.prog ((beamSafe_laidWorld os).forCall (fun _ _=>0) ⟨#[],#[.agg #[.int .i64 0,.slice none 0 0,.slice none 0 0,.slice none 0 0],.agg #[.int .i64 0,.int .i64 0,.slice none 0 0],.slice none 0 0],[]⟩).memory Tryz.f8.params.toList Rows.beamSafeSpec.vars false (#[.agg #[.int .i64 0,.slice none 0 0,.slice none 0 0,.slice none 0 0],.agg #[.int .i64 0,.int .i64 0,.slice none 0 0],.slice none 0 0]:Array Value).toList 8=some ([.agg [.lit (.int .i64 0),.nil,.nil,.nil],.agg [.lit (.int .i64 0),.lit (.int .i64 0),.nil],.nil],[],places):=
 ⟨[],by kernel_rfl⟩
set_option maxRecDepth 100000 in
theorem beamSafe_lifted(os:Os)(started:os.Started)(H:Type)(enc:TypeId×Value→H)(F:Stop.Interp):
 ReturnsInHanded {} Tryz.checked os 8 .any ((OpenSpec.ofChange Rows.beamSafeSpec).preRow enc Tryz.prog Tryz.f8 Rows.beamSafeRow.domain false Rows.beamSafeRow.laid) (((OpenSpec.ofChange Rows.beamSafeSpec).at F).post enc Tryz.prog Tryz.f8 false true false false):=by
 obtain⟨places,hx⟩:=beamSafe_reads os enc
 refine returnsInHanded_of_row (C:=Tryz.checked) (s:=OpenSpec.ofChange Rows.beamSafeSpec) beamSafe_own started (by kernel_rfl) Tryz.func8
  (witness_row_at (enc:=enc) (C:=Tryz.checked) false (beamSafe_laidWorld os) #[.agg #[.int .i64 0,.slice none 0 0,.slice none 0 0,.slice none 0 0],.agg #[.int .i64 0,.int .i64 0,.slice none 0 0],.slice none 0 0] rfl (by kernel_rfl) (by kernel_rfl) (by kernel_rfl)
    (OpenSpec.preRow_of_cond 8 hx (by kernel_rfl) (fun k hk=>by cases hk) (by kernel_rfl) (beamSafe_laid_met os))) ?_
 intro W base args ds gs before hval hW _ _ _ hL _ _
 exact beamSafe_contract H enc W base args ds gs before hval hW hL
theorem beamSafe_and{a b:Bool}(h:a=true)(k:b=true):(a&&b)=true:=by rw[h,k];rfl
theorem beamSafe_k0:(Rows.beamSafeRow.wf (OpenSpec.ofChange Rows.beamSafeSpec))=true:=by kernel_rfl
theorem beamSafe_k1:(laidOutB Tryz.prog)=true:=by kernel_rfl
theorem beamSafe_k2:(mapsRowed Tryz.prog)=true:=by kernel_rfl
theorem beamSafe_k3:(Tryz.f8.params.all (Tryz.prog.readableRec ·))=true:=by kernel_rfl
theorem beamSafe_k4:(namedTie Tryz.prog Rows.beamSafeRow.named Rows.beamSafeSpec.vars)=true:=by kernel_rfl
theorem beamSafe_k5:((Rows.beamSafeRow.stops== []))=true:=by kernel_rfl
theorem beamSafe_k6:((Tryz.prog.stops== []))=true:=by kernel_rfl
theorem beamSafe_k7:((Rows.beamSafeRow.knobs== []))=true:=by kernel_rfl
theorem beamSafe_k8:((Tryz.prog.stopKnobs== []))=true:=by kernel_rfl
theorem beamSafe_k9:((Rows.beamSafeRow.inPlace==Tryz.prog.inPlace 8))=true:=by kernel_rfl
theorem beamSafe_k10:((Rows.beamSafeRow.unfollowed==Tryz.prog.unfollowed 8))=true:=by kernel_rfl
theorem beamSafe_k11:((Rows.beamSafeRow.recurses==Tryz.prog.recurses 8))=true:=by kernel_rfl
theorem beamSafe_k12:((Rows.beamSafeRow.named==Tryz.prog.varsNamed 8))=true:=by kernel_rfl
theorem beamSafe_k13:((Rows.beamSafeRow.maps==(Tryz.f8.params.toList++Rows.beamSafeSpec.plain.varTypes Tryz.prog).any (Tryz.prog.mapsRec ·)))=true:=by kernel_rfl
theorem beamSafe_k14:((Rows.beamSafeRow.ifaces==(Tryz.f8.params.toList++Rows.beamSafeSpec.plain.varTypes Tryz.prog).any (Tryz.prog.ifacesRec ·)))=true:=by kernel_rfl
theorem beamSafe_k15:((Rows.beamSafeRow.mapsOut==Tryz.prog.mapsAmong Tryz.f8.resultTypes.toList))=true:=by kernel_rfl
theorem beamSafe_k16:((Rows.beamSafeRow.loops==(Tryz.f8.params.toList++Rows.beamSafeSpec.plain.varTypes Tryz.prog).any (Tryz.prog.loopsFrom ·)))=true:=by kernel_rfl
theorem beamSafe_k17:((Rows.beamSafeRow.wideKeys==(Tryz.f8.params.toList++Rows.beamSafeSpec.plain.varTypes Tryz.prog++Tryz.f8.resultTypes.toList).any (Tryz.prog.wideKeysFrom ·)))=true:=by kernel_rfl
theorem beamSafe_k18:(Rows.beamSafeSpec.vars.all (Tryz.prog.varReadable ·))=true:=by kernel_rfl
theorem beamSafe_k19:(Tryz.f8.resultTypes.all (fun t=>Tryz.prog.readableRec t&&decide (t<Tryz.prog.types.size)))=true:=by kernel_rfl
theorem beamSafe_k20:((Rows.beamSafeRow.ifacesOut==Tryz.f8.resultTypes.toList.any (Tryz.prog.ifacesRec ·)))=true:=by kernel_rfl
theorem beamSafe_k21:((Rows.beamSafeRow.loopsOut==Tryz.f8.resultTypes.toList.any (Tryz.prog.loopsFrom ·)))=true:=by kernel_rfl
theorem beamSafe_k22:((Rows.beamSafeRow.plainKeys==Tryz.prog.plainKeys))=true:=by kernel_rfl
theorem beamSafe_k23:(Rows.beamSafeRow.shortTexts.isNone)=true:=by kernel_rfl
theorem beamSafe_k24:(Tryz.prog.stopsHeard)=true:=by kernel_rfl
theorem beamSafe_k25:(Tryz.prog.mayEnter)=true:=by kernel_rfl
theorem beamSafe_k26:((Rows.beamSafeRow.lifted==Tryz.prog.liftsFinal))=true:=by kernel_rfl
theorem beamSafe_k27:((Tryz.prog.make==some Rows.beamSafeRow.make))=true:=by kernel_rfl
theorem beamSafe_k28:((Rows.beamSafeRow.kinds==(if Rows.beamSafeRow.domain.isEmpty then []else Tryz.f8.params.toList.map fun t=>match Tryz.prog.underlying t with|some (.int k)=>some k|_=>none)))=true:=by kernel_rfl
theorem beamSafe_k29:((Rows.beamSafeRow.pinned==Rows.beamSafeRow.pinnedBy))=true:=by kernel_rfl
theorem beamSafe_k30:((Rows.beamSafeRow.veiled==(Tryz.f8.params.toList++Rows.beamSafeSpec.plain.varTypes Tryz.prog++Tryz.f8.resultTypes.toList).any (Tryz.prog.veiledRec ·)))=true:=by kernel_rfl
theorem beamSafe_k31:(Rows.beamSafeRow.veiledFits Tryz.prog Tryz.f8.params.toList (Tryz.f8.params.toList++Rows.beamSafeSpec.plain.varTypes Tryz.prog++Tryz.f8.resultTypes.toList))=true:=by kernel_rfl
set_option maxRecDepth 100000 in
theorem beamSafe_closed:joinedFacts Tryz.prog 8 Tryz.f8 Rows.beamSafeSpec Rows.beamSafeRow=true:=beamSafe_and (beamSafe_and (beamSafe_and (beamSafe_and (beamSafe_and (beamSafe_and (beamSafe_and (beamSafe_and (beamSafe_and (beamSafe_and (beamSafe_and (beamSafe_and (beamSafe_and (beamSafe_and (beamSafe_and (beamSafe_and (beamSafe_and (beamSafe_and (beamSafe_and (beamSafe_and (beamSafe_and (beamSafe_and (beamSafe_and (beamSafe_and (beamSafe_and (beamSafe_and (beamSafe_and (beamSafe_and (beamSafe_and (beamSafe_and (beamSafe_and (beamSafe_k0) beamSafe_k1) beamSafe_k2) beamSafe_k3) beamSafe_k4) beamSafe_k5) beamSafe_k6) beamSafe_k7) beamSafe_k8) beamSafe_k9) beamSafe_k10) beamSafe_k11) beamSafe_k12) beamSafe_k13) beamSafe_k14) beamSafe_k15) beamSafe_k16) beamSafe_k17) beamSafe_k18) beamSafe_k19) beamSafe_k20) beamSafe_k21) beamSafe_k22) beamSafe_k23) beamSafe_k24) beamSafe_k25) beamSafe_k26) beamSafe_k27) beamSafe_k28) beamSafe_k29) beamSafe_k30) beamSafe_k31
set_option maxRecDepth 100000 in
theorem beamSafe_said:Rows.BeamSafeSaid:=
 OpenClaim.holds_of_cond 8 Tryz.f8 rfl rfl rfl rfl rfl rfl rfl ⟨rfl,rfl,rfl,rfl,rfl⟩ rfl rfl rfl rfl rfl (by kernel_rfl) Tryz.func8 beamSafe_closed
  (of_decide_eq_true (by kernel_rfl)) (by unfold Func.isWrapper;first|(rw[if_pos (by decide +kernel)];kernel_rfl)|(rw[if_neg (by decide +kernel)];exact⟨rfl,rfl⟩))
  (fun os started H enc _ F=>by rw[OpenClaim.pre_eq_preRow];exact beamSafe_lifted os started H enc F)
set_option maxRecDepth 100000 in
theorem beamSafe_plain(f:FuncId)(fn:Func)(hf:Tryz.pinned.checked.prog.funcNamed "spillage/spillagelaw06.BeamSafe" =some f)(hfn:Tryz.pinned.checked.prog.funcs[f]? =some fn):
 false=Tryz.pinned.checked.prog.looks []∧∀(j:Nat) t,fn.params[j]? =some t→Tryz.pinned.checked.prog.wantsStandIn t=false:=by
 obtain rfl:f=8:=Option.some.inj ((show Tryz.prog.funcNamed "spillage/spillagelaw06.BeamSafe" =some 8 by kernel_rfl).symm.trans hf) |>.symm
 obtain rfl:fn=Tryz.f8:=(Option.some.inj (Tryz.func8.symm.trans hfn)).symm
 refine⟨by kernel_rfl,fun j t ht=>?_⟩
 have hall:(Tryz.f8.params.toList.all fun t=> !(Tryz.prog.wantsStandIn t))=true:=by kernel_rfl
 have h:=List.all_eq_true.1 hall t (by simpa using Array.mem_of_getElem? ht)
 show Tryz.prog.wantsStandIn t=false
 simpa using h
set_option maxRecDepth 100000 in
theorem beamSafe_card:Rows.BeamSafeCardSaid:=
 Claim7.holds_tied_plain_at .later [] _ _ _ _ beamSafe_said (fun _ h=>by cases h) (by kernel_rfl) (fun _ h=>by cases h) beamSafe_row_tie rfl ⟨rfl,rfl⟩ (by kernel_rfl) rfl beamSafe_plain (by kernel_rfl)
#print axioms beamSafe_card
end Go.Proofs.YtehnikhicnnnhaaGreatDoor
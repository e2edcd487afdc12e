/- More arguments opened: a byte. | For every grid, field and byte the law 'BeamDark' (without orders the field is dark after its deadline, not a step before, and stays so; no mirror is lit then; the deadline is at most the lease plus the steps; a sector that is defocused is bound for standby, and a mirror that was taken is there no more) answers true, and the arguments read as they did. Conditions: the four listed package-level variables hold what the program's text lays in them. -/
import Derived.Test.YtehnikhicnnnhaaGreatDoorCards
import Derived.Test.YtehnikhicnnnhaaGreatDoorTie
import Derived.Test.YtehnikhicnnnhaaGreatDoorPb12
import Derived.Test.YtehnikhicnnnhaaGreatDoorPb20
import Derived.Deep.DeepHandedRow
namespace Go.Proofs.YtehnikhicnnnhaaGreatDoor
open Go Go.ChangeShapes Go.WideShapes Go.Deep Go.RowKit
section
variable {H:Type} {enc:TypeId×Value→H} {w:World} {base:Nat} {sp:Nat→Bool} {held:Bool}
set_option maxRecDepth 100000 in
theorem open_u8{r:Reach}{b0:Nat}{v:Value}{d:DataW H}{p:List MemPlace}(hv:Value.okWide Tryz.prog w r b0 5 v)(h:DataW.Trod enc Tryz.prog w base sp held 5 v d p):
 ∃n:Int,v=.int .u8 n∧0≤n∧n<256:=by
 obtain⟨n,rfl⟩:=okWide_int Tryz.underlying5 hv
 obtain⟨fuel,h⟩:=h
 replace h:DataW.trod enc Tryz.prog w base sp held fuel 5 [.int .u8 n]=some (d,p):=h
 obtain⟨z,h3,_,h4⟩:=DataW.trod_int Tryz.underlying5 h
 have e:n=z:=by simpa using h3
 subst e
 have h1:IntKind.u8.min≤n∧n≤IntKind.u8.max:=by simpa [Lit.wf]using h4
 have h2:IntKind.u8.min=0:=by decide
 have h3:IntKind.u8.max=255:=by decide
 exact⟨n,rfl,by omega,by omega⟩
end
end Go.Proofs.YtehnikhicnnnhaaGreatDoor
namespace Go.Proofs.YtehnikhicnnnhaaGreatDoor
open Go.ChangeShapes Go.WideShapes Go.ChangeAt Go.RowKit
theorem beamDark_own:ownKnob Tryz.prog.godebug=none:=by kernel_rfl
theorem beamDark_laidOut:laidOutB Tryz.prog=true:=by kernel_rfl
theorem beamDark_types:(Tryz.f11.params.toList.all fun t=>Tryz.prog.readableRec t&&decide (t<Tryz.prog.types.size))=true:=by kernel_rfl
set_option maxRecDepth 100000 in
theorem beamDark_contract(H:Type)(enc:TypeId×Value→H)(W:World)(base:Nat)(args:Array Value)(ds gs:List (DataW H))(before:List MemPlace)
 (hval:∀(j:Nat) t v,Tryz.f11.params[j]? =some t→args[j]? =some v→Value.okWide Tryz.prog W .any base t v)
 (hW:DataW.Whole enc Tryz.prog Tryz.f11.params.toList Rows.beamDarkSpec.vars false W args.toList ds gs before) (hL:laidMetH Tryz.prog Rows.beamDarkRow.laid W):
 Calls Tryz.prog 11 args W fun e W'=>∃v,e=.returned v∧Rows.beamDarkSpec.post enc Tryz.prog Tryz.f11 false true false false W args v W':=by
 have hW':=hW
 have hl:laidMet Tryz.prog Rows.beamDarkRow.laid W:=hL
 obtain⟨p,q,hA0,hV,rfl,hfz,hnd⟩:=hW
 have hA:DataW.TrodAll enc Tryz.prog W 0 (fun _=>true) true Tryz.f11.params.toList args.toList ds p:=hA0
 rw[Tryz.params11]at hA hval
 obtain⟨v0,vs0,d0,ds0,p0,q0,hargs,rfl,rfl,h0,r0⟩:=trodAll_cons hA
 obtain⟨v1,vs1,d1,ds1,p1,q1,rfl,rfl,rfl,h1,r1⟩:=trodAll_cons r0
 obtain⟨v2,vs2,d2,ds2,p2,q2,rfl,rfl,rfl,h2,r2⟩:=trodAll_cons r1
 obtain⟨rfl,rfl,rfl⟩:=trodAll_nil r2
 obtain rfl:args= #[v0,v1,v2]:=by cases args;simp_all
 obtain⟨rfl,rfl⟩:=trodVars_none hV
 obtain⟨a,g,rfl,hg⟩:=open_grid (hval 0 _ v0 rfl rfl) h0
 obtain⟨tk,ls,A,c,xs,rfl,hf,hz,hA⟩:=open_field (hval 1 _ v1 rfl rfl) h1
 obtain⟨n0,rfl,hn0,hn1⟩:=open_u8 (hval 2 _ v2 rfl rfl) h2
 refine(BeamDark_c a g tk ls A c xs n0 W hn0 hn1 hg hf (laid_kinds hl (by simp[Rows.beamDarkRow])) (laid_pow hl (by simp[Rows.beamDarkRow]))).mono fun e W' ⟨he,hb⟩=>?_
 subst he
 refine⟨_,rfl,post_true beamDark_laidOut (fun t ht=>?_) (fun _ h=>by cases h) hW' rfl Tryz.underlying4 rfl hb⟩
 have h:=List.all_eq_true.1 beamDark_types t ht
 simp only[Bool.and_eq_true,decide_eq_true_eq]at h
 exact h
def beamDark_tab:DataW Unit→List Value
 |.agg l=>l.map fun|.lit (.int k n)=>.int k n|_=>.bool false
 |_=> []
noncomputable def beamDark_laidWorld(os:Os):World:=
 let w0:=World.holding Tryz.prog os ⟨#[],#[],[]⟩
 let put (h:Array Obj) (g:Nat) (l:List Value):Array Obj:=h.modify g fun
  |.cells _ t frozen=>.cells l.toArray t frozen
  |o=>o
 {w0 with heap:=put (put (put (put w0.heap 0 [.string ⟨#[102,111,99,117,115]⟩,.string ⟨#[115,116,97,110,100,98,121]⟩,.string ⟨#[115,116,111,119]⟩]) 2 (Lib.pow10Tab.map (Value.int .u64)))
  5 (beamDark_tab Rows.laid_math_bits_deBruijn32tab)) 6 (beamDark_tab Rows.laid_math_bits_deBruijn64tab)}
theorem beamDark_laid_met(os:Os):laidMet Tryz.prog Rows.beamDarkRow.laid ((beamDark_laidWorld os).forCall (fun _ _=>0) ⟨#[],#[.agg #[.int .i64 0,.slice none 0 0,.slice none 0 0,.slice none 0 0],.agg #[.int .i64 0,.int .i64 0,.slice none 0 0],.int .u8 0],[]⟩).memory:=
 laidMet_of_run' 8 (by kernel_rfl) (by kernel_rfl)
theorem beamDark_reads(os:Os){H:Type}(enc:TypeId×Value→H):∃places,DataW.whole enc Tryz.prog ((beamDark_laidWorld os).forCall (fun _ _=>0) ⟨#[],#[.agg #[.int .i64 0,.slice none 0 0,.slice none 0 0,.slice none 0 0],.agg #[.int .i64 0,.int .i64 0,.slice none 0 0],.int .u8 0],[]⟩).memory Tryz.f11.params.toList Rows.beamDarkSpec.vars false (#[.agg #[.int .i64 0,.slice none 0 0,.slice none 0 0,.slice none 0 0],.agg #[.int .i64 0,.int .i64 0,.slice none 0 0],.int .u8 0]:Array Value).toList 8=some ([.agg [.lit (.int .i64 0),.nil,.nil,.nil],.agg [.lit (.int .i64 0),.lit (.int .i64 0),.nil],.lit (.int .u8 0)],[],places):=
 ⟨[],by kernel_rfl⟩
set_option maxRecDepth 100000 in
theorem beamDark_lifted(os:Os)(started:os.Started)(H:Type)(enc:TypeId×Value→H)(F:Stop.Interp):
 ReturnsInHanded {} Tryz.checked os 11 .any ((OpenSpec.ofChange Rows.beamDarkSpec).preRow enc Tryz.prog Tryz.f11 Rows.beamDarkRow.domain false Rows.beamDarkRow.laid) (((OpenSpec.ofChange Rows.beamDarkSpec).at F).post enc Tryz.prog Tryz.f11 false true false false):=by
 obtain⟨places,hx⟩:=beamDark_reads os enc
 refine returnsInHanded_of_row (C:=Tryz.checked) (s:=OpenSpec.ofChange Rows.beamDarkSpec) beamDark_own started (by kernel_rfl) Tryz.func11
  (witness_row_at (enc:=enc) (C:=Tryz.checked) false (beamDark_laidWorld os) #[.agg #[.int .i64 0,.slice none 0 0,.slice none 0 0,.slice none 0 0],.agg #[.int .i64 0,.int .i64 0,.slice none 0 0],.int .u8 0] rfl (by kernel_rfl) (by kernel_rfl) (by kernel_rfl)
    (OpenSpec.preRow_of_cond 8 hx (by kernel_rfl) (fun k hk=>by cases hk) (by kernel_rfl) (beamDark_laid_met os))) ?_
 intro W base args ds gs before hval hW _ _ _ hL _ _
 exact beamDark_contract H enc W base args ds gs before hval hW hL
theorem beamDark_and{a b:Bool}(h:a=true)(k:b=true):(a&&b)=true:=by rw[h,k];rfl
theorem beamDark_k0:(Rows.beamDarkRow.wf (OpenSpec.ofChange Rows.beamDarkSpec))=true:=by kernel_rfl
theorem beamDark_k1:(laidOutB Tryz.prog)=true:=by kernel_rfl
theorem beamDark_k2:(mapsRowed Tryz.prog)=true:=by kernel_rfl
theorem beamDark_k3:(Tryz.f11.params.all (Tryz.prog.readableRec ·))=true:=by kernel_rfl
theorem beamDark_k4:(namedTie Tryz.prog Rows.beamDarkRow.named Rows.beamDarkSpec.vars)=true:=by kernel_rfl
theorem beamDark_k5:((Rows.beamDarkRow.stops== []))=true:=by kernel_rfl
theorem beamDark_k6:((Tryz.prog.stops== []))=true:=by kernel_rfl
theorem beamDark_k7:((Rows.beamDarkRow.knobs== []))=true:=by kernel_rfl
theorem beamDark_k8:((Tryz.prog.stopKnobs== []))=true:=by kernel_rfl
theorem beamDark_k9:((Rows.beamDarkRow.inPlace==Tryz.prog.inPlace 11))=true:=by kernel_rfl
theorem beamDark_k10:((Rows.beamDarkRow.unfollowed==Tryz.prog.unfollowed 11))=true:=by kernel_rfl
theorem beamDark_k11:((Rows.beamDarkRow.recurses==Tryz.prog.recurses 11))=true:=by kernel_rfl
theorem beamDark_k12:((Rows.beamDarkRow.named==Tryz.prog.varsNamed 11))=true:=by kernel_rfl
theorem beamDark_k13:((Rows.beamDarkRow.maps==(Tryz.f11.params.toList++Rows.beamDarkSpec.plain.varTypes Tryz.prog).any (Tryz.prog.mapsRec ·)))=true:=by kernel_rfl
theorem beamDark_k14:((Rows.beamDarkRow.ifaces==(Tryz.f11.params.toList++Rows.beamDarkSpec.plain.varTypes Tryz.prog).any (Tryz.prog.ifacesRec ·)))=true:=by kernel_rfl
theorem beamDark_k15:((Rows.beamDarkRow.mapsOut==Tryz.prog.mapsAmong Tryz.f11.resultTypes.toList))=true:=by kernel_rfl
theorem beamDark_k16:((Rows.beamDarkRow.loops==(Tryz.f11.params.toList++Rows.beamDarkSpec.plain.varTypes Tryz.prog).any (Tryz.prog.loopsFrom ·)))=true:=by kernel_rfl
theorem beamDark_k17:((Rows.beamDarkRow.wideKeys==(Tryz.f11.params.toList++Rows.beamDarkSpec.plain.varTypes Tryz.prog++Tryz.f11.resultTypes.toList).any (Tryz.prog.wideKeysFrom ·)))=true:=by kernel_rfl
theorem beamDark_k18:(Rows.beamDarkSpec.vars.all (Tryz.prog.varReadable ·))=true:=by kernel_rfl
theorem beamDark_k19:(Tryz.f11.resultTypes.all (fun t=>Tryz.prog.readableRec t&&decide (t<Tryz.prog.types.size)))=true:=by kernel_rfl
theorem beamDark_k20:((Rows.beamDarkRow.ifacesOut==Tryz.f11.resultTypes.toList.any (Tryz.prog.ifacesRec ·)))=true:=by kernel_rfl
theorem beamDark_k21:((Rows.beamDarkRow.loopsOut==Tryz.f11.resultTypes.toList.any (Tryz.prog.loopsFrom ·)))=true:=by kernel_rfl
theorem beamDark_k22:((Rows.beamDarkRow.plainKeys==Tryz.prog.plainKeys))=true:=by kernel_rfl
theorem beamDark_k23:(Rows.beamDarkRow.shortTexts.isNone)=true:=by kernel_rfl
theorem beamDark_k24:(Tryz.prog.stopsHeard)=true:=by kernel_rfl
theorem beamDark_k25:(Tryz.prog.mayEnter)=true:=by kernel_rfl
theorem beamDark_k26:((Rows.beamDarkRow.lifted==Tryz.prog.liftsFinal))=true:=by kernel_rfl
theorem beamDark_k27:((Tryz.prog.make==some Rows.beamDarkRow.make))=true:=by kernel_rfl
theorem beamDark_k28:((Rows.beamDarkRow.kinds==(if Rows.beamDarkRow.domain.isEmpty then []else Tryz.f11.params.toList.map fun t=>match Tryz.prog.underlying t with|some (.int k)=>some k|_=>none)))=true:=by kernel_rfl
theorem beamDark_k29:((Rows.beamDarkRow.pinned==Rows.beamDarkRow.pinnedBy))=true:=by kernel_rfl
theorem beamDark_k30:((Rows.beamDarkRow.veiled==(Tryz.f11.params.toList++Rows.beamDarkSpec.plain.varTypes Tryz.prog++Tryz.f11.resultTypes.toList).any (Tryz.prog.veiledRec ·)))=true:=by kernel_rfl
theorem beamDark_k31:(Rows.beamDarkRow.veiledFits Tryz.prog Tryz.f11.params.toList (Tryz.f11.params.toList++Rows.beamDarkSpec.plain.varTypes Tryz.prog++Tryz.f11.resultTypes.toList))=true:=by kernel_rfl
set_option maxRecDepth 100000 in
theorem beamDark_closed:joinedFacts Tryz.prog 11 Tryz.f11 Rows.beamDarkSpec Rows.beamDarkRow=true:=beamDark_and (beamDark_and (beamDark_and (beamDark_and (beamDark_and (beamDark_and (beamDark_and (beamDark_and (beamDark_and (beamDark_and (beamDark_and (beamDark_and (beamDark_and (beamDark_and (beamDark_and (beamDark_and (beamDark_and (beamDark_and (beamDark_and (beamDark_and (beamDark_and (beamDark_and (beamDark_and (beamDark_and (beamDark_and (beamDark_and (beamDark_and (beamDark_and (beamDark_and (beamDark_and (beamDark_and (beamDark_k0) beamDark_k1) beamDark_k2) beamDark_k3) beamDark_k4) beamDark_k5) beamDark_k6) beamDark_k7) beamDark_k8) beamDark_k9) beamDark_k10) beamDark_k11) beamDark_k12) beamDark_k13) beamDark_k14) beamDark_k15) beamDark_k16) beamDark_k17) beamDark_k18) beamDark_k19) beamDark_k20) beamDark_k21) beamDark_k22) beamDark_k23) beamDark_k24) beamDark_k25) beamDark_k26) beamDark_k27) beamDark_k28) beamDark_k29) beamDark_k30) beamDark_k31
set_option maxRecDepth 100000 in
theorem beamDark_said:Rows.BeamDarkSaid:=
 OpenClaim.holds_of_cond 11 Tryz.f11 rfl rfl rfl rfl rfl rfl rfl ⟨rfl,rfl,rfl,rfl,rfl⟩ rfl rfl rfl rfl rfl (by kernel_rfl) Tryz.func11 beamDark_closed
  (of_decide_eq_true (by kernel_rfl)) (by unfold Func.isWrapper;first|(rw[if_pos (by decide +kernel)];kernel_rfl)|(rw[if_neg (by decide +kernel)];exact⟨rfl,rfl⟩))
  (fun os started H enc _ F=>by rw[OpenClaim.pre_eq_preRow];exact beamDark_lifted os started H enc F)
set_option maxRecDepth 100000 in
theorem beamDark_plain(f:FuncId)(fn:Func)(hf:Tryz.pinned.checked.prog.funcNamed "spillage/spillagelaw06.BeamDark" =some f)(hfn:Tryz.pinned.checked.prog.funcs[f]? =some fn):
 false=Tryz.pinned.checked.prog.looks []∧∀(j:Nat) t,fn.params[j]? =some t→Tryz.pinned.checked.prog.wantsStandIn t=false:=by
 obtain rfl:f=11:=Option.some.inj ((show Tryz.prog.funcNamed "spillage/spillagelaw06.BeamDark" =some 11 by kernel_rfl).symm.trans hf) |>.symm
 obtain rfl:fn=Tryz.f11:=(Option.some.inj (Tryz.func11.symm.trans hfn)).symm
 refine⟨by kernel_rfl,fun j t ht=>?_⟩
 have hall:(Tryz.f11.params.toList.all fun t=> !(Tryz.prog.wantsStandIn t))=true:=by kernel_rfl
 have h:=List.all_eq_true.1 hall t (by simpa using Array.mem_of_getElem? ht)
 show Tryz.prog.wantsStandIn t=false
 simpa using h
set_option maxRecDepth 100000 in
theorem beamDark_card:Rows.BeamDarkCardSaid:=
 Claim7.holds_tied_plain_at .later [] _ _ _ _ beamDark_said (fun _ h=>by cases h) (by kernel_rfl) (fun _ h=>by cases h) beamDark_row_tie rfl ⟨rfl,rfl⟩ (by kernel_rfl) rfl beamDark_plain (by kernel_rfl)
#print axioms beamDark_card
end Go.Proofs.YtehnikhicnnnhaaGreatDoor
/- A joining (a mirror and a name) opened. | For every grid, field and joining (a mirror and a name) the law 'BeamSectors' (Joined and Taken return the results or the errors of the reference) answers true, and the arguments read as they did. Conditions: the four listed package-level variables hold what the program's text lays in them. -/
import Derived.Test.YtehnikhicnnnhaaGreatDoorCards
import Derived.Test.YtehnikhicnnnhaaGreatDoorTie
import Derived.Test.YtehnikhicnnnhaaGreatDoorPb12
import Derived.Test.YtehnikhicnnnhaaGreatDoorPb18
import Derived.Deep.DeepHandedRow
namespace Go.Proofs.YtehnikhicnnnhaaGreatDoor
open Go Go.ChangeShapes Go.WideShapes Go.Deep Go.RowKit
theorem Tryz.cJoi:Tryz.prog.cellsOf 137=7:=by kernel_rfl
theorem len7_{α:Type}{l:List α}(h:l.length=7):∃a b c d e f g,l= [a,b,c,d,e,f,g]:=by
 match l,h with
 | [a,b,c,d,e,f,g],_=>exact⟨a,b,c,d,e,f,g,rfl⟩
section
variable {H:Type} {enc:TypeId×Value→H} {w:World} {base:Nat} {sp:Nat→Bool} {held:Bool}
set_option maxRecDepth 100000 in
theorem open_joi{r:Reach}{b0:Nat}{v:Value}{d:DataW H}{p:List MemPlace}(hv:Value.okWide Tryz.prog w r b0 137 v)(h:DataW.Trod enc Tryz.prog w base sp held 137 v d p):
 ∃(m:Mir) (mA:Option Addr) (mc:Nat) (nm:ByteArray),v=.agg #[.string m.name,.string m.sec,.int .i64 m.loc,.slice mA m.way.length mc,.int .i64 m.left,.int .i64 m.heard,.string nm]∧MirR w w.heap.size m mA mc∧(mA=none→mc=0):=by
 obtain⟨l,fuel,rfl,h2⟩:=open_agg (P:=Tryz.prog) (t:=137) (Or.inl ⟨_,Tryz.underlying137⟩) (by with_reducible exact hv) (by with_reducible exact h)
 obtain⟨hl,hf⟩:=trod_parts Tryz.underlying137 h2
 rw[Tryz.cJoi]at hl
 obtain⟨c0,c1,c2,c3,c4,c5,c6,rfl⟩:=len7_ hl
 obtain⟨_,_,h0⟩:=hf 0 _ rfl
 obtain⟨_,_,h1⟩:=hf 1 _ rfl
 simp only[List.getElem_toArray,List.getElem_cons_zero,List.getElem_cons_succ,Tryz.cStr,Tryz.cMrr,List.drop_succ_cons,List.drop_zero,List.take_succ_cons,List.take_zero]at h0 h1
 obtain⟨s,e0,hq⟩:=elemMir h0
 obtain⟨nm,e1,_⟩:=DataW.trod_string Tryz.underlying9 h1
 obtain⟨m,mA,mc⟩:=s
 unfold encMA at e0
 cases e0;cases e1
 exact⟨m,mA,mc,nm,rfl,hq.1,hq.2⟩
end
end Go.Proofs.YtehnikhicnnnhaaGreatDoor
namespace Go.Proofs.YtehnikhicnnnhaaGreatDoor
open Go.ChangeShapes Go.WideShapes Go.ChangeAt Go.RowKit
theorem beamSectors_own:ownKnob Tryz.prog.godebug=none:=by kernel_rfl
theorem beamSectors_laidOut:laidOutB Tryz.prog=true:=by kernel_rfl
theorem beamSectors_types:(Tryz.f12.params.toList.all fun t=>Tryz.prog.readableRec t&&decide (t<Tryz.prog.types.size))=true:=by kernel_rfl
set_option maxRecDepth 100000 in
theorem beamSectors_contract(H:Type)(enc:TypeId×Value→H)(W:World)(base:Nat)(args:Array Value)(ds gs:List (DataW H))(before:List MemPlace)
 (hval:∀(j:Nat) t v,Tryz.f12.params[j]? =some t→args[j]? =some v→Value.okWide Tryz.prog W .any base t v)
 (hW:DataW.Whole enc Tryz.prog Tryz.f12.params.toList Rows.beamSectorsSpec.vars false W args.toList ds gs before) (hL:laidMetH Tryz.prog Rows.beamSectorsRow.laid W):
 Calls Tryz.prog 12 args W fun e W'=>∃v,e=.returned v∧Rows.beamSectorsSpec.post enc Tryz.prog Tryz.f12 false true false false W args v W':=by
 have hW':=hW
 have hl:laidMet Tryz.prog Rows.beamSectorsRow.laid W:=hL
 obtain⟨p,q,hA0,hV,rfl,hfz,hnd⟩:=hW
 have hA:DataW.TrodAll enc Tryz.prog W 0 (fun _=>true) true Tryz.f12.params.toList args.toList ds p:=hA0
 rw[Tryz.params12]at hA hval
 obtain⟨v0,vs0,d0,ds0,p0,q0,hargs,rfl,rfl,h0,r0⟩:=trodAll_cons hA
 obtain⟨v1,vs1,d1,ds1,p1,q1,rfl,rfl,rfl,h1,r1⟩:=trodAll_cons r0
 obtain⟨v2,vs2,d2,ds2,p2,q2,rfl,rfl,rfl,h2,r2⟩:=trodAll_cons r1
 obtain⟨rfl,rfl,rfl⟩:=trodAll_nil r2
 obtain rfl:args= #[v0,v1,v2]:=by cases args;simp_all
 obtain⟨rfl,rfl⟩:=trodVars_none hV
 obtain⟨a,g,rfl,hg⟩:=open_grid (hval 0 _ v0 rfl rfl) h0
 obtain⟨tk,ls,A,c,xs,rfl,hf,hz,hA⟩:=open_field (hval 1 _ v1 rfl rfl) h1
 obtain⟨m,mA,mc,nm,rfl,hm,hmA⟩:=open_joi (hval 2 _ v2 rfl rfl) h2
 refine(BeamSectors_c a g tk ls A c xs m mA mc nm W hg hf hm hmA (laid_kinds hl (by simp[Rows.beamSectorsRow])) (laid_pow hl (by simp[Rows.beamSectorsRow]))).mono fun e W' ⟨he,hb⟩=>?_
 subst he
 refine⟨_,rfl,post_true beamSectors_laidOut (fun t ht=>?_) (fun _ h=>by cases h) hW' rfl Tryz.underlying4 rfl hb⟩
 have h:=List.all_eq_true.1 beamSectors_types t ht
 simp only[Bool.and_eq_true,decide_eq_true_eq]at h
 exact h
def beamSectors_tab:DataW Unit→List Value
 |.agg l=>l.map fun|.lit (.int k n)=>.int k n|_=>.bool false
 |_=> []
noncomputable def beamSectors_laidWorld(os:Os):World:=
 let w0:=World.holding Tryz.prog os ⟨#[],#[],[]⟩
 let put (h:Array Obj) (g:Nat) (l:List Value):Array Obj:=h.modify g fun
  |.cells _ t frozen=>.cells l.toArray t frozen
  |o=>o
 {w0 with heap:=put (put (put (put w0.heap 0 [.string ⟨#[102,111,99,117,115]⟩,.string ⟨#[115,116,97,110,100,98,121]⟩,.string ⟨#[115,116,111,119]⟩]) 2 (Lib.pow10Tab.map (Value.int .u64)))
  5 (beamSectors_tab Rows.laid_math_bits_deBruijn32tab)) 6 (beamSectors_tab Rows.laid_math_bits_deBruijn64tab)}
theorem beamSectors_laid_met(os:Os):laidMet Tryz.prog Rows.beamSectorsRow.laid ((beamSectors_laidWorld os).forCall (fun _ _=>0) ⟨#[],#[.agg #[.int .i64 0,.slice none 0 0,.slice none 0 0,.slice none 0 0],.agg #[.int .i64 0,.int .i64 0,.slice none 0 0],.agg #[.string ⟨#[]⟩,.string ⟨#[]⟩,.int .i64 0,.slice none 0 0,.int .i64 0,.int .i64 0,.string ⟨#[]⟩]],[]⟩).memory:=
 laidMet_of_run' 8 (by kernel_rfl) (by kernel_rfl)
theorem beamSectors_reads(os:Os){H:Type}(enc:TypeId×Value→H):∃places,DataW.whole enc Tryz.prog ((beamSectors_laidWorld os).forCall (fun _ _=>0) ⟨#[],#[.agg #[.int .i64 0,.slice none 0 0,.slice none 0 0,.slice none 0 0],.agg #[.int .i64 0,.int .i64 0,.slice none 0 0],.agg #[.string ⟨#[]⟩,.string ⟨#[]⟩,.int .i64 0,.slice none 0 0,.int .i64 0,.int .i64 0,.string ⟨#[]⟩]],[]⟩).memory Tryz.f12.params.toList Rows.beamSectorsSpec.vars false (#[.agg #[.int .i64 0,.slice none 0 0,.slice none 0 0,.slice none 0 0],.agg #[.int .i64 0,.int .i64 0,.slice none 0 0],.agg #[.string ⟨#[]⟩,.string ⟨#[]⟩,.int .i64 0,.slice none 0 0,.int .i64 0,.int .i64 0,.string ⟨#[]⟩]]:Array Value).toList 8=some ([.agg [.lit (.int .i64 0),.nil,.nil,.nil],.agg [.lit (.int .i64 0),.lit (.int .i64 0),.nil],.agg [.agg [.lit (.string []),.lit (.string []),.lit (.int .i64 0),.nil,.lit (.int .i64 0),.lit (.int .i64 0)],.lit (.string [])]],[],places):=
 ⟨[],by kernel_rfl⟩
set_option maxRecDepth 100000 in
theorem beamSectors_lifted(os:Os)(started:os.Started)(H:Type)(enc:TypeId×Value→H)(F:Stop.Interp):
 ReturnsInHanded {} Tryz.checked os 12 .any ((OpenSpec.ofChange Rows.beamSectorsSpec).preRow enc Tryz.prog Tryz.f12 Rows.beamSectorsRow.domain false Rows.beamSectorsRow.laid) (((OpenSpec.ofChange Rows.beamSectorsSpec).at F).post enc Tryz.prog Tryz.f12 false true false false):=by
 obtain⟨places,hx⟩:=beamSectors_reads os enc
 refine returnsInHanded_of_row (C:=Tryz.checked) (s:=OpenSpec.ofChange Rows.beamSectorsSpec) beamSectors_own started (by kernel_rfl) Tryz.func12
  (witness_row_at (enc:=enc) (C:=Tryz.checked) false (beamSectors_laidWorld os) #[.agg #[.int .i64 0,.slice none 0 0,.slice none 0 0,.slice none 0 0],.agg #[.int .i64 0,.int .i64 0,.slice none 0 0],.agg #[.string ⟨#[]⟩,.string ⟨#[]⟩,.int .i64 0,.slice none 0 0,.int .i64 0,.int .i64 0,.string ⟨#[]⟩]] rfl (by kernel_rfl) (by kernel_rfl) (by kernel_rfl)
    (OpenSpec.preRow_of_cond 8 hx (by kernel_rfl) (fun k hk=>by cases hk) (by kernel_rfl) (beamSectors_laid_met os))) ?_
 intro W base args ds gs before hval hW _ _ _ hL _ _
 exact beamSectors_contract H enc W base args ds gs before hval hW hL
theorem beamSectors_and{a b:Bool}(h:a=true)(k:b=true):(a&&b)=true:=by rw[h,k];rfl
theorem beamSectors_k0:(Rows.beamSectorsRow.wf (OpenSpec.ofChange Rows.beamSectorsSpec))=true:=by kernel_rfl
theorem beamSectors_k1:(laidOutB Tryz.prog)=true:=by kernel_rfl
theorem beamSectors_k2:(mapsRowed Tryz.prog)=true:=by kernel_rfl
theorem beamSectors_k3:(Tryz.f12.params.all (Tryz.prog.readableRec ·))=true:=by kernel_rfl
theorem beamSectors_k4:(namedTie Tryz.prog Rows.beamSectorsRow.named Rows.beamSectorsSpec.vars)=true:=by kernel_rfl
theorem beamSectors_k5:((Rows.beamSectorsRow.stops== []))=true:=by kernel_rfl
theorem beamSectors_k6:((Tryz.prog.stops== []))=true:=by kernel_rfl
theorem beamSectors_k7:((Rows.beamSectorsRow.knobs== []))=true:=by kernel_rfl
theorem beamSectors_k8:((Tryz.prog.stopKnobs== []))=true:=by kernel_rfl
theorem beamSectors_k9:((Rows.beamSectorsRow.inPlace==Tryz.prog.inPlace 12))=true:=by kernel_rfl
theorem beamSectors_k10:((Rows.beamSectorsRow.unfollowed==Tryz.prog.unfollowed 12))=true:=by kernel_rfl
theorem beamSectors_k11:((Rows.beamSectorsRow.recurses==Tryz.prog.recurses 12))=true:=by kernel_rfl
theorem beamSectors_k12:((Rows.beamSectorsRow.named==Tryz.prog.varsNamed 12))=true:=by kernel_rfl
theorem beamSectors_k13:((Rows.beamSectorsRow.maps==(Tryz.f12.params.toList++Rows.beamSectorsSpec.plain.varTypes Tryz.prog).any (Tryz.prog.mapsRec ·)))=true:=by kernel_rfl
theorem beamSectors_k14:((Rows.beamSectorsRow.ifaces==(Tryz.f12.params.toList++Rows.beamSectorsSpec.plain.varTypes Tryz.prog).any (Tryz.prog.ifacesRec ·)))=true:=by kernel_rfl
theorem beamSectors_k15:((Rows.beamSectorsRow.mapsOut==Tryz.prog.mapsAmong Tryz.f12.resultTypes.toList))=true:=by kernel_rfl
theorem beamSectors_k16:((Rows.beamSectorsRow.loops==(Tryz.f12.params.toList++Rows.beamSectorsSpec.plain.varTypes Tryz.prog).any (Tryz.prog.loopsFrom ·)))=true:=by kernel_rfl
theorem beamSectors_k17:((Rows.beamSectorsRow.wideKeys==(Tryz.f12.params.toList++Rows.beamSectorsSpec.plain.varTypes Tryz.prog++Tryz.f12.resultTypes.toList).any (Tryz.prog.wideKeysFrom ·)))=true:=by kernel_rfl
theorem beamSectors_k18:(Rows.beamSectorsSpec.vars.all (Tryz.prog.varReadable ·))=true:=by kernel_rfl
theorem beamSectors_k19:(Tryz.f12.resultTypes.all (fun t=>Tryz.prog.readableRec t&&decide (t<Tryz.prog.types.size)))=true:=by kernel_rfl
theorem beamSectors_k20:((Rows.beamSectorsRow.ifacesOut==Tryz.f12.resultTypes.toList.any (Tryz.prog.ifacesRec ·)))=true:=by kernel_rfl
theorem beamSectors_k21:((Rows.beamSectorsRow.loopsOut==Tryz.f12.resultTypes.toList.any (Tryz.prog.loopsFrom ·)))=true:=by kernel_rfl
theorem beamSectors_k22:((Rows.beamSectorsRow.plainKeys==Tryz.prog.plainKeys))=true:=by kernel_rfl
theorem beamSectors_k23:(Rows.beamSectorsRow.shortTexts.isNone)=true:=by kernel_rfl
theorem beamSectors_k24:(Tryz.prog.stopsHeard)=true:=by kernel_rfl
theorem beamSectors_k25:(Tryz.prog.mayEnter)=true:=by kernel_rfl
theorem beamSectors_k26:((Rows.beamSectorsRow.lifted==Tryz.prog.liftsFinal))=true:=by kernel_rfl
theorem beamSectors_k27:((Tryz.prog.make==some Rows.beamSectorsRow.make))=true:=by kernel_rfl
theorem beamSectors_k28:((Rows.beamSectorsRow.kinds==(if Rows.beamSectorsRow.domain.isEmpty then []else Tryz.f12.params.toList.map fun t=>match Tryz.prog.underlying t with|some (.int k)=>some k|_=>none)))=true:=by kernel_rfl
theorem beamSectors_k29:((Rows.beamSectorsRow.pinned==Rows.beamSectorsRow.pinnedBy))=true:=by kernel_rfl
theorem beamSectors_k30:((Rows.beamSectorsRow.veiled==(Tryz.f12.params.toList++Rows.beamSectorsSpec.plain.varTypes Tryz.prog++Tryz.f12.resultTypes.toList).any (Tryz.prog.veiledRec ·)))=true:=by kernel_rfl
theorem beamSectors_k31:(Rows.beamSectorsRow.veiledFits Tryz.prog Tryz.f12.params.toList (Tryz.f12.params.toList++Rows.beamSectorsSpec.plain.varTypes Tryz.prog++Tryz.f12.resultTypes.toList))=true:=by kernel_rfl
set_option maxRecDepth 100000 in
theorem beamSectors_closed:joinedFacts Tryz.prog 12 Tryz.f12 Rows.beamSectorsSpec Rows.beamSectorsRow=true:=beamSectors_and (beamSectors_and (beamSectors_and (beamSectors_and (beamSectors_and (beamSectors_and (beamSectors_and (beamSectors_and (beamSectors_and (beamSectors_and (beamSectors_and (beamSectors_and (beamSectors_and (beamSectors_and (beamSectors_and (beamSectors_and (beamSectors_and (beamSectors_and (beamSectors_and (beamSectors_and (beamSectors_and (beamSectors_and (beamSectors_and (beamSectors_and (beamSectors_and (beamSectors_and (beamSectors_and (beamSectors_and (beamSectors_and (beamSectors_and (beamSectors_and (beamSectors_k0) beamSectors_k1) beamSectors_k2) beamSectors_k3) beamSectors_k4) beamSectors_k5) beamSectors_k6) beamSectors_k7) beamSectors_k8) beamSectors_k9) beamSectors_k10) beamSectors_k11) beamSectors_k12) beamSectors_k13) beamSectors_k14) beamSectors_k15) beamSectors_k16) beamSectors_k17) beamSectors_k18) beamSectors_k19) beamSectors_k20) beamSectors_k21) beamSectors_k22) beamSectors_k23) beamSectors_k24) beamSectors_k25) beamSectors_k26) beamSectors_k27) beamSectors_k28) beamSectors_k29) beamSectors_k30) beamSectors_k31
set_option maxRecDepth 100000 in
theorem beamSectors_said:Rows.BeamSectorsSaid:=
 OpenClaim.holds_of_cond 12 Tryz.f12 rfl rfl rfl rfl rfl rfl rfl ⟨rfl,rfl,rfl,rfl,rfl⟩ rfl rfl rfl rfl rfl (by kernel_rfl) Tryz.func12 beamSectors_closed
  (of_decide_eq_true (by kernel_rfl)) (by unfold Func.isWrapper;first|(rw[if_pos (by decide +kernel)];kernel_rfl)|(rw[if_neg (by decide +kernel)];exact⟨rfl,rfl⟩))
  (fun os started H enc _ F=>by rw[OpenClaim.pre_eq_preRow];exact beamSectors_lifted os started H enc F)
set_option maxRecDepth 100000 in
theorem beamSectors_plain(f:FuncId)(fn:Func)(hf:Tryz.pinned.checked.prog.funcNamed "spillage/spillagelaw06.BeamSectors" =some f)(hfn:Tryz.pinned.checked.prog.funcs[f]? =some fn):
 false=Tryz.pinned.checked.prog.looks []∧∀(j:Nat) t,fn.params[j]? =some t→Tryz.pinned.checked.prog.wantsStandIn t=false:=by
 obtain rfl:f=12:=Option.some.inj ((show Tryz.prog.funcNamed "spillage/spillagelaw06.BeamSectors" =some 12 by kernel_rfl).symm.trans hf) |>.symm
 obtain rfl:fn=Tryz.f12:=(Option.some.inj (Tryz.func12.symm.trans hfn)).symm
 refine⟨by kernel_rfl,fun j t ht=>?_⟩
 have hall:(Tryz.f12.params.toList.all fun t=> !(Tryz.prog.wantsStandIn t))=true:=by kernel_rfl
 have h:=List.all_eq_true.1 hall t (by simpa using Array.mem_of_getElem? ht)
 show Tryz.prog.wantsStandIn t=false
 simpa using h
set_option maxRecDepth 100000 in
theorem beamSectors_card:Rows.BeamSectorsCardSaid:=
 Claim7.holds_tied_plain_at .later [] _ _ _ _ beamSectors_said (fun _ h=>by cases h) (by kernel_rfl) (fun _ h=>by cases h) beamSectors_row_tie rfl ⟨rfl,rfl⟩ (by kernel_rfl) rfl beamSectors_plain (by kernel_rfl)
#print axioms beamSectors_card
end Go.Proofs.YtehnikhicnnnhaaGreatDoor
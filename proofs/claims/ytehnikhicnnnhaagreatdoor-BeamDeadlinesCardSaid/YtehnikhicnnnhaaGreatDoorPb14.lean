/- More arguments opened: lists of ints. | More arguments opened: mirrors, fields, orders. | More arguments opened: rounds of orders, a string. | For every grid, field and string the law 'BeamDeadlines' (Deadline, Sector and Defocused return the results or the errors of the reference) answers true, and the arguments read as they did. Conditions: the four listed package-level variables hold what the program's text lays in them. -/
import Derived.Test.YtehnikhicnnnhaaGreatDoorPa20
import Derived.Test.YtehnikhicnnnhaaGreatDoorPa06
import Derived.Test.YtehnikhicnnnhaaGreatDoorPa01
import Derived.Test.YtehnikhicnnnhaaGreatDoorPa47
import Derived.Test.YtehnikhicnnnhaaGreatDoorPa23
import Derived.Test.YtehnikhicnnnhaaGreatDoorCards
import Derived.Test.YtehnikhicnnnhaaGreatDoorTie
import Derived.Test.YtehnikhicnnnhaaGreatDoorPb13
import Derived.WalkKit
import Derived.ProofKit
import Derived.OpenShut
import Derived.Deep.DeepHandedRow
import Derived.Lib.LaidTab
namespace Go.Proofs.YtehnikhicnnnhaaGreatDoor
open Go Go.ChangeShapes Go.WideShapes Go.Deep Go.RowKit
section
variable {H:Type} {enc:TypeId×Value→H} {w:World} {base:Nat} {sp:Nat→Bool} {held:Bool}
set_option maxRecDepth 100000 in
theorem open_list{r:Reach}{b0:Nat}{v:Value}{d:DataW H}{p:List MemPlace}(hv:Value.okWide Tryz.prog w r b0 30 v)(h:DataW.Trod enc Tryz.prog w base sp held 30 v d p):
 ∃(A:Option Addr) (l:List Int) (c:Nat),v=.slice A l.length c∧IntsR w w.heap.size A l∧(A=none→c=0)∧l.length≤c∧c≤maxLen:=by
 obtain⟨a,len,cap,rfl⟩:=okWide_slice Tryz.underlying30 hv
 obtain⟨fuel,h⟩:=h
 replace h:DataW.trod enc Tryz.prog w base sp held fuel 30 [.slice a len cap]=some (d,p):=h
 obtain⟨A,l,c,e,h1,h2,h3,h4,_⟩:=openRow (fun x:Int=> [Value.int .i64 x]) (fun z=>(Lit.int .i64 z).wf=true) Tryz.underlying30 Tryz.cInt (by decide) (fun _ _ _=>elemInt) h
 have e2:Value.slice a len cap=.slice A l.length c:=(List.cons.inj e).1
 exact⟨A,l,c,e2,h4,h3,h1,h2⟩
end
theorem Tryz.cMrr:Tryz.prog.cellsOf 107=6:=by kernel_rfl
theorem Tryz.cFldd:Tryz.prog.cellsOf 66=3:=by kernel_rfl
theorem Tryz.cOrd:Tryz.prog.cellsOf 68=3:=by kernel_rfl
theorem Tryz.cSMi:Tryz.prog.cellsOf 64=1:=by kernel_rfl
theorem Tryz.cBoo:Tryz.prog.cellsOf 4=1:=by kernel_rfl
section
variable {H:Type} {enc:TypeId×Value→H} {w:World} {base:Nat} {sp:Nat→Bool} {held:Bool} {fuel:Nat} {cs:List Value} {x:DataW H×List MemPlace}
def MirQ(w:World)(x:MA):Prop:=MirR w w.heap.size x.m x.A x.c∧(x.A=none→x.c=0)
theorem elemMir(h:DataW.trod enc Tryz.prog w base sp held fuel 107 cs=some x):∃s:MA,cs=encMA s∧MirQ w s:=by
 obtain⟨hl,hf⟩:=trod_parts Tryz.underlying107 h
 rw[Tryz.cMrr]at hl
 obtain⟨c0,c1,c2,c3,c4,c5,rfl⟩:=len6_ hl
 obtain⟨_,_,h0⟩:=hf 0 _ rfl
 obtain⟨_,_,h1⟩:=hf 1 _ rfl
 obtain⟨_,_,h2⟩:=hf 2 _ rfl
 obtain⟨_,_,h3⟩:=hf 3 _ rfl
 obtain⟨_,_,h4⟩:=hf 4 _ rfl
 obtain⟨_,_,h5⟩:=hf 5 _ rfl
 simp only[List.getElem_toArray,List.getElem_cons_zero,List.getElem_cons_succ,Tryz.cStr,Tryz.cInt,Tryz.cSI,List.drop_succ_cons,List.drop_zero,List.take_succ_cons,List.take_zero]at h0 h1 h2 h3 h4 h5
 obtain⟨s0,e0,_⟩:=DataW.trod_string Tryz.underlying9 h0
 obtain⟨s1,e1,_⟩:=DataW.trod_string Tryz.underlying9 h1
 obtain⟨n2,e2,_⟩:=DataW.trod_int Tryz.underlying3 h2
 obtain⟨A,l,c,e3,hc,_,hA,hr,_⟩:=openRow (fun x:Int=> [Value.int .i64 x]) (fun z=>(Lit.int .i64 z).wf=true) Tryz.underlying30 Tryz.cInt (by decide) (fun _ _ _=>elemInt) h3
 obtain⟨n4,e4,_⟩:=DataW.trod_int Tryz.underlying3 h4
 obtain⟨n5,e5,_⟩:=DataW.trod_int Tryz.underlying3 h5
 cases e0;cases e1;cases e2;cases e3;cases e4;cases e5
 exact⟨⟨⟨s0,s1,n2,l,n4,n5⟩,A,c⟩,rfl,⟨hr,hc⟩,hA⟩
set_option maxRecDepth 100000 in
theorem open_field{r:Reach}{b0:Nat}{v:Value}{d:DataW H}{p:List MemPlace}(hv:Value.okWide Tryz.prog w r b0 66 v)(h:DataW.Trod enc Tryz.prog w base sp held 66 v d p):
 ∃(tk ls:Int) (A:Option Addr) (c:Nat) (xs:List MA),v=(.agg #[.int .i64 tk,.int .i64 ls,.slice A xs.length c])∧FldR w w.heap.size A c xs∧NilW xs∧(A=none→c=0):=by
 obtain⟨l,fuel,rfl,h2⟩:=open_agg (P:=Tryz.prog) (t:=66) (Or.inl ⟨_,Tryz.underlying66⟩) (by with_reducible exact hv) (by with_reducible exact h)
 obtain⟨hl,hf⟩:=trod_parts Tryz.underlying66 h2
 rw[Tryz.cFldd]at hl
 obtain⟨c0,c1,c2,rfl⟩:=len3_ hl
 obtain⟨_,_,h0⟩:=hf 0 _ rfl
 obtain⟨_,_,h1⟩:=hf 1 _ rfl
 obtain⟨_,_,h2⟩:=hf 2 _ rfl
 simp only[List.getElem_toArray,List.getElem_cons_zero,List.getElem_cons_succ,Tryz.cInt,Tryz.cSMi,List.drop_succ_cons,List.drop_zero,List.take_succ_cons,List.take_zero]at h0 h1 h2
 obtain⟨tk,e0,_⟩:=DataW.trod_int Tryz.underlying3 h0
 obtain⟨ls,e1,_⟩:=DataW.trod_int Tryz.underlying3 h1
 obtain⟨A,xs,c,e2,hc,_,hA,hr,hq⟩:=openRow encMA (MirQ w) Tryz.underlying64 Tryz.cMrr (by decide) (fun _ _ _=>elemMir) h2
 cases e0;cases e1;cases e2
 exact⟨tk,ls,A,c,xs,rfl,⟨hr,fun x hx=>(hq x hx).1,hc⟩,fun x hx=>(hq x hx).2,hA⟩
theorem elemOrd(h:DataW.trod enc Tryz.prog w base sp held fuel 68 cs=some x):∃o:Ord,cs= [.string o.mir,.string o.sta,.bool o.lost]:=by
 obtain⟨hl,hf⟩:=trod_parts Tryz.underlying68 h
 rw[Tryz.cOrd]at hl
 obtain⟨c0,c1,c2,rfl⟩:=len3_ hl
 obtain⟨_,_,h0⟩:=hf 0 _ rfl
 obtain⟨_,_,h1⟩:=hf 1 _ rfl
 obtain⟨_,_,h2⟩:=hf 2 _ rfl
 simp only[List.getElem_toArray,List.getElem_cons_zero,List.getElem_cons_succ,Tryz.cStr,Tryz.cBoo,List.drop_succ_cons,List.drop_zero,List.take_succ_cons,List.take_zero]at h0 h1 h2
 obtain⟨s0,e0,_⟩:=DataW.trod_string Tryz.underlying9 h0
 obtain⟨s1,e1,_⟩:=DataW.trod_string Tryz.underlying9 h1
 obtain⟨b,e2,_⟩:=DataW.trod_bool Tryz.underlying4 h2
 cases e0;cases e1;cases e2
 exact⟨⟨s0,s1,b⟩,rfl⟩
set_option maxRecDepth 100000 in
theorem open_order{r:Reach}{b0:Nat}{v:Value}{d:DataW H}{p:List MemPlace}(hv:Value.okWide Tryz.prog w r b0 68 v)(h:DataW.Trod enc Tryz.prog w base sp held 68 v d p):
 ∃o:Ord,v=.agg #[.string o.mir,.string o.sta,.bool o.lost]:=by
 obtain⟨l,fuel,rfl,h2⟩:=open_agg (P:=Tryz.prog) (t:=68) (Or.inl ⟨_,Tryz.underlying68⟩) (by with_reducible exact hv) (by with_reducible exact h)
 obtain⟨o,rfl⟩:=elemOrd h2
 exact⟨o,rfl⟩
end
theorem Tryz.cSOr:Tryz.prog.cellsOf 86=1:=by kernel_rfl
section
variable {H:Type} {enc:TypeId×Value→H} {w:World} {base:Nat} {sp:Nat→Bool} {held:Bool} {fuel:Nat} {cs:List Value} {x:DataW H×List MemPlace}
theorem elemRnd(h:DataW.trod enc Tryz.prog w base sp held fuel 86 cs=some x):∃r:RA,cs=encR r∧Rw w w.heap.size 3 r.A (r.os.map encO):=by
 obtain⟨A,l,c,e,_,_,_,hr,_⟩:=openRow encO (fun _=>True) Tryz.underlying86 Tryz.cOrd (by decide) (fun _ _ _ h=>by obtain⟨o,e⟩:=elemOrd h;exact⟨o,e,trivial⟩) h
 exact⟨⟨l,A,c⟩,e,hr⟩
set_option maxRecDepth 100000 in
theorem open_rounds{r:Reach}{b0:Nat}{v:Value}{d:DataW H}{p:List MemPlace}(hv:Value.okWide Tryz.prog w r b0 85 v)(h:DataW.Trod enc Tryz.prog w base sp held 85 v d p):
 ∃(A:Option Addr) (rs:List RA) (c:Nat),v=.slice A rs.length c∧RndR w w.heap.size A rs∧rs.length≤c:=by
 obtain⟨a,len,cap,rfl⟩:=okWide_slice Tryz.underlying85 hv
 obtain⟨fuel,h⟩:=h
 replace h:DataW.trod enc Tryz.prog w base sp held fuel 85 [.slice a len cap]=some (d,p):=h
 obtain⟨A,l,c,e,h1,h2,h3,h4,h5⟩:=openRow encR (fun z=>Rw w w.heap.size 3 z.A (z.os.map encO)) Tryz.underlying85 Tryz.cSOr (by decide) (fun _ _ _=>elemRnd) h
 have e2:Value.slice a len cap=.slice A l.length c:=(List.cons.inj e).1
 exact⟨A,l,c,e2,⟨h4,h5⟩,h1⟩
set_option maxRecDepth 100000 in
theorem open_str{r:Reach}{b0:Nat}{v:Value}{d:DataW H}{p:List MemPlace}(hv:Value.okWide Tryz.prog w r b0 9 v)(_h:DataW.Trod enc Tryz.prog w base sp held 9 v d p):∃s:ByteArray,v=.string s:=okWide_string Tryz.underlying9 hv
end
end Go.Proofs.YtehnikhicnnnhaaGreatDoor
namespace Go.Proofs.YtehnikhicnnnhaaGreatDoor
open Go.ChangeShapes Go.WideShapes Go.ChangeAt Go.RowKit
theorem beamDeadlines_own:ownKnob Tryz.prog.godebug=none:=by kernel_rfl
theorem beamDeadlines_laidOut:laidOutB Tryz.prog=true:=by kernel_rfl
theorem beamDeadlines_types:(Tryz.f10.params.toList.all fun t=>Tryz.prog.readableRec t&&decide (t<Tryz.prog.types.size))=true:=by kernel_rfl
set_option maxRecDepth 100000 in
theorem beamDeadlines_contract(H:Type)(enc:TypeId×Value→H)(W:World)(base:Nat)(args:Array Value)(ds gs:List (DataW H))(before:List MemPlace)
 (hval:∀(j:Nat) t v,Tryz.f10.params[j]? =some t→args[j]? =some v→Value.okWide Tryz.prog W .any base t v)
 (hW:DataW.Whole enc Tryz.prog Tryz.f10.params.toList Rows.beamDeadlinesSpec.vars false W args.toList ds gs before) (hL:laidMetH Tryz.prog Rows.beamDeadlinesRow.laid W):
 Calls Tryz.prog 10 args W fun e W'=>∃v,e=.returned v∧Rows.beamDeadlinesSpec.post enc Tryz.prog Tryz.f10 false true false false W args v W':=by
 have hW':=hW
 have hl:laidMet Tryz.prog Rows.beamDeadlinesRow.laid W:=hL
 obtain⟨p,q,hA0,hV,rfl,hfz,hnd⟩:=hW
 have hA:DataW.TrodAll enc Tryz.prog W 0 (fun _=>true) true Tryz.f10.params.toList args.toList ds p:=hA0
 rw[Tryz.params10]at hA hval
 obtain⟨v0,vs0,d0,ds0,p0,q0,hargs,rfl,rfl,h0,r0⟩:=trodAll_cons hA
 obtain⟨v1,vs1,d1,ds1,p1,q1,rfl,rfl,rfl,h1,r1⟩:=trodAll_cons r0
 obtain⟨v2,vs2,d2,ds2,p2,q2,rfl,rfl,rfl,h2,r2⟩:=trodAll_cons r1
 obtain⟨rfl,rfl,rfl⟩:=trodAll_nil r2
 obtain rfl:args= #[v0,v1,v2]:=by cases args;simp_all
 obtain⟨rfl,rfl⟩:=trodVars_none hV
 obtain⟨a,g,rfl,hg⟩:=open_grid (hval 0 _ v0 rfl rfl) h0
 obtain⟨tk,ls,A,c,xs,rfl,hf,hz,hA⟩:=open_field (hval 1 _ v1 rfl rfl) h1
 obtain⟨s,rfl⟩:=open_str (hval 2 _ v2 rfl rfl) h2
 refine(BeamDeadlines_c a g tk ls A c xs s W hg hf hz (laid_kinds hl (by simp[Rows.beamDeadlinesRow])) (laid_pow hl (by simp[Rows.beamDeadlinesRow]))).mono fun e W' ⟨he,hb⟩=>?_
 subst he
 refine⟨_,rfl,post_true beamDeadlines_laidOut (fun t ht=>?_) (fun _ h=>by cases h) hW' rfl Tryz.underlying4 rfl hb⟩
 have h:=List.all_eq_true.1 beamDeadlines_types t ht
 simp only[Bool.and_eq_true,decide_eq_true_eq]at h
 exact h
def beamDeadlines_tab:DataW Unit→List Value
 |.agg l=>l.map fun|.lit (.int k n)=>.int k n|_=>.bool false
 |_=> []
noncomputable def beamDeadlines_laidWorld(os:Os):World:=
 let w0:=World.holding Tryz.prog os ⟨#[],#[],[]⟩
 let put (h:Array Obj) (g:Nat) (l:List Value):Array Obj:=h.modify g fun
  |.cells _ t frozen=>.cells l.toArray t frozen
  |o=>o
 {w0 with heap:=put (put (put (put w0.heap 0 [.string ⟨#[102,111,99,117,115]⟩,.string ⟨#[115,116,97,110,100,98,121]⟩,.string ⟨#[115,116,111,119]⟩]) 2 (Lib.pow10Tab.map (Value.int .u64)))
  5 (beamDeadlines_tab Rows.laid_math_bits_deBruijn32tab)) 6 (beamDeadlines_tab Rows.laid_math_bits_deBruijn64tab)}
theorem beamDeadlines_laid_met(os:Os):laidMet Tryz.prog Rows.beamDeadlinesRow.laid ((beamDeadlines_laidWorld os).forCall (fun _ _=>0) ⟨#[],#[.agg #[.int .i64 0,.slice none 0 0,.slice none 0 0,.slice none 0 0],.agg #[.int .i64 0,.int .i64 0,.slice none 0 0],.string ⟨#[]⟩],[]⟩).memory:=
 laidMet_of_run' 8 (by kernel_rfl) (by kernel_rfl)
theorem beamDeadlines_reads(os:Os){H:Type}(enc:TypeId×Value→H):∃places,DataW.whole enc Tryz.prog ((beamDeadlines_laidWorld os).forCall (fun _ _=>0) ⟨#[],#[.agg #[.int .i64 0,.slice none 0 0,.slice none 0 0,.slice none 0 0],.agg #[.int .i64 0,.int .i64 0,.slice none 0 0],.string ⟨#[]⟩],[]⟩).memory Tryz.f10.params.toList Rows.beamDeadlinesSpec.vars false (#[.agg #[.int .i64 0,.slice none 0 0,.slice none 0 0,.slice none 0 0],.agg #[.int .i64 0,.int .i64 0,.slice none 0 0],.string ⟨#[]⟩]:Array Value).toList 8=some ([.agg [.lit (.int .i64 0),.nil,.nil,.nil],.agg [.lit (.int .i64 0),.lit (.int .i64 0),.nil],.lit (.string [])],[],places):=
 ⟨[],by kernel_rfl⟩
set_option maxRecDepth 100000 in
theorem beamDeadlines_lifted(os:Os)(started:os.Started)(H:Type)(enc:TypeId×Value→H)(F:Stop.Interp):
 ReturnsInHanded {} Tryz.checked os 10 .any ((OpenSpec.ofChange Rows.beamDeadlinesSpec).preRow enc Tryz.prog Tryz.f10 Rows.beamDeadlinesRow.domain false Rows.beamDeadlinesRow.laid) (((OpenSpec.ofChange Rows.beamDeadlinesSpec).at F).post enc Tryz.prog Tryz.f10 false true false false):=by
 obtain⟨places,hx⟩:=beamDeadlines_reads os enc
 refine returnsInHanded_of_row (C:=Tryz.checked) (s:=OpenSpec.ofChange Rows.beamDeadlinesSpec) beamDeadlines_own started (by kernel_rfl) Tryz.func10
  (witness_row_at (enc:=enc) (C:=Tryz.checked) false (beamDeadlines_laidWorld os) #[.agg #[.int .i64 0,.slice none 0 0,.slice none 0 0,.slice none 0 0],.agg #[.int .i64 0,.int .i64 0,.slice none 0 0],.string ⟨#[]⟩] rfl (by kernel_rfl) (by kernel_rfl) (by kernel_rfl)
    (OpenSpec.preRow_of_cond 8 hx (by kernel_rfl) (fun k hk=>by cases hk) (by kernel_rfl) (beamDeadlines_laid_met os))) ?_
 intro W base args ds gs before hval hW _ _ _ hL _ _
 exact beamDeadlines_contract H enc W base args ds gs before hval hW hL
theorem beamDeadlines_and{a b:Bool}(h:a=true)(k:b=true):(a&&b)=true:=by rw[h,k];rfl
theorem beamDeadlines_k0:(Rows.beamDeadlinesRow.wf (OpenSpec.ofChange Rows.beamDeadlinesSpec))=true:=by kernel_rfl
theorem beamDeadlines_k1:(laidOutB Tryz.prog)=true:=by kernel_rfl
theorem beamDeadlines_k2:(mapsRowed Tryz.prog)=true:=by kernel_rfl
theorem beamDeadlines_k3:(Tryz.f10.params.all (Tryz.prog.readableRec ·))=true:=by kernel_rfl
theorem beamDeadlines_k4:(namedTie Tryz.prog Rows.beamDeadlinesRow.named Rows.beamDeadlinesSpec.vars)=true:=by kernel_rfl
theorem beamDeadlines_k5:((Rows.beamDeadlinesRow.stops== []))=true:=by kernel_rfl
theorem beamDeadlines_k6:((Tryz.prog.stops== []))=true:=by kernel_rfl
theorem beamDeadlines_k7:((Rows.beamDeadlinesRow.knobs== []))=true:=by kernel_rfl
theorem beamDeadlines_k8:((Tryz.prog.stopKnobs== []))=true:=by kernel_rfl
theorem beamDeadlines_k9:((Rows.beamDeadlinesRow.inPlace==Tryz.prog.inPlace 10))=true:=by kernel_rfl
theorem beamDeadlines_k10:((Rows.beamDeadlinesRow.unfollowed==Tryz.prog.unfollowed 10))=true:=by kernel_rfl
theorem beamDeadlines_k11:((Rows.beamDeadlinesRow.recurses==Tryz.prog.recurses 10))=true:=by kernel_rfl
theorem beamDeadlines_k12:((Rows.beamDeadlinesRow.named==Tryz.prog.varsNamed 10))=true:=by kernel_rfl
theorem beamDeadlines_k13:((Rows.beamDeadlinesRow.maps==(Tryz.f10.params.toList++Rows.beamDeadlinesSpec.plain.varTypes Tryz.prog).any (Tryz.prog.mapsRec ·)))=true:=by kernel_rfl
theorem beamDeadlines_k14:((Rows.beamDeadlinesRow.ifaces==(Tryz.f10.params.toList++Rows.beamDeadlinesSpec.plain.varTypes Tryz.prog).any (Tryz.prog.ifacesRec ·)))=true:=by kernel_rfl
theorem beamDeadlines_k15:((Rows.beamDeadlinesRow.mapsOut==Tryz.prog.mapsAmong Tryz.f10.resultTypes.toList))=true:=by kernel_rfl
theorem beamDeadlines_k16:((Rows.beamDeadlinesRow.loops==(Tryz.f10.params.toList++Rows.beamDeadlinesSpec.plain.varTypes Tryz.prog).any (Tryz.prog.loopsFrom ·)))=true:=by kernel_rfl
theorem beamDeadlines_k17:((Rows.beamDeadlinesRow.wideKeys==(Tryz.f10.params.toList++Rows.beamDeadlinesSpec.plain.varTypes Tryz.prog++Tryz.f10.resultTypes.toList).any (Tryz.prog.wideKeysFrom ·)))=true:=by kernel_rfl
theorem beamDeadlines_k18:(Rows.beamDeadlinesSpec.vars.all (Tryz.prog.varReadable ·))=true:=by kernel_rfl
theorem beamDeadlines_k19:(Tryz.f10.resultTypes.all (fun t=>Tryz.prog.readableRec t&&decide (t<Tryz.prog.types.size)))=true:=by kernel_rfl
theorem beamDeadlines_k20:((Rows.beamDeadlinesRow.ifacesOut==Tryz.f10.resultTypes.toList.any (Tryz.prog.ifacesRec ·)))=true:=by kernel_rfl
theorem beamDeadlines_k21:((Rows.beamDeadlinesRow.loopsOut==Tryz.f10.resultTypes.toList.any (Tryz.prog.loopsFrom ·)))=true:=by kernel_rfl
theorem beamDeadlines_k22:((Rows.beamDeadlinesRow.plainKeys==Tryz.prog.plainKeys))=true:=by kernel_rfl
theorem beamDeadlines_k23:(Rows.beamDeadlinesRow.shortTexts.isNone)=true:=by kernel_rfl
theorem beamDeadlines_k24:(Tryz.prog.stopsHeard)=true:=by kernel_rfl
theorem beamDeadlines_k25:(Tryz.prog.mayEnter)=true:=by kernel_rfl
theorem beamDeadlines_k26:((Rows.beamDeadlinesRow.lifted==Tryz.prog.liftsFinal))=true:=by kernel_rfl
theorem beamDeadlines_k27:((Tryz.prog.make==some Rows.beamDeadlinesRow.make))=true:=by kernel_rfl
theorem beamDeadlines_k28:((Rows.beamDeadlinesRow.kinds==(if Rows.beamDeadlinesRow.domain.isEmpty then []else Tryz.f10.params.toList.map fun t=>match Tryz.prog.underlying t with|some (.int k)=>some k|_=>none)))=true:=by kernel_rfl
theorem beamDeadlines_k29:((Rows.beamDeadlinesRow.pinned==Rows.beamDeadlinesRow.pinnedBy))=true:=by kernel_rfl
theorem beamDeadlines_k30:((Rows.beamDeadlinesRow.veiled==(Tryz.f10.params.toList++Rows.beamDeadlinesSpec.plain.varTypes Tryz.prog++Tryz.f10.resultTypes.toList).any (Tryz.prog.veiledRec ·)))=true:=by kernel_rfl
theorem beamDeadlines_k31:(Rows.beamDeadlinesRow.veiledFits Tryz.prog Tryz.f10.params.toList (Tryz.f10.params.toList++Rows.beamDeadlinesSpec.plain.varTypes Tryz.prog++Tryz.f10.resultTypes.toList))=true:=by kernel_rfl
set_option maxRecDepth 100000 in
theorem beamDeadlines_closed:joinedFacts Tryz.prog 10 Tryz.f10 Rows.beamDeadlinesSpec Rows.beamDeadlinesRow=true:=beamDeadlines_and (beamDeadlines_and (beamDeadlines_and (beamDeadlines_and (beamDeadlines_and (beamDeadlines_and (beamDeadlines_and (beamDeadlines_and (beamDeadlines_and (beamDeadlines_and (beamDeadlines_and (beamDeadlines_and (beamDeadlines_and (beamDeadlines_and (beamDeadlines_and (beamDeadlines_and (beamDeadlines_and (beamDeadlines_and (beamDeadlines_and (beamDeadlines_and (beamDeadlines_and (beamDeadlines_and (beamDeadlines_and (beamDeadlines_and (beamDeadlines_and (beamDeadlines_and (beamDeadlines_and (beamDeadlines_and (beamDeadlines_and (beamDeadlines_and (beamDeadlines_and (beamDeadlines_k0) beamDeadlines_k1) beamDeadlines_k2) beamDeadlines_k3) beamDeadlines_k4) beamDeadlines_k5) beamDeadlines_k6) beamDeadlines_k7) beamDeadlines_k8) beamDeadlines_k9) beamDeadlines_k10) beamDeadlines_k11) beamDeadlines_k12) beamDeadlines_k13) beamDeadlines_k14) beamDeadlines_k15) beamDeadlines_k16) beamDeadlines_k17) beamDeadlines_k18) beamDeadlines_k19) beamDeadlines_k20) beamDeadlines_k21) beamDeadlines_k22) beamDeadlines_k23) beamDeadlines_k24) beamDeadlines_k25) beamDeadlines_k26) beamDeadlines_k27) beamDeadlines_k28) beamDeadlines_k29) beamDeadlines_k30) beamDeadlines_k31
set_option maxRecDepth 100000 in
theorem beamDeadlines_said:Rows.BeamDeadlinesSaid:=
 OpenClaim.holds_of_cond 10 Tryz.f10 rfl rfl rfl rfl rfl rfl rfl ⟨rfl,rfl,rfl,rfl,rfl⟩ rfl rfl rfl rfl rfl (by kernel_rfl) Tryz.func10 beamDeadlines_closed
  (of_decide_eq_true (by kernel_rfl)) (by unfold Func.isWrapper;first|(rw[if_pos (by decide +kernel)];kernel_rfl)|(rw[if_neg (by decide +kernel)];exact⟨rfl,rfl⟩))
  (fun os started H enc _ F=>by rw[OpenClaim.pre_eq_preRow];exact beamDeadlines_lifted os started H enc F)
set_option maxRecDepth 100000 in
theorem beamDeadlines_plain(f:FuncId)(fn:Func)(hf:Tryz.pinned.checked.prog.funcNamed "spillage/spillagelaw06.BeamDeadlines" =some f)(hfn:Tryz.pinned.checked.prog.funcs[f]? =some fn):
 false=Tryz.pinned.checked.prog.looks []∧∀(j:Nat) t,fn.params[j]? =some t→Tryz.pinned.checked.prog.wantsStandIn t=false:=by
 obtain rfl:f=10:=Option.some.inj ((show Tryz.prog.funcNamed "spillage/spillagelaw06.BeamDeadlines" =some 10 by kernel_rfl).symm.trans hf) |>.symm
 obtain rfl:fn=Tryz.f10:=(Option.some.inj (Tryz.func10.symm.trans hfn)).symm
 refine⟨by kernel_rfl,fun j t ht=>?_⟩
 have hall:(Tryz.f10.params.toList.all fun t=> !(Tryz.prog.wantsStandIn t))=true:=by kernel_rfl
 have h:=List.all_eq_true.1 hall t (by simpa using Array.mem_of_getElem? ht)
 show Tryz.prog.wantsStandIn t=false
 simpa using h
set_option maxRecDepth 100000 in
theorem beamDeadlines_card:Rows.BeamDeadlinesCardSaid:=
 Claim7.holds_tied_plain_at .later [] _ _ _ _ beamDeadlines_said (fun _ h=>by cases h) (by kernel_rfl) (fun _ h=>by cases h) beamDeadlines_row_tie rfl ⟨rfl,rfl⟩ (by kernel_rfl) rfl beamDeadlines_plain (by kernel_rfl)
#print axioms beamDeadlines_card
end Go.Proofs.YtehnikhicnnnhaaGreatDoor
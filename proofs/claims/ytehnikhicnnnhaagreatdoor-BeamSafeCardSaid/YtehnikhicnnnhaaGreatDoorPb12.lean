/- More arguments opened: lists of ints. | More arguments opened: mirrors, fields, orders. | More arguments opened: rounds of orders, a string. -/
import Derived.Test.YtehnikhicnnnhaaGreatDoorPa20
import Derived.Test.YtehnikhicnnnhaaGreatDoorPa23
import Derived.Test.YtehnikhicnnnhaaGreatDoorPa47
namespace Go.Proofs.YtehnikhicnnnhaaGreatDoor
open Go Go.ChangeShapes Go.WideShapes Go.Deep Go.RowKit
section
variable {H:Type} {enc:TypeId×Value→H} {w:World} {base:Nat} {sp:Nat→Bool} {held:Bool}
set_option maxRecDepth 100000 in
theorem open_list{r:Reach}{b0:Nat}{v:Value}{d:DataW H}{p:List MemPlace}(hv:Value.okWide Tryz.prog w r b0 30 v)(h:DataW.Trod enc Tryz.prog w base sp held 30 v d p):
 ∃(A:Option Addr) (l:List Int) (c:Nat),v=.slice A l.length c∧IntsR w w.heap.size A l∧(A=none→c=0)∧l.length≤c∧c≤maxLen:=by
 obtain⟨a,len,cap,rfl⟩:=okWide_slice Tryz.underlying30 hv
 obtain⟨fuel,h⟩:=h
 replace h:DataW.trod enc Tryz.prog w base sp held fuel 30 [.slice a len cap]=some (d,p):=h
 obtain⟨A,l,c,e,h1,h2,h3,h4,_⟩:=openRow (fun x:Int=> [Value.int .i64 x]) (fun z=>(Lit.int .i64 z).wf=true) Tryz.underlying30 Tryz.cInt (by decide) (fun _ _ _=>elemInt) h
 have e2:Value.slice a len cap=.slice A l.length c:=(List.cons.inj e).1
 exact⟨A,l,c,e2,h4,h3,h1,h2⟩
end
theorem Tryz.cMrr:Tryz.prog.cellsOf 107=6:=by kernel_rfl
theorem Tryz.cFldd:Tryz.prog.cellsOf 66=3:=by kernel_rfl
theorem Tryz.cOrd:Tryz.prog.cellsOf 68=3:=by kernel_rfl
theorem Tryz.cSMi:Tryz.prog.cellsOf 64=1:=by kernel_rfl
theorem Tryz.cBoo:Tryz.prog.cellsOf 4=1:=by kernel_rfl
section
variable {H:Type} {enc:TypeId×Value→H} {w:World} {base:Nat} {sp:Nat→Bool} {held:Bool} {fuel:Nat} {cs:List Value} {x:DataW H×List MemPlace}
def MirQ(w:World)(x:MA):Prop:=MirR w w.heap.size x.m x.A x.c∧(x.A=none→x.c=0)
theorem elemMir(h:DataW.trod enc Tryz.prog w base sp held fuel 107 cs=some x):∃s:MA,cs=encMA s∧MirQ w s:=by
 obtain⟨hl,hf⟩:=trod_parts Tryz.underlying107 h
 rw[Tryz.cMrr]at hl
 obtain⟨c0,c1,c2,c3,c4,c5,rfl⟩:=len6_ hl
 obtain⟨_,_,h0⟩:=hf 0 _ rfl
 obtain⟨_,_,h1⟩:=hf 1 _ rfl
 obtain⟨_,_,h2⟩:=hf 2 _ rfl
 obtain⟨_,_,h3⟩:=hf 3 _ rfl
 obtain⟨_,_,h4⟩:=hf 4 _ rfl
 obtain⟨_,_,h5⟩:=hf 5 _ rfl
 simp only[List.getElem_toArray,List.getElem_cons_zero,List.getElem_cons_succ,Tryz.cStr,Tryz.cInt,Tryz.cSI,List.drop_succ_cons,List.drop_zero,List.take_succ_cons,List.take_zero]at h0 h1 h2 h3 h4 h5
 obtain⟨s0,e0,_⟩:=DataW.trod_string Tryz.underlying9 h0
 obtain⟨s1,e1,_⟩:=DataW.trod_string Tryz.underlying9 h1
 obtain⟨n2,e2,_⟩:=DataW.trod_int Tryz.underlying3 h2
 obtain⟨A,l,c,e3,hc,_,hA,hr,_⟩:=openRow (fun x:Int=> [Value.int .i64 x]) (fun z=>(Lit.int .i64 z).wf=true) Tryz.underlying30 Tryz.cInt (by decide) (fun _ _ _=>elemInt) h3
 obtain⟨n4,e4,_⟩:=DataW.trod_int Tryz.underlying3 h4
 obtain⟨n5,e5,_⟩:=DataW.trod_int Tryz.underlying3 h5
 cases e0;cases e1;cases e2;cases e3;cases e4;cases e5
 exact⟨⟨⟨s0,s1,n2,l,n4,n5⟩,A,c⟩,rfl,⟨hr,hc⟩,hA⟩
set_option maxRecDepth 100000 in
theorem open_field{r:Reach}{b0:Nat}{v:Value}{d:DataW H}{p:List MemPlace}(hv:Value.okWide Tryz.prog w r b0 66 v)(h:DataW.Trod enc Tryz.prog w base sp held 66 v d p):
 ∃(tk ls:Int) (A:Option Addr) (c:Nat) (xs:List MA),v=(.agg #[.int .i64 tk,.int .i64 ls,.slice A xs.length c])∧FldR w w.heap.size A c xs∧NilW xs∧(A=none→c=0):=by
 obtain⟨l,fuel,rfl,h2⟩:=open_agg (P:=Tryz.prog) (t:=66) (Or.inl ⟨_,Tryz.underlying66⟩) (by with_reducible exact hv) (by with_reducible exact h)
 obtain⟨hl,hf⟩:=trod_parts Tryz.underlying66 h2
 rw[Tryz.cFldd]at hl
 obtain⟨c0,c1,c2,rfl⟩:=len3_ hl
 obtain⟨_,_,h0⟩:=hf 0 _ rfl
 obtain⟨_,_,h1⟩:=hf 1 _ rfl
 obtain⟨_,_,h2⟩:=hf 2 _ rfl
 simp only[List.getElem_toArray,List.getElem_cons_zero,List.getElem_cons_succ,Tryz.cInt,Tryz.cSMi,List.drop_succ_cons,List.drop_zero,List.take_succ_cons,List.take_zero]at h0 h1 h2
 obtain⟨tk,e0,_⟩:=DataW.trod_int Tryz.underlying3 h0
 obtain⟨ls,e1,_⟩:=DataW.trod_int Tryz.underlying3 h1
 obtain⟨A,xs,c,e2,hc,_,hA,hr,hq⟩:=openRow encMA (MirQ w) Tryz.underlying64 Tryz.cMrr (by decide) (fun _ _ _=>elemMir) h2
 cases e0;cases e1;cases e2
 exact⟨tk,ls,A,c,xs,rfl,⟨hr,fun x hx=>(hq x hx).1,hc⟩,fun x hx=>(hq x hx).2,hA⟩
theorem elemOrd(h:DataW.trod enc Tryz.prog w base sp held fuel 68 cs=some x):∃o:Ord,cs= [.string o.mir,.string o.sta,.bool o.lost]:=by
 obtain⟨hl,hf⟩:=trod_parts Tryz.underlying68 h
 rw[Tryz.cOrd]at hl
 obtain⟨c0,c1,c2,rfl⟩:=len3_ hl
 obtain⟨_,_,h0⟩:=hf 0 _ rfl
 obtain⟨_,_,h1⟩:=hf 1 _ rfl
 obtain⟨_,_,h2⟩:=hf 2 _ rfl
 simp only[List.getElem_toArray,List.getElem_cons_zero,List.getElem_cons_succ,Tryz.cStr,Tryz.cBoo,List.drop_succ_cons,List.drop_zero,List.take_succ_cons,List.take_zero]at h0 h1 h2
 obtain⟨s0,e0,_⟩:=DataW.trod_string Tryz.underlying9 h0
 obtain⟨s1,e1,_⟩:=DataW.trod_string Tryz.underlying9 h1
 obtain⟨b,e2,_⟩:=DataW.trod_bool Tryz.underlying4 h2
 cases e0;cases e1;cases e2
 exact⟨⟨s0,s1,b⟩,rfl⟩
set_option maxRecDepth 100000 in
theorem open_order{r:Reach}{b0:Nat}{v:Value}{d:DataW H}{p:List MemPlace}(hv:Value.okWide Tryz.prog w r b0 68 v)(h:DataW.Trod enc Tryz.prog w base sp held 68 v d p):
 ∃o:Ord,v=.agg #[.string o.mir,.string o.sta,.bool o.lost]:=by
 obtain⟨l,fuel,rfl,h2⟩:=open_agg (P:=Tryz.prog) (t:=68) (Or.inl ⟨_,Tryz.underlying68⟩) (by with_reducible exact hv) (by with_reducible exact h)
 obtain⟨o,rfl⟩:=elemOrd h2
 exact⟨o,rfl⟩
end
theorem Tryz.cSOr:Tryz.prog.cellsOf 86=1:=by kernel_rfl
section
variable {H:Type} {enc:TypeId×Value→H} {w:World} {base:Nat} {sp:Nat→Bool} {held:Bool} {fuel:Nat} {cs:List Value} {x:DataW H×List MemPlace}
theorem elemRnd(h:DataW.trod enc Tryz.prog w base sp held fuel 86 cs=some x):∃r:RA,cs=encR r∧Rw w w.heap.size 3 r.A (r.os.map encO):=by
 obtain⟨A,l,c,e,_,_,_,hr,_⟩:=openRow encO (fun _=>True) Tryz.underlying86 Tryz.cOrd (by decide) (fun _ _ _ h=>by obtain⟨o,e⟩:=elemOrd h;exact⟨o,e,trivial⟩) h
 exact⟨⟨l,A,c⟩,e,hr⟩
set_option maxRecDepth 100000 in
theorem open_rounds{r:Reach}{b0:Nat}{v:Value}{d:DataW H}{p:List MemPlace}(hv:Value.okWide Tryz.prog w r b0 85 v)(h:DataW.Trod enc Tryz.prog w base sp held 85 v d p):
 ∃(A:Option Addr) (rs:List RA) (c:Nat),v=.slice A rs.length c∧RndR w w.heap.size A rs∧rs.length≤c:=by
 obtain⟨a,len,cap,rfl⟩:=okWide_slice Tryz.underlying85 hv
 obtain⟨fuel,h⟩:=h
 replace h:DataW.trod enc Tryz.prog w base sp held fuel 85 [.slice a len cap]=some (d,p):=h
 obtain⟨A,l,c,e,h1,h2,h3,h4,h5⟩:=openRow encR (fun z=>Rw w w.heap.size 3 z.A (z.os.map encO)) Tryz.underlying85 Tryz.cSOr (by decide) (fun _ _ _=>elemRnd) h
 have e2:Value.slice a len cap=.slice A l.length c:=(List.cons.inj e).1
 exact⟨A,l,c,e2,⟨h4,h5⟩,h1⟩
set_option maxRecDepth 100000 in
theorem open_str{r:Reach}{b0:Nat}{v:Value}{d:DataW H}{p:List MemPlace}(hv:Value.okWide Tryz.prog w r b0 9 v)(_h:DataW.Trod enc Tryz.prog w base sp held 9 v d p):∃s:ByteArray,v=.string s:=okWide_string Tryz.underlying9 hv
end
end Go.Proofs.YtehnikhicnnnhaaGreatDoor
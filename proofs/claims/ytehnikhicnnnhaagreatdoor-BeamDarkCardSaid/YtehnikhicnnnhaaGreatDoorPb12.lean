/- More arguments opened: lists of ints. | More arguments opened: mirrors, fields, orders. -/
import Derived.Test.YtehnikhicnnnhaaGreatDoorPa20
import Derived.Test.YtehnikhicnnnhaaGreatDoorPa47
namespace Go.Proofs.YtehnikhicnnnhaaGreatDoor
open Go Go.ChangeShapes Go.WideShapes Go.Deep Go.RowKit
section
variable {H:Type} {enc:TypeId×Value→H} {w:World} {base:Nat} {sp:Nat→Bool} {held:Bool}
end
theorem Tryz.cMrr:Tryz.prog.cellsOf 107=6:=by kernel_rfl
theorem Tryz.cFldd:Tryz.prog.cellsOf 66=3:=by kernel_rfl
theorem Tryz.cSMi:Tryz.prog.cellsOf 64=1:=by kernel_rfl
section
variable {H:Type} {enc:TypeId×Value→H} {w:World} {base:Nat} {sp:Nat→Bool} {held:Bool} {fuel:Nat} {cs:List Value} {x:DataW H×List MemPlace}
def MirQ(w:World)(x:MA):Prop:=MirR w w.heap.size x.m x.A x.c∧(x.A=none→x.c=0)
theorem elemMir(h:DataW.trod enc Tryz.prog w base sp held fuel 107 cs=some x):∃s:MA,cs=encMA s∧MirQ w s:=by
 obtain⟨hl,hf⟩:=trod_parts Tryz.underlying107 h
 rw[Tryz.cMrr]at hl
 obtain⟨c0,c1,c2,c3,c4,c5,rfl⟩:=len6_ hl
 obtain⟨_,_,h0⟩:=hf 0 _ rfl
 obtain⟨_,_,h1⟩:=hf 1 _ rfl
 obtain⟨_,_,h2⟩:=hf 2 _ rfl
 obtain⟨_,_,h3⟩:=hf 3 _ rfl
 obtain⟨_,_,h4⟩:=hf 4 _ rfl
 obtain⟨_,_,h5⟩:=hf 5 _ rfl
 simp only[List.getElem_toArray,List.getElem_cons_zero,List.getElem_cons_succ,Tryz.cStr,Tryz.cInt,Tryz.cSI,List.drop_succ_cons,List.drop_zero,List.take_succ_cons,List.take_zero]at h0 h1 h2 h3 h4 h5
 obtain⟨s0,e0,_⟩:=DataW.trod_string Tryz.underlying9 h0
 obtain⟨s1,e1,_⟩:=DataW.trod_string Tryz.underlying9 h1
 obtain⟨n2,e2,_⟩:=DataW.trod_int Tryz.underlying3 h2
 obtain⟨A,l,c,e3,hc,_,hA,hr,_⟩:=openRow (fun x:Int=> [Value.int .i64 x]) (fun z=>(Lit.int .i64 z).wf=true) Tryz.underlying30 Tryz.cInt (by decide) (fun _ _ _=>elemInt) h3
 obtain⟨n4,e4,_⟩:=DataW.trod_int Tryz.underlying3 h4
 obtain⟨n5,e5,_⟩:=DataW.trod_int Tryz.underlying3 h5
 cases e0;cases e1;cases e2;cases e3;cases e4;cases e5
 exact⟨⟨⟨s0,s1,n2,l,n4,n5⟩,A,c⟩,rfl,⟨hr,hc⟩,hA⟩
set_option maxRecDepth 100000 in
theorem open_field{r:Reach}{b0:Nat}{v:Value}{d:DataW H}{p:List MemPlace}(hv:Value.okWide Tryz.prog w r b0 66 v)(h:DataW.Trod enc Tryz.prog w base sp held 66 v d p):
 ∃(tk ls:Int) (A:Option Addr) (c:Nat) (xs:List MA),v=(.agg #[.int .i64 tk,.int .i64 ls,.slice A xs.length c])∧FldR w w.heap.size A c xs∧NilW xs∧(A=none→c=0):=by
 obtain⟨l,fuel,rfl,h2⟩:=open_agg (P:=Tryz.prog) (t:=66) (Or.inl ⟨_,Tryz.underlying66⟩) (by with_reducible exact hv) (by with_reducible exact h)
 obtain⟨hl,hf⟩:=trod_parts Tryz.underlying66 h2
 rw[Tryz.cFldd]at hl
 obtain⟨c0,c1,c2,rfl⟩:=len3_ hl
 obtain⟨_,_,h0⟩:=hf 0 _ rfl
 obtain⟨_,_,h1⟩:=hf 1 _ rfl
 obtain⟨_,_,h2⟩:=hf 2 _ rfl
 simp only[List.getElem_toArray,List.getElem_cons_zero,List.getElem_cons_succ,Tryz.cInt,Tryz.cSMi,List.drop_succ_cons,List.drop_zero,List.take_succ_cons,List.take_zero]at h0 h1 h2
 obtain⟨tk,e0,_⟩:=DataW.trod_int Tryz.underlying3 h0
 obtain⟨ls,e1,_⟩:=DataW.trod_int Tryz.underlying3 h1
 obtain⟨A,xs,c,e2,hc,_,hA,hr,hq⟩:=openRow encMA (MirQ w) Tryz.underlying64 Tryz.cMrr (by decide) (fun _ _ _=>elemMir) h2
 cases e0;cases e1;cases e2
 exact⟨tk,ls,A,c,xs,rfl,⟨hr,fun x hx=>(hq x hx).1,hc⟩,fun x hx=>(hq x hx).2,hA⟩
end
end Go.Proofs.YtehnikhicnnnhaaGreatDoor
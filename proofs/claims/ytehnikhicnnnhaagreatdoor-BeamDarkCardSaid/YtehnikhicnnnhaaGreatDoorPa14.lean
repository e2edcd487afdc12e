/- own. | led. -/
import Derived.Test.YtehnikhicnnnhaaGreatDoorPa12
import Derived.Laws.CopyOwn
namespace Go.Proofs.YtehnikhicnnnhaaGreatDoor
open Go.RowKit
theorem Tryz.sizeInt:(Tryz.prog.info? 3).map (·.size)=some 1:=by kernel_rfl
theorem set6_block{W:World}{b:Nat}{T:TypeId}{a0 a1 a2 a3 a4 a5 v0 v1 v2 v3 v4 v5:Value}(h:W.heap[b]? =some (.cells #[a0,a1,a2,a3,a4,a5] T (0,0))):
 ((((((W.setCell ⟨b,0,none⟩ v0).setCell ⟨b,1,none⟩ v1).setCell ⟨b,2,none⟩ v2).setCell ⟨b,3,none⟩ v3).setCell ⟨b,4,none⟩ v4).setCell ⟨b,5,none⟩ v5).heap[b]? =some (.cells #[v0,v1,v2,v3,v4,v5] T (0,0)):=
 heap_setCell_same _ b 5 _ T v5 (heap_setCell_same _ b 4 _ T v4 (heap_setCell_same _ b 3 _ T v3 (heap_setCell_same _ b 2 _ T v2 (heap_setCell_same _ b 1 _ T v1 (heap_setCell_same W b 0 _ T v0 h)))))
theorem set3_block{W:World}{b:Nat}{T:TypeId}{a0 a1 a2 v0 v1 v2:Value}(h:W.heap[b]? =some (.cells #[a0,a1,a2] T (0,0))):
 (((W.setCell ⟨b,0,none⟩ v0).setCell ⟨b,1,none⟩ v1).setCell ⟨b,2,none⟩ v2).heap[b]? =some (.cells #[v0,v1,v2] T (0,0)):=
 heap_setCell_same _ b 2 _ T v2 (heap_setCell_same _ b 1 _ T v1 (heap_setCell_same W b 0 _ T v0 h))
theorem Tryz.res_mir{fn:Func}{t:Tmp}(h:fn.results= #[.cell t 106])(tmps:Array Value)(w:World){b:Nat}{T:TypeId}{v0 v1 v2 v3 v4 v5:Value}(ht:tmps.getD t undef=.pointer (some ⟨b,0,none⟩))(hb:w.heap[b]? =some (.cells #[v0,v1,v2,v3,v4,v5] T (0,0))):
 (results fn tmps).run Tryz.prog w=.ok (.agg #[v0,v1,v2,v3,v4,v5]) w:=by
 have c0:w.cell? ⟨b,0,none⟩=some v0:=by rw[cell_of_row w _ 0 _ _ _ hb];rfl
 have c1:w.cell? ⟨b,1,none⟩=some v1:=by rw[cell_of_row w _ 1 _ _ _ hb];rfl
 have c2:w.cell? ⟨b,2,none⟩=some v2:=by rw[cell_of_row w _ 2 _ _ _ hb];rfl
 have c3:w.cell? ⟨b,3,none⟩=some v3:=by rw[cell_of_row w _ 3 _ _ _ hb];rfl
 have c4:w.cell? ⟨b,4,none⟩=some v4:=by rw[cell_of_row w _ 4 _ _ _ hb];rfl
 have c5:w.cell? ⟨b,5,none⟩=some v5:=by rw[cell_of_row w _ 5 _ _ _ hb];rfl
 rw[Array.getD_eq_getD_getElem?]at ht
 simp only[results,h]
 simp[go_sem,ht,c0,c1,c2,c3,c4,c5]
theorem Tryz.res_mir2{fn:Func}{t u:Tmp}(h:fn.results= #[.cell t 106,.tmp u])(tmps:Array Value)(w:World){b:Nat}{T:TypeId}{v0 v1 v2 v3 v4 v5:Value}(ht:tmps.getD t undef=.pointer (some ⟨b,0,none⟩))(hb:w.heap[b]? =some (.cells #[v0,v1,v2,v3,v4,v5] T (0,0))):
 (results fn tmps).run Tryz.prog w=.ok (.tuple #[.agg #[v0,v1,v2,v3,v4,v5],tmps.getD u undef]) w:=by
 have c0:w.cell? ⟨b,0,none⟩=some v0:=by rw[cell_of_row w _ 0 _ _ _ hb];rfl
 have c1:w.cell? ⟨b,1,none⟩=some v1:=by rw[cell_of_row w _ 1 _ _ _ hb];rfl
 have c2:w.cell? ⟨b,2,none⟩=some v2:=by rw[cell_of_row w _ 2 _ _ _ hb];rfl
 have c3:w.cell? ⟨b,3,none⟩=some v3:=by rw[cell_of_row w _ 3 _ _ _ hb];rfl
 have c4:w.cell? ⟨b,4,none⟩=some v4:=by rw[cell_of_row w _ 4 _ _ _ hb];rfl
 have c5:w.cell? ⟨b,5,none⟩=some v5:=by rw[cell_of_row w _ 5 _ _ _ hb];rfl
 rw[Array.getD_eq_getD_getElem?]at ht
 simp only[results,h]
 simp[go_sem,ht,c0,c1,c2,c3,c4,c5]
theorem Tryz.res_fld{fn:Func}{t:Tmp}(h:fn.results= #[.cell t 72])(tmps:Array Value)(w:World){b:Nat}{T:TypeId}{v0 v1 v2:Value}(ht:tmps.getD t undef=.pointer (some ⟨b,0,none⟩))(hb:w.heap[b]? =some (.cells #[v0,v1,v2] T (0,0))):
 (results fn tmps).run Tryz.prog w=.ok (.agg #[v0,v1,v2]) w:=by
 have c0:w.cell? ⟨b,0,none⟩=some v0:=by rw[cell_of_row w _ 0 _ _ _ hb];rfl
 have c1:w.cell? ⟨b,1,none⟩=some v1:=by rw[cell_of_row w _ 1 _ _ _ hb];rfl
 have c2:w.cell? ⟨b,2,none⟩=some v2:=by rw[cell_of_row w _ 2 _ _ _ hb];rfl
 rw[Array.getD_eq_getD_getElem?]at ht
 simp only[results,h]
 simp[go_sem,ht,c0,c1,c2]
theorem Tryz.res_fld2{fn:Func}{t u:Tmp}(h:fn.results= #[.cell t 72,.tmp u])(tmps:Array Value)(w:World){b:Nat}{T:TypeId}{v0 v1 v2:Value}(ht:tmps.getD t undef=.pointer (some ⟨b,0,none⟩))(hb:w.heap[b]? =some (.cells #[v0,v1,v2] T (0,0))):
 (results fn tmps).run Tryz.prog w=.ok (.tuple #[.agg #[v0,v1,v2],tmps.getD u undef]) w:=by
 have c0:w.cell? ⟨b,0,none⟩=some v0:=by rw[cell_of_row w _ 0 _ _ _ hb];rfl
 have c1:w.cell? ⟨b,1,none⟩=some v1:=by rw[cell_of_row w _ 1 _ _ _ hb];rfl
 have c2:w.cell? ⟨b,2,none⟩=some v2:=by rw[cell_of_row w _ 2 _ _ _ hb];rfl
 rw[Array.getD_eq_getD_getElem?]at ht
 simp only[results,h]
 simp[go_sem,ht,c0,c1,c2]
set_option maxRecDepth 100000 in
set_option maxHeartbeats 2000000 in
theorem own1_c(m:Mir)(A:Option Addr)(c:Nat)(w:World)(hl:m.way.length≤1000)(hm:MirR w w.heap.size m A c):
 Calls Tryz.prog 167 #[(.agg #[.string m.name,.string m.sec,.int .i64 m.loc,.slice A m.way.length c,.int .i64 m.left,.int .i64 m.heard])] w fun e w'=>∃A' c',e=.returned (.agg #[.string m.name,.string m.sec,.int .i64 m.loc,.slice A' m.way.length c',.int .i64 m.left,.int .i64 m.heard])∧MirR w' w'.heap.size m A' c'∧(∀a,A'=some a→w.heap.size≤a.block)∧Below w.heap.size w w':=by
 obtain⟨i0,hi,hz0,hz1,hz2⟩:=info_parts Tryz.infoInt
 have hmk:∀W:World,(Instr.makeSlice 30 (.int .i64 m.way.length) (.int .i64 m.way.length)).run Tryz.prog W=.ok (.slice (some ⟨W.heap.size,0,none⟩) m.way.length m.way.length) (W.alloc (.cells (madeCells #[.int .i64 0] m.way.length) 3)):=fun W=>by
  have:=run_make (P:=Tryz.prog) W 30 3 i0 (.int .i64 0) Tryz.underlying30 hi hz0 .i64 .i64 (m.way.length:Int) (m.way.length:Int) (by omega) (Int.le_refl _) (by rw[hz2];omega) (by omega)
  rw[hz1]at this
  simp only[Int.toNat_natCast,Nat.mul_one]at this
  exact this
 have HM:=zh hm
 clear hm
 go_enter Tryz.func167,Tryz.ntmps167
 obtain⟨W1,hW1⟩:∃W1,W1=((w.alloc (.cells #[.string m.name,.string m.sec,.int .i64 m.loc,.slice A m.way.length c,.int .i64 m.left,.int .i64 m.heard] 106)).alloc (.cells #[.string ⟨#[]⟩,.string ⟨#[]⟩,.int .i64 0,.slice none 0 0,.int .i64 0,.int .i64 0] 106)).alloc (.cells (madeCells #[.int .i64 0] m.way.length) 3):=⟨_,rfl⟩
 have hs1:W1.heap.size=w.heap.size+3:=by rw[hW1];simp
 have hB1:Below w.heap.size w W1:=by rw[hW1];exact zbl
 have k0:W1.heap[w.heap.size]? =some (.cells #[.string m.name,.string m.sec,.int .i64 m.loc,.slice A m.way.length c,.int .i64 m.left,.int .i64 m.heard] 106 (0,0)):=by rw[hW1];exact((Below.heap_alloc _ _ _ (by simp)).trans (Below.heap_alloc _ _ _ (by simp))).trans (heap_alloc_new w _)
 have k1:W1.heap[w.heap.size+1]? =some (.cells #[.string ⟨#[]⟩,.string ⟨#[]⟩,.int .i64 0,.slice none 0 0,.int .i64 0,.int .i64 0] 106 (0,0)):=by
  rw[hW1];refine(Below.heap_alloc _ _ _ (by simp)).trans ?_
  have:=heap_alloc_new (w.alloc (.cells #[.string m.name,.string m.sec,.int .i64 m.loc,.slice A m.way.length c,.int .i64 m.left,.int .i64 m.heard] 106)) (.cells #[.string ⟨#[]⟩,.string ⟨#[]⟩,.int .i64 0,.slice none 0 0,.int .i64 0,.int .i64 0] 106)
  rwa [World.size_alloc]at this
 have k2:W1.heap[w.heap.size+1+1]? =some (.cells (madeCells #[.int .i64 0] m.way.length).toList.toArray 3 (0,0)):=by
  rw[hW1]
  have:=heap_alloc_new ((w.alloc (.cells #[.string m.name,.string m.sec,.int .i64 m.loc,.slice A m.way.length c,.int .i64 m.left,.int .i64 m.heard] 106)).alloc (.cells #[.string ⟨#[]⟩,.string ⟨#[]⟩,.int .i64 0,.slice none 0 0,.int .i64 0,.int .i64 0] 106)) (.cells (madeCells #[.int .i64 0] m.way.length) 3)
  rw[World.size_alloc,World.size_alloc]at this
  simpa using this
 have HM1:=zh ((HM.out.belowB (w0:=w) hB1 (Nat.le_refl _)))
 obtain⟨cs,hcs⟩:∃cs,cs=m.way.map (Value.int .i64):=⟨_,rfl⟩
 have hcl:cs.length=m.way.length:=by rw[hcs];simp
 have HCL:=zh hcl
 have HCS:=zh hcs
 clear hcs hcl
 go_wp2_with (with_reducible refine wpList_copy_splice rfl (Operand.tmp 8) (Operand.tmp 10) 30 30 rfl 3 Tryz.underlying30 Tryz.sizeInt _ _ m.way.length m.way.length m.way.length c rfl rfl (w.heap.size+1+1) 0 (madeCells #[.int .i64 0] m.way.length).toList 3 (by rw[←hW1];exact k2) cs ?qn ?qp ?qf ?q1 (w.heap.size+1+1) W1 (by rw[←hW1];exact Below.refl _ _) (Nat.le_refl _) ?_)
 case qn=>rw[HCL.out];exact(Nat.min_self _).symm
 case qp=>
  intro hp
  have hne:m.way≠ []:=by intro h;have:=HCL.out;rw[h]at this;simp at this;rw[this]at hp;simp at hp
  obtain⟨b,off,rfl,hb,hc⟩:=HM1.out.way.at hne
  refine⟨_,rfl,fun j v hj=>?_⟩
  rw[HCS.out,List.getElem?_map]at hj
  obtain⟨x,hx,rfl⟩:=Option.map_eq_some_iff.1 hj
  obtain⟨hj',rfl⟩:=List.getElem?_eq_some_iff.1 hx
  rw[Addr.add_lit,←hW1]
  exact hc j hj'
 case qf=>rw[HCL.out];simp[size_madeCells]
 case q1=>intro u hu;rw[HCS.out]at hu;obtain⟨x,_,rfl⟩:=List.mem_map.1 hu;rfl
 intro w2 hcp hb2
 rw[←hW1]at hb2
 have j0:=(hb2.block w.heap.size (by omega)).trans k0
 have j1:=(hb2.block (w.heap.size+1) (by omega)).trans k1
 (obtain⟨c0,cf0,c1,cf1,c2,cf2,c3,cf3,c4,cf4,c5,cf5⟩:=cv6 j0)
 (obtain⟨d0,df0,d1,df1,d2,df2,d3,df3,d4,df4,d5,df5⟩:=cv6 j1)
 have HJ1:=zh j1
 have HJ0:=zh j0
 clear hW1 k0 k1 k2 j0 j1
 go_wp2_with fail
 have hb3:Below w.heap.size w (w2.setCell ⟨w.heap.size,3,none⟩ (.slice (some ⟨w.heap.size+1+1,0,none⟩) m.way.length m.way.length)):=(hB1.trans (hb2.mono (by omega))).setCell (p:=⟨w.heap.size,3,none⟩) (Nat.le_refl _) _
 refine bodyPost_ret (Tryz.res_mir rfl _ _ rfl (set6_block ((heap_setCell_other _ _ _ _ (by simp)).trans HJ1.out))) rfl ?_
 refine⟨some ⟨w.heap.size+1+1,0,none⟩,m.way.length,rfl,⟨fun hn=>⟨w.heap.size+1+1,0,rfl,?_,fun k hk j v hv=>?_⟩,Nat.le_refl _⟩,fun a ha=>by cases ha;show w.heap.size≤w.heap.size+1+1;omega,?_⟩
 ·have:=hb2.size
  simp
  omega
 ·rw[List.length_map]at hk
  simp only[List.getElem_map]at hv
  cases j with
  |succ j=>simp at hv
  |zero=>
   simp only[List.getElem?_cons_zero,Option.some.injEq]at hv
   subst hv
   have hblk:∀(W:World) (b o:Nat) (v:Value),b≠w.heap.size+1+1→(W.setCell ⟨b,o,none⟩ v).heap[w.heap.size+1+1]? =W.heap[w.heap.size+1+1]? :=fun W b o v h=>heap_setCell_other W _ _ _ (fun e=>h e.symm)
   rw[cell_of_row _ _ _ (splice (madeCells #[.int .i64 0] m.way.length).toList 0 cs).toArray 3 (0,0) (by
    rw[hblk _ _ _ _ (by omega),hblk _ _ _ _ (by omega),hblk _ _ _ _ (by omega),hblk _ _ _ _ (by omega),hblk _ _ _ _ (by omega),hblk _ _ _ _ (by omega),hblk _ _ _ _ (by omega)]
    exact hcp.out)]
   rw[HCS.out]
   simp[splice]
   rw[List.getElem?_append_left (by simpa using hk),List.getElem?_map,List.getElem?_eq_getElem hk]
   rfl
 ·exact Below.setCell (Below.setCell (Below.setCell (Below.setCell (Below.setCell (Below.setCell hb3 (p:=⟨w.heap.size+1,0,none⟩) (Nat.le_succ _) _) (p:=⟨w.heap.size+1,1,none⟩) (Nat.le_succ _) _) (p:=⟨w.heap.size+1,2,none⟩) (Nat.le_succ _) _) (p:=⟨w.heap.size+1,3,none⟩) (Nat.le_succ _) _) (p:=⟨w.heap.size+1,4,none⟩) (Nat.le_succ _) _) (p:=⟨w.heap.size+1,5,none⟩) (Nat.le_succ _) _
theorem enters_own1(args:Array Value)(w:World):(callFunc 167 args).run Tryz.prog w=.ok (.enter 167 args) w:=
 enters_of Tryz.func167 (by kernel_rfl) rfl args w
set_option maxRecDepth 100000 in
set_option maxHeartbeats 2000000 in
theorem own_c(tk ls:Int)(A:Option Addr)(c:Nat)(xs:List MA)(w:World)(hl:xs.length≤1000)(hw:∀x∈xs,x.m.way.length≤1000)(hf:FldR w w.heap.size A c xs):
 Calls Tryz.prog 116 #[(.agg #[.int .i64 tk,.int .i64 ls,.slice A xs.length c])] w fun e w'=>∃A' c' ys,e=.returned (.agg #[.int .i64 tk,.int .i64 ls,.slice A' ys.length c'])∧ys.map MA.m=xs.map MA.m∧OwnM w' w.heap.size A' c' ys∧(∀y∈ys,∀a,y.A=some a→w.heap.size≤a.block)∧Below w.heap.size w w':=by
 obtain⟨W0,hW0⟩:∃W0,W0=(w.alloc (.cells #[.int .i64 tk,.int .i64 ls,.slice A xs.length c] 72)).alloc (.cells #[.int .i64 0,.int .i64 0,.slice none 0 0] 72):=⟨_,rfl⟩
 have hB0:Below w.heap.size w W0:=by rw[hW0];exact zbl
 have hs0:W0.heap.size=w.heap.size+2:=by rw[hW0];simp
 have k0:W0.heap[w.heap.size]? =some (.cells #[.int .i64 tk,.int .i64 ls,.slice A xs.length c] 72 (0,0)):=by rw[hW0];exact(Below.heap_alloc _ _ _ (by simp)).trans (heap_alloc_new w _)
 have k1:W0.heap[w.heap.size+1]? =some (.cells #[.int .i64 0,.int .i64 0,.slice none 0 0] 72 (0,0)):=by
  rw[hW0]
  have:=heap_alloc_new (w.alloc (.cells #[.int .i64 tk,.int .i64 ls,.slice A xs.length c] 72)) (.cells #[.int .i64 0,.int .i64 0,.slice none 0 0] 72)
  rwa [World.size_alloc]at this
 have HF:=zh ((hf.belowB (w0:=w) hB0 (Nat.le_refl _)).more hB0.size)
 have e2:W0.cell? ⟨w.heap.size,2,none⟩=some (.slice A xs.length c):=by rw[cell_of_row W0 _ 2 _ _ _ k0];rfl
 have HMP:=zh (mappedM_c (fun _ A=>∀a,A=some a→W0.heap.size≤a.block) id 167 #[] #[] A c xs W0 hl enters_own1 HF.out (fun x hx W hW=>by
  refine(own1_c x.m x.A x.c W (hw x hx) (((HF.out.each x hx).belowB (w0:=W0) hW (Nat.le_refl _)).more hW.size)).mono ?_
  rintro e w' ⟨A',c',rfl,h1,h2,h3⟩
  exact⟨A',c',rfl,h1,fun _ a ha=>.inr (h2 a ha),fun a ha=>Nat.le_trans hW.size (h2 a ha),h3⟩))
 clear hf hw
 go_enter Tryz.func116,Tryz.ntmps116
 go_wp2_with (rw[←hW0];go_at_call 166;refine HMP.out.mono ?_;rintro e w1 ⟨A',c',ys,rfl,hys,hown,hsp,hb1⟩;(have HSP:=zh hsp);clear hsp;(have j0:=(hb1.block w.heap.size (by omega)).trans k0);(have j1:=(hb1.block (w.heap.size+1) (by omega)).trans k1);(obtain⟨c0,cf0,c1,cf1,c2,cf2⟩:=cv3 j0);(obtain⟨d0,df0,d1,df1,d2,df2⟩:=cv3 j1);(have HJ1:=zh j1);(have HJ0:=zh j0);(have HOW:=zh hown);(have HYS:=zh hys);clear j0 j1 k0 k1 e2 hown hys)
 refine bodyPost_ret (Tryz.res_fld rfl _ _ rfl (set3_block ((heap_setCell_other _ _ _ _ (by simp)).trans HJ1.out))) rfl ?_
 have hg:w1.grownBy (w1.setCell ⟨w.heap.size,2,none⟩ (.slice A' ys.length c')) (some w.heap.size):=grownBy_setCellO _ _ _ _
 refine⟨A',c',ys,rfl,by rw[HYS.out,List.map_id],?_,fun y hy a ha=>by have:=HSP.out y hy a ha;omega,?_⟩
 ·have hk:∀(W:World) (b o:Nat) (v:Value),b<W0.heap.size→OwnM W W0.heap.size A' c' ys→OwnM (W.setCell ⟨b,o,none⟩ v) W0.heap.size A' c' ys:=fun W b o v hb h=>
   h.kept (grownBy_setCellO _ _ _ _) (fun d hd e=>by
    cases hd
    have:=(World.ownsRow.lt h.row d.block rfl).1
    cases e;omega) (fun y hy hne a ha e=>by have:=HSP.out y hy a ha;cases e;omega)
  exact(hk _ _ _ _ (by omega) (hk _ _ _ _ (by omega) (hk _ _ _ _ (by omega) (hk _ _ _ _ (by omega) HOW.out)))).mono (by omega)
 ·exact Below.setCell (Below.setCell (Below.setCell (Below.setCell (hB0.trans (hb1.mono (by omega))) (p:=⟨w.heap.size,2,none⟩) (Nat.le_refl _) _) (p:=⟨w.heap.size+1,0,none⟩) (Nat.le_succ _) _) (p:=⟨w.heap.size+1,1,none⟩) (Nat.le_succ _) _) (p:=⟨w.heap.size+1,2,none⟩) (Nat.le_succ _) _
theorem OwnI.sl{w:World}{base:Nat}{v:Value}{xs:List Int}(h:OwnI w base v xs):∃A c,v=.slice A xs.length c∧xs.length≤c∧IntsR w w.heap.size A xs∧∀a,A=some a→base≤a.block∧a.block<w.heap.size:=by
 rcases h.2 with ⟨hv,hn⟩|⟨g,cap,cur,hv,hb,hg,hc,_⟩
 ·exact⟨none,0,by rw[hv,hn],by omega,fun hne=>absurd (List.eq_nil_of_length_eq_zero hn) (by intro e;rw[e]at hne;exact hne rfl),fun a ha=>by cases ha⟩
 ·subst hv
  have hlt:g<w.heap.size:=(Array.getElem?_eq_some_iff.1 hg).1
  refine⟨some ⟨g,0,none⟩,cap,rfl,hc,fun hne=>⟨g,0,rfl,hlt,fun k hk j v hj=>?_⟩,fun a ha=>by cases ha;exact⟨hb,hlt⟩⟩
  rw[List.length_map]at hk
  rw[List.getElem_map]at hj
  cases j with
  |succ j=>simp at hj
  |zero=>
   simp only[List.getElem?_cons_zero,Option.some.injEq]at hj
   subst hj
   have:=h.cells (g:=g) rfl k (.int .i64 xs[k]) (by simp[hk])
   rw[add0]at this
   simpa using this
theorem IntsR.setc{w:World}{B:Nat}{A:Option Addr}{l:List Int}(h:IntsR w B A l){p:Addr}(v:Value)(hne:∀a,A=some a→a.block≠p.block):IntsR (w.setCell p v) B A l:=fun hn=>by
 obtain⟨b,off,e,hb,hc⟩:=h hn
 exact⟨b,off,e,hb,fun k hk j u hj=>(World.cell?_setCell_other w p ⟨b,off+k*1+j,none⟩ v (fun e2=>hne _ e (by rw[e2]))).trans (hc k hk j u hj)⟩
theorem IntsR.box{w:World}{B rb c n:Nat}{A Ar:Option Addr}{l:List Int}{T:TypeId}{m:Int}(h:IntsR w B A l)(hr:w.heap[rb]? =some (.cells #[.slice none 0 0,.int .i64 0] T (0,0)))(hm:l.length=1→m=0):
 IntsR ((w.setCell ⟨rb,0,none⟩ (.slice Ar n c)).setCell ⟨rb,1,none⟩ (.int .i64 m)) B A l:=fun hn=>by
 obtain⟨b,off,e,hb,hc⟩:=h hn
 refine⟨b,off,e,hb,fun k hk j u hj=>?_⟩
 have h1:=hc k hk j u hj
 by_cases hbr:b=rb
 ·subst hbr
  rw[List.length_map]at hk
  rw[List.getElem_map]at hj
  cases j with
  |succ j=>simp at hj
  |zero=>
   simp only[List.getElem?_cons_zero,Option.some.injEq]at hj
   subst hj
   have h0:=hc 0 (by rw[List.length_map];omega) 0 (.int .i64 l[0]) (by rw[List.getElem_map];rfl)
   rw[cell_of_row w _ _ _ _ _ hr]at h0 h1
   have hoff:off=1:=by
    have h2:=(Array.getElem?_eq_some_iff.1 h0).1
    have h3:off≠0:=by intro e;subst e;simp at h0
    simp at h2
    omega
   subst hoff
   have hk0:k=0:=by
    have h2:=(Array.getElem?_eq_some_iff.1 h1).1
    simp at h2
    omega
   subst hk0
   have hl1:l.length=1:=by
    by_cases h2:1<l.length
    ·have h3:=hc 1 (by rw[List.length_map];omega) 0 (.int .i64 l[1]) (by rw[List.getElem_map];rfl)
     rw[cell_of_row w _ _ _ _ _ hr]at h3
     simp at h3
    ·omega
   have hv:l[0]=0:=by
    simpa using h0.symm
   rw[hm hl1,hv]
   rw[cell_of_row _ _ _ _ _ _ (heap_setCell_same _ b 1 _ T _ (heap_setCell_same w b 0 _ T _ hr))]
   rfl
 ·have e1:∀(W:World) (o:Nat) (v:Value),(W.setCell ⟨rb,o,none⟩ v).cell? ⟨b,off+k*1+j,none⟩=W.cell? ⟨b,off+k*1+j,none⟩:=fun W o v=>World.cell?_setCell_other W _ _ v (fun e2=>hbr (by cases e2;rfl))
  rw[e1,e1];exact h1
theorem IntsR.tl_{w:World}{B b off:Nat}{x:Int}{l:List Int}(h:IntsR w B (some ⟨b,off,none⟩) (x::l)):IntsR w B (some ⟨b,off+1,none⟩) l:=fun hn=>by
 obtain⟨b',off',e,hb,hc⟩:=h (by simp)
 cases e
 refine⟨b,off+1,rfl,hb,fun k hk j u hj=>?_⟩
 have:=hc (k+1) (by simpa using hk) j u (by simpa using hj)
 rw[show off+1+k*1+j=off+(k+1)*1+j by omega]
 exact this
theorem Wk.hd{g:Grd}{f b:Int}{r:Rt}(h:Wk g f b r):∃l,r.st=f::l:=by
 induction h with
 |nil=>exact⟨[],rfl⟩
 |snoc x _ _ ih=>obtain⟨l,hl⟩:=ih;exact⟨l++ [x.1.1],by simp[ext,hl]⟩
theorem Wk.one{g:Grd}{f b:Int}{r:Rt}(h:Wk g f b r)(hl:r.st.length=1):r.n=0:=by
 cases h with
 |nil=>rfl
 |snoc x h1 _=>
  obtain⟨l,hl2⟩:=Wk.hd h1
  simp[ext,hl2]at hl
theorem Below.set6{B:Nat}{a w:World}(h:Below B a w){b:Nat}(hb:B≤b)(v0 v1 v2 v3 v4 v5:Value):Below B a ((((((w.setCell ⟨b,0,none⟩ v0).setCell ⟨b,1,none⟩ v1).setCell ⟨b,2,none⟩ v2).setCell ⟨b,3,none⟩ v3).setCell ⟨b,4,none⟩ v4).setCell ⟨b,5,none⟩ v5):=
 Below.setCell (Below.setCell (Below.setCell (Below.setCell (Below.setCell (Below.setCell h (p:=⟨b,0,none⟩) hb _) (p:=⟨b,1,none⟩) hb _) (p:=⟨b,2,none⟩) hb _) (p:=⟨b,3,none⟩) hb _) (p:=⟨b,4,none⟩) hb _) (p:=⟨b,5,none⟩) hb _
theorem IntsR.set6{w:World}{B b:Nat}{A:Option Addr}{l:List Int}(h:IntsR w B A l)(hne:∀a,A=some a→a.block≠b)(v0 v1 v2 v3 v4 v5:Value):IntsR ((((((w.setCell ⟨b,0,none⟩ v0).setCell ⟨b,1,none⟩ v1).setCell ⟨b,2,none⟩ v2).setCell ⟨b,3,none⟩ v3).setCell ⟨b,4,none⟩ v4).setCell ⟨b,5,none⟩ v5) B A l:=
 IntsR.setc (IntsR.setc (IntsR.setc (IntsR.setc (IntsR.setc (IntsR.setc h _ hne) _ hne) _ hne) _ hne) _ hne) _ hne
theorem IntsR.set6n{w:World}{B b:Nat}{A:Option Addr}{l:List Int}(h:IntsR w B A l)(hne:l≠ []→∀a,A=some a→a.block≠b)(v0 v1 v2 v3 v4 v5:Value):IntsR ((((((w.setCell ⟨b,0,none⟩ v0).setCell ⟨b,1,none⟩ v1).setCell ⟨b,2,none⟩ v2).setCell ⟨b,3,none⟩ v3).setCell ⟨b,4,none⟩ v4).setCell ⟨b,5,none⟩ v5) B A l:=fun hn=>
 IntsR.set6 h (hne (by simpa using hn)) v0 v1 v2 v3 v4 v5 hn
set_option maxRecDepth 100000 in
set_option maxHeartbeats 2000000 in
theorem led_c(a:GA)(g:Grd)(m:Mir)(A:Option Addr)(c:Nat)(dst:Int)(w:World)(hok:okG g)(hu:Uniq g.mov)(ht:0≤turnM m∧turnM m<g.sta.length)(hr:GridR w w.heap.size a g)(hm:MirR w w.heap.size m A c):
 Calls Tryz.prog 165 #[(.agg #[.int .i64 g.blur,.slice a.pS g.sta.length a.cs,.slice a.pM g.mov.length a.cm,.slice a.pZ g.zon.length a.cz]),(.agg #[.string m.name,.string m.sec,.int .i64 m.loc,.slice A m.way.length c,.int .i64 m.left,.int .i64 m.heard]),.int .i64 dst] w fun e w'=>∃m' A' c',e=.returned (.tuple #[(.agg #[.string m'.name,.string m'.sec,.int .i64 m'.loc,.slice A' m'.way.length c',.int .i64 m'.left,.int .i64 m'.heard]),.bool (ledG g m dst).isSome])∧m'=(ledG g m dst).getD m∧MirR w' w'.heap.size m' A' c'∧(A'=A∧m'.way=m.way∨∀a,A'=some a→w.heap.size≤a.block)∧Below w.heap.size w w':=by
 have hns:=hok.ns
 obtain⟨W0,hW0⟩:∃W0,W0=((w.alloc (.cells #[.int .i64 g.blur,.slice a.pS g.sta.length a.cs,.slice a.pM g.mov.length a.cm,.slice a.pZ g.zon.length a.cz] 38)).alloc (.cells #[.string m.name,.string m.sec,.int .i64 m.loc,.slice A m.way.length c,.int .i64 m.left,.int .i64 m.heard] 106)).alloc (.cells #[.string ⟨#[]⟩,.string ⟨#[]⟩,.int .i64 0,.slice none 0 0,.int .i64 0,.int .i64 0] 106):=⟨_,rfl⟩
 have hsx:Sx w W0:=by rw[hW0];exact(((Sx.refl w).alloc _).alloc _).alloc _
 have HG:=zh (hr.sx (Nat.le_refl _) hsx)
 have HM:=zh (hm.sx (Nat.le_refl _) hsx)
 have hsz:W0.heap.size=w.heap.size+3:=by rw[hW0];simp
 have hB0:Below w.heap.size w W0:=by rw[hW0];exact zbl
 have kg:W0.heap[w.heap.size]? =some (.cells #[.int .i64 g.blur,.slice a.pS g.sta.length a.cs,.slice a.pM g.mov.length a.cm,.slice a.pZ g.zon.length a.cz] 38 (0,0)):=by rw[hW0];exact((Below.heap_alloc _ _ _ (by simp)).trans (Below.heap_alloc _ _ _ (by simp))).trans (heap_alloc_new w _)
 have k0:W0.heap[w.heap.size+1]? =some (.cells #[.string m.name,.string m.sec,.int .i64 m.loc,.slice A m.way.length c,.int .i64 m.left,.int .i64 m.heard] 106 (0,0)):=by
  rw[hW0];refine(Below.heap_alloc _ _ _ (by simp)).trans ?_
  have:=heap_alloc_new (w.alloc (.cells #[.int .i64 g.blur,.slice a.pS g.sta.length a.cs,.slice a.pM g.mov.length a.cm,.slice a.pZ g.zon.length a.cz] 38)) (.cells #[.string m.name,.string m.sec,.int .i64 m.loc,.slice A m.way.length c,.int .i64 m.left,.int .i64 m.heard] 106)
  rwa [World.size_alloc]at this
 have k1:W0.heap[w.heap.size+1+1]? =some (.cells #[.string ⟨#[]⟩,.string ⟨#[]⟩,.int .i64 0,.slice none 0 0,.int .i64 0,.int .i64 0] 106 (0,0)):=by
  rw[hW0]
  have:=heap_alloc_new ((w.alloc (.cells #[.int .i64 g.blur,.slice a.pS g.sta.length a.cs,.slice a.pM g.mov.length a.cm,.slice a.pZ g.zon.length a.cz] 38)).alloc (.cells #[.string m.name,.string m.sec,.int .i64 m.loc,.slice A m.way.length c,.int .i64 m.left,.int .i64 m.heard] 106)) (.cells #[.string ⟨#[]⟩,.string ⟨#[]⟩,.int .i64 0,.slice none 0 0,.int .i64 0,.int .i64 0] 106)
  rwa [World.size_alloc,World.size_alloc]at this
 have g0:W0.cell? ⟨w.heap.size,0,none⟩=some (.int .i64 g.blur):=by rw[cell_of_row W0 _ 0 _ _ _ kg];rfl
 have g1:W0.cell? ⟨w.heap.size,1,none⟩=some (.slice a.pS g.sta.length a.cs):=by rw[cell_of_row W0 _ 1 _ _ _ kg];rfl
 have g2:W0.cell? ⟨w.heap.size,2,none⟩=some (.slice a.pM g.mov.length a.cm):=by rw[cell_of_row W0 _ 2 _ _ _ kg];rfl
 have g3:W0.cell? ⟨w.heap.size,3,none⟩=some (.slice a.pZ g.zon.length a.cz):=by rw[cell_of_row W0 _ 3 _ _ _ kg];rfl
 (obtain⟨c0,cf0,c1,cf1,c2,cf2,c3,cf3,c4,cf4,c5,cf5⟩:=cv6 k0)
 have hbs0:w.heap.size<W0.heap.size:=by omega
 have hbs1:w.heap.size+1<W0.heap.size:=by omega
 have HSZ:=zh hsz
 have HK0:=zh k0
 have HK1:=zh k1
 have HKG:=zh kg
 have HM0:=zh hm
 have HG0:=zh hr
 clear hr hm hsx k0 k1 kg
 cases hlo:wayG g (turnM m) dst with
 |none=>
  have hld:=zh (show ledG g m dst=none by unfold ledG;rw[hlo])
  have HLO:=zh hlo
  clear hlo
  go_enter Tryz.func165,Tryz.ntmps165
  go_wp2_with fail
  rw[←hW0]
  clear hW0 hsz
  go_cut [8,9] (fun s8 s9 wx=>s9=.bool false∧Sh W0 wx∧Below W0.heap.size W0 wx)
  case first=>
   go_region_held3 (SHd W0) ((refine Sh.goal ?_;exact zsh)) (first|(go_at_call 125;refine(turn_c m A c _ (HM.out.sx (Nat.le_refl _) (Sh.sx (by exact zsh)))).mono ?_;rintro e w1 ⟨rfl,hb⟩;(obtain⟨hcc,hff⟩:=bcell hb;have hzz:=hb.size;(try simp at hzz);(try have z1:W0.heap.size+1<w1.heap.size:=by omega);(try have z2:W0.heap.size+2<w1.heap.size:=by omega);(try have z3:W0.heap.size+3<w1.heap.size:=by omega);(try have z4:W0.heap.size+4<w1.heap.size:=by omega);(try have z5:W0.heap.size+5<w1.heap.size:=by omega);(try have z0:W0.heap.size<w1.heap.size:=by omega);(try(have zy1:=Nat.lt_of_succ_le hzz;(try(have zy2:=Nat.lt_of_succ_lt zy1;(try have zy3:=Nat.lt_of_succ_lt zy2))))));(have hb1:=hb);clear hb)|(go_at_call 94;refine(routes_c a.pS a.pM a.pZ a.cs a.cm a.cz g (turnM m) _ hok hu ht.1 ht.2 (HG.out.sx (Nat.le_refl _) (Sh.sx (by exact zsh)))).mono ?_;rintro e w2 ⟨mp,rfl,hb,hm2,ht2⟩;(obtain⟨hcc,hff⟩:=bcell hb;have hzz:=hb.size;(try simp at hzz);(try have z1:W0.heap.size+1<w2.heap.size:=by omega);(try have z2:W0.heap.size+2<w2.heap.size:=by omega);(try have z3:W0.heap.size+3<w2.heap.size:=by omega);(try have z4:W0.heap.size+4<w2.heap.size:=by omega);(try have z5:W0.heap.size+5<w2.heap.size:=by omega);(try have z0:W0.heap.size<w2.heap.size:=by omega);(try(have zy1:=Nat.lt_of_succ_le hzz;(try(have zy2:=Nat.lt_of_succ_lt zy1;(try have zy3:=Nat.lt_of_succ_lt zy2))))));(have hb2:=hb);clear hb;(have HT:=zh ht2);clear ht2;(have hml:=HT.out.lt);(have hlk:=(Tryz.lookN HT.out HLO.out).1);(have hlk1:=hlk w2 rfl);(have hlk2:=hlk (w2.alloc (.cells #[.slice none 0 0,.int .i64 0] 168)) (Below.heap_alloc _ _ _ hml));clear hlk))
   all_goals
    go_wp2_with fail
    go_meet
    exact⟨rfl,by exact zsh,by exact zbl⟩
  case rest=>
   obtain⟨rfl,hsh,hbw⟩:=hcut
   have j0:=(hsh.2.2 (w.heap.size+1) hbs1).trans HK0.out
   have j1:=(hsh.2.2 (w.heap.size+1+1) (by have:=HSZ.out;omega)).trans HK1.out
   (obtain⟨e0,ef0,e1,ef1,e2,ef2,e3,ef3,e4,ef4,e5,ef5⟩:=cv6 j0)
   (obtain⟨d0,df0,d1,df1,d2,df2,d3,df3,d4,df4,d5,df5⟩:=cv6 j1)
   have HJ1:=zh j1
   clear j0 j1 c0 c1 c2 c3 c4 c5 cf0 cf1 cf2 cf3 cf4 cf5
   go_wp2_with fail
   refine bodyPost_ret (Tryz.res_mir2 rfl _ _ rfl (set6_block HJ1.out)) rfl ?_
   refine⟨m,A,c,by rw[hld.out];rfl,by rw[hld.out];rfl,?_,.inl ⟨rfl,rfl⟩,?_⟩
   ·have hfin:=Below.set6 (b:=w.heap.size+1+1) (hB0.trans (hbw.mono (by omega))) (by omega) (.string m.name) (.string m.sec) (.int .i64 m.loc) (.slice A m.way.length c) (.int .i64 m.left) (.int .i64 m.heard)
    exact(HM0.out.belowB (w0:=w) hfin (Nat.le_refl _)).more hfin.size
   ·exact Below.set6 (hB0.trans (hbw.mono (by omega))) (by omega) _ _ _ _ _ _
 |some r=>
  have hwk:=((wayG_some hok hu ht).1 hlo).1
  have hone:=zh (fun h=>hwk.one h)
  obtain⟨tl,htl⟩:=hwk.hd
  have hsm:=wayG_small hok hu ht hlo
  have HLO:=zh hlo
  have HTL:=zh htl
  clear hlo hwk htl
  go_enter Tryz.func165,Tryz.ntmps165
  go_wp2_with fail
  rw[←hW0]
  clear hW0 hsz
  go_cut [8,9] (fun s8 s9 wx=>∃(rb:Nat) (Ar:Option Addr) (cr:Nat),s8=.pointer (some ⟨rb,0,none⟩)∧s9=.bool true∧W0.heap.size≤rb∧rb<wx.heap.size∧wx.cell? ⟨rb,0,none⟩=some (.slice Ar r.st.length cr)∧r.st.length≤cr∧IntsR wx wx.heap.size Ar r.st∧Sh W0 wx∧Below W0.heap.size W0 wx)
  case first=>
   go_region_held3 (SHd W0) ((refine Sh.goal ?_;exact zsh)) (first|(go_at_call 125;refine(turn_c m A c _ (HM.out.sx (Nat.le_refl _) (Sh.sx (by exact zsh)))).mono ?_;rintro e w1 ⟨rfl,hb⟩;(obtain⟨hcc,hff⟩:=bcell hb;have hzz:=hb.size;(try simp at hzz);(try have z1:W0.heap.size+1<w1.heap.size:=by omega);(try have z2:W0.heap.size+2<w1.heap.size:=by omega);(try have z3:W0.heap.size+3<w1.heap.size:=by omega);(try have z4:W0.heap.size+4<w1.heap.size:=by omega);(try have z5:W0.heap.size+5<w1.heap.size:=by omega);(try have z0:W0.heap.size<w1.heap.size:=by omega);(try(have zy1:=Nat.lt_of_succ_le hzz;(try(have zy2:=Nat.lt_of_succ_lt zy1;(try have zy3:=Nat.lt_of_succ_lt zy2))))));(have hb1:=hb);clear hb)|(go_at_call 94;refine(routes_c a.pS a.pM a.pZ a.cs a.cm a.cz g (turnM m) _ hok hu ht.1 ht.2 (HG.out.sx (Nat.le_refl _) (Sh.sx (by exact zsh)))).mono ?_;rintro e w2 ⟨mp,rfl,hb,hm2,ht2⟩;(obtain⟨hcc,hff⟩:=bcell hb;have hzz:=hb.size;(try simp at hzz);(try have z1:W0.heap.size+1<w2.heap.size:=by omega);(try have z2:W0.heap.size+2<w2.heap.size:=by omega);(try have z3:W0.heap.size+3<w2.heap.size:=by omega);(try have z4:W0.heap.size+4<w2.heap.size:=by omega);(try have z5:W0.heap.size+5<w2.heap.size:=by omega);(try have z0:W0.heap.size<w2.heap.size:=by omega);(try(have zy1:=Nat.lt_of_succ_le hzz;(try(have zy2:=Nat.lt_of_succ_lt zy1;(try have zy3:=Nat.lt_of_succ_lt zy2))))));(have hb2:=hb);clear hb;(have HT:=zh ht2);clear ht2;(have hml:=HT.out.lt);(obtain⟨Ar,cr,hcr,hir,hlk,_⟩:=Tryz.lookS HT.out HLO.out);(have HIR:=zh hir);clear hir;(have hlk1:=hlk w2 rfl);(have hlk2:=hlk (w2.alloc (.cells #[.slice none 0 0,.int .i64 0] 168)) (Below.heap_alloc _ _ _ hml));clear hlk))
   all_goals
    go_wp2_with fail
    go_meet
   all_goals first
    |exact⟨w2.heap.size,Ar,cr,rfl,rfl,by omega,by simp,by simp[cells_new],hcr,Rw.more (Rw.belowB (w0:=w2) HIR.out (by exact zbl) (Nat.le_refl _)) (by simp),by exact zsh,by exact zbl⟩
    |(have hblk:w2.heap[w1.heap.size]? =some (.cells #[.slice none 0 0,.int .i64 0] 168 (0,0)):=(hb2.block w1.heap.size (by simp)).trans (heap_alloc_new _ _)
      exact⟨w1.heap.size,Ar,cr,rfl,rfl,by omega,by simp;omega,(by rw[cell_of_row _ _ 0 _ _ _ (heap_setCell_same _ _ 1 _ _ _ (heap_setCell_same w2 _ 0 _ _ _ hblk))];rfl),hcr,Rw.more (IntsR.box HIR.out hblk hone.out) (by simp),by exact zsh,by exact zbl⟩)
    |(have hblk:w2.heap[W0.heap.size]? =some (.cells #[.slice none 0 0,.int .i64 0] 168 (0,0)):=(hb2.block W0.heap.size (by first|assumption|omega)).trans ((hb1.block W0.heap.size (by simp)).trans (heap_alloc_new _ _))
      exact⟨W0.heap.size,Ar,cr,rfl,rfl,by omega,by simp;omega,(by rw[cell_of_row _ _ 0 _ _ _ (heap_setCell_same _ _ 1 _ _ _ (heap_setCell_same w2 _ 0 _ _ _ hblk))];rfl),hcr,Rw.more (IntsR.box HIR.out hblk hone.out) (by simp),by exact zsh,by exact zbl⟩)
  case rest=>
   obtain⟨rb,Ar,cr,rfl,rfl,hrb,hrl,hrc,hcr,hI,hsh,hbw⟩:=hcut
   have HI:=zh hI
   clear hI
   have j0:=(hsh.2.2 (w.heap.size+1) hbs1).trans HK0.out
   have j1:=(hsh.2.2 (w.heap.size+1+1) (by have:=HSZ.out;omega)).trans HK1.out
   (obtain⟨e0,ef0,e1,ef1,e2,ef2,e3,ef3,e4,ef4,e5,ef5⟩:=cv6 j0)
   by_cases hw:m.way= []
   ·have hwl:m.way.length=0:=by rw[hw];rfl
    have hld:=zh (show ledG g m dst=some {m with way:=tl,left:=if tl= []then 0 else lnk g m.loc (tl.headD 0)} by unfold ledG;rw[HLO.out];simp only;rw[if_neg (fun h=>h hw),HTL.out];rfl)
    have hln:r.st.length=tl.length+1:=by rw[HTL.out];rfl
    rw[hln]at hrc hcr
    clear c0 c1 c2 c3 c4 c5 cf0 cf1 cf2 cf3 cf4 cf5
    have hts:tl.length≤16:=by omega
    have HLN:=zh hln
    have HJ0:=zh j0
    have HJ1:=zh j1
    clear j0 j1 hln hw hsm
    have jx:(1:Int)≤(tl.length:Int)+1:=by omega
    obtain⟨b,off,rfl,hbl,_⟩:=HI.out.at (by rw[HTL.out];simp)
    have hi0:=HI.out
    rw[HTL.out]at hi0
    have HT1:=zh hi0.tl_
    clear hi0 HI
    cases htl:tl with
    |nil=>
     subst htl
     simp only[List.length_nil]at hrc hcr jx
     by_cases hc1:cr=1
     ·subst hc1
      go_wp2_with (go_at_call 158;refine(clone_c 0 (some ⟨b,off,none⟩) 0 [] _ (by simp) (fun h=>absurd rfl h)).mono ?_;rintro e w3 ⟨v',rfl,hown,hb3⟩;(obtain⟨A3,c3,rfl,hc3,hi3,hf3⟩:=hown.sl);(have HI3:=zh hi3);(have HF3:=zh hf3);clear hi3 hf3 hown;(have j0:=(hb3.block (w.heap.size+1) (Nat.lt_of_lt_of_le hbs1 hsh.1)).trans HJ0.out);(have j1:=(hb3.block (w.heap.size+1+1) (by have:=HSZ.out;have:=hsh.1;omega)).trans HJ1.out);(obtain⟨q0,qf0,q1,qf1,q2,qf2,q3,qf3,q4,qf4,q5,qf5⟩:=cv6 j0);(obtain⟨d0,df0,d1,df1,d2,df2,d3,df3,d4,df4,d5,df5⟩:=cv6 j1);(have HM3:=zh j0);(have HK3:=zh j1);clear j0 j1 HJ0 HJ1)
      refine bodyPost_ret (Tryz.res_mir2 rfl _ _ rfl (set6_block ((heap_setCell_other _ _ _ _ (by simp)).trans ((heap_setCell_other _ _ _ _ (by simp)).trans HK3.out)))) rfl ?_
      refine⟨{m with way:= [],left:=0},A3,c3,by rw[hld.out];rfl,by rw[hld.out];rfl,⟨fun h=>absurd rfl h,by simp⟩,.inr fun a ha=>?_,?_⟩
      ·have:=(HF3.out a ha).1
       have hws:=hsh.1
       have hsz:=HSZ.out
       omega
      ·exact Below.set6 (Below.setCell (Below.setCell (hB0.trans ((hbw.trans (hb3.mono hsh.1)).mono (by omega))) (p:=⟨w.heap.size+1,3,none⟩) (by simp) _) (p:=⟨w.heap.size+1,4,none⟩) (by simp) _) (by omega) _ _ _ _ _ _
     ·have hc2:¬(cr-1=0):=by omega
      go_wp2_with (go_at_call 158;refine(clone_c 0 (some ⟨b,off+1,none⟩) (cr-1) [] _ (by simp) (fun h=>absurd rfl h)).mono ?_;rintro e w3 ⟨v',rfl,hown,hb3⟩;(obtain⟨A3,c3,rfl,hc3,hi3,hf3⟩:=hown.sl);(have HI3:=zh hi3);(have HF3:=zh hf3);clear hi3 hf3 hown;(have j0:=(hb3.block (w.heap.size+1) (Nat.lt_of_lt_of_le hbs1 hsh.1)).trans HJ0.out);(have j1:=(hb3.block (w.heap.size+1+1) (by have:=HSZ.out;have:=hsh.1;omega)).trans HJ1.out);(obtain⟨q0,qf0,q1,qf1,q2,qf2,q3,qf3,q4,qf4,q5,qf5⟩:=cv6 j0);(obtain⟨d0,df0,d1,df1,d2,df2,d3,df3,d4,df4,d5,df5⟩:=cv6 j1);(have HM3:=zh j0);(have HK3:=zh j1);clear j0 j1 HJ0 HJ1)
      refine bodyPost_ret (Tryz.res_mir2 rfl _ _ rfl (set6_block ((heap_setCell_other _ _ _ _ (by simp)).trans ((heap_setCell_other _ _ _ _ (by simp)).trans HK3.out)))) rfl ?_
      refine⟨{m with way:= [],left:=0},A3,c3,by rw[hld.out];rfl,by rw[hld.out];rfl,⟨fun h=>absurd rfl h,by simp⟩,.inr fun a ha=>?_,?_⟩
      ·have:=(HF3.out a ha).1
       have hws:=hsh.1
       have hsz:=HSZ.out
       omega
      ·exact Below.set6 (Below.setCell (Below.setCell (hB0.trans ((hbw.trans (hb3.mono hsh.1)).mono (by omega))) (p:=⟨w.heap.size+1,3,none⟩) (by simp) _) (p:=⟨w.heap.size+1,4,none⟩) (by simp) _) (by omega) _ _ _ _ _ _
    |cons v tl2=>
     subst htl
     have hc2:¬(cr-1=0):=by simp at hcr;omega
     have hmt:turnM m=m.loc:=by unfold turnM;rw[List.length_eq_zero_iff.1 hwl];rfl
     rw[hmt]at ht
     go_wp2_with (go_at_call 158;refine(clone_c wc.heap.size (some ⟨b,off+1,none⟩) (cr-1) (v::tl2) _ (by omega) HT1.out).mono ?_;rintro e w3 ⟨v',rfl,hown,hb3⟩;(obtain⟨A3,c3,rfl,hc3,hi3,hf3⟩:=hown.sl);(have HI3:=zh hi3);(have HF3:=zh hf3);clear hi3 hf3 hown;(have j0:=(hb3.block (w.heap.size+1) (Nat.lt_of_lt_of_le hbs1 hsh.1)).trans HJ0.out);(have j1:=(hb3.block (w.heap.size+1+1) (by have:=HSZ.out;have:=hsh.1;omega)).trans HJ1.out);(obtain⟨q0,qf0,q1,qf1,q2,qf2,q3,qf3,q4,qf4,q5,qf5⟩:=cv6 j0);(obtain⟨d0,df0,d1,df1,d2,df2,d3,df3,d4,df4,d5,df5⟩:=cv6 j1);(have HM3:=zh j0);(have HK3:=zh j1);clear j0 j1 HJ0 HJ1;(have jg:=(hb3.block w.heap.size (Nat.lt_of_lt_of_le hbs0 hsh.1)).trans ((hsh.2.2 w.heap.size hbs0).trans HKG.out));(obtain⟨g0,g1,g2,g3⟩:=cg4 jg);(have HGB:=zh jg);clear jg;(have hbw3:Below w.heap.size w w3:=hB0.trans ((hbw.trans (hb3.mono hsh.1)).mono (by omega)));(obtain⟨b3,off3,rfl,hbl3,hx3⟩:=HI3.out.at (by simp));(have x0:w3.cell? ⟨b3,off3,none⟩=some (.int .i64 v):=hx3 0 (by simp));clear hx3;(have hn3:¬(b3=w.heap.size+1):=by have:=(HF3.out _ rfl).1;have:=hsh.1;have:=HSZ.out;simp at *;omega);(have hn4:¬(w.heap.size+1=b3):=fun e=>hn3 e.symm))
     obtain⟨W5,hW5⟩:∃W5,W5=(w3.setCell ⟨w.heap.size+1,3,none⟩ (.slice (some ⟨b3,off3,none⟩) (tl2.length+1) c3)).setCell ⟨w.heap.size+1,4,none⟩ (.int .i64 0):=⟨_,rfl⟩
     rw[←hW5]
     have hz5:W5.heap.size=w3.heap.size:=by rw[hW5];simp
     have hb5:Below w.heap.size w W5:=by rw[hW5];exact Below.setCell (Below.setCell hbw3 (p:=⟨w.heap.size+1,3,none⟩) (by simp) _) (p:=⟨w.heap.size+1,4,none⟩) (by simp) _
     have y0:W5.heap[w.heap.size+1]? =some (.cells #[.string m.name,.string m.sec,.int .i64 m.loc,.slice (some ⟨b3,off3,none⟩) (tl2.length+1) c3,.int .i64 0,.int .i64 m.heard] 106 (0,0)):=by rw[hW5];exact heap_setCell_same _ _ 4 _ _ _ (heap_setCell_same w3 _ 3 _ _ _ HM3.out)
     have y1:W5.heap[w.heap.size+1+1]? =some (.cells #[.string ⟨#[]⟩,.string ⟨#[]⟩,.int .i64 0,.slice none 0 0,.int .i64 0,.int .i64 0] 106 (0,0)):=by rw[hW5];exact(heap_setCell_other _ _ _ _ (by simp)).trans ((heap_setCell_other _ _ _ _ (by simp)).trans HK3.out)
     have yg:W5.heap[w.heap.size]? =some (.cells #[.int .i64 g.blur,.slice a.pS g.sta.length a.cs,.slice a.pM g.mov.length a.cm,.slice a.pZ g.zon.length a.cz] 38 (0,0)):=by rw[hW5];exact(heap_setCell_other _ _ _ _ (by simp)).trans ((heap_setCell_other _ _ _ _ (by simp)).trans HGB.out)
     have HI5:=zh (show IntsR W5 w3.heap.size (some ⟨b3,off3,none⟩) (v::tl2) by rw[hW5];exact IntsR.setc (IntsR.setc HI3.out _ (fun a ha e=>by cases ha;exact hn3 e)) _ (fun a ha e=>by cases ha;exact hn3 e))
     have z0:W5.cell? ⟨b3,off3,none⟩=some (.int .i64 v):=by
      have:=HI5.out.at (by simp)
      obtain⟨b',off',e,_,h0⟩:=this
      cases e
      exact h0 0 (by simp)
     have HW5:=zh hW5
     clear hW5 q0 q1 q2 q3 q4 q5 qf0 qf1 qf2 qf3 qf4 qf5 d0 d1 d2 d3 d4 d5 df0 df1 df2 df3 df4 df5 g0 g1 g2 g3 x0 hrc
     (obtain⟨q0,qf0,q1,qf1,q2,qf2,q3,qf3,q4,qf4,q5,qf5⟩:=cv6 y0)
     (obtain⟨g0,g1,g2,g3⟩:=cg4 yg)
     have hl0:w.heap.size+1<W5.heap.size:=by have:=hb3.size;have:=hsh.1;omega
     have hl1:w.heap.size+1+1<W5.heap.size:=by have:=hb3.size;have:=hsh.1;have:=HSZ.out;omega
     have hlg:w.heap.size<W5.heap.size:=by omega
     have hlx:b3<W5.heap.size:=by have:=(HF3.out _ rfl).2;simp at this;omega
     have HY0:=zh y0
     have HY1:=zh y1
     have HYG:=zh yg
     clear y0 y1 yg
     go_region_held3 (fun W=>W.cell? ⟨w.heap.size,0,none⟩=some (.int .i64 g.blur)∧W.cell? ⟨w.heap.size,1,none⟩=some (.slice a.pS g.sta.length a.cs)∧W.cell? ⟨w.heap.size,2,none⟩=some (.slice a.pM g.mov.length a.cm)∧W.cell? ⟨w.heap.size,3,none⟩=some (.slice a.pZ g.zon.length a.cz)∧W.cell? ⟨w.heap.size+1,2,none⟩=some (.int .i64 m.loc)∧W.cell? ⟨w.heap.size+1,3,none⟩=some (.slice (some ⟨b3,off3,none⟩) (tl2.length+1) c3)∧W.cell? ⟨b3,off3,none⟩=some (.int .i64 v)) (refine⟨?_,?_,?_,?_,?_,?_,?_⟩<;>first|assumption|(refine(World.cell?_setCell_other _ _ _ _ (by simp;done)).trans ?_;assumption)|(refine(World.cell?_setCell_other _ _ _ _ (by simp;omega)).trans ?_;assumption)) (first|(go_at_call 109;refine(joined_c a.pS a.pM a.pZ a.cs a.cm a.cz g m.loc v _ hok ht.1 ht.2 ((HG0.out.belowB (w0:=w) (by exact zbl) (Nat.le_refl _)).more (Bl.lt (by exact zbl)))).mono ?_;rintro e w4 ⟨rfl,hb4⟩;(have j0:=(hb4.block (w.heap.size+1) hl0).trans HY0.out);(have j1:=(hb4.block (w.heap.size+1+1) hl1).trans HY1.out);(obtain⟨r0,rf0,r1,rf1,r2,rf2,r3,rf3,r4,rf4,r5,rf5⟩:=cv6 j0);(obtain⟨d0,df0,d1,df1,d2,df2,d3,df3,d4,df4,d5,df5⟩:=cv6 j1);(have HK4:=zh j1);(have jg4:=(hb4.block w.heap.size hlg).trans HYG.out);(obtain⟨h0,h1,h2,h3⟩:=cg4 jg4);(have x4:=(hb4.cell (p:=⟨b3,off3,none⟩) hlx).trans z0);(have HM4:=zh j0);clear j0 j1 jg4))
     go_wp2_with fail
     refine bodyPost_ret (Tryz.res_mir2 rfl _ _ rfl (set6_block ((heap_setCell_other _ _ _ _ (by simp)).trans HK4.out))) rfl ?_
     have hb4':Below W5.heap.size W5 w4:=⟨hb4.os,hb4.tape,hb4.output,hb4.size,hb4.block⟩
     refine⟨{m with way:=v::tl2,left:=lnk g m.loc v},some ⟨b3,off3,none⟩,c3,by rw[hld.out];rfl,by rw[hld.out];rfl,?_,.inr fun a ha=>?_,?_⟩
     ·have hn5:∀a,some (⟨b3,off3,none⟩:Addr)=some a→a.block≠w.heap.size+1+1:=fun a ha e=>by
       have h1:=(HF3.out a ha).1
       have h2:=hsh.1
       have h3:=HSZ.out
       omega
      have hi4:IntsR w4 W5.heap.size (some ⟨b3,off3,none⟩) (v::tl2):=Rw.belowB (w0:=W5) (Rw.more HI5.out (by omega)) hb4' (Nat.le_refl _)
      exact⟨Rw.more (IntsR.set6 (IntsR.setc hi4 _ fun a ha e=>by cases ha;exact hn3 e) hn5 _ _ _ _ _ _) (by have:=hb4.size;simp at this ⊢;omega),hc3⟩
     ·have h1:=(HF3.out a ha).1
      have h2:=hsh.1
      have h3:=HSZ.out
      omega
     ·exact Below.set6 (Below.setCell (hb5.trans (hb4'.mono (Nat.le_of_lt hlg))) (p:=⟨w.heap.size+1,4,none⟩) (by simp) _) (by omega) _ _ _ _ _ _
   ·have hwl:0<m.way.length:=by cases hq:m.way with|nil=>exact absurd hq hw|cons x l=>simp
    have hld:=zh (show ledG g m dst=some {m with way:=r.st} by unfold ledG;rw[HLO.out];simp only;rw[if_pos hw])
    clear hw
    clear c0 c1 c2 c3 c4 c5 cf0 cf1 cf2 cf3 cf4 cf5
    have HJ0:=zh j0
    have HJ1:=zh j1
    clear j0 j1
    go_wp2_with (go_at_call 158;refine(clone_c _ Ar cr r.st _ (by omega) HI.out).mono ?_;rintro e w3 ⟨v',rfl,hown,hb3⟩;(obtain⟨A3,c3,rfl,hc3,hi3,hf3⟩:=hown.sl);(have HI3:=zh hi3);(have HF3:=zh hf3);clear hi3 hf3 hown;(have j0:=(hb3.block (w.heap.size+1) (Nat.lt_of_lt_of_le hbs1 hsh.1)).trans HJ0.out);(have j1:=(hb3.block (w.heap.size+1+1) (by have:=HSZ.out;have:=hsh.1;omega)).trans HJ1.out);(obtain⟨q0,qf0,q1,qf1,q2,qf2,q3,qf3,q4,qf4,q5,qf5⟩:=cv6 j0);(obtain⟨d0,df0,d1,df1,d2,df2,d3,df3,d4,df4,d5,df5⟩:=cv6 j1);(have HK3:=zh j1);clear j0 j1 HJ0 HJ1)
    refine bodyPost_ret (Tryz.res_mir2 rfl _ _ rfl (set6_block ((heap_setCell_other _ _ _ _ (by simp)).trans HK3.out))) rfl ?_
    refine⟨{m with way:=r.st},A3,c3,by rw[hld.out];rfl,by rw[hld.out];rfl,?_,.inr fun a ha=>?_,?_⟩
    ·have hws:=hsh.1
     have hsz:=HSZ.out
     exact⟨Rw.more (IntsR.set6 (IntsR.setc HI3.out _ fun a ha e=>by have:=(HF3.out a ha).1;simp at e;omega) (fun a ha e=>by have:=(HF3.out a ha).1;omega) _ _ _ _ _ _) (by simp),hc3⟩
    ·have:=(HF3.out a ha).1
     have hws:=hsh.1
     have hsz:=HSZ.out
     omega
    ·exact Below.set6 (Below.setCell (hB0.trans ((hbw.trans (hb3.mono hsh.1)).mono (by omega))) (p:=⟨w.heap.size+1,3,none⟩) (by simp) _) (by omega) _ _ _ _ _ _
end Go.Proofs.YtehnikhicnnnhaaGreatDoor
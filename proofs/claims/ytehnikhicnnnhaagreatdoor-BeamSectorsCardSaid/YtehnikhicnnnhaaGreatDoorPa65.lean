/- Joined and Taken in plain words. | One mirror more on a list that a call made; one mirror less. | Joined: a mirror more. -/
import Derived.Test.YtehnikhicnnnhaaGreatDoorPa22
import Derived.Test.YtehnikhicnnnhaaGreatDoorPa46
namespace Go.Proofs.YtehnikhicnnnhaaGreatDoor
def joE0(g:Grd)(f:Fld)(m:Mir):Int:=firstErr [fieldC g f,whn ((f.mir.length:Int)==16) 5,whn (!hasB g m.loc) 10]
def addM(f:Fld)(m:Mir):Fld:= {f with mir:=f.mir++ [m]}
def joE(g:Grd)(f:Fld)(m:Mir):Int:=if joE0 g f m=0 then(if standsG g m then fieldC g (addM f m)else 22)else joE0 g f m
def joF(g:Grd)(f:Fld)(m:Mir):Fld:=if joE g f m=0 then addM f m else fld0
def takE(g:Grd)(f:Fld)(n:ByteArray):Int:=if fieldC g f=0 then(if findG f n<0 then 10 else if standsG g (f.mir.getD (findG f n).toNat default)then 0 else 22)else fieldC g f
def delM(f:Fld)(i:Nat):Fld:= {f with mir:=f.mir.eraseIdx i}
def takF(g:Grd)(f:Fld)(n:ByteArray):Fld:=if takE g f n=0 then delM f (findG f n).toNat else fld0
theorem add_of(tk ls:Int)(xs ys:List MA)(x:MA)(h:ys.map MA.m=xs.map MA.m):fldOf tk ls (ys++ [x])=addM (fldOf tk ls xs) x.m:=by
 unfold fldOf addM;simp[h]
theorem del_of(tk ls:Int)(xs ys:List MA)(i:Nat)(h:ys.map MA.m=xs.map MA.m):fldOf tk ls (ys.eraseIdx i)=delM (fldOf tk ls xs) i:=by
 unfold fldOf delM;simp only;rw[←h,List.eraseIdx_eq_take_drop_succ,List.eraseIdx_eq_take_drop_succ,List.map_append,List.map_take,List.map_drop]
end Go.Proofs.YtehnikhicnnnhaaGreatDoor
namespace Go.Proofs.YtehnikhicnnnhaaGreatDoor
open Go.RowKit
theorem OwnT.push{T:TypeId}{w w':World}{base c g1 cap1:Nat}{A:Option Addr}{ys:List MA}{x:MA}(h:OwnT T w base A c ys)(hx:MirR w w.heap.size x.m x.A x.c)
 (hxa:x.m.way≠ []→∀a,x.A=some a→∀d,A=some d→a.block≠d.block)
 (hown:w'.ownsRow base T 6 (.slice (some ⟨g1,0,none⟩) (ys.length+1) cap1) (ys.length+1) ((ys.map encMA).flatten++encMA x))
 (hg:w.grownBy w' (Value.slice A ys.length c).ownBlock) (hat:(Value.slice A ys.length c).ownBlock=some g1∨g1=w.heap.size):
 OwnT T w' base (some ⟨g1,0,none⟩) cap1 (ys++ [x]):=by
 have key:∀z∈ys++ [x],MirR w w.heap.size z.m z.A z.c∧(z.m.way≠ []→∀a,z.A=some a→∀d,A=some d→a.block≠d.block):=fun z hz=>by
  rcases List.mem_append.1 hz with hz|hz
  ·exact⟨h.each z hz,h.apart z hz⟩
  ·simp only[List.mem_singleton]at hz;subst hz;exact⟨hx,hxa⟩
 refine⟨by simpa using hown,fun z hz=>?_,fun z hz hne a ha d hd=>?_⟩
 ·obtain⟨k1,k2⟩:=key z hz
  refine⟨fun hn=>?_,k1.cap⟩
  obtain⟨b',off',e,hb',hc'⟩:=k1.way hn
  have hs:=hg.size
  refine⟨b',off',e,by omega,fun i hi j v hv=>hg.cell (hc' i hi j v hv) ?_⟩
  intro e2
  cases A with
  |none=>cases e2
  |some d=>exact k2 (fun h=>hn (by rw[h];rfl)) _ e d rfl (by simpa [Value.ownBlock]using e2)
 ·obtain⟨k1,k2⟩:=key z hz
  cases hd
  show a.block≠g1
  rcases hat with h1|h1
  ·cases A with
   |none=>cases h1
   |some d'=>
    have h2:d'.block=g1:=by simpa [Value.ownBlock]using h1
    rw[←h2]
    exact k2 hne a ha d' rfl
  ·obtain⟨b',off',e,hb',_⟩:=k1.way.at hne
   rw[ha]at e
   cases e
   show b'≠g1
   omega
theorem encMA_cells(w:World)(x:MA)(T:TypeId):∀j u,(encMA x)[j]? =some u→(w.alloc (.cells #[.string x.m.name,.string x.m.sec,.int .i64 x.m.loc,.slice x.A x.m.way.length x.c,.int .i64 x.m.left,.int .i64 x.m.heard] T)).cell? ((⟨w.heap.size,0,none⟩:Addr).add j)=some u:=by
 intro j u hj
 rw[add0,cells_new _ _ rfl]
 match j,hj with
 |0,hj=>simpa [encMA]using hj
 |1,hj=>simpa [encMA]using hj
 |2,hj=>simpa [encMA]using hj
 |3,hj=>simpa [encMA]using hj
 |4,hj=>simpa [encMA]using hj
 |5,hj=>simpa [encMA]using hj
 |j+6,hj=>simp[encMA]at hj
theorem encMA_one(x:MA):∀u∈encMA x,u.oneCell'=true:=by
 intro u hu;simp[encMA]at hu;rcases hu with rfl|rfl|rfl|rfl|rfl|rfl<;>rfl
theorem joE0_has{g:Grd}{f:Fld}{m:Mir}(h:joE0 g f m=0):fieldC g f=0∧0≤m.loc∧m.loc<g.sta.length:=by
 have h1:=firstErr_zero h (fieldC g f) (by simp)
 have h2:=firstErr_zero h (whn (!hasB g m.loc) 10) (by simp)
 refine⟨h1,?_⟩
 cases hh:hasB g m.loc
 ·rw[hh]at h2;cases h2
 ·unfold hasB at hh;simpa using hh
set_option maxRecDepth 100000 in
set_option maxHeartbeats 8000000 in
theorem Joined_c(a:GA)(g:Grd)(tk ls:Int)(A:Option Addr)(c:Nat)(xs:List MA)(m:Mir)(mA:Option Addr)(mc:Nat)(w:World)(hs:SmallG g)(hsf:SmallF xs)(hsm:m.name.size≤100000∧m.sec.size≤100000∧m.way.length≤1000)(hr:GridR w w.heap.size a g)(hkd:KindsAt w)(hf:FldR w w.heap.size A c xs)(hm:MirR w w.heap.size m mA mc):
 Calls Tryz.prog 78 #[(.agg #[.int .i64 g.blur,.slice a.pS g.sta.length a.cs,.slice a.pM g.mov.length a.cm,.slice a.pZ g.zon.length a.cz]),(.agg #[.int .i64 tk,.int .i64 ls,.slice A xs.length c]),(.agg #[.string m.name,.string m.sec,.int .i64 m.loc,.slice mA m.way.length mc,.int .i64 m.left,.int .i64 m.heard])] w fun e w'=>RetF (joF g (fldOf tk ls xs) m) (joE g (fldOf tk ls xs) m) w e w':=by
 obtain⟨i0,hi,hz0,hz1,hz2⟩:=info_parts Tryz.infoMir
 obtain⟨W0,hW0⟩:∃W0,W0=((((w.alloc (.cells #[.int .i64 g.blur,.slice a.pS g.sta.length a.cs,.slice a.pM g.mov.length a.cm,.slice a.pZ g.zon.length a.cz] 38)).alloc (.cells #[.int .i64 tk,.int .i64 ls,.slice A xs.length c] 72)).alloc (.cells #[.string m.name,.string m.sec,.int .i64 m.loc,.slice mA m.way.length mc,.int .i64 m.left,.int .i64 m.heard] 106)).alloc (.cells #[.int .i64 0,.int .i64 0,.slice none 0 0] 72)):=⟨_,rfl⟩
 have hB0:Below w.heap.size w W0:=by rw[hW0];(repeat first|(with_reducible first|assumption|exact Below.refl _ _|refine Bl.drew ?_|refine Bl.drewN ?_ _|refine Bl.alloc ?_ _|refine Bl.set ?_ _ ?_)|(with_reducible apply Bl.step';(focus(with_reducible assumption)))|omega|(focus(simp;done))|(focus(simp;omega)))
 have hsz:W0.heap.size=w.heap.size+4:=by rw[hW0];simp
 have k0:W0.heap[w.heap.size]? =some (.cells #[.int .i64 g.blur,.slice a.pS g.sta.length a.cs,.slice a.pM g.mov.length a.cm,.slice a.pZ g.zon.length a.cz] 38 (0,0)):=by rw[hW0];exact heap4_0 _ _ _ _ _
 have k1:W0.heap[w.heap.size+1]? =some (.cells #[.int .i64 tk,.int .i64 ls,.slice A xs.length c] 72 (0,0)):=by rw[hW0];exact heap4_1 _ _ _ _ _
 have k2:W0.heap[w.heap.size+1+1]? =some (.cells #[.string m.name,.string m.sec,.int .i64 m.loc,.slice mA m.way.length mc,.int .i64 m.left,.int .i64 m.heard] 106 (0,0)):=by rw[hW0];exact heap4_2 _ _ _ _ _
 have k3:W0.heap[w.heap.size+1+1+1]? =some (.cells #[.int .i64 0,.int .i64 0,.slice none 0 0] 72 (0,0)):=by rw[hW0];exact heap4_3 _ _ _ _ _
 have HG:=zh (hr.to hB0)
 have HK:=zh (hkd.to hB0)
 have HF:=zh (hf.to hB0)
 have hl:=hsf.n
 have HS:=zh hs
 have HSF:=zh hsf
 have HM:=zh (show MirR W0 W0.heap.size m mA mc from⟨hm.way.to hB0,hm.cap⟩)
 have K0:=zh k0
 have l0:w.heap.size<W0.heap.size:=by omega
 have K1:=zh k1
 have l1:w.heap.size+1<W0.heap.size:=by omega
 have K2:=zh k2
 have l2:w.heap.size+1+1<W0.heap.size:=by omega
 have K3:=zh k3
 have l3:w.heap.size+1+1+1<W0.heap.size:=by omega
 have HB0:=zh hB0
 clear hr hkd hf hs hsf hB0 hm
 (obtain⟨g0,g1,g2,g3⟩:=cg4 k0)
 (obtain⟨q0,qf0,q1,qf1,q2,qf2⟩:=cv3 k1)
 (obtain⟨o0,of0,o1,of1,o2,of2,o3,of3,o4,of4,o5,of5⟩:=cv6 k2)
 (obtain⟨d0,df0,d1,df1,d2,df2⟩:=cv3 k3)
 clear k0 k1 k2 k3
 have HCF:=zh (fun W (h1:GridR W W.heap.size a g) (h2:KindsAt W) (h3:FldR W W.heap.size A c xs)=>CheckField_c a g tk ls A c xs W HS.out HSF.out h1 h2 h3)
 obtain⟨E0,hE0⟩:∃E,E=joE0 g (fldOf tk ls xs) m:=⟨_,rfl⟩
 have HE0:=zh (show firstErr [fieldC g (fldOf tk ls xs),whn ((xs.length:Int)==16) 5,whn (!hasB g m.loc) 10]=E0 by rw[hE0];unfold joE0 fldOf;rw[List.length_map])
 have HE:=zh hE0
 have HSM:=zh hsm
 clear hE0 hsm
 go_enter Tryz.func78,Tryz.ntmps78
 go_upto_region 1 with fail
 rw[←hW0]
 clear hW0
 go_cut [8] (fun s wx=>s=.int .i64 E0∧Below W0.heap.size W0 wx)
 case first=>
  go_region_held3 (SHd W0) ((refine Sh.goal ?_;exact zsh)) (first|(go_at_call 44;(with_reducible refine Calls.mono (HCF.out _ (HG.out.to (by exact zbl)) (HK.out.to (by exact zbl)) (HF.out.to (by exact zbl))) ?_);rintro e w1 ⟨rfl,hb1⟩)|(go_at_call 107;(with_reducible refine Calls.mono (has_c a g m.loc _) ?_);rintro e w2 ⟨rfl,hb2⟩)|(go_at_call 104;(with_reducible refine Calls.mono (when_c _ _ _) ?_);rintro e w' ⟨rfl,rfl⟩)|(go_at_call 103;refine(first_c _ [fieldC g (fldOf tk ls xs),whn ((xs.length:Int)==16) 5,whn (!hasB g m.loc) 10] _ ?_ ?_).mono ?_;(focus simp);(focus first|(simp[CellsAt];done)|(simp[CellsAt,cells_new];done)|(simp[CellsAt,cells_new,whn]));rintro e w' ⟨rfl,rfl⟩))
  all_goals
   go_wp2_with fail
   go_meet
   exact⟨by rw[←HE0.out],by exact zbl⟩
 case rest=>
  obtain⟨rfl,hb1⟩:=hcut
  obtain⟨W1,rfl⟩:∃W,W=wc:=⟨wc,rfl⟩
  have HB1:=zh hb1
  have hs1:=hb1.size
  clear g0 g1 g2 g3 q0 q1 q2 qf0 qf1 qf2 o0 o1 o2 o3 o4 o5 of0 of1 of2 of3 of4 of5 d0 d1 d2 df0 df1 df2
  (have j0:=(hb1.block w.heap.size l0).trans K0.out);(obtain⟨g0,g1,g2,g3⟩:=cg4 j0);(have j1:=(hb1.block (w.heap.size+1) l1).trans K1.out);(obtain⟨q0,qf0,q1,qf1,q2,qf2⟩:=cv3 j1);(have j2:=(hb1.block (w.heap.size+1+1) l2).trans K2.out);(obtain⟨o0,of0,o1,of1,o2,of2,o3,of3,o4,of4,o5,of5⟩:=cv6 j2);(have j3:=(hb1.block (w.heap.size+1+1+1) l3).trans K3.out);(obtain⟨d0,df0,d1,df1,d2,df2⟩:=cv3 j3);(have J1:=zh j3);clear j0 j1 j2 j3
  clear hb1
  by_cases he:E0=0
  ·have hz:(E0 !=0)=false:=by rw[bne_eq_false_iff_eq];exact he
   have HZ:=zh (HE.out.symm.trans he)
   obtain⟨hfc,hloc⟩:=joE0_has HZ.out
   obtain⟨hok,hu,hof⟩:=fldOk hfc
   have hn16:xs.length≤16:=by have:=hof.n;simpa [fldOf]using this
   have HST:=zh (fun W (h1:GridR W W.heap.size a g)=>stands_c a g m mA mc W hok hloc h1)
   clear he hfc hok hu hof hloc
   cases hst:standsG g m
   case false=>
    rw[hst]at HST
    have HN:=zh (show ¬((22:Int)=0) by decide)
    have HJ:=zh (show joE g (fldOf tk ls xs) m=22 by unfold joE;rw[if_pos HZ.out,hst];rfl)
    clear hst
    go_wp2_with (go_at_call 141;(with_reducible refine Calls.mono (HST.out _ (HG.out.to (HB1.out.trans (Below.mono (by exact zbl) HB1.out.size)))) ?_);rintro e w3 ⟨rfl,hb3⟩;(have hb03:Below W0.heap.size W0 w3:=HB1.out.trans (hb3.mono HB1.out.size));(have hs3:=hb03.size);clear g0 g1 g2 g3 q0 q1 q2 qf0 qf1 qf2 o0 o1 o2 o3 o4 o5 of0 of1 of2 of3 of4 of5 d0 d1 d2 df0 df1 df2;(have j0:=(hb03.block w.heap.size l0).trans K0.out);(obtain⟨g0,g1,g2,g3⟩:=cg4 j0);(have j1:=(hb03.block (w.heap.size+1) l1).trans K1.out);(obtain⟨q0,qf0,q1,qf1,q2,qf2⟩:=cv3 j1);(have j2:=(hb03.block (w.heap.size+1+1) l2).trans K2.out);(obtain⟨o0,of0,o1,of1,o2,of2,o3,of3,o4,of4,o5,of5⟩:=cv6 j2);(have j3:=(hb03.block (w.heap.size+1+1+1) l3).trans K3.out);(obtain⟨d0,df0,d1,df1,d2,df2⟩:=cv3 j3);(have J3:=zh j3);clear j0 j1 j2 j3)
    refine bodyPost_ret (Tryz.res_fld2 rfl _ _ rfl (set3_block J3.out)) rfl ?_
    exact⟨0,0,none,0,[],by rw[HJ.out];rfl,by unfold joF;rw[if_neg (by rw[HJ.out];exact HN.out)];rfl,FldR.nil_ _ _,Below.set3 (HB0.out.trans (hb03.mono HB0.out.size)) (by omega) _ _ _,blks_nil⟩
   case true=>
    rw[hst]at HST
    obtain⟨E1,hE1⟩:∃E,E=fieldC g (addM (fldOf tk ls xs) m):=⟨_,rfl⟩
    have HJ:=zh (show joE g (fldOf tk ls xs) m=E1 by unfold joE;rw[if_pos HZ.out,hst,if_pos rfl,hE1])
    have HE1:=zh hE1
    clear hst hE1
    go_upto_region 6 with (go_at_call 141;(with_reducible refine Calls.mono (HST.out _ (HG.out.to (HB1.out.trans (Below.mono (by exact zbl) HB1.out.size)))) ?_);rintro e w3 ⟨rfl,hb3⟩;(have hb03:Below W0.heap.size W0 w3:=HB1.out.trans (hb3.mono HB1.out.size));(have HB3:=zh hb03);(have hs3:=hb03.size);clear g0 g1 g2 g3 q0 q1 q2 qf0 qf1 qf2 o0 o1 o2 o3 o4 o5 of0 of1 of2 of3 of4 of5 d0 d1 d2 df0 df1 df2;(have j0:=(hb03.block w.heap.size l0).trans K0.out);(obtain⟨g0,g1,g2,g3⟩:=cg4 j0);(have j1:=(hb03.block (w.heap.size+1) l1).trans K1.out);(obtain⟨q0,qf0,q1,qf1,q2,qf2⟩:=cv3 j1);(have j2:=(hb03.block (w.heap.size+1+1) l2).trans K2.out);(obtain⟨o0,of0,o1,of1,o2,of2,o3,of3,o4,of4,o5,of5⟩:=cv6 j2);(have j3:=(hb03.block (w.heap.size+1+1+1) l3).trans K3.out);(obtain⟨d0,df0,d1,df1,d2,df2⟩:=cv3 j3);(have J3:=zh j3);clear j0 j1 j2 j3;clear hb3 hb03)
    go_upto_region 7 with (go_at_call 116;(with_reducible refine Calls.mono (own_c tk ls A c xs _ hl HSF.out.way (HF.out.to (HB3.out.trans (Below.mono (by exact zbl) HB3.out.size)))) ?_);rintro e w4 ⟨A4,c4,ys,rfl,hys,hown,hsp,hb4⟩;(have HYS:=zh hys);(have HOW:=zh hown);clear hys hown hsp)
    obtain⟨b9,hb9⟩:∃b,b=w4.heap.size:=⟨_,rfl⟩
    obtain⟨Wb,hWb⟩:∃W,W=w4.alloc (.cells #[.int .i64 tk,.int .i64 ls,.slice A4 ys.length c4] 72):=⟨_,rfl⟩
    rw[←hb9,←hWb]
    have hbb:Below w3.heap.size w3 Wb:=by rw[hWb];exact hb4.alloc hb4.size _
    have hb0b:Below W0.heap.size W0 Wb:=HB3.out.trans (hbb.mono HB3.out.size)
    have HBB:=zh hb0b
    have hsb:=hb0b.size
    have k9:Wb.heap[b9]? =some (.cells #[.int .i64 tk,.int .i64 ls,.slice A4 ys.length c4] 72 (0,0)):=by rw[hWb,hb9];exact heap_alloc_new w4 _
    have y9:=blk_lt k9
    have K9:=zh k9
    have ho:=HOW.out.below (w':=Wb) (by rw[hWb];exact Below.alloc (Below.refl _ _) (Nat.le_refl _) _)
    have HO:=zh ho
    have hA9:∀d,A4=some d→d.block<b9:=fun d hd=>by
     have h:=World.ownsRow.lt HOW.out.row d.block (by rw[hd];rfl)
     rw[hb9];exact h.2
    have hw9:W0.heap.size≤b9:=by rw[hb9];exact Nat.le_trans HB3.out.size hb4.size
    have HA9:=zh hA9
    have HW9:=zh (show ∀y∈ys,y.m.way≠ []→∀a,y.A=some a→a.block<b9 from fun y hy hne aa haa=>by
     obtain⟨b',off',e',hb',_⟩:=(HOW.out.each y hy).way.at hne
     rw[haa]at e'
     cases e'
     rw[hb9];exact hb')
    have hyl:ys.length=xs.length:=by simpa using congrArg List.length HYS.out
    have HYL:=zh hyl
    have hw3:W0.heap.size≤w3.heap.size:=HB3.out.size
    have hw3b:w3.heap.size≤Wb.heap.size:=hbb.size
    clear hWb hb9 hbb ho hA9 hb4 HOW g0 g1 g2 g3 q0 q1 q2 qf0 qf1 qf2 o0 o1 o2 o3 o4 o5 of0 of1 of2 of3 of4 of5 d0 d1 d2 df0 df1 df2
    (obtain⟨u0,uf0,u1,uf1,u2,uf2⟩:=cv3 k9)
    (have j0:=(hb0b.block w.heap.size l0).trans K0.out);(obtain⟨g0,g1,g2,g3⟩:=cg4 j0);(have j1:=(hb0b.block (w.heap.size+1) l1).trans K1.out);(obtain⟨q0,qf0,q1,qf1,q2,qf2⟩:=cv3 j1);(have j2:=(hb0b.block (w.heap.size+1+1) l2).trans K2.out);(obtain⟨o0,of0,o1,of1,o2,of2,o3,of3,o4,of4,o5,of5⟩:=cv6 j2);(have j3:=(hb0b.block (w.heap.size+1+1+1) l3).trans K3.out);(obtain⟨d0,df0,d1,df1,d2,df2⟩:=cv3 j3);(have JB:=zh j3);clear j0 j1 j2 j3
    clear k9 hb0b hyl
    go_wp2_with (at_builtin;go_loud (refine wpList_append_lies _ rfl _ _ 70 rfl w3.heap.size 106 i0 zeroMir 6 80 Tryz.underlying70 hi hz0 hz1 hz2 rfl (by decide) _ _ _ rfl (World.ownsRow.alloc HO.out.row _) ⟨Wb.heap.size,0,none⟩ 1 1 (encMA ⟨m,mA,mc⟩) rfl rfl ?c1 ?c2 (by decide) ?c3 ?c4 ?c5 _ rfl ?_))
    case c1=>exact encMA_cells Wb ⟨m,mA,mc⟩ _
    case c2=>exact encMA_one _
    case c3=>have:=HYL.out;unfold maxLen;omega
    case c4=>have:=HYL.out;omega
    case c5=>simp;omega
    intro gN cap1 w5 hown' hgrow hat hlt5
    have hat2:(Value.slice A4 ys.length c4).ownBlock=some gN∨gN=Wb.heap.size+1:=by first|exact hat|simpa using hat
    obtain⟨zs,hzs⟩:∃zs,zs=ys++ [(⟨m,mA,mc⟩:MA)]:=⟨_,rfl⟩
    have hoT:OwnT 106 w5 w3.heap.size (some ⟨gN,0,none⟩) cap1 zs:=by
     rw[hzs]
     have h0:OwnT 106 Wb w3.heap.size A4 c4 ys:=⟨HO.out.row,HO.out.each,HO.out.apart⟩
     have hal:Below Wb.heap.size Wb (Wb.alloc (.cells #[.string m.name,.string m.sec,.int .i64 m.loc,.slice mA m.way.length mc,.int .i64 m.left,.int .i64 m.heard] 106)):=Below.alloc (Below.refl _ _) (Nat.le_refl _) _
     have hM:MirR Wb Wb.heap.size m mA mc:=⟨HM.out.way.to HBB.out,HM.out.cap⟩
     have hlo:∀d,A4=some d→w3.heap.size≤d.block:=fun d hd=>(World.ownsRow.lt HO.out.row d.block (by rw[hd];rfl)).1
     refine OwnT.push (h0.below hal) (x:=⟨m,mA,mc⟩) ⟨hM.way.to hal,hM.cap⟩ (fun hne aa haa d hd=>?_) hown' hgrow (by rw[World.size_alloc];exact hat2)
     obtain⟨b',off',e',hb',_⟩:=HM.out.way.at hne
     rw[show mA=some aa from haa]at e'
     cases e'
     have:=hlo d hd
     show b'≠d.block
     omega
    have hg9:w5.heap[b9]? =some (.cells #[.int .i64 tk,.int .i64 ls,.slice A4 ys.length c4] 72 (0,0)):=(gr_block hgrow (by rw[World.size_alloc];omega) (fun e=>by
     cases A4 with
     |none=>cases e
     |some d=>have h:=HA9.out d rfl;simp only[Value.ownBlock,Option.some.injEq]at e;omega)).trans ((Below.heap_alloc _ _ _ y9).trans K9.out)
    have hb5:Below W0.heap.size W0 w5:=Below.grown (HBB.out.alloc hsb _) hgrow (by rw[World.size_alloc];omega) (fun j e=>Nat.le_trans hw3 (World.ownsRow.lt HO.out.row j e).1)
    have HOT:=zh hoT
    have hne9:gN≠b9:=fun e=>by
     rcases hat2 with h1|h1
     ·cases A4 with
      |none=>cases h1
      |some d=>have h:=HA9.out d rfl;simp only[Value.ownBlock,Option.some.injEq]at h1;omega
     ·omega
    have HBL:=zh (show Blks (fun d=>d≠b9) (some ⟨gN,0,none⟩) zs from⟨fun _ aa haa=>by cases haa;exact hne9,fun z hz hne aa haa=>by
     rw[hzs]at hz
     rcases List.mem_append.1 hz with hz|hz
     ·exact Nat.ne_of_lt (HW9.out z hz hne aa haa)
     ·simp only[List.mem_singleton]at hz
      subst hz
      obtain⟨b',off',e',hb',_⟩:=HM.out.way.at hne
      rw[show mA=some aa from haa]at e'
      cases e'
      show b'≠b9
      omega⟩)
    have hzl:ys.length+1=zs.length:=by rw[hzs];simp
    have hzx:zs.map MA.m=xs.map MA.m++ [m]:=by rw[hzs,List.map_append,HYS.out];rfl
    have hfz:fldOf tk ls zs=addM (fldOf tk ls xs) m:=by unfold fldOf addM;rw[hzx]
    have hsz2:SmallF zs:=by
     have hin:∀z∈zs,z.m∈xs.map MA.m∨z.m=m:=fun z hz=>by
      have h1:z.m∈zs.map MA.m:=List.mem_map_of_mem hz
      rw[hzx]at h1
      rcases List.mem_append.1 h1 with h1|h1
      ·exact .inl h1
      ·exact .inr (by simpa using h1)
     refine⟨by have:=HYL.out;omega,fun z hz=>?_,fun z hz=>?_,fun z hz=>?_⟩<;>rcases hin z hz with h1|h1
     ·obtain⟨x,hx,e⟩:=List.mem_map.1 h1;rw[←e];exact HSF.out.name x hx
     ·rw[h1];exact HSM.out.1
     ·obtain⟨x,hx,e⟩:=List.mem_map.1 h1;rw[←e];exact HSF.out.sec x hx
     ·rw[h1];exact HSM.out.2.1
     ·obtain⟨x,hx,e⟩:=List.mem_map.1 h1;rw[←e];exact HSF.out.way x hx
     ·rw[h1];exact HSM.out.2.2
    have HSZ:=zh hsz2
    have HFZ:=zh hfz
    have HCF2:=zh (show ∀W,GridR W W.heap.size a g→KindsAt W→FldR W W.heap.size (some ⟨gN,0,none⟩) cap1 zs→Calls Tryz.prog 44 #[(.agg #[.int .i64 g.blur,.slice a.pS g.sta.length a.cs,.slice a.pM g.mov.length a.cm,.slice a.pZ g.zon.length a.cz]),(.agg #[.int .i64 tk,.int .i64 ls,.slice (some ⟨gN,0,none⟩) zs.length cap1])] W fun e w'=>e=.returned (.int .i64 E1)∧Below W.heap.size W w' from fun W h1 h2 h3=>by
     rw[HE1.out,←HFZ.out];exact CheckField_c a g tk ls _ cap1 zs W HS.out HSZ.out h1 h2 h3)
    have HG9:=zh hg9
    have HB5:=zh hb5
    have HZL:=zh hzl
    clear u0 u1 u2 uf0 uf1 uf2 hown' hgrow hat hat2 hlt5 hoT hne9 hzs hzl hzx hfz hsz2 g0 g1 g2 g3 q0 q1 q2 qf0 qf1 qf2 o0 o1 o2 o3 o4 o5 of0 of1 of2 of3 of4 of5 d0 d1 d2 df0 df1 df2
    (obtain⟨u0,uf0,u1,uf1,u2,uf2⟩:=cv3 hg9)
    (have j0:=(hb5.block w.heap.size l0).trans K0.out);(obtain⟨g0,g1,g2,g3⟩:=cg4 j0);(have j1:=(hb5.block (w.heap.size+1) l1).trans K1.out);(obtain⟨q0,qf0,q1,qf1,q2,qf2⟩:=cv3 j1);(have j2:=(hb5.block (w.heap.size+1+1) l2).trans K2.out);(obtain⟨o0,of0,o1,of1,o2,of2,o3,of3,o4,of4,o5,of5⟩:=cv6 j2);(have j3:=(hb5.block (w.heap.size+1+1+1) l3).trans K3.out);(obtain⟨d0,df0,d1,df1,d2,df2⟩:=cv3 j3);(have J5:=zh j3);clear j0 j1 j2 j3
    clear hg9 hb5
    go_upto_region 8 with fail
    rw[HZL.out]
    obtain⟨W6,hW6⟩:∃W,W=w5.setCell ⟨b9,2,none⟩ (.slice (some ⟨gN,0,none⟩) zs.length cap1):=⟨_,rfl⟩
    rw[←hW6]
    have hb6:Below W0.heap.size W0 W6:=by rw[hW6];exact Below.setCell HB5.out (p:=⟨b9,2,none⟩) hw9 _
    have k9:W6.heap[b9]? =some (.cells #[.int .i64 tk,.int .i64 ls,.slice (some ⟨gN,0,none⟩) zs.length cap1] 72 (0,0)):=by rw[hW6];exact heap_setCell_same w5 b9 2 _ _ _ HG9.out
    have hf6:FldR W6 W6.heap.size (some ⟨gN,0,none⟩) cap1 zs:=by rw[hW6];exact(HOT.out.fld.setc (p:=⟨b9,2,none⟩) _ HBL.out).more (by simp)
    have HF6:=zh hf6
    have HB6:=zh hb6
    have hs6:=hb6.size
    clear hW6 hf6 u0 u1 u2 uf0 uf1 uf2 g0 g1 g2 g3 q0 q1 q2 qf0 qf1 qf2 o0 o1 o2 o3 o4 o5 of0 of1 of2 of3 of4 of5 d0 d1 d2 df0 df1 df2
    (obtain⟨u0,uf0,u1,uf1,u2,uf2⟩:=cv3 k9)
    (have j0:=(hb6.block w.heap.size l0).trans K0.out);(obtain⟨g0,g1,g2,g3⟩:=cg4 j0);(have j1:=(hb6.block (w.heap.size+1) l1).trans K1.out);(obtain⟨q0,qf0,q1,qf1,q2,qf2⟩:=cv3 j1);(have j2:=(hb6.block (w.heap.size+1+1) l2).trans K2.out);(obtain⟨o0,of0,o1,of1,o2,of2,o3,of3,o4,of4,o5,of5⟩:=cv6 j2);(have j3:=(hb6.block (w.heap.size+1+1+1) l3).trans K3.out);(obtain⟨d0,df0,d1,df1,d2,df2⟩:=cv3 j3);(have J6:=zh j3);clear j0 j1 j2 j3
    have y9:=blk_lt k9
    have K9:=zh k9
    clear k9 hb6
    go_upto_region 9 with (go_at_call 44;(with_reducible refine Calls.mono (HCF2.out _ (HG.out.to (HB6.out.trans (Below.mono (by exact zbl) HB6.out.size))) (HK.out.to (HB6.out.trans (Below.mono (by exact zbl) HB6.out.size))) (HF6.out.to (by exact zbl))) ?_);rintro e w7 ⟨rfl,hb7⟩)
    have hb07:Below W0.heap.size W0 w7:=HB6.out.trans (hb7.mono HB6.out.size)
    have k9:=(hb7.block b9 y9).trans K9.out
    have HB7:=zh hb07
    have HF7:=zh (HF6.out.to hb7)
    have hs7:=hb07.size
    clear u0 u1 u2 uf0 uf1 uf2 g0 g1 g2 g3 q0 q1 q2 qf0 qf1 qf2 o0 o1 o2 o3 o4 o5 of0 of1 of2 of3 of4 of5 d0 d1 d2 df0 df1 df2
    (obtain⟨u0,uf0,u1,uf1,u2,uf2⟩:=cv3 k9)
    (have j0:=(hb07.block w.heap.size l0).trans K0.out);(obtain⟨g0,g1,g2,g3⟩:=cg4 j0);(have j1:=(hb07.block (w.heap.size+1) l1).trans K1.out);(obtain⟨q0,qf0,q1,qf1,q2,qf2⟩:=cv3 j1);(have j2:=(hb07.block (w.heap.size+1+1) l2).trans K2.out);(obtain⟨o0,of0,o1,of1,o2,of2,o3,of3,o4,of4,o5,of5⟩:=cv6 j2);(have j3:=(hb07.block (w.heap.size+1+1+1) l3).trans K3.out);(obtain⟨d0,df0,d1,df1,d2,df2⟩:=cv3 j3);(have J7:=zh j3);clear j0 j1 j2 j3
    clear k9 hb7 hb07
    by_cases he1:E1=0
    ·have hz1:(E1 !=0)=false:=by rw[bne_eq_false_iff_eq];exact he1
     have HN:=zh (HJ.out.trans he1)
     clear he1
     have hzn:=HSZ.out.n
     go_wp2_with (go_at_call 116;(with_reducible refine Calls.mono (own_c tk ls _ cap1 zs _ hzn HSZ.out.way (HF7.out.to (by exact zbl))) ?_);rintro e w8 ⟨A8,c8,ys8,rfl,hys,hown,hsp,hb8⟩;(have HYS8:=zh hys);(have HOW8:=zh hown);(have HSP8:=zh hsp);(have hb08:Below W0.heap.size W0 w8:=HB7.out.trans (hb8.mono HB7.out.size));(have HB8:=zh hb08);(have hs8:=hb08.size);clear g0 g1 g2 g3 q0 q1 q2 qf0 qf1 qf2 o0 o1 o2 o3 o4 o5 of0 of1 of2 of3 of4 of5 d0 d1 d2 df0 df1 df2;clear u0 u1 u2 uf0 uf1 uf2 hys hown hsp;(have j0:=(hb08.block w.heap.size l0).trans K0.out);(obtain⟨g0,g1,g2,g3⟩:=cg4 j0);(have j1:=(hb08.block (w.heap.size+1) l1).trans K1.out);(obtain⟨q0,qf0,q1,qf1,q2,qf2⟩:=cv3 j1);(have j2:=(hb08.block (w.heap.size+1+1) l2).trans K2.out);(obtain⟨o0,of0,o1,of1,o2,of2,o3,of3,o4,of4,o5,of5⟩:=cv6 j2);(have j3:=(hb08.block (w.heap.size+1+1+1) l3).trans K3.out);(obtain⟨d0,df0,d1,df1,d2,df2⟩:=cv3 j3);(have J8:=zh j3);clear j0 j1 j2 j3)
     refine bodyPost_ret (Tryz.res_fld2 rfl _ _ rfl (set3_block J8.out)) rfl ?_
     have hfr:=HOW8.out.fresh HSP8.out
     refine⟨tk,ls,A8,c8,ys8,by rw[HN.out];rfl,?_,(HOW8.out.fld.set3 _ _ _ (hfr.imp fun d hd e=>by omega)).more (by simp),Below.set3 (HB0.out.trans (HB8.out.mono HB0.out.size)) (by omega) _ _ _,hfr.imp fun d hd=>by omega⟩
     unfold joF
     rw[if_pos HN.out,←HFZ.out]
     unfold fldOf
     rw[HYS8.out]
    ·have hz1:(E1 !=0)=true:=by rw[bne_iff_ne];exact he1
     have HN:=zh he1
     clear he1
     go_wp2_with fail
     refine bodyPost_ret (Tryz.res_fld2 rfl _ _ rfl (set3_block J7.out)) rfl ?_
     exact⟨0,0,none,0,[],by rw[HJ.out];rfl,by unfold joF;rw[if_neg (by rw[HJ.out];exact HN.out)];rfl,FldR.nil_ _ _,Below.set3 (HB0.out.trans (HB7.out.mono HB0.out.size)) (by omega) _ _ _,blks_nil⟩
  ·have hz:(E0 !=0)=true:=by rw[bne_iff_ne];exact he
   have HN:=zh he
   have HJ:=zh (show joE g (fldOf tk ls xs) m=E0 by unfold joE;rw[←HE.out,if_neg HN.out])
   clear he
   go_wp2_with fail
   refine bodyPost_ret (Tryz.res_fld2 rfl _ _ rfl (set3_block J1.out)) rfl ?_
   exact⟨0,0,none,0,[],by rw[HJ.out];rfl,by unfold joF;rw[if_neg (by rw[HJ.out];exact HN.out)];rfl,FldR.nil_ _ _,Below.set3 (HB0.out.trans (HB1.out.mono HB0.out.size)) (by omega) _ _ _,blks_nil⟩
end Go.Proofs.YtehnikhicnnnhaaGreatDoor
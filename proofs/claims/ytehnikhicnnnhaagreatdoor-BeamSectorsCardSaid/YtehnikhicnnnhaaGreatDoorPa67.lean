/- The reference: Joined, Taken. | The reference: Taken. -/
import Derived.Test.YtehnikhicnnnhaaGreatDoorPa47
import Derived.Test.YtehnikhicnnnhaaGreatDoorPa52
import Derived.Test.YtehnikhicnnnhaaGreatDoorPa66
namespace Go.Proofs.YtehnikhicnnnhaaGreatDoor
open Go.RowKit
set_option maxRecDepth 100000 in
set_option maxHeartbeats 8000000 in
theorem rJoined_c(a:GA)(g:Grd)(tk ls:Int)(A:Option Addr)(c:Nat)(xs:List MA)(m:Mir)(mA:Option Addr)(mc:Nat)(w:World)(hs:SmallG g)(hsf:SmallF xs)(hsm:m.name.size≤100000∧m.sec.size≤100000∧m.way.length≤1000)(h0:fieldC g (fldOf tk ls xs)=0)(hr:GridR w w.heap.size a g)(hf:FldR w w.heap.size A c xs)(hm:MirR w w.heap.size m mA mc):
 Calls Tryz.prog 79 #[(.agg #[.int .i64 g.blur,.slice a.pS g.sta.length a.cs,.slice a.pM g.mov.length a.cm,.slice a.pZ g.zon.length a.cz]),(.agg #[.int .i64 tk,.int .i64 ls,.slice A xs.length c]),(.agg #[.string m.name,.string m.sec,.int .i64 m.loc,.slice mA m.way.length mc,.int .i64 m.left,.int .i64 m.heard])] w fun e w'=>∃tk' ls' A' c' zs,e=.returned (.tuple #[(.agg #[.int .i64 tk',.int .i64 ls',.slice A' zs.length c']),.int .i64 (joE g (fldOf tk ls xs) m)])∧fldOf tk' ls' zs=joF g (fldOf tk ls xs) m∧FldR w' w'.heap.size A' c' zs∧Blks (fun d=>w.heap.size≤d∨(m.way≠ []∧∃aa,mA=some aa∧d=aa.block)) A' zs∧Below w.heap.size w w':=by
 obtain⟨i0,hi,hz0,hz1,hz2⟩:=info_parts Tryz.infoRM
 obtain⟨W0,hW0⟩:∃W0,W0=((((w.alloc (.cells #[.int .i64 g.blur,.slice a.pS g.sta.length a.cs,.slice a.pM g.mov.length a.cm,.slice a.pZ g.zon.length a.cz] 26)).alloc (.cells #[.int .i64 tk,.int .i64 ls,.slice A xs.length c] 66)).alloc (.cells #[.string m.name,.string m.sec,.int .i64 m.loc,.slice mA m.way.length mc,.int .i64 m.left,.int .i64 m.heard] 107)).alloc (.cells #[.int .i64 0,.int .i64 0,.slice none 0 0] 66)):=⟨_,rfl⟩
 have hB0:Below w.heap.size w W0:=by rw[hW0];(repeat first|(with_reducible first|assumption|exact Below.refl _ _|refine Bl.drew ?_|refine Bl.drewN ?_ _|refine Bl.alloc ?_ _|refine Bl.set ?_ _ ?_)|(with_reducible apply Bl.step';(focus(with_reducible assumption)))|omega|(focus(simp;done))|(focus(simp;omega)))
 have hsz:W0.heap.size=w.heap.size+4:=by rw[hW0];simp
 have k0:W0.heap[w.heap.size]? =some (.cells #[.int .i64 g.blur,.slice a.pS g.sta.length a.cs,.slice a.pM g.mov.length a.cm,.slice a.pZ g.zon.length a.cz] 26 (0,0)):=by rw[hW0];exact heap4_0 _ _ _ _ _
 have k1:W0.heap[w.heap.size+1]? =some (.cells #[.int .i64 tk,.int .i64 ls,.slice A xs.length c] 66 (0,0)):=by rw[hW0];exact heap4_1 _ _ _ _ _
 have k2:W0.heap[w.heap.size+1+1]? =some (.cells #[.string m.name,.string m.sec,.int .i64 m.loc,.slice mA m.way.length mc,.int .i64 m.left,.int .i64 m.heard] 107 (0,0)):=by rw[hW0];exact heap4_2 _ _ _ _ _
 have k3:W0.heap[w.heap.size+1+1+1]? =some (.cells #[.int .i64 0,.int .i64 0,.slice none 0 0] 66 (0,0)):=by rw[hW0];exact heap4_3 _ _ _ _ _
 have HG:=zh (hr.to hB0)
 have HK:=zh trivial
 have HF:=zh (hf.to hB0)
 have hl:=hsf.n
 have HS:=zh hs
 have HSF:=zh hsf
 have HMW:=zh hm
 have HM:=zh (show MirR W0 W0.heap.size m mA mc from⟨hm.way.to hB0,hm.cap⟩)
 have K0:=zh k0
 have l0:w.heap.size<W0.heap.size:=by omega
 have K1:=zh k1
 have l1:w.heap.size+1<W0.heap.size:=by omega
 have K2:=zh k2
 have l2:w.heap.size+1+1<W0.heap.size:=by omega
 have K3:=zh k3
 have l3:w.heap.size+1+1+1<W0.heap.size:=by omega
 have HB0:=zh hB0
 clear hr hf hs hsf hB0 hm
 (obtain⟨g0,g1,g2,g3⟩:=cg4 k0)
 (obtain⟨q0,qf0,q1,qf1,q2,qf2⟩:=cv3 k1)
 (obtain⟨o0,of0,o1,of1,o2,of2,o3,of3,o4,of4,o5,of5⟩:=cv6 k2)
 (obtain⟨d0,df0,d1,df1,d2,df2⟩:=cv3 k3)
 clear k0 k1 k2 k3
 obtain⟨hok,hu,hof⟩:=fldOk h0
 have hn16:xs.length≤16:=by have:=hof.n;simpa [fldOf]using this
 have HE:=zh (show joE0 g (fldOf tk ls xs) m=firstErr [0,whn ((xs.length:Int)==16) 5,whn (!hasB g m.loc) 10] by unfold joE0;rw[h0];unfold fldOf;rw[List.length_map])
 have HSM:=zh hsm
 clear hsm h0 hu hof
 cases h16:decide ((16:Int)≤(xs.length:Int))
 case true=>
  have HJ:=zh (show joE g (fldOf tk ls xs) m=5 by
   have h1:(xs.length:Int)=16:=by have:=of_decide_eq_true h16;omega
   unfold joE
   rw[HE.out,h1,if_neg (by simp[firstErr,whn])]
   simp[firstErr,whn])
  go_enter Tryz.func79,Tryz.ntmps79
  go_upto_region 1 with fail
  rw[←hW0]
  clear hW0
  go_wp2_with fail
  refine bodyPost_ret (Tryz.rres_fld2 rfl _ _ rfl (set3_block K3.out)) rfl ?_
  exact⟨0,0,none,0,[],by rw[HJ.out];rfl,by unfold joF;rw[HJ.out,if_neg (by decide)];rfl,FldR.nil_ _ _,blks_nil,Below.set3 HB0.out (by omega) _ _ _⟩
 case false=>
  have hne16:((xs.length:Int)==16)=false:=by
   have:=of_decide_eq_false h16
   rw[beq_eq_false_iff_ne];omega
  cases hha:hasB g m.loc
  case false=>
   have HJ:=zh (show joE g (fldOf tk ls xs) m=10 by
    unfold joE
    rw[HE.out,hne16,hha,if_neg (by simp[firstErr,whn])]
    simp[firstErr,whn])
   have HHA:=zh hha
   clear hne16 hha
   go_enter Tryz.func79,Tryz.ntmps79
   go_upto_region 1 with fail
   rw[←hW0]
   clear hW0
   go_wp2_with (go_at_call 98;(with_reducible refine Calls.mono (has_r a g m.loc _) ?_);rintro e w1 ⟨rfl,hb1⟩;rw[HHA.out];(have hb01:Below W0.heap.size W0 w1:=by exact zbl);clear g0 g1 g2 g3 q0 q1 q2 qf0 qf1 qf2 o0 o1 o2 o3 o4 o5 of0 of1 of2 of3 of4 of5 d0 d1 d2 df0 df1 df2;(have j0:=(hb01.block w.heap.size l0).trans K0.out);(obtain⟨g0,g1,g2,g3⟩:=cg4 j0);(have j1:=(hb01.block (w.heap.size+1) l1).trans K1.out);(obtain⟨q0,qf0,q1,qf1,q2,qf2⟩:=cv3 j1);(have j2:=(hb01.block (w.heap.size+1+1) l2).trans K2.out);(obtain⟨o0,of0,o1,of1,o2,of2,o3,of3,o4,of4,o5,of5⟩:=cv6 j2);(have j3:=(hb01.block (w.heap.size+1+1+1) l3).trans K3.out);(obtain⟨d0,df0,d1,df1,d2,df2⟩:=cv3 j3);(have J1:=zh j3);clear j0 j1 j2 j3)
   refine bodyPost_ret (Tryz.rres_fld2 rfl _ _ rfl (set3_block J1.out)) rfl ?_
   exact⟨0,0,none,0,[],by rw[HJ.out];rfl,by unfold joF;rw[HJ.out,if_neg (by decide)];rfl,FldR.nil_ _ _,blks_nil,Below.set3 (HB0.out.trans (hb01.mono HB0.out.size)) (by omega) _ _ _⟩
  case true=>
   have hloc:0≤m.loc∧m.loc<g.sta.length:=by unfold hasB at hha;simpa using hha
   have HST:=zh (fun W (h1:GridR W W.heap.size a g)=>rIsDark_c a g m mA mc W hloc h1)
   have HHA:=zh hha
   have HZ:=zh (show joE0 g (fldOf tk ls xs) m=0 by rw[HE.out,hne16,hha];simp[firstErr,whn])
   clear hne16 hha hloc
   cases hst:standsG g m
   case false=>
    rw[hst]at HST
    have HJ:=zh (show joE g (fldOf tk ls xs) m=22 by unfold joE;rw[if_pos HZ.out,hst];rfl)
    clear hst
    go_enter Tryz.func79,Tryz.ntmps79
    go_upto_region 1 with fail
    rw[←hW0]
    clear hW0
    go_wp2_with (first|(go_at_call 98;(with_reducible refine Calls.mono (has_r a g m.loc _) ?_);rintro e w1 ⟨rfl,hb1⟩;rw[HHA.out];(have hb01:Below W0.heap.size W0 w1:=by exact zbl);clear g0 g1 g2 g3 q0 q1 q2 qf0 qf1 qf2 o0 o1 o2 o3 o4 o5 of0 of1 of2 of3 of4 of5 d0 d1 d2 df0 df1 df2;(have j0:=(hb01.block w.heap.size l0).trans K0.out);(obtain⟨g0,g1,g2,g3⟩:=cg4 j0);(have j1:=(hb01.block (w.heap.size+1) l1).trans K1.out);(obtain⟨q0,qf0,q1,qf1,q2,qf2⟩:=cv3 j1);(have j2:=(hb01.block (w.heap.size+1+1) l2).trans K2.out);(obtain⟨o0,of0,o1,of1,o2,of2,o3,of3,o4,of4,o5,of5⟩:=cv6 j2);(have j3:=(hb01.block (w.heap.size+1+1+1) l3).trans K3.out);(obtain⟨d0,df0,d1,df1,d2,df2⟩:=cv3 j3);(have J1:=zh j3);clear j0 j1 j2 j3)|(go_at_call 129;(with_reducible refine Calls.mono (HST.out _ (HG.out.to (by exact zbl))) ?_);rintro e w2 ⟨rfl,hb2⟩;(have hb02:Below W0.heap.size W0 w2:=by exact zbl);(have HB2:=zh hb02);clear g0 g1 g2 g3 q0 q1 q2 qf0 qf1 qf2 o0 o1 o2 o3 o4 o5 of0 of1 of2 of3 of4 of5 d0 d1 d2 df0 df1 df2;(have j0:=(hb02.block w.heap.size l0).trans K0.out);(obtain⟨g0,g1,g2,g3⟩:=cg4 j0);(have j1:=(hb02.block (w.heap.size+1) l1).trans K1.out);(obtain⟨q0,qf0,q1,qf1,q2,qf2⟩:=cv3 j1);(have j2:=(hb02.block (w.heap.size+1+1) l2).trans K2.out);(obtain⟨o0,of0,o1,of1,o2,of2,o3,of3,o4,of4,o5,of5⟩:=cv6 j2);(have j3:=(hb02.block (w.heap.size+1+1+1) l3).trans K3.out);(obtain⟨d0,df0,d1,df1,d2,df2⟩:=cv3 j3);(have J2:=zh j3);clear j0 j1 j2 j3))
    refine bodyPost_ret (Tryz.rres_fld2 rfl _ _ rfl (set3_block J2.out)) rfl ?_
    exact⟨0,0,none,0,[],by rw[HJ.out];rfl,by unfold joF;rw[HJ.out,if_neg (by decide)];rfl,FldR.nil_ _ _,blks_nil,Below.set3 (HB0.out.trans (hb02.mono HB0.out.size)) (by omega) _ _ _⟩
   case true=>
    rw[hst]at HST
    obtain⟨E1,hE1⟩:∃E,E=fieldC g (addM (fldOf tk ls xs) m):=⟨_,rfl⟩
    have HJ:=zh (show joE g (fldOf tk ls xs) m=E1 by unfold joE;rw[if_pos HZ.out,hst,if_pos rfl,hE1])
    have HE1:=zh hE1
    clear hst hE1
    go_enter Tryz.func79,Tryz.ntmps79
    go_upto_region 1 with fail
    rw[←hW0]
    clear hW0
    go_upto_region 7 with (first|(go_at_call 98;(with_reducible refine Calls.mono (has_r a g m.loc _) ?_);rintro e w1 ⟨rfl,hb1⟩;rw[HHA.out];(have hb01:Below W0.heap.size W0 w1:=by exact zbl);clear g0 g1 g2 g3 q0 q1 q2 qf0 qf1 qf2 o0 o1 o2 o3 o4 o5 of0 of1 of2 of3 of4 of5 d0 d1 d2 df0 df1 df2;(have j0:=(hb01.block w.heap.size l0).trans K0.out);(obtain⟨g0,g1,g2,g3⟩:=cg4 j0);(have j1:=(hb01.block (w.heap.size+1) l1).trans K1.out);(obtain⟨q0,qf0,q1,qf1,q2,qf2⟩:=cv3 j1);(have j2:=(hb01.block (w.heap.size+1+1) l2).trans K2.out);(obtain⟨o0,of0,o1,of1,o2,of2,o3,of3,o4,of4,o5,of5⟩:=cv6 j2);(have j3:=(hb01.block (w.heap.size+1+1+1) l3).trans K3.out);(obtain⟨d0,df0,d1,df1,d2,df2⟩:=cv3 j3);(have J1:=zh j3);clear j0 j1 j2 j3)|(go_at_call 129;(with_reducible refine Calls.mono (HST.out _ (HG.out.to (by exact zbl))) ?_);rintro e w2 ⟨rfl,hb2⟩;(have hb02:Below W0.heap.size W0 w2:=by exact zbl);(have HB2:=zh hb02);clear g0 g1 g2 g3 q0 q1 q2 qf0 qf1 qf2 o0 o1 o2 o3 o4 o5 of0 of1 of2 of3 of4 of5 d0 d1 d2 df0 df1 df2;(have j0:=(hb02.block w.heap.size l0).trans K0.out);(obtain⟨g0,g1,g2,g3⟩:=cg4 j0);(have j1:=(hb02.block (w.heap.size+1) l1).trans K1.out);(obtain⟨q0,qf0,q1,qf1,q2,qf2⟩:=cv3 j1);(have j2:=(hb02.block (w.heap.size+1+1) l2).trans K2.out);(obtain⟨o0,of0,o1,of1,o2,of2,o3,of3,o4,of4,o5,of5⟩:=cv6 j2);(have j3:=(hb02.block (w.heap.size+1+1+1) l3).trans K3.out);(obtain⟨d0,df0,d1,df1,d2,df2⟩:=cv3 j3);(have J2:=zh j3);clear j0 j1 j2 j3))
    have hs3:=hb02.size
    obtain⟨w3,hw3⟩:∃W,W=w2:=⟨_,rfl⟩
    subst hw3
    have HB3:=zh hb02
    clear hb1 hb2 hb01 hb02
    go_upto_region 8 with (go_at_call 117;(with_reducible refine Calls.mono (rOwn0_c tk ls A c xs _ hl HSF.out.way (HF.out.to (HB3.out.trans (Below.mono (by exact zbl) HB3.out.size)))) ?_);rintro e w4 ⟨A4,c4,ys,rfl,hys,hown,hsp,hnw,hb4⟩;(have HYS:=zh hys);(have HOW:=zh hown);(have HSP:=zh hsp);clear hys hown hsp hnw)
    obtain⟨b9,hb9⟩:∃b,b=w4.heap.size:=⟨_,rfl⟩
    obtain⟨Wb,hWb⟩:∃W,W=w4.alloc (.cells #[.int .i64 tk,.int .i64 ls,.slice A4 ys.length c4] 66):=⟨_,rfl⟩
    rw[←hb9,←hWb]
    have hbb:Below w3.heap.size w3 Wb:=by rw[hWb];exact hb4.alloc hb4.size _
    have hb0b:Below W0.heap.size W0 Wb:=HB3.out.trans (hbb.mono HB3.out.size)
    have HBB:=zh hb0b
    have hsb:=hb0b.size
    have k9:Wb.heap[b9]? =some (.cells #[.int .i64 tk,.int .i64 ls,.slice A4 ys.length c4] 66 (0,0)):=by rw[hWb,hb9];exact heap_alloc_new w4 _
    have y9:=blk_lt k9
    have K9:=zh k9
    have ho:=HOW.out.below (w':=Wb) (by rw[hWb];exact Below.alloc (Below.refl _ _) (Nat.le_refl _) _)
    have HO:=zh ho
    have hA9:∀d,A4=some d→d.block<b9:=fun d hd=>by
     have h:=World.ownsRow.lt HOW.out.row d.block (by rw[hd];rfl)
     rw[hb9];exact h.2
    have hw9:W0.heap.size≤b9:=by rw[hb9];exact Nat.le_trans HB3.out.size hb4.size
    have HA9:=zh hA9
    have HW9:=zh (show ∀y∈ys,y.m.way≠ []→∀a,y.A=some a→a.block<b9 from fun y hy hne aa haa=>by
     obtain⟨b',off',e',hb',_⟩:=(HOW.out.each y hy).way.at hne
     rw[haa]at e'
     cases e'
     rw[hb9];exact hb')
    have hyl:ys.length=xs.length:=by simpa using congrArg List.length HYS.out
    have HYL:=zh hyl
    have hw3:W0.heap.size≤w3.heap.size:=HB3.out.size
    have hw3b:w3.heap.size≤Wb.heap.size:=hbb.size
    clear hWb hb9 hbb ho hA9 hb4 HOW g0 g1 g2 g3 q0 q1 q2 qf0 qf1 qf2 o0 o1 o2 o3 o4 o5 of0 of1 of2 of3 of4 of5 d0 d1 d2 df0 df1 df2
    (obtain⟨u0,uf0,u1,uf1,u2,uf2⟩:=cv3 k9)
    (have j0:=(hb0b.block w.heap.size l0).trans K0.out);(obtain⟨g0,g1,g2,g3⟩:=cg4 j0);(have j1:=(hb0b.block (w.heap.size+1) l1).trans K1.out);(obtain⟨q0,qf0,q1,qf1,q2,qf2⟩:=cv3 j1);(have j2:=(hb0b.block (w.heap.size+1+1) l2).trans K2.out);(obtain⟨o0,of0,o1,of1,o2,of2,o3,of3,o4,of4,o5,of5⟩:=cv6 j2);(have j3:=(hb0b.block (w.heap.size+1+1+1) l3).trans K3.out);(obtain⟨d0,df0,d1,df1,d2,df2⟩:=cv3 j3);(have JB:=zh j3);clear j0 j1 j2 j3
    clear k9 hb0b hyl
    go_wp2_with (at_builtin;go_loud (refine wpList_append_lies _ rfl _ _ 64 rfl w3.heap.size 107 i0 zeroMir 6 80 Tryz.underlying64 hi hz0 hz1 hz2 rfl (by decide) _ _ _ rfl (World.ownsRow.alloc HO.out.row _) ⟨Wb.heap.size,0,none⟩ 1 1 (encMA ⟨m,mA,mc⟩) rfl rfl ?c1 ?c2 (by decide) ?c3 ?c4 ?c5 _ rfl ?_))
    case c1=>exact encMA_cells Wb ⟨m,mA,mc⟩ _
    case c2=>exact encMA_one _
    case c3=>have:=HYL.out;unfold maxLen;omega
    case c4=>have:=HYL.out;omega
    case c5=>simp;omega
    intro gN cap1 w5 hown' hgrow hat hlt5
    have hat2:(Value.slice A4 ys.length c4).ownBlock=some gN∨gN=Wb.heap.size+1:=by first|exact hat|simpa using hat
    obtain⟨zs,hzs⟩:∃zs,zs=ys++ [(⟨m,mA,mc⟩:MA)]:=⟨_,rfl⟩
    have hoT:OwnT 107 w5 w3.heap.size (some ⟨gN,0,none⟩) cap1 zs:=by
     rw[hzs]
     have hT0:OwnT 107 Wb w3.heap.size A4 c4 ys:=HO.out
     have hal:Below Wb.heap.size Wb (Wb.alloc (.cells #[.string m.name,.string m.sec,.int .i64 m.loc,.slice mA m.way.length mc,.int .i64 m.left,.int .i64 m.heard] 107)):=Below.alloc (Below.refl _ _) (Nat.le_refl _) _
     have hM:MirR Wb Wb.heap.size m mA mc:=⟨HM.out.way.to HBB.out,HM.out.cap⟩
     have hlo:∀d,A4=some d→w3.heap.size≤d.block:=fun d hd=>(World.ownsRow.lt HO.out.row d.block (by rw[hd];rfl)).1
     refine OwnT.push (hT0.below hal) (x:=⟨m,mA,mc⟩) ⟨hM.way.to hal,hM.cap⟩ (fun hne aa haa d hd=>?_) hown' hgrow (by rw[World.size_alloc];exact hat2)
     obtain⟨b',off',e',hb',_⟩:=HM.out.way.at hne
     rw[show mA=some aa from haa]at e'
     cases e'
     have:=hlo d hd
     show b'≠d.block
     omega
    have hg9:w5.heap[b9]? =some (.cells #[.int .i64 tk,.int .i64 ls,.slice A4 ys.length c4] 66 (0,0)):=(gr_block hgrow (by rw[World.size_alloc];omega) (fun e=>by
     cases A4 with
     |none=>cases e
     |some d=>have h:=HA9.out d rfl;simp only[Value.ownBlock,Option.some.injEq]at e;omega)).trans ((Below.heap_alloc _ _ _ y9).trans K9.out)
    have hb5:Below W0.heap.size W0 w5:=Below.grown (HBB.out.alloc hsb _) hgrow (by rw[World.size_alloc];omega) (fun j e=>Nat.le_trans hw3 (World.ownsRow.lt HO.out.row j e).1)
    have HOT:=zh hoT
    have hne9:gN≠b9:=fun e=>by
     rcases hat2 with h1|h1
     ·cases A4 with
      |none=>cases h1
      |some d=>have h:=HA9.out d rfl;simp only[Value.ownBlock,Option.some.injEq]at h1;omega
     ·omega
    have HBL:=zh (show Blks (fun d=>d≠b9) (some ⟨gN,0,none⟩) zs from⟨fun _ aa haa=>by cases haa;exact hne9,fun z hz hne aa haa=>by
     rw[hzs]at hz
     rcases List.mem_append.1 hz with hz|hz
     ·exact Nat.ne_of_lt (HW9.out z hz hne aa haa)
     ·simp only[List.mem_singleton]at hz
      subst hz
      obtain⟨b',off',e',hb',_⟩:=HM.out.way.at hne
      rw[show mA=some aa from haa]at e'
      cases e'
      show b'≠b9
      omega⟩)
    have hzl:ys.length+1=zs.length:=by rw[hzs];simp
    have hzx:zs.map MA.m=xs.map MA.m++ [m]:=by rw[hzs,List.map_append,HYS.out];rfl
    have hfz:fldOf tk ls zs=addM (fldOf tk ls xs) m:=by unfold fldOf addM;rw[hzx]
    have hsz2:SmallF zs:=by
     have hin:∀z∈zs,z.m∈xs.map MA.m∨z.m=m:=fun z hz=>by
      have h1:z.m∈zs.map MA.m:=List.mem_map_of_mem hz
      rw[hzx]at h1
      rcases List.mem_append.1 h1 with h1|h1
      ·exact .inl h1
      ·exact .inr (by simpa using h1)
     refine⟨by have:=HYL.out;omega,fun z hz=>?_,fun z hz=>?_,fun z hz=>?_⟩<;>rcases hin z hz with h1|h1
     ·obtain⟨x,hx,e⟩:=List.mem_map.1 h1;rw[←e];exact HSF.out.name x hx
     ·rw[h1];exact HSM.out.1
     ·obtain⟨x,hx,e⟩:=List.mem_map.1 h1;rw[←e];exact HSF.out.sec x hx
     ·rw[h1];exact HSM.out.2.1
     ·obtain⟨x,hx,e⟩:=List.mem_map.1 h1;rw[←e];exact HSF.out.way x hx
     ·rw[h1];exact HSM.out.2.2
    have HSZ:=zh hsz2
    have HFZ:=zh hfz
    have HCF2:=zh (show ∀W,GridR W W.heap.size a g→FldR W W.heap.size (some ⟨gN,0,none⟩) cap1 zs→Calls Tryz.prog 41 #[(.agg #[.int .i64 g.blur,.slice a.pS g.sta.length a.cs,.slice a.pM g.mov.length a.cm,.slice a.pZ g.zon.length a.cz]),(.agg #[.int .i64 tk,.int .i64 ls,.slice (some ⟨gN,0,none⟩) zs.length cap1])] W fun e w'=>e=.returned (.int .i64 E1)∧Below W.heap.size W w' from fun W h1 h3=>by
     rw[HE1.out,←HFZ.out];exact rCheckField_c a g tk ls _ cap1 zs W HS.out HSZ.out.n HSZ.out.way (fun z hz=>⟨HSZ.out.name z hz,HSZ.out.sec z hz⟩) h1 h3)
    have HBK:=zh (show Blks (fun d=>w3.heap.size≤d∨(d<w.heap.size∧m.way≠ []∧∃aa,mA=some aa∧d=aa.block)) (some ⟨gN,0,none⟩) zs from⟨fun _ aa haa=>by cases haa;exact .inl (World.ownsRow.lt hown' gN rfl).1,fun z hz hne aa haa=>by
     rw[hzs]at hz
     rcases List.mem_append.1 hz with hz|hz
     ·exact .inl (HSP.out z hz aa haa)
     ·simp only[List.mem_singleton]at hz
      subst hz
      obtain⟨b',off',e',hb',_⟩:=HMW.out.way.at hne
      rw[show mA=some aa from haa]at e'
      cases e'
      exact .inr ⟨hb',hne,_,haa,rfl⟩⟩)
    have HG9:=zh hg9
    have HB5:=zh hb5
    have HZL:=zh hzl
    clear u0 u1 u2 uf0 uf1 uf2 hown' hgrow hat hat2 hlt5 hoT hne9 hzs hzl hzx hfz hsz2 g0 g1 g2 g3 q0 q1 q2 qf0 qf1 qf2 o0 o1 o2 o3 o4 o5 of0 of1 of2 of3 of4 of5 d0 d1 d2 df0 df1 df2
    (obtain⟨u0,uf0,u1,uf1,u2,uf2⟩:=cv3 hg9)
    (have j0:=(hb5.block w.heap.size l0).trans K0.out);(obtain⟨g0,g1,g2,g3⟩:=cg4 j0);(have j1:=(hb5.block (w.heap.size+1) l1).trans K1.out);(obtain⟨q0,qf0,q1,qf1,q2,qf2⟩:=cv3 j1);(have j2:=(hb5.block (w.heap.size+1+1) l2).trans K2.out);(obtain⟨o0,of0,o1,of1,o2,of2,o3,of3,o4,of4,o5,of5⟩:=cv6 j2);(have j3:=(hb5.block (w.heap.size+1+1+1) l3).trans K3.out);(obtain⟨d0,df0,d1,df1,d2,df2⟩:=cv3 j3);(have J5:=zh j3);clear j0 j1 j2 j3
    clear hg9 hb5
    go_upto_region 9 with fail
    rw[HZL.out]
    obtain⟨W6,hW6⟩:∃W,W=w5.setCell ⟨b9,2,none⟩ (.slice (some ⟨gN,0,none⟩) zs.length cap1):=⟨_,rfl⟩
    rw[←hW6]
    have hb6:Below W0.heap.size W0 W6:=by rw[hW6];exact Below.setCell HB5.out (p:=⟨b9,2,none⟩) hw9 _
    have k9:W6.heap[b9]? =some (.cells #[.int .i64 tk,.int .i64 ls,.slice (some ⟨gN,0,none⟩) zs.length cap1] 66 (0,0)):=by rw[hW6];exact heap_setCell_same w5 b9 2 _ _ _ HG9.out
    have hf6:FldR W6 W6.heap.size (some ⟨gN,0,none⟩) cap1 zs:=by rw[hW6];exact(HOT.out.fld.setc (p:=⟨b9,2,none⟩) _ HBL.out).more (by simp)
    have HF6:=zh hf6
    have HB6:=zh hb6
    have hs6:=hb6.size
    clear hW6 hf6 u0 u1 u2 uf0 uf1 uf2 g0 g1 g2 g3 q0 q1 q2 qf0 qf1 qf2 o0 o1 o2 o3 o4 o5 of0 of1 of2 of3 of4 of5 d0 d1 d2 df0 df1 df2
    (obtain⟨u0,uf0,u1,uf1,u2,uf2⟩:=cv3 k9)
    (have j0:=(hb6.block w.heap.size l0).trans K0.out);(obtain⟨g0,g1,g2,g3⟩:=cg4 j0);(have j1:=(hb6.block (w.heap.size+1) l1).trans K1.out);(obtain⟨q0,qf0,q1,qf1,q2,qf2⟩:=cv3 j1);(have j2:=(hb6.block (w.heap.size+1+1) l2).trans K2.out);(obtain⟨o0,of0,o1,of1,o2,of2,o3,of3,o4,of4,o5,of5⟩:=cv6 j2);(have j3:=(hb6.block (w.heap.size+1+1+1) l3).trans K3.out);(obtain⟨d0,df0,d1,df1,d2,df2⟩:=cv3 j3);(have J6:=zh j3);clear j0 j1 j2 j3
    have y9:=blk_lt k9
    have K9:=zh k9
    clear k9 hb6
    go_upto_region 10 with (go_at_call 41;(with_reducible refine Calls.mono (HCF2.out _ (HG.out.to (HB6.out.trans (Below.mono (by exact zbl) HB6.out.size))) (HF6.out.to (by exact zbl))) ?_);rintro e w7 ⟨rfl,hb7⟩)
    have hb07:Below W0.heap.size W0 w7:=HB6.out.trans (hb7.mono HB6.out.size)
    have k9:=(hb7.block b9 y9).trans K9.out
    have HB7:=zh hb07
    have HF7:=zh (HF6.out.to hb7)
    have hs7:=hb07.size
    clear u0 u1 u2 uf0 uf1 uf2 g0 g1 g2 g3 q0 q1 q2 qf0 qf1 qf2 o0 o1 o2 o3 o4 o5 of0 of1 of2 of3 of4 of5 d0 d1 d2 df0 df1 df2
    (obtain⟨u0,uf0,u1,uf1,u2,uf2⟩:=cv3 k9)
    (have j0:=(hb07.block w.heap.size l0).trans K0.out);(obtain⟨g0,g1,g2,g3⟩:=cg4 j0);(have j1:=(hb07.block (w.heap.size+1) l1).trans K1.out);(obtain⟨q0,qf0,q1,qf1,q2,qf2⟩:=cv3 j1);(have j2:=(hb07.block (w.heap.size+1+1) l2).trans K2.out);(obtain⟨o0,of0,o1,of1,o2,of2,o3,of3,o4,of4,o5,of5⟩:=cv6 j2);(have j3:=(hb07.block (w.heap.size+1+1+1) l3).trans K3.out);(obtain⟨d0,df0,d1,df1,d2,df2⟩:=cv3 j3);(have J7:=zh j3);clear j0 j1 j2 j3
    clear k9 hb7 hb07
    by_cases he1:E1=0
    ·have hz1:(E1 !=0)=false:=by rw[bne_eq_false_iff_eq];exact he1
     have HN:=zh (HJ.out.trans he1)
     clear he1
     go_wp2_with fail
     refine bodyPost_ret (Tryz.rres_fld2 rfl _ _ rfl (set3_block J7.out)) rfl ?_
     refine⟨tk,ls,some ⟨gN,0,none⟩,cap1,zs,by rw[HN.out];rfl,?_,(HF7.out.set3 _ _ _ (HBK.out.imp fun d hd e=>by rcases hd with hd|hd<;>omega)).more (by simp),HBK.out.imp fun d hd=>hd.imp (fun h=>by omega) (fun h=>h.2),Below.set3 (HB0.out.trans (HB7.out.mono HB0.out.size)) (by omega) _ _ _⟩
     unfold joF
     rw[if_pos HN.out,←HFZ.out]
    ·have hz1:(E1 !=0)=true:=by rw[bne_iff_ne];exact he1
     have HN:=zh he1
     clear he1
     go_wp2_with fail
     refine bodyPost_ret (Tryz.rres_fld2 rfl _ _ rfl (set3_block J7.out)) rfl ?_
     exact⟨0,0,none,0,[],by rw[HJ.out];rfl,by unfold joF;rw[if_neg (by rw[HJ.out];exact HN.out)];rfl,FldR.nil_ _ _,blks_nil,Below.set3 (HB0.out.trans (HB7.out.mono HB0.out.size)) (by omega) _ _ _⟩
theorem OwnT.fresh{T:TypeId}{w:World}{base c:Nat}{A:Option Addr}{ys:List MA}(h:OwnT T w base A c ys)(hs:∀y∈ys,∀a,y.A=some a→base≤a.block):Fresh base A ys:=
 ⟨fun _ a ha=>(World.ownsRow.lt h.row a.block (by rw[ha];rfl)).1,fun y hy _ a ha=>hs y hy a ha⟩
theorem src_take{T:TypeId}{W:World}{base c gb:Nat}{ys:List MA}(h:OwnT T W base (some ⟨gb,0,none⟩) c ys)(i:Nat):∀j u,(((ys.take i).map encMA).flatten)[j]? =some u→W.cell? ((⟨gb,0,none⟩:Addr).add j)=some u:=fun j u hj=>by
 refine h.row.cells (g:=gb) rfl j u ?_
 have e:ys.map encMA=(ys.take i).map encMA++(ys.drop i).map encMA:=by rw[←List.map_append,List.take_append_drop]
 rw[e,List.flatten_append,List.getElem?_append_left (List.getElem?_eq_some_iff.1 hj).1]
 exact hj
theorem src_drop{T:TypeId}{W:World}{base c gb:Nat}{ys:List MA}(h:OwnT T W base (some ⟨gb,0,none⟩) c ys)(i:Nat)(hi:i≤ys.length):∀j u,(((ys.drop i).map encMA).flatten)[j]? =some u→W.cell? ((⟨gb,i*6,none⟩:Addr).add j)=some u:=fun j u hj=>by
 have e:ys.map encMA=(ys.take i).map encMA++(ys.drop i).map encMA:=by rw[←List.map_append,List.take_append_drop]
 have hl:(((ys.take i).map encMA).flatten).length=i*6:=by rw[flat_len (n:=6) encMA_len,List.length_map,List.length_take,Nat.min_eq_left hi]
 have h1:=h.row.cells (g:=gb) rfl (i*6+j) u (by
  rw[e,List.flatten_append,List.getElem?_append_right (by omega),hl,Nat.add_sub_cancel_left]
  exact hj)
 rw[Addr.add_lit]at h1 ⊢
 rw[←h1,Nat.zero_add]
theorem part_one(l:List MA):∀u∈(l.map encMA).flatten,u.oneCell'=true:=by
 intro u hu
 obtain⟨r,hr,hu⟩:=List.mem_flatten.1 hu
 obtain⟨x,_,rfl⟩:=List.mem_map.1 hr
 exact encMA_one x u hu
theorem part_len(l:List MA):((l.map encMA).flatten).length=l.length*6:=by rw[flat_len (n:=6) encMA_len,List.length_map]
set_option maxRecDepth 100000 in
set_option maxHeartbeats 8000000 in
theorem rTaken_c(a:GA)(g:Grd)(tk ls:Int)(A:Option Addr)(c:Nat)(xs:List MA)(nm:ByteArray)(w:World)(hs:SmallG g)(hsf:SmallF xs)(h0:fieldC g (fldOf tk ls xs)=0)(hr:GridR w w.heap.size a g)(hf:FldR w w.heap.size A c xs):
 Calls Tryz.prog 80 #[(.agg #[.int .i64 g.blur,.slice a.pS g.sta.length a.cs,.slice a.pM g.mov.length a.cm,.slice a.pZ g.zon.length a.cz]),(.agg #[.int .i64 tk,.int .i64 ls,.slice A xs.length c]),.string nm] w fun e w'=>∃tk' ls' A' c' zs,e=.returned (.tuple #[(.agg #[.int .i64 tk',.int .i64 ls',.slice A' zs.length c']),.int .i64 (takE g (fldOf tk ls xs) nm)])∧fldOf tk' ls' zs=takF g (fldOf tk ls xs) nm∧FldR w' w'.heap.size A' c' zs∧Blks (fun d=>w.heap.size≤d) A' zs∧Below w.heap.size w w':=by
 obtain⟨i0,hi0,hz0,hz1,hz2⟩:=info_parts Tryz.infoRM
 obtain⟨W0,hW0⟩:∃W0,W0=(((w.alloc (.cells #[.int .i64 g.blur,.slice a.pS g.sta.length a.cs,.slice a.pM g.mov.length a.cm,.slice a.pZ g.zon.length a.cz] 26)).alloc (.cells #[.int .i64 tk,.int .i64 ls,.slice A xs.length c] 66)).alloc (.cells #[.int .i64 0,.int .i64 0,.slice none 0 0] 66)):=⟨_,rfl⟩
 have hB0:Below w.heap.size w W0:=by rw[hW0];(repeat first|(with_reducible first|assumption|exact Below.refl _ _|refine Bl.drew ?_|refine Bl.drewN ?_ _|refine Bl.alloc ?_ _|refine Bl.set ?_ _ ?_)|(with_reducible apply Bl.step';(focus(with_reducible assumption)))|omega|(focus(simp;done))|(focus(simp;omega)))
 have hsz:W0.heap.size=w.heap.size+3:=by rw[hW0];simp
 have k0:W0.heap[w.heap.size]? =some (.cells #[.int .i64 g.blur,.slice a.pS g.sta.length a.cs,.slice a.pM g.mov.length a.cm,.slice a.pZ g.zon.length a.cz] 26 (0,0)):=by rw[hW0];exact heap_fst _ _ _ _
 have k1:W0.heap[w.heap.size+1]? =some (.cells #[.int .i64 tk,.int .i64 ls,.slice A xs.length c] 66 (0,0)):=by rw[hW0];exact heap_mid _ _ _ _
 have k3:W0.heap[w.heap.size+1+1]? =some (.cells #[.int .i64 0,.int .i64 0,.slice none 0 0] 66 (0,0)):=by rw[hW0];exact heap_lst _ _ _ _
 have HG:=zh (hr.to hB0)
 have HK:=zh trivial
 have HF:=zh (hf.to hB0)
 have hl:=hsf.n
 have HS:=zh hs
 have HSF:=zh hsf
 have K0:=zh k0
 have l0:w.heap.size<W0.heap.size:=by omega
 have K1:=zh k1
 have l1:w.heap.size+1<W0.heap.size:=by omega
 have K3:=zh k3
 have l3:w.heap.size+1+1<W0.heap.size:=by omega
 have HB0:=zh hB0
 clear hr hf hs hsf hB0
 (obtain⟨g0,g1,g2,g3⟩:=cg4 k0)
 (obtain⟨q0,qf0,q1,qf1,q2,qf2⟩:=cv3 k1)
 (obtain⟨d0,df0,d1,df1,d2,df2⟩:=cv3 k3)
 clear k0 k1 k3
 obtain⟨hok,hu,hof⟩:=fldOk h0
 have hn16:xs.length≤16:=by have:=hof.n;simpa [fldOf]using this
 obtain⟨fi,hfi⟩:∃fi,fi=findG (fldOf tk ls xs) nm:=⟨_,rfl⟩
 have hlt:=find_lt tk ls xs nm
 rw[←hfi]at hlt
 have HAT:=zh (show ∀W,FldR W W.heap.size A c xs→Calls Tryz.prog 76 #[(.agg #[.int .i64 tk,.int .i64 ls,.slice A xs.length c]),.string nm] W fun e w'=>e=.returned (.int .i64 fi)∧Below W.heap.size W w' from fun W h=>by
  have h1:=rAt_c tk ls A c xs nm W (by omega) h
  rw[idxF_map MA.m (fun m:Mir=>sEq m.name nm) xs]at h1
  rw[hfi];exact h1)
 cases hlz:decide (fi<0)
 case true=>
  have h1:fi<0:=of_decide_eq_true hlz
  have he:takE g (fldOf tk ls xs) nm=10:=by unfold takE;rw[if_pos h0,←hfi,if_pos h1]
  have hF:takF g (fldOf tk ls xs) nm=fld0:=by unfold takF;rw[he];rfl
  rw[he,hF]
  clear he hF h1 hfi h0 hok hu hof
  go_enter Tryz.func80,Tryz.ntmps80
  go_upto_region 1 with fail
  rw[←hW0]
  clear hW0
  go_wp2_with (go_at_call 76;(with_reducible refine Calls.mono (HAT.out _ (HF.out.to (by exact zbl))) ?_);rintro e w1 ⟨rfl,hb1⟩;(have hb01:Below W0.heap.size W0 w1:=by exact zbl);(have HB1:=zh hb01);clear g0 g1 g2 g3 q0 q1 q2 qf0 qf1 qf2 d0 d1 d2 df0 df1 df2;(have j0:=(hb01.block w.heap.size l0).trans K0.out);(obtain⟨g0,g1,g2,g3⟩:=cg4 j0);(have j1:=(hb01.block (w.heap.size+1) l1).trans K1.out);(obtain⟨q0,qf0,q1,qf1,q2,qf2⟩:=cv3 j1);(have j3:=(hb01.block (w.heap.size+1+1) l3).trans K3.out);(obtain⟨d0,df0,d1,df1,d2,df2⟩:=cv3 j3);(have J1:=zh j3);clear j0 j1 j3)
  refine bodyPost_ret (Tryz.rres_fld2 rfl _ _ rfl (set3_block J1.out)) rfl ?_
  exact⟨0,0,none,0,[],rfl,rfl,FldR.nil_ _ _,blks_nil,Below.set3 (HB0.out.trans (hb01.mono HB0.out.size)) (by omega) _ _ _⟩
 case false=>
  have h1:¬fi<0:=of_decide_eq_false hlz
  obtain⟨i,hi⟩:=Int.eq_ofNat_of_zero_le (show 0≤fi by omega)
  subst hi
  have hx:i<xs.length:=by omega
  have hat:(fldOf tk ls xs).mir.getD (findG (fldOf tk ls xs) nm).toNat default=xs[i].m:=by rw[←hfi];exact tak_at tk ls xs i hx
  have HST:=zh (fun W (h1:GridR W W.heap.size a g)=>rIsDark_c a g xs[i].m xs[i].A xs[i].c W (hof.loc xs[i] (List.getElem_mem hx)) h1)
  cases hst:standsG g xs[i].m
  case false=>
   have he:takE g (fldOf tk ls xs) nm=22:=by unfold takE;rw[if_pos h0,if_neg (by rw[←hfi];exact h1),hat,hst];rfl
   have hF:takF g (fldOf tk ls xs) nm=fld0:=by unfold takF;rw[he];rfl
   rw[he,hF]
   rw[hst]at HST
   clear he hF h1 hfi h0 hok hu hof hat hst hlt
   go_enter Tryz.func80,Tryz.ntmps80
   go_upto_region 1 with fail
   rw[←hW0]
   clear hW0
   go_upto_region 4 with (go_at_call 76;(with_reducible refine Calls.mono (HAT.out _ (HF.out.to (by exact zbl))) ?_);rintro e w1 ⟨rfl,hb1⟩;(have hb01:Below W0.heap.size W0 w1:=by exact zbl);(have HB1:=zh hb01);clear g0 g1 g2 g3 q0 q1 q2 qf0 qf1 qf2 d0 d1 d2 df0 df1 df2;(have j0:=(hb01.block w.heap.size l0).trans K0.out);(obtain⟨g0,g1,g2,g3⟩:=cg4 j0);(have j1:=(hb01.block (w.heap.size+1) l1).trans K1.out);(obtain⟨q0,qf0,q1,qf1,q2,qf2⟩:=cv3 j1);(have j3:=(hb01.block (w.heap.size+1+1) l3).trans K3.out);(obtain⟨d0,df0,d1,df1,d2,df2⟩:=cv3 j3);(have J1:=zh j3);clear j0 j1 j3)
   have hs1:=hb01.size
   obtain⟨w3,hw3⟩:∃W,W=w1:=⟨_,rfl⟩
   subst hw3
   obtain⟨bm,om,eA,hbm,c0,c1,c2,c3,c4,c5⟩:=(HF.out.to hb01).rw_.get6 (k:=i) (by simpa using hx) (by rw[List.getElem_map];rfl)
   have y0:w.heap.size<w3.heap.size:=by omega
   have y1:w.heap.size+1<w3.heap.size:=by omega
   have y2:w.heap.size+1+1<w3.heap.size:=by omega
   clear hb1 hb01
   rw[eA]at q2
   have HEA:=zh eA
   clear eA
   go_cut [24] (fun s wx=>s=.bool true∧Below w3.heap.size w3 wx)
   case first=>
    go_region_held3 (SHd w3) ((refine Sh.goal ?_;exact zsh)) (first|(go_at_call 129;(with_reducible refine Calls.mono (HST.out _ (HG.out.to (HB1.out.trans (Below.mono (by exact zbl) HB1.out.size)))) ?_);rintro e w4 ⟨rfl,hb4⟩))
    all_goals
     go_wp2_with fail
     go_meet
     exact⟨rfl,by exact zbl⟩
   case rest=>
    obtain⟨rfl,hb4⟩:=hcut
    obtain⟨W4,rfl⟩:∃W,W=wc:=⟨wc,rfl⟩
    have hb04:Below W0.heap.size W0 W4:=HB1.out.trans (hb4.mono HB1.out.size)
    have HB4:=zh hb04
    have hs4:=hb04.size
    clear g0 g1 g2 g3 q0 q1 q2 qf0 qf1 qf2 d0 d1 d2 df0 df1 df2
    clear c0 c1 c2 c3 c4 c5 y0 y1 y2 hbm HEA
    (have j0:=(hb04.block w.heap.size l0).trans K0.out);(obtain⟨g0,g1,g2,g3⟩:=cg4 j0);(have j1:=(hb04.block (w.heap.size+1) l1).trans K1.out);(obtain⟨q0,qf0,q1,qf1,q2,qf2⟩:=cv3 j1);(have j3:=(hb04.block (w.heap.size+1+1) l3).trans K3.out);(obtain⟨d0,df0,d1,df1,d2,df2⟩:=cv3 j3);(have J4:=zh j3);clear j0 j1 j3
    clear hb4 hb04
    go_wp2_with fail
    refine bodyPost_ret (Tryz.rres_fld2 rfl _ _ rfl (set3_block J4.out)) rfl ?_
    exact⟨0,0,none,0,[],rfl,rfl,FldR.nil_ _ _,blks_nil,Below.set3 (HB0.out.trans (HB4.out.mono HB0.out.size)) (by omega) _ _ _⟩
  case true=>
   have he:takE g (fldOf tk ls xs) nm=0:=by unfold takE;rw[if_pos h0,if_neg (by rw[←hfi];exact h1),hat,hst];rfl
   have hF:takF g (fldOf tk ls xs) nm=delM (fldOf tk ls xs) i:=by unfold takF;rw[he,if_pos rfl,←hfi];rfl
   rw[he,hF]
   rw[hst]at HST
   clear he hF h1 hfi h0 hok hu hof hat hst hlt
   go_enter Tryz.func80,Tryz.ntmps80
   go_upto_region 1 with fail
   rw[←hW0]
   clear hW0
   go_upto_region 4 with (go_at_call 76;(with_reducible refine Calls.mono (HAT.out _ (HF.out.to (by exact zbl))) ?_);rintro e w1 ⟨rfl,hb1⟩;(have hb01:Below W0.heap.size W0 w1:=by exact zbl);(have HB1:=zh hb01);clear g0 g1 g2 g3 q0 q1 q2 qf0 qf1 qf2 d0 d1 d2 df0 df1 df2;(have j0:=(hb01.block w.heap.size l0).trans K0.out);(obtain⟨g0,g1,g2,g3⟩:=cg4 j0);(have j1:=(hb01.block (w.heap.size+1) l1).trans K1.out);(obtain⟨q0,qf0,q1,qf1,q2,qf2⟩:=cv3 j1);(have j3:=(hb01.block (w.heap.size+1+1) l3).trans K3.out);(obtain⟨d0,df0,d1,df1,d2,df2⟩:=cv3 j3);(have J1:=zh j3);clear j0 j1 j3)
   have hs1:=hb01.size
   obtain⟨w3,hw3⟩:∃W,W=w1:=⟨_,rfl⟩
   subst hw3
   obtain⟨bm,om,eA,hbm,c0,c1,c2,c3,c4,c5⟩:=(HF.out.to hb01).rw_.get6 (k:=i) (by simpa using hx) (by rw[List.getElem_map];rfl)
   have y0:w.heap.size<w3.heap.size:=by omega
   have y1:w.heap.size+1<w3.heap.size:=by omega
   have y2:w.heap.size+1+1<w3.heap.size:=by omega
   clear hb1 hb01
   rw[eA]at q2
   have HEA:=zh eA
   clear eA
   go_cut [24] (fun s wx=>s=.bool false∧Below w3.heap.size w3 wx)
   case first=>
    go_region_held3 (SHd w3) ((refine Sh.goal ?_;exact zsh)) (first|(go_at_call 129;(with_reducible refine Calls.mono (HST.out _ (HG.out.to (HB1.out.trans (Below.mono (by exact zbl) HB1.out.size)))) ?_);rintro e w4 ⟨rfl,hb4⟩))
    all_goals
     go_wp2_with fail
     go_meet
     exact⟨rfl,by exact zbl⟩
   case rest=>
    obtain⟨rfl,hb4⟩:=hcut
    obtain⟨W4,rfl⟩:∃W,W=wc:=⟨wc,rfl⟩
    have hb04:Below W0.heap.size W0 W4:=HB1.out.trans (hb4.mono HB1.out.size)
    have HB4:=zh hb04
    have hs4:=hb04.size
    clear g0 g1 g2 g3 q0 q1 q2 qf0 qf1 qf2 d0 d1 d2 df0 df1 df2
    clear c0 c1 c2 c3 c4 c5 y0 y1 y2 hbm HEA
    (have j0:=(hb04.block w.heap.size l0).trans K0.out);(obtain⟨g0,g1,g2,g3⟩:=cg4 j0);(have j1:=(hb04.block (w.heap.size+1) l1).trans K1.out);(obtain⟨q0,qf0,q1,qf1,q2,qf2⟩:=cv3 j1);(have j3:=(hb04.block (w.heap.size+1+1) l3).trans K3.out);(obtain⟨d0,df0,d1,df1,d2,df2⟩:=cv3 j3);(have J4:=zh j3);clear j0 j1 j3
    clear hb4 hb04
    go_upto_region 7 with (go_at_call 117;(with_reducible refine Calls.mono (rOwn0_c tk ls A c xs _ hl HSF.out.way (HF.out.to (HB4.out.trans (Below.mono (by exact zbl) HB4.out.size)))) ?_);rintro e w5 ⟨A5,c5,ys,rfl,hys,hown,hsp,hnw,hb5⟩;(have HYS:=zh hys);(have HOW:=zh hown);(have HSP:=zh hsp);clear hys hown hsp hnw)
    obtain⟨b9,hb9⟩:∃b,b=w5.heap.size:=⟨_,rfl⟩
    obtain⟨Wb,hWb⟩:∃W,W=w5.alloc (.cells #[.int .i64 tk,.int .i64 ls,.slice A5 ys.length c5] 66):=⟨_,rfl⟩
    rw[←hb9,←hWb]
    have hbb:Below W4.heap.size W4 Wb:=by rw[hWb];exact hb5.alloc hb5.size _
    have hb0b:Below W0.heap.size W0 Wb:=HB4.out.trans (hbb.mono HB4.out.size)
    have HBB:=zh hb0b
    have k9:Wb.heap[b9]? =some (.cells #[.int .i64 tk,.int .i64 ls,.slice A5 ys.length c5] 66 (0,0)):=by rw[hWb,hb9];exact heap_alloc_new w5 _
    have y9:=blk_lt k9
    have K9:=zh k9
    have HO:=zh (HOW.out.below (w':=Wb) (by rw[hWb];exact Below.alloc (Below.refl _ _) (Nat.le_refl _) _))
    have HA9:=zh (show ∀d,A5=some d→d.block<b9 from fun d hd=>by
     have h:=World.ownsRow.lt HOW.out.row d.block (by rw[hd];rfl)
     rw[hb9];exact h.2)
    have HW9:=zh (show ∀y∈ys,y.m.way≠ []→∀a,y.A=some a→a.block<b9 from fun y hy hne aa haa=>by
     obtain⟨b',off',e',hb',_⟩:=(HOW.out.each y hy).way.at hne
     rw[haa]at e'
     cases e'
     rw[hb9];exact hb')
    have HOWF:=zh (HOW.out.fresh HSP.out)
    have hw9:W0.heap.size≤b9:=by rw[hb9];exact Nat.le_trans HB4.out.size hb5.size
    have hyl:ys.length=xs.length:=by simpa using congrArg List.length HYS.out
    have hw4:W0.heap.size≤W4.heap.size:=HB4.out.size
    have hw4b:W4.heap.size≤Wb.heap.size:=hbb.size
    have hwb:W0.heap.size≤Wb.heap.size:=hb0b.size
    have hiy:i<ys.length:=by omega
    have hyn:ys.length≤1000:=by omega
    clear hWb hb9 hbb hb5 HOW g0 g1 g2 g3 q0 q1 q2 qf0 qf1 qf2 d0 d1 d2 df0 df1 df2
    (obtain⟨u0,uf0,u1,uf1,u2,uf2⟩:=cv3 k9)
    clear k9 hyl
    (have j0:=(hb0b.block w.heap.size l0).trans K0.out);(obtain⟨g0,g1,g2,g3⟩:=cg4 j0);(have j1:=(hb0b.block (w.heap.size+1) l1).trans K1.out);(obtain⟨q0,qf0,q1,qf1,q2,qf2⟩:=cv3 j1);(have j3:=(hb0b.block (w.heap.size+1+1) l3).trans K3.out);(obtain⟨d0,df0,d1,df1,d2,df2⟩:=cv3 j3);(have JB:=zh j3);clear j0 j1 j3
    clear hb0b
    obtain⟨gb,cap,hv,hgb,hgl⟩:=HO.out.row.form (by omega)
    injection hv with hvA hvl hvc
    subst hvA
    subst hvc
    have hcap:=HO.out.fld.cap
    have hemp:(Wb.alloc (.cells #[] 107)).ownsRow Wb.heap.size 107 6 (.slice (some ⟨Wb.heap.size,0,none⟩) 0 0) 0 []:=⟨by simp,.inr ⟨Wb.heap.size,0,#[],rfl,Nat.le_refl _,heap_alloc_new Wb _,Nat.le_refl _,Nat.zero_le _,rfl,rfl⟩⟩
    have HEM:=zh hemp
    clear hemp
    obtain⟨n1,hn1⟩:∃n,n=((ys.take i).map encMA).flatten:=⟨_,rfl⟩
    have HS1:=zh (src_take HO.out i)
    have HL1:=zh (part_len (ys.take i))
    have HP1:=zh (part_one (ys.take i))
    rw[←hn1,List.length_take,Nat.min_eq_left (by omega)]at HL1
    rw[←hn1]at HS1 HP1
    have HN1:=zh hn1
    clear hn1
    go_wp2_with (at_builtin;refine wpList_append_own _ rfl _ _ 64 rfl Wb.heap.size 107 i0 zeroMir 6 80 Tryz.underlying64 hi0 hz0 hz1 hz2 rfl (by decide) (.slice (some ⟨Wb.heap.size,0,none⟩) 0 0) 0 [] rfl ?c0 ⟨gb,0,none⟩ i c5 n1 rfl ?cl ?c1 ?c2 ?c3 ?c4 ?c5 ?_)
    case c0=>exact HEM.out
    case cl=>exact HL1.out
    case c1=>intro j u hj;have h:=HS1.out j u hj;rw[add0]at h;exact h
    case c2=>exact HP1.out
    case c3=>unfold maxLen;omega
    case c4=>omega
    intro v6 w6 hown6 hgrow6 _
    obtain⟨A6,c6,rfl⟩:=own_form hown6
    have hb6:Below Wb.heap.size Wb w6:=Below.grown (Below.alloc (Below.refl _ _) (Nat.le_refl _) _) hgrow6 (by simp) (fun j e=>by cases e;exact Nat.le_refl _)
    have HO6:=zh (show w6.ownsRow Wb.heap.size 107 6 (.slice A6 i c6) i n1 by simpa using hown6)
    have HB6:=zh hb6
    have k9:=(hb6.block b9 y9).trans K9.out
    have K96:=zh k9
    obtain⟨n2,hn2⟩:∃n,n=((ys.drop (i+1)).map encMA).flatten:=⟨_,rfl⟩
    have hs2:=src_drop (HO.out.below hb6) (i+1) (by omega)
    have HL2:=zh (part_len (ys.drop (i+1)))
    have HP2:=zh (part_one (ys.drop (i+1)))
    rw[←hn2,List.length_drop]at HL2
    rw[←hn2]at hs2 HP2
    have HN2:=zh hn2
    obtain⟨AD,hAD,HS2⟩:∃AD:Addr,(if c5=i+1 then some (⟨gb,0,none⟩:Addr)else some ⟨gb,(i+1)*6,none⟩)=some AD∧Hid (∀j u,n2[j]? =some u→w6.cell? (AD.add j)=some u):=by
     by_cases hcj:c5=i+1
     ·refine⟨⟨gb,0,none⟩,by simp[hcj],zh fun t u hu=>?_⟩
      have ht:=(List.getElem?_eq_some_iff.1 hu).1
      have:=HL2.out
      omega
     ·exact⟨⟨gb,(i+1)*6,none⟩,by simp[hcj],zh fun t u hu=>hs2 t u hu⟩
    have hix:IntKind.i64.wrap ((i:Int)+1)=(i:Int)+1:=IntWalk.i64_in _ (by omega)
    have hb06:Below W0.heap.size W0 w6:=HBB.out.trans (hb6.mono hwb)
    have hs6:=hb6.size
    clear hown6 hgrow6 u0 u1 u2 uf0 uf1 uf2 hn2 hs2 g0 g1 g2 g3 q0 q1 q2 qf0 qf1 qf2 d0 d1 d2 df0 df1 df2
    (obtain⟨u0,uf0,u1,uf1,u2,uf2⟩:=cv3 k9)
    (have j0:=(hb06.block w.heap.size l0).trans K0.out);(obtain⟨g0,g1,g2,g3⟩:=cg4 j0);(have j1:=(hb06.block (w.heap.size+1) l1).trans K1.out);(obtain⟨q0,qf0,q1,qf1,q2,qf2⟩:=cv3 j1);(have j3:=(hb06.block (w.heap.size+1+1) l3).trans K3.out);(obtain⟨d0,df0,d1,df1,d2,df2⟩:=cv3 j3);(have J6:=zh j3);clear j0 j1 j3
    clear k9 hb06 hb6
    go_upto_region 8 with fail
    go_wp2_with (at_builtin;refine wpList_append_own _ rfl _ _ 64 rfl Wb.heap.size 107 i0 zeroMir 6 80 Tryz.underlying64 hi0 hz0 hz1 hz2 rfl (by decide) (.slice A6 i c6) i n1 rfl ?d0 AD (ys.length-(i+1)) (c5-(i+1)) n2 rfl ?dl ?d1 ?d2 ?d3 ?d4 ?d5 ?_)
    case d0=>exact HO6.out
    case dl=>exact HL2.out
    case d1=>exact HS2.out
    case d2=>exact HP2.out
    case d3=>unfold maxLen;omega
    case d4=>omega
    case d5=>omega
    intro v7 w7 hown7 hgrow7 _
    obtain⟨A7,c7,rfl⟩:=own_form hown7
    have hl1:i+(ys.length-(i+1))=(ys.eraseIdx i).length:=by rw[List.length_eraseIdx,if_pos hiy];omega
    obtain⟨zs,hzs⟩:∃zs,zs=ys.eraseIdx i:=⟨_,rfl⟩
    have hb67:Below Wb.heap.size Wb w7:=Below.grown (HB6.out.mono (Nat.le_refl _)) hgrow7 hs6 (fun j e=>(World.ownsRow.lt HO6.out j e).1)
    have hrow:=own_rw (l:=zs.map encMA) (by
     have e:(zs.map encMA).flatten=n1++n2:=by rw[hzs,HN1.out,HN2.out,List.eraseIdx_eq_take_drop_succ,List.map_append,List.flatten_append]
     rw[e];exact hown7) (by rw[List.length_map,hzs,hl1]) encMA_len
    obtain⟨A8,c8,e8,hc8,hr8,hlo8⟩:=hrow
    injection e8 with eA el ec
    subst eA ec
    rw[←hzs]at hl1
    have hf7:FldR w7 w7.heap.size A7 c7 zs:=⟨hr8,fun x hx=>by
     have hxy:x∈ys:=by rw[hzs]at hx;exact List.mem_of_mem_eraseIdx hx
     have h1:=HO.out.each x hxy
     exact⟨h1.way.to hb67,h1.cap⟩,by omega⟩
    have hbl9:Blks (fun d=>d≠b9) A7 zs:=⟨fun _ d hd e=>by have h:=hlo8 d hd;omega,fun z hz hne aa haa=>Nat.ne_of_lt (HW9.out z (by rw[hzs]at hz;exact List.mem_of_mem_eraseIdx hz) hne aa haa)⟩
    have HFRZ:=zh (show Blks (fun d=>W4.heap.size≤d) A7 zs from⟨fun _ d hd=>by have h:=hlo8 d hd;omega,fun z hz hne aa haa=>HSP.out z (by rw[hzs]at hz;exact List.mem_of_mem_eraseIdx hz) aa haa⟩)
    have k9:w7.heap[b9]? =some (.cells #[.int .i64 tk,.int .i64 ls,.slice (some ⟨gb,0,none⟩) ys.length c5] 66 (0,0)):=(hb67.block b9 y9).trans K9.out
    have hb07:Below W0.heap.size W0 w7:=HBB.out.trans (hb67.mono hwb)
    have K97:=zh k9
    have HF7:=zh hf7
    have HB7:=zh hb07
    have HBL9:=zh hbl9
    have HZS:=zh hzs
    clear hzs hown7 hgrow7 hr8 hlo8 hf7 hbl9 hb67 u0 u1 u2 uf0 uf1 uf2 g0 g1 g2 g3 q0 q1 q2 qf0 qf1 qf2 d0 d1 d2 df0 df1 df2
    (obtain⟨u0,uf0,u1,uf1,u2,uf2⟩:=cv3 k9)
    (have j0:=(hb07.block w.heap.size l0).trans K0.out);(obtain⟨g0,g1,g2,g3⟩:=cg4 j0);(have j1:=(hb07.block (w.heap.size+1) l1).trans K1.out);(obtain⟨q0,qf0,q1,qf1,q2,qf2⟩:=cv3 j1);(have j3:=(hb07.block (w.heap.size+1+1) l3).trans K3.out);(obtain⟨d0,df0,d1,df1,d2,df2⟩:=cv3 j3);(have J7:=zh j3);clear j0 j1 j3
    clear k9 hb07
    go_upto_region 9 with fail
    (try rw[hl1])
    obtain⟨W8,hW8⟩:∃W,W=w7.setCell ⟨b9,2,none⟩ (.slice A7 zs.length c7):=⟨_,rfl⟩
    rw[←hW8]
    have hb8:Below W0.heap.size W0 W8:=by rw[hW8];exact Below.setCell HB7.out (p:=⟨b9,2,none⟩) hw9 _
    have k9:W8.heap[b9]? =some (.cells #[.int .i64 tk,.int .i64 ls,.slice A7 zs.length c7] 66 (0,0)):=by rw[hW8];exact heap_setCell_same w7 b9 2 _ _ _ K97.out
    have HF8:=zh (show FldR W8 W8.heap.size A7 c7 zs by rw[hW8];exact(HF7.out.setc (p:=⟨b9,2,none⟩) _ HBL9.out).more (by simp))
    have HB8:=zh hb8
    have hs8:=hb8.size
    clear hW8 u0 u1 u2 uf0 uf1 uf2 g0 g1 g2 g3 q0 q1 q2 qf0 qf1 qf2 d0 d1 d2 df0 df1 df2
    (obtain⟨u0,uf0,u1,uf1,u2,uf2⟩:=cv3 k9)
    (have j0:=(hb8.block w.heap.size l0).trans K0.out);(obtain⟨g0,g1,g2,g3⟩:=cg4 j0);(have j1:=(hb8.block (w.heap.size+1) l1).trans K1.out);(obtain⟨q0,qf0,q1,qf1,q2,qf2⟩:=cv3 j1);(have j3:=(hb8.block (w.heap.size+1+1) l3).trans K3.out);(obtain⟨d0,df0,d1,df1,d2,df2⟩:=cv3 j3);(have J8:=zh j3);clear j0 j1 j3
    clear k9 hb8
    go_wp2_with fail
    refine bodyPost_ret (Tryz.rres_fld2 rfl _ _ rfl (set3_block J8.out)) rfl ?_
    refine⟨tk,ls,A7,c7,zs,rfl,by rw[HZS.out];exact del_of tk ls xs ys i HYS.out,(HF8.out.set3 _ _ _ (HFRZ.out.imp fun d hd e=>by omega)).more (by simp),HFRZ.out.imp fun d hd=>by omega,Below.set3 (HB0.out.trans (HB8.out.mono HB0.out.size)) (by omega) _ _ _⟩
end Go.Proofs.YtehnikhicnnnhaaGreatDoor
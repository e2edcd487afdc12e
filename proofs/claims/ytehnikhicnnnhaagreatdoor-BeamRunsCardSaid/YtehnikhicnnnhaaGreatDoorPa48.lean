/- The reference: led, a mirror that is led to a station on a way that is there. | The reference's Heard: the box of the mirror that was led. -/
import Derived.Test.YtehnikhicnnnhaaGreatDoorPa47
namespace Go.Proofs.YtehnikhicnnnhaaGreatDoor
open Go.RowKit
set_option maxRecDepth 100000 in
set_option maxHeartbeats 8000000 in
theorem rLedS_c(a:GA)(g:Grd)(m:Mir)(A:Option Addr)(c k:Nat)(w:World)(hok:okG g)(hu:Uniq g.mov)(ht:0≤turnM m∧turnM m<g.sta.length)(hk:k<g.sta.length)(hr:GridR w w.heap.size a g)(hm:MirR w w.heap.size m A c){r:Rt}(hn:wayG g (turnM m) k=some r):
 Calls Tryz.prog 121 #[(.agg #[.int .i64 g.blur,.slice a.pS g.sta.length a.cs,.slice a.pM g.mov.length a.cm,.slice a.pZ g.zon.length a.cz]),(.agg #[.string m.name,.string m.sec,.int .i64 m.loc,.slice A m.way.length c,.int .i64 m.left,.int .i64 m.heard]),.int .i64 k] w fun e w'=>∃m' A' c',e=.returned (.tuple #[(.agg #[.string m'.name,.string m'.sec,.int .i64 m'.loc,.slice A' m'.way.length c',.int .i64 m'.left,.int .i64 m'.heard]),.int .i64 0])∧ledG g m k=some m'∧MirR w' w'.heap.size m' A' c'∧(∀a,A'=some a→w.heap.size≤a.block)∧(A'=none→c'=0)∧Below w.heap.size w w':=by
 have hns:=hok.ns
 obtain⟨i0,hi,hz0,hz1,hz2⟩:=info_parts Tryz.infoInt
 have hwk:=((wayG_some hok hu ht).1 hn).1
 obtain⟨tl,htl⟩:=hwk.hd
 have hsm:=wayG_small hok hu ht hn
 have HLO:=zh hn
 have HTL:=zh htl
 obtain⟨W0,hW0⟩:∃W0,W0=((w.alloc (.cells #[.int .i64 g.blur,.slice a.pS g.sta.length a.cs,.slice a.pM g.mov.length a.cm,.slice a.pZ g.zon.length a.cz] 26)).alloc (.cells #[.string m.name,.string m.sec,.int .i64 m.loc,.slice A m.way.length c,.int .i64 m.left,.int .i64 m.heard] 107)).alloc (.cells #[.string ⟨#[]⟩,.string ⟨#[]⟩,.int .i64 0,.slice none 0 0,.int .i64 0,.int .i64 0] 107):=⟨_,rfl⟩
 have hB0:Below w.heap.size w W0:=by rw[hW0];(repeat first|(with_reducible first|assumption|exact Below.refl _ _|refine Bl.drew ?_|refine Bl.drewN ?_ _|refine Bl.alloc ?_ _|refine Bl.set ?_ _ ?_)|(with_reducible apply Bl.step';(focus(with_reducible assumption)))|omega|(focus(simp;done))|(focus(simp;omega)))
 have k0:W0.heap[w.heap.size]? =some (.cells #[.int .i64 g.blur,.slice a.pS g.sta.length a.cs,.slice a.pM g.mov.length a.cm,.slice a.pZ g.zon.length a.cz] 26 (0,0)):=by rw[hW0];exact heap_fst _ _ _ _
 have k1:W0.heap[w.heap.size+1]? =some (.cells #[.string m.name,.string m.sec,.int .i64 m.loc,.slice A m.way.length c,.int .i64 m.left,.int .i64 m.heard] 107 (0,0)):=by rw[hW0];exact heap_mid _ _ _ _
 have k2:W0.heap[w.heap.size+1+1]? =some (.cells #[.string ⟨#[]⟩,.string ⟨#[]⟩,.int .i64 0,.slice none 0 0,.int .i64 0,.int .i64 0] 107 (0,0)):=by rw[hW0];exact heap_lst _ _ _ _
 have HB0:=zh hB0
 have HGw:=zh hr
 have HG:=zh (hr.to hB0)
 have HM:=zh (show MirR W0 W0.heap.size m A c from⟨hm.way.to hB0,hm.cap⟩)
 have K0:=zh k0
 have K1:=zh k1
 have K2:=zh k2
 have z0:=bk_lt k0
 have z1:=bk_lt k1
 have z2:=bk_lt k2
 (obtain⟨g0,g1,g2,g3⟩:=cg4 k0)
 (obtain⟨e0,ef0,e1,ef1,e2,ef2,e3,ef3,e4,ef4,e5,ef5⟩:=cv6 k1)
 have HT:=zh (fun W (h:MirR W W.heap.size m A c)=>rTurn_c m A c W h)
 have HWS:=zh (fun W (h:GridR W W.heap.size a g)=>rWayS_c a g (turnM m) k W hok hu ht hk h hn)
 clear k0 k1 k2 hB0 hr hm hn hwk htl ef0 ef1 ef2 ef3 ef4 ef5
 go_enter Tryz.func121,Tryz.ntmps121
 go_upto_region 1 with fail
 rw[←hW0]
 clear hW0
 go_region_held3 (SHd W0) ((refine Sh.goal ?_;exact zsh)) (first|(go_at_call 119;(with_reducible refine Calls.mono (HT.out _ ⟨HM.out.way.to (by exact zbl),HM.out.cap⟩) ?_);rintro e w1 ⟨rfl,hb1⟩)|(go_at_call 26;(with_reducible refine Calls.mono (HWS.out _ (HG.out.to (by exact zbl))) ?_);rintro e w2 ⟨bs,cw,rfl,hcw,hib,hb2⟩))
 all_goals
  have hb2w:Below W0.heap.size W0 w2:=by exact zbl
  have hs2:W0.heap.size≤w2.heap.size:=hb2w.size
  have hc2:=(bcell hb2w).1
  have j0:=(hb2w.block w.heap.size z0).trans K0.out
  have j1:=(hb2w.block (w.heap.size+1) z1).trans K1.out
  have j2:=(hb2w.block (w.heap.size+1+1) z2).trans K2.out
  (obtain⟨p0,p1,p2,p3⟩:=cg4 j0)
  (obtain⟨q0,qf0,q1,qf1,q2,qf2,q3,qf3,q4,qf4,q5,qf5⟩:=cv6 j1)
  have HJ0:=zh j0
  have HJ1:=zh j1
  have HJ2:=zh j2
  have HB2:=zh hb2w
  have HIB:=zh hib
  rename_i hX
  clear hX
  clear j0 j1 j2 hc2 hb1 hb2 hb2w hib g0 g1 g2 g3 e0 e1 e2 e3 e4 e5
  have hemp:OwnI (w2.alloc (.cells #[] 3)) w2.heap.size (.slice (some ⟨w2.heap.size,0,none⟩) 0 0) []:=⟨by simp,.inr ⟨w2.heap.size,0,#[],rfl,Nat.le_refl _,heap_alloc_new w2 _,Nat.le_refl _,Nat.zero_le _,rfl,rfl⟩⟩
  have HE:=zh hemp
  have HNC:=zh (ints_at HIB.out.ints rfl)
  clear hemp
  by_cases hw:m.way= []
  ·have hwl:m.way.length=0:=by rw[hw];rfl
   have hld:=zh (show ledG g m k=some {m with way:=tl,left:=if tl= []then 0 else lnk g m.loc (tl.headD 0)} by unfold ledG;rw[HLO.out];simp only;rw[if_neg (fun h=>h hw),HTL.out];rfl)
   have hln:r.st.length=tl.length+1:=by rw[HTL.out];rfl
   rw[hln]at hcw
   rw[hwl]at q3
   have hts:tl.length≤16:=by omega
   have jx:(1:Int)≤(tl.length:Int)+1:=by omega
   have HLN:=zh hln
   have hx8:Value.slice (some ⟨bs,0,none⟩) r.st.length cw=.slice (some ⟨bs,0,none⟩) (tl.length+1) cw:=by rw[hln]
   rw[hx8]
   clear hx8 hln hw hsm
   cases htl:tl with
   |nil=>
    subst htl
    simp only[List.length_nil]at hcw jx
    by_cases hc1:cw=1
    ·subst hc1
     go_upto_region 8 with (at_builtin;refine wpList_append_own _ rfl _ _ 30 rfl w2.heap.size 3 i0 (.int .i64 0) 1 8 Tryz.underlying30 hi hz0 hz1 hz2 rfl (by decide) (.slice (some ⟨w2.heap.size,0,none⟩) 0 0) 0 [] rfl HE.out ⟨bs,0,none⟩ 0 0 [] rfl (by simp) (by intro j u hj;simp at hj) (by intro u hu;simp at hu) (by unfold maxLen;omega) (by omega) (by simp) ?_)
     intro v6 w6 hown6 hgrow6 _
     have hb6:Below w2.heap.size w2 w6:=Below.grown (Below.alloc (Below.refl _ _) (Nat.le_refl _) _) hgrow6 (by simp) (fun j e=>by cases e;exact Nat.le_refl _)
     have ho6:OwnI w6 w2.heap.size v6 []:=by unfold OwnI;simpa using hown6
     obtain⟨A7,c7,rfl,hc7,hi7,hf7⟩:=ho6.sl
     have HN7:Hid (A7=none→c7=0):=zh fun h=>by
      rcases ho6.2 with ⟨e,_⟩|⟨g,cap,cur,e,_⟩
      ·injection e with _ _ e3
      ·rw[h]at e;cases e
     have hk1:w.heap.size+1<w2.heap.size:=by omega
     have hk2:w.heap.size+1+1<w2.heap.size:=by omega
     have y1:=(hb6.block (w.heap.size+1) hk1).trans HJ1.out
     have y2:=(hb6.block (w.heap.size+1+1) hk2).trans HJ2.out
     have HB6:=zh hb6
     have HI7:=zh hi7
     have HF7:=zh hf7
     have HY1:=zh y1
     have HY2:=zh y2
     have hs6:=hb6.size
     (obtain⟨u0,uf0,u1,uf1,u2,uf2,u3,uf3,u4,uf4,u5,uf5⟩:=cv6 y1)
     (obtain⟨d0,df0,d1,df1,d2,df2,d3,df3,d4,df4,d5,df5⟩:=cv6 y2)
     clear hown6 hgrow6 ho6 hb6 hi7 hf7 y1 y2 q0 q1 q2 q3 q4 q5 qf0 qf1 qf2 qf3 qf4 qf5 p0 p1 p2 p3
     go_wp2_with fail
     refine bodyPost_ret (Tryz.rres_mir2 rfl _ _ rfl (set6_block ((heap_setCell_other _ _ _ _ (by simp)).trans ((heap_setCell_other _ _ _ _ (by simp)).trans HY2.out)))) rfl ?_
     refine⟨{m with way:= [],left:=0},A7,c7,rfl,by rw[hld.out];rfl,⟨fun h=>absurd rfl h,by simp⟩,fun a ha=>?_,HN7.out,?_⟩
     ·have:=(HF7.out a ha).1
      omega
     ·exact Below.set6 (Below.setCell (Below.setCell (HB0.out.trans ((HB2.out.trans (HB6.out.mono hs2)).mono (by omega))) (p:=⟨w.heap.size+1,3,none⟩) (by simp) _) (p:=⟨w.heap.size+1,4,none⟩) (by simp) _) (by omega) _ _ _ _ _ _
    ·have hc2:¬(cw-1=0):=by omega
     go_upto_region 8 with (at_builtin;refine wpList_append_own _ rfl _ _ 30 rfl w2.heap.size 3 i0 (.int .i64 0) 1 8 Tryz.underlying30 hi hz0 hz1 hz2 rfl (by decide) (.slice (some ⟨w2.heap.size,0,none⟩) 0 0) 0 [] rfl HE.out ⟨bs,1,none⟩ 0 (cw-1) [] rfl (by simp) (by intro j u hj;simp at hj) (by intro u hu;simp at hu) (by unfold maxLen;omega) (by omega) (by simp) ?_)
     intro v6 w6 hown6 hgrow6 _
     have hb6:Below w2.heap.size w2 w6:=Below.grown (Below.alloc (Below.refl _ _) (Nat.le_refl _) _) hgrow6 (by simp) (fun j e=>by cases e;exact Nat.le_refl _)
     have ho6:OwnI w6 w2.heap.size v6 []:=by unfold OwnI;simpa using hown6
     obtain⟨A7,c7,rfl,hc7,hi7,hf7⟩:=ho6.sl
     have HN7:Hid (A7=none→c7=0):=zh fun h=>by
      rcases ho6.2 with ⟨e,_⟩|⟨g,cap,cur,e,_⟩
      ·injection e with _ _ e3
      ·rw[h]at e;cases e
     have hk1:w.heap.size+1<w2.heap.size:=by omega
     have hk2:w.heap.size+1+1<w2.heap.size:=by omega
     have y1:=(hb6.block (w.heap.size+1) hk1).trans HJ1.out
     have y2:=(hb6.block (w.heap.size+1+1) hk2).trans HJ2.out
     have HB6:=zh hb6
     have HI7:=zh hi7
     have HF7:=zh hf7
     have HY1:=zh y1
     have HY2:=zh y2
     have hs6:=hb6.size
     (obtain⟨u0,uf0,u1,uf1,u2,uf2,u3,uf3,u4,uf4,u5,uf5⟩:=cv6 y1)
     (obtain⟨d0,df0,d1,df1,d2,df2,d3,df3,d4,df4,d5,df5⟩:=cv6 y2)
     clear hown6 hgrow6 ho6 hb6 hi7 hf7 y1 y2 q0 q1 q2 q3 q4 q5 qf0 qf1 qf2 qf3 qf4 qf5 p0 p1 p2 p3
     go_wp2_with fail
     refine bodyPost_ret (Tryz.rres_mir2 rfl _ _ rfl (set6_block ((heap_setCell_other _ _ _ _ (by simp)).trans ((heap_setCell_other _ _ _ _ (by simp)).trans HY2.out)))) rfl ?_
     refine⟨{m with way:= [],left:=0},A7,c7,rfl,by rw[hld.out];rfl,⟨fun h=>absurd rfl h,by simp⟩,fun a ha=>?_,HN7.out,?_⟩
     ·have:=(HF7.out a ha).1
      omega
     ·exact Below.set6 (Below.setCell (Below.setCell (HB0.out.trans ((HB2.out.trans (HB6.out.mono hs2)).mono (by omega))) (p:=⟨w.heap.size+1,3,none⟩) (by simp) _) (p:=⟨w.heap.size+1,4,none⟩) (by simp) _) (by omega) _ _ _ _ _ _
   |cons v tl2=>
    subst htl
    have hc2:¬(cw-1=0):=by simp at hcw;omega
    have hmt:turnM m=m.loc:=by unfold turnM;rw[List.length_eq_zero_iff.1 hwl];rfl
    rw[hmt]at ht
    have HNC2:=zh (ints_at (ad:=⟨bs,1,none⟩) (show IntsR w2 w2.heap.size (some ⟨bs,1,none⟩) (v::tl2) by have:=HIB.out.ints;rw[HTL.out]at this;exact this.tl_) rfl)
    go_upto_region 8 with (at_builtin;refine wpList_append_own _ rfl _ _ 30 rfl w2.heap.size 3 i0 (.int .i64 0) 1 8 Tryz.underlying30 hi hz0 hz1 hz2 rfl (by decide) (.slice (some ⟨w2.heap.size,0,none⟩) 0 0) 0 [] rfl ?k0 ⟨bs,1,none⟩ (tl2.length+1) (cw-1) ((v::tl2).map (Value.int .i64)) rfl ?kl ?k1 ?k2 ?k3 ?k4 ?k5 ?_)
    case k0=>exact HE.out
    case kl=>simp
    case k1=>intro j u hj;exact(World.cell?_alloc_lt _ _ _ (World.block_lt_of_cell? _ _ (HNC2.out j u hj))).trans (HNC2.out j u hj)
    case k2=>intro u hu;obtain⟨y,_,rfl⟩:=List.mem_map.1 hu;rfl
    case k3=>simp at hts;unfold maxLen;omega
    case k4=>simp at hts;omega
    case k5=>simp
    intro v6 w6 hown6 hgrow6 _
    have hb6:Below w2.heap.size w2 w6:=Below.grown (Below.alloc (Below.refl _ _) (Nat.le_refl _) _) hgrow6 (by simp) (fun j e=>by cases e;exact Nat.le_refl _)
    have ho6:OwnI w6 w2.heap.size v6 (v::tl2):=by unfold OwnI;simpa using hown6
    obtain⟨A7,c7,rfl,hc7,hi7,hf7⟩:=ho6.sl
    have HN7:Hid (A7=none→c7=0):=zh fun h=>by
     rcases ho6.2 with ⟨e,_⟩|⟨g,cap,cur,e,_⟩
     ·injection e with _ _ e3
     ·rw[h]at e;cases e
    have hk1:w.heap.size+1<w2.heap.size:=by omega
    have hk2:w.heap.size+1+1<w2.heap.size:=by omega
    have y1:=(hb6.block (w.heap.size+1) hk1).trans HJ1.out
    have y2:=(hb6.block (w.heap.size+1+1) hk2).trans HJ2.out
    have HB6:=zh hb6
    have HI7:=zh hi7
    have HF7:=zh hf7
    have HY1:=zh y1
    have HY2:=zh y2
    have hs6:=hb6.size
    obtain⟨b3,off3,rfl,hb3,z6⟩:=hi7.at (by simp)
    have hn3:=(hf7 _ rfl).1
    simp only at hn3
    have x6:w6.cell? ⟨b3,off3,none⟩=some (.int .i64 v):=z6 0 (by simp)
    have y0:=(hb6.block w.heap.size (show w.heap.size<w2.heap.size by omega)).trans HJ0.out
    have HY0:=zh y0
    (obtain⟨u0,uf0,u1,uf1,u2,uf2,u3,uf3,u4,uf4,u5,uf5⟩:=cv6 y1)
    (obtain⟨d0,df0,d1,df1,d2,df2,d3,df3,d4,df4,d5,df5⟩:=cv6 y2)
    (obtain⟨h0,h1,h2,h3⟩:=cg4 y0)
    clear hown6 hgrow6 ho6 hb6 hi7 hf7 y0 y1 y2 q0 q1 q2 q3 q4 q5 qf0 qf1 qf2 qf3 qf4 qf5 p0 p1 p2 p3 z6
    go_upto_region 10 with fail
    obtain⟨W5,hW5⟩:∃W5,W5=(w6.setCell ⟨w.heap.size+1,3,none⟩ (.slice (some ⟨b3,off3,none⟩) (tl2.length+1) c7)).setCell ⟨w.heap.size+1,4,none⟩ (.int .i64 0):=⟨_,rfl⟩
    rw[←hW5]
    have hz5:W5.heap.size=w6.heap.size:=by rw[hW5];simp
    have hb5:Below w.heap.size w W5:=by rw[hW5];exact Below.setCell (Below.setCell (HB0.out.trans ((HB2.out.trans (HB6.out.mono hs2)).mono (by omega))) (p:=⟨w.heap.size+1,3,none⟩) (by simp) _) (p:=⟨w.heap.size+1,4,none⟩) (by simp) _
    have y0:W5.heap[w.heap.size+1]? =some (.cells #[.string m.name,.string m.sec,.int .i64 m.loc,.slice (some ⟨b3,off3,none⟩) (tl2.length+1) c7,.int .i64 0,.int .i64 m.heard] 107 (0,0)):=by rw[hW5];exact heap_setCell_same _ _ 4 _ _ _ (heap_setCell_same w6 _ 3 _ _ _ HY1.out)
    have y1:W5.heap[w.heap.size+1+1]? =some (.cells #[.string ⟨#[]⟩,.string ⟨#[]⟩,.int .i64 0,.slice none 0 0,.int .i64 0,.int .i64 0] 107 (0,0)):=by rw[hW5];exact(heap_setCell_other _ _ _ _ (by simp)).trans ((heap_setCell_other _ _ _ _ (by simp)).trans HY2.out)
    have yg:W5.heap[w.heap.size]? =some (.cells #[.int .i64 g.blur,.slice a.pS g.sta.length a.cs,.slice a.pM g.mov.length a.cm,.slice a.pZ g.zon.length a.cz] 26 (0,0)):=by rw[hW5];exact(heap_setCell_other _ _ _ _ (by simp)).trans ((heap_setCell_other _ _ _ _ (by simp)).trans HY0.out)
    have HI5:=zh (show IntsR W5 w6.heap.size (some ⟨b3,off3,none⟩) (v::tl2) by rw[hW5];exact IntsR.setc (IntsR.setc HI7.out _ (fun a ha e=>by cases ha;simp at e;omega)) _ (fun a ha e=>by cases ha;simp at e;omega))
    have x5:W5.cell? ⟨b3,off3,none⟩=some (.int .i64 v):=by
     obtain⟨b',off',e,_,h0⟩:=HI5.out.at (by simp)
     cases e
     exact h0 0 (by simp)
    have HB5:=zh hb5
    have HG5:=zh (HGw.out.to hb5)
    clear hb5 hW5 u0 u1 u2 u3 u4 u5 uf0 uf1 uf2 uf3 uf4 uf5 d0 d1 d2 d3 d4 d5 df0 df1 df2 df3 df4 df5 h0 h1 h2 h3 x6
    (obtain⟨q0,qf0,q1,qf1,q2,qf2,q3,qf3,q4,qf4,q5,qf5⟩:=cv6 y0)
    (obtain⟨p0,p1,p2,p3⟩:=cg4 yg)
    have hl0:w.heap.size+1<W5.heap.size:=by omega
    have hl1:w.heap.size+1+1<W5.heap.size:=by omega
    have hlg:w.heap.size<W5.heap.size:=by omega
    have hlx:b3<W5.heap.size:=by omega
    have hne3:¬(b3=w.heap.size+1):=by omega
    have HY5:=zh y0
    have HY6:=zh y1
    have HYG:=zh yg
    clear y0 y1 yg
    have HLK:=zh (fun W (h:GridR W W.heap.size a g)=>rLinked_c a g m.loc v W hok h)
    go_region_held3 (fun W=>W.cell? ⟨w.heap.size,0,none⟩=some (.int .i64 g.blur)∧W.cell? ⟨w.heap.size,1,none⟩=some (.slice a.pS g.sta.length a.cs)∧W.cell? ⟨w.heap.size,2,none⟩=some (.slice a.pM g.mov.length a.cm)∧W.cell? ⟨w.heap.size,3,none⟩=some (.slice a.pZ g.zon.length a.cz)∧W.cell? ⟨w.heap.size+1,2,none⟩=some (.int .i64 m.loc)∧W.cell? ⟨w.heap.size+1,3,none⟩=some (.slice (some ⟨b3,off3,none⟩) (tl2.length+1) c7)∧W.cell? ⟨b3,off3,none⟩=some (.int .i64 v)) (refine⟨?_,?_,?_,?_,?_,?_,?_⟩<;>first|assumption|(refine(World.cell?_setCell_other _ _ _ _ (by simp;done)).trans ?_;assumption)|(refine(World.cell?_setCell_other _ _ _ _ (by simp;omega)).trans ?_;assumption)) (first|(go_at_call 113;(with_reducible refine Calls.mono (HLK.out _ (HG5.out.to (by exact zbl))) ?_);rintro e w4 ⟨rfl,hb4⟩;(have j0:=(hb4.block (w.heap.size+1) hl0).trans HY5.out);(have j1:=(hb4.block (w.heap.size+1+1) hl1).trans HY6.out);(obtain⟨r0,rf0,r1,rf1,r2,rf2,r3,rf3,r4,rf4,r5,rf5⟩:=cv6 j0);(obtain⟨d0,df0,d1,df1,d2,df2,d3,df3,d4,df4,d5,df5⟩:=cv6 j1);(have HK4:=zh j1);(have jg4:=(hb4.block w.heap.size hlg).trans HYG.out);(obtain⟨h0,h1,h2,h3⟩:=cg4 jg4);(have x4:=(hb4.cell (p:=⟨b3,off3,none⟩) hlx).trans x5);(have HM4:=zh j0);clear j0 j1 jg4))
    go_wp2_with fail
    refine bodyPost_ret (Tryz.rres_mir2 rfl _ _ rfl (set6_block ((heap_setCell_other _ _ _ _ (by simp)).trans HK4.out))) rfl ?_
    have hb4':Below W5.heap.size W5 w4:=⟨hb4.os,hb4.tape,hb4.output,hb4.size,hb4.block⟩
    refine⟨{m with way:=v::tl2,left:=lnk g m.loc v},some ⟨b3,off3,none⟩,c7,rfl,by rw[hld.out];rfl,?_,fun a ha=>?_,HN7.out,?_⟩
    ·have hn5:∀a,some (⟨b3,off3,none⟩:Addr)=some a→a.block≠w.heap.size+1+1:=fun a ha e=>by
      cases ha
      simp at e
      omega
     have hi4:IntsR w4 W5.heap.size (some ⟨b3,off3,none⟩) (v::tl2):=Rw.belowB (w0:=W5) (Rw.more HI5.out (by omega)) hb4' (Nat.le_refl _)
     exact⟨Rw.more (IntsR.set6 (IntsR.setc hi4 _ fun a ha e=>by cases ha;simp at e;omega) hn5 _ _ _ _ _ _) (by have:=hb4.size;simp at this ⊢;omega),hc7⟩
    ·cases ha
     show w.heap.size≤b3
     omega
    ·exact Below.set6 (Below.setCell (HB5.out.trans (hb4'.mono (Nat.le_of_lt hlg))) (p:=⟨w.heap.size+1,4,none⟩) (by simp) _) (by omega) _ _ _ _ _ _
  ·have hwl:(0:Int)<(m.way.length:Int):=by cases hq:m.way with|nil=>exact absurd hq hw|cons x l=>simp
   have hld:=zh (show ledG g m k=some {m with way:=r.st} by unfold ledG;rw[HLO.out];simp only;rw[if_pos hw])
   clear hw
   go_upto_region 6 with (at_builtin;refine wpList_append_own _ rfl _ _ 30 rfl w2.heap.size 3 i0 (.int .i64 0) 1 8 Tryz.underlying30 hi hz0 hz1 hz2 rfl (by decide) (.slice (some ⟨w2.heap.size,0,none⟩) 0 0) 0 [] rfl ?c0 ⟨bs,0,none⟩ r.st.length cw (r.st.map (Value.int .i64)) rfl ?cl ?c1 ?c2 ?c3 ?c4 ?c5 ?_)
   case c0=>exact HE.out
   case cl=>simp
   case c1=>intro j u hj;exact(World.cell?_alloc_lt _ _ _ (World.block_lt_of_cell? _ _ (HNC.out j u hj))).trans (HNC.out j u hj)
   case c2=>intro u hu;obtain⟨y,_,rfl⟩:=List.mem_map.1 hu;rfl
   case c3=>unfold maxLen;omega
   case c4=>omega
   case c5=>simp
   intro v6 w6 hown6 hgrow6 _
   have hb6:Below w2.heap.size w2 w6:=Below.grown (Below.alloc (Below.refl _ _) (Nat.le_refl _) _) hgrow6 (by simp) (fun j e=>by cases e;exact Nat.le_refl _)
   have ho6:OwnI w6 w2.heap.size v6 r.st:=by unfold OwnI;simpa using hown6
   obtain⟨A7,c7,rfl,hc7,hi7,hf7⟩:=ho6.sl
   have HN7:Hid (A7=none→c7=0):=zh fun h=>by
    rcases ho6.2 with ⟨e,_⟩|⟨g,cap,cur,e,_⟩
    ·injection e with _ _ e3
    ·rw[h]at e;cases e
   have hk1:w.heap.size+1<w2.heap.size:=by omega
   have hk2:w.heap.size+1+1<w2.heap.size:=by omega
   have y1:=(hb6.block (w.heap.size+1) hk1).trans HJ1.out
   have y2:=(hb6.block (w.heap.size+1+1) hk2).trans HJ2.out
   have HB6:=zh hb6
   have HI7:=zh hi7
   have HF7:=zh hf7
   have HY1:=zh y1
   have HY2:=zh y2
   have hs6:=hb6.size
   (obtain⟨u0,uf0,u1,uf1,u2,uf2,u3,uf3,u4,uf4,u5,uf5⟩:=cv6 y1)
   (obtain⟨d0,df0,d1,df1,d2,df2,d3,df3,d4,df4,d5,df5⟩:=cv6 y2)
   clear hown6 hgrow6 ho6 hb6 hi7 hf7 y1 y2 q0 q1 q2 q3 q4 q5 qf0 qf1 qf2 qf3 qf4 qf5 p0 p1 p2 p3
   go_wp2_with fail
   refine bodyPost_ret (Tryz.rres_mir2 rfl _ _ rfl (set6_block ((heap_setCell_other _ _ _ _ (by simp)).trans HY2.out))) rfl ?_
   refine⟨{m with way:=r.st},A7,c7,rfl,hld.out,?_,fun a ha=>?_,HN7.out,?_⟩
   ·exact⟨Rw.more (IntsR.set6 (IntsR.setc HI7.out _ fun a ha e=>by have:=(HF7.out a ha).1;simp at e;omega) (fun a ha e=>by have:=(HF7.out a ha).1;omega) _ _ _ _ _ _) (by simp),hc7⟩
   ·have:=(HF7.out a ha).1
    omega
   ·exact Below.set6 (Below.setCell (HB0.out.trans ((HB2.out.trans (HB6.out.mono hs2)).mono (by omega))) (p:=⟨w.heap.size+1,3,none⟩) (by simp) _) (by omega) _ _ _ _ _ _
structure LedBox(w6:World)(m':Mir)(mb:Nat)(A':Option Addr)(c':Nat)(wx:World):Prop where
 lo:w6.heap.size≤mb
 hi:mb<wx.heap.size
 box:wx.heap[mb]? =some (.cells #[.string m'.name,.string m'.sec,.int .i64 m'.loc,.slice A' m'.way.length c',.int .i64 m'.left,.int .i64 m'.heard] 107 (0,0))
 mir:MirR wx wx.heap.size m' A' c'
 fr:∀a,A'=some a→w6.heap.size≤a.block
 ne:m'.way≠ []→∀a,A'=some a→a.block≠mb
 nil:A'=none→c'=0
 sh:Sh w6 wx
 low:Below w6.heap.size w6 wx
theorem ledBox1{w6 W w7:World}{m':Mir}{A':Option Addr}{c':Nat}(h0:Below w6.heap.size w6 W)(hs:Sh w6 W)(hb:Below W.heap.size W w7)(hr:MirR w7 w7.heap.size m' A' c')(hf:∀a,A'=some a→W.heap.size≤a.block)(hn:A'=none→c'=0):
 LedBox w6 m' w7.heap.size A' c' (w7.alloc (.cells #[.string m'.name,.string m'.sec,.int .i64 m'.loc,.slice A' m'.way.length c',.int .i64 m'.left,.int .i64 m'.heard] 107)):=by
 have hz:=h0.size
 have hz7:=hb.size
 have hs7:Sh w6 w7:=by exact zsh
 have hb7:Below w6.heap.size w6 w7:=by exact zbl
 refine⟨by omega,by simp,heap_alloc_new _ _,⟨Rw.more (Rw.belowB (w0:=w7) hr.way (Below.alloc (Below.refl _ _) (Nat.le_refl _) _) (Nat.le_refl _)) (by simp),hr.cap⟩,fun a ha=>by have:=hf a ha;omega,fun hne a ha=>?_,hn,hs7.alloc _,hb7.alloc hb7.size _⟩
 obtain⟨b2,off2,e2,hb2,_⟩:=hr.way.at hne
 rw[e2]at ha
 cases ha
 show ¬(b2=w7.heap.size)
 omega
theorem ledBox2{w6 W w7:World}{m':Mir}{A':Option Addr}{c':Nat}{mb:Nat}(h0:Below w6.heap.size w6 W)(hs:Sh w6 W)(hmb:w6.heap.size≤mb)(hml:mb<W.heap.size)(hk:W.heap[mb]? =some (.cells #[.string ⟨#[]⟩,.string ⟨#[]⟩,.int .i64 0,.slice none 0 0,.int .i64 0,.int .i64 0] 107 (0,0)))(hb:Below W.heap.size W w7)(hr:MirR w7 w7.heap.size m' A' c')(hf:∀a,A'=some a→W.heap.size≤a.block)(hn:A'=none→c'=0):
 LedBox w6 m' mb A' c' ((((((w7.setCell ⟨mb,0,none⟩ (.string m'.name)).setCell ⟨mb,1,none⟩ (.string m'.sec)).setCell ⟨mb,2,none⟩ (.int .i64 m'.loc)).setCell ⟨mb,3,none⟩ (.slice A' m'.way.length c')).setCell ⟨mb,4,none⟩ (.int .i64 m'.left)).setCell ⟨mb,5,none⟩ (.int .i64 m'.heard)):=by
 have hz:=h0.size
 have hz7:=hb.size
 have hs7:Sh w6 w7:=by exact zsh
 have hb7:Below w6.heap.size w6 w7:=by exact zbl
 have hblk:=(hb.block mb hml).trans hk
 refine⟨hmb,?_,set6_block hblk,⟨Rw.more (IntsR.set6 hr.way (fun a ha=>by have:=hf a ha;omega) _ _ _ _ _ _) (by simp),hr.cap⟩,fun a ha=>by have:=hf a ha;omega,fun _ a ha=>by have:=hf a ha;omega,hn,by exact zsh,by exact zbl⟩
 simp
 omega
end Go.Proofs.YtehnikhicnnnhaaGreatDoor
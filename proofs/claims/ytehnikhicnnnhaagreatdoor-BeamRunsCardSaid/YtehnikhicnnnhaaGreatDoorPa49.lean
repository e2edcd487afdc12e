/- The reference: Heard. -/
import Derived.Test.YtehnikhicnnnhaaGreatDoorPa48
namespace Go.Proofs.YtehnikhicnnnhaaGreatDoor
open Go.RowKit
set_option maxRecDepth 100000 in
set_option maxHeartbeats 8000000 in
theorem rHeard_c(a:GA)(g:Grd)(tk ls:Int)(A:Option Addr)(c:Nat)(xs:List MA)(o:Ord)(w:World)(hok:okG g)(hu:Uniq g.mov)(hf0:okFld g (fldOf tk ls xs))(hz:NilW xs)(hr:GridR w w.heap.size a g)(hf:FldR w w.heap.size A c xs):
 Calls Tryz.prog 42 #[(.agg #[.int .i64 g.blur,.slice a.pS g.sta.length a.cs,.slice a.pM g.mov.length a.cm,.slice a.pZ g.zon.length a.cz]),(.agg #[.int .i64 tk,.int .i64 ls,.slice A xs.length c]),.agg #[.string o.mir,.string o.sta,.bool o.lost]] w fun e w'=>((heardE g (fldOf tk ls xs) o≠0∧e=.returned (.tuple #[.agg #[.int .i64 0,.int .i64 0,.slice none 0 0],.int .i64 (heardE g (fldOf tk ls xs) o)]))∨(heardE g (fldOf tk ls xs) o=0∧∃A' c' ys,e=.returned (.tuple #[(.agg #[.int .i64 tk,.int .i64 ls,.slice A' ys.length c']),.int .i64 0])∧fldOf tk ls ys=heardG g (fldOf tk ls xs) o∧OwnT 107 w' w.heap.size A' c' ys∧(∀y∈ys,∀a,y.A=some a→w.heap.size≤a.block)∧NilW ys))∧Below w.heap.size w w':=by
 have hn:xs.length≤16:=by have:=hf0.n;simpa [fldOf]using this
 have hm0:∀x∈xs,okMir g x.m:=fun x hx=>hf0.mir x.m (List.mem_map_of_mem hx)
 have hns:=hok.ns
 obtain⟨W0,hW0⟩:∃W0,W0=(((w.alloc (.cells #[.int .i64 g.blur,.slice a.pS g.sta.length a.cs,.slice a.pM g.mov.length a.cm,.slice a.pZ g.zon.length a.cz] 26)).alloc (.cells #[.int .i64 tk,.int .i64 ls,.slice A xs.length c] 66)).alloc (.cells #[.string o.mir,.string o.sta,.bool o.lost] 68)).alloc (.cells #[.int .i64 0,.int .i64 0,.slice none 0 0] 66):=⟨_,rfl⟩
 have hB0:Below w.heap.size w W0:=by rw[hW0];(repeat first|(with_reducible first|assumption|exact Below.refl _ _|refine Bl.drew ?_|refine Bl.drewN ?_ _|refine Bl.alloc ?_ _|refine Bl.set ?_ _ ?_)|(with_reducible apply Bl.step';(focus(with_reducible assumption)))|omega|(focus(simp;done))|(focus(simp;omega)))
 have k0:W0.heap[w.heap.size]? =some (.cells #[.int .i64 g.blur,.slice a.pS g.sta.length a.cs,.slice a.pM g.mov.length a.cm,.slice a.pZ g.zon.length a.cz] 26 (0,0)):=by rw[hW0];exact heap4_0 _ _ _ _ _
 have k1:W0.heap[w.heap.size+1]? =some (.cells #[.int .i64 tk,.int .i64 ls,.slice A xs.length c] 66 (0,0)):=by rw[hW0];exact heap4_1 _ _ _ _ _
 have k2:W0.heap[w.heap.size+1+1]? =some (.cells #[.string o.mir,.string o.sta,.bool o.lost] 68 (0,0)):=by rw[hW0];exact heap4_2 _ _ _ _ _
 have k3:W0.heap[w.heap.size+1+1+1]? =some (.cells #[.int .i64 0,.int .i64 0,.slice none 0 0] 66 (0,0)):=by rw[hW0];exact heap4_3 _ _ _ _ _
 have z3:=bk_lt k3
 have HB0:=zh hB0
 have HGw:=zh hr
 have HFw:=zh (show ∀W,Below w.heap.size w W→FldR W W.heap.size A c xs from fun W hb=>⟨(hf.rw_.belowB (w0:=w) hb (Nat.le_refl _)).more hb.size,fun x hx=>((hf.each x hx).belowB (w0:=w) hb (Nat.le_refl _)).more hb.size,hf.cap⟩)
 have HZ:=zh hz
 have HM0:=zh hm0
 have HOK:=zh hok
 have HU:=zh hu
 have K0:=zh k0
 have K1:=zh k1
 have K2:=zh k2
 have K3:=zh k3
 obtain⟨fi,hfi⟩:∃fi,fi=findG (fldOf tk ls xs) o.mir:=⟨_,rfl⟩
 obtain⟨st,hst⟩:∃st,st=statG g o.sta:=⟨_,rfl⟩
 have hfi2:fi=idxF (fun x:MA=>sEq x.m.name o.mir) xs:=by rw[hfi];unfold findG;rw[show(fldOf tk ls xs).mir=xs.map MA.m from rfl,←idxF_map (fun x:MA=>x.m) (fun m=>sEq m.name o.mir)]
 have HFI:=zh hfi
 have HFJ:=zh hfi2
 have HST:=zh hst
 have hfr:fi<xs.length:=by rw[hfi2];exact(idxF_lt _ _).1
 have hsr:st<g.sta.length:=by rw[hst];exact(idxF_lt _ _).1
 have HOWN:=zh (fun W (h:Below w.heap.size w W)=>rOwn_c tk ls A c xs W (by omega) (fun x hx=>by have:=(hm0 x hx).len;omega) hz (HFw.out W h))
 (obtain⟨v0,vf0,v1,vf1,v2,vf2⟩:=cv3 k1)
 clear hr hf hz k0 k1 k2 k3 hfi hst hfi2 hm0 hf0 hB0
 go_enter Tryz.func42,Tryz.ntmps42
 go_upto_region 2 with (go_at_call 117;(first|rw[←hW0]|skip);refine Calls.mono (HOWN.out _ HB0.out) ?_;rintro e w1 ⟨A1,c1,ys,rfl,hm1,ho1,hf1,hn1,hb1⟩)
 obtain⟨b8,hb8⟩:∃b,b=w1.heap.size:=⟨_,rfl⟩
 obtain⟨W1,hW1⟩:∃W,W=w1.alloc (.cells #[.int .i64 tk,.int .i64 ls,.slice A1 ys.length c1] 66):=⟨_,rfl⟩
 rw[←hb8,←hW1]
 have hb1':Below W0.heap.size W0 w1:=by(first|exact hb1|(rw[hW0];exact hb1))
 have hB1:Below W0.heap.size W0 W1:=by rw[hW1];exact hb1'.alloc hb1'.size _
 have j4:W1.heap[b8]? =some (.cells #[.int .i64 tk,.int .i64 ls,.slice A1 ys.length c1] 66 (0,0)):=by rw[hW1,hb8];exact heap_alloc_new w1 _
 have j0:=(hB1.block w.heap.size (by omega)).trans K0.out
 have j1:=(hB1.block (w.heap.size+1) (by omega)).trans K1.out
 have j2:=(hB1.block (w.heap.size+1+1) (by omega)).trans K2.out
 have j3:=(hB1.block (w.heap.size+1+1+1) z3).trans K3.out
 have hbw1:Below w.heap.size w W1:=HB0.out.trans (hB1.mono (by omega))
 have HBW1:=zh hbw1
 have ho1':OwnT 107 W1 W0.heap.size A1 c1 ys:=by rw[hW1];exact(by(first|exact ho1|(rw[hW0];exact ho1)):OwnT 107 w1 W0.heap.size A1 c1 ys).below (Below.alloc (Below.refl _ _) (Nat.le_refl _) _)
 have ho1w:OwnT 107 w1 W0.heap.size A1 c1 ys:=by(first|exact ho1|(rw[hW0];exact ho1))
 have HA8:=zh (show ∀a,A1=some a→a.block<b8 from fun a ha=>by
  rcases ho1w.row.2 with ⟨hv,_⟩|⟨gg,cap,cur,hv,hgb,hgg,_⟩
  ·rw[ha]at hv;cases hv
  ·rw[ha]at hv
   cases hv
   rw[hb8]
   exact(Array.getElem?_eq_some_iff.1 hgg).1)
 clear ho1w
 have HO1:=zh ho1'
 have HF1:=zh (show ∀y∈ys,∀a,y.A=some a→W0.heap.size≤a.block by(first|exact hf1|(rw[hW0];exact hf1)))
 have HN1:=zh hn1
 have HM1:=zh hm1
 have hz8:W0.heap.size≤b8:=by rw[hb8];exact hb1'.size
 have y8:b8<W1.heap.size:=blk_lt j4
 have y0:w.heap.size<W1.heap.size:=blk_lt j0
 have y1:w.heap.size+1<W1.heap.size:=blk_lt j1
 have y2:w.heap.size+1+1<W1.heap.size:=blk_lt j2
 have y3:w.heap.size+1+1+1<W1.heap.size:=blk_lt j3
 have J0:=zh j0
 have J1:=zh j1
 have J2:=zh j2
 have J3:=zh j3
 have J4:=zh j4
 have HAT:=zh (fun W (h:Below w.heap.size w W)=>rAt_c tk ls A c xs o.mir W (by omega) (HFw.out W h))
 have HNM:=zh (fun W (h:Below w.heap.size w W)=>rNamed_c a g o.sta W (by omega) (HGw.out.to h))
 clear hb1 ho1 hf1 hn1 hm1 hb1' hW1 hb8 hB1 hbw1 ho1' v0 v1 v2 vf0 vf1 vf2 hW0
 (obtain⟨p0,p1,p2,p3⟩:=cg4 j0)
 (obtain⟨q0,qf0,q1,qf1,q2,qf2⟩:=cv3 j1)
 (obtain⟨e0,ef0,e1,ef1,e2,ef2⟩:=cv3 j2)
 clear j0 j1 j2 j3 j4
 go_region_held3 (SHd W1) ((refine Sh.goal ?_;exact zsh)) (first|(go_at_call 76;(with_reducible refine Calls.mono (HAT.out _ (Below.trans HBW1.out (Below.mono (by exact zbl) (Nat.le_of_lt y0)))) ?_);rintro e w3 ⟨rfl,hb3⟩;rw[←HFJ.out])|(go_at_call 120;(with_reducible refine Calls.mono (HNM.out _ (Below.trans HBW1.out (Below.mono (by exact zbl) (Nat.le_of_lt y0)))) ?_);rintro e w4 ⟨rfl,hb4⟩;rw[←HST.out]))
 have hb5:Below W1.heap.size W1 w4:=by exact zbl
 rename_i hX
 clear hX
 have hs5:W1.heap.size≤w4.heap.size:=hb5.size
 have j0:=(hb5.block w.heap.size y0).trans J0.out
 have j1:=(hb5.block (w.heap.size+1) y1).trans J1.out
 have j2:=(hb5.block (w.heap.size+1+1) y2).trans J2.out
 have j3:=(hb5.block (w.heap.size+1+1+1) y3).trans J3.out
 have j4:=(hb5.block b8 y8).trans J4.out
 have HB5:=zh hb5
 have HW5:=zh (HBW1.out.trans (hb5.mono (Nat.le_of_lt y0)))
 have L3:=zh j3
 have L4:=zh j4
 clear hb3 hb4 hb5 p0 p1 p2 p3 q0 q1 q2 qf0 qf1 qf2 e0 e1 e2 ef0 ef1 ef2
 (obtain⟨p0,p1,p2,p3⟩:=cg4 j0)
 (obtain⟨q0,qf0,q1,qf1,q2,qf2⟩:=cv3 j1)
 (obtain⟨e0,ef0,e1,ef1,e2,ef2⟩:=cv3 j2)
 (obtain⟨d0,df0,d1,df1,d2,df2⟩:=cv3 j3)
 (obtain⟨h0,hf0,h1,hf1,h2,hf2⟩:=cv3 j4)
 clear j0 j1 j2 j3 j4
 have z4:w.heap.size<w4.heap.size:=by omega
 have z5:w.heap.size+1+1+1<w4.heap.size:=by omega
 have z8:b8<w4.heap.size:=by omega
 by_cases hneg:fi<0∨st<0
 ·have hhe:=zh (show heardE g (fldOf tk ls xs) o=10 by unfold heardE;rw[←HFI.out,←HST.out,if_pos hneg])
  by_cases hng:fi<0
  ·clear hneg
   go_wp2_with fail
   refine bodyPost_ret (Tryz.rres_fld2 rfl _ _ rfl (set3_block L3.out)) rfl ?_
   exact⟨.inl ⟨by rw[hhe.out];decide,by rw[hhe.out];rfl⟩,Below.set3 (b:=w.heap.size+1+1+1) HW5.out (by omega) _ _ _⟩
  ·have hst1:st<0:=hneg.resolve_left hng
   clear hneg
   go_wp2_with fail
   refine bodyPost_ret (Tryz.rres_fld2 rfl _ _ rfl (set3_block L3.out)) rfl ?_
   exact⟨.inl ⟨by rw[hhe.out];decide,by rw[hhe.out];rfl⟩,Below.set3 (b:=w.heap.size+1+1+1) HW5.out (by omega) _ _ _⟩
 ·have HNG:=zh hneg
  have hfi0:¬fi<0:=fun h=>hneg (.inl h)
  have hst0:¬st<0:=fun h=>hneg (.inr h)
  clear hneg
  have HSA:=zh (fun W (h:Below w.heap.size w W)=>rSafeG_c a g st W hok (HGw.out.to h) ⟨by omega,hsr⟩)
  cases hsf:isSafeG g st with
  |false=>
   have hhe:=zh (show heardE g (fldOf tk ls xs) o=31 by unfold heardE;rw[←HFI.out,←HST.out,if_neg HNG.out,hsf];rfl)
   go_wp2_with (go_at_call 55;(with_reducible refine Calls.mono (HSA.out _ HW5.out) ?_);rintro e w6 ⟨rfl,hb6⟩;(try rw[hsf]);(have j3:=(hb6.block (w.heap.size+1+1+1) z5).trans L3.out);(have M3:=zh j3);(obtain⟨t0,tf0,t1,tf1,t2,tf2⟩:=cv3 j3);clear j3)
   refine bodyPost_ret (Tryz.rres_fld2 rfl _ _ rfl (set3_block M3.out)) rfl ?_
   exact⟨.inl ⟨by rw[hhe.out];decide,by rw[hhe.out];rfl⟩,Below.set3 (b:=w.heap.size+1+1+1) (HW5.out.trans (hb6.mono (by omega))) (by omega) _ _ _⟩
  |true=>
   have HSF:=zh hsf
   go_upto_region 7 with (go_at_call 55;(with_reducible refine Calls.mono (HSA.out _ HW5.out) ?_);rintro e w6 ⟨rfl,hb6⟩;(try rw[hsf]))
   have hb6w:Below W1.heap.size W1 w6:=HB5.out.trans (hb6.mono hs5)
   have hw6:Below w.heap.size w w6:=HW5.out.trans (hb6.mono (by omega))
   obtain⟨k,rfl⟩:=Int.eq_ofNat_of_zero_le hfi0
   obtain⟨s,rfl⟩:=Int.eq_ofNat_of_zero_le hst0
   have hyl:ys.length=xs.length:=by simpa using congrArg List.length HM1.out
   have hlx:k<xs.length:=by omega
   have hlt:k<ys.length:=by omega
   have HYL:=zh hyl
   clear hyl
   have hsn:s<g.sta.length:=by omega
   obtain⟨y,hy⟩:∃y,y=ys[k]:=⟨_,rfl⟩
   have hym:y∈ys:=by rw[hy];exact List.getElem_mem hlt
   have hyx:y.m=xs[k].m:=by
    have h1:(ys.map MA.m)[k]? =(xs.map MA.m)[k]? :=by rw[HM1.out]
    rw[List.getElem?_map,List.getElem?_map,List.getElem?_eq_getElem hlt,List.getElem?_eq_getElem hlx,←hy]at h1
    simpa using h1
   have hmo:okMir g y.m:=by rw[hyx];exact HM0.out _ (List.getElem_mem hlx)
   have hgd:(fldOf tk ls xs).mir.getD (k:Int).toNat default=y.m:=by
    show(xs.map MA.m).getD (k:Int).toNat default=y.m
    rw[Int.toNat_natCast,List.getD_eq_getElem?_getD,List.getElem?_map,List.getElem?_eq_getElem hlx,hyx]
    rfl
   have ho6:=HO1.out.below hb6w
   obtain⟨gb,cap,hv,hgb,hgl⟩:=ho6.row.form (by omega)
   injection hv with hvA hvl hvc
   subst hvA
   subst hvc
   obtain⟨b,off,ea,hbl,x0,x1,x2,x3,x4,x5⟩:=ho6.fld.rw_.get6 (k:=k) (by simpa using hlt) (by rw[List.getElem_map,←hy];rfl)
   cases ea
   have hmr:=ho6.fld.each y hym
   have HYM:=zh hym
   have HY:=zh hy
   have HMR:=zh hmr
   have HYX:=zh hyx
   have HGD:=zh hgd
   have HO6:=zh ho6
   have hhe0:=zh (show heardE g (fldOf tk ls xs) o=if(ledG g y.m s).isSome then 0 else 7 by unfold heardE;rw[←HFI.out,←HST.out,if_neg HNG.out,HSF.out,if_pos rfl,HGD.out])
   have ht:=hmo.turn
   have hyc:=ho6.fld.cap
   have j0:=(hb6w.block w.heap.size y0).trans J0.out
   have j1:=(hb6w.block (w.heap.size+1) y1).trans J1.out
   have j2:=(hb6w.block (w.heap.size+1+1) y2).trans J2.out
   have j3:=(hb6w.block (w.heap.size+1+1+1) y3).trans J3.out
   have j4:=(hb6w.block b8 y8).trans J4.out
   have M1:=zh j1
   have M2:=zh j2
   have M3:=zh j3
   have M4:=zh j4
   have HB6:=zh hb6w
   have HW6:=zh hw6
   have hs6:=hb6w.size
   clear hb6 hb6w hw6 hym hy hyx hgd ho6 hmr hsf p0 p1 p2 p3 q0 q1 q2 qf0 qf1 qf2 e0 e1 e2 ef0 ef1 ef2 d0 d1 d2 df0 df1 df2 h0 h1 h2 hf0 hf1 hf2
   (obtain⟨p0,p1,p2,p3⟩:=cg4 j0)
   (obtain⟨h0,hf0,h1,hf1,h2,hf2⟩:=cv3 j4)
   clear j0 j1 j2 j3 j4
   have z6:w.heap.size<w6.heap.size:=by omega
   have z9:b8<w6.heap.size:=by omega
   simp only[Nat.zero_add]at x0 x1 x2 x3 x4 x5
   have i0:(0:Int)≤(k:Int):=by omega
   have i1:(k:Int)<(ys.length:Int):=by omega
   have i6:IntKind.i64.wrap (k:Int)=(k:Int):=IntWalk.i64_in _ (by omega)
   cases hld:ledG g y.m s with
   |none=>
    have hwn:wayG g (turnM y.m) s=none:=by
     unfold ledG at hld
     split at hld
     ·assumption
     ·split at hld<;>cases hld
    have hhe:=zh (show heardE g (fldOf tk ls xs) o=7 by rw[hhe0.out,hld];rfl)
    have HLD:=zh (fun W (h:Below w6.heap.size w6 W)=>rLedN_c a g y.m y.A y.c s W HOK.out HU.out ht hsn (HGw.out.to (HW6.out.trans (h.mono (by omega)))) ⟨HMR.out.way.to h,HMR.out.cap⟩ hwn)
    clear hld hwn
    go_cut [12] (fun s12 wx=>s12=.int .i64 7∧Sh w6 wx∧Below w6.heap.size w6 wx)
    case first=>
     go_region_held3 (SHd w6) ((refine Sh.goal ?_;exact zsh)) (first|(go_at_call 121;(with_reducible refine Calls.mono (HLD.out _ (by exact zbl)) ?_);rintro e w7 ⟨rfl,hb⟩;(obtain⟨hcc,hff⟩:=bcell hb;have hzz:=hb.size;(try simp at hzz);(try have z1:w6.heap.size+1<w7.heap.size:=by omega);(try have z2:w6.heap.size+2<w7.heap.size:=by omega);(try have z3:w6.heap.size+3<w7.heap.size:=by omega);(try have z4:w6.heap.size+4<w7.heap.size:=by omega);(try have z5:w6.heap.size+5<w7.heap.size:=by omega);(try have z0:w6.heap.size<w7.heap.size:=by omega);(try(have zy1:=Nat.lt_of_succ_le hzz;(try(have zy2:=Nat.lt_of_succ_lt zy1;(try have zy3:=Nat.lt_of_succ_lt zy2))))));(have hb7:=hb);clear hb))
     all_goals
      go_wp2_with fail
      go_meet
      exact⟨rfl,by exact zsh,by exact zbl⟩
    case rest=>
     obtain⟨rfl,hsh,hbx⟩:=hcut
     have j3:=(hsh.2.2 (w.heap.size+1+1+1) (by omega)).trans M3.out
     have N3:=zh j3
     (obtain⟨t0,tf0,t1,tf1,t2,tf2⟩:=cv3 j3)
     clear j3
     go_wp2_with fail
     refine bodyPost_ret (Tryz.rres_fld2 rfl _ _ rfl (set3_block N3.out)) rfl ?_
     exact⟨.inl ⟨by rw[hhe.out];decide,by rw[hhe.out];rfl⟩,Below.set3 (b:=w.heap.size+1+1+1) (HW6.out.trans (hbx.mono (by omega))) (by omega) _ _ _⟩
   |some m'=>
    have hhe:=zh (show heardE g (fldOf tk ls xs) o=0 by rw[hhe0.out,hld];rfl)
    obtain⟨r,hwr⟩:∃r,wayG g (turnM y.m) s=some r:=by
     unfold ledG at hld
     split at hld
     ·cases hld
     ·exact⟨_,by assumption⟩
    have HLD:=zh (fun W (h:Below w6.heap.size w6 W)=>rLedS_c a g y.m y.A y.c s W HOK.out HU.out ht hsn (HGw.out.to (HW6.out.trans (h.mono (by omega)))) ⟨HMR.out.way.to h,HMR.out.cap⟩ hwr)
    have HL:=zh hld
    clear hld hwr
    have hbd:Below w6.heap.size w6 w6.drew:=Bl.drew (Below.refl _ _)
    have hsd:Sh w6 w6.drew:=Sh.drew (Sh.refl _)
    have hbz:Below w6.heap.size w6 (w6.alloc (.cells #[.string ⟨#[]⟩,.string ⟨#[]⟩,.int .i64 0,.slice none 0 0,.int .i64 0,.int .i64 0] 107)).drew:=by exact zbl
    have hsz:Sh w6 (w6.alloc (.cells #[.string ⟨#[]⟩,.string ⟨#[]⟩,.int .i64 0,.slice none 0 0,.int .i64 0,.int .i64 0] 107)).drew:=Sh.drew (Sh.alloc (Sh.refl _) _)
    have hlz:w6.heap.size<(w6.alloc (.cells #[.string ⟨#[]⟩,.string ⟨#[]⟩,.int .i64 0,.slice none 0 0,.int .i64 0,.int .i64 0] 107)).drew.heap.size:=by simp
    have hkz:(w6.alloc (.cells #[.string ⟨#[]⟩,.string ⟨#[]⟩,.int .i64 0,.slice none 0 0,.int .i64 0,.int .i64 0] 107)).drew.heap[w6.heap.size]? =some (.cells #[.string ⟨#[]⟩,.string ⟨#[]⟩,.int .i64 0,.slice none 0 0,.int .i64 0,.int .i64 0] 107 (0,0)):=heap_alloc_new w6 _
    have HBD:=zh hbd
    have HBZ:=zh hbz
    have HLZ:=zh hlz
    have HKZ:=zh hkz
    have HSD:=zh hsd
    have HSZ:=zh hsz
    clear hbd hbz hlz hkz hsd hsz
    go_cut [11,12] (fun s11 s12 wx=>∃(mb:Nat) (A':Option Addr) (c':Nat),s11=.pointer (some ⟨mb,0,none⟩)∧s12=.int .i64 0∧LedBox w6 m' mb A' c' wx)
    case first=>
     go_region_held3 (SHd w6) ((refine Sh.goal ?_;exact zsh)) (first|(go_at_call 121;(with_reducible refine Calls.mono (HLD.out _ (by exact zbl)) ?_);rintro e w7 ⟨m2,A',c',rfl,hm2,hr7,hf7,hn7,hb⟩;(obtain⟨hcc,hff⟩:=bcell hb;have hzz:=hb.size;(try simp at hzz);(try have z1:w6.heap.size+1<w7.heap.size:=by omega);(try have z2:w6.heap.size+2<w7.heap.size:=by omega);(try have z3:w6.heap.size+3<w7.heap.size:=by omega);(try have z4:w6.heap.size+4<w7.heap.size:=by omega);(try have z5:w6.heap.size+5<w7.heap.size:=by omega);(try have z0:w6.heap.size<w7.heap.size:=by omega);(try(have zy1:=Nat.lt_of_succ_le hzz;(try(have zy2:=Nat.lt_of_succ_lt zy1;(try have zy3:=Nat.lt_of_succ_lt zy2))))));(have hb7:=hb);clear hb;(obtain rfl:m2=m':=Option.some.inj (hm2.symm.trans HL.out));(have HR7:=zh hr7);(have HF7:=zh hf7);(have HN7:=zh hn7);clear hr7 hf7 hn7 hm2))
     all_goals
      go_wp2_with fail
      go_meet
     ·exact⟨w7.heap.size,A',c',rfl,rfl,ledBox1 (W:=w6.drew) HBD.out HSD.out hb7 HR7.out HF7.out HN7.out⟩
     ·exact⟨w6.heap.size,A',c',rfl,rfl,ledBox2 (W:=(w6.alloc (.cells #[.string ⟨#[]⟩,.string ⟨#[]⟩,.int .i64 0,.slice none 0 0,.int .i64 0,.int .i64 0] 107)).drew) HBZ.out HSZ.out (Nat.le_refl _) HLZ.out HKZ.out hb7 HR7.out HF7.out HN7.out⟩
    case rest=>
     obtain⟨mb,A',c',rfl,rfl,⟨hmb,hml,hmk,hmr',hfr',hne',hnl',hsh,hbx⟩⟩:=hcut
     have HOwc:=zh (HO6.out.below hbx)
     have HMK:=zh hmk
     have HMR':=zh hmr'
     have HNE':=zh hne'
     have HFR':=zh hfr'
     have HNL':=zh hnl'
     have HWC:=zh (HW6.out.trans (hbx.mono (Nat.le_of_lt z6)))
     have hsx:=hbx.size
     have j1:=(hsh.2.2 (w.heap.size+1) (by omega)).trans M1.out
     have j2:=(hsh.2.2 (w.heap.size+1+1) (by omega)).trans M2.out
     have j3:=(hsh.2.2 (w.heap.size+1+1+1) (by omega)).trans M3.out
     have j4:=(hsh.2.2 b8 z9).trans M4.out
     have N3:=zh j3
     have N4:=zh j4
     (obtain⟨q0,qf0,q1,qf1,q2,qf2⟩:=cv3 j1)
     (obtain⟨e0,ef0,e1,ef1,e2,ef2⟩:=cv3 j2)
     (obtain⟨d0,df0,d1,df1,d2,df2⟩:=cv3 j3)
     (obtain⟨u0,uf0,u1,uf1,u2,uf2,u3,uf3,u4,uf4,u5,uf5⟩:=cv6 hmk)
     (obtain⟨v0,vf0,v1,vf1,v2,vf2⟩:=cv3 j4)
     clear hmk hmr' hne' hfr' hnl' j1 j2 j3 j4 x0 x1 x2 x3 x4 x5 p0 p1 p2 p3 h0 h1 h2 hf0 hf1 hf2 hsh
     cases hol:o.lost with
     |true=>
      rw[hol]at e2
      go_wp2_with fail
      refine bodyPost_ret (Tryz.rres_fld2 rfl _ _ rfl (set3_block N3.out)) rfl ?_
      have hhg:heardG g (fldOf tk ls xs) o=fldOf tk ls xs:=by unfold heardG;rw[if_pos (.inr hol)]
      have hfy:fldOf tk ls ys=fldOf tk ls xs:=by unfold fldOf;rw[HM1.out]
      refine⟨.inr ⟨hhe.out,some ⟨gb,0,none⟩,c1,ys,rfl,hfy.trans hhg.symm,?_,fun y hy a ha=>by have:=HF1.out y hy a ha;omega,HN1.out⟩,Below.set3 (b:=w.heap.size+1+1+1) HWC.out (by omega) _ _ _⟩
      exact(OwnT.setc (OwnT.setc (OwnT.setc HOwc.out HF1.out _ z3) HF1.out _ z3) HF1.out _ z3).mono (by omega)
     |false=>
      rw[hol]at e2
      go_upto_region 12 with fail
      obtain⟨W6,hW6⟩:∃W6,W6=wc.setCell ⟨mb,5,none⟩ (.int .i64 tk):=⟨_,rfl⟩
      rw[←hW6]
      have hsz6:W6.heap.size=wc.heap.size:=by rw[hW6];simp
      have hbw6:Below w.heap.size w W6:=by rw[hW6];exact Below.setCell HWC.out (p:=⟨mb,5,none⟩) (by show w.heap.size≤mb;omega) _
      have k0:W6.heap[mb]? =some (.cells #[.string m'.name,.string m'.sec,.int .i64 m'.loc,.slice A' m'.way.length c',.int .i64 m'.left,.int .i64 tk] 107 (0,0)):=by rw[hW6];exact heap_setCell_same wc mb 5 _ _ _ HMK.out
      have k3:W6.heap[w.heap.size+1+1+1]? =some (.cells #[.int .i64 0,.int .i64 0,.slice none 0 0] 66 (0,0)):=by rw[hW6];exact(heap_setCell_other _ _ _ _ (by simp;omega)).trans N3.out
      have k4:W6.heap[b8]? =some (.cells #[.int .i64 tk,.int .i64 ls,.slice (some ⟨gb,0,none⟩) ys.length c1] 66 (0,0)):=by rw[hW6];exact(heap_setCell_other _ _ _ _ (by simp;omega)).trans N4.out
      have HO7:=zh (show OwnT 107 W6 W0.heap.size (some ⟨gb,0,none⟩) c1 ys by
       rw[hW6]
       exact HOwc.out.kept (grownBy_setCellO _ _ _ _) (fun d hd e=>by cases hd;exact absurd (Option.some.inj e) (by show ¬(mb=gb);omega)) (fun z hz hne a ha e=>by
        obtain⟨b2,off2,e2,hb2,_⟩:=(HO6.out.each z hz).way.at hne
        rw[e2]at ha
        cases ha
        exact absurd (Option.some.inj e) (by show ¬(mb=b2);omega)))
      have HMR6:=zh (show MirR W6 W6.heap.size {m' with heard:=tk} A' c' by
       rw[hW6]
       have h1:=HMR'.out.setc (p:=⟨mb,5,none⟩) (.int .i64 tk) (fun hne a ha=>HNE'.out hne a ha)
       exact⟨Rw.more h1.way (by simp),h1.cap⟩)
      obtain⟨b6,off6,e6,_,t0,t1,t2,t3,t4,t5⟩:=HO7.out.fld.rw_.get6 (k:=k) (by simpa using hlt) (by rw[List.getElem_map,←HY.out];rfl)
      cases e6
      simp only[Nat.zero_add]at t0 t1 t2 t3 t4 t5
      have tf0:=HO7.out.row.frozenAt (k*6)
      have tf1:=HO7.out.row.frozenAt (k*6+1)
      have tf2:=HO7.out.row.frozenAt (k*6+2)
      have tf3:=HO7.out.row.frozenAt (k*6+3)
      have tf4:=HO7.out.row.frozenAt (k*6+4)
      have tf5:=HO7.out.row.frozenAt (k*6+5)
      have H3:=zh k3
      have H4:=zh k4
      have HB7:=zh hbw6
      clear hW6 hbw6 u0 u1 u2 u3 u4 u5 uf0 uf1 uf2 uf3 uf4 uf5 v0 v1 v2 vf0 vf1 vf2 q0 q1 q2 qf0 qf1 qf2 e0 e1 e2 ef0 ef1 ef2 d0 d1 d2 df0 df1 df2
      (obtain⟨e0,ef0,e1,ef1,e2,ef2,e3,ef3,e4,ef4,e5,ef5⟩:=cv6 k0)
      (obtain⟨v0,vf0,v1,vf1,v2,vf2⟩:=cv3 k4)
      clear k0 k3 k4
      go_upto_region 13 with fail
      obtain⟨W8,hW8⟩:∃W,W=(((((W6.setCell ⟨gb,k*6,none⟩ (.string m'.name)).setCell ⟨gb,k*6+1,none⟩ (.string m'.sec)).setCell ⟨gb,k*6+2,none⟩ (.int .i64 m'.loc)).setCell ⟨gb,k*6+3,none⟩ (.slice A' m'.way.length c')).setCell ⟨gb,k*6+4,none⟩ (.int .i64 m'.left)).setCell ⟨gb,k*6+5,none⟩ (.int .i64 tk):=⟨_,rfl⟩
      rw[←hW8]
      have hgbm:¬mb=gb:=by omega
      have hg8:gb<b8:=HA8.out _ rfl
      have ho8:OwnT 107 W8 W0.heap.size (some ⟨gb,0,none⟩) c1 (ys.set k ⟨{m' with heard:=tk},A',c'⟩):=by
       rw[hW8]
       exact HO7.out.set hlt ⟨{m' with heard:=tk},A',c'⟩ HMR6.out (fun hne a ha e=>by have h1:=HFR'.out a ha;omega)
      have hs8:W8.heap.size=W6.heap.size:=by rw[hW8];simp
      have hb8:Below w.heap.size w W8:=by
       rw[hW8]
       exact Below.setCell (Below.setCell (Below.setCell (Below.setCell (Below.setCell (Below.setCell HB7.out (p:=⟨gb,k*6,none⟩) (by show w.heap.size≤gb;omega) _) (p:=⟨gb,k*6+1,none⟩) (by show w.heap.size≤gb;omega) _) (p:=⟨gb,k*6+2,none⟩) (by show w.heap.size≤gb;omega) _) (p:=⟨gb,k*6+3,none⟩) (by show w.heap.size≤gb;omega) _) (p:=⟨gb,k*6+4,none⟩) (by show w.heap.size≤gb;omega) _) (p:=⟨gb,k*6+5,none⟩) (by show w.heap.size≤gb;omega) _
      have hk:∀b,¬b=gb→W8.heap[b]? =W6.heap[b]? :=fun b hne=>by
       rw[hW8,heap_setCell_other _ _ _ _ hne,heap_setCell_other _ _ _ _ hne,heap_setCell_other _ _ _ _ hne,heap_setCell_other _ _ _ _ hne,heap_setCell_other _ _ _ _ hne,heap_setCell_other _ _ _ _ hne]
      have k3:=(hk (w.heap.size+1+1+1) (by omega)).trans H3.out
      have k4:=(hk b8 (by omega)).trans H4.out
      have P3:=zh k3
      have P8:=zh hb8
      have PO:=zh ho8
      have yb8:b8<W8.heap.size:=blk_lt k4
      have yr3:w.heap.size+1+1+1<W8.heap.size:=blk_lt k3
      clear hW8 hk hb8 ho8 t0 t1 t2 t3 t4 t5 tf0 tf1 tf2 tf3 tf4 tf5 v0 v1 v2 vf0 vf1 vf2
      (obtain⟨d0,df0,d1,df1,d2,df2⟩:=cv3 k3)
      (obtain⟨v0,vf0,v1,vf1,v2,vf2⟩:=cv3 k4)
      clear k3 k4
      go_wp2_with fail
      refine bodyPost_ret (Tryz.rres_fld2 rfl _ _ rfl (set3_block P3.out)) rfl ?_
      have hhg:heardG g (fldOf tk ls xs) o=fldOf tk ls (ys.set k ⟨{m' with heard:=tk},A',c'⟩):=by
       unfold heardG
       rw[if_neg (by rw[hhe.out,hol];simp),←HFI.out,←HST.out,HGD.out,HL.out]
       unfold fldOf
       rw[List.map_set,HM1.out,Int.toNat_natCast]
       rfl
      have hf9:∀y∈ys.set k ⟨{m' with heard:=tk},A',c'⟩,∀a,y.A=some a→W0.heap.size≤a.block:=fun y hy=>by
       rcases List.mem_or_eq_of_mem_set hy with hy|rfl
       ·exact HF1.out y hy
       ·intro a ha;have:=HFR'.out a ha;omega
      have hlen9:(ys.set k ⟨{m' with heard:=tk},A',c'⟩).length=ys.length:=List.length_set
      refine⟨.inr ⟨hhe.out,some ⟨gb,0,none⟩,c1,ys.set k ⟨{m' with heard:=tk},A',c'⟩,by rw[hlen9];rfl,hhg.symm,?_,fun y hy a ha=>by have:=hf9 y hy a ha;omega,?_⟩,Below.set3 (b:=w.heap.size+1+1+1) P8.out (by omega) _ _ _⟩
      ·exact(OwnT.setc (OwnT.setc (OwnT.setc PO.out hf9 _ z3) hf9 _ z3) hf9 _ z3).mono (by omega)
      ·intro y hy
       rcases List.mem_or_eq_of_mem_set hy with hy|rfl
       ·exact HN1.out y hy
       ·exact HNL'.out
end Go.Proofs.YtehnikhicnnnhaaGreatDoor
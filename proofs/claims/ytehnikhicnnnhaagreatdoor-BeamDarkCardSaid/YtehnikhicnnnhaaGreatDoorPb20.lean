/- BeamDark answers true. -/
import Derived.Test.YtehnikhicnnnhaaGreatDoorPa52
import Derived.Test.YtehnikhicnnnhaaGreatDoorPa66
import Derived.Test.YtehnikhicnnnhaaGreatDoorPa68
import Derived.Test.YtehnikhicnnnhaaGreatDoorPa71
import Derived.Test.YtehnikhicnnnhaaGreatDoorPa72
import Derived.Test.YtehnikhicnnnhaaGreatDoorPa73
import Derived.Test.YtehnikhicnnnhaaGreatDoorPa74
import Derived.Test.YtehnikhicnnnhaaGreatDoorPa81
namespace Go.Proofs.YtehnikhicnnnhaaGreatDoor
open Go.RowKit
theorem few_ns{g:Grd}(h:fewG g=true):g.sta.length≤12:=by
 unfold fewG at h
 simp only[Bool.and_eq_true,decide_eq_true_eq]at h
 omega
theorem few_short{g:Grd}(h:fewG g=true):shortG g=true:=by
 unfold fewG at h
 simp only[Bool.and_eq_true]at h
 exact h.1
theorem short_m{xs:List MA}(h:shortF xs=true):∀x∈xs,shortM x.m=true:=by
 unfold shortF at h
 simp only[Bool.and_eq_true,List.all_eq_true]at h
 exact h.2
theorem short_way{xs:List MA}(h:shortF xs=true):∀x∈xs,x.m.way.length≤12∨x.m.way.length=41:=fun x hx=>by
 have h1:=short_m h x hx
 unfold shortM at h1
 simp only[Bool.and_eq_true,Bool.or_eq_true,decide_eq_true_eq,beq_iff_eq]at h1
 omega
theorem small_ok{g:Grd}{f0:Fld}{tk ls tk' ls':Int}{xs ys:List MA}(h:SmallF xs)(he:f0=fldOf tk ls xs)(hs:Sf g f0 (fldOf tk' ls' ys)):SmallF ys:=by
 subst he
 have hn:ys.map (fun y=>y.m.name)=xs.map (fun x=>x.m.name):=by simpa [fldOf,List.map_map,Function.comp_def]using hs.name
 have hc:ys.map (fun y=>y.m.sec)=xs.map (fun x=>x.m.sec):=by simpa [fldOf,List.map_map,Function.comp_def]using hs.sec
 refine⟨by have:=congrArg List.length hn;simp at this;have:=h.n;omega,fun y hy=>?_,fun y hy=>?_,fun y hy=>?_⟩
 ·have h1:y.m.name∈xs.map (fun x=>x.m.name):=by rw[←hn];exact List.mem_map_of_mem hy
  obtain⟨x,hx,e⟩:=List.mem_map.1 h1
  rw[←e];exact h.name x hx
 ·have h1:y.m.sec∈xs.map (fun x=>x.m.sec):=by rw[←hc];exact List.mem_map_of_mem hy
  obtain⟨x,hx,e⟩:=List.mem_map.1 h1
  rw[←e];exact h.sec x hx
 ·have:=hs.way y.m (List.mem_map_of_mem hy);omega
theorem short_keep{g:Grd}{f0:Fld}{tk ls tk' ls':Int}{xs ys:List MA}(h:shortF xs=true)(he:f0=fldOf tk ls xs)(hs:Sf g f0 (fldOf tk' ls' ys))(hl:ys.length≤5):shortF ys=true:=by
 subst he
 have hn:ys.map (fun y=>y.m.name)=xs.map (fun x=>x.m.name):=by simpa [fldOf,List.map_map,Function.comp_def]using hs.name
 have hc:ys.map (fun y=>y.m.sec)=xs.map (fun x=>x.m.sec):=by simpa [fldOf,List.map_map,Function.comp_def]using hs.sec
 unfold shortF
 rw[decide_eq_false (by omega),Bool.false_and,Bool.not_false,Bool.true_and,List.all_eq_true]
 intro y hy
 have hw:=hs.way y.m (List.mem_map_of_mem hy)
 have h1:y.m.name∈xs.map (fun x=>x.m.name):=by rw[←hn];exact List.mem_map_of_mem hy
 obtain⟨x,hx,e⟩:=List.mem_map.1 h1
 have h2:y.m.sec∈xs.map (fun x=>x.m.sec):=by rw[←hc];exact List.mem_map_of_mem hy
 obtain⟨z,hz,e2⟩:=List.mem_map.1 h2
 have h3:=short_m h x hx
 have h4:=short_m h z hz
 unfold shortM at h3 h4 ⊢
 simp only[Bool.and_eq_true,Bool.or_eq_true,decide_eq_true_eq]at h3 h4 ⊢
 rw[←e,←e2]
 exact⟨h3.1,h4.2.1,.inl (by omega)⟩
theorem rr_zero{tk:Int}{n:Nat}(h1:n≤256)(h2:tk+(n:Int)≤10000000):rrE tk n=0:=by unfold rrE;rw[if_neg (by omega),if_neg (by omega)]
theorem meas_lt{k n:Nat}(h:k<n)(hb:n≤1000):n-(intOf (.int .i64 (wrap64 ((k:Int)+1)))).toNat<n-(intOf (.int .i64 (k:Int))).toNat:=by
 have h1:wrap64 ((k:Int)+1)=(k:Int)+1:=by rw[←IntWalk.i64_left];exact IntWalk.i64_in _ (by omega)
 have hh:(intOf (.int .i64 (wrap64 ((k:Int)+1)))).toNat=k+1:=by rw[h1];rfl
 exact Nat.sub_lt_sub_left h (by rw[hh];exact Nat.lt_succ_self k)
theorem meas_lt2{k n:Nat}(h:k<n):n-(intOf (.int .i64 ((k:Int)+1))).toNat<n-(intOf (.int .i64 (k:Int))).toNat:=by
 have hh:(intOf (.int .i64 ((k:Int)+1))).toNat=k+1:=rfl
 exact Nat.sub_lt_sub_left h (by rw[hh];exact Nat.lt_succ_self k)
theorem def_sf{g:Grd}{f0:Fld}(hns:g.sta.length≤12)(h:Sf g f0 f0)(s:ByteArray):Sf g f0 (defG g f0 s):=by
 have hv:=def_val h.val s
 refine⟨hv,rfl,?_,?_,fun m hm=>?_⟩
 ·show(f0.mir.map _).map _=_
  rw[List.map_map]
  exact List.map_congr_left fun m hm=>(defM_keep h.val s hm).2.1
 ·show(f0.mir.map _).map _=_
  rw[List.map_map]
  exact List.map_congr_left fun m hm=>(defM_keep h.val s hm).2.2.1
 ·obtain⟨x,hx,rfl⟩:=List.mem_map.1 hm
  have ho:=gridC_ok (fieldC_grid h.val)
  have hu:=gridC_uniq (fieldC_grid h.val)
  unfold defM
  split
  ·exact(by
    obtain⟨m',hl,e⟩:=sent_led (h.ok.2.2.mir x hx)
    show(sentG g x).way.length≤12
    rw[e]
    exact Nat.le_trans (led_way ho hu (h.ok.2.2.mir x hx) hl) hns)
  ·exact h.way x hx
structure XB(g:Grd)(f0:Fld)(tk ls:Int)(X:World)(xb q:Nat)(W:World):Prop where
 ex:∃A c zs,W.heap[xb]? =some (.cells #[.int .i64 (tk+(q:Int)),.int .i64 ls,.slice A (List.length zs) c] 72 (0,0))∧fldOf (tk+(q:Int)) ls zs=stepN g f0 q∧FldR W W.heap.size A c zs∧Blks (fun d=>d≠xb) A zs
 lo:X.heap.size≤xb
 low:Below X.heap.size X W
theorem XB.next{g:Grd}{f0:Fld}{tk ls:Int}{X:World}{xb q:Nat}{W W':World}(h:XB g f0 tk ls X xb q W)(hb:Below W.heap.size W W'):XB g f0 tk ls X xb q W':=by
 obtain⟨A,c,zs,h1,h2,h3,h4⟩:=h.ex
 exact⟨⟨A,c,zs,(hb.block xb (blk_lt h1)).trans h1,h2,FldR.to h3 hb,h4⟩,h.lo,h.low.trans (hb.mono h.low.size)⟩
theorem XB.load{g:Grd}{f0:Fld}{tk ls:Int}{X Y:World}{xb q p nb:Nat}{W W':World}{t1 l1:Int}{A1:Option Addr}{c1:Nat}{vs:List MA}(h:XB g f0 tk ls X xb q Y)(hn:Below Y.heap.size Y W)(hb:Below W.heap.size W W')(h1:W.heap[nb]? =some (.cells #[.int .i64 t1,.int .i64 l1,.slice A1 vs.length c1] 72 (0,0)))(h2:fldOf t1 l1 vs=stepN g f0 p)(h3:FldR W W.heap.size A1 c1 vs)(h4:Blks (fun d=>Y.heap.size≤d) A1 vs)(ht:t1=tk+(p:Int))(hl:l1=ls):
 XB g f0 tk ls X xb p (((W'.setCell ⟨xb,0,none⟩ (.int .i64 t1)).setCell ⟨xb,1,none⟩ (.int .i64 l1)).setCell ⟨xb,2,none⟩ (.slice A1 vs.length c1)):=by
 obtain⟨A,c,zs,k1,_,_,_⟩:=h.ex
 have yx:=blk_lt k1
 have hbl:Blks (fun d=>d≠xb) A1 vs:=h4.imp fun d hd=>by omega
 have k2:W'.heap[xb]? =some (.cells #[.int .i64 (tk+(q:Int)),.int .i64 ls,.slice A (List.length zs) c] 72 (0,0)):=(hb.block xb (Nat.lt_of_lt_of_le yx hn.size)).trans ((hn.block xb yx).trans k1)
 subst ht hl
 exact⟨⟨A1,c1,vs,set3_block k2,h2,((FldR.to h3 hb).set3 _ _ _ hbl).more (by simp),hbl⟩,h.lo,Below.set3 (h.low.trans ((hn.trans (hb.mono hn.size)).mono h.low.size)) h.lo _ _ _⟩
theorem meas_sub{L:Int}(h:0<L):(intOf (.int .i64 (L-100))).toNat<(intOf (.int .i64 L)).toNat:=by
 show(L-100).toNat<L.toNat
 omega
set_option maxRecDepth 100000 in
set_option maxHeartbeats 32000000 in
theorem BeamDark_c(a:GA)(g:Grd)(tk ls:Int)(A:Option Addr)(c:Nat)(xs:List MA)(n0:Int)(w:World)(h00:0≤n0)(h01:n0<256)(hr:GridR w w.heap.size a g)(hf:FldR w w.heap.size A c xs)(hk:KindsAt w)(hp:PowAt w):
 Calls Tryz.prog 11 #[(.agg #[.int .i64 g.blur,.slice a.pS g.sta.length a.cs,.slice a.pM g.mov.length a.cm,.slice a.pZ g.zon.length a.cz]),(.agg #[.int .i64 tk,.int .i64 ls,.slice A xs.length c]),.int .u8 n0] w fun e w'=>e=.returned (.bool true)∧Below w.heap.size w w':=by
 obtain⟨W0,hW0⟩:∃W0,W0=(w.alloc (.cells #[.int .i64 g.blur,.slice a.pS g.sta.length a.cs,.slice a.pM g.mov.length a.cm,.slice a.pZ g.zon.length a.cz] 26)).alloc (.cells #[.int .i64 tk,.int .i64 ls,.slice A xs.length c] 66):=⟨_,rfl⟩
 have k0:W0.heap[w.heap.size]? =some (.cells #[.int .i64 g.blur,.slice a.pS g.sta.length a.cs,.slice a.pM g.mov.length a.cm,.slice a.pZ g.zon.length a.cz] 26 (0,0)):=by rw[hW0];exact(Below.heap_alloc _ _ _ (by simp)).trans (heap_alloc_new w _)
 have k1:W0.heap[w.heap.size+1]? =some (.cells #[.int .i64 tk,.int .i64 ls,.slice A xs.length c] 66 (0,0)):=by rw[hW0];exact heap_two w _ _
 have hB0:Below w.heap.size w W0:=by rw[hW0];exact zbl
 have HG:Hid (GridR W0 W0.heap.size a g):=zh (hr.to hB0)
 have HF:=zh (FldR.to hf hB0)
 have HKD:Hid (KindsAt W0):=zh (hk.to hB0)
 have HPW:Hid (PowAt W0):=zh (hp.to hB0)
 have HB0:=zh hB0
 have K0:=zh k0
 have K1:=zh k1
 have z0:=bk_lt k0
 have z1:=bk_lt k1
 clear hr hk hp hf hB0
 (obtain⟨d0,d1,d2,d3⟩:=cg4 k0)
 (obtain⟨q0,qf0,q1,qf1,q2,qf2⟩:=cv3 k1)
 clear k0 k1 qf0 qf1 qf2
 have hFW:=fun W (h:GridR W W.heap.size a g)=>few_c a g W h
 have hSF:=fun W (h:FldR W W.heap.size A c xs)=>rShortF_c tk ls A c xs W h
 cases hfw:fewG g
 ·rw[hfw]at hFW
  have HFW:=zh hFW
  clear hFW hfw hSF
  go_enter Tryz.func11,Tryz.ntmps11
  go_upto_region 1 with fail
  rw[←hW0]
  clear hW0
  go_wp2_with (first|(go_at_call 54;(with_reducible refine Calls.mono (HFW.out _ (HG.out.to (by exact zbl))) ?_);rintro e wA ⟨rfl,hbA⟩;(have hq_wA:Below W0.heap.size W0 wA:=by exact zbl);(have hc_wA:=(bcell hq_wA).1);(have y0_wA:w.heap.size<wA.heap.size:=Nat.lt_of_lt_of_le z0 hq_wA.size);(have y1_wA:w.heap.size+1<wA.heap.size:=Nat.lt_of_lt_of_le z1 hq_wA.size);clear hq_wA)|(go_at_call 16;(with_reducible refine Calls.mono (awake_c _ (HKD.out.to (by exact zbl)) (HPW.out.to (by exact zbl))) ?_);rintro e wK ⟨rfl,hbK⟩))
  go_ret
  exact⟨rfl,HB0.out.trans ((show Below W0.heap.size W0 _ by exact zbl).mono HB0.out.size)⟩
 rw[hfw]at hFW
 have HFW:=zh hFW
 have hsm:=short_small (few_short hfw)
 clear hFW
 cases hsf:shortF xs
 ·rw[hsf]at hSF
  have HSF:=zh hSF
  clear hSF hsf hfw
  go_enter Tryz.func11,Tryz.ntmps11
  go_upto_region 1 with fail
  rw[←hW0]
  clear hW0
  go_wp2_with (first|(go_at_call 54;(with_reducible refine Calls.mono (HFW.out _ (HG.out.to (by exact zbl))) ?_);rintro e wA ⟨rfl,hbA⟩;(have hq_wA:Below W0.heap.size W0 wA:=by exact zbl);(have hc_wA:=(bcell hq_wA).1);(have y0_wA:w.heap.size<wA.heap.size:=Nat.lt_of_lt_of_le z0 hq_wA.size);(have y1_wA:w.heap.size+1<wA.heap.size:=Nat.lt_of_lt_of_le z1 hq_wA.size);clear hq_wA)|(go_at_call 37;(with_reducible refine Calls.mono (HSF.out _ (HF.out.to (by exact zbl))) ?_);rintro e wB ⟨rfl,hbB⟩;(have hq_wB:Below W0.heap.size W0 wB:=by exact zbl);(have hc_wB:=(bcell hq_wB).1);(have y0_wB:w.heap.size<wB.heap.size:=Nat.lt_of_lt_of_le z0 hq_wB.size);(have y1_wB:w.heap.size+1<wB.heap.size:=Nat.lt_of_lt_of_le z1 hq_wB.size);clear hq_wB)|(go_at_call 16;(with_reducible refine Calls.mono (awake_c _ (HKD.out.to (by exact zbl)) (HPW.out.to (by exact zbl))) ?_);rintro e wK ⟨rfl,hbK⟩))
  go_ret
  exact⟨rfl,HB0.out.trans ((show Below W0.heap.size W0 _ by exact zbl).mono HB0.out.size)⟩
 rw[hsf]at hSF
 have HSF:=zh hSF
 have hsmf:=short_fld hsf
 clear hSF
 have HCF:=zh (show ∀W,GridR W W.heap.size a g→FldR W W.heap.size A c xs→Calls Tryz.prog 41 #[(.agg #[.int .i64 g.blur,.slice a.pS g.sta.length a.cs,.slice a.pM g.mov.length a.cm,.slice a.pZ g.zon.length a.cz]),(.agg #[.int .i64 tk,.int .i64 ls,.slice A xs.length c])] W fun e w'=>e=.returned (.int .i64 (fieldC g (fldOf tk ls xs)))∧Below W.heap.size W w' from fun W h1 h2=>rCheckField_c a g tk ls A c xs W hsm (by have:=hsmf.2;omega) hsmf.1.way (fun x hx=>⟨hsmf.1.name x hx,hsmf.1.sec x hx⟩) h1 h2)
 obtain⟨B,hB⟩:∃B,B=fieldC g (fldOf tk ls xs):=⟨_,rfl⟩
 rw[←hB]at HCF
 have HB:=zh hB
 have HFWH:=zh hfw
 have HSFH:=zh hsf
 clear hB hfw hsf
 cases h5:decide ((5:Int)<(xs.length:Int))
 case true=>
  go_enter Tryz.func11,Tryz.ntmps11
  go_upto_region 1 with fail
  rw[←hW0]
  clear hW0
  go_wp2_with (first|(go_at_call 54;(with_reducible refine Calls.mono (HFW.out _ (HG.out.to (by exact zbl))) ?_);rintro e wA ⟨rfl,hbA⟩;(have hq_wA:Below W0.heap.size W0 wA:=by exact zbl);(have hc_wA:=(bcell hq_wA).1);(have y0_wA:w.heap.size<wA.heap.size:=Nat.lt_of_lt_of_le z0 hq_wA.size);(have y1_wA:w.heap.size+1<wA.heap.size:=Nat.lt_of_lt_of_le z1 hq_wA.size);clear hq_wA)|(go_at_call 37;(with_reducible refine Calls.mono (HSF.out _ (HF.out.to (by exact zbl))) ?_);rintro e wB ⟨rfl,hbB⟩;(have hq_wB:Below W0.heap.size W0 wB:=by exact zbl);(have hc_wB:=(bcell hq_wB).1);(have y0_wB:w.heap.size<wB.heap.size:=Nat.lt_of_lt_of_le z0 hq_wB.size);(have y1_wB:w.heap.size+1<wB.heap.size:=Nat.lt_of_lt_of_le z1 hq_wB.size);clear hq_wB)|(go_at_call 16;(with_reducible refine Calls.mono (awake_c _ (HKD.out.to (by exact zbl)) (HPW.out.to (by exact zbl))) ?_);rintro e wK ⟨rfl,hbK⟩))
  go_ret
  exact⟨rfl,HB0.out.trans ((show Below W0.heap.size W0 _ by exact zbl).mono HB0.out.size)⟩
 case false=>
  cases h30:decide ((30:Int)<ls)
  case true=>
   go_enter Tryz.func11,Tryz.ntmps11
   go_upto_region 1 with fail
   rw[←hW0]
   clear hW0
   go_wp2_with (first|(go_at_call 54;(with_reducible refine Calls.mono (HFW.out _ (HG.out.to (by exact zbl))) ?_);rintro e wA ⟨rfl,hbA⟩;(have hq_wA:Below W0.heap.size W0 wA:=by exact zbl);(have hc_wA:=(bcell hq_wA).1);(have y0_wA:w.heap.size<wA.heap.size:=Nat.lt_of_lt_of_le z0 hq_wA.size);(have y1_wA:w.heap.size+1<wA.heap.size:=Nat.lt_of_lt_of_le z1 hq_wA.size);clear hq_wA)|(go_at_call 37;(with_reducible refine Calls.mono (HSF.out _ (HF.out.to (by exact zbl))) ?_);rintro e wB ⟨rfl,hbB⟩;(have hq_wB:Below W0.heap.size W0 wB:=by exact zbl);(have hc_wB:=(bcell hq_wB).1);(have y0_wB:w.heap.size<wB.heap.size:=Nat.lt_of_lt_of_le z0 hq_wB.size);(have y1_wB:w.heap.size+1<wB.heap.size:=Nat.lt_of_lt_of_le z1 hq_wB.size);clear hq_wB)|(go_at_call 16;(with_reducible refine Calls.mono (awake_c _ (HKD.out.to (by exact zbl)) (HPW.out.to (by exact zbl))) ?_);rintro e wK ⟨rfl,hbK⟩))
   go_ret
   exact⟨rfl,HB0.out.trans ((show Below W0.heap.size W0 _ by exact zbl).mono HB0.out.size)⟩
  case false=>
   cases hT:decide ((9998000:Int)<tk)
   case true=>
    go_enter Tryz.func11,Tryz.ntmps11
    go_upto_region 1 with fail
    rw[←hW0]
    clear hW0
    go_wp2_with (first|(go_at_call 54;(with_reducible refine Calls.mono (HFW.out _ (HG.out.to (by exact zbl))) ?_);rintro e wA ⟨rfl,hbA⟩;(have hq_wA:Below W0.heap.size W0 wA:=by exact zbl);(have hc_wA:=(bcell hq_wA).1);(have y0_wA:w.heap.size<wA.heap.size:=Nat.lt_of_lt_of_le z0 hq_wA.size);(have y1_wA:w.heap.size+1<wA.heap.size:=Nat.lt_of_lt_of_le z1 hq_wA.size);clear hq_wA)|(go_at_call 37;(with_reducible refine Calls.mono (HSF.out _ (HF.out.to (by exact zbl))) ?_);rintro e wB ⟨rfl,hbB⟩;(have hq_wB:Below W0.heap.size W0 wB:=by exact zbl);(have hc_wB:=(bcell hq_wB).1);(have y0_wB:w.heap.size<wB.heap.size:=Nat.lt_of_lt_of_le z0 hq_wB.size);(have y1_wB:w.heap.size+1<wB.heap.size:=Nat.lt_of_lt_of_le z1 hq_wB.size);clear hq_wB)|(go_at_call 16;(with_reducible refine Calls.mono (awake_c _ (HKD.out.to (by exact zbl)) (HPW.out.to (by exact zbl))) ?_);rintro e wK ⟨rfl,hbK⟩))
    go_ret
    exact⟨rfl,HB0.out.trans ((show Below W0.heap.size W0 _ by exact zbl).mono HB0.out.size)⟩
   case false=>
    cases hBn:(B !=0)
    case true=>
     go_enter Tryz.func11,Tryz.ntmps11
     go_upto_region 1 with fail
     rw[←hW0]
     clear hW0
     go_wp2_with (first|(go_at_call 54;(with_reducible refine Calls.mono (HFW.out _ (HG.out.to (by exact zbl))) ?_);rintro e wA ⟨rfl,hbA⟩;(have hq_wA:Below W0.heap.size W0 wA:=by exact zbl);(have hc_wA:=(bcell hq_wA).1);(have y0_wA:w.heap.size<wA.heap.size:=Nat.lt_of_lt_of_le z0 hq_wA.size);(have y1_wA:w.heap.size+1<wA.heap.size:=Nat.lt_of_lt_of_le z1 hq_wA.size);clear hq_wA)|(go_at_call 37;(with_reducible refine Calls.mono (HSF.out _ (HF.out.to (by exact zbl))) ?_);rintro e wB ⟨rfl,hbB⟩;(have hq_wB:Below W0.heap.size W0 wB:=by exact zbl);(have hc_wB:=(bcell hq_wB).1);(have y0_wB:w.heap.size<wB.heap.size:=Nat.lt_of_lt_of_le z0 hq_wB.size);(have y1_wB:w.heap.size+1<wB.heap.size:=Nat.lt_of_lt_of_le z1 hq_wB.size);clear hq_wB)|(go_at_call 41;(with_reducible refine Calls.mono (HCF.out _ (HG.out.to (by exact zbl)) (HF.out.to (by exact zbl))) ?_);rintro e wC ⟨rfl,hbC⟩;(have hq_wC:Below W0.heap.size W0 wC:=by exact zbl);(have hc_wC:=(bcell hq_wC).1);(have y0_wC:w.heap.size<wC.heap.size:=Nat.lt_of_lt_of_le z0 hq_wC.size);(have y1_wC:w.heap.size+1<wC.heap.size:=Nat.lt_of_lt_of_le z1 hq_wC.size);clear hq_wC)|(go_at_call 16;(with_reducible refine Calls.mono (awake_c _ (HKD.out.to (by exact zbl)) (HPW.out.to (by exact zbl))) ?_);rintro e wK ⟨rfl,hbK⟩))
     go_ret
     exact⟨rfl,HB0.out.trans ((show Below W0.heap.size W0 _ by exact zbl).mono HB0.out.size)⟩
    case false=>
     have hB0:fieldC g (fldOf tk ls xs)=0:=by have h:B=0:=by simpa using hBn
                                              exact HB.out.symm.trans h
     have HB00:=zh hB0
     clear hB0
     go_enter Tryz.func11,Tryz.ntmps11
     go_upto_region 1 with fail
     rw[←hW0]
     clear hW0
     go_upto_region 3 with (first|(go_at_call 54;(with_reducible refine Calls.mono (HFW.out _ (HG.out.to (by exact zbl))) ?_);rintro e wA ⟨rfl,hbA⟩;(have hq_wA:Below W0.heap.size W0 wA:=by exact zbl);(have hc_wA:=(bcell hq_wA).1);(have y0_wA:w.heap.size<wA.heap.size:=Nat.lt_of_lt_of_le z0 hq_wA.size);(have y1_wA:w.heap.size+1<wA.heap.size:=Nat.lt_of_lt_of_le z1 hq_wA.size);clear hq_wA)|(go_at_call 37;(with_reducible refine Calls.mono (HSF.out _ (HF.out.to (by exact zbl))) ?_);rintro e wB ⟨rfl,hbB⟩;(have hq_wB:Below W0.heap.size W0 wB:=by exact zbl);(have hc_wB:=(bcell hq_wB).1);(have y0_wB:w.heap.size<wB.heap.size:=Nat.lt_of_lt_of_le z0 hq_wB.size);(have y1_wB:w.heap.size+1<wB.heap.size:=Nat.lt_of_lt_of_le z1 hq_wB.size);clear hq_wB)|(go_at_call 41;(with_reducible refine Calls.mono (HCF.out _ (HG.out.to (by exact zbl)) (HF.out.to (by exact zbl))) ?_);rintro e wC ⟨rfl,hbC⟩;(have hq_wC:Below W0.heap.size W0 wC:=by exact zbl);(have hc_wC:=(bcell hq_wC).1);(have y0_wC:w.heap.size<wC.heap.size:=Nat.lt_of_lt_of_le z0 hq_wC.size);(have y1_wC:w.heap.size+1<wC.heap.size:=Nat.lt_of_lt_of_le z1 hq_wC.size);clear hq_wC))
     have hB0:=HB00.out
     have hfw:=HFWH.out
     have hsf:=HSFH.out
     obtain⟨n,hnm,hn2,hnd,hnb⟩:=drk_dead hB0
     obtain⟨M,hM⟩:∃M,M=mostL g ls (xs.map MA.m):=⟨_,rfl⟩
     have hnM:(n:Int)≤M:=by rw[hM];exact hnm
     have hfe:∀ys:List MA,ys.map MA.m=xs.map MA.m→fldOf tk ls ys=fldOf tk ls xs:=fun ys h=>by unfold fldOf;rw[h]
     have HDL:=zh (show ∀W a' A' c' ys,GridR W W.heap.size a' g→KindsAt W→ys.map MA.m=xs.map MA.m→FldR W W.heap.size A' c' ys→Calls Tryz.prog 68 #[(.agg #[.int .i64 g.blur,.slice a'.pS g.sta.length a'.cs,.slice a'.pM g.mov.length a'.cm,.slice a'.pZ g.zon.length a'.cz]),(.agg #[.int .i64 tk,.int .i64 ls,.slice A' ys.length c'])] W fun e w'=>e=.returned (.tuple #[.int .i64 (n:Int),.int .i64 0])∧Below W.heap.size W w' from fun W a' A' c' ys h1 h2 h3 h4=>by
      have h5:=Deadline_c a' g tk ls A' c' ys W hsm (small_map hsmf.1 h3) h1 h2 h4 n (by rw[hfe ys h3];exact fun _=>⟨by omega,hnd,hnb⟩)
      rw[hfe ys h3,show dlN g (fldOf tk ls xs) n=(n:Int) by unfold dlN;rw[if_pos hB0],hB0]at h5
      exact h5)
     obtain⟨f0,hf0⟩:∃f,f=fldOf tk ls xs:=⟨_,rfl⟩
     rw[←hf0]at hnd hnb hB0
     have hsf0:Sf g f0 f0:=by
      refine⟨hB0,rfl,rfl,rfl,fun m hm=>?_⟩
      rw[hf0]at hm hB0
      obtain⟨x,hx,rfl⟩:=List.mem_map.1 hm
      have h1:=short_way hsf x hx
      have h2:=((fieldC_fld hB0).mir x.m (List.mem_map_of_mem hx)).len
      omega
     have hns:g.sta.length≤12:=few_ns hfw
     have htk:tk≤9998000:=by have:=of_decide_eq_false hT;omega
     have hf0t:f0.tick=tk:=by rw[hf0];rfl
     have hf0l:f0.lease=ls:=by rw[hf0];rfl
     have htk0:0≤tk:=by have:=hsf0.ok.2.2.tick0;rw[hf0t]at this;exact this
     have hls0:1≤ls:=by have:=hsf0.ok.2.2.lease0;rw[hf0l]at this;exact this
     have hls1:ls≤100:=by have:=hsf0.ok.2.2.lease1;rw[hf0l]at this;exact this
     have HQS:=zh (fun(q:Nat) (hq:q≤2000)=>sf_step hns hsf0 q (by rw[hf0t];omega))
     have HDK:=zh (show ∀q:Nat,darkG g (stepN g f0 q)=decide (n≤q)from fun q=>by
      by_cases h:n≤q
      ·obtain⟨j,rfl⟩:∃j,q=n+j:=⟨q-n,by omega⟩
       rw[decide_eq_true h];exact drk_at hsf0.val hnd j
      ·rw[decide_eq_false h];exact hnb q (by omega))
     have HF0:=zh hf0
     have HS0:=zh hsf0
     have HSM:=zh hsmf
     have HFW0:=zh hsf
     have HM:=zh hM
     have HTK:=zh (And.intro htk0 htk)
     have hxl:xs.length≤5:=by have:=of_decide_eq_false h5;omega
     have hll:xs.length≤1000:=by omega
     have hm2:M≤100000∧0≤M:=by
      have h:=mostL_rng g ls ⟨by omega,hls1⟩ (by omega) (xs.map MA.m) (fun m hm=>by
       obtain⟨x,hx,rfl⟩:=List.mem_map.1 hm
       exact hsmf.1.way x hx)
      rw[hM];exact⟨h.2.1,h.1⟩
     have HFD:=zh (fun W (h:FldR W W.heap.size A c xs)=>field0_c tk ls A c xs W hll HSM.out.1.way h)
     obtain⟨W3,hW3⟩:∃W,W=wC:=⟨_,rfl⟩
     subst hW3
     (have hq_W3:Below W0.heap.size W0 W3:=by exact zbl);(have hc_W3:=(bcell hq_W3).1);(have y0_W3:w.heap.size<W3.heap.size:=Nat.lt_of_lt_of_le z0 hq_W3.size);(have y1_W3:w.heap.size+1<W3.heap.size:=Nat.lt_of_lt_of_le z1 hq_W3.size);(have HQ_W3:=zh hq_W3);clear hq_W3
     clear hnm hM hfe hf0 hsf0 hsf hnd hnb htk0 htk hsmf hB0 hbA hbB hbC
     refine dk_r3 W3 a g tk ls A c xs w.heap.size (w.heap.size+1) (n:Int) hsm HSM.out.1 (HG.out.to HQ_W3.out) (HF.out.to HQ_W3.out) ((HQ_W3.out.block w.heap.size z0).trans K0.out) ((HQ_W3.out.block (w.heap.size+1) z1).trans K1.out) (fun W a' A' c' ys hb h1 h2 h3=>HDL.out W a' A' c' ys h1 (HKD.out.to (HQ_W3.out.trans (hb.mono HQ_W3.out.size))) h2 h3) _ _ _ _ _ _ _ _ _ _ _ _ _ _ _ _ _ _ _ _ _ _ _ _ _ _ _ _ _ _ _ _ _ _ _ _ _ _ _ _ _ _ _ _ _ _ _ _ _ _ _ _ _ _ _ _ _ _ _ _ _ _ _ _ _ _ _ _ _ _ _ _ _ _ _ _ _ _ _ _ _ _ _ _ _ _ _ _ _ _ _ _ _ _ _ _ _ _ _ _ _ _ _ _ _ _ _ _ _ _ _ _ _ _ _ _ _ _ _ _ _ _ _ _ _ _ _ _ _ _ _ _ _ _ _ _ _ _ _ _ _ _ _ _ _ _ _ _ _ _ _ _ _ _ _ _ _ _ _ _ _ _ _ _ _ _ _ _ _ _ _ _ _ _ _ _ _ _ _ _ _ _ _ _ _ _ _ _ _ _ _ _ _ _ _ _ _ _ _ _ _ _ _ _ _ _ _ _ _ _ _ _ _ _ _ _ _ _ _ _ _ _ _ _ _ _ _ _ _ _ _ _ _ _ _ _ _ _ _ _ _ _ _ _ _ _ _ _ _ _ _ _ _ _ _ _ _ _ _ _ _ _ _ _ _ _ _ _ _ _ _ _ _ _ _ _ _ _ _ _ _ _ _ _ _ _ _ _ _ _ _ _ _ _ _ _ _ _ _ _ _ _ _ _ _ _ _ _ _ _ _ _ _ _ _ _ _ _ _ _ _ _ _ _ _ _ _ _ _ _ _ _ _ _ _ _ _ _ _ _ _ _ _ _ _ _ _ _ _ _ _ _ _ _ _ _ _ _ _ _ _ _ _ _ _ _ _ _ ?_
     intro v3_0 v3_1 v3_2 v3_3 v3_4 v3_5 v3_6 v3_7 W4 hb4
     dsimp only
     (have hq_W4:Below W0.heap.size W0 W4:=HQ_W3.out.trans (hb4.mono HQ_W3.out.size));(have hc_W4:=(bcell hq_W4).1);(have y0_W4:w.heap.size<W4.heap.size:=Nat.lt_of_lt_of_le z0 hq_W4.size);(have y1_W4:w.heap.size+1<W4.heap.size:=Nat.lt_of_lt_of_le z1 hq_W4.size);(have HQ_W4:=zh hq_W4);clear hq_W4
     clear hb4
     go_wp2_with fail
     go_loopw [9,75] (fun s9 i wr=>∃k:Nat,k≤xs.length∧s9=.int .i64 (mostL g ls ((xs.take k).map MA.m))∧i=.int .i64 k∧Below W4.heap.size W4 wr) (fun _ i _=>xs.length-(intOf i).toNat)
     case atStart=>exact⟨0,Nat.zero_le _,rfl,rfl,Below.refl _ _⟩
     case round=>
      obtain⟨k,hk,rfl,rfl,hb⟩:=hrel
      (have hq_wr:Below W0.heap.size W0 wr:=HQ_W4.out.trans (hb.mono HQ_W4.out.size));(have hc_wr:=(bcell hq_wr).1);(have y0_wr:w.heap.size<wr.heap.size:=Nat.lt_of_lt_of_le z0 hq_wr.size);(have y1_wr:w.heap.size+1<wr.heap.size:=Nat.lt_of_lt_of_le z1 hq_wr.size);(have HQ_wr:=zh hq_wr);clear hq_wr
      by_cases hlt:k<xs.length
      ·obtain⟨x,hx⟩:∃x,x=xs[k]:=⟨_,rfl⟩
       have hxm:x∈xs:=by rw[hx];exact List.getElem_mem hlt
       have hwl:x.m.way.length≤1000:=HSM.out.1.way x hxm
       obtain⟨yb,yo,ey,hyb,v0,v1,v2,v3,v4,v5⟩:=HF.out.rw_.get6 (k:=k) (by simpa using hlt) (by rw[List.getElem_map,←hx];rfl)
       have HX:=zh hx
       have yyb:yb<wr.heap.size:=Nat.lt_of_lt_of_le hyb HQ_wr.out.size
       obtain⟨P,hP⟩:∃P,P=mostL g ls ((xs.take k).map MA.m):=⟨_,rfl⟩
       rw[←hP]
       have HP:=zh hP
       have HB:=zh hb
       rw[ey]
       rw[ey]at q2
       have HEY:=zh ey
       have hw1:IntKind.i64.wrap ((x.m.way.length:Int)+(g.sta.length:Int))=(x.m.way.length:Int)+(g.sta.length:Int):=IntWalk.i64_in _ (by omega)
       have hw2:IntKind.i64.wrap ((x.m.way.length:Int)+(g.sta.length:Int)+1)=(x.m.way.length:Int)+(g.sta.length:Int)+1:=IntWalk.i64_in _ (by omega)
       have hw3:IntKind.i64.wrap (20*((x.m.way.length:Int)+(g.sta.length:Int)+1))=20*((x.m.way.length:Int)+(g.sta.length:Int)+1):=IntWalk.i64_in _ (by omega)
       have hw4:IntKind.i64.wrap (ls+20*((x.m.way.length:Int)+(g.sta.length:Int)+1))=ls+20*((x.m.way.length:Int)+(g.sta.length:Int)+1):=IntWalk.i64_in _ (by omega)
       clear hx hxm ey hP hb
       go_wp2_with fail
       (try rw[←HEY.out])
       go_roundw
       case rel=>exact⟨k+1,Nat.succ_le_of_lt hlt,by rw[List.take_succ_eq_append_getElem hlt,List.map_append,←HX.out,List.map_cons,List.map_nil,mostL_snoc,←HP.out],by first|rfl|go_num,HB.out.trans (Below.mono (by exact zbl) HB.out.size)⟩
       case measure=>first|exact meas_lt2 hlt|exact meas_lt hlt hll|(simp[intOf];omega)
      ·have hkl:k=xs.length:=by omega
       have HB:=zh hb
       rw[hkl,List.take_length,←HM.out]
       have hc1:decide ((n:Int)<0)=false:=decide_eq_false (by omega)
       have hc2:decide (M<(n:Int))=false:=decide_eq_false (by omega)
       have hwn:IntKind.i64.wrap ((n:Int)-1)=(n:Int)-1:=IntWalk.i64_in _ (by omega)
       obtain⟨W5,hW5⟩:∃W,W=wr:=⟨_,rfl⟩
       subst hW5
       have HQ_W5:Hid (Below W0.heap.size W0 W5):=HQ_wr
       clear hkl hk hb hlt
       go_upto_region 13 with (go_at_call 39;(with_reducible refine Calls.mono (HFD.out _ (HF.out.to (HQ_W5.out.trans (Below.mono (by exact zbl) HQ_W5.out.size)))) ?_);rintro e wF ⟨AF,cF,ysF,rfl,hmF,hfF,hnF,hbF⟩;(have HMF:=zh hmF);(have HFF:=zh hfF);clear hmF hfF hnF)
       obtain⟨xb,hxb⟩:∃b,b=wF.heap.size:=⟨_,rfl⟩
       obtain⟨Wx,hWx⟩:∃W,W=wF.alloc (.cells #[.int .i64 tk,.int .i64 ls,.slice AF ysF.length cF] 72):=⟨_,rfl⟩
       rw[←hxb,←hWx]
       have hbx:Below W5.heap.size W5 Wx:=by rw[hWx];exact zbl
       have hx0:XB g f0 tk ls W5 xb 0 Wx:=by
        refine⟨⟨AF,cF,ysF,?_,?_,?_,?_⟩,by rw[hxb];exact hbF.size,hbx⟩
        ·rw[hWx,hxb]
         have e:=heap_alloc_new wF (.cells #[.int .i64 tk,.int .i64 ls,.slice AF ysF.length cF] 72)
         simpa using e
        ·have e:fldOf (tk+((0:Nat):Int)) ls ysF=fldOf tk ls ysF:=by simp
         rw[e]
         show _=f0
         rw[HF0.out];unfold fldOf;rw[HMF.out]
        ·rw[hWx];exact HFF.out.to (Below.alloc (Below.refl _ _) (Nat.le_refl _) _)
        ·rw[hxb];exact HFF.out.blks.imp fun d hd=>Nat.ne_of_lt hd
       have HX0:=zh hx0
       (have hq_Wx:Below W0.heap.size W0 Wx:=HQ_W5.out.trans (hbx.mono HQ_W5.out.size));(have hc_Wx:=(bcell hq_Wx).1);(have y0_Wx:w.heap.size<Wx.heap.size:=Nat.lt_of_lt_of_le z0 hq_Wx.size);(have y1_Wx:w.heap.size+1<Wx.heap.size:=Nat.lt_of_lt_of_le z1 hq_Wx.size);(have HQ_Wx:=zh hq_Wx);clear hq_Wx
       clear hWx hxb hbx hx0 hbF HFF HMF
       go_wp2_with fail
       go_loopw [13] (fun s wr=>∃(L:Int) (q:Nat),s=.int .i64 L∧(L≤0→q=n-1)∧(0<L→(q:Int)+L=(n:Int)-1)∧q≤2000∧L≤2000∧ -1000≤L∧Hid (XB g f0 tk ls W5 xb q wr)) (fun s _=>(intOf s).toNat)
       case atStart=>exact⟨(n:Int)-1,0,rfl,fun h=>by omega,fun h=>by omega,by omega,by omega,by omega,HX0⟩
       case round=>
        clear HX0 hwn
        obtain⟨L,q,rfl,hL0,hL1,hq,hLh,hLl,hxb⟩:=hrel
        obtain⟨Wq,hWq⟩:∃W,W=wr:=⟨_,rfl⟩
        subst hWq
        have HXB:=hxb
        (have hq_Wq:Below W0.heap.size W0 Wq:=HQ_W5.out.trans (hxb.out.low.mono HQ_W5.out.size));(have hc_Wq:=(bcell hq_Wq).1);(have y0_Wq:w.heap.size<Wq.heap.size:=Nat.lt_of_lt_of_le z0 hq_Wq.size);(have y1_Wq:w.heap.size+1<Wq.heap.size:=Nat.lt_of_lt_of_le z1 hq_Wq.size);(have HQ_Wq:=zh hq_Wq);clear hq_Wq
        obtain⟨Ax,cx,zs,kx,hzf,hzr,hzb⟩:=hxb.out.ex
        have hsq:=HQS.out q hq
        have hsz:Sf g f0 (fldOf (tk+(q:Int)) ls zs):=by rw[hzf];exact hsq.1
        have HSZ:=zh (small_ok HSM.out.1 HF0.out hsz)
        have hzl:zs.length=xs.length:=by
         have h:=congrArg List.length hsz.name
         rw[HF0.out]at h
         simpa [fldOf]using h
        have HZL:=zh hzl
        have KX:=zh kx
        have HZF:=zh hzf
        have HZR:=zh hzr
        have HSQ:=zh hsq
        clear kx hzf hzr hzb hsq hsz hxb hzl
        cases hpos:decide ((0:Int)<L)
        case true=>
         have hL:0<L:=of_decide_eq_true hpos
         have hql:=hL1 hL
         obtain⟨m,hm⟩:∃m:Nat,(m:Int)=min L 100:=⟨(min L 100).toNat,by omega⟩
         have hm1:m≤100:=by omega
         have hqm:q+m≤2000:=by omega
         have HS2:=zh (HQS.out (q+m) hqm)
         have he:runE g (stepN g f0 q) m=0:=by
          rw[runE_ok HSQ.out.1.val]
          exact rr_zero (by omega) (by rw[HSQ.out.2,hf0t];have:=HTK.out;omega)
         have HRN:=zh (show ∀W a' A' c' ys RA',GridR W W.heap.size a' g→KindsAt W→ys.map MA.m=zs.map MA.m→FldR W W.heap.size A' c' ys→RndR W W.heap.size RA' (List.replicate m ⟨[],none,0⟩)→Calls Tryz.prog 46 #[(.agg #[.int .i64 g.blur,.slice a'.pS g.sta.length a'.cs,.slice a'.pM g.mov.length a'.cm,.slice a'.pZ g.zon.length a'.cz]),(.agg #[.int .i64 (tk+(q:Int)),.int .i64 ls,.slice A' ys.length c']),.slice RA' m m] W fun e w'=>∃tk1 ls1 A1 c1 vs,e=.returned (.tuple #[(.agg #[.int .i64 tk1,.int .i64 ls1,.slice A1 vs.length c1]),.int .i64 0])∧fldOf tk1 ls1 vs=stepN g f0 (q+m)∧FldR w' w'.heap.size A1 c1 vs∧Below W.heap.size W w'∧Fresh W.heap.size A1 vs from fun W a' A' c' ys RA' h1 h2 h3 h4 h5=>by
          have h7:=Run_c a' g (tk+(q:Int)) ls A' c' ys RA' m (List.replicate m ⟨[],none,0⟩) W hsm (small_map HSZ.out h3) h1 h2 h4 (by rw[List.length_replicate];omega) (fun y hy=>by rw[(List.mem_replicate.1 hy).2];exact Nat.zero_le _) h5
          have hfe:fldOf (tk+(q:Int)) ls ys=stepN g f0 q:=by rw[←HZF.out];unfold fldOf;rw[h3]
          rw[List.length_replicate,hfe,he,show runF g (stepN g f0 q) ((List.replicate m (⟨[],none,0⟩:RA)).map RA.os)=stepN g f0 (q+m) by unfold runF;rw[List.length_map,List.length_replicate,if_pos he,List.map_replicate,run_empty,stepN_add]]at h7
          exact h7)
         clear he
         go_upto_region 16 with fail
         refine dk_r16 Wq a g (tk+(q:Int)) ls Ax cx zs w.heap.size xb L m hsm HSZ.out (HG.out.to HQ_Wq.out) HZR.out ((HQ_Wq.out.block w.heap.size z0).trans K0.out) KX.out hm.symm hm1 (stepN g f0 (q+m)) (fun W a' A' c' ys hb h1 h2 h3 RA' h4=>HRN.out W a' A' c' ys RA' h1 (HKD.out.to (HQ_Wq.out.trans (hb.mono HQ_Wq.out.size))) h2 h3 h4) _ _ _ _ _ _ _ _ _ _ _ _ _ _ _ _ _ _ _ _ _ _ _ _ _ _ _ _ _ _ _ _ _ _ _ _ _ _ _ _ _ _ _ _ _ _ _ _ _ _ _ _ _ _ _ _ _ _ _ _ _ _ _ _ _ _ _ _ _ _ _ _ _ _ _ _ _ _ _ _ _ _ _ _ _ _ _ _ _ _ _ _ _ _ _ _ _ _ _ _ _ _ _ _ _ _ _ _ _ _ _ _ _ _ _ _ _ _ _ _ _ _ _ _ _ _ _ _ _ _ _ _ _ _ _ _ _ _ _ _ _ _ _ _ _ _ _ _ _ _ _ _ _ _ _ _ _ _ _ _ _ _ _ _ _ _ _ _ _ _ _ _ _ _ _ _ _ _ _ _ _ _ _ _ _ _ _ _ _ _ _ _ _ _ _ _ _ _ _ _ _ _ _ _ _ _ _ _ _ _ _ _ _ _ _ _ _ _ _ _ _ _ _ _ _ _ _ _ _ _ _ _ _ _ _ _ _ _ _ _ _ _ _ _ _ _ _ _ _ _ _ _ _ _ _ _ _ _ _ _ _ _ _ _ _ _ _ _ _ _ _ _ _ _ _ _ _ _ _ _ _ _ _ _ _ _ _ _ _ _ _ _ _ _ _ _ _ _ _ _ _ _ _ _ _ _ _ _ _ _ _ _ _ _ _ _ _ _ _ _ _ _ _ _ _ _ _ _ _ _ _ _ _ _ _ _ _ _ _ _ _ _ _ _ _ _ _ _ _ _ _ _ _ _ _ _ _ _ _ _ _ _ _ _ _ _ _ ?_
         intro nb v16_0 v16_1 v16_2 v16_3 v16_4 v16_5 v16_6 v16_7 v16_8 v16_9 v16_10 v16_11 Wn hnb
         dsimp only
         obtain⟨t1,l1,A1,c1,vs,k1,e1,f1,b1⟩:=hnb.ex
         have ht1:t1=tk+((q+m:Nat):Int):=by
          have h:(fldOf t1 l1 vs).tick=_:=congrArg Fld.tick e1
          rw[HS2.out.2,hf0t]at h;exact h
         have hl1:l1=ls:=by
          have h:(fldOf t1 l1 vs).lease=_:=congrArg Fld.lease e1
          rw[HS2.out.1.lease,hf0l]at h;exact h
         have hvl:vs.length=xs.length:=by
          have h:=congrArg List.length HS2.out.1.name
          rw[←e1,HF0.out]at h
          simpa [fldOf]using h
         have hsv:Sf g f0 (fldOf t1 l1 vs):=by rw[e1];exact HS2.out.1
         have HSV:=zh (small_ok HSM.out.1 HF0.out hsv)
         have HTU:=zh (fun W (h:FldR W W.heap.size A1 c1 vs)=>(show Calls Tryz.prog 58 #[.agg #[.int .i64 t1,.int .i64 l1,.slice A1 xs.length c1]] W fun e w'=>∃A' c',e=.returned (.agg #[.int .i64 t1,.int .i64 l1,.slice A' vs.length c'])∧FldR w' w'.heap.size A' c' vs∧Below W.heap.size W w' by rw[←hvl];exact told_c t1 l1 A1 c1 vs W (by omega) h))
         have HSS:=zh (fun W A' c' (h:FldR W W.heap.size A' c' vs)=>(show Calls Tryz.prog 37 #[(.agg #[.int .i64 t1,.int .i64 l1,.slice A' vs.length c'])] W fun e w'=>e=.returned (.bool true)∧Below W.heap.size W w' by
          have h2:=rShortF_c t1 l1 A' c' vs W h
          rw[short_keep HFW0.out HF0.out hsv (by omega)]at h2
          exact h2))
         have kn:Wn.heap[nb]? =some (.cells #[.int .i64 t1,.int .i64 l1,.slice A1 xs.length c1] 72 (0,0)):=by rw[←hvl];exact k1
         have kx:=(hnb.low.block xb (blk_lt KX.out)).trans KX.out
         rw[HZL.out]at kx
         have yn:=blk_lt kn
         have yx:=blk_lt kx
         have HKN:=zh kn
         have HKX:=zh kx
         have HF1:=zh f1
         have HLN:=zh hnb.low
         have HLD:=zh (fun W' (hb:Below Wn.heap.size Wn W')=>XB.load (W':=W') HXB.out hnb.low hb k1 e1 f1 b1 ht1 hl1)
         have HVL:=zh hvl
         (have hq_Wn:Below W0.heap.size W0 Wn:=HQ_Wq.out.trans (hnb.low.mono HQ_Wq.out.size));(have hc_Wn:=(bcell hq_Wn).1);(have y0_Wn:w.heap.size<Wn.heap.size:=Nat.lt_of_lt_of_le z0 hq_Wn.size);(have y1_Wn:w.heap.size+1<Wn.heap.size:=Nat.lt_of_lt_of_le z1 hq_Wn.size);(have HQ_Wn:=zh hq_Wn);clear hq_Wn
         (obtain⟨n0,nf0,n1,nf1,n2,nf2⟩:=cv3 kn)
         (obtain⟨x0,xf0,x1,xf1,x2,xf2⟩:=cv3 kx)
         clear k1 e1 f1 b1 kn kx hnb hsv ht1 hl1 hvl
         go_upto_region 19 with (first|(go_at_call 58;(with_reducible refine Calls.mono (HTU.out _ (HF1.out.to (by exact zbl))) ?_);rintro e wT ⟨AT,cT,rfl,hfT,hbT⟩)|(go_at_call 37;(with_reducible refine Calls.mono (HSS.out _ AT cT (hfT.to (by exact zbl))) ?_);rintro e wS ⟨rfl,hbS⟩;(have hbs:Below Wn.heap.size Wn wS:=by exact zbl);(have HBS:=zh hbs);(have kn:=(hbs.block nb yn).trans HKN.out);(have kx:=(hbs.block xb yx).trans HKX.out);clear n0 n1 n2 nf0 nf1 nf2 x0 x1 x2 xf0 xf1 xf2;(obtain⟨n0,nf0,n1,nf1,n2,nf2⟩:=cv3 kn);(obtain⟨x0,xf0,x1,xf1,x2,xf2⟩:=cv3 kx);clear kn kx;(have hq_wS:Below W0.heap.size W0 wS:=HQ_Wn.out.trans (hbs.mono HQ_Wn.out.size));(have hc_wS:=(bcell hq_wS).1);(have y0_wS:w.heap.size<wS.heap.size:=Nat.lt_of_lt_of_le z0 hq_wS.size);(have y1_wS:w.heap.size+1<wS.heap.size:=Nat.lt_of_lt_of_le z1 hq_wS.size);(have HQ_wS:=zh hq_wS);clear hq_wS;clear hbs))
         have hwL:IntKind.i64.wrap (L-100)=L-100:=IntWalk.i64_in _ (by omega)
         go_upto_region 15 with fail
         obtain⟨Wz,hWz⟩:∃W,W=((wS.setCell ⟨xb,0,none⟩ (.int .i64 t1)).setCell ⟨xb,1,none⟩ (.int .i64 l1)).setCell ⟨xb,2,none⟩ (.slice A1 xs.length c1):=⟨_,rfl⟩
         rw[←hWz]
         have HXZ:=zh (show XB g f0 tk ls W5 xb (q+m) Wz by rw[hWz,←HVL.out];exact HLD.out wS HBS.out)
         clear hWz
         go_wp2_with fail
         go_roundw
         case rel=>
          have hrl:∃(L':Int) (q':Nat),Value.int .i64 (L-100)=.int .i64 L'∧(L'≤0→q'=n-1)∧(0<L'→(q':Int)+L'=(n:Int)-1)∧q'≤2000∧L'≤2000∧ -1000≤L'∧Hid (XB g f0 tk ls W5 xb q' Wz):=⟨L-100,q+m,rfl,fun h=>by omega,fun h=>by omega,hqm,by omega,by omega,HXZ⟩
          first|exact hrl|((repeat apply Exists.intro);refine⟨?_,rfl⟩;exact hrl)
         case measure=>exact meas_sub hL
        case false=>
         have hL:¬0<L:=of_decide_eq_false hpos
         have hqn:=hL0 (by omega)
         clear hL0 hL1 hLh hLl KX HZF HZR HSQ HSZ HZL hpos
         go_wp2_with fail
         go_loopw [143] (fun s wr=>∃(k q:Nat),k≤4∧s=.int .i64 k∧q=n-1+k∧Hid (XB g f0 tk ls W5 xb q wr)) (fun s _=>4-(intOf s).toNat)
         case atStart=>exact⟨0,q,by omega,rfl,by omega,HXB⟩
         case round=>
          clear HXB
          obtain⟨k,q,hk,rfl,hqk,hxb⟩:=hrel
          have hq:q≤2000:=by omega
          obtain⟨Wp,hWp⟩:∃W,W=wr:=⟨_,rfl⟩
          subst hWp
          have HXB:=hxb
          (have hq_Wp:Below W0.heap.size W0 Wp:=HQ_W5.out.trans (hxb.out.low.mono HQ_W5.out.size));(have hc_Wp:=(bcell hq_Wp).1);(have y0_Wp:w.heap.size<Wp.heap.size:=Nat.lt_of_lt_of_le z0 hq_Wp.size);(have y1_Wp:w.heap.size+1<Wp.heap.size:=Nat.lt_of_lt_of_le z1 hq_Wp.size);(have HQ_Wp:=zh hq_Wp);clear hq_Wp
          obtain⟨Ax,cx,zs,kx,hzf,hzr,hzb⟩:=hxb.out.ex
          have hsq:=HQS.out q hq
          have hsz:Sf g f0 (fldOf (tk+(q:Int)) ls zs):=by rw[hzf];exact hsq.1
          have HSZ:=zh (small_ok HSM.out.1 HF0.out hsz)
          have hzl:zs.length=xs.length:=by
           have h:=congrArg List.length hsz.name
           rw[HF0.out]at h
           simpa [fldOf]using h
          have HZL:=zh hzl
          have KX:=zh kx
          have HZF:=zh hzf
          have HZR:=zh hzr
          have HSQ:=zh hsq
          clear kx hzf hzr hzb hsq hsz hxb hzl
          by_cases hlt:k<4
          ·have HS2:=zh (HQS.out (q+1) (by omega))
           obtain⟨dk,hdk⟩:∃b,b=darkG g (stepN g f0 q):=⟨_,rfl⟩
           have hdk2:dk=decide (n≤q):=hdk.trans (HDK.out q)
           obtain⟨nl,hnl⟩:∃m,m=(litG g (stepN g f0 q)).length:=⟨_,rfl⟩
           have hnl0:dk=true→nl=0:=fun h=>by rw[hnl,lit_dark (by rw[←hdk];exact h)];rfl
           have hfq:∀ys:List MA,ys.map MA.m=zs.map MA.m→fldOf (tk+(q:Int)) ls ys=stepN g f0 q:=fun ys h=>by rw[←HZF.out];unfold fldOf;rw[h]
           have HCD:=zh (show ∀W a' A' c' ys,GridR W W.heap.size a' g→KindsAt W→ys.map MA.m=zs.map MA.m→FldR W W.heap.size A' c' ys→Calls Tryz.prog 49 #[(.agg #[.int .i64 g.blur,.slice a'.pS g.sta.length a'.cs,.slice a'.pM g.mov.length a'.cm,.slice a'.pZ g.zon.length a'.cz]),(.agg #[.int .i64 (tk+(q:Int)),.int .i64 ls,.slice A' ys.length c'])] W fun e w'=>e=.returned (.tuple #[.bool dk,.int .i64 0])∧Below W.heap.size W w' from fun W a' A' c' ys h1 h2 h3 h4=>by
            have h7:=Dark_c a' g (tk+(q:Int)) ls A' c' ys W hsm (small_map HSZ.out h3) h1 h2 h4
            rw[hfq ys h3,HSQ.out.1.val,←hdk,show(decide ((0:Int)=0)&&dk)=dk by simp]at h7
            exact h7)
           have HCL:=zh (show ∀W a' A' c' ys,GridR W W.heap.size a' g→KindsAt W→ys.map MA.m=zs.map MA.m→FldR W W.heap.size A' c' ys→Calls Tryz.prog 48 #[(.agg #[.int .i64 g.blur,.slice a'.pS g.sta.length a'.cs,.slice a'.pM g.mov.length a'.cm,.slice a'.pZ g.zon.length a'.cz]),(.agg #[.int .i64 (tk+(q:Int)),.int .i64 ls,.slice A' ys.length c'])] W fun e w'=>∃AL cL,e=.returned (.tuple #[.slice AL nl cL,.int .i64 0])∧Below W.heap.size W w' from fun W a' A' c' ys h1 h2 h3 h4=>by
            have h7:=Lit_c a' g (tk+(q:Int)) ls A' c' ys W hsm (small_map HSZ.out h3) h1 h2 h4
            rw[hfq ys h3,HSQ.out.1.val,if_pos rfl]at h7
            refine h7.mono ?_
            rintro e w' ⟨v,rfl,ho,hb⟩
            obtain⟨AL,cL,rfl,_⟩:=ho.sl
            exact⟨AL,cL,by rw[hnl],hb⟩)
           have HCS:=zh (show ∀W a' A' c' ys,GridR W W.heap.size a' g→KindsAt W→ys.map MA.m=zs.map MA.m→FldR W W.heap.size A' c' ys→Calls Tryz.prog 40 #[(.agg #[.int .i64 g.blur,.slice a'.pS g.sta.length a'.cs,.slice a'.pM g.mov.length a'.cm,.slice a'.pZ g.zon.length a'.cz]),(.agg #[.int .i64 (tk+(q:Int)),.int .i64 ls,.slice A' ys.length c'])] W fun e w'=>∃tk1 ls1 A1 c1 vs,e=.returned (.tuple #[(.agg #[.int .i64 tk1,.int .i64 ls1,.slice A1 vs.length c1]),.int .i64 0])∧fldOf tk1 ls1 vs=stepN g f0 (q+1)∧FldR w' w'.heap.size A1 c1 vs∧Below W.heap.size W w'∧Fresh W.heap.size A1 vs from fun W a' A' c' ys h1 h2 h3 h4=>by
            have h7:=Stepped_c a' g (tk+(q:Int)) ls A' c' ys W hsm (small_map HSZ.out h3) h1 h2 h4
            have he:stpE g (stepN g f0 q)=0:=by
             unfold stpE
             rw[HSQ.out.1.val,show((stepN g f0 q).tick==10000000)=false by rw[HSQ.out.2,hf0t,beq_eq_false_iff_ne];have:=HTK.out;omega]
             rfl
            rw[hfq ys h3,he,if_pos rfl]at h7
            exact h7)
           have HQK:=zh hqk
           clear hdk hnl hfq
           go_upto_region 23 with fail
           refine dk_r23 Wp a g (tk+(q:Int)) ls Ax cx zs w.heap.size xb dk hsm HSZ.out (HG.out.to HQ_Wp.out) HZR.out ((HQ_Wp.out.block w.heap.size z0).trans K0.out) KX.out (fun W a' A' c' ys hb h1 h2 h3=>HCD.out W a' A' c' ys h1 (HKD.out.to (HQ_Wp.out.trans (hb.mono HQ_Wp.out.size))) h2 h3) _ _ _ _ _ _ _ _ _ _ _ _ _ _ _ _ _ _ _ _ _ _ _ _ _ _ _ _ _ _ _ _ _ _ _ _ _ _ _ _ _ _ _ _ _ _ _ _ _ _ _ _ _ _ _ _ _ _ _ _ _ _ _ _ _ _ _ _ _ _ _ _ _ _ _ _ _ _ _ _ _ _ _ _ _ _ _ _ _ _ _ _ _ _ _ _ _ _ _ _ _ _ _ _ _ _ _ _ _ _ _ _ _ _ _ _ _ _ _ _ _ _ _ _ _ _ _ _ _ _ _ _ _ _ _ _ _ _ _ _ _ _ _ _ _ _ _ _ _ _ _ _ _ _ _ _ _ _ _ _ _ _ _ _ _ _ _ _ _ _ _ _ _ _ _ _ _ _ _ _ _ _ _ _ _ _ _ _ _ _ _ _ _ _ _ _ _ _ _ _ _ _ _ _ _ _ _ _ _ _ _ _ _ _ _ _ _ _ _ _ _ _ _ _ _ _ _ _ _ _ _ _ _ _ _ _ _ _ _ _ _ _ _ _ _ _ _ _ _ _ _ _ _ _ _ _ _ _ _ _ _ _ _ _ _ _ _ _ _ _ _ _ _ _ _ _ _ _ _ _ _ _ _ _ _ _ _ _ _ _ _ _ _ _ _ _ _ _ _ _ _ _ _ _ _ _ _ _ _ _ _ _ _ _ _ _ _ _ _ _ _ _ _ _ _ _ _ _ _ _ _ _ _ _ _ _ _ _ _ _ _ _ _ _ _ _ _ _ _ _ _ _ _ _ _ _ _ _ _ _ _ _ _ _ _ _ _ _ ?_
           intro v23_0 v23_1 v23_2 v23_3 v23_4 v23_5 v23_6 v23_7 v23_8 Wd hbd
           dsimp only
           (have hq_Wd:Below W0.heap.size W0 Wd:=HQ_Wp.out.trans (hbd.mono HQ_Wp.out.size));(have hc_Wd:=(bcell hq_Wd).1);(have y0_Wd:w.heap.size<Wd.heap.size:=Nat.lt_of_lt_of_le z0 hq_Wd.size);(have y1_Wd:w.heap.size+1<Wd.heap.size:=Nat.lt_of_lt_of_le z1 hq_Wd.size);(have HQ_Wd:=zh hq_Wd);clear hq_Wd
           have KXD:=zh ((hbd.block xb (blk_lt KX.out)).trans KX.out)
           have HZD:=zh (HZR.out.to hbd)
           have HXD:=zh (HXB.out.next hbd)
           clear hbd
           go_upto_region 24 with fail
           refine dk_r24 Wd a g (tk+(q:Int)) ls Ax cx zs w.heap.size xb nl hsm HSZ.out (HG.out.to HQ_Wd.out) HZD.out ((HQ_Wd.out.block w.heap.size z0).trans K0.out) KXD.out (fun W a' A' c' ys hb h1 h2 h3=>HCL.out W a' A' c' ys h1 (HKD.out.to (HQ_Wd.out.trans (hb.mono HQ_Wd.out.size))) h2 h3) _ _ _ _ _ _ _ _ _ _ _ _ _ _ _ _ _ _ _ _ _ _ _ _ _ _ _ _ _ _ _ _ _ _ _ _ _ _ _ _ _ _ _ _ _ _ _ _ _ _ _ _ _ _ _ _ _ _ _ _ _ _ _ _ _ _ _ _ _ _ _ _ _ _ _ _ _ _ _ _ _ _ _ _ _ _ _ _ _ _ _ _ _ _ _ _ _ _ _ _ _ _ _ _ _ _ _ _ _ _ _ _ _ _ _ _ _ _ _ _ _ _ _ _ _ _ _ _ _ _ _ _ _ _ _ _ _ _ _ _ _ _ _ _ _ _ _ _ _ _ _ _ _ _ _ _ _ _ _ _ _ _ _ _ _ _ _ _ _ _ _ _ _ _ _ _ _ _ _ _ _ _ _ _ _ _ _ _ _ _ _ _ _ _ _ _ _ _ _ _ _ _ _ _ _ _ _ _ _ _ _ _ _ _ _ _ _ _ _ _ _ _ _ _ _ _ _ _ _ _ _ _ _ _ _ _ _ _ _ _ _ _ _ _ _ _ _ _ _ _ _ _ _ _ _ _ _ _ _ _ _ _ _ _ _ _ _ _ _ _ _ _ _ _ _ _ _ _ _ _ _ _ _ _ _ _ _ _ _ _ _ _ _ _ _ _ _ _ _ _ _ _ _ _ _ _ _ _ _ _ _ _ _ _ _ _ _ _ _ _ _ _ _ _ _ _ _ _ _ _ _ _ _ _ _ _ _ _ _ _ _ _ _ _ _ _ _ _ _ _ _ _ _ _ _ _ _ _ _ _ _ _ _ _ _ _ _ _ ?_
           intro AL cL v24_0 v24_1 v24_2 v24_3 v24_4 v24_5 v24_6 v24_7 v24_8 Wl hbl
           dsimp only
           (have hq_Wl:Below W0.heap.size W0 Wl:=HQ_Wd.out.trans (hbl.mono HQ_Wd.out.size));(have hc_Wl:=(bcell hq_Wl).1);(have y0_Wl:w.heap.size<Wl.heap.size:=Nat.lt_of_lt_of_le z0 hq_Wl.size);(have y1_Wl:w.heap.size+1<Wl.heap.size:=Nat.lt_of_lt_of_le z1 hq_Wl.size);(have HQ_Wl:=zh hq_Wl);clear hq_Wl
           have KXL:=zh ((hbl.block xb (blk_lt KXD.out)).trans KXD.out)
           have HZL2:=zh (HZD.out.to hbl)
           have HXL:=zh (HXD.out.next hbl)
           clear hbl
           go_upto_region 25 with fail
           go_cut [185] (fun s wx=>s=.bool false∧Below Wl.heap.size Wl wx)
           case first=>
            by_cases hk0:k=0
            ·subst hk0
             by_cases hn0:n=0
             ·subst hn0
              obtain rfl:dk=true:=hdk2.trans (decide_eq_true (Nat.zero_le _))
              obtain rfl:=hnl0 rfl
              clear hdk2
              go_wp2_with fail
              go_meet
              first|exact⟨rfl,by exact zbl⟩|((repeat apply Exists.intro);refine⟨?_,rfl⟩;exact⟨rfl,by exact zbl⟩)
             ·obtain rfl:dk=false:=hdk2.trans (decide_eq_false (by omega))
              have hbn:((n:Int)==0)=false:=by rw[beq_eq_false_iff_ne];omega
              clear hdk2 hnl0
              go_wp2_with fail
              go_meet
              first|exact⟨rfl,by exact zbl⟩|((repeat apply Exists.intro);refine⟨?_,rfl⟩;exact⟨rfl,by exact zbl⟩)
            ·obtain rfl:dk=true:=hdk2.trans (decide_eq_true (by omega))
             obtain rfl:=hnl0 rfl
             have hbk:decide ((0:Int)<(k:Int))=true:=decide_eq_true (by omega)
             clear hdk2
             go_wp2_with fail
             go_meet
             first|exact⟨rfl,by exact zbl⟩|((repeat apply Exists.intro);refine⟨?_,rfl⟩;exact⟨rfl,by exact zbl⟩)
           case rest=>
            obtain⟨rfl,hbv⟩:=hcut
            obtain⟨Wv,rfl⟩:∃W,W=wc:=⟨wc,rfl⟩
            (have hq_Wv:Below W0.heap.size W0 Wv:=HQ_Wl.out.trans (hbv.mono HQ_Wl.out.size));(have hc_Wv:=(bcell hq_Wv).1);(have y0_Wv:w.heap.size<Wv.heap.size:=Nat.lt_of_lt_of_le z0 hq_Wv.size);(have y1_Wv:w.heap.size+1<Wv.heap.size:=Nat.lt_of_lt_of_le z1 hq_Wv.size);(have HQ_Wv:=zh hq_Wv);clear hq_Wv
            clear KX HZR HXB
            have KX:=zh ((hbv.block xb (blk_lt KXL.out)).trans KXL.out)
            have HZR:=zh (HZL2.out.to hbv)
            have HXB:=zh (HXL.out.next hbv)
            clear hbv KXD HZD HXD KXL HZL2 HXL hdk2 hnl0
            go_upto_region 27 with fail
            refine dk_r27 Wv a g (tk+(q:Int)) ls Ax cx zs w.heap.size xb hsm HSZ.out (HG.out.to HQ_Wv.out) HZR.out ((HQ_Wv.out.block w.heap.size z0).trans K0.out) KX.out (stepN g f0 (q+1)) (fun W a' A' c' ys hb h1 h2 h3=>HCS.out W a' A' c' ys h1 (HKD.out.to (HQ_Wv.out.trans (hb.mono HQ_Wv.out.size))) h2 h3) _ _ _ _ _ _ _ _ _ _ _ _ _ _ _ _ _ _ _ _ _ _ _ _ _ _ _ _ _ _ _ _ _ _ _ _ _ _ _ _ _ _ _ _ _ _ _ _ _ _ _ _ _ _ _ _ _ _ _ _ _ _ _ _ _ _ _ _ _ _ _ _ _ _ _ _ _ _ _ _ _ _ _ _ _ _ _ _ _ _ _ _ _ _ _ _ _ _ _ _ _ _ _ _ _ _ _ _ _ _ _ _ _ _ _ _ _ _ _ _ _ _ _ _ _ _ _ _ _ _ _ _ _ _ _ _ _ _ _ _ _ _ _ _ _ _ _ _ _ _ _ _ _ _ _ _ _ _ _ _ _ _ _ _ _ _ _ _ _ _ _ _ _ _ _ _ _ _ _ _ _ _ _ _ _ _ _ _ _ _ _ _ _ _ _ _ _ _ _ _ _ _ _ _ _ _ _ _ _ _ _ _ _ _ _ _ _ _ _ _ _ _ _ _ _ _ _ _ _ _ _ _ _ _ _ _ _ _ _ _ _ _ _ _ _ _ _ _ _ _ _ _ _ _ _ _ _ _ _ _ _ _ _ _ _ _ _ _ _ _ _ _ _ _ _ _ _ _ _ _ _ _ _ _ _ _ _ _ _ _ _ _ _ _ _ _ _ _ _ _ _ _ _ _ _ _ _ _ _ _ _ _ _ _ _ _ _ _ _ _ _ _ _ _ _ _ _ _ _ _ _ _ _ _ _ _ _ _ _ _ _ _ _ _ _ _ _ _ _ _ _ _ _ _ _ _ _ _ _ _ _ _ _ _ _ _ _ _ ?_
            intro nb v27_0 v27_1 v27_2 v27_3 v27_4 v27_5 v27_6 v27_7 v27_8 Wn hnb
            dsimp only
            obtain⟨t1,l1,A1,c1,vs,k1,e1,f1,b1⟩:=hnb.ex
            have ht1:t1=tk+((q+1:Nat):Int):=by
             have h:(fldOf t1 l1 vs).tick=_:=congrArg Fld.tick e1
             rw[HS2.out.2,hf0t]at h;exact h
            have hl1:l1=ls:=by
             have h:(fldOf t1 l1 vs).lease=_:=congrArg Fld.lease e1
             rw[HS2.out.1.lease,hf0l]at h;exact h
            have hvl:vs.length=xs.length:=by
             have h:=congrArg List.length HS2.out.1.name
             rw[←e1,HF0.out]at h
             simpa [fldOf]using h
            have hsv:Sf g f0 (fldOf t1 l1 vs):=by rw[e1];exact HS2.out.1
            have HSV:=zh (small_ok HSM.out.1 HF0.out hsv)
            have HTU:=zh (fun W (h:FldR W W.heap.size A1 c1 vs)=>(show Calls Tryz.prog 58 #[.agg #[.int .i64 t1,.int .i64 l1,.slice A1 xs.length c1]] W fun e w'=>∃A' c',e=.returned (.agg #[.int .i64 t1,.int .i64 l1,.slice A' vs.length c'])∧FldR w' w'.heap.size A' c' vs∧Below W.heap.size W w' by rw[←hvl];exact told_c t1 l1 A1 c1 vs W (by omega) h))
            have HSS:=zh (fun W A' c' (h:FldR W W.heap.size A' c' vs)=>(show Calls Tryz.prog 37 #[(.agg #[.int .i64 t1,.int .i64 l1,.slice A' vs.length c'])] W fun e w'=>e=.returned (.bool true)∧Below W.heap.size W w' by
             have h2:=rShortF_c t1 l1 A' c' vs W h
             rw[short_keep HFW0.out HF0.out hsv (by omega)]at h2
             exact h2))
            have kn:Wn.heap[nb]? =some (.cells #[.int .i64 t1,.int .i64 l1,.slice A1 xs.length c1] 72 (0,0)):=by rw[←hvl];exact k1
            have kx:=(hnb.low.block xb (blk_lt KX.out)).trans KX.out
            rw[HZL.out]at kx
            have yn:=blk_lt kn
            have yx:=blk_lt kx
            have HKN:=zh kn
            have HKX:=zh kx
            have HF1:=zh f1
            have HLN:=zh hnb.low
            have HLD:=zh (fun W' (hb:Below Wn.heap.size Wn W')=>XB.load (W':=W') HXB.out hnb.low hb k1 e1 f1 b1 ht1 hl1)
            have HVL:=zh hvl
            (have hq_Wn:Below W0.heap.size W0 Wn:=HQ_Wv.out.trans (hnb.low.mono HQ_Wv.out.size));(have hc_Wn:=(bcell hq_Wn).1);(have y0_Wn:w.heap.size<Wn.heap.size:=Nat.lt_of_lt_of_le z0 hq_Wn.size);(have y1_Wn:w.heap.size+1<Wn.heap.size:=Nat.lt_of_lt_of_le z1 hq_Wn.size);(have HQ_Wn:=zh hq_Wn);clear hq_Wn
            (obtain⟨n0,nf0,n1,nf1,n2,nf2⟩:=cv3 kn)
            (obtain⟨x0,xf0,x1,xf1,x2,xf2⟩:=cv3 kx)
            clear k1 e1 f1 b1 kn kx hnb hsv ht1 hl1 hvl
            go_upto_region 30 with (first|(go_at_call 58;(with_reducible refine Calls.mono (HTU.out _ (HF1.out.to (by exact zbl))) ?_);rintro e wT ⟨AT,cT,rfl,hfT,hbT⟩)|(go_at_call 37;(with_reducible refine Calls.mono (HSS.out _ AT cT (hfT.to (by exact zbl))) ?_);rintro e wS ⟨rfl,hbS⟩;(have hbs:Below Wn.heap.size Wn wS:=by exact zbl);(have HBS:=zh hbs);(have kn:=(hbs.block nb yn).trans HKN.out);(have kx:=(hbs.block xb yx).trans HKX.out);clear n0 n1 n2 nf0 nf1 nf2 x0 x1 x2 xf0 xf1 xf2;(obtain⟨n0,nf0,n1,nf1,n2,nf2⟩:=cv3 kn);(obtain⟨x0,xf0,x1,xf1,x2,xf2⟩:=cv3 kx);clear kn kx;(have hq_wS:Below W0.heap.size W0 wS:=HQ_Wn.out.trans (hbs.mono HQ_Wn.out.size));(have hc_wS:=(bcell hq_wS).1);(have y0_wS:w.heap.size<wS.heap.size:=Nat.lt_of_lt_of_le z0 hq_wS.size);(have y1_wS:w.heap.size+1<wS.heap.size:=Nat.lt_of_lt_of_le z1 hq_wS.size);(have HQ_wS:=zh hq_wS);clear hq_wS;clear hbs))
            go_upto_region 31 with fail
            obtain⟨Wz,hWz⟩:∃W,W=((wS.setCell ⟨xb,0,none⟩ (.int .i64 t1)).setCell ⟨xb,1,none⟩ (.int .i64 l1)).setCell ⟨xb,2,none⟩ (.slice A1 xs.length c1):=⟨_,rfl⟩
            rw[←hWz]
            have HXZ:=zh (show XB g f0 tk ls W5 xb (q+1) Wz by rw[hWz,←HVL.out];exact HLD.out wS HBS.out)
            clear hWz
            go_wp2_with fail
            go_roundw
            case rel=>
             have hrl:∃(k' q':Nat),k'≤4∧Value.int .i64 ((k:Int)+1)=.int .i64 (k':Int)∧q'=n-1+k'∧Hid (XB g f0 tk ls W5 xb q' Wz):=⟨k+1,q+1,Nat.succ_le_of_lt hlt,by first|rfl|go_num,by have:=HQK.out;omega,HXZ⟩
             first|exact hrl|((repeat apply Exists.intro);refine⟨?_,rfl⟩;exact hrl)
            case measure=>first|exact meas_lt2 hlt|(simp[intOf];omega)
          ·have hk4:k=4:=by omega
           subst hk4
           have hql:n≤q:=by omega
           clear hlt hk
           by_cases hx0:xs.length=0
           ·have hx1:((xs.length:Int)==0)=true:=by rw[hx0];rfl
            clear hx0
            go_wp2_with (go_at_call 16;(with_reducible refine Calls.mono (awake_c _ (HKD.out.to (HQ_Wp.out.trans (Below.mono (by exact zbl) HQ_Wp.out.size))) (HPW.out.to (HQ_Wp.out.trans (Below.mono (by exact zbl) HQ_Wp.out.size)))) ?_);rintro e wK ⟨rfl,hbK⟩)
            go_ret
            exact⟨rfl,HB0.out.trans ((HQ_Wp.out.trans (Below.mono (by exact zbl) HQ_Wp.out.size)).mono HB0.out.size)⟩
           ·have hx1:((xs.length:Int)==0)=false:=by rw[beq_eq_false_iff_ne];omega
            obtain⟨i,hi⟩:∃i:Nat,i=n0.toNat % xs.length:=⟨_,rfl⟩
            have hix:i<xs.length:=by rw[hi];exact Nat.mod_lt _ (by omega)
            have hin:n0 % (xs.length:Int)=(i:Int):=by rw[hi,Int.natCast_emod,Int.toNat_of_nonneg h00]
            have hit:n0.tmod (xs.length:Int)=(i:Int):=by rw[Int.tmod_eq_emod_of_nonneg h00];exact hin
            have hiw:IntKind.i64.wrap (i:Int)=(i:Int):=IntWalk.i64_in _ (by omega)
            have hnw:IntKind.i64.wrap n0=n0:=IntWalk.i64_in _ (by omega)
            have hx2:(xs.length:Int)≠0:=by omega
            have hi0:(0:Int)≤(i:Int):=by omega
            have hi1:(i:Int)<(xs.length:Int):=by omega
            obtain⟨x,hx⟩:∃x,x=xs[i]:=⟨_,rfl⟩
            obtain⟨yb,yo,ey,hyb,v0,v1,v2,v3,v4,v5⟩:=HF.out.rw_.get6 (k:=i) (by simpa using hix) (by rw[List.getElem_map,←hx];rfl)
            have HX:=zh hx
            have HIX:=zh hix
            have HEY:=zh ey
            have yyb:yb<Wp.heap.size:=Nat.lt_of_lt_of_le hyb HQ_Wp.out.size
            rw[ey]at q2
            clear hx hi hin ey hx0
            go_upto_region 34 with fail
            go_region
            go_upto_region 35 with fail
            obtain⟨bm,hbm⟩:∃b,b=Wp.heap.size:=⟨_,rfl⟩
            obtain⟨Wm,hWm⟩:∃W,W=(Wp.alloc (.cells #[.string x.m.name,.string x.m.sec,.int .i64 x.m.loc,.slice x.A x.m.way.length x.c,.int .i64 x.m.left,.int .i64 x.m.heard] 107)).drew:=⟨_,rfl⟩
            rw[←hWm,←hbm]
            have km:Wm.heap[bm]? =some (.cells #[.string x.m.name,.string x.m.sec,.int .i64 x.m.loc,.slice x.A x.m.way.length x.c,.int .i64 x.m.left,.int .i64 x.m.heard] 107 (0,0)):=by rw[hWm,hbm];exact heap_alloc_new Wp _
            have hbwm:Below Wp.heap.size Wp Wm:=by rw[hWm];exact zbl
            (have hq_Wm:Below W0.heap.size W0 Wm:=HQ_Wp.out.trans (hbwm.mono HQ_Wp.out.size));(have hc_Wm:=(bcell hq_Wm).1);(have y0_Wm:w.heap.size<Wm.heap.size:=Nat.lt_of_lt_of_le z0 hq_Wm.size);(have y1_Wm:w.heap.size+1<Wm.heap.size:=Nat.lt_of_lt_of_le z1 hq_Wm.size);(have HQ_Wm:=zh hq_Wm);clear hq_Wm
            obtain⟨s,hs⟩:∃s,s=x.m.sec:=⟨_,rfl⟩
            obtain⟨nm,hnm⟩:∃s,s=x.m.name:=⟨_,rfl⟩
            rw[←hs,←hnm]at km
            have HKM:=zh km
            have ym:=blk_lt km
            have hss:s.size≤100000:=by rw[hs,HX.out];exact HSM.out.1.sec _ (List.getElem_mem HIX.out)
            have hxm:x.m∈f0.mir:=by rw[HF0.out,HX.out];exact List.mem_map_of_mem (List.getElem_mem HIX.out)
            have hde:defE g f0 s=0:=by rw[hs];exact sec_some HS0.out.val hxm
            obtain⟨l,hl⟩:∃l,l=secL f0 s:=⟨_,rfl⟩
            have hfx:∀ys:List MA,ys.map MA.m=xs.map MA.m→fldOf tk ls ys=f0:=fun ys h=>by rw[HF0.out];unfold fldOf;rw[h]
            have HSC:=zh (show ∀W a' A' c' ys,GridR W W.heap.size a' g→KindsAt W→ys.map MA.m=xs.map MA.m→FldR W W.heap.size A' c' ys→Calls Tryz.prog 69 #[(.agg #[.int .i64 g.blur,.slice a'.pS g.sta.length a'.cs,.slice a'.pM g.mov.length a'.cm,.slice a'.pZ g.zon.length a'.cz]),(.agg #[.int .i64 tk,.int .i64 ls,.slice A' ys.length c']),.string s] W fun e w'=>∃AL cL,e=.returned (.tuple #[.slice AL l.length cL,.int .i64 0])∧StrsR w' w'.heap.size AL l∧Below W.heap.size W w' from fun W a' A' c' ys h1 h2 h3 h4=>by
             have h7:=Sector_c a' g tk ls A' c' ys s W hsm (small_map HSM.out.1 h3) h1 h2 h4 hss
             rw[hfx ys h3,hde,show secF g f0 s=l by unfold secF;rw[if_pos hde,hl]]at h7
             refine h7.mono ?_
             rintro e w' ⟨v,rfl,ho,hb⟩
             obtain⟨AL,cL,rfl,_,h6,_⟩:=ho.sl
             exact⟨AL,cL,rfl,h6,hb⟩)
            have HDF:=zh (show ∀W a' A' c' ys,GridR W W.heap.size a' g→KindsAt W→ys.map MA.m=xs.map MA.m→FldR W W.heap.size A' c' ys→Calls Tryz.prog 70 #[(.agg #[.int .i64 g.blur,.slice a'.pS g.sta.length a'.cs,.slice a'.pM g.mov.length a'.cm,.slice a'.pZ g.zon.length a'.cz]),(.agg #[.int .i64 tk,.int .i64 ls,.slice A' ys.length c']),.string s] W fun e w'=>∃tk1 ls1 A1 c1 vs,e=.returned (.tuple #[(.agg #[.int .i64 tk1,.int .i64 ls1,.slice A1 vs.length c1]),.int .i64 0])∧fldOf tk1 ls1 vs=defG g f0 s∧FldR w' w'.heap.size A1 c1 vs∧Below W.heap.size W w'∧Fresh W.heap.size A1 vs from fun W a' A' c' ys h1 h2 h3 h4=>by
             have h7:=Defocused_c a' g tk ls A' c' ys s W hsm (small_map HSM.out.1 h3) h1 h2 h4 hss
             rw[hfx ys h3,hde,show defF g f0 s=defG g f0 s by unfold defF;rw[if_pos hde]]at h7
             exact h7)
            have HXM:=zh (HXB.out.next hbwm)
            have KXM:=zh ((hbwm.block xb (blk_lt KX.out)).trans KX.out)
            have HZM:=zh (HZR.out.to hbwm)
            have hM1:Wm.cell? ⟨bm,1,none⟩=some (.string s):=by rw[cell_of_row Wm _ 1 _ _ _ km];rfl
            have HS:=zh hs
            have HNM:=zh hnm
            have HL:=zh hl
            have HXMEM:=zh hxm
            clear hWm hbm km hbwm hs hnm hl hxm hde hfx v0 v1 v2 v3 v4 v5
            refine dk_r35 Wm a g tk ls A c xs w.heap.size (w.heap.size+1) bm s l hsm HSM.out.1 (HG.out.to HQ_Wm.out) (HF.out.to HQ_Wm.out) ((HQ_Wm.out.block w.heap.size z0).trans K0.out) ((HQ_Wm.out.block (w.heap.size+1) z1).trans K1.out) hM1 (fun W a' A' c' ys hb h1 h2 h3=>HSC.out W a' A' c' ys h1 (HKD.out.to (HQ_Wm.out.trans (hb.mono HQ_Wm.out.size))) h2 h3) _ _ _ _ _ _ _ _ _ _ _ _ _ _ _ _ _ _ _ _ _ _ _ _ _ _ _ _ _ _ _ _ _ _ _ _ _ _ _ _ _ _ _ _ _ _ _ _ _ _ _ _ _ _ _ _ _ _ _ _ _ _ _ _ _ _ _ _ _ _ _ _ _ _ _ _ _ _ _ _ _ _ _ _ _ _ _ _ _ _ _ _ _ _ _ _ _ _ _ _ _ _ _ _ _ _ _ _ _ _ _ _ _ _ _ _ _ _ _ _ _ _ _ _ _ _ _ _ _ _ _ _ _ _ _ _ _ _ _ _ _ _ _ _ _ _ _ _ _ _ _ _ _ _ _ _ _ _ _ _ _ _ _ _ _ _ _ _ _ _ _ _ _ _ _ _ _ _ _ _ _ _ _ _ _ _ _ _ _ _ _ _ _ _ _ _ _ _ _ _ _ _ _ _ _ _ _ _ _ _ _ _ _ _ _ _ _ _ _ _ _ _ _ _ _ _ _ _ _ _ _ _ _ _ _ _ _ _ _ _ _ _ _ _ _ _ _ _ _ _ _ _ _ _ _ _ _ _ _ _ _ _ _ _ _ _ _ _ _ _ _ _ _ _ _ _ _ _ _ _ _ _ _ _ _ _ _ _ _ _ _ _ _ _ _ _ _ _ _ _ _ _ _ _ _ _ _ _ _ _ _ _ _ _ _ _ _ _ _ _ _ _ _ _ _ _ _ _ _ _ _ _ _ _ _ _ _ _ _ _ _ _ _ _ _ _ _ _ _ _ _ _ _ _ _ _ _ _ _ _ _ _ _ _ _ _ _ ?_
            intro AL cL v35_0 v35_1 v35_2 v35_3 v35_4 v35_5 v35_6 v35_7 v35_8 v35_9 Ws hbs hsl
            dsimp only
            (have hq_Ws:Below W0.heap.size W0 Ws:=HQ_Wm.out.trans (hbs.mono HQ_Wm.out.size));(have hc_Ws:=(bcell hq_Ws).1);(have y0_Ws:w.heap.size<Ws.heap.size:=Nat.lt_of_lt_of_le z0 hq_Ws.size);(have y1_Ws:w.heap.size+1<Ws.heap.size:=Nat.lt_of_lt_of_le z1 hq_Ws.size);(have HQ_Ws:=zh hq_Ws);clear hq_Ws
            have HSL:=zh hsl
            have HXS:=zh (HXM.out.next hbs)
            have HKS:=zh ((hbs.block bm ym).trans HKM.out)
            clear hbs hsl HXM KXM HZM hM1 HKM ym
            have ym:=blk_lt HKS.out
            have hM1:Ws.cell? ⟨bm,1,none⟩=some (.string s):=by rw[cell_of_row Ws _ 1 _ _ _ HKS.out];rfl
            go_upto_region 36 with fail
            refine dk_r36 Ws a g tk ls A c xs w.heap.size (w.heap.size+1) bm s hsm HSM.out.1 (HG.out.to HQ_Ws.out) (HF.out.to HQ_Ws.out) ((HQ_Ws.out.block w.heap.size z0).trans K0.out) ((HQ_Ws.out.block (w.heap.size+1) z1).trans K1.out) hM1 (defG g f0 s) (fun W a' A' c' ys hb h1 h2 h3=>HDF.out W a' A' c' ys h1 (HKD.out.to (HQ_Ws.out.trans (hb.mono HQ_Ws.out.size))) h2 h3) _ _ _ _ _ _ _ _ _ _ _ _ _ _ _ _ _ _ _ _ _ _ _ _ _ _ _ _ _ _ _ _ _ _ _ _ _ _ _ _ _ _ _ _ _ _ _ _ _ _ _ _ _ _ _ _ _ _ _ _ _ _ _ _ _ _ _ _ _ _ _ _ _ _ _ _ _ _ _ _ _ _ _ _ _ _ _ _ _ _ _ _ _ _ _ _ _ _ _ _ _ _ _ _ _ _ _ _ _ _ _ _ _ _ _ _ _ _ _ _ _ _ _ _ _ _ _ _ _ _ _ _ _ _ _ _ _ _ _ _ _ _ _ _ _ _ _ _ _ _ _ _ _ _ _ _ _ _ _ _ _ _ _ _ _ _ _ _ _ _ _ _ _ _ _ _ _ _ _ _ _ _ _ _ _ _ _ _ _ _ _ _ _ _ _ _ _ _ _ _ _ _ _ _ _ _ _ _ _ _ _ _ _ _ _ _ _ _ _ _ _ _ _ _ _ _ _ _ _ _ _ _ _ _ _ _ _ _ _ _ _ _ _ _ _ _ _ _ _ _ _ _ _ _ _ _ _ _ _ _ _ _ _ _ _ _ _ _ _ _ _ _ _ _ _ _ _ _ _ _ _ _ _ _ _ _ _ _ _ _ _ _ _ _ _ _ _ _ _ _ _ _ _ _ _ _ _ _ _ _ _ _ _ _ _ _ _ _ _ _ _ _ _ _ _ _ _ _ _ _ _ _ _ _ _ _ _ _ _ _ _ _ _ _ _ _ _ _ _ _ _ _ _ _ _ _ _ _ _ _ _ _ _ _ _ _ _ ?_
            intro nb v36_0 v36_1 v36_2 v36_3 v36_4 v36_5 v36_6 v36_7 v36_8 v36_9 Wn hnb
            dsimp only
            obtain⟨t1,l1,A1,c1,vs,k1,e1,f1,b1⟩:=hnb.ex
            have hds:Sf g f0 (defG g f0 s):=def_sf hns HS0.out s
            have ht1:t1=tk:=(congrArg Fld.tick e1).trans hf0t
            have hl1:l1=ls:=(congrArg Fld.lease e1).trans hf0l
            have hvl:vs.length=xs.length:=by
             have h:=congrArg List.length hds.name
             rw[←e1,HF0.out]at h
             simpa [fldOf]using h
            have hsv:Sf g f0 (fldOf t1 l1 vs):=by rw[e1];exact hds
            have HSV:=zh (small_ok HSM.out.1 HF0.out hsv)
            have HTU:=zh (fun W (h:FldR W W.heap.size A1 c1 vs)=>(show Calls Tryz.prog 58 #[.agg #[.int .i64 t1,.int .i64 l1,.slice A1 xs.length c1]] W fun e w'=>∃A' c',e=.returned (.agg #[.int .i64 t1,.int .i64 l1,.slice A' vs.length c'])∧FldR w' w'.heap.size A' c' vs∧Below W.heap.size W w' by rw[←hvl];exact told_c t1 l1 A1 c1 vs W (by omega) h))
            have HCU:=zh (fun W A' c' (h1:GridR W W.heap.size a g) (h:FldR W W.heap.size A' c' vs)=>(show Calls Tryz.prog 41 #[(.agg #[.int .i64 g.blur,.slice a.pS g.sta.length a.cs,.slice a.pM g.mov.length a.cm,.slice a.pZ g.zon.length a.cz]),(.agg #[.int .i64 t1,.int .i64 l1,.slice A' vs.length c'])] W fun e w'=>e=.returned (.int .i64 0)∧Below W.heap.size W w' by
             have h2:=rCheckField_c a g t1 l1 A' c' vs W hsm (by omega) HSV.out.way (fun x hx=>⟨HSV.out.name x hx,HSV.out.sec x hx⟩) h1 h
             rw[hsv.val]at h2
             exact h2))
            have kn:Wn.heap[nb]? =some (.cells #[.int .i64 t1,.int .i64 l1,.slice A1 xs.length c1] 72 (0,0)):=by rw[←hvl];exact k1
            have km:=(hnb.low.block bm ym).trans HKS.out
            have yn:=blk_lt kn
            have ymn:=blk_lt km
            have HKN:=zh kn
            have HKM:=zh km
            have HF1:=zh f1
            have HLN:=zh hnb.low
            have HXN:=zh (HXS.out.next hnb.low)
            have HVL:=zh hvl
            have hE1:fldOf tk ls vs=defG g f0 s:=by rw[←ht1,←hl1];exact e1
            have HE1:=zh hE1
            have HSLN:=zh (HSL.out.to hnb.low)
            (have hq_Wn:Below W0.heap.size W0 Wn:=HQ_Ws.out.trans (hnb.low.mono HQ_Ws.out.size));(have hc_Wn:=(bcell hq_Wn).1);(have y0_Wn:w.heap.size<Wn.heap.size:=Nat.lt_of_lt_of_le z0 hq_Wn.size);(have y1_Wn:w.heap.size+1<Wn.heap.size:=Nat.lt_of_lt_of_le z1 hq_Wn.size);(have HQ_Wn:=zh hq_Wn);clear hq_Wn
            clear k1 e1 f1 b1 kn km hnb hds hsv ht1 hl1 hvl hE1 HXS HSL HKS hM1
            go_upto_region 37 with fail
            refine dk_r37 Wn a g t1 l1 tk ls A1 A c1 c xs.length vs w.heap.size (w.heap.size+1) nb (HG.out.to HQ_Wn.out) HF1.out ((HQ_Wn.out.block w.heap.size z0).trans K0.out) HKN.out ((HQ_Wn.out.block (w.heap.size+1) z1).trans K1.out) HTU.out HCU.out _ _ _ _ _ _ _ _ _ _ _ _ _ _ _ _ _ _ _ _ _ _ _ _ _ _ _ _ _ _ _ _ _ _ _ _ _ _ _ _ _ _ _ _ _ _ _ _ _ _ _ _ _ _ _ _ _ _ _ _ _ _ _ _ _ _ _ _ _ _ _ _ _ _ _ _ _ _ _ _ _ _ _ _ _ _ _ _ _ _ _ _ _ _ _ _ _ _ _ _ _ _ _ _ _ _ _ _ _ _ _ _ _ _ _ _ _ _ _ _ _ _ _ _ _ _ _ _ _ _ _ _ _ _ _ _ _ _ _ _ _ _ _ _ _ _ _ _ _ _ _ _ _ _ _ _ _ _ _ _ _ _ _ _ _ _ _ _ _ _ _ _ _ _ _ _ _ _ _ _ _ _ _ _ _ _ _ _ _ _ _ _ _ _ _ _ _ _ _ _ _ _ _ _ _ _ _ _ _ _ _ _ _ _ _ _ _ _ _ _ _ _ _ _ _ _ _ _ _ _ _ _ _ _ _ _ _ _ _ _ _ _ _ _ _ _ _ _ _ _ _ _ _ _ _ _ _ _ _ _ _ _ _ _ _ _ _ _ _ _ _ _ _ _ _ _ _ _ _ _ _ _ _ _ _ _ _ _ _ _ _ _ _ _ _ _ _ _ _ _ _ _ _ _ _ _ _ _ _ _ _ _ _ _ _ _ _ _ _ _ _ _ _ _ _ _ _ _ _ _ _ _ _ _ _ _ _ _ _ _ _ _ _ _ _ _ _ _ _ _ _ _ _ _ _ _ _ _ _ _ _ _ _ _ _ ?_
            intro v37_0 v37_1 v37_2 v37_3 v37_4 v37_5 v37_6 v37_7 v37_8 v37_9 v37_10 v37_11 v37_12 v37_13 v37_14 v37_15 v37_16 v37_17 v37_18 Wc hbc
            dsimp only
            have HBC:=zh hbc
            have kn:=(hbc.block nb yn).trans HKN.out
            have km:=(hbc.block bm ymn).trans HKM.out
            have yn4:=blk_lt kn
            have ym4:=blk_lt km
            have HKN4:=zh kn
            have HKM4:=zh km
            (have hq_Wc:Below W0.heap.size W0 Wc:=HQ_Wn.out.trans (hbc.mono HQ_Wn.out.size));(have hc_Wc:=(bcell hq_Wc).1);(have y0_Wc:w.heap.size<Wc.heap.size:=Nat.lt_of_lt_of_le z0 hq_Wc.size);(have y1_Wc:w.heap.size+1<Wc.heap.size:=Nat.lt_of_lt_of_le z1 hq_Wc.size);(have HQ_Wc:=zh hq_Wc);clear hq_Wc
            (obtain⟨n0,nf0,n1,nf1,n2,nf2⟩:=cv3 kn)
            clear kn km hbc
            go_wp2_with fail
            go_loopw [28,272] (fun s28 i wr=>∃j:Nat,j≤xs.length∧s28=.int .i64 ((cntS s ((xs.take j).map MA.m):Nat):Int)∧i=.int .i64 j∧Below Wc.heap.size Wc wr) (fun _ i _=>xs.length-(intOf i).toNat)
            case atStart=>exact⟨0,Nat.zero_le _,rfl,rfl,Below.refl _ _⟩
            case round=>
             obtain⟨j,hj,rfl,rfl,hbj⟩:=hrel
             (have hq_wr:Below W0.heap.size W0 wr:=HQ_Wc.out.trans (hbj.mono HQ_Wc.out.size));(have hc_wr:=(bcell hq_wr).1);(have y0_wr:w.heap.size<wr.heap.size:=Nat.lt_of_lt_of_le z0 hq_wr.size);(have y1_wr:w.heap.size+1<wr.heap.size:=Nat.lt_of_lt_of_le z1 hq_wr.size);(have HQ_wr:=zh hq_wr);clear hq_wr
             have kn:=(hbj.block nb yn4).trans HKN4.out
             have km:=(hbj.block bm ym4).trans HKM4.out
             have hM0:wr.cell? ⟨bm,0,none⟩=some (.string nm):=by rw[cell_of_row wr _ 0 _ _ _ km];rfl
             have hM1:wr.cell? ⟨bm,1,none⟩=some (.string s):=by rw[cell_of_row wr _ 1 _ _ _ km];rfl
             clear n0 n1 n2 nf0 nf1 nf2
             have ynr:=blk_lt kn
             have ymr:=blk_lt km
             (obtain⟨n0,nf0,n1,nf1,n2,nf2⟩:=cv3 kn)
             have hbnj:Below Wn.heap.size Wn wr:=HBC.out.trans (hbj.mono HBC.out.size)
             have HBJ:=zh hbj
             have HBNJ:=zh hbnj
             have HKMR:=zh km
             obtain⟨C,hC⟩:∃C,C=cntS s ((xs.take j).map MA.m):=⟨_,rfl⟩
             rw[←hC]
             have hC5:C≤1000:=by rw[hC];unfold cntS;exact Nat.le_trans (List.length_filter_le _ _) (by rw[List.length_map,List.length_take];omega)
             have hCw:IntKind.i64.wrap ((C:Int)+1)=(C:Int)+1:=IntWalk.i64_in _ (by omega)
             have HC:=zh hC
             clear kn km hbj hC
             by_cases hlj:j<xs.length
             ·have hju:j<vs.length:=by rw[HVL.out];exact hlj
              obtain⟨u,hu⟩:∃u,u=vs[j]:=⟨_,rfl⟩
              obtain⟨y,hy⟩:∃y,y=xs[j]:=⟨_,rfl⟩
              obtain⟨ub,uo,eu,hub,u0,u1,u2,u3,u4,u5⟩:=(HF1.out.to hbnj).rw_.get6 (k:=j) (by simpa using hju) (by rw[List.getElem_map,←hu];rfl)
              obtain⟨yb,yo,ey,hyb,v0,v1,v2,v3,v4,v5⟩:=HF.out.rw_.get6 (k:=j) (by simpa using hlj) (by rw[List.getElem_map,←hy];rfl)
              have hym:y.m∈f0.mir:=by rw[HF0.out,hy];exact List.mem_map_of_mem (List.getElem_mem hlj)
              have hum:u.m=defM g f0 s y.m:=by
               have h:(vs.map MA.m)[j]? =(f0.mir.map (defM g f0 s))[j]? :=congrArg (fun f:Fld=>f.mir[j]?) HE1.out
               have hfm:f0.mir=xs.map MA.m:=by rw[HF0.out];rfl
               rw[hfm]at h
               simp[hju,hlj]at h
               rw[hu,hy];exact h
              have hmr:MirR wr wr.heap.size u.m u.A u.c:=(HF1.out.to hbnj).each u (by rw[hu];exact List.getElem_mem hju)
              have hmy:MirR wr wr.heap.size y.m y.A y.c:=(HF.out.to HQ_wr.out).each y (by rw[hy];exact List.getElem_mem hlj)
              have hk3:=defM_keep HS0.out.val s hym
              have husec:u.m.sec=y.m.sec:=by rw[hum];exact hk3.2.2.1
              have hok:okMir g u.m:=by rw[hum];exact hk3.1
              have hnm3:u.m.name=y.m.name:=by rw[hum];exact hk3.2.1
              have yyb:yb<wr.heap.size:=Nat.lt_of_lt_of_le hyb HQ_wr.out.size
              rw[eu]at n2 ⊢
              rw[←HEY.out,ey]at q2
              have HEU:=zh eu
              have HEY:=zh ey
              have HMR:=zh hmr
              have HMY:=zh hmy
              have HOK:=zh hok
              have HYM:=zh hym
              have HUM:=zh hum
              have HYX:=zh hy
              clear hu hy eu ey hmr hmy hok hym hum hk3 hbnj
              obtain⟨m,uA,uc⟩:=u
              obtain⟨y,yA,yc⟩:=y
              simp only at u0 u1 u2 u3 u4 u5 v0 v1 v2 v3 v4 v5 HMR HMY HOK HYM HUM husec hnm3
              have HSEC:=zh husec
              have HNM3:=zh hnm3
              clear husec hnm3
              go_upto_region 43 with fail
              obtain⟨Wv,hWv⟩:∃W,W=wr.alloc (.cells #[.string m.name,.string m.sec,.int .i64 m.loc,.slice uA m.way.length uc,.int .i64 m.left,.int .i64 m.heard] 106):=⟨_,rfl⟩
              obtain⟨mb,hmb⟩:∃b,b=wr.heap.size:=⟨_,rfl⟩
              rw[←hWv,←hmb]
              have km:Wv.heap[mb]? =some (.cells #[.string m.name,.string m.sec,.int .i64 m.loc,.slice uA m.way.length uc,.int .i64 m.left,.int .i64 m.heard] 106 (0,0)):=by rw[hWv,hmb];exact heap_alloc_new _ _
              have hbv:Below wr.heap.size wr Wv:=by rw[hWv];exact zbl
              have HKV:=zh km
              have HBV:=zh hbv
              (have hq_Wv:Below W0.heap.size W0 Wv:=HQ_wr.out.trans (hbv.mono HQ_wr.out.size));(have hc_Wv:=(bcell hq_Wv).1);(have y0_Wv:w.heap.size<Wv.heap.size:=Nat.lt_of_lt_of_le z0 hq_Wv.size);(have y1_Wv:w.heap.size+1<Wv.heap.size:=Nat.lt_of_lt_of_le z1 hq_Wv.size);(have HQ_Wv:=zh hq_Wv);clear hq_Wv
              have ymb:=blk_lt km
              (obtain⟨p0,pf0,p1,pf1,p2,pf2,p3,pf3,p4,pf4,p5,pf5⟩:=cv6 km)
              have hM1:Wv.cell? ⟨bm,1,none⟩=some (.string s):=by rw[cell_of_row Wv _ 1 _ _ _ ((hbv.block bm ymr).trans HKMR.out)];rfl
              have hqs:=sEqL m.sec s
              clear hWv hmb km hbv pf0 pf1 pf2 pf3 pf4 pf5 u0 u1 u2 u3 u4 u5 n0 n1 n2 nf0 nf1 nf2
              cases hse:sEq m.sec s
              case false=>
               rw[hse]at hqs
               have hmy:m=y:=HUM.out.trans (def_out (by rw[←HSEC.out];exact hse))
               subst hmy
               have hwl:m.way.length≤100000:=by have:=HOK.out.len;omega
               have HSI:=zh (fun W (h1:MirR W W.heap.size m uA uc) (h2:MirR W W.heap.size m yA yc)=>(show Calls Tryz.prog 56 #[.slice uA m.way.length uc,.slice yA m.way.length yc] W fun e w'=>e=.returned (.bool true)∧Below W.heap.size W w' by
                have h:=sameInts_c uA yA uc yc m.way m.way W hwl h1.way h2.way
                rw[decide_eq_true rfl]at h
                exact h))
               have HSE:=zh hse
               have r2:=(hc_Wv yb _ hyb).trans v2
               have r3:=(hc_Wv yb _ hyb).trans v3
               clear hse HSEC HNM3 HUM v2 v3
               go_upto_region 44 with fail
               refine dk_r44 Wv m uA yA uc yc tk ls (w.heap.size+1) mb yb yo c xs.length j HKV.out (by rw[←HEY.out];exact((HQ_Wv.out.block (w.heap.size+1) z1).trans K1.out)) hlj hll r2 r3 (fun W hb=>HSI.out W ⟨HMR.out.way.to (HBV.out.trans (hb.mono HBV.out.size)),HMR.out.cap⟩ ⟨HMY.out.way.to (HBV.out.trans (hb.mono HBV.out.size)),HMY.out.cap⟩) _ _ _ _ _ _ _ _ _ _ _ _ _ _ _ _ _ _ _ _ _ _ _ _ _ _ _ _ _ _ _ _ _ _ _ _ _ _ _ _ _ _ _ _ _ _ _ _ _ _ _ _ _ _ _ _ _ _ _ _ _ _ _ _ _ _ _ _ _ _ _ _ _ _ _ _ _ _ _ _ _ _ _ _ _ _ _ _ _ _ _ _ _ _ _ _ _ _ _ _ _ _ _ _ _ _ _ _ _ _ _ _ _ _ _ _ _ _ _ _ _ _ _ _ _ _ _ _ _ _ _ _ _ _ _ _ _ _ _ _ _ _ _ _ _ _ _ _ _ _ _ _ _ _ _ _ _ _ _ _ _ _ _ _ _ _ _ _ _ _ _ _ _ _ _ _ _ _ _ _ _ _ _ _ _ _ _ _ _ _ _ _ _ _ _ _ _ _ _ _ _ _ _ _ _ _ _ _ _ _ _ _ _ _ _ _ _ _ _ _ _ _ _ _ _ _ _ _ _ _ _ _ _ _ _ _ _ _ _ _ _ _ _ _ _ _ _ _ _ _ _ _ _ _ _ _ _ _ _ _ _ _ _ _ _ _ _ _ _ _ _ _ _ _ _ _ _ _ _ _ _ _ _ _ _ _ _ _ _ _ _ _ _ _ _ _ _ _ _ _ _ _ _ _ _ _ _ _ _ _ _ _ _ _ _ _ _ _ _ _ _ _ _ _ _ _ _ _ _ _ _ _ _ _ _ _ _ _ _ _ _ _ _ _ _ _ _ _ _ _ _ _ _ _ _ _ _ _ _ _ _ _ _ _ _ _ _ ?_
               intro v44_0 v44_1 v44_2 v44_3 v44_4 v44_5 v44_6 v44_7 v44_8 v44_9 v44_10 v44_11 v44_12 v44_13 v44_14 v44_15 v44_16 v44_17 v44_18 v44_19 Wx hbx
               dsimp only
               (try rw[←HEU.out])
               go_wp2_with fail
               (try rw[←HEU.out])
               go_roundw
               case rel=>exact⟨j+1,Nat.succ_le_of_lt hlj,by rw[List.take_succ_eq_append_getElem hlj,List.map_append,←HYX.out,List.map_cons,List.map_nil,cntS_snoc,←HC.out];simp[HSE.out],by first|rfl|go_num,HBJ.out.trans ((HBV.out.trans (hbx.mono HBV.out.size)).mono HBJ.out.size)⟩
               case measure=>first|exact meas_lt2 hlj|exact meas_lt hlj hll|(simp[intOf];omega)
              case true=>
               rw[hse]at hqs
               have hsy:sEq y.sec s=true:=by rw[←HSEC.out];exact hse
               obtain⟨hd1,hd2,hd3⟩:=def_in HS0.out.val HYM.out hsy
               rw[←HUM.out]at hd1 hd2
               rw[hf0t]at hd1
               rw[←HNM3.out,←HL.out]at hd3
               have hh1:(m.heard !=tk)=false:=by rw[hd1];simp
               obtain⟨kb,hkb⟩:=Int.eq_ofNat_of_zero_le HOK.out.bound.1
               have hkn:kb<g.sta.length:=by have:=HOK.out.bound.2;omega
               obtain⟨bS,offS,eS,hbS,s0,s1,s2,s3⟩:=HG.out.sta.get4 (k:=kb) (by simpa using hkn) (by rw[List.getElem_map];rfl)
               obtain⟨sk,hs⟩:∃s,s=g.sta[kb].kind:=⟨_,rfl⟩
               rw[←hs]at s1
               have hkd:kindG g (boundM m)=sk:=by unfold kindG;rw[hkb,Int.toNat_natCast,List.getD_eq_getElem?_getD,List.getElem?_eq_getElem hkn,hs];rfl
               rw[hkd]at hd2
               have hq:(sk.toList== [115,116,97,110,100,98,121])=sEq sk kStandby:=by rw[ByteArray.toList_eq];rfl
               rw[hd2]at hq
               have hql:sk.toList= [115,116,97,110,100,98,121]:=by simpa using hq
               rw[eS]at d1
               have HES:=zh eS
               have hwl:m.way.length≤40:=HOK.out.len
               have HBN:=zh (fun W (h:MirR W W.heap.size m uA uc)=>rBound_c m uA uc W (by omega) h)
               rw[hkb]at HBN
               have hll2:l.length≤1000:=by
                rw[HL.out];unfold secL;rw[List.length_map]
                exact Nat.le_trans (List.length_filter_le _ _) (by rw[HF0.out];show(xs.map MA.m).length≤1000;rw[List.length_map];exact hll)
               have HHW:=zh (fun W (h:StrsR W W.heap.size AL l)=>(show Calls Tryz.prog 74 #[.slice AL l.length cL,.string m.name] W fun e w'=>e=.returned (.bool true)∧W=w' by
                have h9:=hasWord_r m.name AL l cL W _ (by omega) h
                rw[hd3]at h9
                exact h9))
               have HSY3:=zh hsy
               have ybS:bS<Wv.heap.size:=Nat.lt_of_lt_of_le hbS HQ_Wv.out.size
               clear hse HSEC HNM3 HUM hsy hd1 hd2 hd3 hs hkd eS hkb hq
               go_upto_region 46 with fail
               refine dk_r46 Wv m uA AL uc cL l.length tk ls _ _ _ _ w.heap.size (w.heap.size+1) mb bS offS g.sta.length a.cs kb sk HKV.out ((HQ_Wv.out.block (w.heap.size+1) z1).trans K1.out) (by rw[←HES.out];exact((HQ_Wv.out.block w.heap.size z0).trans K0.out)) hkn (by omega) ((hc_Wv bS _ hbS).trans s1) hql hh1 (fun W hb=>HBN.out W ⟨HMR.out.way.to (HBV.out.trans (hb.mono HBV.out.size)),HMR.out.cap⟩) (fun W hb=>HHW.out W (HSLN.out.to (HBNJ.out.trans ((HBV.out.trans (hb.mono HBV.out.size)).mono HBNJ.out.size)))) _ _ _ _ _ _ _ _ _ _ _ _ _ _ _ _ _ _ _ _ _ _ _ _ _ _ _ _ _ _ _ _ _ _ _ _ _ _ _ _ _ _ _ _ _ _ _ _ _ _ _ _ _ _ _ _ _ _ _ _ _ _ _ _ _ _ _ _ _ _ _ _ _ _ _ _ _ _ _ _ _ _ _ _ _ _ _ _ _ _ _ _ _ _ _ _ _ _ _ _ _ _ _ _ _ _ _ _ _ _ _ _ _ _ _ _ _ _ _ _ _ _ _ _ _ _ _ _ _ _ _ _ _ _ _ _ _ _ _ _ _ _ _ _ _ _ _ _ _ _ _ _ _ _ _ _ _ _ _ _ _ _ _ _ _ _ _ _ _ _ _ _ _ _ _ _ _ _ _ _ _ _ _ _ _ _ _ _ _ _ _ _ _ _ _ _ _ _ _ _ _ _ _ _ _ _ _ _ _ _ _ _ _ _ _ _ _ _ _ _ _ _ _ _ _ _ _ _ _ _ _ _ _ _ _ _ _ _ _ _ _ _ _ _ _ _ _ _ _ _ _ _ _ _ _ _ _ _ _ _ _ _ _ _ _ _ _ _ _ _ _ _ _ _ _ _ _ _ _ _ _ _ _ _ _ _ _ _ _ _ _ _ _ _ _ _ _ _ _ _ _ _ _ _ _ _ _ _ _ _ _ _ _ _ _ _ _ _ _ _ _ _ _ _ _ _ _ _ _ _ _ _ _ _ _ _ _ _ _ _ _ _ _ _ _ _ _ _ _ _ _ _ _ _ _ _ _ _ _ _ _ _ _ _ _ _ ?_
               intro v46_0 v46_1 v46_2 v46_3 v46_4 v46_5 v46_6 v46_7 v46_8 v46_9 v46_10 v46_11 v46_12 v46_13 v46_14 v46_15 v46_16 v46_17 v46_18 v46_19 v46_20 Wx hbx
               dsimp only
               (try rw[←HEU.out])
               go_wp2_with fail
               (try rw[←HEU.out])
               go_roundw
               case rel=>exact⟨j+1,Nat.succ_le_of_lt hlj,by rw[List.take_succ_eq_append_getElem hlj,List.map_append,←HYX.out,List.map_cons,List.map_nil,cntS_snoc,←HC.out];simp[HSY3.out],by first|rfl|go_num,HBJ.out.trans ((HBV.out.trans (hbx.mono HBV.out.size)).mono HBJ.out.size)⟩
               case measure=>first|exact meas_lt2 hlj|exact meas_lt hlj hll|(simp[intOf];omega)
             ·have hjl:j=xs.length:=by omega
              have hcl:C=l.length:=by rw[HC.out,hjl,List.take_length,HL.out,←cntS_all,HF0.out];rfl
              rw[hcl,hjl]
              obtain⟨Ay,cy,ws,kx,hzf,hzr,hzb⟩:=(HXN.out.next HBNJ.out).ex
              have hsq:=(HQS.out q hq).1
              have hsz:Sf g f0 (fldOf (tk+(q:Int)) ls ws):=by rw[hzf];exact hsq
              have HSY:=zh (small_ok HSM.out.1 HF0.out hsz)
              have hdk:darkG g (stepN g f0 q)=true:=by rw[HDK.out q];exact decide_eq_true hql
              obtain⟨m',hm',hmn⟩:∃m'∈(stepN g f0 q).mir,m'.name=nm:=by
               have h:nm∈(stepN g f0 q).mir.map Mir.name:=by rw[hsq.name,HNM.out];exact List.mem_map_of_mem HXMEM.out
               exact List.mem_map.1 h
              have htg:=tak_gone hsq.val hdk hm'
              rw[hmn]at htg
              obtain⟨hte,htl,htf,htn⟩:=htg
              obtain⟨Y,hY⟩:∃Y,Y=takF g (stepN g f0 q) nm:=⟨_,rfl⟩
              rw[←hY]at htl htf
              have hyl:Y.mir.length=xs.length-1:=by
               have h:=congrArg List.length hsq.name
               rw[HF0.out]at h
               have h2:(stepN g f0 q).mir.length=xs.length:=by rw[HF0.out];simpa [fldOf]using h
               rw[htl,h2]
              have HTK2:=zh (show ∀W a' A' c' ys,GridR W W.heap.size a' g→KindsAt W→ys.map MA.m=ws.map MA.m→FldR W W.heap.size A' c' ys→Calls Tryz.prog 75 #[(.agg #[.int .i64 g.blur,.slice a'.pS g.sta.length a'.cs,.slice a'.pM g.mov.length a'.cm,.slice a'.pZ g.zon.length a'.cz]),(.agg #[.int .i64 (tk+(q:Int)),.int .i64 ls,.slice A' ys.length c']),.string nm] W fun e w'=>∃tk1 ls1 A1 c1 vs,e=.returned (.tuple #[(.agg #[.int .i64 tk1,.int .i64 ls1,.slice A1 vs.length c1]),.int .i64 0])∧fldOf tk1 ls1 vs=Y∧FldR w' w'.heap.size A1 c1 vs∧Below W.heap.size W w'∧Fresh W.heap.size A1 vs from fun W a' A' c' ys h1 h2 h3 h4=>by
               have h7:=Taken_c a' g (tk+(q:Int)) ls A' c' ys nm W hsm (small_map HSY.out h3) h1 h2 h4
               have hfe:fldOf (tk+(q:Int)) ls ys=stepN g f0 q:=by rw[←hzf];unfold fldOf;rw[h3]
               rw[hfe,hte,←hY]at h7
               exact h7)
              have HYF:=zh htf
              have HYL:=zh hyl
              clear hlj hj hte htl htf hyl hm' hmn hsq hsz hzb hjl hcl
              go_upto_region 50 with fail
              refine dk_r50 wr a g (tk+(q:Int)) ls Ay cy ws w.heap.size xb bm nm hsm HSY.out (HG.out.to HQ_wr.out) hzr ((HQ_wr.out.block w.heap.size z0).trans K0.out) kx hM0 Y (fun W a' A' c' ys hb h1 h2 h3=>HTK2.out W a' A' c' ys h1 (HKD.out.to (HQ_wr.out.trans (hb.mono HQ_wr.out.size))) h2 h3) _ _ _ _ _ _ _ _ _ _ _ _ _ _ _ _ _ _ _ _ _ _ _ _ _ _ _ _ _ _ _ _ _ _ _ _ _ _ _ _ _ _ _ _ _ _ _ _ _ _ _ _ _ _ _ _ _ _ _ _ _ _ _ _ _ _ _ _ _ _ _ _ _ _ _ _ _ _ _ _ _ _ _ _ _ _ _ _ _ _ _ _ _ _ _ _ _ _ _ _ _ _ _ _ _ _ _ _ _ _ _ _ _ _ _ _ _ _ _ _ _ _ _ _ _ _ _ _ _ _ _ _ _ _ _ _ _ _ _ _ _ _ _ _ _ _ _ _ _ _ _ _ _ _ _ _ _ _ _ _ _ _ _ _ _ _ _ _ _ _ _ _ _ _ _ _ _ _ _ _ _ _ _ _ _ _ _ _ _ _ _ _ _ _ _ _ _ _ _ _ _ _ _ _ _ _ _ _ _ _ _ _ _ _ _ _ _ _ _ _ _ _ _ _ _ _ _ _ _ _ _ _ _ _ _ _ _ _ _ _ _ _ _ _ _ _ _ _ _ _ _ _ _ _ _ _ _ _ _ _ _ _ _ _ _ _ _ _ _ _ _ _ _ _ _ _ _ _ _ _ _ _ _ _ _ _ _ _ _ _ _ _ _ _ _ _ _ _ _ _ _ _ _ _ _ _ _ _ _ _ _ _ _ _ _ _ _ _ _ _ _ _ _ _ _ _ _ _ _ _ _ _ _ _ _ _ _ _ _ _ _ _ _ _ _ _ _ _ _ _ _ _ _ _ _ _ _ _ _ _ _ _ _ _ _ _ _ ?_
              intro rb v50_0 v50_1 v50_2 v50_3 v50_4 v50_5 v50_6 v50_7 v50_8 v50_9 v50_10 Wz hnb
              dsimp only
              obtain⟨t2,l2,A2,c2,us,k2,e2,f2,b2⟩:=hnb.ex
              have hul:us.length=xs.length-1:=by rw[←HYL.out,←e2];simp[fldOf]
              have hul2:(us.length:Int)=(xs.length:Int)-1:=by omega
              have hid:idxF (fun x:MA=>sEq x.m.name nm) us= -1:=by
               have h1:=idxF_map MA.m (fun m:Mir=>sEq m.name nm) us
               have h2:idxF (fun m:Mir=>sEq m.name nm) (us.map MA.m)<0:=by have h:=HYF.out;rw[←e2]at h;exact h
               have h3:=(idxF_lt (fun x:MA=>sEq x.m.name nm) us).2
               omega
              have hz2:Below W0.heap.size W0 Wz:=HQ_wr.out.trans (hnb.low.mono HQ_wr.out.size)
              have hMz:Wz.cell? ⟨bm,0,none⟩=some (.string nm):=by rw[cell_of_row Wz _ 0 _ _ _ ((hnb.low.block bm ymr).trans HKMR.out)];rfl
              have HZ2:=zh hz2
              go_upto_region 51 with fail
              refine dk_r51 Wz t2 l2 tk ls A2 A AL c2 c cL xs.length l.length us nm bm (w.heap.size+1) rb hul2 hll (HKD.out.to hz2) (HPW.out.to hz2) f2 hMz k2 ((hz2.block (w.heap.size+1) z1).trans K1.out) (fun W h=>told_c t2 l2 A2 c2 us W (by omega) h) (fun W A' c' h=>by have h9:=rAt_c t2 l2 A' c' us nm W (by omega) h;rw[hid]at h9;exact h9) _ _ _ _ _ _ _ _ _ _ _ _ _ _ _ _ _ _ _ _ _ _ _ _ _ _ _ _ _ _ _ _ _ _ _ _ _ _ _ _ _ _ _ _ _ _ _ _ _ _ _ _ _ _ _ _ _ _ _ _ _ _ _ _ _ _ _ _ _ _ _ _ _ _ _ _ _ _ _ _ _ _ _ _ _ _ _ _ _ _ _ _ _ _ _ _ _ _ _ _ _ _ _ _ _ _ _ _ _ _ _ _ _ _ _ _ _ _ _ _ _ _ _ _ _ _ _ _ _ _ _ _ _ _ _ _ _ _ _ _ _ _ _ _ _ _ _ _ _ _ _ _ _ _ _ _ _ _ _ _ _ _ _ _ _ _ _ _ _ _ _ _ _ _ _ _ _ _ _ _ _ _ _ _ _ _ _ _ _ _ _ _ _ _ _ _ _ _ _ _ _ _ _ _ _ _ _ _ _ _ _ _ _ _ _ _ _ _ _ _ _ _ _ _ _ _ _ _ _ _ _ _ _ _ _ _ _ _ _ _ _ _ _ _ _ _ _ _ _ _ _ _ _ _ _ _ _ _ _ _ _ _ _ _ _ _ _ _ _ _ _ _ _ _ _ _ _ _ _ _ _ _ _ _ _ _ _ _ _ _ _ _ _ _ _ _ _ _ _ _ _ _ _ _ _ _ _ _ _ _ _ _ _ _ _ _ _ _ _ _ _ _ _ _ _ _ _ _ _ _ _ _ _ _ _ _ _ _ _ _ _ _ _ _ _ _ _ _ _ _ _ _ _ _ _ _ _ _ _ _ _ _ _ _ ?_
              intro v51_0 v51_1 v51_2 v51_3 v51_4 v51_5 v51_6 v51_7 v51_8 v51_9 v51_10 v51_11 v51_12 v51_13 v51_14 v51_15 v51_16 v51_17 v51_18 v51_19 v51_20 v51_21 v51_22 v51_23 v51_24 v51_25 v51_26 v51_27 Wy hby
              dsimp only
              go_wp2_with fail
              go_ret
              exact⟨rfl,HB0.out.trans ((HZ2.out.trans (hby.mono HZ2.out.size)).mono HB0.out.size)⟩
end Go.Proofs.YtehnikhicnnnhaaGreatDoor
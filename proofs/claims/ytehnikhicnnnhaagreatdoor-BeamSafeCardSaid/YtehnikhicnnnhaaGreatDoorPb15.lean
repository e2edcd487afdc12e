/- BeamSafe answers true. -/
import Derived.Test.YtehnikhicnnnhaaGreatDoorPa30
import Derived.Test.YtehnikhicnnnhaaGreatDoorPa44
import Derived.Test.YtehnikhicnnnhaaGreatDoorPa52
import Derived.Test.YtehnikhicnnnhaaGreatDoorPa64
import Derived.Test.YtehnikhicnnnhaaGreatDoorPa70
namespace Go.Proofs.YtehnikhicnnnhaaGreatDoor
open Go.RowKit
theorem bcellq{w w':World}(hb:Below w.heap.size w w'):∀b o,b<w.heap.size→w'.cell? ⟨b,o,none⟩=w.cell? ⟨b,o,none⟩:=fun b o h=>hb.cell (p:=⟨b,o,none⟩) h
theorem take_allP{α:Type}{P:α→Prop}{l:List α}{k:Nat}(hk:k<l.length)(h:∀x∈l.take k,P x)(hp:P l[k]):∀x∈l.take (k+1),P x:=by
 rw[List.take_succ_eq_append_getElem hk]
 intro x hx
 rcases List.mem_append.1 hx with hx|hx
 ·exact h x hx
 ·simp only[List.mem_singleton]at hx;subst hx;exact hp
theorem os_len{rs zs:List RA}{n:Nat}(h:zs.map RA.os=rs.map RA.os)(hn:∀x∈rs,x.os.length≤n):∀x∈zs,x.os.length≤n:=fun x hx=>by
 have h1:x.os∈rs.map RA.os:=by rw[←h];exact List.mem_map_of_mem hx
 obtain⟨y,hy,e⟩:=List.mem_map.1 h1
 rw[←e];exact hn y hy
theorem meas_lt{k n:Nat}(h:k<n)(hb:n≤1000):n-(intOf (.int .i64 (wrap64 ((k:Int)+1)))).toNat<n-(intOf (.int .i64 (k:Int))).toNat:=by
 have h1:wrap64 ((k:Int)+1)=(k:Int)+1:=by rw[←IntWalk.i64_left];exact IntWalk.i64_in _ (by omega)
 have hh:(intOf (.int .i64 (wrap64 ((k:Int)+1)))).toNat=k+1:=by rw[h1];rfl
 exact Nat.sub_lt_sub_left h (by rw[hh];exact Nat.lt_succ_self k)
theorem meas_lt2{k n:Nat}(h:k<n):n-(intOf (.int .i64 ((k:Int)+1))).toNat<n-(intOf (.int .i64 (k:Int))).toNat:=by
 have hh:(intOf (.int .i64 ((k:Int)+1))).toNat=k+1:=rfl
 exact Nat.sub_lt_sub_left h (by rw[hh];exact Nat.lt_succ_self k)
theorem rr_zero{tk:Int}{n:Nat}(h1:n≤256)(h2:tk+(n:Int)≤10000000):rrE tk n=0:=by unfold rrE;rw[if_neg (by omega),if_neg (by omega)]
theorem rr_one{tk:Int}(h2:tk+1≤10000000):rrE tk 1=0:=rr_zero (by decide) (by simpa using h2)
theorem few_ns{g:Grd}(h:fewG g=true):g.sta.length≤12:=by
 unfold fewG at h
 simp only[Bool.and_eq_true,decide_eq_true_eq]at h
 omega
theorem few_short{g:Grd}(h:fewG g=true):shortG g=true:=by
 unfold fewG at h
 simp only[Bool.and_eq_true]at h
 exact h.1
theorem short_m{xs:List MA}(h:shortF xs=true):∀x∈xs,shortM x.m=true:=by
 unfold shortF at h
 simp only[Bool.and_eq_true,List.all_eq_true]at h
 exact h.2
theorem short_way{xs:List MA}(h:shortF xs=true):∀x∈xs,x.m.way.length≤12∨x.m.way.length=41:=fun x hx=>by
 have h1:=short_m h x hx
 unfold shortM at h1
 simp only[Bool.and_eq_true,Bool.or_eq_true,decide_eq_true_eq,beq_iff_eq]at h1
 omega
theorem sf_run{g:Grd}{f0:Fld}(hns:g.sta.length≤12):∀{f:Fld},Sf g f0 f→∀rs:List (List Ord),f.tick+rs.length≤10000000→Sf g f0 (runG g f rs)∧(runG g f rs).tick=f.tick+rs.length
 |f,h,[],_=>⟨h,by simp[runG]⟩
 |f,h,r::rs,ht=>by
  simp only[List.length_cons]at ht
  have h1:=h.round hns (by omega) r
  have h2:=sf_run hns h1.1 rs (by rw[h1.2.1];omega)
  refine⟨h2.1,h2.2.trans ?_⟩
  rw[h1.2.1,List.length_cons]
  omega
theorem small_ok{g:Grd}{f0:Fld}{tk ls tk' ls':Int}{xs ys:List MA}(h:SmallF xs)(he:f0=fldOf tk ls xs)(hs:Sf g f0 (fldOf tk' ls' ys)):SmallF ys:=by
 subst he
 have hn:ys.map (fun y=>y.m.name)=xs.map (fun x=>x.m.name):=by simpa [fldOf,List.map_map,Function.comp_def]using hs.name
 have hc:ys.map (fun y=>y.m.sec)=xs.map (fun x=>x.m.sec):=by simpa [fldOf,List.map_map,Function.comp_def]using hs.sec
 refine⟨by have:=congrArg List.length hn;simp at this;have:=h.n;omega,fun y hy=>?_,fun y hy=>?_,fun y hy=>?_⟩
 ·have h1:y.m.name∈xs.map (fun x=>x.m.name):=by rw[←hn];exact List.mem_map_of_mem hy
  obtain⟨x,hx,e⟩:=List.mem_map.1 h1
  rw[←e];exact h.name x hx
 ·have h1:y.m.sec∈xs.map (fun x=>x.m.sec):=by rw[←hc];exact List.mem_map_of_mem hy
  obtain⟨x,hx,e⟩:=List.mem_map.1 h1
  rw[←e];exact h.sec x hx
 ·have:=hs.way y.m (List.mem_map_of_mem hy);omega
theorem short_keep{g:Grd}{f0:Fld}{tk ls tk' ls':Int}{xs ys:List MA}(h:shortF xs=true)(he:f0=fldOf tk ls xs)(hs:Sf g f0 (fldOf tk' ls' ys))(hl:ys.length≤5):shortF ys=true:=by
 subst he
 have hn:ys.map (fun y=>y.m.name)=xs.map (fun x=>x.m.name):=by simpa [fldOf,List.map_map,Function.comp_def]using hs.name
 have hc:ys.map (fun y=>y.m.sec)=xs.map (fun x=>x.m.sec):=by simpa [fldOf,List.map_map,Function.comp_def]using hs.sec
 unfold shortF
 rw[decide_eq_false (by omega),Bool.false_and,Bool.not_false,Bool.true_and,List.all_eq_true]
 intro y hy
 have hw:=hs.way y.m (List.mem_map_of_mem hy)
 have h1:y.m.name∈xs.map (fun x=>x.m.name):=by rw[←hn];exact List.mem_map_of_mem hy
 obtain⟨x,hx,e⟩:=List.mem_map.1 h1
 have h2:y.m.sec∈xs.map (fun x=>x.m.sec):=by rw[←hc];exact List.mem_map_of_mem hy
 obtain⟨z,hz,e2⟩:=List.mem_map.1 h2
 have h3:=short_m h x hx
 have h4:=short_m h z hz
 unfold shortM at h3 h4 ⊢
 simp only[Bool.and_eq_true,Bool.or_eq_true,decide_eq_true_eq]at h3 h4 ⊢
 rw[←e,←e2]
 exact⟨h3.1,h4.2.1,.inl (by omega)⟩
theorem rnd_at{w:World}{B rb roff:Nat}{rs:List RA}(h:RndR w B (some ⟨rb,roff,none⟩) rs){k:Nat}(hk:k<rs.length):RndR w B (some ⟨rb,roff+k,none⟩) [rs[k]]:=by
 refine⟨fun _=>?_,fun x hx=>by rw[List.mem_singleton.1 hx];exact h.each _ (List.getElem_mem hk)⟩
 obtain⟨b,off,e,hb,hc⟩:=h.row (by intro e;rw[List.map_eq_nil_iff]at e;rw[e]at hk;simp at hk)
 cases e
 refine⟨rb,roff+k,rfl,hb,fun i hi j v hv=>?_⟩
 have hi0:i=0:=by simp at hi;exact hi
 subst hi0
 have:=hc k (by simpa using hk) j v (by simpa using hv)
 rw[←this]
 congr 2
 simp
theorem fb2_new{T:TypeId}{W0 W7:World}{f:Fld}{p:Nat}{tk ls:Int}{A:Option Addr}{c:Nat}{zs:List MA}(h:Below W0.heap.size W0 W7)(hf:fldOf tk ls zs=f)(hr:FldR W7 W7.heap.size A c zs)(hfr:Blks (fun d=>d≠p) A zs):
 FB2 T W0 f W7.heap.size p (W7.alloc (.cells #[.int .i64 tk,.int .i64 ls,.slice A zs.length c] T)):=
 ⟨⟨tk,ls,A,c,zs,heap_alloc_new _ _,hf,FldR.to hr (Below.alloc (Below.refl _ _) (Nat.le_refl _) _),hfr⟩,h.size,h.alloc h.size _⟩
set_option maxRecDepth 100000 in
set_option maxHeartbeats 32000000 in
theorem BeamSafe_c(a:GA)(g:Grd)(tk ls:Int)(A:Option Addr)(c:Nat)(xs:List MA)(RA_:Option Addr)(rc:Nat)(rs:List RA)(w:World)(hr:GridR w w.heap.size a g)(hf:FldR w w.heap.size A c xs)(hrr:RndR w w.heap.size RA_ rs)(hrc:rs.length≤rc)(hk:KindsAt w)(hp:PowAt w):
 Calls Tryz.prog 8 #[(.agg #[.int .i64 g.blur,.slice a.pS g.sta.length a.cs,.slice a.pM g.mov.length a.cm,.slice a.pZ g.zon.length a.cz]),(.agg #[.int .i64 tk,.int .i64 ls,.slice A xs.length c]),.slice RA_ rs.length rc] w fun e w'=>e=.returned (.bool true)∧Below w.heap.size w w':=by
 obtain⟨W0,hW0⟩:∃W0,W0=(w.alloc (.cells #[.int .i64 g.blur,.slice a.pS g.sta.length a.cs,.slice a.pM g.mov.length a.cm,.slice a.pZ g.zon.length a.cz] 26)).alloc (.cells #[.int .i64 tk,.int .i64 ls,.slice A xs.length c] 66):=⟨_,rfl⟩
 have k0:W0.heap[w.heap.size]? =some (.cells #[.int .i64 g.blur,.slice a.pS g.sta.length a.cs,.slice a.pM g.mov.length a.cm,.slice a.pZ g.zon.length a.cz] 26 (0,0)):=by rw[hW0];exact(Below.heap_alloc _ _ _ (by simp)).trans (heap_alloc_new w _)
 have k1:W0.heap[w.heap.size+1]? =some (.cells #[.int .i64 tk,.int .i64 ls,.slice A xs.length c] 66 (0,0)):=by rw[hW0];exact heap_two w _ _
 have hB0:Below w.heap.size w W0:=by rw[hW0];(repeat first|(with_reducible first|assumption|exact Below.refl _ _|refine Bl.drew ?_|refine Bl.drewN ?_ _|refine Bl.alloc ?_ _|refine Bl.set ?_ _ ?_)|(with_reducible apply Bl.step';(focus(with_reducible assumption)))|omega|(focus(simp;done))|(focus(simp;omega)))
 have HG:Hid (GridR W0 W0.heap.size a g):=zh (hr.to hB0)
 have HF:=zh (FldR.to hf hB0)
 have HR:=zh (RndR.to hrr hB0)
 have HKD:Hid (KindsAt W0):=zh (hk.to hB0)
 have HPW:Hid (PowAt W0):=zh (hp.to hB0)
 have HB0:=zh hB0
 have z0:=bk_lt k0
 have z1:=bk_lt k1
 clear hr hk hp hf hrr hB0
 (obtain⟨d0,d1,d2,d3⟩:=cg4 k0)
 (obtain⟨q0,qf0,q1,qf1,q2,qf2⟩:=cv3 k1)
 have K0:=zh k0
 have K1:=zh k1
 clear k0 k1 qf0 qf1 qf2
 have hFW:=fun W (h:GridR W W.heap.size a g)=>few_c a g W h
 have hSF:=fun W (h:FldR W W.heap.size A c xs)=>rShortF_c tk ls A c xs W h
 cases hfw:fewG g
 ·rw[hfw]at hFW
  have HFW:=zh hFW
  clear hFW hfw hSF
  go_enter Tryz.func8,Tryz.ntmps8
  go_upto_region 1 with fail
  rw[←hW0]
  clear hW0
  go_wp2_with (first|(go_at_call 54;(with_reducible refine Calls.mono (HFW.out _ (HG.out.to (by exact zbl))) ?_);rintro e wA ⟨rfl,hbA⟩;(have hq_wA:Below W0.heap.size W0 wA:=by exact zbl);(have hc_wA:=(bcell hq_wA).1);(have y0_wA:w.heap.size<wA.heap.size:=Nat.lt_of_lt_of_le z0 hq_wA.size);(have y1_wA:w.heap.size+1<wA.heap.size:=Nat.lt_of_lt_of_le z1 hq_wA.size);clear hq_wA)|(go_at_call 16;(with_reducible refine Calls.mono (awake_c _ (HKD.out.to (by exact zbl)) (HPW.out.to (by exact zbl))) ?_);rintro e wK ⟨rfl,hbK⟩))
  go_ret
  exact⟨rfl,HB0.out.trans ((show Below W0.heap.size W0 _ by exact zbl).mono HB0.out.size)⟩
 rw[hfw]at hFW
 have HFW:=zh hFW
 have hsm:=short_small (few_short hfw)
 clear hFW
 cases hsf:shortF xs
 ·rw[hsf]at hSF
  have HSF:=zh hSF
  clear hSF hsf hfw
  go_enter Tryz.func8,Tryz.ntmps8
  go_upto_region 1 with fail
  rw[←hW0]
  clear hW0
  go_wp2_with (first|(go_at_call 54;(with_reducible refine Calls.mono (HFW.out _ (HG.out.to (by exact zbl))) ?_);rintro e wA ⟨rfl,hbA⟩;(have hq_wA:Below W0.heap.size W0 wA:=by exact zbl);(have hc_wA:=(bcell hq_wA).1);(have y0_wA:w.heap.size<wA.heap.size:=Nat.lt_of_lt_of_le z0 hq_wA.size);(have y1_wA:w.heap.size+1<wA.heap.size:=Nat.lt_of_lt_of_le z1 hq_wA.size);clear hq_wA)|(go_at_call 37;(with_reducible refine Calls.mono (HSF.out _ (HF.out.to (by exact zbl))) ?_);rintro e wB ⟨rfl,hbB⟩;(have hq_wB:Below W0.heap.size W0 wB:=by exact zbl);(have hc_wB:=(bcell hq_wB).1);(have y0_wB:w.heap.size<wB.heap.size:=Nat.lt_of_lt_of_le z0 hq_wB.size);(have y1_wB:w.heap.size+1<wB.heap.size:=Nat.lt_of_lt_of_le z1 hq_wB.size);clear hq_wB)|(go_at_call 16;(with_reducible refine Calls.mono (awake_c _ (HKD.out.to (by exact zbl)) (HPW.out.to (by exact zbl))) ?_);rintro e wK ⟨rfl,hbK⟩))
  go_ret
  exact⟨rfl,HB0.out.trans ((show Below W0.heap.size W0 _ by exact zbl).mono HB0.out.size)⟩
 rw[hsf]at hSF
 have HSF:=zh hSF
 have hsmf:=short_fld hsf
 clear hSF
 have HCF:=zh (show ∀W,GridR W W.heap.size a g→FldR W W.heap.size A c xs→Calls Tryz.prog 41 #[(.agg #[.int .i64 g.blur,.slice a.pS g.sta.length a.cs,.slice a.pM g.mov.length a.cm,.slice a.pZ g.zon.length a.cz]),(.agg #[.int .i64 tk,.int .i64 ls,.slice A xs.length c])] W fun e w'=>e=.returned (.int .i64 (fieldC g (fldOf tk ls xs)))∧Below W.heap.size W w' from fun W h1 h2=>rCheckField_c a g tk ls A c xs W hsm (by have:=hsmf.2;omega) hsmf.1.way (fun x hx=>⟨hsmf.1.name x hx,hsmf.1.sec x hx⟩) h1 h2)
 obtain⟨B,hB⟩:∃B,B=fieldC g (fldOf tk ls xs):=⟨_,rfl⟩
 rw[←hB]at HCF
 have HB:=zh hB
 have HFWH:=zh hfw
 have HSFH:=zh hsf
 clear hB hfw hsf
 cases h5:decide ((5:Int)<(xs.length:Int))
 case true=>
  go_enter Tryz.func8,Tryz.ntmps8
  go_upto_region 1 with fail
  rw[←hW0]
  clear hW0
  go_wp2_with (first|(go_at_call 54;(with_reducible refine Calls.mono (HFW.out _ (HG.out.to (by exact zbl))) ?_);rintro e wA ⟨rfl,hbA⟩;(have hq_wA:Below W0.heap.size W0 wA:=by exact zbl);(have hc_wA:=(bcell hq_wA).1);(have y0_wA:w.heap.size<wA.heap.size:=Nat.lt_of_lt_of_le z0 hq_wA.size);(have y1_wA:w.heap.size+1<wA.heap.size:=Nat.lt_of_lt_of_le z1 hq_wA.size);clear hq_wA)|(go_at_call 37;(with_reducible refine Calls.mono (HSF.out _ (HF.out.to (by exact zbl))) ?_);rintro e wB ⟨rfl,hbB⟩;(have hq_wB:Below W0.heap.size W0 wB:=by exact zbl);(have hc_wB:=(bcell hq_wB).1);(have y0_wB:w.heap.size<wB.heap.size:=Nat.lt_of_lt_of_le z0 hq_wB.size);(have y1_wB:w.heap.size+1<wB.heap.size:=Nat.lt_of_lt_of_le z1 hq_wB.size);clear hq_wB)|(go_at_call 16;(with_reducible refine Calls.mono (awake_c _ (HKD.out.to (by exact zbl)) (HPW.out.to (by exact zbl))) ?_);rintro e wK ⟨rfl,hbK⟩))
  go_ret
  exact⟨rfl,HB0.out.trans ((show Below W0.heap.size W0 _ by exact zbl).mono HB0.out.size)⟩
 case false=>
  cases hBn:(B !=0)
  case true=>
   go_enter Tryz.func8,Tryz.ntmps8
   go_upto_region 1 with fail
   rw[←hW0]
   clear hW0
   go_wp2_with (first|(go_at_call 54;(with_reducible refine Calls.mono (HFW.out _ (HG.out.to (by exact zbl))) ?_);rintro e wA ⟨rfl,hbA⟩;(have hq_wA:Below W0.heap.size W0 wA:=by exact zbl);(have hc_wA:=(bcell hq_wA).1);(have y0_wA:w.heap.size<wA.heap.size:=Nat.lt_of_lt_of_le z0 hq_wA.size);(have y1_wA:w.heap.size+1<wA.heap.size:=Nat.lt_of_lt_of_le z1 hq_wA.size);clear hq_wA)|(go_at_call 37;(with_reducible refine Calls.mono (HSF.out _ (HF.out.to (by exact zbl))) ?_);rintro e wB ⟨rfl,hbB⟩;(have hq_wB:Below W0.heap.size W0 wB:=by exact zbl);(have hc_wB:=(bcell hq_wB).1);(have y0_wB:w.heap.size<wB.heap.size:=Nat.lt_of_lt_of_le z0 hq_wB.size);(have y1_wB:w.heap.size+1<wB.heap.size:=Nat.lt_of_lt_of_le z1 hq_wB.size);clear hq_wB)|(go_at_call 41;(with_reducible refine Calls.mono (HCF.out _ (HG.out.to (by exact zbl)) (HF.out.to (by exact zbl))) ?_);rintro e wC ⟨rfl,hbC⟩;(have hq_wC:Below W0.heap.size W0 wC:=by exact zbl);(have hc_wC:=(bcell hq_wC).1);(have y0_wC:w.heap.size<wC.heap.size:=Nat.lt_of_lt_of_le z0 hq_wC.size);(have y1_wC:w.heap.size+1<wC.heap.size:=Nat.lt_of_lt_of_le z1 hq_wC.size);clear hq_wC)|(go_at_call 16;(with_reducible refine Calls.mono (awake_c _ (HKD.out.to (by exact zbl)) (HPW.out.to (by exact zbl))) ?_);rintro e wK ⟨rfl,hbK⟩))
   go_ret
   exact⟨rfl,HB0.out.trans ((show Below W0.heap.size W0 _ by exact zbl).mono HB0.out.size)⟩
  case false=>
   cases h12:decide ((12:Int)<(rs.length:Int))
   case true=>
    go_enter Tryz.func8,Tryz.ntmps8
    go_upto_region 1 with fail
    rw[←hW0]
    clear hW0
    go_wp2_with (first|(go_at_call 54;(with_reducible refine Calls.mono (HFW.out _ (HG.out.to (by exact zbl))) ?_);rintro e wA ⟨rfl,hbA⟩;(have hq_wA:Below W0.heap.size W0 wA:=by exact zbl);(have hc_wA:=(bcell hq_wA).1);(have y0_wA:w.heap.size<wA.heap.size:=Nat.lt_of_lt_of_le z0 hq_wA.size);(have y1_wA:w.heap.size+1<wA.heap.size:=Nat.lt_of_lt_of_le z1 hq_wA.size);clear hq_wA)|(go_at_call 37;(with_reducible refine Calls.mono (HSF.out _ (HF.out.to (by exact zbl))) ?_);rintro e wB ⟨rfl,hbB⟩;(have hq_wB:Below W0.heap.size W0 wB:=by exact zbl);(have hc_wB:=(bcell hq_wB).1);(have y0_wB:w.heap.size<wB.heap.size:=Nat.lt_of_lt_of_le z0 hq_wB.size);(have y1_wB:w.heap.size+1<wB.heap.size:=Nat.lt_of_lt_of_le z1 hq_wB.size);clear hq_wB)|(go_at_call 41;(with_reducible refine Calls.mono (HCF.out _ (HG.out.to (by exact zbl)) (HF.out.to (by exact zbl))) ?_);rintro e wC ⟨rfl,hbC⟩;(have hq_wC:Below W0.heap.size W0 wC:=by exact zbl);(have hc_wC:=(bcell hq_wC).1);(have y0_wC:w.heap.size<wC.heap.size:=Nat.lt_of_lt_of_le z0 hq_wC.size);(have y1_wC:w.heap.size+1<wC.heap.size:=Nat.lt_of_lt_of_le z1 hq_wC.size);clear hq_wC)|(go_at_call 16;(with_reducible refine Calls.mono (awake_c _ (HKD.out.to (by exact zbl)) (HPW.out.to (by exact zbl))) ?_);rintro e wK ⟨rfl,hbK⟩))
    go_ret
    exact⟨rfl,HB0.out.trans ((show Below W0.heap.size W0 _ by exact zbl).mono HB0.out.size)⟩
   case false=>
    cases hT:decide ((9999980:Int)<tk)
    case true=>
     go_enter Tryz.func8,Tryz.ntmps8
     go_upto_region 1 with fail
     rw[←hW0]
     clear hW0
     go_wp2_with (first|(go_at_call 54;(with_reducible refine Calls.mono (HFW.out _ (HG.out.to (by exact zbl))) ?_);rintro e wA ⟨rfl,hbA⟩;(have hq_wA:Below W0.heap.size W0 wA:=by exact zbl);(have hc_wA:=(bcell hq_wA).1);(have y0_wA:w.heap.size<wA.heap.size:=Nat.lt_of_lt_of_le z0 hq_wA.size);(have y1_wA:w.heap.size+1<wA.heap.size:=Nat.lt_of_lt_of_le z1 hq_wA.size);clear hq_wA)|(go_at_call 37;(with_reducible refine Calls.mono (HSF.out _ (HF.out.to (by exact zbl))) ?_);rintro e wB ⟨rfl,hbB⟩;(have hq_wB:Below W0.heap.size W0 wB:=by exact zbl);(have hc_wB:=(bcell hq_wB).1);(have y0_wB:w.heap.size<wB.heap.size:=Nat.lt_of_lt_of_le z0 hq_wB.size);(have y1_wB:w.heap.size+1<wB.heap.size:=Nat.lt_of_lt_of_le z1 hq_wB.size);clear hq_wB)|(go_at_call 41;(with_reducible refine Calls.mono (HCF.out _ (HG.out.to (by exact zbl)) (HF.out.to (by exact zbl))) ?_);rintro e wC ⟨rfl,hbC⟩;(have hq_wC:Below W0.heap.size W0 wC:=by exact zbl);(have hc_wC:=(bcell hq_wC).1);(have y0_wC:w.heap.size<wC.heap.size:=Nat.lt_of_lt_of_le z0 hq_wC.size);(have y1_wC:w.heap.size+1<wC.heap.size:=Nat.lt_of_lt_of_le z1 hq_wC.size);clear hq_wC)|(go_at_call 16;(with_reducible refine Calls.mono (awake_c _ (HKD.out.to (by exact zbl)) (HPW.out.to (by exact zbl))) ?_);rintro e wK ⟨rfl,hbK⟩))
     go_ret
     exact⟨rfl,HB0.out.trans ((show Below W0.heap.size W0 _ by exact zbl).mono HB0.out.size)⟩
    case false=>
     have hB0:fieldC g (fldOf tk ls xs)=0:=by have h:B=0:=by simpa using hBn
                                              exact HB.out.symm.trans h
     have HB00:=zh hB0
     clear hB0
     go_enter Tryz.func8,Tryz.ntmps8
     go_upto_region 1 with fail
     rw[←hW0]
     clear hW0
     go_upto_region 3 with (first|(go_at_call 54;(with_reducible refine Calls.mono (HFW.out _ (HG.out.to (by exact zbl))) ?_);rintro e wA ⟨rfl,hbA⟩;(have hq_wA:Below W0.heap.size W0 wA:=by exact zbl);(have hc_wA:=(bcell hq_wA).1);(have y0_wA:w.heap.size<wA.heap.size:=Nat.lt_of_lt_of_le z0 hq_wA.size);(have y1_wA:w.heap.size+1<wA.heap.size:=Nat.lt_of_lt_of_le z1 hq_wA.size);clear hq_wA)|(go_at_call 37;(with_reducible refine Calls.mono (HSF.out _ (HF.out.to (by exact zbl))) ?_);rintro e wB ⟨rfl,hbB⟩;(have hq_wB:Below W0.heap.size W0 wB:=by exact zbl);(have hc_wB:=(bcell hq_wB).1);(have y0_wB:w.heap.size<wB.heap.size:=Nat.lt_of_lt_of_le z0 hq_wB.size);(have y1_wB:w.heap.size+1<wB.heap.size:=Nat.lt_of_lt_of_le z1 hq_wB.size);clear hq_wB)|(go_at_call 41;(with_reducible refine Calls.mono (HCF.out _ (HG.out.to (by exact zbl)) (HF.out.to (by exact zbl))) ?_);rintro e wC ⟨rfl,hbC⟩;(have hq_wC:Below W0.heap.size W0 wC:=by exact zbl);(have hc_wC:=(bcell hq_wC).1);(have y0_wC:w.heap.size<wC.heap.size:=Nat.lt_of_lt_of_le z0 hq_wC.size);(have y1_wC:w.heap.size+1<wC.heap.size:=Nat.lt_of_lt_of_le z1 hq_wC.size);clear hq_wC))
     have hrlb:rs.length≤12:=by have:=of_decide_eq_false h12;omega
     go_wp2_with fail
     go_loopw [52] (fun i wr=>∃k:Nat,k≤rs.length∧i=.int .i64 k∧Hid (∀x∈rs.take k,x.os.length≤4)∧Below W0.heap.size W0 wr) (fun i _=>rs.length-(intOf i).toNat)
     case atStart=>exact⟨0,Nat.zero_le _,rfl,zh (by simp),by exact zbl⟩
     case round=>
      obtain⟨k,hk,rfl,hal,hb⟩:=hrel
      have hbs:=hb.size
      have hcw:=(bcell hb).1
      have HBR:=zh hb
      by_cases hlt:k<rs.length
      ·obtain⟨x,hx⟩:∃x,x=rs[k]:=⟨_,rfl⟩
       have hxm:x∈rs:=by rw[hx];exact List.getElem_mem hlt
       have HXO:=zh (HR.out.each x hxm)
       obtain⟨rb,roff,er,hrb,x0⟩:=HR.out.row.get1 (k:=k) (by simpa using hlt) (by rw[List.getElem_map,←hx];rfl)
       have HER:=zh er
       have HX:=zh hx
       rw[er]
       clear hx hxm er
       obtain⟨os,oA,oc⟩:=x
       simp only at x0 HXO
       have yrb:rb<wr.heap.size:=by omega
       cases h6:decide ((4:Int)<(os.length:Int))
       case true=>
        go_wp2_with (go_at_call 16;(with_reducible refine Calls.mono (awake_c _ (HKD.out.to (HBR.out.trans (Below.mono (by exact zbl) HBR.out.size))) (HPW.out.to (HBR.out.trans (Below.mono (by exact zbl) HBR.out.size)))) ?_);rintro e wK ⟨rfl,hbK⟩)
        go_ret
        exact⟨rfl,HB0.out.trans ((HBR.out.trans (Below.mono (by exact zbl) HBR.out.size)).mono HB0.out.size)⟩
       case false=>
        have h6n:os.length≤4:=by have:=of_decide_eq_false h6;omega
        have H6:=zh h6n
        obtain⟨U,hU⟩:∃U,U=wr:=⟨_,rfl⟩
        subst hU
        go_wp2_with fail
        go_loopw [62] (fun i wv=>∃j:Nat,j≤os.length∧i=.int .i64 j∧Below U.heap.size U wv) (fun i _=>os.length-(intOf i).toNat)
        case atStart=>exact⟨0,Nat.zero_le _,rfl,Below.refl _ _⟩
        case round=>
         obtain⟨j,hj,rfl,hbu⟩:=hrel
         have hbus:=hbu.size
         have hBW:Below W0.heap.size W0 wr:=HBR.out.trans (hbu.mono HBR.out.size)
         have HBW:=zh hBW
         have hcu:=(bcell hBW).1
         by_cases hlj:j<os.length
         ·obtain⟨o,ho⟩:∃o,o=os[j]:=⟨_,rfl⟩
          obtain⟨ob,ooff,eo,hobl,u0,u1,u2⟩:=HXO.out.get3 (k:=j) (by simpa using hlj) (by rw[List.getElem_map,←ho];rfl)
          rw[eo]
          have yob:ob<wr.heap.size:=by omega
          have HEO:=zh eo
          clear ho eo hcw
          cases h40:decide ((40:Int)<(o.mir.size:Int))
          case true=>
           go_wp2_with (go_at_call 16;(with_reducible refine Calls.mono (awake_c _ (HKD.out.to (HBW.out.trans (Below.mono (by exact zbl) HBW.out.size))) (HPW.out.to (HBW.out.trans (Below.mono (by exact zbl) HBW.out.size)))) ?_);rintro e wK ⟨rfl,hbK⟩)
           go_ret
           exact⟨rfl,HB0.out.trans ((HBW.out.trans (Below.mono (by exact zbl) HBW.out.size)).mono HB0.out.size)⟩
          case false=>
           cases h41:decide ((40:Int)<(o.sta.size:Int))
           case true=>
            go_wp2_with (go_at_call 16;(with_reducible refine Calls.mono (awake_c _ (HKD.out.to (HBW.out.trans (Below.mono (by exact zbl) HBW.out.size))) (HPW.out.to (HBW.out.trans (Below.mono (by exact zbl) HBW.out.size)))) ?_);rintro e wK ⟨rfl,hbK⟩)
            go_ret
            exact⟨rfl,HB0.out.trans ((HBW.out.trans (Below.mono (by exact zbl) HBW.out.size)).mono HB0.out.size)⟩
           case false=>
            go_wp2_with fail
            go_roundw
            case rel=>exact⟨j+1,by omega,by go_num,by exact zbl⟩
            case measure=>(simp[intOf];omega)
         ·go_wp2_with fail
          go_roundw
          case rel=>exact⟨k+1,by omega,by go_num,zh (take_allP hlt hal.out (by rw[←HX.out];exact H6.out)),HBW.out⟩
          case measure=>(simp[intOf];omega)
      ·have hkl:k=rs.length:=by omega
       have hal4:∀x∈rs,x.os.length≤4:=by have h:=hal.out;rw[hkl,List.take_length]at h;exact h
       clear hkl hk hal
       have hB0:=HB00.out
       have hfw:=HFWH.out
       have hsf:=HSFH.out
       obtain⟨f0,hf0⟩:∃f,f=fldOf tk ls xs:=⟨_,rfl⟩
       have hsf0:Sf g f0 f0:=by
        rw[hf0]
        refine⟨hB0,rfl,rfl,rfl,fun m hm=>?_⟩
        obtain⟨x,hx,rfl⟩:=List.mem_map.1 hm
        have h1:=short_way hsf x hx
        have h2:=((fieldC_fld hB0).mir x.m hm).len
        omega
       have hns:g.sta.length≤12:=few_ns hfw
       have htk:tk≤9999980:=by have:=of_decide_eq_false hT;omega
       have hrl:rs.length≤12:=by have:=of_decide_eq_false h12;omega
       have hf0t:f0.tick=tk:=by rw[hf0];rfl
       have hf0l:f0.lease=ls:=by rw[hf0];rfl
       have htk0:0≤tk:=by have:=hsf0.ok.2.2.tick0;rw[hf0t]at this;exact this
       have HSFK:=zh (fun k (hk:k≤rs.length)=>sf_run hns hsf0 ((rs.take k).map RA.os) (by rw[hf0t,List.length_map,List.length_take];omega))
       have hon:∀x∈rs,x.os.length≤1000:=fun x hx=>Nat.le_trans (hal4 x hx) (by decide)
       have HON:=zh hon
       have HF0:=zh hf0
       have HFW0:=zh hsf
       have HSM:=zh hsmf
       have hrl1000:rs.length≤1000:=by omega
       have hxl:xs.length≤5:=by have:=of_decide_eq_false h5;omega
       have hll:xs.length≤1000:=by omega
       have HFD:=zh (fun W (h:FldR W W.heap.size A c xs)=>field0_c tk ls A c xs W hll HSM.out.1.way h)
       have HTK:=zh (And.intro htk0 htk)
       clear htk htk0
       obtain⟨W3,hW3⟩:∃W,W=wr:=⟨_,rfl⟩
       subst hW3
       (have hq_W3:Below W0.heap.size W0 W3:=HBR.out);(have hc_W3:=(bcell hq_W3).1);(have y0_W3:w.heap.size<W3.heap.size:=Nat.lt_of_lt_of_le z0 hq_W3.size);(have y1_W3:w.heap.size+1<W3.heap.size:=Nat.lt_of_lt_of_le z1 hq_W3.size);(have HQ_W3:=zh hq_W3);clear hq_W3
       clear hb hbs hcw HBR hf0 hsf0 hon hal4 hsmf
       go_upto_region 16 with (go_at_call 39;(with_reducible refine Calls.mono (HFD.out _ (HF.out.to HQ_W3.out)) ?_);rintro e wF ⟨AF,cF,ysF,rfl,hmF,hfF,hnF,hbF⟩;(have HMF:=zh hmF);(have HFF:=zh hfF);clear hmF hfF hnF)
       obtain⟨xb,hxb⟩:∃b,b=wF.heap.size:=⟨_,rfl⟩
       obtain⟨Wx,hWx⟩:∃W,W=wF.alloc (.cells #[.int .i64 tk,.int .i64 ls,.slice AF ysF.length cF] 72):=⟨_,rfl⟩
       rw[←hxb,←hWx]
       have kx:Wx.heap[xb]? =some (.cells #[.int .i64 tk,.int .i64 ls,.slice AF ysF.length cF] 72 (0,0)):=by rw[hWx,hxb];exact heap_alloc_new _ _
       have hbx:Below W3.heap.size W3 Wx:=by rw[hWx];(repeat first|(with_reducible first|assumption|exact Below.refl _ _|refine Bl.drew ?_|refine Bl.drewN ?_ _|refine Bl.alloc ?_ _|refine Bl.set ?_ _ ?_)|(with_reducible apply Bl.step';(focus(with_reducible assumption)))|omega|(focus(simp;done))|(focus(simp;omega)))
       have HKX:=zh kx
       have HBX:=zh hbx
       have HFX:=zh (show FldR Wx Wx.heap.size AF cF ysF by rw[hWx];exact HFF.out.to (Below.alloc (Below.refl _ _) (Nat.le_refl _) _))
       have HBL:=zh (show Blks (fun d=>d≠xb) AF ysF by rw[hxb];exact HFF.out.blks.imp fun d hd=>Nat.ne_of_lt hd)
       have HFE:=zh (show fldOf tk ls ysF=f0 by rw[HF0.out];unfold fldOf;rw[HMF.out])
       have hxb3:W3.heap.size≤xb:=by rw[hxb];exact hbF.size
       have yxb:=blk_lt kx
       clear hWx hxb kx hbx hbF HFF HMF
       go_wp2_with fail
       go_loopw [83] (fun i wr=>∃(k cx:Nat) (Ax:Option Addr) (zs:List MA),k≤rs.length∧i=.int .i64 k∧Hid (wr.heap[xb]? =some (.cells #[.int .i64 (tk+k),.int .i64 ls,.slice Ax zs.length cx] 72 (0,0)))∧Hid (fldOf (tk+k) ls zs=runG g f0 ((rs.take k).map RA.os))∧Hid (FldR wr wr.heap.size Ax cx zs)∧Hid (Blks (fun d=>d≠xb) Ax zs)∧Below W3.heap.size W3 wr∧xb<wr.heap.size) (fun i _=>rs.length-(intOf i).toNat)
       case atStart=>exact⟨0,cF,AF,ysF,Nat.zero_le _,rfl,zh (by simpa using HKX.out),zh (by simpa [runG]using HFE.out),HFX,HBL,HBX.out,yxb⟩
       case round=>
        clear HKX HFX HBL HBX HFE yxb
        obtain⟨k,cx,Ax,zs,hk,rfl,hxk,hzf,hzr,hzb,hb,yxb⟩:=hrel
        obtain⟨Wk,hWk⟩:∃W,W=wr:=⟨_,rfl⟩
        subst hWk
        have hsk:=HSFK.out k hk
        rw[←hzf.out]at hsk
        have HSK:=zh hsk
        have hzl:zs.length=xs.length:=by
         have h:=congrArg List.length hsk.1.name
         rw[HF0.out]at h
         simpa [fldOf]using h
        have kx:=hxk.out
        rw[hzl]at kx
        (obtain⟨x0,xf0,x1,xf1,x2,xf2⟩:=cv3 kx)
        (have hq_Wk:Below W0.heap.size W0 Wk:=HQ_W3.out.trans (hb.mono HQ_W3.out.size));(have hc_Wk:=(bcell hq_Wk).1);(have y0_Wk:w.heap.size<Wk.heap.size:=Nat.lt_of_lt_of_le z0 hq_Wk.size);(have y1_Wk:w.heap.size+1<Wk.heap.size:=Nat.lt_of_lt_of_le z1 hq_Wk.size);(have HQ_Wk:=zh hq_Wk);clear hq_Wk
        have HBK:=zh hb
        have HZL:=zh hzl
        clear kx hsk hb hzl
        by_cases hlt:k<rs.length
        ·obtain⟨x,hx⟩:∃x,x=rs[k]:=⟨_,rfl⟩
         have hxm:x∈rs:=by rw[hx];exact List.getElem_mem hlt
         have HX:=zh hx
         have hxo:=HON.out x hxm
         obtain⟨rb,roff,er,hrb,_⟩:=HR.out.row.get1 (k:=k) (by simpa using hlt) (by rw[List.getElem_map,←hx];rfl)
         have HRW:=zh (show RndR W0 W0.heap.size (some ⟨rb,roff+k,none⟩) [x]from by rw[hx];exact rnd_at (er▸HR.out) hlt)
         rw[er]
         have HER:=zh er
         have hck:¬(rc-k=0):=by omega
         have hcr1:k<rc:=by omega
         have hcr2:k+1≤rc:=by omega
         have hcr3:(k:Int)+1≤(rc:Int):=by omega
         have hcr4:(0:Int)≤(k:Int)+1:=by omega
         have hcr5:(k:Int)≤(k:Int)+1:=by omega
         have hkw:IntKind.i64.wrap ((k:Int)+1)=(k:Int)+1:=IntWalk.i64_in _ (by omega)
         obtain⟨X,hX⟩:∃X,X=stepG g (rndG g (fldOf (tk+k) ls zs) x.os):=⟨_,rfl⟩
         have hrd:=HSK.out.1.round hns (by have htk:=HTK.out;have:=HSK.out.2;rw[this,hf0t,List.length_map,List.length_take];omega) x.os
         rw[←hX]at hrd
         have HRD:=zh hrd
         have HSO:=zh (small_ok HSM.out.1 HF0.out HSK.out.1)
         have HTL:=zh (fun W (h:FldR W W.heap.size Ax cx zs)=>(show Calls Tryz.prog 58 #[.agg #[.int .i64 (tk+k),.int .i64 ls,.slice Ax xs.length cx]] W fun e w'=>∃A' c',e=.returned (.agg #[.int .i64 (tk+k),.int .i64 ls,.slice A' zs.length c'])∧FldR w' w'.heap.size A' c' zs∧Below W.heap.size W w' by rw[←HZL.out];exact told_c (tk+k) ls Ax cx zs W (by rw[HZL.out];omega) h))
         have HFK:=zh (fun W A' c' (h:FldR W W.heap.size A' c' zs)=>field0_c (tk+k) ls A' c' zs W (by rw[HZL.out];omega) HSO.out.way h)
         have HRN:=zh (show ∀W a' A' c' ys RA' rc' us,GridR W W.heap.size a' g→KindsAt W→ys.map MA.m=zs.map MA.m→FldR W W.heap.size A' c' ys→us.map RA.os= [x].map RA.os→RndR W W.heap.size RA' us→Calls Tryz.prog 46 #[(.agg #[.int .i64 g.blur,.slice a'.pS g.sta.length a'.cs,.slice a'.pM g.mov.length a'.cm,.slice a'.pZ g.zon.length a'.cz]),(.agg #[.int .i64 (tk+k),.int .i64 ls,.slice A' ys.length c']),.slice RA' (List.length us) rc'] W fun e w'=>∃tk1 ls1 A1 c1 vs,e=.returned (.tuple #[(.agg #[.int .i64 tk1,.int .i64 ls1,.slice A1 vs.length c1]),.int .i64 0])∧fldOf tk1 ls1 vs=X∧FldR w' w'.heap.size A1 c1 vs∧Below W.heap.size W w'∧Fresh W.heap.size A1 vs from fun W a' A' c' ys RA' rc' us h1 h2 h3 h4 h5 h6=>by
          have hul:us.length=1:=by simpa using congrArg List.length h5
          have h7:=Run_c a' g (tk+k) ls A' c' ys RA' rc' us W hsm (small_map HSO.out h3) h1 h2 h4 (by omega) (os_len h5 (fun y hy=>by rw[List.mem_singleton.1 hy];exact hxo)) h6
          have hfe:fldOf (tk+k) ls ys=fldOf (tk+k) ls zs:=by unfold fldOf;rw[h3]
          have he:runE g (fldOf (tk+k) ls zs) 1=0:=by
           rw[runE_ok HSK.out.1.val]
           exact rr_one (show tk+(k:Int)+1≤10000000 by have htk:=HTK.out;omega)
          rw[←hul]at he
          rw[hfe,h5,he,show runF g (fldOf (tk+k) ls zs) ([x].map RA.os)=X by unfold runF;rw[List.length_map,List.length_singleton,if_pos (hul▸he),hX];rfl]at h7
          exact h7)
         clear hx hxm hrd er
         go_upto_region 19 with fail
         refine sf_r19 Wk a g (tk+k) ls Ax cx zs w.heap.size xb hsm HSO.out (HG.out.to HQ_Wk.out) hzr.out ((HQ_Wk.out.block w.heap.size z0).trans K0.out) hxk.out rb roff rs.length rc k x hlt hrc (by omega) hxo (HRW.out.to HQ_Wk.out) X (fun W a' A' c' ys RA' rc' us hb h1 h2 h3 h4 h5=>HRN.out W a' A' c' ys RA' rc' us h1 (HKD.out.to (HQ_Wk.out.trans (hb.mono HQ_Wk.out.size))) h2 h3 h4 h5) _ _ _ _ _ _ _ _ _ _ _ _ _ _ _ _ _ _ _ _ _ _ _ _ _ _ _ _ _ _ _ _ _ _ _ _ _ _ _ _ _ _ _ _ _ _ _ _ _ _ _ _ _ _ _ _ _ _ _ _ _ _ _ _ _ _ _ _ _ _ _ _ _ _ _ _ _ _ _ _ _ _ _ _ _ _ _ _ _ _ _ _ _ _ _ _ _ _ _ _ _ _ _ _ _ _ _ _ _ _ _ _ _ _ _ _ _ _ _ _ _ _ _ _ _ _ _ _ _ _ _ _ _ _ _ _ _ _ _ _ _ _ _ _ _ _ _ _ _ _ _ _ _ _ _ _ _ _ _ _ _ _ _ _ _ _ _ _ _ _ _ _ _ _ _ _ _ _ _ _ _ _ _ _ _ _ _ _ _ _ _ _ _ _ _ _ _ _ _ _ _ _ _ _ _ _ _ _ _ _ _ _ _ _ _ _ _ _ _ _ _ _ _ _ _ _ _ _ _ ?_
         intro nb v0_ v1_ v2_ v3_ v4_ v5_ v6_ v7_ v8_ v9_ v10_ v11_ v12_ v13_ v14_ Wn hnb
         dsimp only
         have hxn:FB2 72 Wk X nb xb Wn:=hnb.fb2 yxb
         clear hnb
         have HXN:=zh hxn
         obtain⟨tk1,ls1,A1,c1,us,k1,e1,f1,b1⟩:=hxn.ex
         have hlw:=hxn.low
         obtain⟨hs1,hs2,hs3,hs4⟩:=HRD.out
         have htk1:tk1=tk+k+1:=by have h:(fldOf tk1 ls1 us).tick=_:=congrArg Fld.tick (e1.trans rfl);rw[hs2]at h;exact h
         have hls1:ls=ls1:=by have h:(fldOf tk1 ls1 us).lease=X.lease:=congrArg Fld.lease e1;rw[hs1.lease,hf0l]at h;exact h.symm
         subst htk1 hls1
         have hul:us.length=xs.length:=by
          have h:=congrArg List.length hs1.name
          rw[←e1,HF0.out]at h
          simpa [fldOf]using h
         rw[hul]at k1
         have HUL:=zh hul
         have HE1:=zh e1
         have HF1:=zh f1
         have HLN:=zh hlw
         have HB1:=zh b1
         have HSN:=zh (show Sf g f0 (fldOf (tk+k+1) ls us) by rw[e1];exact hs1)
         have HKP:=zh (show Kept (fldOf (tk+k) ls zs) (fldOf (tk+k+1) ls us) by rw[e1];exact hs3)
         have HLT:=zh (show ∀m∈(fldOf (tk+k+1) ls us).mir,f0.lease<tk+k+1-m.heard→homed g m by rw[e1];exact hs4)
         have HSU:=zh (small_ok HSM.out.1 HF0.out HSN.out)
         have kx:=(hlw.block xb yxb).trans hxk.out
         rw[HZL.out]at kx
         have yn:=blk_lt k1
         have yx:=blk_lt kx
         have HKN:=zh k1
         have HKX:=zh kx
         (have hq_Wn:Below W0.heap.size W0 Wn:=HQ_Wk.out.trans (hlw.mono HQ_Wk.out.size));(have hc_Wn:=(bcell hq_Wn).1);(have y0_Wn:w.heap.size<Wn.heap.size:=Nat.lt_of_lt_of_le z0 hq_Wn.size);(have y1_Wn:w.heap.size+1<Wn.heap.size:=Nat.lt_of_lt_of_le z1 hq_Wn.size);(have HQ_Wn:=zh hq_Wn);clear hq_Wn
         clear x0 x1 x2 xf0 xf1 xf2
         (obtain⟨n0,nf0,n1,nf1,n2,nf2⟩:=cv3 k1)
         (obtain⟨x0,xf0,x1,xf1,x2,xf2⟩:=cv3 kx)
         have HTU:=zh (fun W (h:FldR W W.heap.size A1 c1 us)=>(show Calls Tryz.prog 58 #[.agg #[.int .i64 (tk+k+1),.int .i64 ls,.slice A1 xs.length c1]] W fun e w'=>∃A' c',e=.returned (.agg #[.int .i64 (tk+k+1),.int .i64 ls,.slice A' us.length c'])∧FldR w' w'.heap.size A' c' us∧Below W.heap.size W w' by rw[←HUL.out];exact told_c (tk+k+1) ls A1 c1 us W (by rw[HUL.out];omega) h))
         have HSS:=zh (fun W A' c' (h:FldR W W.heap.size A' c' us)=>(show Calls Tryz.prog 37 #[(.agg #[.int .i64 (tk+k+1),.int .i64 ls,.slice A' us.length c'])] W fun e w'=>e=.returned (.bool true)∧Below W.heap.size W w' by
          have h2:=rShortF_c (tk+k+1) ls A' c' us W h
          rw[short_keep HFW0.out HF0.out HSN.out (by rw[HUL.out];omega)]at h2
          exact h2))
         have HCU:=zh (fun W A' c' (h1:GridR W W.heap.size a g) (h:FldR W W.heap.size A' c' us)=>(show Calls Tryz.prog 41 #[(.agg #[.int .i64 g.blur,.slice a.pS g.sta.length a.cs,.slice a.pM g.mov.length a.cm,.slice a.pZ g.zon.length a.cz]),(.agg #[.int .i64 (tk+k+1),.int .i64 ls,.slice A' us.length c'])] W fun e w'=>e=.returned (.int .i64 0)∧Below W.heap.size W w' by
          have h2:=rCheckField_c a g (tk+k+1) ls A' c' us W hsm (by rw[HUL.out];omega) HSU.out.way (fun x hx=>⟨HSU.out.name x hx,HSU.out.sec x hx⟩) h1 h
          rw[HSN.out.val]at h2
          exact h2))
         have hw2:IntKind.i64.wrap (tk+(k:Int))=tk+(k:Int):=IntWalk.i64_in _ (by have htk:=HTK.out;omega)
         have hw3:IntKind.i64.wrap (tk+(k:Int)+1)=tk+(k:Int)+1:=IntWalk.i64_in _ (by have htk:=HTK.out;omega)
         clear hxn k1 e1 f1 b1 hlw hs1 hs2 hs3 hs4 hul kx
         go_upto_region 20 with fail
         refine sf_r20 Wn a g tk ls A1 c1 us k w.heap.size nb HSU.out (HG.out.to HQ_Wn.out) HF1.out ((HQ_Wn.out.block w.heap.size z0).trans K0.out) (by rw[HUL.out];exact HKN.out) (w.heap.size+1) A c (by omega) HTK.out.1 (by have htk:=HTK.out;omega) (by rw[HUL.out];exact(HQ_Wn.out.block (w.heap.size+1) z1).trans K1.out) HSS.out HCU.out _ _ _ _ _ _ _ _ _ _ _ _ _ _ _ _ _ _ _ _ _ _ _ _ _ _ _ _ _ _ _ _ _ _ _ _ _ _ _ _ _ _ _ _ _ _ _ _ _ _ _ _ _ _ _ _ _ _ _ _ _ _ _ _ _ _ _ _ _ _ _ _ _ _ _ _ _ _ _ _ _ _ _ _ _ _ _ _ _ _ _ _ _ _ _ _ _ _ _ _ _ _ _ _ _ _ _ _ _ _ _ _ _ _ _ _ _ _ _ _ _ _ _ _ _ _ _ _ _ _ _ _ _ _ _ _ _ _ _ _ _ _ _ _ _ _ _ _ _ _ _ _ _ _ _ _ _ _ _ _ _ _ _ _ _ _ _ _ _ _ _ _ _ _ _ _ _ _ _ _ _ _ _ _ _ _ _ _ _ _ _ _ _ _ _ _ _ _ _ _ _ _ _ _ _ _ _ _ _ _ _ _ _ _ _ _ _ _ _ _ _ _ _ _ _ _ _ _ ?_
         intro v0_ v1_ v2_ v3_ v4_ v5_ v6_ v7_ v8_ v9_ v10_ v11_ v12_ v13_ v14_ v15_ v16_ v17_ v18_ v19_ v20_ v21_ v22_ v23_ v24_ v25_ v26_ v27_ v28_ v29_ v30_ v31_ v32_ v33_ v34_ v35_ v36_ v37_ v38_ v39_ Wm hbm
         dsimp only
         have HBM:=zh hbm
         have hqm:=HQ_Wn.out.trans (hbm.mono HQ_Wn.out.size)
         have HQM:=zh hqm
         clear n0 n1 n2 nf0 nf1 nf2 x0 x1 x2 xf0 xf1 xf2 hqm
         have kn:=(hbm.block nb yn).trans HKN.out
         have kx:=(hbm.block xb yx).trans HKX.out
         have ynm:=blk_lt kn
         have yxm:=blk_lt kx
         (obtain⟨n0,nf0,n1,nf1,n2,nf2⟩:=cv3 kn)
         (obtain⟨x0,xf0,x1,xf1,x2,xf2⟩:=cv3 kx)
         have HKN2:=zh kn
         have HKX2:=zh kx
         clear kn kx hbm
         go_wp2_with fail
         go_loopw [145] (fun i wv=>∃j:Nat,j≤xs.length∧i=.int .i64 j∧Below Wm.heap.size Wm wv) (fun i _=>xs.length-(intOf i).toNat)
         case atStart=>exact⟨0,Nat.zero_le _,rfl,Below.refl _ _⟩
         case round=>
          obtain⟨j,hj,rfl,hbj⟩:=hrel
          have HBJ:=zh hbj
          have hqj:=HQM.out.trans (hbj.mono HQM.out.size)
          have HQJ:=zh hqj
          have hcj:=(bcell hqj).1
          have hsj:=hqj.size
          have kn:=(hbj.block nb ynm).trans HKN2.out
          have kx:=(hbj.block xb yxm).trans HKX2.out
          have ynj:=blk_lt kn
          have yxj:=blk_lt kx
          clear n0 n1 n2 nf0 nf1 nf2 x0 x1 x2 xf0 xf1 xf2
          (obtain⟨n0,nf0,n1,nf1,n2,nf2⟩:=cv3 kn)
          (obtain⟨x0,xf0,x1,xf1,x2,xf2⟩:=cv3 kx)
          have y0j:w.heap.size<wr.heap.size:=Nat.lt_of_lt_of_le z0 hsj
          have y1j:w.heap.size+1<wr.heap.size:=Nat.lt_of_lt_of_le z1 hsj
          have HKN3:=zh kn
          have HKX3:=zh kx
          have hbnj:Below Wn.heap.size Wn wr:=HBM.out.trans (hbj.mono HBM.out.size)
          have HBNJ:=zh hbnj
          clear kn kx hqj hbj
          by_cases hlj:j<xs.length
          ·have hju:j<us.length:=by rw[HUL.out];exact hlj
           have hjz:j<zs.length:=by rw[HZL.out];exact hlj
           obtain⟨u,hu⟩:∃u,u=us[j]:=⟨_,rfl⟩
           obtain⟨z,hz⟩:∃z,z=zs[j]:=⟨_,rfl⟩
           obtain⟨y,hy⟩:∃y,y=xs[j]:=⟨_,rfl⟩
           obtain⟨ub,uo,eu,hub,u0,u1,u2,u3,u4,u5⟩:=(HF1.out.to hbnj).rw_.get6 (k:=j) (by simpa using hju) (by rw[List.getElem_map,←hu];rfl)
           obtain⟨zb,zo,ez,hzb6,_,_,_,_,_,z5⟩:=(hzr.out.to (HLN.out.trans (hbnj.mono HLN.out.size))).rw_.get6 (k:=j) (by simpa using hjz) (by rw[List.getElem_map,←hz];rfl)
           obtain⟨yb,yo,ey,hyb,v0,v1,_,_,_,_⟩:=HF.out.rw_.get6 (k:=j) (by simpa using hlj) (by rw[List.getElem_map,←hy];rfl)
           have hmem:u.m∈(fldOf (tk+k+1) ls us).mir:=by rw[hu];exact List.mem_map_of_mem (List.getElem_mem hju)
           have hnm:u.m.name=y.m.name:=by
            have h:=congrArg (fun l=>l[j]?) HSN.out.name
            rw[HF0.out]at h
            simp[fldOf,hju,hlj]at h
            rw[hu,hy];exact h
           have hsc:u.m.sec=y.m.sec:=by
            have h:=congrArg (fun l=>l[j]?) HSN.out.sec
            rw[HF0.out]at h
            simp[fldOf,hju,hlj]at h
            rw[hu,hy];exact h
           have hhd:u.m.heard=z.m.heard∨u.m.heard=tk+k:=HKP.out.heard j z.m u.m (by rw[hz];simp[fldOf,hjz]) (by rw[hu];simp[fldOf,hju])
           have hok:=HSN.out.ok.2.2.mir u.m hmem
           have hhr:=HSN.out.ok.2.2.heard u.m hmem
           have hlate:=HLT.out u.m hmem
           rw[hf0l]at hlate
           rw[←hnm]at v0
           rw[←hsc]at v1
           have hmr:=(HF1.out.to hbnj).each u (by rw[hu];exact List.getElem_mem hju)
           rw[eu]at n2 ⊢
           rw[ez]at x2
           rw[ey]at q2
           have HEU:=zh eu
           have HEZ:=zh ez
           have HEY:=zh ey
           have yyb:yb<wr.heap.size:=by omega
           have HMR:=zh hmr
           have HHD:=zh hhd
           have HOK:=zh hok
           have HLA:=zh hlate
           have hh0:0≤u.m.heard:=hhr.1
           have hh1:u.m.heard≤tk+k+1:=hhr.2
           clear hu hz hy eu ez ey hmem hnm hsc hhd hok hhr hlate hmr hbnj
           obtain⟨m,uA,uc⟩:=u
           simp only at u0 u1 u2 u3 u4 u5 HMR HHD HOK HLA hh0 hh1 v0 v1
           obtain⟨zhd,hzhd⟩:∃h,h=z.m.heard:=⟨_,rfl⟩
           rw[←hzhd]at z5 HHD
           clear hzhd
           go_upto_region 25 with fail
           obtain⟨Wv,hWv⟩:∃W,W=wr.alloc (.cells #[.string m.name,.string m.sec,.int .i64 m.loc,.slice uA m.way.length uc,.int .i64 m.left,.int .i64 m.heard] 106):=⟨_,rfl⟩
           obtain⟨mb,hmb⟩:∃b,b=wr.heap.size:=⟨_,rfl⟩
           rw[←hWv,←hmb]
           have km:Wv.heap[mb]? =some (.cells #[.string m.name,.string m.sec,.int .i64 m.loc,.slice uA m.way.length uc,.int .i64 m.left,.int .i64 m.heard] 106 (0,0)):=by rw[hWv,hmb];exact heap_alloc_new _ _
           have hbv:Below wr.heap.size wr Wv:=by rw[hWv];(repeat first|(with_reducible first|assumption|exact Below.refl _ _|refine Bl.drew ?_|refine Bl.drewN ?_ _|refine Bl.alloc ?_ _|refine Bl.set ?_ _ ?_)|(with_reducible apply Bl.step';(focus(with_reducible assumption)))|omega|(focus(simp;done))|(focus(simp;omega)))
           have HKM:=zh km
           have HBV:=zh hbv
           have hcv:=(bcell hbv).1
           have hsv:=hbv.size
           have ymb:=blk_lt km
           (obtain⟨p0,pf0,p1,pf1,p2,pf2,p3,pf3,p4,pf4,p5,pf5⟩:=cv6 km)
           clear hWv hmb km hbv pf0 pf1 pf2 pf3 pf4 pf5 u0 u1 u2 u3 u4 u5
           go_cut [187] (fun s wx=>s=.bool false∧Below Wv.heap.size Wv wx)
           case first=>
            by_cases hzq:m.heard=zhd
            ·rw[←hzq]at z5
             go_quiet (fail)
             go_wp2_with fail
             go_meet
             exact⟨rfl,by exact zbl⟩
            ·have hne:(m.heard !=zhd)=true:=by simpa using hzq
             have he:m.heard=tk+k:=HHD.out.resolve_left hzq
             have heq:(m.heard !=tk+k)=false:=by rw[he];simp
             clear he
             go_quiet (fail)
             go_wp2_with fail
             go_meet
             exact⟨rfl,by exact zbl⟩
           case rest=>
            obtain⟨rfl,hbw⟩:=hcut
            obtain⟨Wu,rfl⟩:∃W,W=wc:=⟨wc,rfl⟩
            have hwu:Below wr.heap.size wr Wu:=HBV.out.trans (hbw.mono HBV.out.size)
            have hqu:=HQJ.out.trans (hwu.mono HQJ.out.size)
            have HQU:=zh hqu
            have hcu:=(bcell hqu).1
            have hsu:=hqu.size
            have km:=(hbw.block mb ymb).trans HKM.out
            have kn:=(hwu.block nb ynj).trans HKN3.out
            clear p0 p1 p2 p3 p4 p5 n0 n1 n2 nf0 nf1 nf2 x0 x1 x2 xf0 xf1 xf2
            have ymu:=blk_lt km
            have ynu:=blk_lt kn
            (obtain⟨p0,pf0,p1,pf1,p2,pf2,p3,pf3,p4,pf4,p5,pf5⟩:=cv6 km)
            (obtain⟨n0,nf0,n1,nf1,n2,nf2⟩:=cv3 kn)
            have y0u:w.heap.size<Wu.heap.size:=Nat.lt_of_lt_of_le z0 hsu
            have y1u:w.heap.size+1<Wu.heap.size:=Nat.lt_of_lt_of_le z1 hsu
            have HWU:=zh hwu
            have HMU:=zh (show MirR Wu Wu.heap.size m uA uc from⟨HMR.out.way.to hwu,HMR.out.cap⟩)
            have hsw:IntKind.i64.wrap (tk+(k:Int)+1-m.heard)=tk+(k:Int)+1-m.heard:=IntWalk.i64_in _ (by have htk:=HTK.out;omega)
            clear km kn hbw hwu hqu pf0 pf1 pf2 pf3 pf4 pf5 hcv v0 v1 z5
            cases hlt2:decide (ls<tk+k+1-m.heard)
            case false=>
             go_upto_region 27 with fail
             go_quiet (fail)
             go_wp2_with fail
             (try rw[←HEU.out])
             go_roundw
             case rel=>exact⟨j+1,Nat.succ_le_of_lt hlj,by first|rfl|go_num,HBJ.out.trans ((HWU.out.trans (Below.mono (by exact zbl) HWU.out.size)).mono HBJ.out.size)⟩
             case measure=>first|exact meas_lt2 hlj|exact meas_lt hlj hll|(simp[intOf];omega)
            case true=>
             have hhm:sEq (kindG g (boundM m)) kFocus=false:=HLA.out (of_decide_eq_true hlt2)
             obtain⟨kb,hkb⟩:=Int.eq_ofNat_of_zero_le HOK.out.bound.1
             have hkn:kb<g.sta.length:=by have:=HOK.out.bound.2;omega
             obtain⟨bS,offS,eS,hbS,s0,s1,s2,s3⟩:=HG.out.sta.get4 (k:=kb) (by simpa using hkn) (by rw[List.getElem_map];rfl)
             obtain⟨sk,hs⟩:∃s,s=g.sta[kb].kind:=⟨_,rfl⟩
             rw[←hs]at s1
             have hkd:kindG g (boundM m)=sk:=by unfold kindG;rw[hkb,Int.toNat_natCast,List.getD_eq_getElem?_getD,List.getElem?_eq_getElem hkn,hs];rfl
             rw[hkd]at hhm
             have hq:(sk.toList== [102,111,99,117,115])=sEq sk kFocus:=by rw[ByteArray.toList_eq];rfl
             rw[hhm]at hq
             rw[eS]at d1
             have hql:sk.toList≠ [102,111,99,117,115]:=by simpa using hq
             have HES:=zh eS
             have hwl:m.way.length≤40:=HOK.out.len
             have HBN:=zh (fun W (h:MirR W W.heap.size m uA uc)=>rBound_c m uA uc W (by omega) h)
             rw[hkb]at HBN
             have ybS:bS<Wu.heap.size:=by omega
             clear hs hkd hhm eS s0 s2 s3 hkb
             go_upto_region 27 with fail
             go_region_held3 (SHd Wu) ((refine Sh.goal ?_;exact zsh)) (first|(go_at_call 59;(with_reducible refine Calls.mono (HBN.out _ ⟨HMU.out.way.to (by exact zbl),HMU.out.cap⟩) ?_);rintro e w3 ⟨rfl,hb3⟩))
             all_goals
              go_wp2_with fail
              (try rw[←HEU.out])
              go_roundw
              case rel=>exact⟨j+1,Nat.succ_le_of_lt hlj,by first|rfl|go_num,HBJ.out.trans ((HWU.out.trans (Below.mono (by exact zbl) HWU.out.size)).mono HBJ.out.size)⟩
              case measure=>first|exact meas_lt2 hlj|exact meas_lt hlj hll|(simp[intOf];omega)
          ·go_wp2_with fail
           go_roundw
           case rel=>
            have hlo:Below W3.heap.size W3 wr:=HBK.out.trans ((HLN.out.trans (HBNJ.out.mono HLN.out.size)).mono HBK.out.size)
            have hfu:=HF1.out.to HBNJ.out
            refine⟨k+1,c1,A1,us,Nat.succ_le_of_lt hlt,by first|rfl|go_num,zh ?_,zh ?_,zh ((hfu.set3 _ _ _ HB1.out).more (by simp)),HB1,Below.set3 hlo hxb3 _ _ _,by simpa using yxj⟩
            ·rw[set3_block HKX3.out,HUL.out]
             simp[Int.add_assoc]
            ·have e9:fldOf (tk+((k+1:Nat):Int)) ls us=fldOf (tk+k+1) ls us:=by simp[Int.add_assoc]
             rw[e9,HE1.out,hX,List.take_succ_eq_append_getElem hlt,List.map_append,←HX.out,List.map_cons,List.map_nil,run_snoc,←hzf.out]
           case measure=>first|exact meas_lt2 hlt|exact meas_lt hlt hrl1000|(simp[intOf];omega)
        ·have hkn:k=rs.length:=by omega
         have hzA:fldOf (tk+k) ls zs=runG g f0 (rs.map RA.os):=by have h:=hzf.out;rw[hkn,List.take_length]at h;rw[hkn];exact h
         have HZA:=zh hzA
         obtain⟨X,hX⟩:∃X,X=runG g f0 (rs.map RA.os):=⟨_,rfl⟩
         have HRN:=zh (show ∀W a' A' c' ys RA' rc' us,GridR W W.heap.size a' g→KindsAt W→ys.map MA.m=xs.map MA.m→FldR W W.heap.size A' c' ys→us.map RA.os=rs.map RA.os→RndR W W.heap.size RA' us→Calls Tryz.prog 46 #[(.agg #[.int .i64 g.blur,.slice a'.pS g.sta.length a'.cs,.slice a'.pM g.mov.length a'.cm,.slice a'.pZ g.zon.length a'.cz]),(.agg #[.int .i64 tk,.int .i64 ls,.slice A' ys.length c']),.slice RA' (List.length us) rc'] W fun e w'=>∃tk1 ls1 A1 c1 vs,e=.returned (.tuple #[(.agg #[.int .i64 tk1,.int .i64 ls1,.slice A1 vs.length c1]),.int .i64 0])∧fldOf tk1 ls1 vs=X∧FldR w' w'.heap.size A1 c1 vs∧Below W.heap.size W w'∧Fresh W.heap.size A1 vs from fun W a' A' c' ys RA' rc' us h1 h2 h3 h4 h5 h6=>by
          have hul:us.length=rs.length:=by simpa using congrArg List.length h5
          have h7:=Run_c a' g tk ls A' c' ys RA' rc' us W hsm (small_map HSM.out.1 h3) h1 h2 h4 (by omega) (os_len h5 HON.out) h6
          have hfe:fldOf tk ls ys=f0:=by rw[HF0.out];unfold fldOf;rw[h3]
          have he:runE g f0 rs.length=0:=by
           rw[HF0.out,runE_ok hB0]
           exact rr_zero (by omega) (show tk+(rs.length:Int)≤10000000 by have htk:=HTK.out;omega)
          rw[←hul]at he
          rw[hfe,h5,he,show runF g f0 (rs.map RA.os)=X by unfold runF;rw[List.length_map,if_pos (hul▸he),hX]]at h7
          exact h7)
         have HXX:=zh hX
         clear hkn hzA hX
         go_upto_region 32 with fail
         refine sf_r32 Wk a g tk ls A c xs w.heap.size (w.heap.size+1) hsm HSM.out.1 (HG.out.to HQ_Wk.out) (HF.out.to HQ_Wk.out) ((HQ_Wk.out.block w.heap.size z0).trans K0.out) ((HQ_Wk.out.block (w.heap.size+1) z1).trans K1.out) RA_ rc rs (by omega) HON.out (HR.out.to HQ_Wk.out) X (fun W a' A' c' ys RA' rc' us hb h1 h2 h3 h4 h5=>HRN.out W a' A' c' ys RA' rc' us h1 (HKD.out.to (HQ_Wk.out.trans (hb.mono HQ_Wk.out.size))) h2 h3 h4 h5) _ _ _ _ _ _ _ _ _ _ _ _ _ _ _ _ _ _ _ _ _ _ _ _ _ _ _ _ _ _ _ _ _ _ _ _ _ _ _ _ _ _ _ _ _ _ _ _ _ _ _ _ _ _ _ _ _ _ _ _ _ _ _ _ _ _ _ _ _ _ _ _ _ _ _ _ _ _ _ _ _ _ _ _ _ _ _ _ _ _ _ _ _ _ _ _ _ _ _ _ _ _ _ _ _ _ _ _ _ _ _ _ _ _ _ _ _ _ _ _ _ _ _ _ _ _ _ _ _ _ _ _ _ _ _ _ _ _ _ _ _ _ _ _ _ _ _ _ _ _ _ _ _ _ _ _ _ _ _ _ _ _ _ _ _ _ _ _ _ _ _ _ _ _ _ _ _ _ _ _ _ _ _ _ _ _ _ _ _ _ _ _ _ _ _ _ _ _ _ _ _ _ _ _ _ _ _ _ _ _ _ _ _ _ _ _ _ _ _ _ _ _ _ _ _ _ _ _ _ _ ?_
         intro b5 v0_ v1_ v2_ v3_ v4_ v5_ v6_ v7_ v8_ v9_ Wz hnb
         dsimp only
         have hx5:FBox 72 Wk X b5 Wz:=hnb.fbox
         clear hnb
         obtain⟨t5,l5,A5,c5,vs,k5,e5,f5⟩:=hx5.ex
         have hlw:=hx5.low
         have hee:=e5.trans (HXX.out.trans HZA.out.symm)
         have ht5:t5=tk+k:=congrArg Fld.tick hee
         have hl5:ls=l5:=(congrArg Fld.lease hee).symm
         subst ht5 hl5
         have hmv:vs.map MA.m=zs.map MA.m:=congrArg Fld.mir hee
         have hvl:vs.length=xs.length:=by have:=congrArg List.length hmv;rw[List.length_map,List.length_map,HZL.out]at this;exact this
         have kx:=(hlw.block xb yxb).trans hxk.out
         have y5:=blk_lt k5
         have yx:=blk_lt kx
         (have hq_Wz:Below W0.heap.size W0 Wz:=HQ_Wk.out.trans (hlw.mono HQ_Wk.out.size));(have hc_Wz:=(bcell hq_Wz).1);(have y0_Wz:w.heap.size<Wz.heap.size:=Nat.lt_of_lt_of_le z0 hq_Wz.size);(have y1_Wz:w.heap.size+1<Wz.heap.size:=Nat.lt_of_lt_of_le z1 hq_Wz.size);(have HQ_Wz:=zh hq_Wz);clear hq_Wz
         have HF5:=zh f5
         have HFZ:=zh (hzr.out.to hlw)
         have HMV:=zh hmv
         have HSV:=zh (fun v hv=>(small_ok HSM.out.1 HF0.out (show Sf g f0 (fldOf (tk+k) ls vs) by rw[show fldOf (tk+k) ls vs=fldOf (tk+k) ls zs from hee];exact HSK.out.1)).way v hv)
         have HVL:=zh hvl
         clear x0 x1 x2 xf0 xf1 xf2
         (obtain⟨u0,uf0,u1,uf1,u2,uf2⟩:=cv3 k5)
         (obtain⟨x0,xf0,x1,xf1,x2,xf2⟩:=cv3 kx)
         clear hx5 hlw k5 kx e5 f5 hee hmv hvl uf0 uf1 uf2 xf0 xf1 xf2
         go_upto_region 33 with fail
         go_region_held3 (SHd Wz) ((refine Sh.goal ?_;exact zsh)) (first|(go_at_call 58;(with_reducible refine Calls.mono (told_c (tk+k) ls A5 c5 vs _ (by rw[HVL.out];omega) (HF5.out.to (by exact zbl))) ?_);rintro e wT ⟨AT,cT,rfl,hfT,hbT⟩;(have HFT:=zh hfT);clear hfT)|(go_at_call 58;(with_reducible refine Calls.mono (told_c (tk+k) ls Ax cx zs _ (by rw[HZL.out];omega) (HFZ.out.to (by exact zbl))) ?_);rintro e wU ⟨AU,cU,rfl,hfU,hbU⟩;(have HFU:=zh hfU);clear hfU)|(go_at_call 60;(with_reducible refine Calls.mono (rSame_c (tk+k) ls AT AU cT cU vs zs _ (by rw[HVL.out];omega) HSV.out HMV.out (HFT.out.to (by exact zbl)) (HFU.out.to (by exact zbl))) ?_);rintro e wS ⟨rfl,hbS⟩)|(go_at_call 16;(with_reducible refine Calls.mono (awake_c _ (HKD.out.to (HQ_Wz.out.trans (Below.mono (by exact zbl) HQ_Wz.out.size))) (HPW.out.to (HQ_Wz.out.trans (Below.mono (by exact zbl) HQ_Wz.out.size)))) ?_);rintro e wK ⟨rfl,hbK⟩))
         all_goals
          go_wp2_with fail
          go_ret
          exact⟨rfl,HB0.out.trans ((HQ_Wz.out.trans (Below.mono (by exact zbl) HQ_Wz.out.size)).mono HB0.out.size)⟩
end Go.Proofs.YtehnikhicnnnhaaGreatDoor
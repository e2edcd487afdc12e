/- BeamDeadlines answers true. -/
import Derived.Test.YtehnikhicnnnhaaGreatDoorPa53
import Derived.Test.YtehnikhicnnnhaaGreatDoorPa39
import Derived.Test.YtehnikhicnnnhaaGreatDoorPa63
import Derived.Test.YtehnikhicnnnhaaGreatDoorPa46
import Derived.Test.YtehnikhicnnnhaaGreatDoorPa52
import Derived.Test.YtehnikhicnnnhaaGreatDoorPa01
import Derived.Test.YtehnikhicnnnhaaGreatDoorPa03
namespace Go.Proofs.YtehnikhicnnnhaaGreatDoor
open Go.RowKit
theorem bcellq{w w':World}(hb:Below w.heap.size w w'):∀b o,b<w.heap.size→w'.cell? ⟨b,o,none⟩=w.cell? ⟨b,o,none⟩:=fun b o h=>hb.cell (p:=⟨b,o,none⟩) h
theorem strs_set3{W:World}{b:Nat}{A:Option Addr}{l:List ByteArray}{v0 v1 v2:Value}(h:StrsR W W.heap.size A l)(hn:l≠ []→∀a,A=some a→a.block≠b):StrsR (((W.setCell ⟨b,0,none⟩ v0).setCell ⟨b,1,none⟩ v1).setCell ⟨b,2,none⟩ v2) (((W.setCell ⟨b,0,none⟩ v0).setCell ⟨b,1,none⟩ v1).setCell ⟨b,2,none⟩ v2).heap.size A l:=
 Rw.more (Ke.rwN h (Ke.set3 (p:=b) W v0 v1 v2) (Nat.le_refl _) (fun hh=>hn (by simpa using hh))) (by simp)
theorem dl_ex(g:Grd)(f:Fld):∃n:Nat,fieldC g f=0→n≤1000000∧darkG g (stepN g f n)=true∧∀k<n,darkG g (stepN g f k)=false:=by
 by_cases h:fieldC g f=0
 ·have ho:=gridC_ok (fieldC_grid h)
  have hu:=gridC_uniq (fieldC_grid h)
  have hf:=fieldC_fld h
  obtain⟨n,h1,h2,h3⟩:=deadline_ex ho hu hf (fieldC_tick h) (B:=2000) (fun m hm=>by
   have h4:=(hf.mir m hm).len
   have h5:=hf.lease1
   have h6:=ho.ns
   omega)
  exact⟨n,fun _=>⟨by omega,h2,h3⟩⟩
 ·exact⟨0,fun h2=>absurd h2 h⟩
theorem def_fld{g:Grd}{f:Fld}{s:ByteArray}(h:defE g f s=0):fieldC g f=0:=by
 unfold defE at h
 split at h
 ·assumption
 ·rename_i h0;exact absurd h h0
theorem def_b(g:Grd)(f:Fld)(s:ByteArray):FldB (defF g f s):=by
 unfold defF
 split
 ·rename_i h
  have h0:=def_fld h
  have ho:=gridC_ok (fieldC_grid h0)
  have hu:=gridC_uniq (fieldC_grid h0)
  have hf:=fieldC_fld h0
  refine⟨by show(f.mir.map _).length≤1000;rw[List.length_map];have:=hf.n;omega,fun m hm=>?_⟩
  obtain⟨x,hx,rfl⟩:=List.mem_map.1 hm
  unfold defM
  split
  ·have:=(sent_ok ho hu (hf.mir x hx)).len
   show(sentG g x).way.length≤1000
   omega
  ·have:=(hf.mir x hx).len;omega
 ·exact FldB.zero
set_option maxRecDepth 100000 in
set_option maxHeartbeats 16000000 in
theorem BeamDeadlines_c(a:GA)(g:Grd)(tk ls:Int)(A:Option Addr)(c:Nat)(xs:List MA)(s:ByteArray)(w:World)(hr:GridR w w.heap.size a g)(hf:FldR w w.heap.size A c xs)(hz:NilW xs)(hk:KindsAt w)(hp:PowAt w):
 Calls Tryz.prog 10 #[(.agg #[.int .i64 g.blur,.slice a.pS g.sta.length a.cs,.slice a.pM g.mov.length a.cm,.slice a.pZ g.zon.length a.cz]),(.agg #[.int .i64 tk,.int .i64 ls,.slice A xs.length c]),.string s] w fun e w'=>e=.returned (.bool true)∧Below w.heap.size w w':=by
 obtain⟨W0,hW0⟩:∃W0,W0=(w.alloc (.cells #[.int .i64 g.blur,.slice a.pS g.sta.length a.cs,.slice a.pM g.mov.length a.cm,.slice a.pZ g.zon.length a.cz] 26)).alloc (.cells #[.int .i64 tk,.int .i64 ls,.slice A xs.length c] 66):=⟨_,rfl⟩
 have k0:W0.heap[w.heap.size]? =some (.cells #[.int .i64 g.blur,.slice a.pS g.sta.length a.cs,.slice a.pM g.mov.length a.cm,.slice a.pZ g.zon.length a.cz] 26 (0,0)):=by rw[hW0];exact(Below.heap_alloc _ _ _ (by simp)).trans (heap_alloc_new w _)
 have k1:W0.heap[w.heap.size+1]? =some (.cells #[.int .i64 tk,.int .i64 ls,.slice A xs.length c] 66 (0,0)):=by rw[hW0];exact heap_two w _ _
 have hB0:Below w.heap.size w W0:=by rw[hW0];(repeat first|(with_reducible first|assumption|exact Below.refl _ _|refine Bl.drew ?_|refine Bl.drewN ?_ _|refine Bl.alloc ?_ _|refine Bl.set ?_ _ ?_)|(with_reducible apply Bl.step';(focus(with_reducible assumption)))|omega|(focus(simp;done))|(focus(simp;omega)))
 have HG:Hid (GridR W0 W0.heap.size a g):=zh (hr.to hB0)
 have HF:=zh (FldR.to hf hB0)
 have HKD:Hid (KindsAt W0):=zh (hk.to hB0)
 have HPW:Hid (PowAt W0):=zh (hp.to hB0)
 have HB0:=zh hB0
 have HNW:=zh hz
 have z0:=bk_lt k0
 have z1:=bk_lt k1
 clear hr hk hp hf hz hB0
 (obtain⟨d0,d1,d2,d3⟩:=cg4 k0)
 (obtain⟨q0,qf0,q1,qf1,q2,qf2⟩:=cv3 k1)
 clear k0 k1 qf0 qf1 qf2
 have hSH:=fun W (h:GridR W W.heap.size a g)=>rShort_c a g W h
 have hSF:=fun W (h:FldR W W.heap.size A c xs)=>rShortF_c tk ls A c xs W h
 cases hsh:shortG g
 ·rw[hsh]at hSH
  have HSH:=zh hSH
  clear hSH hsh hSF
  go_enter Tryz.func10,Tryz.ntmps10
  go_upto_region 1 with fail
  rw[←hW0]
  clear hW0
  go_wp2_with (first|(go_at_call 15;(with_reducible refine Calls.mono (HSH.out _ (HG.out.to (by exact zbl))) ?_);rintro e wA ⟨rfl,hbA⟩;(have hq_wA:Below W0.heap.size W0 wA:=by exact zbl);(have hc_wA:=(bcell hq_wA).1);(have y0_wA:w.heap.size<wA.heap.size:=Nat.lt_of_lt_of_le z0 hq_wA.size);(have y1_wA:w.heap.size+1<wA.heap.size:=Nat.lt_of_lt_of_le z1 hq_wA.size);clear hq_wA)|(go_at_call 16;(with_reducible refine Calls.mono (awake_c _ (HKD.out.to (by exact zbl)) (HPW.out.to (by exact zbl))) ?_);rintro e wK ⟨rfl,hbK⟩))
  go_ret
  exact⟨rfl,HB0.out.trans ((show Below W0.heap.size W0 _ by exact zbl).mono HB0.out.size)⟩
 ·rw[hsh]at hSH
  have HSH:=zh hSH
  have hsm:=short_small hsh
  clear hSH hsh
  cases hsf:shortF xs
  ·rw[hsf]at hSF
   have HSF:=zh hSF
   clear hSF hsf
   go_enter Tryz.func10,Tryz.ntmps10
   go_upto_region 1 with fail
   rw[←hW0]
   clear hW0
   go_wp2_with (first|(go_at_call 15;(with_reducible refine Calls.mono (HSH.out _ (HG.out.to (by exact zbl))) ?_);rintro e wA ⟨rfl,hbA⟩;(have hq_wA:Below W0.heap.size W0 wA:=by exact zbl);(have hc_wA:=(bcell hq_wA).1);(have y0_wA:w.heap.size<wA.heap.size:=Nat.lt_of_lt_of_le z0 hq_wA.size);(have y1_wA:w.heap.size+1<wA.heap.size:=Nat.lt_of_lt_of_le z1 hq_wA.size);clear hq_wA)|(go_at_call 37;(with_reducible refine Calls.mono (HSF.out _ (HF.out.to (by exact zbl))) ?_);rintro e wB ⟨rfl,hbB⟩;(have hq_wB:Below W0.heap.size W0 wB:=by exact zbl);(have hc_wB:=(bcell hq_wB).1);(have y0_wB:w.heap.size<wB.heap.size:=Nat.lt_of_lt_of_le z0 hq_wB.size);(have y1_wB:w.heap.size+1<wB.heap.size:=Nat.lt_of_lt_of_le z1 hq_wB.size);clear hq_wB)|(go_at_call 16;(with_reducible refine Calls.mono (awake_c _ (HKD.out.to (by exact zbl)) (HPW.out.to (by exact zbl))) ?_);rintro e wK ⟨rfl,hbK⟩))
   go_ret
   exact⟨rfl,HB0.out.trans ((show Below W0.heap.size W0 _ by exact zbl).mono HB0.out.size)⟩
  ·rw[hsf]at hSF
   have HSF:=zh hSF
   have hsmf:=short_fld hsf
   clear hSF hsf
   cases hn1:decide ((40:Int)<(s.size:Int))
   case true=>
    go_enter Tryz.func10,Tryz.ntmps10
    go_upto_region 1 with fail
    rw[←hW0]
    clear hW0
    go_wp2_with (first|(go_at_call 15;(with_reducible refine Calls.mono (HSH.out _ (HG.out.to (by exact zbl))) ?_);rintro e wA ⟨rfl,hbA⟩;(have hq_wA:Below W0.heap.size W0 wA:=by exact zbl);(have hc_wA:=(bcell hq_wA).1);(have y0_wA:w.heap.size<wA.heap.size:=Nat.lt_of_lt_of_le z0 hq_wA.size);(have y1_wA:w.heap.size+1<wA.heap.size:=Nat.lt_of_lt_of_le z1 hq_wA.size);clear hq_wA)|(go_at_call 37;(with_reducible refine Calls.mono (HSF.out _ (HF.out.to (by exact zbl))) ?_);rintro e wB ⟨rfl,hbB⟩;(have hq_wB:Below W0.heap.size W0 wB:=by exact zbl);(have hc_wB:=(bcell hq_wB).1);(have y0_wB:w.heap.size<wB.heap.size:=Nat.lt_of_lt_of_le z0 hq_wB.size);(have y1_wB:w.heap.size+1<wB.heap.size:=Nat.lt_of_lt_of_le z1 hq_wB.size);clear hq_wB)|(go_at_call 16;(with_reducible refine Calls.mono (awake_c _ (HKD.out.to (by exact zbl)) (HPW.out.to (by exact zbl))) ?_);rintro e wK ⟨rfl,hbK⟩))
    go_ret
    exact⟨rfl,HB0.out.trans ((show Below W0.heap.size W0 _ by exact zbl).mono HB0.out.size)⟩
   case false=>
    have hss:s.size≤100000:=by have:=of_decide_eq_false hn1;omega
    have hll:xs.length≤1000:=by have:=hsmf.2;omega
    obtain⟨B,hB⟩:∃B,B=fieldC g (fldOf tk ls xs):=⟨_,rfl⟩
    obtain⟨E2,hE2⟩:∃E,E=defE g (fldOf tk ls xs) s:=⟨_,rfl⟩
    obtain⟨X3,hX3⟩:∃X,X=defF g (fldOf tk ls xs) s:=⟨_,rfl⟩
    obtain⟨L,hL⟩:∃L,L=secF g (fldOf tk ls xs) s:=⟨_,rfl⟩
    obtain⟨n,hn⟩:=dl_ex g (fldOf tk ls xs)
    obtain⟨D,hD⟩:∃D,D=dlN g (fldOf tk ls xs) n:=⟨_,rfl⟩
    have hfe:∀ys:List MA,ys.map MA.m=xs.map MA.m→fldOf tk ls ys=fldOf tk ls xs:=fun ys h=>by unfold fldOf;rw[h]
    have hlL:L.length≤1000:=by rw[hL];unfold secF;split;(rw[←secL_eq];exact Nat.le_trans (nmsP_len _ _) hll);simp
    have HCF:=zh (show ∀W,GridR W W.heap.size a g→FldR W W.heap.size A c xs→Calls Tryz.prog 41 #[(.agg #[.int .i64 g.blur,.slice a.pS g.sta.length a.cs,.slice a.pM g.mov.length a.cm,.slice a.pZ g.zon.length a.cz]),(.agg #[.int .i64 tk,.int .i64 ls,.slice A xs.length c])] W fun e w'=>e=.returned (.int .i64 B)∧Below W.heap.size W w' from fun W h1 h2=>by
     rw[hB];exact rCheckField_c a g tk ls A c xs W hsm hll hsmf.1.way (fun x hx=>⟨hsmf.1.name x hx,hsmf.1.sec x hx⟩) h1 h2)
    have HDL:=zh (show ∀W a' A' c' ys,GridR W W.heap.size a' g→KindsAt W→ys.map MA.m=xs.map MA.m→FldR W W.heap.size A' c' ys→Calls Tryz.prog 68 #[(.agg #[.int .i64 g.blur,.slice a'.pS g.sta.length a'.cs,.slice a'.pM g.mov.length a'.cm,.slice a'.pZ g.zon.length a'.cz]),(.agg #[.int .i64 tk,.int .i64 ls,.slice A' ys.length c'])] W fun e w'=>e=.returned (.tuple #[.int .i64 D,.int .i64 B])∧Below W.heap.size W w' from fun W a' A' c' ys h1 h2 h3 h4=>by
     have h5:=Deadline_c a' g tk ls A' c' ys W hsm (small_map hsmf.1 h3) h1 h2 h4 n (by rw[hfe ys h3];exact hn)
     rw[hfe ys h3,←hD,←hB]at h5
     exact h5)
    have HSC:=zh (show ∀W a' A' c' ys,GridR W W.heap.size a' g→KindsAt W→ys.map MA.m=xs.map MA.m→FldR W W.heap.size A' c' ys→Calls Tryz.prog 69 #[(.agg #[.int .i64 g.blur,.slice a'.pS g.sta.length a'.cs,.slice a'.pM g.mov.length a'.cm,.slice a'.pZ g.zon.length a'.cz]),(.agg #[.int .i64 tk,.int .i64 ls,.slice A' ys.length c']),.string s] W fun e w'=>∃AL cL,e=.returned (.tuple #[.slice AL L.length cL,.int .i64 E2])∧StrsR w' w'.heap.size AL L∧Below W.heap.size W w' from fun W a' A' c' ys h1 h2 h3 h4=>by
     have h5:=Sector_c a' g tk ls A' c' ys s W hsm (small_map hsmf.1 h3) h1 h2 h4 hss
     rw[hfe ys h3,←hL,←hE2]at h5
     refine h5.mono ?_
     rintro e w' ⟨v,rfl,ho,hb⟩
     obtain⟨AL,cL,rfl,_,h6,_⟩:=ho.sl
     exact⟨AL,cL,rfl,h6,hb⟩)
    have HDF:=zh (show ∀W a' A' c' ys,GridR W W.heap.size a' g→KindsAt W→ys.map MA.m=xs.map MA.m→FldR W W.heap.size A' c' ys→Calls Tryz.prog 70 #[(.agg #[.int .i64 g.blur,.slice a'.pS g.sta.length a'.cs,.slice a'.pM g.mov.length a'.cm,.slice a'.pZ g.zon.length a'.cz]),(.agg #[.int .i64 tk,.int .i64 ls,.slice A' ys.length c']),.string s] W fun e w'=>∃tk1 ls1 A1 c1 zs,e=.returned (.tuple #[(.agg #[.int .i64 tk1,.int .i64 ls1,.slice A1 zs.length c1]),.int .i64 E2])∧fldOf tk1 ls1 zs=X3∧FldR w' w'.heap.size A1 c1 zs∧Below W.heap.size W w'∧Fresh W.heap.size A1 zs from fun W a' A' c' ys h1 h2 h3 h4=>by
     have h5:=Defocused_c a' g tk ls A' c' ys s W hsm (small_map hsmf.1 h3) h1 h2 h4 hss
     rw[hfe ys h3,←hE2,←hX3]at h5
     exact h5)
    have HFD:=zh (fun W (h:FldR W W.heap.size A c xs)=>field_c tk ls A c xs W hll hsmf.1.way HNW.out h)
    have HRDL:=zh (show B=0→∀W,GridR W W.heap.size a g→FldR W W.heap.size A c xs→Calls Tryz.prog 71 #[(.agg #[.int .i64 g.blur,.slice a.pS g.sta.length a.cs,.slice a.pM g.mov.length a.cm,.slice a.pZ g.zon.length a.cz]),(.agg #[.int .i64 tk,.int .i64 ls,.slice A xs.length c])] W fun e w'=>e=.returned (.int .i64 D)∧Below W.heap.size W w' from fun h0 W h1 h2=>by
     have h4:=hB.symm.trans h0
     obtain⟨hok,hu,hof⟩:=fldOk h4
     obtain⟨h5,h6,h7⟩:=hn h4
     rw[hD,show dlN g (fldOf tk ls xs) n=(n:Int) by unfold dlN;rw[if_pos h4]]
     exact rDeadline_c a g tk ls A c xs W hok hu hof (fieldC_tick h4) HNW.out h1 h2 n h5 h6 h7)
    have HRSC:=zh (show B=0→∀W,FldR W W.heap.size A c xs→Calls Tryz.prog 72 #[(.agg #[.int .i64 tk,.int .i64 ls,.slice A xs.length c]),.string s] W fun e w'=>∃AL cL l,e=.returned (.tuple #[.slice AL (List.length l) cL,.int .i64 E2])∧StrsR w' w'.heap.size AL l∧(l≠ []→∀a,AL=some a→W.heap.size≤a.block)∧(E2=0→l=L)∧Below W.heap.size W w' from fun h0 W h2=>by
     have h4:=hB.symm.trans h0
     have he:E2=secE (fldOf tk ls xs) s:=by rw[hE2];unfold defE;rw[if_pos h4]
     refine(rSector_c tk ls A c xs s W hll hss h2).mono ?_
     rintro e w' ⟨v,l,rfl,ho,h5,_,hb⟩
     obtain⟨AL,cL,rfl,_,h6,h8⟩:=ho.sl
     exact⟨AL,cL,l,by rw[he],h6,fun _ a ha=>(h8 a ha).1,fun h7=>by rw[h5 (he.symm.trans h7),hL];unfold secF;rw[if_pos (hE2.symm.trans h7)],hb⟩)
    have HRDF:=zh (show E2=0→∀W,GridR W W.heap.size a g→FldR W W.heap.size A c xs→Calls Tryz.prog 73 #[(.agg #[.int .i64 g.blur,.slice a.pS g.sta.length a.cs,.slice a.pM g.mov.length a.cm,.slice a.pZ g.zon.length a.cz]),(.agg #[.int .i64 tk,.int .i64 ls,.slice A xs.length c]),.string s] W fun e w'=>∃A1 c1 zs,e=.returned (.agg #[.int .i64 tk,.int .i64 ls,.slice A1 zs.length c1])∧fldOf tk ls zs=X3∧FldR w' w'.heap.size A1 c1 zs∧Fresh W.heap.size A1 zs∧Below W.heap.size W w' from fun h0 W h1 h2=>by
     have h3:=hE2.symm.trans h0
     obtain⟨hok,hu,hof⟩:=fldOk (def_fld h3)
     refine(rDefocused_c a g tk ls A c xs s W hok hu hof HNW.out h1 h2).mono ?_
     rintro e w' ⟨A1,c1,zs,rfl,h4,h5,h6,_,hb⟩
     exact⟨A1,c1,zs,rfl,by rw[h4,hX3];unfold defF;rw[if_pos h3],h5.fld,⟨fun _ a ha=>own_block h5 a ha,fun x hx _ a ha=>h6 x hx a ha⟩,hb⟩)
    have hz3:E2≠0→X3=fld0:=fun h=>by rw[hX3];unfold defF;rw[←hE2,if_neg h]
    have hzl:E2≠0→L= []:=fun h=>by rw[hL];unfold secF;rw[←hE2,if_neg h]
    have hbn:B≠0→E2=B∧D=0:=fun h=>⟨by rw[hE2];unfold defE;rw[←hB,if_neg h],by rw[hD];unfold dlN;rw[←hB,if_neg h]⟩
    have hd3:FldB X3:=by rw[hX3];exact def_b g _ s
    have HZ3:=zh hz3
    have HZL:=zh hzl
    have HBN:=zh hbn
    have HD3:=zh hd3
    clear hB hE2 hX3 hL hD hfe hn hz3 hzl hbn hd3
    go_enter Tryz.func10,Tryz.ntmps10
    go_upto_region 1 with fail
    rw[←hW0]
    clear hW0
    go_upto_region 3 with (first|(go_at_call 15;(with_reducible refine Calls.mono (HSH.out _ (HG.out.to (by exact zbl))) ?_);rintro e wA ⟨rfl,hbA⟩;(have hq_wA:Below W0.heap.size W0 wA:=by exact zbl);(have hc_wA:=(bcell hq_wA).1);(have y0_wA:w.heap.size<wA.heap.size:=Nat.lt_of_lt_of_le z0 hq_wA.size);(have y1_wA:w.heap.size+1<wA.heap.size:=Nat.lt_of_lt_of_le z1 hq_wA.size);clear hq_wA)|(go_at_call 37;(with_reducible refine Calls.mono (HSF.out _ (HF.out.to (by exact zbl))) ?_);rintro e wB ⟨rfl,hbB⟩;(have hq_wB:Below W0.heap.size W0 wB:=by exact zbl);(have hc_wB:=(bcell hq_wB).1);(have y0_wB:w.heap.size<wB.heap.size:=Nat.lt_of_lt_of_le z0 hq_wB.size);(have y1_wB:w.heap.size+1<wB.heap.size:=Nat.lt_of_lt_of_le z1 hq_wB.size);clear hq_wB))
    obtain⟨W3,hW3⟩:∃W,W=wB:=⟨_,rfl⟩
    subst hW3
    (have hq_W3:Below W0.heap.size W0 W3:=by exact zbl);(have hc_W3:=(bcell hq_W3).1);(have y0_W3:w.heap.size<W3.heap.size:=Nat.lt_of_lt_of_le z0 hq_W3.size);(have y1_W3:w.heap.size+1<W3.heap.size:=Nat.lt_of_lt_of_le z1 hq_W3.size);(have HQ_W3:=zh hq_W3);clear hq_W3
    go_cut [7,8] (fun s7 s8 wx=>s7=.int .i64 D∧s8=.int .i64 B∧Below W3.heap.size W3 wx)
    case first=>
     go_region_held3 (SHd W3) ((refine Sh.goal ?_;exact zsh)) (first|(go_at_call 18;(with_reducible refine Calls.mono (grid_c a g _ hsm (HG.out.to (HQ_W3.out.trans (Below.mono (by exact zbl) HQ_W3.out.size)))) ?_);rintro e wG3 ⟨aG3,rfl,hgG3,hbG3⟩;(have hc_wG3:∀b o,b<W0.heap.size→wG3.cell? ⟨b,o,none⟩=W0.cell? ⟨b,o,none⟩:=(bcellq (HQ_W3.out.trans (Below.mono (by exact zbl) HQ_W3.out.size))));(have hs_wG3:=hbG3.size);(try simp at hs_wG3))|(go_at_call 39;(with_reducible refine Calls.mono (HFD.out _ (HF.out.to (HQ_W3.out.trans (Below.mono (by exact zbl) HQ_W3.out.size)))) ?_);rintro e wF3 ⟨AF3,cF3,ysF3,rfl,hmF3,hfF3,hzF3,hbF3⟩;(have HMF3:=zh hmF3);(have HFF3:=zh hfF3);clear hmF3 hfF3 hzF3;(have hc_wF3:∀b o,b<W0.heap.size→wF3.cell? ⟨b,o,none⟩=W0.cell? ⟨b,o,none⟩:=(bcellq (HQ_W3.out.trans (Below.mono (by exact zbl) HQ_W3.out.size))));(have hs_wF3:=hbF3.size);(try simp at hs_wF3))|(go_at_call 68;(with_reducible refine Calls.mono (HDL.out _ aG3 AF3 cF3 ysF3 (hgG3.to (by exact zbl)) (HKD.out.to (HQ_W3.out.trans (Below.mono (by exact zbl) HQ_W3.out.size))) HMF3.out (HFF3.out.to (by exact zbl))) ?_);rintro e wH ⟨rfl,hbH⟩))
     all_goals
      go_wp2_with fail
      go_meet
      exact⟨rfl,rfl,by exact zbl⟩
    case rest=>
     obtain⟨rfl,rfl,hb4⟩:=hcut
     obtain⟨W4,rfl⟩:∃W,W=wc:=⟨wc,rfl⟩
     (have hq_W4:Below W0.heap.size W0 W4:=HQ_W3.out.trans (hb4.mono HQ_W3.out.size));(have hc_W4:=(bcell hq_W4).1);(have y0_W4:w.heap.size<W4.heap.size:=Nat.lt_of_lt_of_le z0 hq_W4.size);(have y1_W4:w.heap.size+1<W4.heap.size:=Nat.lt_of_lt_of_le z1 hq_W4.size);(have HQ_W4:=zh hq_W4);clear hq_W4
     clear hb4
     go_upto_region 4 with fail
     go_cut [9,10] (fun s9 s10 wx=>∃AL cL,s9=.slice AL L.length cL∧s10=.int .i64 E2∧StrsR wx wx.heap.size AL L∧Below W4.heap.size W4 wx)
     case first=>
      go_region_held3 (SHd W4) ((refine Sh.goal ?_;exact zsh)) (first|(go_at_call 18;(with_reducible refine Calls.mono (grid_c a g _ hsm (HG.out.to (HQ_W4.out.trans (Below.mono (by exact zbl) HQ_W4.out.size)))) ?_);rintro e wG4 ⟨aG4,rfl,hgG4,hbG4⟩;(have hc_wG4:∀b o,b<W0.heap.size→wG4.cell? ⟨b,o,none⟩=W0.cell? ⟨b,o,none⟩:=(bcellq (HQ_W4.out.trans (Below.mono (by exact zbl) HQ_W4.out.size))));(have hs_wG4:=hbG4.size);(try simp at hs_wG4))|(go_at_call 39;(with_reducible refine Calls.mono (HFD.out _ (HF.out.to (HQ_W4.out.trans (Below.mono (by exact zbl) HQ_W4.out.size)))) ?_);rintro e wF4 ⟨AF4,cF4,ysF4,rfl,hmF4,hfF4,hzF4,hbF4⟩;(have HMF4:=zh hmF4);(have HFF4:=zh hfF4);clear hmF4 hfF4 hzF4;(have hc_wF4:∀b o,b<W0.heap.size→wF4.cell? ⟨b,o,none⟩=W0.cell? ⟨b,o,none⟩:=(bcellq (HQ_W4.out.trans (Below.mono (by exact zbl) HQ_W4.out.size))));(have hs_wF4:=hbF4.size);(try simp at hs_wF4))|(go_at_call 69;(with_reducible refine Calls.mono (HSC.out _ aG4 AF4 cF4 ysF4 (hgG4.to (by exact zbl)) (HKD.out.to (HQ_W4.out.trans (Below.mono (by exact zbl) HQ_W4.out.size))) HMF4.out (HFF4.out.to (by exact zbl))) ?_);rintro e wH ⟨AL,cL,rfl,hsl,hbH⟩;(have HSL:=zh hsl);clear hsl))
      all_goals
       go_wp2_with fail
       go_meet
       exact⟨_,_,rfl,rfl,HSL.out,by exact zbl⟩
     case rest=>
      obtain⟨AL,cL,rfl,rfl,hsl,hb5⟩:=hcut
      obtain⟨W5,rfl⟩:∃W,W=wc:=⟨wc,rfl⟩
      have HSL:=zh hsl
      (have hq_W5:Below W0.heap.size W0 W5:=HQ_W4.out.trans (hb5.mono HQ_W4.out.size));(have hc_W5:=(bcell hq_W5).1);(have y0_W5:w.heap.size<W5.heap.size:=Nat.lt_of_lt_of_le z0 hq_W5.size);(have y1_W5:w.heap.size+1<W5.heap.size:=Nat.lt_of_lt_of_le z1 hq_W5.size);(have HQ_W5:=zh hq_W5);clear hq_W5
      clear hsl hb5
      go_upto_region 5 with fail
      go_cut [11,12] (fun s11 s12 wx=>∃b:Nat,s11=.pointer (some ⟨b,0,none⟩)∧s12=.int .i64 E2∧FBox 72 W5 X3 b wx)
      case first=>
       go_region_held3 (SHd W5) ((refine Sh.goal ?_;exact zsh)) (first|(go_at_call 18;(with_reducible refine Calls.mono (grid_c a g _ hsm (HG.out.to (HQ_W5.out.trans (Below.mono (by exact zbl) HQ_W5.out.size)))) ?_);rintro e wG5 ⟨aG5,rfl,hgG5,hb⟩;(obtain⟨hcc,hff⟩:=bcell hb;have hzz:=hb.size;(try simp at hzz);(try have z1:W5.heap.size+1<wG5.heap.size:=by omega);(try have z2:W5.heap.size+2<wG5.heap.size:=by omega);(try have z3:W5.heap.size+3<wG5.heap.size:=by omega);(try have z4:W5.heap.size+4<wG5.heap.size:=by omega);(try have z5:W5.heap.size+5<wG5.heap.size:=by omega);(try have z0:W5.heap.size<wG5.heap.size:=by omega);(try(have zy1:=Nat.lt_of_succ_le hzz;(try(have zy2:=Nat.lt_of_succ_lt zy1;(try have zy3:=Nat.lt_of_succ_lt zy2))))));(have hbG5:=hb);clear hb;(have hc_wG5:∀b o,b<W0.heap.size→wG5.cell? ⟨b,o,none⟩=W0.cell? ⟨b,o,none⟩:=(bcellq (HQ_W5.out.trans (Below.mono (by exact zbl) HQ_W5.out.size))));(have hs_wG5:=hbG5.size);(try simp at hs_wG5))|(go_at_call 39;(with_reducible refine Calls.mono (HFD.out _ (HF.out.to (HQ_W5.out.trans (Below.mono (by exact zbl) HQ_W5.out.size)))) ?_);rintro e wF5 ⟨AF5,cF5,ysF5,rfl,hmF5,hfF5,hzF5,hb⟩;(have HMF5:=zh hmF5);(have HFF5:=zh hfF5);clear hmF5 hfF5 hzF5;(obtain⟨hcc,hff⟩:=bcell hb;have hzz:=hb.size;(try simp at hzz);(try have z1:W5.heap.size+1<wF5.heap.size:=by omega);(try have z2:W5.heap.size+2<wF5.heap.size:=by omega);(try have z3:W5.heap.size+3<wF5.heap.size:=by omega);(try have z4:W5.heap.size+4<wF5.heap.size:=by omega);(try have z5:W5.heap.size+5<wF5.heap.size:=by omega);(try have zm0:wG5.heap.size<wF5.heap.size:=by omega);(try have z0:W5.heap.size<wF5.heap.size:=by omega);(try(have zy1:=Nat.lt_of_succ_le hzz;(try(have zy2:=Nat.lt_of_succ_lt zy1;(try have zy3:=Nat.lt_of_succ_lt zy2))))));(have hbF5:=hb);clear hb;(have hc_wF5:∀b o,b<W0.heap.size→wF5.cell? ⟨b,o,none⟩=W0.cell? ⟨b,o,none⟩:=(bcellq (HQ_W5.out.trans (Below.mono (by exact zbl) HQ_W5.out.size))));(have hs_wF5:=hbF5.size);(try simp at hs_wF5))|(go_at_call 70;(with_reducible refine Calls.mono (HDF.out _ aG5 AF5 cF5 ysF5 (hgG5.to (by exact zbl)) (HKD.out.to (HQ_W5.out.trans (Below.mono (by exact zbl) HQ_W5.out.size))) HMF5.out (HFF5.out.to (by exact zbl))) ?_);rintro e wH ⟨tk5,ls5,A5,c5,zs5,rfl,hx5,hf5,hb,hfr5⟩;(have HXZ:=zh hx5);(have HFZ:=zh hf5);(have HRZ:=zh hfr5);clear hx5 hf5 hfr5;(obtain⟨hcc,hff⟩:=bcell hb;have hzz:=hb.size;(try simp at hzz);(try have z1:W5.heap.size+1<wH.heap.size:=by omega);(try have z2:W5.heap.size+2<wH.heap.size:=by omega);(try have z3:W5.heap.size+3<wH.heap.size:=by omega);(try have z4:W5.heap.size+4<wH.heap.size:=by omega);(try have z5:W5.heap.size+5<wH.heap.size:=by omega);(try have zm0:wG5.heap.size<wH.heap.size:=by omega);(try have zm1:wF5.heap.size<wH.heap.size:=by omega);(try have z0:W5.heap.size<wH.heap.size:=by omega);(try(have zy1:=Nat.lt_of_succ_le hzz;(try(have zy2:=Nat.lt_of_succ_lt zy1;(try have zy3:=Nat.lt_of_succ_lt zy2))))));(have hbH:=hb);clear hb))
       all_goals
        go_wp2_with fail
        go_meet
       ·exact⟨_,rfl,rfl,fBox1 (by exact zbl) HXZ.out HFZ.out⟩
       ·exact⟨_,rfl,rfl,fBox2 (by exact zbl) hbH (show Below W5.heap.size W5 wF5 by exact zbl).size (heap_alloc_new _ _) HXZ.out HFZ.out HRZ.out⟩
       ·exact⟨_,rfl,rfl,fBox2 (by exact zbl) hbH (show Below W5.heap.size W5 wG5 by exact zbl).size ((hbF5.block wG5.heap.size (by first|assumption|omega|(simp;done)|(simp;omega))).trans (heap_alloc_new _ _)) HXZ.out HFZ.out HRZ.out⟩
       ·exact⟨_,rfl,rfl,fBox2 (by exact zbl) hbH (Nat.le_refl _) ((hbF5.block W5.heap.size (by first|assumption|omega|(simp;done)|(simp;omega))).trans ((hbG5.block W5.heap.size (by first|assumption|omega|(simp;done)|(simp;omega))).trans (heap_alloc_new _ _))) HXZ.out HFZ.out HRZ.out⟩
      case rest=>
       obtain⟨b5,rfl,rfl,hx5⟩:=hcut
       obtain⟨W6,rfl⟩:∃W,W=wc:=⟨wc,rfl⟩
       (have hq_W6:Below W0.heap.size W0 W6:=HQ_W5.out.trans (hx5.low.mono HQ_W5.out.size));(have hc_W6:=(bcell hq_W6).1);(have y0_W6:w.heap.size<W6.heap.size:=Nat.lt_of_lt_of_le z0 hq_W6.size);(have y1_W6:w.heap.size+1<W6.heap.size:=Nat.lt_of_lt_of_le z1 hq_W6.size);(have HQ_W6:=zh hq_W6);clear hq_W6
       have HX6:=zh hx5
       have HSL6:=zh (HSL.out.to hx5.low)
       clear hx5
       go_upto_region 7 with (go_at_call 41;(with_reducible refine Calls.mono (HCF.out _ (HG.out.to HQ_W6.out) (HF.out.to HQ_W6.out)) ?_);rintro e wJ ⟨rfl,hbJ⟩)
       have HX8:=zh (HX6.out.next hbJ)
       have HSL8:=zh (HSL6.out.to hbJ)
       (have hq_wJ:Below W0.heap.size W0 wJ:=HQ_W6.out.trans (hbJ.mono HQ_W6.out.size));(have hc_wJ:=(bcell hq_wJ).1);(have y0_wJ:w.heap.size<wJ.heap.size:=Nat.lt_of_lt_of_le z0 hq_wJ.size);(have y1_wJ:w.heap.size+1<wJ.heap.size:=Nat.lt_of_lt_of_le z1 hq_wJ.size);(have HQ_wJ:=zh hq_wJ);clear hq_wJ
       clear hbJ HX6 HSL6
       go_upto_region 10 with fail
       obtain⟨W9,hW9⟩:∃W,W=wJ.alloc (.cells #[.int .i64 0,.int .i64 0,.slice none 0 0] 66):=⟨_,rfl⟩
       rw[←hW9]
       have hb9:Below wJ.heap.size wJ W9:=by rw[hW9];(repeat first|(with_reducible first|assumption|exact Below.refl _ _|refine Bl.drew ?_|refine Bl.drewN ?_ _|refine Bl.alloc ?_ _|refine Bl.set ?_ _ ?_)|(with_reducible apply Bl.step';(focus(with_reducible assumption)))|omega|(focus(simp;done))|(focus(simp;omega)))
       have k9:W9.heap[wJ.heap.size]? =some (.cells #[.int .i64 0,.int .i64 0,.slice none 0 0] 66 (0,0)):=by rw[hW9];exact heap_alloc_new _ _
       have y9:=blk_lt k9
       have K9:=zh k9
       have HB9:=zh hb9
       (have hq_W9:Below W0.heap.size W0 W9:=HQ_wJ.out.trans (HB9.out.mono HQ_wJ.out.size));(have hc_W9:=(bcell hq_W9).1);(have y0_W9:w.heap.size<W9.heap.size:=Nat.lt_of_lt_of_le z0 hq_W9.size);(have y1_W9:w.heap.size+1<W9.heap.size:=Nat.lt_of_lt_of_le z1 hq_W9.size);(have HQ_W9:=zh hq_W9);clear hq_W9
       clear hW9 hb9 k9
       go_upto_if 63 with fail
       go_cut [14,15,16] (fun s14 s15 s16 wx=>∃AN cN l,s14=.int .i64 E2∧s15=.int .i64 D∧s16=.slice AN (List.length l) cN∧StrsR wx wx.heap.size AN l∧(l≠ []→∀a,AN=some a→W9.heap.size≤a.block)∧(E2=0→l=L)∧Below W9.heap.size W9 wx)
       case first=>
        cases hb0:(B==0)
        case false=>
         have hne:B≠0:=by simpa using hb0
         have HNE:=zh (HBN.out hne)
         have HN0:=zh hne
         clear hne
         go_wp2_with fail
         go_meet
         exact⟨none,0,[],by rw[HNE.out.1],by rw[HNE.out.2],rfl,StrsR.nil0 _ _ _,fun h=>absurd rfl h,fun h=>absurd (HNE.out.1.symm.trans h) HN0.out,Below.refl _ _⟩
        case true=>
         have HEQ:=zh (show B=0 by simpa using hb0)
         go_wp2_with (first|(go_at_call 71;(with_reducible refine Calls.mono (HRDL.out HEQ.out _ (HG.out.to HQ_W9.out) (HF.out.to HQ_W9.out)) ?_);rintro e w10 ⟨rfl,hb10⟩;(have hq_w10:Below W0.heap.size W0 w10:=HQ_W9.out.trans (hb10.mono HQ_W9.out.size));(have hc_w10:=(bcell hq_w10).1);(have y0_w10:w.heap.size<w10.heap.size:=Nat.lt_of_lt_of_le z0 hq_w10.size);(have y1_w10:w.heap.size+1<w10.heap.size:=Nat.lt_of_lt_of_le z1 hq_w10.size);(have HQ_w10:=zh hq_w10);clear hq_w10)|(go_at_call 72;(with_reducible refine Calls.mono (HRSC.out HEQ.out _ (HF.out.to HQ_w10.out)) ?_);rintro e w11 ⟨AN,cN,l,rfl,hsr,hnr,hlr,hb11⟩;(have HSR:=zh hsr);(have HLR:=zh hlr);(have HNR:=zh hnr);clear hsr hlr hnr))
         go_meet
         exact⟨_,_,_,rfl,rfl,rfl,HSR.out,fun h a ha=>Nat.le_trans hb10.size (HNR.out h a ha),HLR.out,by exact zbl⟩
       case rest=>
        obtain⟨AN,cN,l,rfl,rfl,rfl,hsn,hnn,hln,hbn⟩:=hcut
        obtain⟨Wn,rfl⟩:∃W,W=wc:=⟨wc,rfl⟩
        have HSN:=zh hsn
        have HLN:=zh hln
        have HSNB:=zh (show l≠ []→∀a,AN=some a→a.block≠wJ.heap.size from fun h a ha=>by have:=hnn h a ha;omega)
        have k10:=(hbn.block wJ.heap.size y9).trans K9.out
        have K10:=zh k10
        have HBJ:=zh (HB9.out.trans (hbn.mono HB9.out.size))
        have y10:=blk_lt k10
        (have hq_Wn:Below W0.heap.size W0 Wn:=HQ_wJ.out.trans (HBJ.out.mono HQ_wJ.out.size));(have hc_Wn:=(bcell hq_Wn).1);(have y0_Wn:w.heap.size<Wn.heap.size:=Nat.lt_of_lt_of_le z0 hq_Wn.size);(have y1_Wn:w.heap.size+1<Wn.heap.size:=Nat.lt_of_lt_of_le z1 hq_Wn.size);(have HQ_Wn:=zh hq_Wn);clear hq_Wn
        (obtain⟨r0,rf0,r1,rf1,r2,rf2⟩:=cv3 k10)
        clear hsn hln hnn hbn k10
        go_upto_if 74 with fail
        go_cut [] (fun wx=>FBox 66 wJ X3 wJ.heap.size wx∧StrsR wx wx.heap.size AN l)
        case first=>
         cases he0:(E2==0)
         case false=>
          have HNE:=zh (show E2≠0 by simpa using he0)
          go_wp2_with fail
          go_meet
          exact⟨⟨⟨0,0,none,0,[],K10.out,(HZ3.out HNE.out).symm,FldR.nil_ _ _⟩,Nat.le_refl _,HBJ.out⟩,HSN.out⟩
         case true=>
          have HEQ:=zh (show E2=0 by simpa using he0)
          go_wp2_with (go_at_call 73;(with_reducible refine Calls.mono (HRDF.out HEQ.out _ (HG.out.to HQ_Wn.out) (HF.out.to HQ_Wn.out)) ?_);rintro e w11 ⟨A11,c11,ys11,rfl,hx11,hf11,hr11,hb11⟩;(have HX11:=zh hx11);(have HF11:=zh hf11);(have HR11:=zh hr11);clear hx11 hf11 hr11;(have k11:=(hb11.block wJ.heap.size y10).trans K10.out);clear r0 r1 r2 rf0 rf1 rf2;(obtain⟨r0,rf0,r1,rf1,r2,rf2⟩:=cv3 k11);(have y11:=blk_lt k11);clear k11)
          go_meet
          exact⟨fBox2 HBJ.out hb11 (Nat.le_refl _) K10.out HX11.out HF11.out HR11.out,strs_set3 (HSN.out.to hb11) HSNB.out⟩
        case rest=>
         obtain⟨hx9,hsn⟩:=hcut
         obtain⟨Wz,rfl⟩:∃W,W=wc:=⟨wc,rfl⟩
         have hlw:=hx9.low
         obtain⟨t5,l5,A5,c5,z5s,k5,e5,f5⟩:=(HX8.out.next hlw).ex
         obtain⟨t7,l7,A7,c7,z7s,k7,e7,f7⟩:=hx9.ex
         have HAN1:=zh (show ∀W,Below Wz.heap.size Wz W→Calls Tryz.prog 45 #[(.agg #[.int .i64 t5,.int .i64 l5,.slice A5 z5s.length c5]),.int .i64 E2,.int .i64 E2,(.agg #[.int .i64 t7,.int .i64 l7,.slice A7 z7s.length c7])] W fun e w'=>e=.returned (.bool true)∧Below W.heap.size W w' from fun W hb=>after_f X3 _ _ _ _ _ _ _ _ _ _ _ W e5 e7 HZ3.out HD3.out (f5.to hb) (f7.to hb))
         have hwd:L=if E2=0 then l else []:=by
          by_cases h:E2=0
          ·rw[if_pos h,HLN.out h]
          ·rw[if_neg h,HZL.out h]
         have HWD:=zh (show ∀W,Below Wz.heap.size Wz W→Calls Tryz.prog 52 #[.slice AL L.length cL,.int .i64 E2,.int .i64 E2,.slice AN l.length cN] W fun e w'=>e=.returned (.bool true)∧Below W.heap.size W w' from fun W hb=>words_t AL AN L.length l.length cL cN E2 E2 L l W rfl rfl hlL ((HSL8.out.to hlw).to hb) (hsn.to hb) rfl hwd)
         have hnm:D=if B=0 then D else 0:=by
          by_cases h:B=0
          ·rw[if_pos h]
          ·rw[if_neg h,(HBN.out h).2]
         have HNM:=zh (fun W=>number_t D B B D W rfl hnm)
         have y5:=blk_lt k5
         have y7:=blk_lt k7
         (have hq_Wz:Below W0.heap.size W0 Wz:=HQ_wJ.out.trans (hlw.mono HQ_wJ.out.size));(have hc_Wz:=(bcell hq_Wz).1);(have y0_Wz:w.heap.size<Wz.heap.size:=Nat.lt_of_lt_of_le z0 hq_Wz.size);(have y1_Wz:w.heap.size+1<Wz.heap.size:=Nat.lt_of_lt_of_le z1 hq_Wz.size);(have HQ_Wz:=zh hq_Wz);clear hq_Wz
         (obtain⟨u0,uf0,u1,uf1,u2,uf2⟩:=cv3 k5)
         (obtain⟨v0,vf0,v1,vf1,v2,vf2⟩:=cv3 k7)
         clear hsn hx9 hlw k5 k7 e5 e7 f5 f7 uf0 uf1 uf2 vf0 vf1 vf2 hwd hnm
         go_wp2_with (first|(go_at_call 28;(with_reducible refine Calls.mono (HNM.out _) ?_);rintro e wP ⟨rfl,rfl⟩)|(go_at_call 45;(with_reducible refine Calls.mono (HAN1.out _ (by exact zbl)) ?_);rintro e wQ ⟨rfl,hbQ⟩)|(go_at_call 52;(with_reducible refine Calls.mono (HWD.out _ (by exact zbl)) ?_);rintro e wR ⟨rfl,hbR⟩;(have hcR:=(bcell hbR).1);(have hsR:=hbR.size);(have y5R:b5<wR.heap.size:=Nat.lt_of_lt_of_le y5 hsR);(have y7R:wJ.heap.size<wR.heap.size:=Nat.lt_of_lt_of_le y7 hsR))|(go_at_call 16;(with_reducible refine Calls.mono (awake_c _ (HKD.out.to (HQ_Wz.out.trans (Below.mono (by exact zbl) HQ_Wz.out.size))) (HPW.out.to (HQ_Wz.out.trans (Below.mono (by exact zbl) HQ_Wz.out.size)))) ?_);rintro e wK ⟨rfl,hbK⟩))
         go_ret
         exact⟨rfl,HB0.out.trans ((HQ_Wz.out.trans (Below.mono (by exact zbl) HQ_Wz.out.size)).mono HB0.out.size)⟩
end Go.Proofs.YtehnikhicnnnhaaGreatDoor
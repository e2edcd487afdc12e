/- BeamSectors answers true. -/
import Derived.Test.YtehnikhicnnnhaaGreatDoorPa34
import Derived.Test.YtehnikhicnnnhaaGreatDoorPa39
import Derived.Test.YtehnikhicnnnhaaGreatDoorPa53
import Derived.Test.YtehnikhicnnnhaaGreatDoorPa67
namespace Go.Proofs.YtehnikhicnnnhaaGreatDoor
open Go.RowKit
theorem bcellq{w w':World}(hb:Below w.heap.size w w'):∀b o,b<w.heap.size→w'.cell? ⟨b,o,none⟩=w.cell? ⟨b,o,none⟩:=fun b o h=>hb.cell (p:=⟨b,o,none⟩) h
theorem joE_bad{g:Grd}{f:Fld}{m:Mir}{B:Int}(hB:B=fieldC g f)(h:B≠0):joE g f m=B:=by
 have h0:joE0 g f m=B:=by unfold joE0 firstErr;rw[←hB,if_neg h]
 unfold joE;rw[h0,if_neg h]
theorem jo_b(g:Grd)(f:Fld)(m:Mir):FldB (joF g f m):=by
 unfold joF
 split
 ·rename_i h
  unfold joE at h
  split at h
  ·split at h
   ·exact FldB.ok (fieldC_fld h)
   ·cases h
  ·rename_i h0;exact absurd h h0
 ·exact FldB.zero
theorem tak_b(g:Grd)(f:Fld)(n:ByteArray):FldB (takF g f n):=by
 unfold takF
 split
 ·rename_i h
  unfold takE at h
  split at h
  ·rename_i h0
   have hf:=fieldC_fld h0
   refine⟨?_,fun m hm=>?_⟩
   ·have h1:=hf.n
    show(f.mir.eraseIdx _).length≤1000
    have:=List.length_eraseIdx_le f.mir (findG f n).toNat
    omega
   ·have h1:=(hf.mir m (List.mem_of_mem_eraseIdx hm)).len
    omega
  ·rename_i h0;exact absurd h h0
 ·exact FldB.zero
theorem short_mir{m:Mir}(h:shortM m=true):m.name.size≤100000∧m.sec.size≤100000∧m.way.length≤1000:=by
 unfold shortM at h
 simp only[Bool.and_eq_true,Bool.or_eq_true,decide_eq_true_eq,beq_iff_eq]at h
 omega
set_option maxRecDepth 100000 in
set_option maxHeartbeats 16000000 in
theorem BeamSectors_c(a:GA)(g:Grd)(tk ls:Int)(A:Option Addr)(c:Nat)(xs:List MA)(m:Mir)(mA:Option Addr)(mc:Nat)(nm:ByteArray)(w:World)(hr:GridR w w.heap.size a g)(hf:FldR w w.heap.size A c xs)(hm:MirR w w.heap.size m mA mc)(hmA:mA=none→mc=0)(hk:KindsAt w)(hp:PowAt w):
 Calls Tryz.prog 12 #[(.agg #[.int .i64 g.blur,.slice a.pS g.sta.length a.cs,.slice a.pM g.mov.length a.cm,.slice a.pZ g.zon.length a.cz]),(.agg #[.int .i64 tk,.int .i64 ls,.slice A xs.length c]),(.agg #[.string m.name,.string m.sec,.int .i64 m.loc,.slice mA m.way.length mc,.int .i64 m.left,.int .i64 m.heard,.string nm])] w fun e w'=>e=.returned (.bool true)∧Below w.heap.size w w':=by
 obtain⟨V0,hV0⟩:∃V0,V0=((w.alloc (.cells #[.int .i64 g.blur,.slice a.pS g.sta.length a.cs,.slice a.pM g.mov.length a.cm,.slice a.pZ g.zon.length a.cz] 26)).alloc (.cells #[.int .i64 tk,.int .i64 ls,.slice A xs.length c] 66)).alloc (.cells #[.string m.name,.string m.sec,.int .i64 m.loc,.slice mA m.way.length mc,.int .i64 m.left,.int .i64 m.heard,.string nm] 137):=⟨_,rfl⟩
 have k0:V0.heap[w.heap.size]? =some (.cells #[.int .i64 g.blur,.slice a.pS g.sta.length a.cs,.slice a.pM g.mov.length a.cm,.slice a.pZ g.zon.length a.cz] 26 (0,0)):=by rw[hV0];exact heap_fst _ _ _ _
 have k1:V0.heap[w.heap.size+1]? =some (.cells #[.int .i64 tk,.int .i64 ls,.slice A xs.length c] 66 (0,0)):=by rw[hV0];exact heap_mid _ _ _ _
 have k2:V0.heap[w.heap.size+1+1]? =some (.cells #[.string m.name,.string m.sec,.int .i64 m.loc,.slice mA m.way.length mc,.int .i64 m.left,.int .i64 m.heard,.string nm] 137 (0,0)):=by rw[hV0];exact heap_lst _ _ _ _
 have hB0:Below w.heap.size w V0:=by rw[hV0];(repeat first|(with_reducible first|assumption|exact Below.refl _ _|refine Bl.drew ?_|refine Bl.drewN ?_ _|refine Bl.alloc ?_ _|refine Bl.set ?_ _ ?_)|(with_reducible apply Bl.step';(focus(with_reducible assumption)))|omega|(focus(simp;done))|(focus(simp;omega)))
 have HG:Hid (GridR V0 V0.heap.size a g):=zh (hr.to hB0)
 have HF:=zh (FldR.to hf hB0)
 have HM:=zh (show MirR V0 V0.heap.size m mA mc from⟨hm.way.to hB0,hm.cap⟩)
 have HKD:Hid (KindsAt V0):=zh (hk.to hB0)
 have HPW:Hid (PowAt V0):=zh (hp.to hB0)
 have HB0:=zh hB0
 have K0:=zh k0
 have K1:=zh k1
 have K2:=zh k2
 have z0:=bk_lt k0
 have z1:=bk_lt k1
 have z2:=bk_lt k2
 clear hr hk hp hf hm hB0
 (obtain⟨d0,d1,d2,d3⟩:=cg4 k0)
 (obtain⟨q0,qf0,q1,qf1,q2,qf2⟩:=cv3 k1)
 (have n0:V0.cell? ⟨w.heap.size+1+1,0,none⟩=some (.string m.name):=by rw[cell_of_row V0 _ 0 _ _ _ k2];rfl);(have nf0:V0.frozen? ⟨w.heap.size+1+1,0,none⟩=false:=frozen_of_row V0 _ 0 _ _ k2);(have n1:V0.cell? ⟨w.heap.size+1+1,1,none⟩=some (.string m.sec):=by rw[cell_of_row V0 _ 1 _ _ _ k2];rfl);(have nf1:V0.frozen? ⟨w.heap.size+1+1,1,none⟩=false:=frozen_of_row V0 _ 1 _ _ k2);(have n2:V0.cell? ⟨w.heap.size+1+1,2,none⟩=some (.int .i64 m.loc):=by rw[cell_of_row V0 _ 2 _ _ _ k2];rfl);(have nf2:V0.frozen? ⟨w.heap.size+1+1,2,none⟩=false:=frozen_of_row V0 _ 2 _ _ k2);(have n3:V0.cell? ⟨w.heap.size+1+1,3,none⟩=some (.slice mA m.way.length mc):=by rw[cell_of_row V0 _ 3 _ _ _ k2];rfl);(have nf3:V0.frozen? ⟨w.heap.size+1+1,3,none⟩=false:=frozen_of_row V0 _ 3 _ _ k2);(have n4:V0.cell? ⟨w.heap.size+1+1,4,none⟩=some (.int .i64 m.left):=by rw[cell_of_row V0 _ 4 _ _ _ k2];rfl);(have nf4:V0.frozen? ⟨w.heap.size+1+1,4,none⟩=false:=frozen_of_row V0 _ 4 _ _ k2);(have n5:V0.cell? ⟨w.heap.size+1+1,5,none⟩=some (.int .i64 m.heard):=by rw[cell_of_row V0 _ 5 _ _ _ k2];rfl);(have nf5:V0.frozen? ⟨w.heap.size+1+1,5,none⟩=false:=frozen_of_row V0 _ 5 _ _ k2);(have n6:V0.cell? ⟨w.heap.size+1+1,6,none⟩=some (.string nm):=by rw[cell_of_row V0 _ 6 _ _ _ k2];rfl);(have nf6:V0.frozen? ⟨w.heap.size+1+1,6,none⟩=false:=frozen_of_row V0 _ 6 _ _ k2)
 clear k0 k1 k2 qf0 qf1 qf2 nf0 nf1 nf2 nf3 nf4 nf5 nf6
 have hSH:=fun W (h:GridR W W.heap.size a g)=>rShort_c a g W h
 have hSF:=fun W (h:FldR W W.heap.size A c xs)=>rShortF_c tk ls A c xs W h
 have hSM:=fun W=>rShortM_c m mA mc W
 cases hsh:shortG g
 ·rw[hsh]at hSH
  have HSH:=zh hSH
  clear hSH hsh hSF hSM
  go_enter Tryz.func12,Tryz.ntmps12
  go_upto_region 1 with fail
  rw[←hV0]
  clear hV0
  go_wp2_with (first|(go_at_call 15;(with_reducible refine Calls.mono (HSH.out _ (HG.out.to (by exact zbl))) ?_);rintro e wA ⟨rfl,hbA⟩;(have hq_wA:Below V0.heap.size V0 wA:=by exact zbl);(have hc_wA:=(bcell hq_wA).1);(have y0_wA:w.heap.size<wA.heap.size:=Nat.lt_of_lt_of_le z0 hq_wA.size);(have y1_wA:w.heap.size+1<wA.heap.size:=Nat.lt_of_lt_of_le z1 hq_wA.size);(have y2_wA:w.heap.size+1+1<wA.heap.size:=Nat.lt_of_lt_of_le z2 hq_wA.size);clear hq_wA)|(go_at_call 16;(with_reducible refine Calls.mono (awake_c _ (HKD.out.to (by exact zbl)) (HPW.out.to (by exact zbl))) ?_);rintro e wK ⟨rfl,hbK⟩))
  go_ret
  exact⟨rfl,HB0.out.trans ((show Below V0.heap.size V0 _ by exact zbl).mono HB0.out.size)⟩
 ·rw[hsh]at hSH
  have HSH:=zh hSH
  have hsm:=short_small hsh
  clear hSH hsh
  cases hsf:shortF xs
  ·rw[hsf]at hSF
   have HSF:=zh hSF
   clear hSF hsf hSM
   go_enter Tryz.func12,Tryz.ntmps12
   go_upto_region 1 with fail
   rw[←hV0]
   clear hV0
   go_wp2_with (first|(go_at_call 15;(with_reducible refine Calls.mono (HSH.out _ (HG.out.to (by exact zbl))) ?_);rintro e wA ⟨rfl,hbA⟩;(have hq_wA:Below V0.heap.size V0 wA:=by exact zbl);(have hc_wA:=(bcell hq_wA).1);(have y0_wA:w.heap.size<wA.heap.size:=Nat.lt_of_lt_of_le z0 hq_wA.size);(have y1_wA:w.heap.size+1<wA.heap.size:=Nat.lt_of_lt_of_le z1 hq_wA.size);(have y2_wA:w.heap.size+1+1<wA.heap.size:=Nat.lt_of_lt_of_le z2 hq_wA.size);clear hq_wA)|(go_at_call 37;(with_reducible refine Calls.mono (HSF.out _ (HF.out.to (by exact zbl))) ?_);rintro e wB ⟨rfl,hbB⟩;(have hq_wB:Below V0.heap.size V0 wB:=by exact zbl);(have hc_wB:=(bcell hq_wB).1);(have y0_wB:w.heap.size<wB.heap.size:=Nat.lt_of_lt_of_le z0 hq_wB.size);(have y1_wB:w.heap.size+1<wB.heap.size:=Nat.lt_of_lt_of_le z1 hq_wB.size);(have y2_wB:w.heap.size+1+1<wB.heap.size:=Nat.lt_of_lt_of_le z2 hq_wB.size);clear hq_wB)|(go_at_call 16;(with_reducible refine Calls.mono (awake_c _ (HKD.out.to (by exact zbl)) (HPW.out.to (by exact zbl))) ?_);rintro e wK ⟨rfl,hbK⟩))
   go_ret
   exact⟨rfl,HB0.out.trans ((show Below V0.heap.size V0 _ by exact zbl).mono HB0.out.size)⟩
  ·rw[hsf]at hSF
   have HSF:=zh hSF
   have hsmf:=short_fld hsf
   clear hSF hsf
   cases hsn:shortM m
   ·rw[hsn]at hSM
    have HSMM:=zh hSM
    clear hSM hsn
    go_enter Tryz.func12,Tryz.ntmps12
    go_upto_region 1 with fail
    rw[←hV0]
    clear hV0
    go_wp2_with (first|(go_at_call 15;(with_reducible refine Calls.mono (HSH.out _ (HG.out.to (by exact zbl))) ?_);rintro e wA ⟨rfl,hbA⟩;(have hq_wA:Below V0.heap.size V0 wA:=by exact zbl);(have hc_wA:=(bcell hq_wA).1);(have y0_wA:w.heap.size<wA.heap.size:=Nat.lt_of_lt_of_le z0 hq_wA.size);(have y1_wA:w.heap.size+1<wA.heap.size:=Nat.lt_of_lt_of_le z1 hq_wA.size);(have y2_wA:w.heap.size+1+1<wA.heap.size:=Nat.lt_of_lt_of_le z2 hq_wA.size);clear hq_wA)|(go_at_call 37;(with_reducible refine Calls.mono (HSF.out _ (HF.out.to (by exact zbl))) ?_);rintro e wB ⟨rfl,hbB⟩;(have hq_wB:Below V0.heap.size V0 wB:=by exact zbl);(have hc_wB:=(bcell hq_wB).1);(have y0_wB:w.heap.size<wB.heap.size:=Nat.lt_of_lt_of_le z0 hq_wB.size);(have y1_wB:w.heap.size+1<wB.heap.size:=Nat.lt_of_lt_of_le z1 hq_wB.size);(have y2_wB:w.heap.size+1+1<wB.heap.size:=Nat.lt_of_lt_of_le z2 hq_wB.size);clear hq_wB)|(go_at_call 77;(with_reducible refine Calls.mono (HSMM.out _) ?_);rintro e wC ⟨rfl,hbC⟩;(have hq_wC:Below V0.heap.size V0 wC:=by exact zbl);(have hc_wC:=(bcell hq_wC).1);(have y0_wC:w.heap.size<wC.heap.size:=Nat.lt_of_lt_of_le z0 hq_wC.size);(have y1_wC:w.heap.size+1<wC.heap.size:=Nat.lt_of_lt_of_le z1 hq_wC.size);(have y2_wC:w.heap.size+1+1<wC.heap.size:=Nat.lt_of_lt_of_le z2 hq_wC.size);clear hq_wC)|(go_at_call 16;(with_reducible refine Calls.mono (awake_c _ (HKD.out.to (by exact zbl)) (HPW.out.to (by exact zbl))) ?_);rintro e wK ⟨rfl,hbK⟩))
    go_ret
    exact⟨rfl,HB0.out.trans ((show Below V0.heap.size V0 _ by exact zbl).mono HB0.out.size)⟩
   ·rw[hsn]at hSM
    have HSMM:=zh hSM
    have hsmm:=short_mir hsn
    clear hSM hsn
    cases hn1:decide ((40:Int)<(nm.size:Int))
    case true=>
     go_enter Tryz.func12,Tryz.ntmps12
     go_upto_region 1 with fail
     rw[←hV0]
     clear hV0
     go_wp2_with (first|(go_at_call 15;(with_reducible refine Calls.mono (HSH.out _ (HG.out.to (by exact zbl))) ?_);rintro e wA ⟨rfl,hbA⟩;(have hq_wA:Below V0.heap.size V0 wA:=by exact zbl);(have hc_wA:=(bcell hq_wA).1);(have y0_wA:w.heap.size<wA.heap.size:=Nat.lt_of_lt_of_le z0 hq_wA.size);(have y1_wA:w.heap.size+1<wA.heap.size:=Nat.lt_of_lt_of_le z1 hq_wA.size);(have y2_wA:w.heap.size+1+1<wA.heap.size:=Nat.lt_of_lt_of_le z2 hq_wA.size);clear hq_wA)|(go_at_call 37;(with_reducible refine Calls.mono (HSF.out _ (HF.out.to (by exact zbl))) ?_);rintro e wB ⟨rfl,hbB⟩;(have hq_wB:Below V0.heap.size V0 wB:=by exact zbl);(have hc_wB:=(bcell hq_wB).1);(have y0_wB:w.heap.size<wB.heap.size:=Nat.lt_of_lt_of_le z0 hq_wB.size);(have y1_wB:w.heap.size+1<wB.heap.size:=Nat.lt_of_lt_of_le z1 hq_wB.size);(have y2_wB:w.heap.size+1+1<wB.heap.size:=Nat.lt_of_lt_of_le z2 hq_wB.size);clear hq_wB)|(go_at_call 77;(with_reducible refine Calls.mono (HSMM.out _) ?_);rintro e wC ⟨rfl,hbC⟩;(have hq_wC:Below V0.heap.size V0 wC:=by exact zbl);(have hc_wC:=(bcell hq_wC).1);(have y0_wC:w.heap.size<wC.heap.size:=Nat.lt_of_lt_of_le z0 hq_wC.size);(have y1_wC:w.heap.size+1<wC.heap.size:=Nat.lt_of_lt_of_le z1 hq_wC.size);(have y2_wC:w.heap.size+1+1<wC.heap.size:=Nat.lt_of_lt_of_le z2 hq_wC.size);clear hq_wC)|(go_at_call 16;(with_reducible refine Calls.mono (awake_c _ (HKD.out.to (by exact zbl)) (HPW.out.to (by exact zbl))) ?_);rintro e wK ⟨rfl,hbK⟩))
     go_ret
     exact⟨rfl,HB0.out.trans ((show Below V0.heap.size V0 _ by exact zbl).mono HB0.out.size)⟩
    case false=>
     have hll:xs.length≤1000:=by have:=hsmf.2;omega
     obtain⟨B,hB⟩:∃B,B=fieldC g (fldOf tk ls xs):=⟨_,rfl⟩
     obtain⟨E1,hE1⟩:∃E,E=joE g (fldOf tk ls xs) m:=⟨_,rfl⟩
     obtain⟨X1,hX1⟩:∃X,X=joF g (fldOf tk ls xs) m:=⟨_,rfl⟩
     obtain⟨E2,hE2⟩:∃E,E=takE g (fldOf tk ls xs) nm:=⟨_,rfl⟩
     obtain⟨X2,hX2⟩:∃X,X=takF g (fldOf tk ls xs) nm:=⟨_,rfl⟩
     have hfe:∀ys:List MA,ys.map MA.m=xs.map MA.m→fldOf tk ls ys=fldOf tk ls xs:=fun ys h=>by unfold fldOf;rw[h]
     have HCF:=zh (show ∀W,GridR W W.heap.size a g→FldR W W.heap.size A c xs→Calls Tryz.prog 41 #[(.agg #[.int .i64 g.blur,.slice a.pS g.sta.length a.cs,.slice a.pM g.mov.length a.cm,.slice a.pZ g.zon.length a.cz]),(.agg #[.int .i64 tk,.int .i64 ls,.slice A xs.length c])] W fun e w'=>e=.returned (.int .i64 B)∧Below W.heap.size W w' from fun W h1 h2=>by
      rw[hB];exact rCheckField_c a g tk ls A c xs W hsm hll hsmf.1.way (fun x hx=>⟨hsmf.1.name x hx,hsmf.1.sec x hx⟩) h1 h2)
     have HJO:=zh (show ∀W a' A' c' ys Am cm,GridR W W.heap.size a' g→KindsAt W→ys.map MA.m=xs.map MA.m→FldR W W.heap.size A' c' ys→MirR W W.heap.size m Am cm→Calls Tryz.prog 78 #[(.agg #[.int .i64 g.blur,.slice a'.pS g.sta.length a'.cs,.slice a'.pM g.mov.length a'.cm,.slice a'.pZ g.zon.length a'.cz]),(.agg #[.int .i64 tk,.int .i64 ls,.slice A' ys.length c']),(.agg #[.string m.name,.string m.sec,.int .i64 m.loc,.slice Am m.way.length cm,.int .i64 m.left,.int .i64 m.heard])] W fun e w'=>∃tk1 ls1 A1 c1 zs,e=.returned (.tuple #[(.agg #[.int .i64 tk1,.int .i64 ls1,.slice A1 zs.length c1]),.int .i64 E1])∧fldOf tk1 ls1 zs=X1∧FldR w' w'.heap.size A1 c1 zs∧Below W.heap.size W w'∧Fresh W.heap.size A1 zs from fun W a' A' c' ys Am cm h1 h2 h3 h4 h6=>by
      have h5:=Joined_c a' g tk ls A' c' ys m Am cm W hsm (small_map hsmf.1 h3) hsmm h1 h2 h4 h6
      rw[hfe ys h3,←hE1,←hX1]at h5
      exact h5)
     have HTA:=zh (show ∀W a' A' c' ys,GridR W W.heap.size a' g→KindsAt W→ys.map MA.m=xs.map MA.m→FldR W W.heap.size A' c' ys→Calls Tryz.prog 75 #[(.agg #[.int .i64 g.blur,.slice a'.pS g.sta.length a'.cs,.slice a'.pM g.mov.length a'.cm,.slice a'.pZ g.zon.length a'.cz]),(.agg #[.int .i64 tk,.int .i64 ls,.slice A' ys.length c']),.string nm] W fun e w'=>∃tk1 ls1 A1 c1 zs,e=.returned (.tuple #[(.agg #[.int .i64 tk1,.int .i64 ls1,.slice A1 zs.length c1]),.int .i64 E2])∧fldOf tk1 ls1 zs=X2∧FldR w' w'.heap.size A1 c1 zs∧Below W.heap.size W w'∧Fresh W.heap.size A1 zs from fun W a' A' c' ys h1 h2 h3 h4=>by
      have h5:=Taken_c a' g tk ls A' c' ys nm W hsm (small_map hsmf.1 h3) h1 h2 h4
      rw[hfe ys h3,←hE2,←hX2]at h5
      exact h5)
     have HFD:=zh (fun W (h:FldR W W.heap.size A c xs)=>field0_c tk ls A c xs W hll hsmf.1.way h)
     have HRJ:=zh (show B=0→∀W,GridR W W.heap.size a g→FldR W W.heap.size A c xs→MirR W W.heap.size m mA mc→Calls Tryz.prog 79 #[(.agg #[.int .i64 g.blur,.slice a.pS g.sta.length a.cs,.slice a.pM g.mov.length a.cm,.slice a.pZ g.zon.length a.cz]),(.agg #[.int .i64 tk,.int .i64 ls,.slice A xs.length c]),(.agg #[.string m.name,.string m.sec,.int .i64 m.loc,.slice mA m.way.length mc,.int .i64 m.left,.int .i64 m.heard])] W fun e w'=>∃tk' ls' A' c' zs,e=.returned (.tuple #[(.agg #[.int .i64 tk',.int .i64 ls',.slice A' zs.length c']),.int .i64 E1])∧fldOf tk' ls' zs=X1∧FldR w' w'.heap.size A' c' zs∧Blks (fun d=>W.heap.size≤d∨(m.way≠ []∧∃aa,mA=some aa∧d=aa.block)) A' zs∧Below W.heap.size W w' from fun h0 W h1 h2 h3=>by
      have h4:=hB.symm.trans h0
      rw[hE1,hX1]
      exact rJoined_c a g tk ls A c xs m mA mc W hsm hsmf.1 hsmm h4 h1 h2 h3)
     have HRT:=zh (show B=0→∀W,GridR W W.heap.size a g→FldR W W.heap.size A c xs→Calls Tryz.prog 80 #[(.agg #[.int .i64 g.blur,.slice a.pS g.sta.length a.cs,.slice a.pM g.mov.length a.cm,.slice a.pZ g.zon.length a.cz]),(.agg #[.int .i64 tk,.int .i64 ls,.slice A xs.length c]),.string nm] W fun e w'=>∃tk' ls' A' c' zs,e=.returned (.tuple #[(.agg #[.int .i64 tk',.int .i64 ls',.slice A' zs.length c']),.int .i64 E2])∧fldOf tk' ls' zs=X2∧FldR w' w'.heap.size A' c' zs∧Blks (fun d=>W.heap.size≤d) A' zs∧Below W.heap.size W w' from fun h0 W h1 h2=>by
      have h4:=hB.symm.trans h0
      rw[hE2,hX2]
      exact rTaken_c a g tk ls A c xs nm W hsm hsmf.1 h4 h1 h2)
     have hz1:E1≠0→X1=fld0:=fun h=>by rw[hX1];unfold joF;rw[←hE1,if_neg h]
     have hz2:E2≠0→X2=fld0:=fun h=>by rw[hX2];unfold takF;rw[←hE2,if_neg h]
     have hbn:B≠0→E1=B∧E2=B:=fun h=>⟨by rw[hE1];exact joE_bad hB h,by rw[hE2];unfold takE;rw[←hB,if_neg h]⟩
     have hd1:FldB X1:=by rw[hX1];exact jo_b g _ m
     have hd2:FldB X2:=by rw[hX2];exact tak_b g _ nm
     have HZ1:=zh hz1
     have HZ2:=zh hz2
     have HBN:=zh hbn
     have HD1:=zh hd1
     have HD2:=zh hd2
     clear hB hE1 hX1 hE2 hX2 hfe hz1 hz2 hbn hd1 hd2
     go_enter Tryz.func12,Tryz.ntmps12
     go_upto_region 1 with fail
     rw[←hV0]
     clear hV0
     go_upto_region 3 with (first|(go_at_call 15;(with_reducible refine Calls.mono (HSH.out _ (HG.out.to (by exact zbl))) ?_);rintro e wA ⟨rfl,hbA⟩;(have hq_wA:Below V0.heap.size V0 wA:=by exact zbl);(have hc_wA:=(bcell hq_wA).1);(have y0_wA:w.heap.size<wA.heap.size:=Nat.lt_of_lt_of_le z0 hq_wA.size);(have y1_wA:w.heap.size+1<wA.heap.size:=Nat.lt_of_lt_of_le z1 hq_wA.size);(have y2_wA:w.heap.size+1+1<wA.heap.size:=Nat.lt_of_lt_of_le z2 hq_wA.size);clear hq_wA)|(go_at_call 37;(with_reducible refine Calls.mono (HSF.out _ (HF.out.to (by exact zbl))) ?_);rintro e wB ⟨rfl,hbB⟩;(have hq_wB:Below V0.heap.size V0 wB:=by exact zbl);(have hc_wB:=(bcell hq_wB).1);(have y0_wB:w.heap.size<wB.heap.size:=Nat.lt_of_lt_of_le z0 hq_wB.size);(have y1_wB:w.heap.size+1<wB.heap.size:=Nat.lt_of_lt_of_le z1 hq_wB.size);(have y2_wB:w.heap.size+1+1<wB.heap.size:=Nat.lt_of_lt_of_le z2 hq_wB.size);clear hq_wB)|(go_at_call 77;(with_reducible refine Calls.mono (HSMM.out _) ?_);rintro e wC ⟨rfl,hbC⟩;(have hq_wC:Below V0.heap.size V0 wC:=by exact zbl);(have hc_wC:=(bcell hq_wC).1);(have y0_wC:w.heap.size<wC.heap.size:=Nat.lt_of_lt_of_le z0 hq_wC.size);(have y1_wC:w.heap.size+1<wC.heap.size:=Nat.lt_of_lt_of_le z1 hq_wC.size);(have y2_wC:w.heap.size+1+1<wC.heap.size:=Nat.lt_of_lt_of_le z2 hq_wC.size);clear hq_wC))
     go_upto_region 4 with fail
     obtain⟨V1,hV1⟩:∃W,W=wC.alloc (.cells #[.string m.name,.string m.sec,.int .i64 m.loc,.slice mA m.way.length mc,.int .i64 m.left,.int .i64 m.heard] 107):=⟨_,rfl⟩
     obtain⟨bm,hbm⟩:∃b,b=wC.heap.size:=⟨_,rfl⟩
     rw[←hV1,←hbm]
     have hbV:Below V0.heap.size V0 V1:=by rw[hV1];(repeat first|(with_reducible first|assumption|exact Below.refl _ _|refine Bl.drew ?_|refine Bl.drewN ?_ _|refine Bl.alloc ?_ _|refine Bl.set ?_ _ ?_)|(with_reducible apply Bl.step';(focus(with_reducible assumption)))|omega|(focus(simp;done))|(focus(simp;omega)))
     have km:V1.heap[bm]? =some (.cells #[.string m.name,.string m.sec,.int .i64 m.loc,.slice mA m.way.length mc,.int .i64 m.left,.int .i64 m.heard] 107 (0,0)):=by rw[hV1,hbm];exact heap_alloc_new _ _
     have hlm:V0.heap.size≤bm:=by rw[hbm];exact(show Below V0.heap.size V0 wC by exact zbl).size
     have KM:=zh km
     have HBV:=zh hbV
     have ym:=blk_lt km
     clear hV1 hbm hbV d0 d1 d2 d3 q0 q1 q2 n0 n1 n2 n3 n4 n5 n6 hc_wA hc_wB hc_wC
     (obtain⟨e0,ef0,e1,ef1,e2,ef2,e3,ef3,e4,ef4,e5,ef5⟩:=cv6 km)
     clear km
     go_upto_region 5 with (go_at_call 30;(with_reducible refine Calls.mono (ints_c mA m.way mc _ hsmm.2.2 (HM.out.way.to HBV.out) hmA) ?_);rintro e w2 ⟨v2,rfl,ho2,hb2⟩;(obtain⟨m7A,m7c,rfl,hc7,hi7,hf7⟩:=ho2.sl);(have HI7:=zh hi7);(have HF7:=zh hf7);clear ho2 hi7 hf7;(have km:=(hb2.block bm ym).trans KM.out);clear e0 e1 e2 e3 e4 e5 ef0 ef1 ef2 ef3 ef4 ef5;(obtain⟨e0,ef0,e1,ef1,e2,ef2,e3,ef3,e4,ef4,e5,ef5⟩:=cv6 km);(have K2M:=zh km);clear km)
     obtain⟨W0,hW0⟩:∃W,W=w2.setCell ⟨bm,3,none⟩ (.slice m7A m.way.length m7c):=⟨_,rfl⟩
     rw[←hW0]
     have hv2:Below V0.heap.size V0 w2:=HBV.out.trans (hb2.mono HBV.out.size)
     have hBV0:Below V0.heap.size V0 W0:=by rw[hW0];exact Below.setCell hv2 (p:=⟨bm,3,none⟩) hlm _
     have km:W0.heap[bm]? =some (.cells #[.string m.name,.string m.sec,.int .i64 m.loc,.slice m7A m.way.length m7c,.int .i64 m.left,.int .i64 m.heard] 107 (0,0)):=by rw[hW0];exact heap_setCell_same w2 bm 3 _ _ _ K2M.out
     have HM7:=zh (show MirR W0 W0.heap.size m m7A m7c from by
      have h1:MirR w2 w2.heap.size m m7A m7c:=⟨HI7.out,hc7⟩
      rw[hW0]
      exact⟨Rw.more ((h1.setc (p:=⟨bm,3,none⟩) _ (fun _ aa haa e=>by have h:=(HF7.out aa haa).1;simp only at e;omega)).way) (by simp),h1.cap⟩)
     have HB0':=zh (HB0.out.trans (hBV0.mono HB0.out.size))
     have HG':=zh (HG.out.to hBV0)
     have HF':=zh (HF.out.to hBV0)
     have HM':=zh (show MirR W0 W0.heap.size m mA mc from⟨HM.out.way.to hBV0,HM.out.cap⟩)
     have HKD':=zh (HKD.out.to hBV0)
     have HPW':=zh (HPW.out.to hBV0)
     have k0:=(hBV0.block w.heap.size z0).trans K0.out
     have k1:=(hBV0.block (w.heap.size+1) z1).trans K1.out
     have k2:=(hBV0.block (w.heap.size+1+1) z2).trans K2.out
     have hzz:=hBV0.size
     clear HG HF HM HKD HPW HB0 z0 z1 z2 K0 K1 K2
     have HG:=HG'
     have HF:=HF'
     have HM:=HM'
     have HKD:=HKD'
     have HPW:=HPW'
     have HB0:=HB0'
     have z0:=bk_lt k0
     have z1:=bk_lt k1
     have z2:=bk_lt k2
     have z3:=blk_lt km
     (obtain⟨d0,d1,d2,d3⟩:=cg4 k0)
     (obtain⟨q0,qf0,q1,qf1,q2,qf2⟩:=cv3 k1)
     (have n0:W0.cell? ⟨w.heap.size+1+1,0,none⟩=some (.string m.name):=by rw[cell_of_row W0 _ 0 _ _ _ k2];rfl);(have nf0:W0.frozen? ⟨w.heap.size+1+1,0,none⟩=false:=frozen_of_row W0 _ 0 _ _ k2);(have n1:W0.cell? ⟨w.heap.size+1+1,1,none⟩=some (.string m.sec):=by rw[cell_of_row W0 _ 1 _ _ _ k2];rfl);(have nf1:W0.frozen? ⟨w.heap.size+1+1,1,none⟩=false:=frozen_of_row W0 _ 1 _ _ k2);(have n2:W0.cell? ⟨w.heap.size+1+1,2,none⟩=some (.int .i64 m.loc):=by rw[cell_of_row W0 _ 2 _ _ _ k2];rfl);(have nf2:W0.frozen? ⟨w.heap.size+1+1,2,none⟩=false:=frozen_of_row W0 _ 2 _ _ k2);(have n3:W0.cell? ⟨w.heap.size+1+1,3,none⟩=some (.slice mA m.way.length mc):=by rw[cell_of_row W0 _ 3 _ _ _ k2];rfl);(have nf3:W0.frozen? ⟨w.heap.size+1+1,3,none⟩=false:=frozen_of_row W0 _ 3 _ _ k2);(have n4:W0.cell? ⟨w.heap.size+1+1,4,none⟩=some (.int .i64 m.left):=by rw[cell_of_row W0 _ 4 _ _ _ k2];rfl);(have nf4:W0.frozen? ⟨w.heap.size+1+1,4,none⟩=false:=frozen_of_row W0 _ 4 _ _ k2);(have n5:W0.cell? ⟨w.heap.size+1+1,5,none⟩=some (.int .i64 m.heard):=by rw[cell_of_row W0 _ 5 _ _ _ k2];rfl);(have nf5:W0.frozen? ⟨w.heap.size+1+1,5,none⟩=false:=frozen_of_row W0 _ 5 _ _ k2);(have n6:W0.cell? ⟨w.heap.size+1+1,6,none⟩=some (.string nm):=by rw[cell_of_row W0 _ 6 _ _ _ k2];rfl);(have nf6:W0.frozen? ⟨w.heap.size+1+1,6,none⟩=false:=frozen_of_row W0 _ 6 _ _ k2)
     (obtain⟨m0,mf0,m1,mf1,m2,mf2,m3,mf3,m4,mf4,m5,mf5⟩:=cv6 km)
     clear k0 k1 k2 km qf0 qf1 qf2 nf0 nf1 nf2 nf3 nf4 nf5 nf6 mf0 mf1 mf2 mf3 mf4 mf5 e0 e1 e2 e3 e4 e5 ef0 ef1 ef2 ef3 ef4 ef5 hW0 hv2 hBV0 hb2 HBV KM K2M HI7 HF7 ym HG' HF' HM' HKD' HPW' HB0' hbA hbB hbC
     obtain⟨W3,hW3⟩:∃W,W=W0:=⟨_,rfl⟩
     have HQ_W3:Hid (Below W0.heap.size W0 W3):=by rw[hW3];exact zh (Below.refl _ _)
     rw[←hW3]
     (have hq_W3:Below W0.heap.size W0 W3:=HQ_W3.out);(have hc_W3:=(bcell hq_W3).1);(have y0_W3:w.heap.size<W3.heap.size:=Nat.lt_of_lt_of_le z0 hq_W3.size);(have y1_W3:w.heap.size+1<W3.heap.size:=Nat.lt_of_lt_of_le z1 hq_W3.size);(have y2_W3:w.heap.size+1+1<W3.heap.size:=Nat.lt_of_lt_of_le z2 hq_W3.size);(have y3_W3:bm<W3.heap.size:=Nat.lt_of_lt_of_le z3 hq_W3.size);(have HQ_W3:=zh hq_W3);clear hq_W3
     clear hW3
     go_cut [8,9] (fun s7 s8 wx=>∃b:Nat,s7=.pointer (some ⟨b,0,none⟩)∧s8=.int .i64 E1∧FBox 72 W3 X1 b wx)
     case first=>
      go_region_held3 (SHd W3) ((refine Sh.goal ?_;exact zsh)) (first|(go_at_call 18;(with_reducible refine Calls.mono (grid_c a g _ hsm (HG.out.to (HQ_W3.out.trans (Below.mono (by exact zbl) HQ_W3.out.size)))) ?_);rintro e wG5 ⟨aG5,rfl,hgG5,hb⟩;(obtain⟨hcc,hff⟩:=bcell hb;have hzz:=hb.size;(try simp at hzz);(try have z1:W3.heap.size+1<wG5.heap.size:=by omega);(try have z2:W3.heap.size+2<wG5.heap.size:=by omega);(try have z3:W3.heap.size+3<wG5.heap.size:=by omega);(try have z4:W3.heap.size+4<wG5.heap.size:=by omega);(try have z5:W3.heap.size+5<wG5.heap.size:=by omega);(try have z0:W3.heap.size<wG5.heap.size:=by omega);(try(have zy1:=Nat.lt_of_succ_le hzz;(try(have zy2:=Nat.lt_of_succ_lt zy1;(try have zy3:=Nat.lt_of_succ_lt zy2))))));(have hbG5:=hb);clear hb;(have hc_wG5:∀b o,b<W0.heap.size→wG5.cell? ⟨b,o,none⟩=W0.cell? ⟨b,o,none⟩:=(bcellq (HQ_W3.out.trans (Below.mono (by exact zbl) HQ_W3.out.size))));(have hs_wG5:=hbG5.size);(try simp at hs_wG5))|(go_at_call 39;(with_reducible refine Calls.mono (HFD.out _ (HF.out.to (HQ_W3.out.trans (Below.mono (by exact zbl) HQ_W3.out.size)))) ?_);rintro e wF5 ⟨AF5,cF5,ysF5,rfl,hmF5,hfF5,hzF5,hb⟩;(have HMF5:=zh hmF5);(have HFF5:=zh hfF5);clear hmF5 hfF5 hzF5;(obtain⟨hcc,hff⟩:=bcell hb;have hzz:=hb.size;(try simp at hzz);(try have z1:W3.heap.size+1<wF5.heap.size:=by omega);(try have z2:W3.heap.size+2<wF5.heap.size:=by omega);(try have z3:W3.heap.size+3<wF5.heap.size:=by omega);(try have z4:W3.heap.size+4<wF5.heap.size:=by omega);(try have z5:W3.heap.size+5<wF5.heap.size:=by omega);(try have zm0:wG5.heap.size<wF5.heap.size:=by omega);(try have z0:W3.heap.size<wF5.heap.size:=by omega);(try(have zy1:=Nat.lt_of_succ_le hzz;(try(have zy2:=Nat.lt_of_succ_lt zy1;(try have zy3:=Nat.lt_of_succ_lt zy2))))));(have hbF5:=hb);clear hb;(have hc_wF5:∀b o,b<W0.heap.size→wF5.cell? ⟨b,o,none⟩=W0.cell? ⟨b,o,none⟩:=(bcellq (HQ_W3.out.trans (Below.mono (by exact zbl) HQ_W3.out.size))));(have hs_wF5:=hbF5.size);(try simp at hs_wF5))|(go_at_call 78;(with_reducible refine Calls.mono (HJO.out _ aG5 AF5 cF5 ysF5 m7A m7c (hgG5.to (by exact zbl)) (HKD.out.to (HQ_W3.out.trans (Below.mono (by exact zbl) HQ_W3.out.size))) HMF5.out (HFF5.out.to (by exact zbl)) ⟨HM7.out.way.to (HQ_W3.out.trans (Below.mono (by exact zbl) HQ_W3.out.size)),HM7.out.cap⟩) ?_);rintro e wH5 ⟨tk5,ls5,A5,c5,zs5,rfl,hx51,hf51,hb,hfr5⟩;(have HXZ5:=zh hx51);(have HFZ5:=zh hf51);(have HRZ5:=zh hfr5);clear hx51 hf51 hfr5;(obtain⟨hcc,hff⟩:=bcell hb;have hzz:=hb.size;(try simp at hzz);(try have z1:W3.heap.size+1<wH5.heap.size:=by omega);(try have z2:W3.heap.size+2<wH5.heap.size:=by omega);(try have z3:W3.heap.size+3<wH5.heap.size:=by omega);(try have z4:W3.heap.size+4<wH5.heap.size:=by omega);(try have z5:W3.heap.size+5<wH5.heap.size:=by omega);(try have zm0:wG5.heap.size<wH5.heap.size:=by omega);(try have zm1:wF5.heap.size<wH5.heap.size:=by omega);(try have z0:W3.heap.size<wH5.heap.size:=by omega);(try(have zy1:=Nat.lt_of_succ_le hzz;(try(have zy2:=Nat.lt_of_succ_lt zy1;(try have zy3:=Nat.lt_of_succ_lt zy2))))));(have hbH5:=hb);clear hb))
      all_goals
       go_wp2_with fail
       go_meet
      ·exact⟨_,rfl,rfl,fBox1 (by exact zbl) HXZ5.out HFZ5.out⟩
      ·exact⟨_,rfl,rfl,fBox2 (by exact zbl) hbH5 (show Below W3.heap.size W3 wF5 by exact zbl).size (heap_alloc_new _ _) HXZ5.out HFZ5.out HRZ5.out⟩
      ·exact⟨_,rfl,rfl,fBox2 (by exact zbl) hbH5 (show Below W3.heap.size W3 wG5 by exact zbl).size ((hbF5.block wG5.heap.size (by first|assumption|omega|(simp;done)|(simp;omega))).trans (heap_alloc_new _ _)) HXZ5.out HFZ5.out HRZ5.out⟩
      ·exact⟨_,rfl,rfl,fBox2 (by exact zbl) hbH5 (Nat.le_refl _) ((hbF5.block W3.heap.size (by first|assumption|omega|(simp;done)|(simp;omega))).trans ((hbG5.block W3.heap.size (by first|assumption|omega|(simp;done)|(simp;omega))).trans (heap_alloc_new _ _))) HXZ5.out HFZ5.out HRZ5.out⟩
     case rest=>
      obtain⟨b5,rfl,rfl,hx5⟩:=hcut
      obtain⟨W5,rfl⟩:∃W,W=wc:=⟨wc,rfl⟩
      (have hq_W5:Below W0.heap.size W0 W5:=HQ_W3.out.trans (hx5.low.mono HQ_W3.out.size));(have hc_W5:=(bcell hq_W5).1);(have y0_W5:w.heap.size<W5.heap.size:=Nat.lt_of_lt_of_le z0 hq_W5.size);(have y1_W5:w.heap.size+1<W5.heap.size:=Nat.lt_of_lt_of_le z1 hq_W5.size);(have y2_W5:w.heap.size+1+1<W5.heap.size:=Nat.lt_of_lt_of_le z2 hq_W5.size);(have y3_W5:bm<W5.heap.size:=Nat.lt_of_lt_of_le z3 hq_W5.size);(have HQ_W5:=zh hq_W5);clear hq_W5
      go_upto_region 6 with fail
      go_cut [10,11] (fun s7 s8 wx=>∃b:Nat,s7=.pointer (some ⟨b,0,none⟩)∧s8=.int .i64 E2∧FBox 72 W5 X2 b wx)
      case first=>
       go_region_held3 (SHd W5) ((refine Sh.goal ?_;exact zsh)) (first|(go_at_call 18;(with_reducible refine Calls.mono (grid_c a g _ hsm (HG.out.to (HQ_W5.out.trans (Below.mono (by exact zbl) HQ_W5.out.size)))) ?_);rintro e wG6 ⟨aG6,rfl,hgG6,hb⟩;(obtain⟨hcc,hff⟩:=bcell hb;have hzz:=hb.size;(try simp at hzz);(try have z1:W5.heap.size+1<wG6.heap.size:=by omega);(try have z2:W5.heap.size+2<wG6.heap.size:=by omega);(try have z3:W5.heap.size+3<wG6.heap.size:=by omega);(try have z4:W5.heap.size+4<wG6.heap.size:=by omega);(try have z5:W5.heap.size+5<wG6.heap.size:=by omega);(try have z0:W5.heap.size<wG6.heap.size:=by omega);(try(have zy1:=Nat.lt_of_succ_le hzz;(try(have zy2:=Nat.lt_of_succ_lt zy1;(try have zy3:=Nat.lt_of_succ_lt zy2))))));(have hbG6:=hb);clear hb;(have hc_wG6:∀b o,b<W0.heap.size→wG6.cell? ⟨b,o,none⟩=W0.cell? ⟨b,o,none⟩:=(bcellq (HQ_W5.out.trans (Below.mono (by exact zbl) HQ_W5.out.size))));(have hs_wG6:=hbG6.size);(try simp at hs_wG6))|(go_at_call 39;(with_reducible refine Calls.mono (HFD.out _ (HF.out.to (HQ_W5.out.trans (Below.mono (by exact zbl) HQ_W5.out.size)))) ?_);rintro e wF6 ⟨AF6,cF6,ysF6,rfl,hmF6,hfF6,hzF6,hb⟩;(have HMF6:=zh hmF6);(have HFF6:=zh hfF6);clear hmF6 hfF6 hzF6;(obtain⟨hcc,hff⟩:=bcell hb;have hzz:=hb.size;(try simp at hzz);(try have z1:W5.heap.size+1<wF6.heap.size:=by omega);(try have z2:W5.heap.size+2<wF6.heap.size:=by omega);(try have z3:W5.heap.size+3<wF6.heap.size:=by omega);(try have z4:W5.heap.size+4<wF6.heap.size:=by omega);(try have z5:W5.heap.size+5<wF6.heap.size:=by omega);(try have zm0:wG6.heap.size<wF6.heap.size:=by omega);(try have z0:W5.heap.size<wF6.heap.size:=by omega);(try(have zy1:=Nat.lt_of_succ_le hzz;(try(have zy2:=Nat.lt_of_succ_lt zy1;(try have zy3:=Nat.lt_of_succ_lt zy2))))));(have hbF6:=hb);clear hb;(have hc_wF6:∀b o,b<W0.heap.size→wF6.cell? ⟨b,o,none⟩=W0.cell? ⟨b,o,none⟩:=(bcellq (HQ_W5.out.trans (Below.mono (by exact zbl) HQ_W5.out.size))));(have hs_wF6:=hbF6.size);(try simp at hs_wF6))|(go_at_call 75;(with_reducible refine Calls.mono (HTA.out _ aG6 AF6 cF6 ysF6 (hgG6.to (by exact zbl)) (HKD.out.to (HQ_W5.out.trans (Below.mono (by exact zbl) HQ_W5.out.size))) HMF6.out (HFF6.out.to (by exact zbl))) ?_);rintro e wH6 ⟨tk6,ls6,A6,c6,zs6,rfl,hx61,hf61,hb,hfr6⟩;(have HXZ6:=zh hx61);(have HFZ6:=zh hf61);(have HRZ6:=zh hfr6);clear hx61 hf61 hfr6;(obtain⟨hcc,hff⟩:=bcell hb;have hzz:=hb.size;(try simp at hzz);(try have z1:W5.heap.size+1<wH6.heap.size:=by omega);(try have z2:W5.heap.size+2<wH6.heap.size:=by omega);(try have z3:W5.heap.size+3<wH6.heap.size:=by omega);(try have z4:W5.heap.size+4<wH6.heap.size:=by omega);(try have z5:W5.heap.size+5<wH6.heap.size:=by omega);(try have zm0:wG6.heap.size<wH6.heap.size:=by omega);(try have zm1:wF6.heap.size<wH6.heap.size:=by omega);(try have z0:W5.heap.size<wH6.heap.size:=by omega);(try(have zy1:=Nat.lt_of_succ_le hzz;(try(have zy2:=Nat.lt_of_succ_lt zy1;(try have zy3:=Nat.lt_of_succ_lt zy2))))));(have hbH6:=hb);clear hb))
       all_goals
        go_wp2_with fail
        go_meet
       ·exact⟨_,rfl,rfl,fBox1 (by exact zbl) HXZ6.out HFZ6.out⟩
       ·exact⟨_,rfl,rfl,fBox2 (by exact zbl) hbH6 (show Below W5.heap.size W5 wF6 by exact zbl).size (heap_alloc_new _ _) HXZ6.out HFZ6.out HRZ6.out⟩
       ·exact⟨_,rfl,rfl,fBox2 (by exact zbl) hbH6 (show Below W5.heap.size W5 wG6 by exact zbl).size ((hbF6.block wG6.heap.size (by first|assumption|omega|(simp;done)|(simp;omega))).trans (heap_alloc_new _ _)) HXZ6.out HFZ6.out HRZ6.out⟩
       ·exact⟨_,rfl,rfl,fBox2 (by exact zbl) hbH6 (Nat.le_refl _) ((hbF6.block W5.heap.size (by first|assumption|omega|(simp;done)|(simp;omega))).trans ((hbG6.block W5.heap.size (by first|assumption|omega|(simp;done)|(simp;omega))).trans (heap_alloc_new _ _))) HXZ6.out HFZ6.out HRZ6.out⟩
      case rest=>
       obtain⟨b6,rfl,rfl,hx6⟩:=hcut
       obtain⟨W6,rfl⟩:∃W,W=wc:=⟨wc,rfl⟩
       (have hq_W6:Below W0.heap.size W0 W6:=HQ_W5.out.trans (hx6.low.mono HQ_W5.out.size));(have hc_W6:=(bcell hq_W6).1);(have y0_W6:w.heap.size<W6.heap.size:=Nat.lt_of_lt_of_le z0 hq_W6.size);(have y1_W6:w.heap.size+1<W6.heap.size:=Nat.lt_of_lt_of_le z1 hq_W6.size);(have y2_W6:w.heap.size+1+1<W6.heap.size:=Nat.lt_of_lt_of_le z2 hq_W6.size);(have y3_W6:bm<W6.heap.size:=Nat.lt_of_lt_of_le z3 hq_W6.size);(have HQ_W6:=zh hq_W6);clear hq_W6
       have HX6:=zh hx6
       have HX5:=zh (hx5.next hx6.low)
       clear hx5 hx6
       go_upto_region 8 with (go_at_call 41;(with_reducible refine Calls.mono (HCF.out _ (HG.out.to HQ_W6.out) (HF.out.to HQ_W6.out)) ?_);rintro e wJ ⟨rfl,hbJ⟩)
       have HX5J:=zh (HX5.out.next hbJ)
       have HX6J:=zh (HX6.out.next hbJ)
       (have hq_wJ:Below W0.heap.size W0 wJ:=HQ_W6.out.trans (hbJ.mono HQ_W6.out.size));(have hc_wJ:=(bcell hq_wJ).1);(have y0_wJ:w.heap.size<wJ.heap.size:=Nat.lt_of_lt_of_le z0 hq_wJ.size);(have y1_wJ:w.heap.size+1<wJ.heap.size:=Nat.lt_of_lt_of_le z1 hq_wJ.size);(have y2_wJ:w.heap.size+1+1<wJ.heap.size:=Nat.lt_of_lt_of_le z2 hq_wJ.size);(have y3_wJ:bm<wJ.heap.size:=Nat.lt_of_lt_of_le z3 hq_wJ.size);(have HQ_wJ:=zh hq_wJ);clear hq_wJ
       clear hbJ HX5 HX6
       go_upto_region 10 with fail
       obtain⟨W9,hW9⟩:∃W,W=(wJ.alloc (.cells #[.int .i64 0,.int .i64 0,.slice none 0 0] 66)).alloc (.cells #[.int .i64 0,.int .i64 0,.slice none 0 0] 66):=⟨_,rfl⟩
       rw[←hW9]
       have hb9:Below wJ.heap.size wJ W9:=by rw[hW9];exact(Below.alloc (Below.refl _ _) (Nat.le_refl _) _).alloc (by simp) _
       have k14:W9.heap[wJ.heap.size]? =some (.cells #[.int .i64 0,.int .i64 0,.slice none 0 0] 66 (0,0)):=by rw[hW9];exact(Below.heap_alloc _ _ _ (by simp)).trans (heap_alloc_new wJ _)
       have k15:W9.heap[wJ.heap.size+1]? =some (.cells #[.int .i64 0,.int .i64 0,.slice none 0 0] 66 (0,0)):=by rw[hW9];exact heap_two wJ _ _
       have y14:=blk_lt k14
       have y15:=blk_lt k15
       have K14:=zh k14
       have K15:=zh k15
       have HB9:=zh hb9
       (have hq_W9:Below W0.heap.size W0 W9:=HQ_wJ.out.trans (HB9.out.mono HQ_wJ.out.size));(have hc_W9:=(bcell hq_W9).1);(have y0_W9:w.heap.size<W9.heap.size:=Nat.lt_of_lt_of_le z0 hq_W9.size);(have y1_W9:w.heap.size+1<W9.heap.size:=Nat.lt_of_lt_of_le z1 hq_W9.size);(have y2_W9:w.heap.size+1+1<W9.heap.size:=Nat.lt_of_lt_of_le z2 hq_W9.size);(have y3_W9:bm<W9.heap.size:=Nat.lt_of_lt_of_le z3 hq_W9.size);(have HQ_W9:=zh hq_W9);clear hq_W9
       clear hW9 hb9 k14 k15
       go_upto_if 69 with fail
       go_cut [13,14] (fun s13 s14 wx=>s13=.int .i64 E1∧s14=.int .i64 E2∧FBox 66 wJ X1 (wJ.heap.size) wx∧FBox 66 wJ X2 (wJ.heap.size+1) wx)
       case first=>
        cases hb0:(B==0)
        case false=>
         have hne:B≠0:=by simpa using hb0
         have HNE:=zh hne
         clear hne
         go_wp2_with fail
         go_meet
         have he:=HBN.out HNE.out
         exact⟨by rw[he.1],by rw[he.2],⟨⟨0,0,none,0,[],K14.out,(HZ1.out (by rw[he.1];exact HNE.out)).symm,FldR.nil_ _ _⟩,by omega,HB9.out⟩,⟨⟨0,0,none,0,[],K15.out,(HZ2.out (by rw[he.2];exact HNE.out)).symm,FldR.nil_ _ _⟩,by omega,HB9.out⟩⟩
        case true=>
         have HEQ:=zh (show B=0 by simpa using hb0)
         go_upto_region 12 with (go_at_call 79;(with_reducible refine Calls.mono (HRJ.out HEQ.out _ (HG.out.to HQ_W9.out) (HF.out.to HQ_W9.out) ⟨HM.out.way.to HQ_W9.out,HM.out.cap⟩) ?_);rintro e w10 ⟨tk10,ls10,A10,c10,ys10,rfl,hx10,hf10,hr10,hb10⟩;(have HX10:=zh hx10);(have HF10:=zh hf10);(have HR10:=zh hr10);clear hx10 hf10 hr10;(have k14':=(hb10.block (wJ.heap.size) y14).trans K14.out);(obtain⟨r0,rf0,r1,rf1,r2,rf2⟩:=cv3 k14');(have y10:=blk_lt k14');clear k14')
         obtain⟨Wn,hWn⟩:∃W,W=((w10.setCell ⟨wJ.heap.size,0,none⟩ (.int .i64 tk10)).setCell ⟨wJ.heap.size,1,none⟩ (.int .i64 ls10)).setCell ⟨wJ.heap.size,2,none⟩ (.slice A10 ys10.length c10):=⟨_,rfl⟩
         rw[←hWn]
         have hx14:FB2 66 wJ X1 (wJ.heap.size) (wJ.heap.size+1) Wn:=by
          rw[hWn]
          exact fb2_set HB9.out hb10 (by omega) K14.out HX10.out HF10.out (HR10.out.imp fun d hd=>by
           rcases hd with hd|⟨hne,aa,haa,rfl⟩
           ·exact⟨by omega,by omega⟩
           ·obtain⟨b',off',e',hb',_⟩:=HM.out.way.at hne
            rw[haa]at e'
            cases e'
            have h:=HQ_wJ.out.size
            exact⟨by show b'≠_;omega,by show b'≠_;omega⟩)
         have k15:Wn.heap[wJ.heap.size+1]? =some (.cells #[.int .i64 0,.int .i64 0,.slice none 0 0] 66 (0,0)):=by rw[hWn];exact set3_other (by omega) ((hb10.block (wJ.heap.size+1) y15).trans K15.out)
         have HX14:=zh hx14
         have KN:=zh k15
         have hlw:=hx14.low
         have yn15:=blk_lt k15
         (have hq_Wn:Below W0.heap.size W0 Wn:=HQ_wJ.out.trans (hlw.mono HQ_wJ.out.size));(have hc_Wn:=(bcell hq_Wn).1);(have y0_Wn:w.heap.size<Wn.heap.size:=Nat.lt_of_lt_of_le z0 hq_Wn.size);(have y1_Wn:w.heap.size+1<Wn.heap.size:=Nat.lt_of_lt_of_le z1 hq_Wn.size);(have y2_Wn:w.heap.size+1+1<Wn.heap.size:=Nat.lt_of_lt_of_le z2 hq_Wn.size);(have y3_Wn:bm<Wn.heap.size:=Nat.lt_of_lt_of_le z3 hq_Wn.size);(have HQ_Wn:=zh hq_Wn);clear hq_Wn
         clear hWn hx14 hlw k15 y14 y15 hb10 r0 r1 r2 rf0 rf1 rf2
         go_wp2_with (go_at_call 80;(with_reducible refine Calls.mono (HRT.out HEQ.out _ (HG.out.to HQ_Wn.out) (HF.out.to HQ_Wn.out)) ?_);rintro e w11 ⟨tk11,ls11,A11,c11,ys11,rfl,hx11,hf11,hr11,hb11⟩;(have HX11:=zh hx11);(have HF11:=zh hf11);(have HR11:=zh hr11);clear hx11 hf11 hr11;(have k15':=(hb11.block (wJ.heap.size+1) yn15).trans KN.out);(obtain⟨s0,sf0,s1,sf1,s2,sf2⟩:=cv3 k15');(have y11:=blk_lt k15');clear k15')
         go_meet
         exact⟨rfl,rfl,(HX14.out.next hb11).set _ _ _ (by omega) (by omega),fBox2 HX14.out.low hb11 (by omega) KN.out HX11.out HF11.out HR11.out⟩
       case rest=>
        obtain⟨rfl,rfl,hx14,hx15⟩:=hcut
        obtain⟨Wz,rfl⟩:∃W,W=wc:=⟨wc,rfl⟩
        have hlw:=hx15.low
        obtain⟨t5,l5,A5,c5,z5s,k5,e5,f5⟩:=(HX5J.out.next hlw).ex
        obtain⟨t6,l6,A6,c6,z6s,k6,e6,f6⟩:=(HX6J.out.next hlw).ex
        obtain⟨t7,l7,A7,c7,z7s,k7,e7,f7⟩:=hx14.ex
        obtain⟨t8,l8,A8,c8,z8s,k8,e8,f8⟩:=hx15.ex
        have HAN1:=zh (show ∀W,Below Wz.heap.size Wz W→Calls Tryz.prog 45 #[(.agg #[.int .i64 t5,.int .i64 l5,.slice A5 z5s.length c5]),.int .i64 E1,.int .i64 E1,(.agg #[.int .i64 t7,.int .i64 l7,.slice A7 z7s.length c7])] W fun e w'=>e=.returned (.bool true)∧Below W.heap.size W w' from fun W hb=>after_f X1 _ _ _ _ _ _ _ _ _ _ _ W e5 e7 HZ1.out HD1.out (f5.to hb) (f7.to hb))
        have HAN2:=zh (show ∀W,Below Wz.heap.size Wz W→Calls Tryz.prog 45 #[(.agg #[.int .i64 t6,.int .i64 l6,.slice A6 z6s.length c6]),.int .i64 E2,.int .i64 E2,(.agg #[.int .i64 t8,.int .i64 l8,.slice A8 z8s.length c8])] W fun e w'=>e=.returned (.bool true)∧Below W.heap.size W w' from fun W hb=>after_f X2 _ _ _ _ _ _ _ _ _ _ _ W e6 e8 HZ2.out HD2.out (f6.to hb) (f8.to hb))
        have y5:=blk_lt k5
        have y6:=blk_lt k6
        have y7:=blk_lt k7
        have y8:=blk_lt k8
        (have hq_Wz:Below W0.heap.size W0 Wz:=HQ_wJ.out.trans (hlw.mono HQ_wJ.out.size));(have hc_Wz:=(bcell hq_Wz).1);(have y0_Wz:w.heap.size<Wz.heap.size:=Nat.lt_of_lt_of_le z0 hq_Wz.size);(have y1_Wz:w.heap.size+1<Wz.heap.size:=Nat.lt_of_lt_of_le z1 hq_Wz.size);(have y2_Wz:w.heap.size+1+1<Wz.heap.size:=Nat.lt_of_lt_of_le z2 hq_Wz.size);(have y3_Wz:bm<Wz.heap.size:=Nat.lt_of_lt_of_le z3 hq_Wz.size);(have HQ_Wz:=zh hq_Wz);clear hq_Wz
        (obtain⟨u0,uf0,u1,uf1,u2,uf2⟩:=cv3 k5)
        (obtain⟨v0,vf0,v1,vf1,v2,vf2⟩:=cv3 k6)
        (obtain⟨r0,rf0,r1,rf1,r2,rf2⟩:=cv3 k7)
        (obtain⟨s0,sf0,s1,sf1,s2,sf2⟩:=cv3 k8)
        have K6:=zh k6
        have K8:=zh k8
        clear hx14 hx15 hlw k5 k6 k7 k8 e5 e6 e7 e8 f5 f6 f7 f8 uf0 uf1 uf2 vf0 vf1 vf2 rf0 rf1 rf2 sf0 sf1 sf2
        go_wp2_with (first|(go_at_call 45;(with_reducible refine Calls.mono (HAN1.out _ (by exact zbl)) ?_);rintro e wQ ⟨rfl,hbQ⟩;(have k6:=(hbQ.block b6 y6).trans K6.out);(have k8:=(hbQ.block (wJ.heap.size+1) y8).trans K8.out);clear v0 v1 v2 s0 s1 s2;(obtain⟨v0,vf0,v1,vf1,v2,vf2⟩:=cv3 k6);(obtain⟨s0,sf0,s1,sf1,s2,sf2⟩:=cv3 k8);clear k6 k8)|(go_at_call 45;(with_reducible refine Calls.mono (HAN2.out _ (by exact zbl)) ?_);rintro e wR ⟨rfl,hbR⟩)|(go_at_call 16;(with_reducible refine Calls.mono (awake_c _ (HKD.out.to (HQ_Wz.out.trans (Below.mono (by exact zbl) HQ_Wz.out.size))) (HPW.out.to (HQ_Wz.out.trans (Below.mono (by exact zbl) HQ_Wz.out.size)))) ?_);rintro e wK ⟨rfl,hbK⟩))
        go_ret
        exact⟨rfl,HB0.out.trans ((HQ_Wz.out.trans (Below.mono (by exact zbl) HQ_Wz.out.size)).mono HB0.out.size)⟩
end Go.Proofs.YtehnikhicnnnhaaGreatDoor
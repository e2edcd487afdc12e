/- BeamFields answers true. -/
import Derived.Test.YtehnikhicnnnhaaGreatDoorPa53
import Derived.Test.YtehnikhicnnnhaaGreatDoorPa39
import Derived.Test.YtehnikhicnnnhaaGreatDoorPa46
import Derived.Test.YtehnikhicnnnhaaGreatDoorPa52
import Derived.Test.YtehnikhicnnnhaaGreatDoorPa51
import Derived.Test.YtehnikhicnnnhaaGreatDoorPa49
import Derived.Test.YtehnikhicnnnhaaGreatDoorPa01
import Derived.Test.YtehnikhicnnnhaaGreatDoorPa03
namespace Go.Proofs.YtehnikhicnnnhaaGreatDoor
open Go.RowKit
theorem hrd_b(g:Grd)(f:Fld)(o:Ord):FldB (hrdF g f o):=by
 unfold hrdF
 split
 ·rename_i h
  unfold hrdE at h
  split at h
  ·rename_i h0
   exact FldB.ok (heard_ok (gridC_ok (fieldC_grid h0)) (gridC_uniq (fieldC_grid h0)) (fieldC_fld h0))
  ·rename_i h0;exact absurd h h0
 ·exact FldB.zero
theorem stp_fld{g:Grd}{f:Fld}(h:stpE g f=0):fieldC g f=0:=firstErr_zero h _ (by simp)
theorem stp_b(g:Grd)(f:Fld):FldB (if stpE g f=0 then stepG g f else fld0):=by
 split
 ·rename_i h
  have h0:=stp_fld h
  exact FldB.ok (step_ok (gridC_ok (fieldC_grid h0)) (gridC_uniq (fieldC_grid h0)) (fieldC_fld h0) (by have:=fieldC_tick h0;omega))
 ·exact FldB.zero
theorem rHrd_c(a:GA)(g:Grd)(tk ls:Int)(A:Option Addr)(c:Nat)(xs:List MA)(o:Ord)(w:World)(h0:fieldC g (fldOf tk ls xs)=0)(hz:NilW xs)(hr:GridR w w.heap.size a g)(hf:FldR w w.heap.size A c xs):
 Calls Tryz.prog 42 #[(.agg #[.int .i64 g.blur,.slice a.pS g.sta.length a.cs,.slice a.pM g.mov.length a.cm,.slice a.pZ g.zon.length a.cz]),(.agg #[.int .i64 tk,.int .i64 ls,.slice A xs.length c]),.agg #[.string o.mir,.string o.sta,.bool o.lost]] w fun e w'=>∃tk' ls' A' c' ys,e=.returned (.tuple #[(.agg #[.int .i64 tk',.int .i64 ls',.slice A' ys.length c']),.int .i64 (hrdE g (fldOf tk ls xs) o)])∧fldOf tk' ls' ys=hrdF g (fldOf tk ls xs) o∧FldR w' w'.heap.size A' c' ys∧Fresh w.heap.size A' ys∧Below w.heap.size w w':=by
 obtain⟨hok,hu,hof⟩:=fldOk h0
 have he:hrdE g (fldOf tk ls xs) o=heardE g (fldOf tk ls xs) o:=by unfold hrdE;rw[if_pos h0]
 refine Calls.mono (rHeard_c a g tk ls A c xs o w hok hu hof hz hr hf) ?_
 rintro e w' ⟨⟨h1,rfl⟩|⟨h1,A',c',ys,rfl,h2,h3,h4,_⟩,hb⟩
 ·refine⟨0,0,none,0,[],by rw[he];rfl,?_,FldR.nil_ _ _,blks_nil,hb⟩
  unfold hrdF;rw[he,if_neg h1];rfl
 ·refine⟨tk,ls,A',c',ys,by rw[he,h1],?_,h3.fld,⟨fun _ a ha=>own_block h3 a ha,fun x hx _ a ha=>h4 x hx a ha⟩,hb⟩
  unfold hrdF;rw[he,if_pos h1];exact h2
theorem rStp_c(a:GA)(g:Grd)(tk ls:Int)(A:Option Addr)(c:Nat)(xs:List MA)(w:World)(h0:fieldC g (fldOf tk ls xs)=0)(hz:NilW xs)(hr:GridR w w.heap.size a g)(hf:FldR w w.heap.size A c xs):
 Calls Tryz.prog 43 #[(.agg #[.int .i64 g.blur,.slice a.pS g.sta.length a.cs,.slice a.pM g.mov.length a.cm,.slice a.pZ g.zon.length a.cz]),(.agg #[.int .i64 tk,.int .i64 ls,.slice A xs.length c])] w fun e w'=>∃A' c' ys,e=.returned (.agg #[.int .i64 (tk+1),.int .i64 ls,.slice A' ys.length c'])∧fldOf (tk+1) ls ys=stepG g (fldOf tk ls xs)∧FldR w' w'.heap.size A' c' ys∧Fresh w.heap.size A' ys∧Below w.heap.size w w':=by
 obtain⟨hok,hu,hof⟩:=fldOk h0
 refine Calls.mono (rStepped_c a g tk ls A c xs w hok hu hof hz hr hf) ?_
 rintro e w' ⟨A',c',ys,rfl,h2,h3,h4,_,hb⟩
 exact⟨A',c',ys,rfl,h2,h3.fld,⟨fun _ a ha=>own_block h3 a ha,fun x hx _ a ha=>h4 x hx a ha⟩,hb⟩
set_option maxRecDepth 100000 in
set_option maxHeartbeats 16000000 in
theorem BeamFields_c(a:GA)(g:Grd)(tk ls:Int)(A:Option Addr)(c:Nat)(xs:List MA)(o:Ord)(w:World)(hr:GridR w w.heap.size a g)(hf:FldR w w.heap.size A c xs)(hz:NilW xs)(hk:KindsAt w)(hp:PowAt w):
 Calls Tryz.prog 5 #[(.agg #[.int .i64 g.blur,.slice a.pS g.sta.length a.cs,.slice a.pM g.mov.length a.cm,.slice a.pZ g.zon.length a.cz]),(.agg #[.int .i64 tk,.int .i64 ls,.slice A xs.length c]),.agg #[.string o.mir,.string o.sta,.bool o.lost]] w fun e w'=>e=.returned (.bool true)∧Below w.heap.size w w':=by
 obtain⟨W0,hW0⟩:∃W0,W0=((w.alloc (.cells #[.int .i64 g.blur,.slice a.pS g.sta.length a.cs,.slice a.pM g.mov.length a.cm,.slice a.pZ g.zon.length a.cz] 26)).alloc (.cells #[.int .i64 tk,.int .i64 ls,.slice A xs.length c] 66)).alloc (.cells #[.string o.mir,.string o.sta,.bool o.lost] 68):=⟨_,rfl⟩
 have hsz:W0.heap.size=w.heap.size+3:=by rw[hW0];simp
 have k0:W0.heap[w.heap.size]? =some (.cells #[.int .i64 g.blur,.slice a.pS g.sta.length a.cs,.slice a.pM g.mov.length a.cm,.slice a.pZ g.zon.length a.cz] 26 (0,0)):=by rw[hW0];exact heap_fst _ _ _ _
 have k1:W0.heap[w.heap.size+1]? =some (.cells #[.int .i64 tk,.int .i64 ls,.slice A xs.length c] 66 (0,0)):=by rw[hW0];exact heap_mid _ _ _ _
 have k2:W0.heap[w.heap.size+1+1]? =some (.cells #[.string o.mir,.string o.sta,.bool o.lost] 68 (0,0)):=by rw[hW0];exact heap_lst _ _ _ _
 have hB0:Below w.heap.size w W0:=by rw[hW0];(repeat first|(with_reducible first|assumption|exact Below.refl _ _|refine Bl.drew ?_|refine Bl.drewN ?_ _|refine Bl.alloc ?_ _|refine Bl.set ?_ _ ?_)|(with_reducible apply Bl.step';(focus(with_reducible assumption)))|omega|(focus(simp;done))|(focus(simp;omega)))
 have HG:Hid (GridR W0 W0.heap.size a g):=zh (hr.to hB0)
 have HF:=zh (FldR.to hf hB0)
 have HKD:Hid (KindsAt W0):=zh (hk.to hB0)
 have HPW:Hid (PowAt W0):=zh (hp.to hB0)
 have HB0:=zh hB0
 have HNW:=zh hz
 have z0:=bk_lt k0
 have z1:=bk_lt k1
 have z2:=bk_lt k2
 have tz0:=z0
 have tz1:=z1
 have tz2:=z2
 clear hr hk hp hf hz hB0
 (obtain⟨d0,d1,d2,d3⟩:=cg4 k0)
 (obtain⟨q0,qf0,q1,qf1,q2,qf2⟩:=cv3 k1)
 (obtain⟨n0,nf0,n1,nf1,n2,nf2⟩:=cv3 k2)
 clear k0 k1 k2 qf0 qf1 qf2 nf0 nf1 nf2
 have hSH:=fun W (h:GridR W W.heap.size a g)=>rShort_c a g W h
 have hSF:=fun W (h:FldR W W.heap.size A c xs)=>rShortF_c tk ls A c xs W h
 cases hsh:shortG g
 ·rw[hsh]at hSH
  have HSH:=zh hSH
  clear hSH hsh hSF
  go_enter Tryz.func5,Tryz.ntmps5
  go_upto_region 1 with fail
  rw[←hW0]
  clear hW0
  go_wp2_with (first|(go_at_call 15;(with_reducible refine Calls.mono (HSH.out _ (HG.out.to (by exact zbl))) ?_);rintro e wA ⟨rfl,hbA⟩;(have hq_wA:Below W0.heap.size W0 wA:=by exact zbl);(have hc_wA:=(bcell hq_wA).1);(have y0_wA:w.heap.size<wA.heap.size:=Nat.lt_of_lt_of_le z0 hq_wA.size);(have y1_wA:w.heap.size+1<wA.heap.size:=Nat.lt_of_lt_of_le z1 hq_wA.size);(have y2_wA:w.heap.size+1+1<wA.heap.size:=Nat.lt_of_lt_of_le z2 hq_wA.size);clear hq_wA)|(go_at_call 16;(with_reducible refine Calls.mono (awake_c _ (HKD.out.to (by exact zbl)) (HPW.out.to (by exact zbl))) ?_);rintro e wK ⟨rfl,hbK⟩))
  go_ret
  exact⟨rfl,HB0.out.trans ((show Below W0.heap.size W0 _ by exact zbl).mono HB0.out.size)⟩
 ·rw[hsh]at hSH
  have HSH:=zh hSH
  have hsm:=short_small hsh
  clear hSH hsh
  cases hsf:shortF xs
  ·rw[hsf]at hSF
   have HSF:=zh hSF
   clear hSF hsf
   go_enter Tryz.func5,Tryz.ntmps5
   go_upto_region 1 with fail
   rw[←hW0]
   clear hW0
   go_wp2_with (first|(go_at_call 15;(with_reducible refine Calls.mono (HSH.out _ (HG.out.to (by exact zbl))) ?_);rintro e wA ⟨rfl,hbA⟩;(have hq_wA:Below W0.heap.size W0 wA:=by exact zbl);(have hc_wA:=(bcell hq_wA).1);(have y0_wA:w.heap.size<wA.heap.size:=Nat.lt_of_lt_of_le z0 hq_wA.size);(have y1_wA:w.heap.size+1<wA.heap.size:=Nat.lt_of_lt_of_le z1 hq_wA.size);(have y2_wA:w.heap.size+1+1<wA.heap.size:=Nat.lt_of_lt_of_le z2 hq_wA.size);clear hq_wA)|(go_at_call 37;(with_reducible refine Calls.mono (HSF.out _ (HF.out.to (by exact zbl))) ?_);rintro e wB ⟨rfl,hbB⟩;(have hq_wB:Below W0.heap.size W0 wB:=by exact zbl);(have hc_wB:=(bcell hq_wB).1);(have y0_wB:w.heap.size<wB.heap.size:=Nat.lt_of_lt_of_le z0 hq_wB.size);(have y1_wB:w.heap.size+1<wB.heap.size:=Nat.lt_of_lt_of_le z1 hq_wB.size);(have y2_wB:w.heap.size+1+1<wB.heap.size:=Nat.lt_of_lt_of_le z2 hq_wB.size);clear hq_wB)|(go_at_call 16;(with_reducible refine Calls.mono (awake_c _ (HKD.out.to (by exact zbl)) (HPW.out.to (by exact zbl))) ?_);rintro e wK ⟨rfl,hbK⟩))
   go_ret
   exact⟨rfl,HB0.out.trans ((show Below W0.heap.size W0 _ by exact zbl).mono HB0.out.size)⟩
  ·rw[hsf]at hSF
   have HSF:=zh hSF
   have hsmf:=short_fld hsf
   clear hSF hsf
   cases hn1:decide ((40:Int)<(o.mir.size:Int))
   case true=>
    go_enter Tryz.func5,Tryz.ntmps5
    go_upto_region 1 with fail
    rw[←hW0]
    clear hW0
    go_wp2_with (first|(go_at_call 15;(with_reducible refine Calls.mono (HSH.out _ (HG.out.to (by exact zbl))) ?_);rintro e wA ⟨rfl,hbA⟩;(have hq_wA:Below W0.heap.size W0 wA:=by exact zbl);(have hc_wA:=(bcell hq_wA).1);(have y0_wA:w.heap.size<wA.heap.size:=Nat.lt_of_lt_of_le z0 hq_wA.size);(have y1_wA:w.heap.size+1<wA.heap.size:=Nat.lt_of_lt_of_le z1 hq_wA.size);(have y2_wA:w.heap.size+1+1<wA.heap.size:=Nat.lt_of_lt_of_le z2 hq_wA.size);clear hq_wA)|(go_at_call 37;(with_reducible refine Calls.mono (HSF.out _ (HF.out.to (by exact zbl))) ?_);rintro e wB ⟨rfl,hbB⟩;(have hq_wB:Below W0.heap.size W0 wB:=by exact zbl);(have hc_wB:=(bcell hq_wB).1);(have y0_wB:w.heap.size<wB.heap.size:=Nat.lt_of_lt_of_le z0 hq_wB.size);(have y1_wB:w.heap.size+1<wB.heap.size:=Nat.lt_of_lt_of_le z1 hq_wB.size);(have y2_wB:w.heap.size+1+1<wB.heap.size:=Nat.lt_of_lt_of_le z2 hq_wB.size);clear hq_wB)|(go_at_call 16;(with_reducible refine Calls.mono (awake_c _ (HKD.out.to (by exact zbl)) (HPW.out.to (by exact zbl))) ?_);rintro e wK ⟨rfl,hbK⟩))
    go_ret
    exact⟨rfl,HB0.out.trans ((show Below W0.heap.size W0 _ by exact zbl).mono HB0.out.size)⟩
   case false=>
    cases hn2:decide ((40:Int)<(o.sta.size:Int))
    case true=>
     go_enter Tryz.func5,Tryz.ntmps5
     go_upto_region 1 with fail
     rw[←hW0]
     clear hW0
     go_wp2_with (first|(go_at_call 15;(with_reducible refine Calls.mono (HSH.out _ (HG.out.to (by exact zbl))) ?_);rintro e wA ⟨rfl,hbA⟩;(have hq_wA:Below W0.heap.size W0 wA:=by exact zbl);(have hc_wA:=(bcell hq_wA).1);(have y0_wA:w.heap.size<wA.heap.size:=Nat.lt_of_lt_of_le z0 hq_wA.size);(have y1_wA:w.heap.size+1<wA.heap.size:=Nat.lt_of_lt_of_le z1 hq_wA.size);(have y2_wA:w.heap.size+1+1<wA.heap.size:=Nat.lt_of_lt_of_le z2 hq_wA.size);clear hq_wA)|(go_at_call 37;(with_reducible refine Calls.mono (HSF.out _ (HF.out.to (by exact zbl))) ?_);rintro e wB ⟨rfl,hbB⟩;(have hq_wB:Below W0.heap.size W0 wB:=by exact zbl);(have hc_wB:=(bcell hq_wB).1);(have y0_wB:w.heap.size<wB.heap.size:=Nat.lt_of_lt_of_le z0 hq_wB.size);(have y1_wB:w.heap.size+1<wB.heap.size:=Nat.lt_of_lt_of_le z1 hq_wB.size);(have y2_wB:w.heap.size+1+1<wB.heap.size:=Nat.lt_of_lt_of_le z2 hq_wB.size);clear hq_wB)|(go_at_call 16;(with_reducible refine Calls.mono (awake_c _ (HKD.out.to (by exact zbl)) (HPW.out.to (by exact zbl))) ?_);rintro e wK ⟨rfl,hbK⟩))
     go_ret
     exact⟨rfl,HB0.out.trans ((show Below W0.heap.size W0 _ by exact zbl).mono HB0.out.size)⟩
    case false=>
     have HSX:=zh hsmf.1
     have HNW2:=zh HNW.out
     have hxn:xs.length≤1000:=by have:=hsmf.2;omega
     obtain⟨E1,hE1⟩:∃E,E=hrdE g (fldOf tk ls xs) o:=⟨_,rfl⟩
     obtain⟨E2,hE2⟩:∃E,E=stpE g (fldOf tk ls xs):=⟨_,rfl⟩
     obtain⟨X2,hX2⟩:∃X,X=if stpE g (fldOf tk ls xs)=0 then stepG g (fldOf tk ls xs)else fld0:=⟨_,rfl⟩
     obtain⟨X1,hX1⟩:∃X,X=hrdF g (fldOf tk ls xs) o:=⟨_,rfl⟩
     have hfe:∀ys:List MA,ys.map MA.m=xs.map MA.m→fldOf tk ls ys=fldOf tk ls xs:=fun ys h=>by unfold fldOf;rw[h]
     have HHE:=zh (show ∀W a' A' c' ys,GridR W W.heap.size a' g→KindsAt W→ys.map MA.m=xs.map MA.m→FldR W W.heap.size A' c' ys→Calls Tryz.prog 38 #[(.agg #[.int .i64 g.blur,.slice a'.pS g.sta.length a'.cs,.slice a'.pM g.mov.length a'.cm,.slice a'.pZ g.zon.length a'.cz]),(.agg #[.int .i64 tk,.int .i64 ls,.slice A' ys.length c']),.agg #[.string o.mir,.string o.sta,.bool o.lost]] W fun e w'=>∃tk1 ls1 A1 c1 zs,e=.returned (.tuple #[(.agg #[.int .i64 tk1,.int .i64 ls1,.slice A1 zs.length c1]),.int .i64 E1])∧fldOf tk1 ls1 zs=X1∧FldR w' w'.heap.size A1 c1 zs∧Below W.heap.size W w'∧Fresh W.heap.size A1 zs from fun W a' A' c' ys h1 h2 h3 h4=>by
      have h5:=Heard_c a' g tk ls A' c' ys o W hsm (small_map hsmf.1 h3) h1 h2 h4
      rw[hfe ys h3,←hE1,←hX1]at h5
      exact h5)
     have HSE:=zh (show ∀W a' A' c' ys,GridR W W.heap.size a' g→KindsAt W→ys.map MA.m=xs.map MA.m→FldR W W.heap.size A' c' ys→Calls Tryz.prog 40 #[(.agg #[.int .i64 g.blur,.slice a'.pS g.sta.length a'.cs,.slice a'.pM g.mov.length a'.cm,.slice a'.pZ g.zon.length a'.cz]),(.agg #[.int .i64 tk,.int .i64 ls,.slice A' ys.length c'])] W fun e w'=>∃tk1 ls1 A1 c1 zs,e=.returned (.tuple #[(.agg #[.int .i64 tk1,.int .i64 ls1,.slice A1 zs.length c1]),.int .i64 E2])∧fldOf tk1 ls1 zs=X2∧FldR w' w'.heap.size A1 c1 zs∧Below W.heap.size W w'∧Fresh W.heap.size A1 zs from fun W a' A' c' ys h1 h2 h3 h4=>by
      have h5:=Stepped_c a' g tk ls A' c' ys W hsm (small_map hsmf.1 h3) h1 h2 h4
      rw[hfe ys h3,←hX2,←hE2]at h5
      exact h5)
     have HFD:=zh (fun W (h:FldR W W.heap.size A c xs)=>field_c tk ls A c xs W hxn hsmf.1.way HNW.out h)
     have HE1:=zh hE1
     have HX1:=zh hX1
     have HE2:=zh hE2
     have HX2:=zh hX2
     clear hE1 hX1 hE2 hX2 hfe
     go_enter Tryz.func5,Tryz.ntmps5
     go_upto_region 1 with fail
     rw[←hW0]
     clear hW0
     go_upto_region 3 with (first|(go_at_call 15;(with_reducible refine Calls.mono (HSH.out _ (HG.out.to (by exact zbl))) ?_);rintro e wA ⟨rfl,hbA⟩;(have hq_wA:Below W0.heap.size W0 wA:=by exact zbl);(have hc_wA:=(bcell hq_wA).1);(have y0_wA:w.heap.size<wA.heap.size:=Nat.lt_of_lt_of_le z0 hq_wA.size);(have y1_wA:w.heap.size+1<wA.heap.size:=Nat.lt_of_lt_of_le z1 hq_wA.size);(have y2_wA:w.heap.size+1+1<wA.heap.size:=Nat.lt_of_lt_of_le z2 hq_wA.size);clear hq_wA)|(go_at_call 37;(with_reducible refine Calls.mono (HSF.out _ (HF.out.to (by exact zbl))) ?_);rintro e wB ⟨rfl,hbB⟩;(have hq_wB:Below W0.heap.size W0 wB:=by exact zbl);(have hc_wB:=(bcell hq_wB).1);(have y0_wB:w.heap.size<wB.heap.size:=Nat.lt_of_lt_of_le z0 hq_wB.size);(have y1_wB:w.heap.size+1<wB.heap.size:=Nat.lt_of_lt_of_le z1 hq_wB.size);(have y2_wB:w.heap.size+1+1<wB.heap.size:=Nat.lt_of_lt_of_le z2 hq_wB.size);clear hq_wB))
     obtain⟨W3,hW3⟩:∃W,W=wB:=⟨_,rfl⟩
     subst hW3
     go_cut [7,8] (fun s7 s8 wx=>∃b:Nat,s7=.pointer (some ⟨b,0,none⟩)∧s8=.int .i64 E1∧FBox 72 W3 X1 b wx)
     case first=>
      go_region_held3 (SHd W3) ((refine Sh.goal ?_;exact zsh)) (first|(go_at_call 18;(with_reducible refine Calls.mono (grid_c a g _ hsm (HG.out.to (by exact zbl))) ?_);rintro e wG5 ⟨aG5,rfl,hgG5,hb⟩;(obtain⟨hcc,hff⟩:=bcell hb;have hzz:=hb.size;(try simp at hzz);(try have z1:W3.heap.size+1<wG5.heap.size:=by omega);(try have z2:W3.heap.size+2<wG5.heap.size:=by omega);(try have z3:W3.heap.size+3<wG5.heap.size:=by omega);(try have z4:W3.heap.size+4<wG5.heap.size:=by omega);(try have z5:W3.heap.size+5<wG5.heap.size:=by omega);(try have z0:W3.heap.size<wG5.heap.size:=by omega);(try(have zy1:=Nat.lt_of_succ_le hzz;(try(have zy2:=Nat.lt_of_succ_lt zy1;(try have zy3:=Nat.lt_of_succ_lt zy2))))));(have hbG5:=hb);clear hb;(have hq_wGn:Below W0.heap.size W0 wG5:=by exact zbl);(have hc_wGn:=(bcell hq_wGn).1);(have y0_wGn:w.heap.size<wG5.heap.size:=Nat.lt_of_lt_of_le tz0 hq_wGn.size);(have y1_wGn:w.heap.size+1<wG5.heap.size:=Nat.lt_of_lt_of_le tz1 hq_wGn.size);(have y2_wGn:w.heap.size+1+1<wG5.heap.size:=Nat.lt_of_lt_of_le tz2 hq_wGn.size);clear hq_wGn)|(go_at_call 39;(with_reducible refine Calls.mono (HFD.out _ (HF.out.to (by exact zbl))) ?_);rintro e wF5 ⟨AF5,cF5,ysF5,rfl,hmF,hfF,hzF,hb⟩;(have HMF5:=zh hmF);(have HFF5:=zh hfF);clear hmF hfF hzF;(obtain⟨hcc,hff⟩:=bcell hb;have hzz:=hb.size;(try simp at hzz);(try have z1:W3.heap.size+1<wF5.heap.size:=by omega);(try have z2:W3.heap.size+2<wF5.heap.size:=by omega);(try have z3:W3.heap.size+3<wF5.heap.size:=by omega);(try have z4:W3.heap.size+4<wF5.heap.size:=by omega);(try have z5:W3.heap.size+5<wF5.heap.size:=by omega);(try have zm0:wG5.heap.size<wF5.heap.size:=by omega);(try have z0:W3.heap.size<wF5.heap.size:=by omega);(try(have zy1:=Nat.lt_of_succ_le hzz;(try(have zy2:=Nat.lt_of_succ_lt zy1;(try have zy3:=Nat.lt_of_succ_lt zy2))))));(have hbF5:=hb);clear hb;(have hq_wFn:Below W0.heap.size W0 wF5:=by exact zbl);(have hc_wFn:=(bcell hq_wFn).1);(have y0_wFn:w.heap.size<wF5.heap.size:=Nat.lt_of_lt_of_le tz0 hq_wFn.size);(have y1_wFn:w.heap.size+1<wF5.heap.size:=Nat.lt_of_lt_of_le tz1 hq_wFn.size);(have y2_wFn:w.heap.size+1+1<wF5.heap.size:=Nat.lt_of_lt_of_le tz2 hq_wFn.size);clear hq_wFn)|(go_at_call 38;(with_reducible refine Calls.mono (HHE.out _ aG5 AF5 cF5 ysF5 (hgG5.to (by exact zbl)) (HKD.out.to (by exact zbl)) HMF5.out (HFF5.out.to (by exact zbl))) ?_);rintro e wH5 ⟨tk5,ls5,A5,c5,zs5,rfl,hx51,hf51,hb,hfr5⟩;(have HXZ5:=zh hx51);(have HFZ5:=zh hf51);(have HRZ5:=zh hfr5);clear hx51 hf51 hfr5;(obtain⟨hcc,hff⟩:=bcell hb;have hzz:=hb.size;(try simp at hzz);(try have z1:W3.heap.size+1<wH5.heap.size:=by omega);(try have z2:W3.heap.size+2<wH5.heap.size:=by omega);(try have z3:W3.heap.size+3<wH5.heap.size:=by omega);(try have z4:W3.heap.size+4<wH5.heap.size:=by omega);(try have z5:W3.heap.size+5<wH5.heap.size:=by omega);(try have zm0:wG5.heap.size<wH5.heap.size:=by omega);(try have zm1:wF5.heap.size<wH5.heap.size:=by omega);(try have z0:W3.heap.size<wH5.heap.size:=by omega);(try(have zy1:=Nat.lt_of_succ_le hzz;(try(have zy2:=Nat.lt_of_succ_lt zy1;(try have zy3:=Nat.lt_of_succ_lt zy2))))));(have hbH5:=hb);clear hb;(have hq_wHn:Below W0.heap.size W0 wH5:=by exact zbl);(have hc_wHn:=(bcell hq_wHn).1);(have y0_wHn:w.heap.size<wH5.heap.size:=Nat.lt_of_lt_of_le tz0 hq_wHn.size);(have y1_wHn:w.heap.size+1<wH5.heap.size:=Nat.lt_of_lt_of_le tz1 hq_wHn.size);(have y2_wHn:w.heap.size+1+1<wH5.heap.size:=Nat.lt_of_lt_of_le tz2 hq_wHn.size);clear hq_wHn))
      all_goals
       go_wp2_with fail
       go_meet
      ·exact⟨_,rfl,rfl,fBox1 (by exact zbl) HXZ5.out HFZ5.out⟩
      ·exact⟨_,rfl,rfl,fBox2 (by exact zbl) hbH5 (show Below W3.heap.size W3 wF5 by exact zbl).size (heap_alloc_new _ _) HXZ5.out HFZ5.out HRZ5.out⟩
      ·exact⟨_,rfl,rfl,fBox2 (by exact zbl) hbH5 (show Below W3.heap.size W3 wG5 by exact zbl).size ((hbF5.block wG5.heap.size (by first|assumption|omega|(simp;done)|(simp;omega))).trans (heap_alloc_new _ _)) HXZ5.out HFZ5.out HRZ5.out⟩
      ·exact⟨_,rfl,rfl,fBox2 (by exact zbl) hbH5 (Nat.le_refl _) ((hbF5.block W3.heap.size (by first|assumption|omega|(simp;done)|(simp;omega))).trans ((hbG5.block W3.heap.size (by first|assumption|omega|(simp;done)|(simp;omega))).trans (heap_alloc_new _ _))) HXZ5.out HFZ5.out HRZ5.out⟩
     case rest=>
      obtain⟨b5,rfl,rfl,hx5⟩:=hcut
      obtain⟨W5,rfl⟩:∃W,W=wc:=⟨wc,rfl⟩
      (have hq_W5:Below W0.heap.size W0 W5:=(show Below W0.heap.size W0 W3 by exact zbl).trans (hx5.low.mono (show Below W0.heap.size W0 W3 by exact zbl).size));(have hc_W5:=(bcell hq_W5).1);(have y0_W5:w.heap.size<W5.heap.size:=Nat.lt_of_lt_of_le tz0 hq_W5.size);(have y1_W5:w.heap.size+1<W5.heap.size:=Nat.lt_of_lt_of_le tz1 hq_W5.size);(have y2_W5:w.heap.size+1+1<W5.heap.size:=Nat.lt_of_lt_of_le tz2 hq_W5.size);skip
      go_upto_region 4 with fail
      go_cut [9,10] (fun s7 s8 wx=>∃b:Nat,s7=.pointer (some ⟨b,0,none⟩)∧s8=.int .i64 E2∧FBox 72 W5 X2 b wx)
      case first=>
       go_region_held3 (SHd W5) ((refine Sh.goal ?_;exact zsh)) (first|(go_at_call 18;(with_reducible refine Calls.mono (grid_c a g _ hsm (HG.out.to (by exact zbl))) ?_);rintro e wG6 ⟨aG6,rfl,hgG6,hb⟩;(obtain⟨hcc,hff⟩:=bcell hb;have hzz:=hb.size;(try simp at hzz);(try have z1:W5.heap.size+1<wG6.heap.size:=by omega);(try have z2:W5.heap.size+2<wG6.heap.size:=by omega);(try have z3:W5.heap.size+3<wG6.heap.size:=by omega);(try have z4:W5.heap.size+4<wG6.heap.size:=by omega);(try have z5:W5.heap.size+5<wG6.heap.size:=by omega);(try have z0:W5.heap.size<wG6.heap.size:=by omega);(try(have zy1:=Nat.lt_of_succ_le hzz;(try(have zy2:=Nat.lt_of_succ_lt zy1;(try have zy3:=Nat.lt_of_succ_lt zy2))))));(have hbG6:=hb);clear hb;(have hq_wGn:Below W0.heap.size W0 wG6:=by exact zbl);(have hc_wGn:=(bcell hq_wGn).1);(have y0_wGn:w.heap.size<wG6.heap.size:=Nat.lt_of_lt_of_le tz0 hq_wGn.size);(have y1_wGn:w.heap.size+1<wG6.heap.size:=Nat.lt_of_lt_of_le tz1 hq_wGn.size);(have y2_wGn:w.heap.size+1+1<wG6.heap.size:=Nat.lt_of_lt_of_le tz2 hq_wGn.size);clear hq_wGn)|(go_at_call 39;(with_reducible refine Calls.mono (HFD.out _ (HF.out.to (by exact zbl))) ?_);rintro e wF6 ⟨AF6,cF6,ysF6,rfl,hmF,hfF,hzF,hb⟩;(have HMF6:=zh hmF);(have HFF6:=zh hfF);clear hmF hfF hzF;(obtain⟨hcc,hff⟩:=bcell hb;have hzz:=hb.size;(try simp at hzz);(try have z1:W5.heap.size+1<wF6.heap.size:=by omega);(try have z2:W5.heap.size+2<wF6.heap.size:=by omega);(try have z3:W5.heap.size+3<wF6.heap.size:=by omega);(try have z4:W5.heap.size+4<wF6.heap.size:=by omega);(try have z5:W5.heap.size+5<wF6.heap.size:=by omega);(try have zm0:wG6.heap.size<wF6.heap.size:=by omega);(try have z0:W5.heap.size<wF6.heap.size:=by omega);(try(have zy1:=Nat.lt_of_succ_le hzz;(try(have zy2:=Nat.lt_of_succ_lt zy1;(try have zy3:=Nat.lt_of_succ_lt zy2))))));(have hbF6:=hb);clear hb;(have hq_wFn:Below W0.heap.size W0 wF6:=by exact zbl);(have hc_wFn:=(bcell hq_wFn).1);(have y0_wFn:w.heap.size<wF6.heap.size:=Nat.lt_of_lt_of_le tz0 hq_wFn.size);(have y1_wFn:w.heap.size+1<wF6.heap.size:=Nat.lt_of_lt_of_le tz1 hq_wFn.size);(have y2_wFn:w.heap.size+1+1<wF6.heap.size:=Nat.lt_of_lt_of_le tz2 hq_wFn.size);clear hq_wFn)|(go_at_call 40;(with_reducible refine Calls.mono (HSE.out _ aG6 AF6 cF6 ysF6 (hgG6.to (by exact zbl)) (HKD.out.to (by exact zbl)) HMF6.out (HFF6.out.to (by exact zbl))) ?_);rintro e wH6 ⟨tk6,ls6,A6,c6,zs6,rfl,hx61,hf61,hb,hfr6⟩;(have HXZ6:=zh hx61);(have HFZ6:=zh hf61);(have HRZ6:=zh hfr6);clear hx61 hf61 hfr6;(obtain⟨hcc,hff⟩:=bcell hb;have hzz:=hb.size;(try simp at hzz);(try have z1:W5.heap.size+1<wH6.heap.size:=by omega);(try have z2:W5.heap.size+2<wH6.heap.size:=by omega);(try have z3:W5.heap.size+3<wH6.heap.size:=by omega);(try have z4:W5.heap.size+4<wH6.heap.size:=by omega);(try have z5:W5.heap.size+5<wH6.heap.size:=by omega);(try have zm0:wG6.heap.size<wH6.heap.size:=by omega);(try have zm1:wF6.heap.size<wH6.heap.size:=by omega);(try have z0:W5.heap.size<wH6.heap.size:=by omega);(try(have zy1:=Nat.lt_of_succ_le hzz;(try(have zy2:=Nat.lt_of_succ_lt zy1;(try have zy3:=Nat.lt_of_succ_lt zy2))))));(have hbH6:=hb);clear hb;(have hq_wHn:Below W0.heap.size W0 wH6:=by exact zbl);(have hc_wHn:=(bcell hq_wHn).1);(have y0_wHn:w.heap.size<wH6.heap.size:=Nat.lt_of_lt_of_le tz0 hq_wHn.size);(have y1_wHn:w.heap.size+1<wH6.heap.size:=Nat.lt_of_lt_of_le tz1 hq_wHn.size);(have y2_wHn:w.heap.size+1+1<wH6.heap.size:=Nat.lt_of_lt_of_le tz2 hq_wHn.size);clear hq_wHn))
       all_goals
        go_wp2_with fail
        go_meet
       ·exact⟨_,rfl,rfl,fBox1 (by exact zbl) HXZ6.out HFZ6.out⟩
       ·exact⟨_,rfl,rfl,fBox2 (by exact zbl) hbH6 (show Below W5.heap.size W5 wF6 by exact zbl).size (heap_alloc_new _ _) HXZ6.out HFZ6.out HRZ6.out⟩
       ·exact⟨_,rfl,rfl,fBox2 (by exact zbl) hbH6 (show Below W5.heap.size W5 wG6 by exact zbl).size ((hbF6.block wG6.heap.size (by first|assumption|omega|(simp;done)|(simp;omega))).trans (heap_alloc_new _ _)) HXZ6.out HFZ6.out HRZ6.out⟩
       ·exact⟨_,rfl,rfl,fBox2 (by exact zbl) hbH6 (Nat.le_refl _) ((hbF6.block W5.heap.size (by first|assumption|omega|(simp;done)|(simp;omega))).trans ((hbG6.block W5.heap.size (by first|assumption|omega|(simp;done)|(simp;omega))).trans (heap_alloc_new _ _))) HXZ6.out HFZ6.out HRZ6.out⟩
      case rest=>
       obtain⟨b6,rfl,rfl,hx6⟩:=hcut
       obtain⟨W6,rfl⟩:∃W,W=wc:=⟨wc,rfl⟩
       (have hq_W6:Below W0.heap.size W0 W6:=(show Below W0.heap.size W0 W5 by exact zbl).trans (hx6.low.mono (show Below W0.heap.size W0 W5 by exact zbl).size));(have hc_W6:=(bcell hq_W6).1);(have y0_W6:w.heap.size<W6.heap.size:=Nat.lt_of_lt_of_le tz0 hq_W6.size);(have y1_W6:w.heap.size+1<W6.heap.size:=Nat.lt_of_lt_of_le tz1 hq_W6.size);(have y2_W6:w.heap.size+1+1<W6.heap.size:=Nat.lt_of_lt_of_le tz2 hq_W6.size);skip
       have HX5:=zh (hx5.next (show Below W5.heap.size W5 W6 from hx6.low))
       have HX6:=zh hx6
       obtain⟨B,hB⟩:∃B,B=fieldC g (fldOf tk ls xs):=⟨_,rfl⟩
       obtain⟨wt,hwt⟩:∃b,b=(tk==10000000):=⟨_,rfl⟩
       obtain⟨WT,hWT⟩:∃b,b=whn wt 3:=⟨_,rfl⟩
       have hwt2:(tk==10000000)=wt:=hwt.symm
       have h2E:E2=firstErr [B,WT]:=by rw[HE2.out,hB,hWT,hwt];rfl
       have HCF:=zh (show ∀W,GridR W W.heap.size a g→FldR W W.heap.size A c xs→Calls Tryz.prog 41 #[(.agg #[.int .i64 g.blur,.slice a.pS g.sta.length a.cs,.slice a.pM g.mov.length a.cm,.slice a.pZ g.zon.length a.cz]),(.agg #[.int .i64 tk,.int .i64 ls,.slice A xs.length c])] W fun e w'=>e=.returned (.int .i64 B)∧Below W.heap.size W w' from fun W h1 h2=>by
        rw[hB];exact rCheckField_c a g tk ls A c xs W hsm hxn HSX.out.way (fun x hx=>⟨HSX.out.name x hx,HSX.out.sec x hx⟩) h1 h2)
       have HCP:=zh (show ∀W a' A' c' ys,GridR W W.heap.size a' g→KindsAt W→ys.map MA.m=xs.map MA.m→FldR W W.heap.size A' c' ys→Calls Tryz.prog 44 #[(.agg #[.int .i64 g.blur,.slice a'.pS g.sta.length a'.cs,.slice a'.pM g.mov.length a'.cm,.slice a'.pZ g.zon.length a'.cz]),(.agg #[.int .i64 tk,.int .i64 ls,.slice A' ys.length c'])] W fun e w'=>e=.returned (.int .i64 B)∧Below W.heap.size W w' from fun W a' A' c' ys h1 h2 h3 h4=>by
        have h5:=CheckField_c a' g tk ls A' c' ys W hsm (small_map HSX.out h3) h1 h2 h4
        rw[show fldOf tk ls ys=fldOf tk ls xs by unfold fldOf;rw[h3],←hB]at h5
        exact h5)
       have HWT:=zh (show ∀W,Calls Tryz.prog 34 #[.bool wt,.int .i64 3] W fun e w'=>e=.returned (.int .i64 WT)∧W=w' from fun W=>by rw[hWT];exact rWhen_c wt 3 W)
       have HFT:=zh (show ∀W b,CellsAt W b 0 [B,WT]→Calls Tryz.prog 23 #[.slice (some ⟨b,0,none⟩) 2 2] W fun e w'=>e=.returned (.int .i64 E2)∧W=w' from fun W b h=>by rw[h2E];exact lfirst_c b [B,WT] W (by simp) h)
       have HHR:=zh (show B=0→∀W,GridR W W.heap.size a g→FldR W W.heap.size A c xs→Calls Tryz.prog 42 #[(.agg #[.int .i64 g.blur,.slice a.pS g.sta.length a.cs,.slice a.pM g.mov.length a.cm,.slice a.pZ g.zon.length a.cz]),(.agg #[.int .i64 tk,.int .i64 ls,.slice A xs.length c]),.agg #[.string o.mir,.string o.sta,.bool o.lost]] W fun e w'=>∃tk' ls' A' c' ys,e=.returned (.tuple #[(.agg #[.int .i64 tk',.int .i64 ls',.slice A' ys.length c']),.int .i64 E1])∧fldOf tk' ls' ys=X1∧FldR w' w'.heap.size A' c' ys∧Fresh W.heap.size A' ys∧Below W.heap.size W w' from fun h0 W h1 h2=>by
        rw[HE1.out,HX1.out];exact rHrd_c a g tk ls A c xs o W (hB.symm.trans h0) HNW.out h1 h2)
       have HSR:=zh (show E2=0→∀W,GridR W W.heap.size a g→FldR W W.heap.size A c xs→Calls Tryz.prog 43 #[(.agg #[.int .i64 g.blur,.slice a.pS g.sta.length a.cs,.slice a.pM g.mov.length a.cm,.slice a.pZ g.zon.length a.cz]),(.agg #[.int .i64 tk,.int .i64 ls,.slice A xs.length c])] W fun e w'=>∃A' c' ys,e=.returned (.agg #[.int .i64 (tk+1),.int .i64 ls,.slice A' ys.length c'])∧fldOf (tk+1) ls ys=X2∧FldR w' w'.heap.size A' c' ys∧Fresh W.heap.size A' ys∧Below W.heap.size W w' from fun h0 W h1 h2=>by
        have h3:=HE2.out.symm.trans h0
        rw[HX2.out,if_pos h3];exact rStp_c a g tk ls A c xs W (stp_fld h3) HNW.out h1 h2)
       have hz1:E1≠0→X1=fld0:=fun h=>by rw[HX1.out];unfold hrdF;rw[←HE1.out,if_neg h]
       have hz2:E2≠0→X2=fld0:=fun h=>by rw[HX2.out,←HE2.out,if_neg h]
       have hbn:B≠0→E1=B:=fun h=>by rw[HE1.out];unfold hrdE;rw[←hB,if_neg h]
       have hd1:FldB X1:=by rw[HX1.out];exact hrd_b g _ o
       have hd2:FldB X2:=by rw[HX2.out];exact stp_b g _
       have HZ1:=zh hz1
       have HZ2:=zh hz2
       have HBN:=zh hbn
       have HD1:=zh hd1
       have HD2:=zh hd2
       have HW6:=zh hq_W6
       clear hB hwt hWT h2E hx5 hx6 hq_W5 hz1 hz2 hbn hd1 hd2
       go_upto_region 6 with (go_at_call 41;(with_reducible refine Calls.mono (HCF.out _ (HG.out.to (by exact zbl)) (HF.out.to (by exact zbl))) ?_);rintro e wJ ⟨rfl,hbJ⟩;(have hq_wJ:Below W0.heap.size W0 wJ:=by exact zbl);(have hc_wJ:=(bcell hq_wJ).1);(have y0_wJ:w.heap.size<wJ.heap.size:=Nat.lt_of_lt_of_le tz0 hq_wJ.size);(have y1_wJ:w.heap.size+1<wJ.heap.size:=Nat.lt_of_lt_of_le tz1 hq_wJ.size);(have y2_wJ:w.heap.size+1+1<wJ.heap.size:=Nat.lt_of_lt_of_le tz2 hq_wJ.size);skip)
       have HWJ:=zh hq_wJ
       have HJ6:=zh (show Below W6.heap.size W6 wJ by exact zbl)
       clear hq_wJ
       go_upto_region 8 with (first|(go_at_call 34;(with_reducible refine Calls.mono (HWT.out _) ?_);rintro e wK2 ⟨rfl,rfl⟩)|(go_at_call 23;(with_reducible refine Calls.mono (HFT.out _ _ (by simp[CellsAt])) ?_);rintro e wL ⟨rfl,rfl⟩))
       obtain⟨W9,hW9⟩:∃W,W=((wJ.alloc (.cells #[.int .i64 B,.int .i64 WT] 3)).alloc (.cells #[.int .i64 0,.int .i64 0,.slice none 0 0] 66)).alloc (.cells #[.int .i64 0,.int .i64 0,.slice none 0 0] 66):=⟨_,rfl⟩
       rw[←hW9]
       have hb9:Below wJ.heap.size wJ W9:=by rw[hW9];exact((Below.alloc (Below.refl _ _) (Nat.le_refl _) _).alloc (by simp) _).alloc (by first|(simp;done)|(simp;omega)) _
       have k14:W9.heap[wJ.heap.size+1]? =some (.cells #[.int .i64 0,.int .i64 0,.slice none 0 0] 66 (0,0)):=by rw[hW9];exact heap_mid _ _ _ _
       have k15:W9.heap[wJ.heap.size+1+1]? =some (.cells #[.int .i64 0,.int .i64 0,.slice none 0 0] 66 (0,0)):=by rw[hW9];exact heap_lst _ _ _ _
       have y14:=blk_lt k14
       have y15:=blk_lt k15
       have K14:=zh k14
       have K15:=zh k15
       have HB9:=zh hb9
       (have hq_W9:Below W0.heap.size W0 W9:=HWJ.out.trans (HB9.out.mono HWJ.out.size));(have hc_W9:=(bcell hq_W9).1);(have y0_W9:w.heap.size<W9.heap.size:=Nat.lt_of_lt_of_le tz0 hq_W9.size);(have y1_W9:w.heap.size+1<W9.heap.size:=Nat.lt_of_lt_of_le tz1 hq_W9.size);(have y2_W9:w.heap.size+1+1<W9.heap.size:=Nat.lt_of_lt_of_le tz2 hq_W9.size);(have HQ_W9:=zh hq_W9);clear hq_W9
       clear hW9 hb9 k14 k15
       go_upto_if 66 with fail
       go_cut [12] (fun s12 wx=>s12=.int .i64 E1∧FB2 66 wJ X1 (wJ.heap.size+1) (wJ.heap.size+1+1) wx∧wx.heap[wJ.heap.size+1+1]? =some (.cells #[.int .i64 0,.int .i64 0,.slice none 0 0] 66 (0,0)))
       case first=>
        cases hb0:(B==0)
        case false=>
         have hne:B≠0:=by simpa using hb0
         have HNE:=zh hne
         clear hne
         go_wp2_with fail
         go_meet
         exact⟨by rw[HBN.out HNE.out],⟨⟨0,0,none,0,[],K14.out,(HZ1.out (by rw[HBN.out HNE.out];exact HNE.out)).symm,FldR.nil_ _ _,blks_nil⟩,by omega,HB9.out⟩,K15.out⟩
        case true=>
         have HEQ:=zh (show B=0 by simpa using hb0)
         go_wp2_with (go_at_call 42;(with_reducible refine Calls.mono (HHR.out HEQ.out _ (HG.out.to HQ_W9.out) (HF.out.to HQ_W9.out)) ?_);rintro e w10 ⟨tk10,ls10,A10,c10,ys10,rfl,hx10,hf10,hr10,hb10⟩;(have HX10:=zh hx10);(have HF10:=zh hf10);(have HR10:=zh hr10);clear hx10 hf10 hr10;(have k14':=(hb10.block (wJ.heap.size+1) y14).trans K14.out);(have k15':=set3_other (by omega) (v0:=.int .i64 tk10) (v1:=.int .i64 ls10) (v2:=.slice A10 ys10.length c10) (b:=wJ.heap.size+1) ((hb10.block (wJ.heap.size+1+1) y15).trans K15.out));(obtain⟨r0,rf0,r1,rf1,r2,rf2⟩:=cv3 k14');(have y10:=blk_lt k14');clear k14')
         go_meet
         exact⟨rfl,fb2_set HB9.out hb10 (by omega) K14.out HX10.out HF10.out (HR10.out.imp fun d hd=>⟨by omega,by omega⟩),k15'⟩
       case rest=>
        obtain⟨rfl,hx14,k15⟩:=hcut
        obtain⟨Wn,rfl⟩:∃W,W=wc:=⟨wc,rfl⟩
        have HX14:=zh hx14
        have KN:=zh k15
        have hlw:=hx14.low
        have yn15:=blk_lt k15
        (have hq_Wn:Below W0.heap.size W0 Wn:=HWJ.out.trans (hlw.mono HWJ.out.size));(have hc_Wn:=(bcell hq_Wn).1);(have y0_Wn:w.heap.size<Wn.heap.size:=Nat.lt_of_lt_of_le tz0 hq_Wn.size);(have y1_Wn:w.heap.size+1<Wn.heap.size:=Nat.lt_of_lt_of_le tz1 hq_Wn.size);(have y2_Wn:w.heap.size+1+1<Wn.heap.size:=Nat.lt_of_lt_of_le tz2 hq_Wn.size);(have HQ_Wn:=zh hq_Wn);clear hq_Wn
        clear hx14 hlw k15 y14 y15
        go_upto_if 75 with fail
        go_cut [] (fun wx=>FBox 66 wJ X1 (wJ.heap.size+1) wx∧FBox 66 wJ X2 (wJ.heap.size+1+1) wx)
        case first=>
         cases h20:(E2==0)
         case false=>
          have HNE:=zh (show E2≠0 by simpa using h20)
          go_wp2_with fail
          go_meet
          exact⟨HX14.out.box,⟨⟨0,0,none,0,[],KN.out,(HZ2.out HNE.out).symm,FldR.nil_ _ _⟩,by omega,HX14.out.low⟩⟩
         case true=>
          have HEQ:=zh (show E2=0 by simpa using h20)
          go_wp2_with (go_at_call 43;(with_reducible refine Calls.mono (HSR.out HEQ.out _ (HG.out.to HQ_Wn.out) (HF.out.to HQ_Wn.out)) ?_);rintro e w11 ⟨A11,c11,ys11,rfl,hx11,hf11,hr11,hb11⟩;(have HX11:=zh hx11);(have HF11:=zh hf11);(have HR11:=zh hr11);clear hx11 hf11 hr11;(have k15':=(hb11.block (wJ.heap.size+1+1) yn15).trans KN.out);(obtain⟨s0,sf0,s1,sf1,s2,sf2⟩:=cv3 k15');(have y11:=blk_lt k15');clear k15')
          go_meet
          exact⟨(HX14.out.next hb11).set _ _ _ (by omega) (by omega),fBox2 HX14.out.low hb11 (by omega) KN.out HX11.out HF11.out HR11.out⟩
        case rest=>
         obtain⟨hx14,hx15⟩:=hcut
         obtain⟨Wz,rfl⟩:∃W,W=wc:=⟨wc,rfl⟩
         have hlw:=hx15.low
         have h6z:Below W6.heap.size W6 Wz:=HJ6.out.trans (hlw.mono HJ6.out.size)
         obtain⟨t5,l5,A5,c5,z5s,k5,e5,f5⟩:=(HX5.out.next h6z).ex
         obtain⟨t6,l6,A6,c6,z6s,k6,e6,f6⟩:=(HX6.out.next h6z).ex
         obtain⟨t7,l7,A7,c7,z7s,k7,e7,f7⟩:=hx14.ex
         obtain⟨t8,l8,A8,c8,z8s,k8,e8,f8⟩:=hx15.ex
         have HAN1:=zh (show ∀W,Below Wz.heap.size Wz W→Calls Tryz.prog 45 #[(.agg #[.int .i64 t5,.int .i64 l5,.slice A5 z5s.length c5]),.int .i64 E1,.int .i64 E1,(.agg #[.int .i64 t7,.int .i64 l7,.slice A7 z7s.length c7])] W fun e w'=>e=.returned (.bool true)∧Below W.heap.size W w' from fun W hb=>after_f X1 _ _ _ _ _ _ _ _ _ _ _ W e5 e7 HZ1.out HD1.out (f5.to hb) (f7.to hb))
         have HAN2:=zh (show ∀W,Below Wz.heap.size Wz W→Calls Tryz.prog 45 #[(.agg #[.int .i64 t6,.int .i64 l6,.slice A6 z6s.length c6]),.int .i64 E2,.int .i64 E2,(.agg #[.int .i64 t8,.int .i64 l8,.slice A8 z8s.length c8])] W fun e w'=>e=.returned (.bool true)∧Below W.heap.size W w' from fun W hb=>after_f X2 _ _ _ _ _ _ _ _ _ _ _ W e6 e8 HZ2.out HD2.out (f6.to hb) (f8.to hb))
         have y5:=blk_lt k5
         have y6:=blk_lt k6
         have y7:=blk_lt k7
         have y8:=blk_lt k8
         (have hq_Wz:Below W0.heap.size W0 Wz:=HWJ.out.trans (hlw.mono HWJ.out.size));(have hc_Wz:=(bcell hq_Wz).1);(have y0_Wz:w.heap.size<Wz.heap.size:=Nat.lt_of_lt_of_le tz0 hq_Wz.size);(have y1_Wz:w.heap.size+1<Wz.heap.size:=Nat.lt_of_lt_of_le tz1 hq_Wz.size);(have y2_Wz:w.heap.size+1+1<Wz.heap.size:=Nat.lt_of_lt_of_le tz2 hq_Wz.size);(have HQ_Wz:=zh hq_Wz);clear hq_Wz
         (obtain⟨u0,uf0,u1,uf1,u2,uf2⟩:=cv3 k5)
         (obtain⟨v0,vf0,v1,vf1,v2,vf2⟩:=cv3 k6)
         (obtain⟨r0,rf0,r1,rf1,r2,rf2⟩:=cv3 k7)
         (obtain⟨s0,sf0,s1,sf1,s2,sf2⟩:=cv3 k8)
         clear hx14 hx15 hlw h6z k5 k6 k7 k8 e5 e6 e7 e8 f5 f6 f7 f8 uf0 uf1 uf2 vf0 vf1 vf2 rf0 rf1 rf2 sf0 sf1 sf2
         go_upto_region 12 with fail
         go_region_held3 (SHd Wz) ((refine Sh.goal ?_;exact zsh)) (first|(go_at_call 18;(with_reducible refine Calls.mono (grid_c a g _ hsm (HG.out.to (HQ_Wz.out.trans (Below.mono (by exact zbl) HQ_Wz.out.size)))) ?_);rintro e wM ⟨aM,rfl,hgM,hbM⟩)|(go_at_call 39;(with_reducible refine Calls.mono (HFD.out _ (HF.out.to (HQ_Wz.out.trans (Below.mono (by exact zbl) HQ_Wz.out.size)))) ?_);rintro e wN ⟨AN,cN,ysN,rfl,hmN,hfN,hzN,hbN⟩;(have HMN:=zh hmN);(have HFN:=zh hfN);clear hmN hfN hzN)|(go_at_call 44;(with_reducible refine Calls.mono (HCP.out _ aM AN cN ysN (hgM.to (by exact zbl)) (HKD.out.to (HQ_Wz.out.trans (Below.mono (by exact zbl) HQ_Wz.out.size))) HMN.out (HFN.out.to (by exact zbl))) ?_);rintro e wP ⟨rfl,hbP⟩)|(go_at_call 45;(with_reducible refine Calls.mono (HAN1.out _ (by exact zbl)) ?_);rintro e wQ ⟨rfl,hbQ⟩)|(go_at_call 45;(with_reducible refine Calls.mono (HAN2.out _ (by exact zbl)) ?_);rintro e wR ⟨rfl,hbR⟩)|(go_at_call 16;(with_reducible refine Calls.mono (awake_c _ (HKD.out.to (HQ_Wz.out.trans (Below.mono (by exact zbl) HQ_Wz.out.size))) (HPW.out.to (HQ_Wz.out.trans (Below.mono (by exact zbl) HQ_Wz.out.size)))) ?_);rintro e wK ⟨rfl,hbK⟩))
         all_goals
          go_wp2_with fail
          go_ret
          exact⟨rfl,HB0.out.trans ((HQ_Wz.out.trans (Below.mono (by exact zbl) HQ_Wz.out.size)).mono HB0.out.size)⟩
end Go.Proofs.YtehnikhicnnnhaaGreatDoor
/- The reference: CheckField. -/
import Derived.Test.YtehnikhicnnnhaaGreatDoorPa38
import Derived.Test.YtehnikhicnnnhaaGreatDoorPa46
import Derived.Test.YtehnikhicnnnhaaGreatDoorPa50
namespace Go.Proofs.YtehnikhicnnnhaaGreatDoor
open Go.RowKit
theorem FldR.take{w:World}{B c:Nat}{A:Option Addr}{xs:List MA}(h:FldR w B A c xs)(k:Nat):FldR w B A c (xs.take k):=by
 refine⟨fun hn=>?_,fun x hx=>h.each x (List.mem_of_mem_take hx),Nat.le_trans (by rw[List.length_take];exact Nat.min_le_right _ _) h.cap⟩
 obtain⟨b,off,e,hb,hc⟩:=h.rw_ (by intro e;rw[List.map_take,e]at hn;simp at hn)
 refine⟨b,off,e,hb,fun j hj i v hv=>hc j (by simp at hj ⊢;omega) i v ?_⟩
 simp only[List.getElem_map,List.getElem_take]at hv ⊢
 exact hv
def stepE(g:Grd)(tick:Int)(seen:List ByteArray)(m:Mir):Int:=if mirE g tick seen m≠0 then mirE g tick seen m else if homeG g (turnM m)<0 then 7 else 0
theorem chkF_step{g:Grd}{tk:Int}{ms:List Mir}{k:Nat}(hk:k<ms.length){E:Int}(h:chkF g tk ((ms.take k).map Mir.name) (ms.drop k)=E):
 (stepE g tk ((ms.take k).map Mir.name) ms[k]≠0→E=stepE g tk ((ms.take k).map Mir.name) ms[k])∧(stepE g tk ((ms.take k).map Mir.name) ms[k]=0→chkF g tk ((ms.take (k+1)).map Mir.name) (ms.drop (k+1))=E):=by
 rw[List.drop_eq_getElem_cons hk,chkF]at h
 unfold stepE
 have e:(ms.take (k+1)).map Mir.name=(ms.take k).map Mir.name++ [ms[k].name]:=by rw[List.take_succ_eq_append_getElem hk,List.map_append];rfl
 rw[e]
 by_cases h1:mirE g tk ((ms.take k).map Mir.name) ms[k]≠0
 ·rw[if_pos h1]at h ⊢
  exact⟨fun _=>h.symm,fun h2=>absurd h2 h1⟩
 ·rw[if_neg h1]at h ⊢
  by_cases h2:homeG g (turnM ms[k])<0
  ·rw[if_pos h2]at h ⊢
   exact⟨fun _=>h.symm,fun h3=>absurd h3 (by decide)⟩
  ·rw[if_neg h2]at h ⊢
   exact⟨fun h3=>absurd rfl h3,fun _=>h⟩
def leftBad(g:Grd)(m:Mir):Bool:=if m.way= []then decide (m.left≠0)else decide (m.left<1)||decide (lnk g m.loc (turnM m)<m.left)
theorem stepE_eq(g:Grd)(tick:Int)(seen:List ByteArray)(m:Mir):stepE g tick seen m=
 if isNm m.name=false then 8 else if memS seen m.name=true then 9 else if isNm m.sec=false then 8 else if staC g m.loc≠0 then staC g m.loc
 else if 40<m.way.length then 5 else if chkW g m.loc m.way≠0 then chkW g m.loc m.way else if leftBad g m=true then 3
 else if rng m.heard 0 tick≠0 then rng m.heard 0 tick else if homeG g (turnM m)<0 then 7 else 0:=by
 unfold stepE mirE
 cases h1:isNm m.name
 ·simp[firstErr,nmC,whn,h1]
 ·cases h2:memS seen m.name
  ·cases h3:isNm m.sec
   ·simp[firstErr,nmC,whn,h1,h3]
   ·have e0:nmC m.name=0:=by simp[nmC,whn,h1]
    have e1:nmC m.sec=0:=by simp[nmC,whn,h3]
    have e2:whn false 9=0:=rfl
    rw[e0,e1,e2]
    have hfe:∀a b:Int,firstErr [0,0,0,a,b]=if a≠0 then a else b:=fun a b=>by
     unfold firstErr firstErr firstErr firstErr firstErr firstErr
     by_cases ha:a=0
     ·simp[ha];by_cases hb:b=0<;>simp[hb]
     ·simp[ha]
    rw[hfe]
    have hwc:wayC g m=if staC g m.loc≠0 then staC g m.loc else if 40<m.way.length then 5 else if chkW g m.loc m.way≠0 then chkW g m.loc m.way else if leftBad g m=true then 3 else 0:=by
     unfold wayC
     have h2e:firstErr [staC g m.loc,whn (decide (40<m.way.length)) 5]=if staC g m.loc≠0 then staC g m.loc else if 40<m.way.length then 5 else 0:=by
      unfold firstErr firstErr firstErr whn
      by_cases ha:staC g m.loc=0
      ·by_cases hb:40<m.way.length<;>simp[ha,hb]
      ·simp[ha]
     rw[h2e]
     by_cases ha:staC g m.loc=0
     ·by_cases hb:40<m.way.length
      ·simp[ha,hb]
      ·by_cases hc:chkW g m.loc m.way=0
       ·unfold leftBad
        by_cases hd:m.way= []
        ·by_cases he:m.left=0<;>simp[ha,hd,he,whn]
         all_goals simp[hd]at hb hc ⊢
         all_goals simp[chkW]
        ·simp only[ha,hb,hc,hd,ne_eq,not_true_eq_false,if_false,Bool.or_eq_true,decide_eq_true_eq]
         unfold rng
         by_cases he:m.left<1∨lnk g m.loc (turnM m)<m.left
         ·first|(rw[if_pos he,if_pos (by omega)];done)|(rw[if_pos he];done)|(rw[if_pos he];rfl)
         ·first|(rw[if_neg he,if_neg (by omega)];done)|(rw[if_neg he];done)|(rw[if_neg he];rfl)
       ·simp[ha,hb,hc]
     ·simp[ha]
    rw[hwc]
    by_cases ha:staC g m.loc=0
    ·by_cases hb:40<m.way.length
     ·simp[ha,hb]
     ·by_cases hc:chkW g m.loc m.way=0
      ·cases hd:leftBad g m
       ·simp[ha,hb,hc]
       ·simp[ha,hb,hc]
      ·simp[ha,hb,hc]
    ·simp[ha]
  ·simp[firstErr,nmC,whn,h1]
theorem seen_at(xs:List MA)(k:Nat)(n:ByteArray):decide (0≤idxF (fun x:MA=>sEq x.m.name n) (xs.take k))=memS (((xs.map MA.m).take k).map Mir.name) n:=by
 rw[idxF_any]
 unfold memS
 rw[←List.map_take,List.map_map,List.any_map]
 congr 1
 funext x
 show sEq x.m.name n=sEq n x.m.name
 unfold sEq
 rw[Bool.eq_iff_iff,beq_iff_eq,beq_iff_eq]
 exact⟨fun h=>h.symm,fun h=>h.symm⟩
theorem chkW_at{g:Grd}{l:List Int}{j:Nat}(hj:j<l.length)(a:Int):chkW g a (l.drop j)=if hasB g l[j]then(if lnk g a l[j]=0 then 21 else chkW g l[j] (l.drop (j+1)))else 10:=by
 rw[List.drop_eq_getElem_cons hj,chkW]
set_option maxRecDepth 100000 in
set_option maxHeartbeats 16000000 in
theorem rCheckField_c(a:GA)(g:Grd)(tk ls:Int)(A:Option Addr)(c:Nat)(xs:List MA)(w:World)(hs:SmallG g)(hl:xs.length≤1000)(hw:∀x∈xs,x.m.way.length≤1000)(hnm:∀x∈xs,x.m.name.size≤100000∧x.m.sec.size≤100000)(hr:GridR w w.heap.size a g)(hf:FldR w w.heap.size A c xs):
 Calls Tryz.prog 41 #[(.agg #[.int .i64 g.blur,.slice a.pS g.sta.length a.cs,.slice a.pM g.mov.length a.cm,.slice a.pZ g.zon.length a.cz]),(.agg #[.int .i64 tk,.int .i64 ls,.slice A xs.length c])] w fun e w'=>e=.returned (.int .i64 (fieldC g (fldOf tk ls xs)))∧Below w.heap.size w w':=by
 obtain⟨W1,hW1⟩:∃W1,W1=(w.alloc (.cells #[.int .i64 g.blur,.slice a.pS g.sta.length a.cs,.slice a.pM g.mov.length a.cm,.slice a.pZ g.zon.length a.cz] 26)).alloc (.cells #[.int .i64 tk,.int .i64 ls,.slice A xs.length c] 66):=⟨_,rfl⟩
 have k0:W1.heap[w.heap.size]? =some (.cells #[.int .i64 g.blur,.slice a.pS g.sta.length a.cs,.slice a.pM g.mov.length a.cm,.slice a.pZ g.zon.length a.cz] 26 (0,0)):=by rw[hW1];exact(Below.heap_alloc _ _ _ (by simp)).trans (heap_alloc_new w _)
 have k1:W1.heap[w.heap.size+1]? =some (.cells #[.int .i64 tk,.int .i64 ls,.slice A xs.length c] 66 (0,0)):=by rw[hW1];exact heap_two w _ _
 have hB0:Below w.heap.size w W1:=by rw[hW1];exact zbl
 have HB0:=zh hB0
 have HG:=zh (hr.to hB0)
 have HF:=zh (FldR.to hf hB0)
 have z0:=blk_lt k0
 have z1:=blk_lt k1
 (obtain⟨d0,d1,d2,d3⟩:=cg4 k0)
 (obtain⟨q0,qf0,q1,qf1,q2,qf2⟩:=cv3 k1)
 have HWL:=zh hw
 have HNS:=zh hnm
 have HRG:=zh (fun W (h:GridR W W.heap.size a g)=>rGridC_c a g W hs h)
 obtain⟨GB,hGB⟩:∃E,E=gridC g:=⟨_,rfl⟩
 obtain⟨TB,hTB⟩:∃E,E=rng tk 0 10000000:=⟨_,rfl⟩
 obtain⟨LB,hLB⟩:∃E,E=rng ls 1 100:=⟨_,rfl⟩
 obtain⟨NB,hNB⟩:∃E,E=whn (decide (16<xs.length)) 5:=⟨_,rfl⟩
 obtain⟨FE,hFE⟩:∃E,E=firstErr [GB,TB,LB,NB]:=⟨_,rfl⟩
 have HFE:=zh (show fldE g (fldOf tk ls xs)=FE by
  rw[hFE,hGB,hTB,hLB,hNB]
  unfold fldE fldOf
  simp only[List.length_map])
 have HGC:=zh (show ∀W,GridR W W.heap.size a g→Calls Tryz.prog 21 #[(.agg #[.int .i64 g.blur,.slice a.pS g.sta.length a.cs,.slice a.pM g.mov.length a.cm,.slice a.pZ g.zon.length a.cz])] W fun e w'=>e=.returned (.int .i64 GB)∧Below W.heap.size W w' from fun W h=>by rw[hGB];exact HRG.out W h)
 have HRT:=zh (show ∀W,Calls Tryz.prog 99 #[.int .i64 tk,.int .i64 0,.int .i64 10000000] W fun e w'=>e=.returned (.int .i64 TB)∧W=w' from fun W=>by rw[hTB];exact rRange_c _ _ _ W)
 have HRL:=zh (show ∀W,Calls Tryz.prog 99 #[.int .i64 ls,.int .i64 1,.int .i64 100] W fun e w'=>e=.returned (.int .i64 LB)∧W=w' from fun W=>by rw[hLB];exact rRange_c _ _ _ W)
 obtain⟨mny,hmny⟩:∃b,b=decide (16<xs.length):=⟨_,rfl⟩
 have hm1:decide ((16:Int)<(xs.length:Int))=mny:=by rw[hmny,decide_eq_decide];omega
 have hm2:decide (16<xs.length)=mny:=hmny.symm
 have HWN:=zh (show ∀W,Calls Tryz.prog 34 #[.bool mny,.int .i64 5] W fun e w'=>e=.returned (.int .i64 NB)∧W=w' from fun W=>by rw[hNB,←hmny];exact rWhen_c _ _ W)
 have HFI:=zh (show ∀W b,CellsAt W b 0 [GB,TB,LB,NB]→Calls Tryz.prog 100 #[.slice (some ⟨b,0,none⟩) 4 4] W fun e w'=>e=.returned (.int .i64 FE)∧W=w' from fun W b h=>by rw[hFE];exact rFirst_c b _ W (by simp) h)
 have HGB:=zh hGB
 have HFEd:=zh hFE
 have HNB:=zh hNB
 clear hr hf k0 k1 hB0 qf0 qf1 qf2 hw hnm hGB hTB hLB hNB hFE hmny
 cases hfe:(FE==0)
 case false=>
  have hne:FE≠0:=by simpa using hfe
  have hne2:(FE !=0)=true:=by simpa using hne
  have HR:=zh (show fieldC g (fldOf tk ls xs)=FE by unfold fieldC;rw[HFE.out,if_pos hne])
  clear hne
  go_enter Tryz.func41,Tryz.ntmps41
  go_upto_region 1 with fail
  rw[←hW1]
  clear hW1
  go_region_held3 (SHd W1) ((refine Sh.goal ?_;exact zsh)) (first|(go_at_call 21;(with_reducible refine Calls.mono (HGC.out _ (HG.out.to (by exact zbl))) ?_);rintro e wA ⟨rfl,hbA⟩)|(go_at_call 99;(with_reducible refine Calls.mono (HRT.out _) ?_);rintro e wB ⟨rfl,rfl⟩)|(go_at_call 99;(with_reducible refine Calls.mono (HRL.out _) ?_);rintro e wC ⟨rfl,rfl⟩)|(go_at_call 34;(with_reducible refine Calls.mono (HWN.out _) ?_);rintro e wD ⟨rfl,rfl⟩)|(go_at_call 100;(with_reducible refine Calls.mono (HFI.out _ _ (by simp[CellsAt])) ?_);rintro e wE ⟨rfl,rfl⟩))
  go_wp2_with fail
  go_ret
  exact⟨ret_int HR.out.symm,HB0.out.trans ((show Below W1.heap.size W1 _ by exact zbl).mono HB0.out.size)⟩
 case true=>
  have hz:FE=0:=by simpa using hfe
  have hz2:(FE !=0)=false:=by rw[hz];rfl
  have HZ:=zh (show GB=0 from firstErr_zero (HFEd.out.symm.trans hz) GB (by simp))
  have HGZ:=zh (HGB.out.symm.trans HZ.out)
  have hok:=gridC_ok HGZ.out
  have hu:=gridC_uniq HGZ.out
  have HOK:=zh hok
  have HU:=zh hu
  have HR:=zh (show fieldC g (fldOf tk ls xs)=chkF g tk [] (xs.map MA.m) by unfold fieldC;rw[HFE.out,if_neg (fun h=>h hz)];rfl)
  have h16:xs.length≤16:=by
   have h1:=firstErr_zero (HFEd.out.symm.trans hz) NB (by simp)
   rw[HNB.out]at h1
   have h2:=of_decide_eq_false (whn_zero h1 (by decide))
   omega
  clear hz hok hu
  go_enter Tryz.func41,Tryz.ntmps41
  go_upto_region 1 with fail
  rw[←hW1]
  clear hW1
  go_region_held3 (SHd W1) ((refine Sh.goal ?_;exact zsh)) (first|(go_at_call 21;(with_reducible refine Calls.mono (HGC.out _ (HG.out.to (by exact zbl))) ?_);rintro e wA ⟨rfl,hbA⟩)|(go_at_call 99;(with_reducible refine Calls.mono (HRT.out _) ?_);rintro e wB ⟨rfl,rfl⟩)|(go_at_call 99;(with_reducible refine Calls.mono (HRL.out _) ?_);rintro e wC ⟨rfl,rfl⟩)|(go_at_call 34;(with_reducible refine Calls.mono (HWN.out _) ?_);rintro e wD ⟨rfl,rfl⟩)|(go_at_call 100;(with_reducible refine Calls.mono (HFI.out _ _ (by simp[CellsAt])) ?_);rintro e wE ⟨rfl,rfl⟩))
  obtain⟨W2,hW2⟩:∃W,W=wA.alloc (.cells #[.int .i64 GB,.int .i64 TB,.int .i64 LB,.int .i64 NB] 3):=⟨_,rfl⟩
  rw[←hW2]
  have hb2:Below W1.heap.size W1 W2:=by rw[hW2];exact zbl
  rename_i hX
  clear hX hW2 hbA
  have hc2:=(bcell hb2).1
  have y1_2:w.heap.size+1<W2.heap.size:=Nat.lt_of_lt_of_le z1 hb2.size
  go_upto_region 5 with fail
  go_wp2_with fail
  go_loopw [6] (fun i wr=>∃k:Nat,k≤xs.length∧i=.int .i64 k∧Hid (chkF g tk (((xs.map MA.m).take k).map Mir.name) ((xs.map MA.m).drop k)=chkF g tk [] (xs.map MA.m))∧Below W1.heap.size W1 wr) (fun i _=>xs.length-(intOf i).toNat)
  case atStart=>exact⟨0,Nat.zero_le _,rfl,zh (by simp),hb2⟩
  case round=>
   obtain⟨k,hk,rfl,HP,hb⟩:=hrel
   clear hb2 hc2 y1_2
   have hc1:=(bcell hb).1
   have y0:w.heap.size<wr.heap.size:=Nat.lt_of_lt_of_le z0 hb.size
   have y1:w.heap.size+1<wr.heap.size:=Nat.lt_of_lt_of_le z1 hb.size
   by_cases hlt:k<xs.length
   ·obtain⟨x,hx⟩:∃x,x=xs[k]:=⟨_,rfl⟩
    have hxm:x∈xs:=by rw[hx];exact List.getElem_mem hlt
    have hfw:=HF.out.to hb
    obtain⟨b,off,ea,hbl,x0,x1,x2,x3,x4,x5⟩:=hfw.rw_.get6 (k:=k) (by simpa using hlt) (by rw[List.getElem_map,←hx];rfl)
    subst ea
    have hmr:=hfw.each x hxm
    have hwl:=HWL.out x hxm
    have hnsz:=HNS.out x hxm
    have hst:=chkF_step (ms:=xs.map MA.m) (k:=k) (by simpa using hlt) HP.out
    rw[List.getElem_map,←hx]at hst
    obtain⟨SN,hSN⟩:∃l,l=((xs.map MA.m).take k).map Mir.name:=⟨_,rfl⟩
    have hsn:=seen_at xs k x.m.name
    rw[←hSN]at hst hsn
    obtain⟨m,hm⟩:∃m,m=x.m:=⟨_,rfl⟩
    obtain⟨xA,hxA⟩:∃q,q=x.A:=⟨_,rfl⟩
    obtain⟨xc,hxc⟩:∃q,q=x.c:=⟨_,rfl⟩
    rw[←hm]at x0 x1 x2 x3 x4 x5 hmr hwl hnsz hst hsn
    rw[←hxA]at x3 hmr
    rw[←hxc]at x3 hmr
    have HST:=zh hst
    have HSN:=zh hSN
    have HSA:=zh hsn
    have ix0:(0:Int)≤(k:Int):=by omega
    have ix1:(k:Int)<(xs.length:Int):=by omega
    have ix2:(k:Int)≤(xs.length:Int):=by omega
    obtain⟨mb,hmb⟩:∃b,b=wr.heap.size:=⟨_,rfl⟩
    obtain⟨V,hV⟩:∃W,W=wr.alloc (.cells #[.string m.name,.string m.sec,.int .i64 m.loc,.slice xA m.way.length xc,.int .i64 m.left,.int .i64 m.heard] 107):=⟨_,rfl⟩
    have kV:V.heap[mb]? =some (.cells #[.string m.name,.string m.sec,.int .i64 m.loc,.slice xA m.way.length xc,.int .i64 m.left,.int .i64 m.heard] 107 (0,0)):=by rw[hV,hmb];exact heap_alloc_new wr _
    have hbV:Below wr.heap.size wr V:=by rw[hV];exact Below.alloc (Below.refl _ _) (Nat.le_refl _) _
    have hbV1:Below W1.heap.size W1 V:=hb.trans (hbV.mono hb.size)
    have HMV:=zh (show MirR V V.heap.size m xA xc from⟨hmr.way.to hbV,hmr.cap⟩)
    have HBV:=zh hbV
    have HBV1:=zh hbV1
    have HKV:=zh kV
    have HMB:=zh hmb
    have HV:=zh hV
    clear hx hm hxA hxc hSN hV hmb hst hsn
    go_upto_region 8 with fail
    rw[←HMB.out,←HV.out]
    have hcV:=(bcell hbV1).1
    have zV0:w.heap.size<V.heap.size:=Nat.lt_of_lt_of_le z0 hbV1.size
    have zV1:w.heap.size+1<V.heap.size:=Nat.lt_of_lt_of_le z1 hbV1.size
    have zVm:mb<V.heap.size:=blk_lt kV
    (obtain⟨p0,pf0,p1,pf1,p2,pf2,p3,pf3,p4,pf4,p5,pf5⟩:=cv6 kV)
    clear hxm hfw kV hbV hbV1 hmr hc1 x0 x1 x2 x3 x4 x5 pf0 pf1 pf2 pf3 pf4 pf5 hbl
    have hn1:=fun W=>rName_c m.name W hnsz.1
    have hn2:=fun W=>rName_c m.sec W hnsz.2
    cases h1:isNm m.name
    case false=>
     rw[h1]at hn1
     have HN1:=zh hn1
     have H1:=zh h1
     clear hn1 hn2 h1
     have HE:=zh (show stepE g tk SN m=8 by rw[stepE_eq,if_pos H1.out])
     have HNZ:=zh (show(8:Int)≠0 from by decide)
     have HR2:=zh (show fieldC g (fldOf tk ls xs)=8 by rw[HR.out,(HST.out).1 (by rw[HE.out];exact HNZ.out),HE.out])
     go_wp2_with (go_at_call 96;(with_reducible refine Calls.mono (HN1.out _) ?_);rintro e wA1 ⟨rfl,rfl⟩)
     go_ret
     exact⟨ret_int HR2.out.symm,HB0.out.trans ((HBV1.out.trans ((show Below V.heap.size V _ by exact zbl).mono HBV1.out.size)).mono HB0.out.size)⟩
    case true=>
     rw[h1]at hn1
     have HN1:=zh hn1
     have H1:=zh h1
     clear hn1 h1
     go_upto_region 10 with (go_at_call 96;(with_reducible refine Calls.mono (HN1.out _) ?_);rintro e wA1 ⟨rfl,rfl⟩)
     obtain⟨I,hI⟩:∃I,I=idxF (fun x:MA=>sEq x.m.name m.name) (xs.take k):=⟨_,rfl⟩
     have hm2:=HSA.out
     rw[←hI]at hm2
     have hcp:=HF.out.cap
     have ix3:(k:Int)≤(c:Int):=by omega
     have HAT:=zh (show ∀W,Below V.heap.size V W→Calls Tryz.prog 76 #[.agg #[.int .i64 0,.int .i64 0,.slice (some ⟨b,off,none⟩) k c],.string m.name] W fun e w'=>e=.returned (.int .i64 I)∧Below W.heap.size W w' from fun W h=>by
      have h4:=rAt_c 0 0 (some ⟨b,off,none⟩) c (xs.take k) m.name W (by rw[List.length_take];omega) (FldR.take (HF.out.to (HBV1.out.trans (h.mono HBV1.out.size))) k)
      rw[List.length_take,Nat.min_eq_left (by omega),←hI]at h4
      exact h4)
     clear hI hcp
     have H1n:=zh (show ¬isNm m.name=false by rw[H1.out];decide)
     cases h2:memS SN m.name
     case true=>
      rw[h2]at hm2
      have H2:=zh h2
      clear h2 hn2
      have HE:=zh (show stepE g tk SN m=9 by rw[stepE_eq,if_neg H1n.out,if_pos H2.out])
      have HNZ:=zh (show(9:Int)≠0 from by decide)
      have HR2:=zh (show fieldC g (fldOf tk ls xs)=9 by rw[HR.out,(HST.out).1 (by rw[HE.out];exact HNZ.out),HE.out])
      go_region_held3 (SHd V) ((refine Sh.goal ?_;exact zsh)) (first|(go_at_call 76;(with_reducible refine Calls.mono (HAT.out _ (by exact zbl)) ?_);rintro e wB ⟨rfl,hbB⟩;(have hq_wB:Below V.heap.size V wB:=by exact zbl);(have hp_wB:=(bcell hq_wB).1);(have hr_wB:=(bcell (HBV1.out.trans (hq_wB.mono HBV1.out.size))).1);(have y0_wB:w.heap.size<wB.heap.size:=Nat.lt_of_lt_of_le zV0 hq_wB.size);(have y1_wB:w.heap.size+1<wB.heap.size:=Nat.lt_of_lt_of_le zV1 hq_wB.size);(have ym_wB:mb<wB.heap.size:=Nat.lt_of_lt_of_le zVm hq_wB.size);clear hq_wB))
      rename_i hX
      clear hX
      go_wp2_with fail
      go_ret
      exact⟨ret_int HR2.out.symm,HB0.out.trans ((HBV1.out.trans ((show Below V.heap.size V _ by exact zbl).mono HBV1.out.size)).mono HB0.out.size)⟩
     case false=>
      rw[h2]at hm2
      have H2:=zh (show ¬memS SN m.name=true by rw[h2];decide)
      clear h2
      go_region_held3 (SHd V) ((refine Sh.goal ?_;exact zsh)) (first|(go_at_call 76;(with_reducible refine Calls.mono (HAT.out _ (by exact zbl)) ?_);rintro e wB ⟨rfl,hbB⟩;(have hq_wB:Below V.heap.size V wB:=by exact zbl);(have hp_wB:=(bcell hq_wB).1);(have hr_wB:=(bcell (HBV1.out.trans (hq_wB.mono HBV1.out.size))).1);(have y0_wB:w.heap.size<wB.heap.size:=Nat.lt_of_lt_of_le zV0 hq_wB.size);(have y1_wB:w.heap.size+1<wB.heap.size:=Nat.lt_of_lt_of_le zV1 hq_wB.size);(have ym_wB:mb<wB.heap.size:=Nat.lt_of_lt_of_le zVm hq_wB.size);clear hq_wB))
      rename_i hX
      clear hX
      go_upto_region 12 with fail
      cases h3:isNm m.sec
      case false=>
       rw[h3]at hn2
       have HN2:=zh hn2
       have H3:=zh h3
       clear hn2 h3 hm2
       have HE:=zh (show stepE g tk SN m=8 by rw[stepE_eq,if_neg H1n.out,if_neg H2.out,if_pos H3.out])
       have HNZ:=zh (show(8:Int)≠0 from by decide)
       have HR2:=zh (show fieldC g (fldOf tk ls xs)=8 by rw[HR.out,(HST.out).1 (by rw[HE.out];exact HNZ.out),HE.out])
       go_wp2_with (go_at_call 96;(with_reducible refine Calls.mono (HN2.out _) ?_);rintro e wA2 ⟨rfl,rfl⟩)
       go_ret
       exact⟨ret_int HR2.out.symm,HB0.out.trans ((HBV1.out.trans ((show Below V.heap.size V _ by exact zbl).mono HBV1.out.size)).mono HB0.out.size)⟩
      case true=>
       rw[h3]at hn2
       have HN2:=zh hn2
       have H3:=zh (show ¬isNm m.sec=false by rw[h3];decide)
       clear hn2 h3 hm2
       obtain⟨S4,hS4⟩:∃S,S=staC g m.loc:=⟨_,rfl⟩
       have HCS:=zh (show ∀W,GridR W W.heap.size a g→Calls Tryz.prog 22 #[(.agg #[.int .i64 g.blur,.slice a.pS g.sta.length a.cs,.slice a.pM g.mov.length a.cm,.slice a.pZ g.zon.length a.cz]),.int .i64 m.loc] W fun e w'=>e=.returned (.int .i64 S4)∧Below W.heap.size W w' from fun W h=>by rw[hS4];exact rStation_c a g m.loc W HOK.out h)
       have HS4:=zh hS4
       clear hS4
       cases h4:(S4 !=0)
       case true=>
        have H4:=zh (show staC g m.loc≠0 by rw[←HS4.out];simpa using h4)
        have HE:=zh (show stepE g tk SN m=staC g m.loc by rw[stepE_eq,if_neg H1n.out,if_neg H2.out,if_neg H3.out,if_pos H4.out])
        have HNZ:=zh (show(staC g m.loc:Int)≠0 from H4.out)
        have HR2:=zh (show fieldC g (fldOf tk ls xs)=staC g m.loc by rw[HR.out,(HST.out).1 (by rw[HE.out];exact HNZ.out),HE.out])
        go_wp2_with (first|(go_at_call 96;(with_reducible refine Calls.mono (HN2.out _) ?_);rintro e wA2 ⟨rfl,rfl⟩)|(go_at_call 22;(with_reducible refine Calls.mono (HCS.out _ (HG.out.to (HBV1.out.trans (Below.mono (by exact zbl) HBV1.out.size)))) ?_);rintro e wC ⟨rfl,hbC⟩;(have hq_wC:Below V.heap.size V wC:=by exact zbl);(have hp_wC:=(bcell hq_wC).1);(have hr_wC:=(bcell (HBV1.out.trans (hq_wC.mono HBV1.out.size))).1);(have y0_wC:w.heap.size<wC.heap.size:=Nat.lt_of_lt_of_le zV0 hq_wC.size);(have y1_wC:w.heap.size+1<wC.heap.size:=Nat.lt_of_lt_of_le zV1 hq_wC.size);(have ym_wC:mb<wC.heap.size:=Nat.lt_of_lt_of_le zVm hq_wC.size);clear hq_wC))
        go_ret
        exact⟨ret_int (HS4.out.trans HR2.out.symm),HB0.out.trans ((HBV1.out.trans ((show Below V.heap.size V _ by exact zbl).mono HBV1.out.size)).mono HB0.out.size)⟩
       case false=>
        have H4:=zh (show ¬staC g m.loc≠0 by rw[←HS4.out];simpa using h4)
        have HLOC:=zh (staC_zero (Classical.not_not.1 H4.out))
        cases h5:decide ((40:Int)<(m.way.length:Int))
        case true=>
         have H5:=zh (show 40<m.way.length by have:=of_decide_eq_true h5;omega)
         have h5n:decide (40<m.way.length)=true:=decide_eq_true H5.out
         have HE:=zh (show stepE g tk SN m=5 by rw[stepE_eq,if_neg H1n.out,if_neg H2.out,if_neg H3.out,if_neg H4.out,if_pos H5.out])
         have HNZ:=zh (show(5:Int)≠0 from by decide)
         have HR2:=zh (show fieldC g (fldOf tk ls xs)=5 by rw[HR.out,(HST.out).1 (by rw[HE.out];exact HNZ.out),HE.out])
         go_wp2_with (first|(go_at_call 96;(with_reducible refine Calls.mono (HN2.out _) ?_);rintro e wA2 ⟨rfl,rfl⟩)|(go_at_call 22;(with_reducible refine Calls.mono (HCS.out _ (HG.out.to (HBV1.out.trans (Below.mono (by exact zbl) HBV1.out.size)))) ?_);rintro e wC ⟨rfl,hbC⟩;(have hq_wC:Below V.heap.size V wC:=by exact zbl);(have hp_wC:=(bcell hq_wC).1);(have hr_wC:=(bcell (HBV1.out.trans (hq_wC.mono HBV1.out.size))).1);(have y0_wC:w.heap.size<wC.heap.size:=Nat.lt_of_lt_of_le zV0 hq_wC.size);(have y1_wC:w.heap.size+1<wC.heap.size:=Nat.lt_of_lt_of_le zV1 hq_wC.size);(have ym_wC:mb<wC.heap.size:=Nat.lt_of_lt_of_le zVm hq_wC.size);clear hq_wC))
         go_ret
         exact⟨ret_int HR2.out.symm,HB0.out.trans ((HBV1.out.trans ((show Below V.heap.size V _ by exact zbl).mono HBV1.out.size)).mono HB0.out.size)⟩
        case false=>
         have H5:=zh (show ¬40<m.way.length by have:=of_decide_eq_false h5;omega)
         have h5n:decide (40<m.way.length)=false:=decide_eq_false H5.out
         go_upto_region 21 with (first|(go_at_call 96;(with_reducible refine Calls.mono (HN2.out _) ?_);rintro e wA2 ⟨rfl,rfl⟩)|(go_at_call 22;(with_reducible refine Calls.mono (HCS.out _ (HG.out.to (HBV1.out.trans (Below.mono (by exact zbl) HBV1.out.size)))) ?_);rintro e wC ⟨rfl,hbC⟩;(have hq_wC:Below V.heap.size V wC:=by exact zbl);(have hp_wC:=(bcell hq_wC).1);(have hr_wC:=(bcell (HBV1.out.trans (hq_wC.mono HBV1.out.size))).1);(have y0_wC:w.heap.size<wC.heap.size:=Nat.lt_of_lt_of_le zV0 hq_wC.size);(have y1_wC:w.heap.size+1<wC.heap.size:=Nat.lt_of_lt_of_le zV1 hq_wC.size);(have ym_wC:mb<wC.heap.size:=Nat.lt_of_lt_of_le zVm hq_wC.size);clear hq_wC))
         have H5n:=H5
         clear h4 h5 h5n
         go_wp2_with fail
         go_loopw [9,10] (fun s9 s10 wv=>∃(j:Nat) (at_:Int),j≤m.way.length∧s9=.int .i64 at_∧s10=.int .i64 j∧Hid (chkW g at_ (m.way.drop j)=chkW g m.loc m.way)∧Below V.heap.size V wv) (fun _ s10 _=>m.way.length-(intOf s10).toNat)
         case atStart=>exact⟨0,m.loc,Nat.zero_le _,rfl,rfl,zh (by simp),by exact zbl⟩
         case round=>
          obtain⟨j,at_,hj,rfl,rfl,HC,hbv⟩:=hrel
          have hp_wr:=(bcell hbv).1
          have hbw1:=HBV1.out.trans (hbv.mono HBV1.out.size)
          have hr_wr:=(bcell hbw1).1
          have y0_wr:w.heap.size<wr.heap.size:=Nat.lt_of_lt_of_le zV0 hbv.size
          have y1_wr:w.heap.size+1<wr.heap.size:=Nat.lt_of_lt_of_le zV1 hbv.size
          have ym_wr:mb<wr.heap.size:=Nat.lt_of_lt_of_le zVm hbv.size
          by_cases hlj:j<m.way.length
          ·obtain⟨bA,oA,eA,hbA,hcA⟩:=HMV.out.way.at (by intro h;rw[h]at hlj;simp at hlj)
           subst eA
           obtain⟨v,hv⟩:∃v,v=m.way[j]:=⟨_,rfl⟩
           have yv:V.cell? ⟨bA,oA+j,none⟩=some (.int .i64 v):=by rw[hv];exact hcA j hlj
           have ybw:bA<wr.heap.size:=Nat.lt_of_lt_of_le hbA hbv.size
           have yr:wr.cell? ⟨bA,oA+j,none⟩=some (.int .i64 v):=(hbv.cell (p:=⟨bA,oA+j,none⟩) hbA).trans yv
           have hcw:=(chkW_at hlj at_ (g:=g)).symm.trans HC.out
           rw[←hv]at hcw
           have ij0:(0:Int)≤(j:Int):=by omega
           have ij1:(j:Int)<(m.way.length:Int):=by omega
           have hhs:=fun W=>has_r a g v W
           clear hv hcA
           cases h6:hasB g v
           case false=>
            rw[h6]at hcw hhs
            have HHAS:=zh hhs
            have HCH:=zh (show chkW g m.loc m.way=10 by rw[←hcw];rfl)
            have H6:=zh (show chkW g m.loc m.way≠0 by rw[HCH.out];decide)
            clear hcw hhs h6
            have HE:=zh (show stepE g tk SN m=10 by rw[stepE_eq,if_neg H1n.out,if_neg H2.out,if_neg H3.out,if_neg H4.out,if_neg H5.out,if_pos H6.out,HCH.out])
            have HNZ:=zh (show(10:Int)≠0 from by decide)
            have HR2:=zh (show fieldC g (fldOf tk ls xs)=10 by rw[HR.out,(HST.out).1 (by rw[HE.out];exact HNZ.out),HE.out])
            go_upto_region 23 with fail
            go_region_held3 (SHd wr) ((refine Sh.goal ?_;exact zsh)) (first|(go_at_call 98;(with_reducible refine Calls.mono (HHAS.out _) ?_);rintro e wF ⟨rfl,hbF⟩;(have hq_wF:Below V.heap.size V wF:=by exact zbl);(have hp_wF:=(bcell hq_wF).1);(have hr_wF:=(bcell (HBV1.out.trans (hq_wF.mono HBV1.out.size))).1);(have y0_wF:w.heap.size<wF.heap.size:=Nat.lt_of_lt_of_le zV0 hq_wF.size);(have y1_wF:w.heap.size+1<wF.heap.size:=Nat.lt_of_lt_of_le zV1 hq_wF.size);(have ym_wF:mb<wF.heap.size:=Nat.lt_of_lt_of_le zVm hq_wF.size);(have yx_wF:=(hq_wF.cell (p:=⟨bA,oA+j,none⟩) hbA).trans yv);(have yb_wF:bA<wF.heap.size:=Nat.lt_of_lt_of_le hbA hq_wF.size);clear hq_wF))
            rename_i hX
            clear hX
            go_wp2_with fail
            go_ret
            exact⟨ret_int HR2.out.symm,HB0.out.trans ((HBV1.out.trans ((show Below V.heap.size V _ by exact zbl).mono HBV1.out.size)).mono HB0.out.size)⟩
           case true=>
            rw[h6,if_pos rfl]at hcw
            rw[h6]at hhs
            have HHAS:=zh hhs
            obtain⟨LV,hLV⟩:∃L,L=lnk g at_ v:=⟨_,rfl⟩
            have HLNK:=zh (show ∀W,GridR W W.heap.size a g→Calls Tryz.prog 113 #[(.agg #[.int .i64 g.blur,.slice a.pS g.sta.length a.cs,.slice a.pM g.mov.length a.cm,.slice a.pZ g.zon.length a.cz]),.int .i64 at_,.int .i64 v] W fun e w'=>e=.returned (.int .i64 LV)∧Below W.heap.size W w' from fun W h=>by rw[hLV];exact rLinked_c a g at_ v W HOK.out h)
            rw[←hLV]at hcw
            clear hhs h6 hLV
            cases h7:(LV==0)
            case true=>
             have h7e:LV=0:=by simpa using h7
             have HCH:=zh (show chkW g m.loc m.way=21 by rw[←hcw,if_pos h7e])
             have H6:=zh (show chkW g m.loc m.way≠0 by rw[HCH.out];decide)
             clear hcw h7e
             have HE:=zh (show stepE g tk SN m=21 by rw[stepE_eq,if_neg H1n.out,if_neg H2.out,if_neg H3.out,if_neg H4.out,if_neg H5.out,if_pos H6.out,HCH.out])
             have HNZ:=zh (show(21:Int)≠0 from by decide)
             have HR2:=zh (show fieldC g (fldOf tk ls xs)=21 by rw[HR.out,(HST.out).1 (by rw[HE.out];exact HNZ.out),HE.out])
             go_upto_region 23 with fail
             go_region_held3 (SHd wr) ((refine Sh.goal ?_;exact zsh)) (first|(go_at_call 98;(with_reducible refine Calls.mono (HHAS.out _) ?_);rintro e wF ⟨rfl,hbF⟩;(have hq_wF:Below V.heap.size V wF:=by exact zbl);(have hp_wF:=(bcell hq_wF).1);(have hr_wF:=(bcell (HBV1.out.trans (hq_wF.mono HBV1.out.size))).1);(have y0_wF:w.heap.size<wF.heap.size:=Nat.lt_of_lt_of_le zV0 hq_wF.size);(have y1_wF:w.heap.size+1<wF.heap.size:=Nat.lt_of_lt_of_le zV1 hq_wF.size);(have ym_wF:mb<wF.heap.size:=Nat.lt_of_lt_of_le zVm hq_wF.size);(have yx_wF:=(hq_wF.cell (p:=⟨bA,oA+j,none⟩) hbA).trans yv);(have yb_wF:bA<wF.heap.size:=Nat.lt_of_lt_of_le hbA hq_wF.size);clear hq_wF))
             rename_i hX
             clear hX
             go_upto_region 25 with fail
             go_region_held3 (SHd wF) ((refine Sh.goal ?_;exact zsh)) (first|(go_at_call 113;(with_reducible refine Calls.mono (HLNK.out _ (HG.out.to (HBV1.out.trans (Below.mono (by exact zbl) HBV1.out.size)))) ?_);rintro e wG ⟨rfl,hbG⟩;(have hq_wG:Below V.heap.size V wG:=by exact zbl);(have hp_wG:=(bcell hq_wG).1);(have hr_wG:=(bcell (HBV1.out.trans (hq_wG.mono HBV1.out.size))).1);(have y0_wG:w.heap.size<wG.heap.size:=Nat.lt_of_lt_of_le zV0 hq_wG.size);(have y1_wG:w.heap.size+1<wG.heap.size:=Nat.lt_of_lt_of_le zV1 hq_wG.size);(have ym_wG:mb<wG.heap.size:=Nat.lt_of_lt_of_le zVm hq_wG.size);(have yx_wG:=(hq_wG.cell (p:=⟨bA,oA+j,none⟩) hbA).trans yv);(have yb_wG:bA<wG.heap.size:=Nat.lt_of_lt_of_le hbA hq_wG.size);clear hq_wG))
             rename_i hX
             clear hX
             go_wp2_with fail
             go_ret
             exact⟨ret_int HR2.out.symm,HB0.out.trans ((HBV1.out.trans ((show Below V.heap.size V _ by exact zbl).mono HBV1.out.size)).mono HB0.out.size)⟩
            case false=>
             have h7e:¬LV=0:=by simpa using h7
             have HC2:=zh (show chkW g v (m.way.drop (j+1))=chkW g m.loc m.way by rw[←hcw,if_neg h7e])
             clear hcw h7e
             go_upto_region 23 with fail
             go_region_held3 (SHd wr) ((refine Sh.goal ?_;exact zsh)) (first|(go_at_call 98;(with_reducible refine Calls.mono (HHAS.out _) ?_);rintro e wF ⟨rfl,hbF⟩;(have hq_wF:Below V.heap.size V wF:=by exact zbl);(have hp_wF:=(bcell hq_wF).1);(have hr_wF:=(bcell (HBV1.out.trans (hq_wF.mono HBV1.out.size))).1);(have y0_wF:w.heap.size<wF.heap.size:=Nat.lt_of_lt_of_le zV0 hq_wF.size);(have y1_wF:w.heap.size+1<wF.heap.size:=Nat.lt_of_lt_of_le zV1 hq_wF.size);(have ym_wF:mb<wF.heap.size:=Nat.lt_of_lt_of_le zVm hq_wF.size);(have yx_wF:=(hq_wF.cell (p:=⟨bA,oA+j,none⟩) hbA).trans yv);(have yb_wF:bA<wF.heap.size:=Nat.lt_of_lt_of_le hbA hq_wF.size);clear hq_wF))
             rename_i hX
             clear hX
             go_upto_region 25 with fail
             go_region_held3 (SHd wF) ((refine Sh.goal ?_;exact zsh)) (first|(go_at_call 113;(with_reducible refine Calls.mono (HLNK.out _ (HG.out.to (HBV1.out.trans (Below.mono (by exact zbl) HBV1.out.size)))) ?_);rintro e wG ⟨rfl,hbG⟩;(have hq_wG:Below V.heap.size V wG:=by exact zbl);(have hp_wG:=(bcell hq_wG).1);(have hr_wG:=(bcell (HBV1.out.trans (hq_wG.mono HBV1.out.size))).1);(have y0_wG:w.heap.size<wG.heap.size:=Nat.lt_of_lt_of_le zV0 hq_wG.size);(have y1_wG:w.heap.size+1<wG.heap.size:=Nat.lt_of_lt_of_le zV1 hq_wG.size);(have ym_wG:mb<wG.heap.size:=Nat.lt_of_lt_of_le zVm hq_wG.size);(have yx_wG:=(hq_wG.cell (p:=⟨bA,oA+j,none⟩) hbA).trans yv);(have yb_wG:bA<wG.heap.size:=Nat.lt_of_lt_of_le hbA hq_wG.size);clear hq_wG))
             rename_i hX
             clear hX
             go_wp2_with fail
             go_roundw
             case rel=>first|exact⟨j+1,v,by omega,rfl,by go_num,HC2,by exact zbl⟩|((repeat apply Exists.intro);refine⟨?_,rfl⟩;exact⟨j+1,v,by omega,rfl,by go_num,HC2,by exact zbl⟩)
             case measure=>simp[intOf];omega
          ·have hjl:j=m.way.length:=by omega
           have h1:=HC.out
           rw[hjl,List.drop_length,chkW]at h1
           have H6:=zh (show ¬chkW g m.loc m.way≠0 by rw[←h1];simp)
           have HCW:=zh h1.symm
           have HTR:=zh (show 0≤turnM m∧turnM m<g.sta.length from by
            have h:=HCW.out
            unfold turnM
            cases hw:m.way with
            |nil=>exact HLOC.out.1
            |cons a l=>rw[hw]at h;exact hasB_iff.1 (chkW_cons.1 h).1)
           clear h1 hjl
           go_upto_region 28 with fail
           obtain⟨LBv,hLBv⟩:∃b,b=leftBad g m:=⟨_,rfl⟩
           have HLB:=zh hLBv
           clear hLBv
           go_cut [133] (fun s133 wx=>s133=.bool LBv∧Below V.heap.size V wx)
           case first=>
            by_cases hw:m.way= []
            ·have hwl0:m.way.length=0:=by rw[hw];rfl
             rw[hwl0]at p3
             cases h8:(m.left !=0)
             case false=>
              have HL:=zh (show leftBad g m=false by unfold leftBad;rw[if_pos hw];simpa using h8)
              clear hw hwl0
              go_quiet (fail)
              go_wp2_with fail
              go_meet
              exact⟨by rw[HLB.out,HL.out],by exact zbl⟩
             case true=>
              have HL:=zh (show leftBad g m=true by unfold leftBad;rw[if_pos hw];simpa using h8)
              clear hw hwl0
              go_quiet (fail)
              go_wp2_with fail
              go_meet
              exact⟨by rw[HLB.out,HL.out],by exact zbl⟩
            ·have hLB:leftBad g m=(decide (m.left<1)||decide (lnk g m.loc (turnM m)<m.left)):=by unfold leftBad;rw[if_neg hw]
             obtain⟨bA,oA,eA,hbA,hcA⟩:=HMV.out.way.at hw
             subst eA
             obtain⟨q,rest,hqr⟩:∃q rest,m.way=q::rest:=by cases h:m.way with|nil=>exact absurd h hw|cons q rest=>exact⟨q,rest,rfl⟩
             have hqt:turnM m=q:=by unfold turnM;rw[hqr];rfl
             have yq:V.cell? ⟨bA,oA,none⟩=some (.int .i64 q):=by
              have h:=hcA 0 (by rw[hqr];simp)
              simp only[hqr,List.getElem_cons_zero,Nat.add_zero]at h
              exact h
             have hnp:0<m.way.length:=by rw[hqr];simp
             obtain⟨n,hn⟩:∃n,n=m.way.length:=⟨_,rfl⟩
             rw[←hn]at p3 hnp
             have hnI:(0:Int)<(n:Int):=by omega
             have hn0:((n:Int)==0)=false:=by rw[beq_eq_false_iff_ne];omega
             have hn1:decide ((0:Int)<(n:Int))=true:=decide_eq_true hnI
             have hn1b:decide (0<n)=true:=decide_eq_true hnp
             rw[hqt]at hLB
             clear hw hqr hqt hcA hn
             cases h9:decide (m.left<1)
             case true=>
              have HL:=zh (show leftBad g m=true by rw[hLB,h9,Bool.true_or])
              clear hLB
              go_quiet (fail)
              go_wp2_with fail
              go_meet
              exact⟨by rw[HLB.out,HL.out],by exact zbl⟩
             case false=>
              have HL:=zh (show leftBad g m=decide (lnk g m.loc q<m.left) by rw[hLB,h9,Bool.false_or])
              have HBV2:=zh hbv
              refine cfr_r wr a g n xc w.heap.size mb bA oA m.loc m.left q (lnk g m.loc q) ((hr_wr _ 0 z0).trans d0) ((hr_wr _ 1 z0).trans d1) ((hr_wr _ 2 z0).trans d2) ((hr_wr _ 3 z0).trans d3) ((hp_wr _ 2 zVm).trans p2) ((hp_wr _ 3 zVm).trans p3) ((hp_wr _ 4 zVm).trans p4) ((hp_wr _ _ hbA).trans yq) hn0 hn1 hnI hnp h9 (fun W h=>rLinked_c a g m.loc q W HOK.out (HG.out.to (hbw1.trans (h.mono hbw1.size)))) _ _ _ _ _ _ _ _ _ _ _ _ _ _ _ _ _ _ _ _ _ _ _ _ _ _ _ _ _ _ _ _ _ _ _ _ _ _ _ _ _ _ _ _ _ _ _ _ _ _ _ _ _ _ _ _ _ _ _ _ _ _ _ _ _ _ _ _ _ _ _ _ _ _ _ _ _ _ _ _ _ _ _ _ _ _ _ _ _ _ _ _ _ _ _ _ _ _ _ _ _ _ _ _ _ _ _ _ _ _ _ _ _ _ _ _ _ _ _ _ _ _ _ _ _ _ _ _ _ _ _ _ _ _ _ _ _ _ _ _ _ _ _ _ _ _ _ ?_
              intro v101 v102 v103 v104 v105 v106 v107 v108 v109 v110 v111 v112 v113 v114 v115 v116 v117 v118 v119 v120 v121 v122 v123 v124 v125 v126 v127 v128 v129 v130 v131 v132 wx hbx
              dsimp only
              clear hLB h9 hn0 hn1 hn1b
              go_wp2_with fail
              go_meet
              exact⟨by rw[HLB.out,HL.out],HBV2.out.trans (hbx.mono HBV2.out.size)⟩
           case rest=>
            obtain⟨rfl,hbx⟩:=hcut
            obtain⟨W8,rfl⟩:∃W,W=wc:=⟨wc,rfl⟩
            clear hp_wr hr_wr y0_wr y1_wr ym_wr hbw1 hbv
            have hp_8:=(bcell hbx).1
            have hr_8:=(bcell (HBV1.out.trans (hbx.mono HBV1.out.size))).1
            have y0_8:w.heap.size<W8.heap.size:=Nat.lt_of_lt_of_le zV0 hbx.size
            have y1_8:w.heap.size+1<W8.heap.size:=Nat.lt_of_lt_of_le zV1 hbx.size
            have ym_8:mb<W8.heap.size:=Nat.lt_of_lt_of_le zVm hbx.size
            cases LBv
            case true=>
             have H8:=zh HLB.out.symm
             have HE:=zh (show stepE g tk SN m=3 by rw[stepE_eq,if_neg H1n.out,if_neg H2.out,if_neg H3.out,if_neg H4.out,if_neg H5.out,if_neg H6.out,if_pos H8.out])
             have HNZ:=zh (show(3:Int)≠0 from by decide)
             have HR2:=zh (show fieldC g (fldOf tk ls xs)=3 by rw[HR.out,(HST.out).1 (by rw[HE.out];exact HNZ.out),HE.out])
             go_wp2_with fail
             go_ret
             exact⟨ret_int HR2.out.symm,HB0.out.trans ((HBV1.out.trans ((show Below V.heap.size V _ by exact zbl).mono HBV1.out.size)).mono HB0.out.size)⟩
            case false=>
             have H8:=zh (show ¬leftBad g m=true by rw[←HLB.out];decide)
             obtain⟨R9,hR9⟩:∃R,R=rng m.heard 0 tk:=⟨_,rfl⟩
             have HRR:=zh (show ∀W,Calls Tryz.prog 99 #[.int .i64 m.heard,.int .i64 0,.int .i64 tk] W fun e w'=>e=.returned (.int .i64 R9)∧W=w' from fun W=>by rw[hR9];exact rRange_c _ _ _ W)
             have HR9:=zh hR9
             clear hR9
             cases h9:(R9 !=0)
             case true=>
              have H9:=zh (show rng m.heard 0 tk≠0 by rw[←HR9.out];simpa using h9)
              have HE:=zh (show stepE g tk SN m=rng m.heard 0 tk by rw[stepE_eq,if_neg H1n.out,if_neg H2.out,if_neg H3.out,if_neg H4.out,if_neg H5.out,if_neg H6.out,if_neg H8.out,if_pos H9.out])
              have HNZ:=zh (show(rng m.heard 0 tk:Int)≠0 from H9.out)
              have HR2:=zh (show fieldC g (fldOf tk ls xs)=rng m.heard 0 tk by rw[HR.out,(HST.out).1 (by rw[HE.out];exact HNZ.out),HE.out])
              go_wp2_with (go_at_call 99;(with_reducible refine Calls.mono (HRR.out _) ?_);rintro e wJ ⟨rfl,rfl⟩)
              go_ret
              exact⟨ret_int (HR9.out.trans HR2.out.symm),HB0.out.trans ((HBV1.out.trans ((show Below V.heap.size V _ by exact zbl).mono HBV1.out.size)).mono HB0.out.size)⟩
             case false=>
              have H9:=zh (show ¬rng m.heard 0 tk≠0 by rw[←HR9.out];simpa using h9)
              obtain⟨HV,hHV⟩:∃R,R=homeG g (turnM m):=⟨_,rfl⟩
              have HTU:=zh (fun W (h:MirR W W.heap.size m xA xc)=>rTurn_c m xA xc W h)
              have HHM:=zh (show ∀W,GridR W W.heap.size a g→Calls Tryz.prog 101 #[(.agg #[.int .i64 g.blur,.slice a.pS g.sta.length a.cs,.slice a.pM g.mov.length a.cm,.slice a.pZ g.zon.length a.cz]),.int .i64 (turnM m)] W fun e w'=>e=.returned (.int .i64 HV)∧Below W.heap.size W w' from fun W h=>by rw[hHV];exact rHome_c a g (turnM m) W HOK.out HU.out HTR.out h)
              have HHV:=zh hHV
              clear hHV
              cases h10:decide (HV<0)
              case true=>
               have H10:=zh (show homeG g (turnM m)<0 by rw[←HHV.out];exact of_decide_eq_true h10)
               have HE:=zh (show stepE g tk SN m=7 by rw[stepE_eq,if_neg H1n.out,if_neg H2.out,if_neg H3.out,if_neg H4.out,if_neg H5.out,if_neg H6.out,if_neg H8.out,if_neg H9.out,if_pos H10.out])
               have HNZ:=zh (show(7:Int)≠0 from by decide)
               have HR2:=zh (show fieldC g (fldOf tk ls xs)=7 by rw[HR.out,(HST.out).1 (by rw[HE.out];exact HNZ.out),HE.out])
               go_upto_region 33 with (go_at_call 99;(with_reducible refine Calls.mono (HRR.out _) ?_);rintro e wJ ⟨rfl,rfl⟩)
               go_region_held3 (SHd W8) ((refine Sh.goal ?_;exact zsh)) (first|(go_at_call 119;(with_reducible refine Calls.mono (HTU.out _ ⟨HMV.out.way.to (by exact zbl),HMV.out.cap⟩) ?_);rintro e wK ⟨rfl,hbK⟩)|(go_at_call 101;(with_reducible refine Calls.mono (HHM.out _ (HG.out.to (HBV1.out.trans (Below.mono (by exact zbl) HBV1.out.size)))) ?_);rintro e wL ⟨rfl,hbL⟩))
               rename_i hX
               clear hX
               go_wp2_with fail
               go_ret
               exact⟨ret_int HR2.out.symm,HB0.out.trans ((HBV1.out.trans ((show Below V.heap.size V _ by exact zbl).mono HBV1.out.size)).mono HB0.out.size)⟩
              case false=>
               have H10:=zh (show ¬homeG g (turnM m)<0 by rw[←HHV.out];exact of_decide_eq_false h10)
               have HP2:=zh (HST.out.2 (by rw[stepE_eq,if_neg H1n.out,if_neg H2.out,if_neg H3.out,if_neg H4.out,if_neg H5.out,if_neg H6.out,if_neg H8.out,if_neg H9.out,if_neg H10.out]))
               go_upto_region 33 with (go_at_call 99;(with_reducible refine Calls.mono (HRR.out _) ?_);rintro e wJ ⟨rfl,rfl⟩)
               go_region_held3 (SHd W8) ((refine Sh.goal ?_;exact zsh)) (first|(go_at_call 119;(with_reducible refine Calls.mono (HTU.out _ ⟨HMV.out.way.to (by exact zbl),HMV.out.cap⟩) ?_);rintro e wK ⟨rfl,hbK⟩)|(go_at_call 101;(with_reducible refine Calls.mono (HHM.out _ (HG.out.to (HBV1.out.trans (Below.mono (by exact zbl) HBV1.out.size)))) ?_);rintro e wL ⟨rfl,hbL⟩))
               rename_i hX
               clear hX
               go_wp2_with fail
               go_roundw
               case rel=>first|exact⟨k+1,by omega,by go_num,HP2,HBV1.out.trans ((show Below V.heap.size V _ by exact zbl).mono HBV1.out.size)⟩|((repeat apply Exists.intro);refine⟨?_,rfl⟩;exact⟨k+1,by omega,by go_num,HP2,HBV1.out.trans ((show Below V.heap.size V _ by exact zbl).mono HBV1.out.size)⟩)
               case measure=>simp[intOf];omega
   ·have hkl:k=xs.length:=by omega
    have h1:=HP.out
    rw[hkl,show(xs.map MA.m).drop xs.length= [] by rw[←List.length_map (f:=MA.m),List.drop_length],chkF]at h1
    have HR2:=zh (HR.out.trans h1.symm)
    clear h1 hkl
    go_wp2_with fail
    go_ret
    exact⟨ret_int HR2.out.symm,HB0.out.trans (hb.mono HB0.out.size)⟩
end Go.Proofs.YtehnikhicnnnhaaGreatDoor
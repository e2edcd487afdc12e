/- Sector. | BeamDark, the plain law: dark after the deadline, what a defocused sector and a taken mirror are. -/
import Derived.Test.YtehnikhicnnnhaaGreatDoorPa24
import Derived.Test.YtehnikhicnnnhaaGreatDoorPa64
namespace Go.Proofs.YtehnikhicnnnhaaGreatDoor
open Go.RowKit
def secF(g:Grd)(f:Fld)(s:ByteArray):List ByteArray:=if defE g f s=0 then secL f s else []
set_option maxRecDepth 100000 in
set_option maxHeartbeats 4000000 in
theorem Sector_c(a:GA)(g:Grd)(tk ls:Int)(A:Option Addr)(c:Nat)(xs:List MA)(s:ByteArray)(w:World)(hs:SmallG g)(hsf:SmallF xs)(hr:GridR w w.heap.size a g)(hkd:KindsAt w)(hf:FldR w w.heap.size A c xs)(hss:s.size≤100000):
 Calls Tryz.prog 69 #[(.agg #[.int .i64 g.blur,.slice a.pS g.sta.length a.cs,.slice a.pM g.mov.length a.cm,.slice a.pZ g.zon.length a.cz]),(.agg #[.int .i64 tk,.int .i64 ls,.slice A xs.length c]),.string s] w fun e w'=>∃v,e=.returned (.tuple #[v,.int .i64 (defE g (fldOf tk ls xs) s)])∧OwnS w' w.heap.size v (secF g (fldOf tk ls xs) s)∧Below w.heap.size w w':=by
 obtain⟨W0,hW0⟩:∃W0,W0=(w.alloc (.cells #[.int .i64 g.blur,.slice a.pS g.sta.length a.cs,.slice a.pM g.mov.length a.cm,.slice a.pZ g.zon.length a.cz] 38)).alloc (.cells #[.int .i64 tk,.int .i64 ls,.slice A xs.length c] 72):=⟨_,rfl⟩
 have hB0:Below w.heap.size w W0:=by rw[hW0];exact zbl
 have k0:W0.heap[w.heap.size]? =some (.cells #[.int .i64 g.blur,.slice a.pS g.sta.length a.cs,.slice a.pM g.mov.length a.cm,.slice a.pZ g.zon.length a.cz] 38 (0,0)):=by rw[hW0];exact(Below.heap_alloc _ _ _ (by simp)).trans (heap_alloc_new w _)
 have k1:W0.heap[w.heap.size+1]? =some (.cells #[.int .i64 tk,.int .i64 ls,.slice A xs.length c] 72 (0,0)):=by rw[hW0];exact heap_two w _ _
 have HG:=zh (hr.to hB0)
 have HK:=zh (hkd.to hB0)
 have HF:=zh (FldR.to hf hB0)
 have HB0:=zh hB0
 have HS:=zh hs
 have HSF:=zh hsf
 have hl:=hsf.n
 have K1:=zh k1
 have z1:=blk_lt k1
 (obtain⟨g0,g1,g2,g3⟩:=cg4 k0)
 (obtain⟨q0,qf0,q1,qf1,q2,qf2⟩:=cv3 k1)
 clear hr hkd hf hB0 hs hsf k0 k1 qf0 qf1 qf2
 obtain⟨B,hB⟩:∃B,B=fieldC g (fldOf tk ls xs):=⟨_,rfl⟩
 obtain⟨E,hE⟩:∃E,E=secE (fldOf tk ls xs) s:=⟨_,rfl⟩
 have HB:=zh hB
 have HE:=zh hE
 have HCF:=zh (show Calls Tryz.prog 44 #[(.agg #[.int .i64 g.blur,.slice a.pS g.sta.length a.cs,.slice a.pM g.mov.length a.cm,.slice a.pZ g.zon.length a.cz]),(.agg #[.int .i64 tk,.int .i64 ls,.slice A xs.length c])] W0 fun e w'=>e=.returned (.int .i64 B)∧Below W0.heap.size W0 w' by rw[hB];exact CheckField_c a g tk ls A c xs _ HS.out HSF.out HG.out HK.out HF.out)
 have HSC:=zh (fun W (h:FldR W W.heap.size A c xs)=>(show Calls Tryz.prog 138 #[(.agg #[.int .i64 tk,.int .i64 ls,.slice A xs.length c]),.string s] W fun e w'=>∃v,e=.returned (.tuple #[v,.int .i64 E])∧OwnS w' W.heap.size v (secL (fldOf tk ls xs) s)∧Below W.heap.size W w' by rw[hE];exact sector_c tk ls A c xs s W hl hss h))
 clear hB hE
 go_enter Tryz.func69,Tryz.ntmps69
 go_upto_region 1 with fail
 rw[←hW0]
 clear hW0
 cases hb0:(B !=0)
 case true=>
  have hne:B≠0:=by simpa using hb0
  have HD:=zh (show defE g (fldOf tk ls xs) s=B by unfold defE;rw[←HB.out,if_neg hne])
  have HNE:=zh hne
  clear hne
  go_wp2_with (go_at_call 44;(with_reducible refine Calls.mono HCF.out ?_);rintro e w1 ⟨rfl,hb1⟩)
  go_ret2
  exact⟨_,by rw[HD.out];rfl,by unfold secF;rw[HD.out,if_neg HNE.out];exact OwnS.nil_ _ _,HB0.out.trans (hb1.mono HB0.out.size)⟩
 case false=>
  have heq:B=0:=by simpa using hb0
  have HD:=zh (show defE g (fldOf tk ls xs) s=E by unfold defE;rw[←HB.out,if_pos heq,HE.out])
  clear heq
  cases he0:(E !=0)
  case true=>
   have HNE:=zh (show E≠0 by simpa using he0)
   go_wp2_with (first|(go_at_call 44;(with_reducible refine Calls.mono HCF.out ?_);rintro e w1 ⟨rfl,hb1⟩;(have k1:=(hb1.block (w.heap.size+1) z1).trans K1.out);clear q0 q1 q2;(obtain⟨q0,qf0,q1,qf1,q2,qf2⟩:=cv3 k1);clear k1 qf0 qf1 qf2)|(go_at_call 138;(with_reducible refine Calls.mono (HSC.out _ (HF.out.to hb1)) ?_);rintro e w2 ⟨v,rfl,ho,hb2⟩;clear ho))
   go_ret2
   exact⟨_,by rw[HD.out];rfl,by unfold secF;rw[HD.out,if_neg HNE.out];exact OwnS.nil_ _ _,HB0.out.trans ((hb1.trans (hb2.mono hb1.size)).mono HB0.out.size)⟩
  case false=>
   have HEQ:=zh (show E=0 by simpa using he0)
   go_wp2_with (first|(go_at_call 44;(with_reducible refine Calls.mono HCF.out ?_);rintro e w1 ⟨rfl,hb1⟩;(have k1:=(hb1.block (w.heap.size+1) z1).trans K1.out);clear q0 q1 q2;(obtain⟨q0,qf0,q1,qf1,q2,qf2⟩:=cv3 k1);clear k1 qf0 qf1 qf2)|(go_at_call 138;(with_reducible refine Calls.mono (HSC.out _ (HF.out.to hb1)) ?_);rintro e w2 ⟨v,rfl,ho,hb2⟩;(have HO:=zh ho);clear ho))
   go_ret2
   exact⟨_,by rw[HD.out,HEQ.out];rfl,by unfold secF;rw[HD.out,if_pos HEQ.out];exact HO.out.mono (Nat.le_trans HB0.out.size hb1.size),HB0.out.trans ((hb1.trans (hb2.mono hb1.size)).mono HB0.out.size)⟩
end Go.Proofs.YtehnikhicnnnhaaGreatDoor
namespace Go.Proofs.YtehnikhicnnnhaaGreatDoor
theorem sEq_iff{a b:ByteArray}:sEq a b=true↔a=b:=⟨fun h=>ba_toList (by rw[←sEqL]at h;exact eq_of_beq h),fun h=>by rw[h];exact sEq_refl b⟩
theorem memS_iff{l:List ByteArray}{s:ByteArray}:memS l s=true↔s∈l:=by
 unfold memS
 rw[List.any_eq_true]
 exact⟨fun⟨x,hx,h⟩=>by rw[sEq_iff.1 h];exact hx,fun h=>⟨s,h,sEq_refl s⟩⟩
theorem idxF_hit{α:Type}{p:α→Bool}:∀{l:List α} {i:Nat},idxF p l=(i:Int)→∀h:i<l.length,p l[i]=true
 |x::l,i,h,hl=>by
  unfold idxF at h
  split at h
  ·rename_i hp
   have:i=0:=by omega
   subst this;exact hp
  ·split at h
   ·omega
   ·obtain⟨j,rfl⟩:∃j,i=j+1:=⟨i-1,by omega⟩
    exact idxF_hit (l:=l) (i:=j) (by omega) (by simpa using hl)
theorem stepN_add(g:Grd)(f:Fld)(q:Nat):∀m,stepN g (stepN g f q) m=stepN g f (q+m)
 |0=>rfl
 |m+1=>by show stepG g _=stepG g _;rw[stepN_add g f q m];rfl
theorem run_empty(g:Grd)(f:Fld):∀k,runG g f (List.replicate k [])=stepN g f k
 |0=>rfl
 |k+1=>by
  rw[List.replicate_succ',run_snoc,run_empty g f k]
  rfl
theorem sf_step{g:Grd}{f0:Fld}(hns:g.sta.length≤12)(h:Sf g f0 f0):∀k:Nat,f0.tick+k≤10000000→Sf g f0 (stepN g f0 k)∧(stepN g f0 k).tick=f0.tick+k
 |0,_=>⟨h,by simp[stepN]⟩
 |k+1,hk=>by
  have ih:=sf_step hns h k (by omega)
  refine⟨ih.1.step hns (by rw[ih.2];omega),?_⟩
  show(stepN g f0 k).tick+1=_
  rw[ih.2];omega
theorem lit_dark{g:Grd}{f:Fld}(h:darkG g f=true):litG g f= []:=by
 unfold litG
 rw[List.map_eq_nil_iff,List.filter_eq_nil_iff]
 intro m hm
 unfold darkG at h
 have h1:=List.all_eq_true.1 h m hm
 unfold standsG at h1
 simp only[Bool.and_eq_true,Bool.not_eq_true',decide_eq_true_eq]at h1
 rw[h1.2,Bool.and_false]
 decide
def mostL(g:Grd)(ls:Int)(l:List Mir):Int:=l.foldl (fun a m=>max a (ls+20*(((m.way.length:Int)+g.sta.length)+1))) 0
theorem mostL_snoc(g:Grd)(ls:Int)(l:List Mir)(m:Mir):mostL g ls (l++ [m])=max (mostL g ls l) (ls+20*(((m.way.length:Int)+g.sta.length)+1)):=by
 unfold mostL;rw[List.foldl_append];rfl
theorem mostL_aux(g:Grd)(ls:Int)(hl:0≤ls∧ls≤100)(hns:g.sta.length≤100):∀(l:List Mir) (a:Int),(∀m∈l,m.way.length≤1000)→0≤a→a≤100000→
 a≤l.foldl (fun a m=>max a (ls+20*(((m.way.length:Int)+g.sta.length)+1))) a∧l.foldl (fun a m=>max a (ls+20*(((m.way.length:Int)+g.sta.length)+1))) a≤100000∧
 ∀m∈l,ls+20*(((m.way.length:Int)+g.sta.length)+1)≤l.foldl (fun a m=>max a (ls+20*(((m.way.length:Int)+g.sta.length)+1))) a
 | [],a,_,h0,h1=>⟨Int.le_refl _,h1,by simp⟩
 |m::l,a,h,h0,h1=>by
  have hm:=h m (by simp)
  obtain⟨i1,i2,i3⟩:=mostL_aux g ls hl hns l (max a (ls+20*(((m.way.length:Int)+g.sta.length)+1))) (fun x hx=>h x (by simp[hx])) (by omega) (by omega)
  rw[List.foldl_cons]
  refine⟨by omega,i2,fun x hx=>?_⟩
  rcases List.mem_cons.1 hx with rfl|hx
  ·omega
  ·exact i3 x hx
theorem mostL_rng(g:Grd)(ls:Int)(hl:0≤ls∧ls≤100)(hns:g.sta.length≤100)(l:List Mir)(h:∀m∈l,m.way.length≤1000):0≤mostL g ls l∧mostL g ls l≤100000∧∀m∈l,ls+20*(((m.way.length:Int)+g.sta.length)+1)≤mostL g ls l:=
 mostL_aux g ls hl hns l 0 h (by decide) (by decide)
theorem drk_dead{g:Grd}{f:Fld}(hv:fieldC g f=0):∃n:Nat,(n:Int)≤mostL g f.lease f.mir∧n≤1300∧darkG g (stepN g f n)=true∧∀k<n,darkG g (stepN g f k)=false:=by
 have ho:=gridC_ok (fieldC_grid hv)
 have hu:=gridC_uniq (fieldC_grid hv)
 have hf:=fieldC_fld hv
 have hns:=ho.ns
 have hr:=mostL_rng g f.lease ⟨by have:=hf.lease0;omega,hf.lease1⟩ (by omega) f.mir (fun m hm=>by have:=(hf.mir m hm).len;omega)
 have hlen:∀m∈f.mir,m.way.length≤40:=fun m hm=>(hf.mir m hm).len
 have hB:∀m∈f.mir,f.lease.toNat+20*(m.way.length+g.sta.length)≤(mostL g f.lease f.mir).toNat:=fun m hm=>by
  have h1:=hr.2.2 m hm
  have h2:=hf.lease0
  omega
 have hB2:∀m∈f.mir,f.lease.toNat+20*(m.way.length+g.sta.length)≤1300:=fun m hm=>by
  have h1:=hlen m hm
  have h2:=hf.lease1
  omega
 have ht:f.tick≤10000000:=fieldC_tick hv
 obtain⟨n,h1,h2,h3⟩:=deadline_ex ho hu hf ht hB
 obtain⟨n2,h4,h5,h6⟩:=deadline_ex ho hu hf ht hB2
 have he:n=n2:=by
  rcases Nat.lt_trichotomy n n2 with h|h|h
  ·have:=h6 n h;rw[h2]at this;cases this
  ·exact h
  ·have:=h3 n2 h;rw[h5]at this;cases this
 exact⟨n,by omega,by omega,h2,h3⟩
theorem drk_at{g:Grd}{f:Fld}(hv:fieldC g f=0){n:Nat}(h1:darkG g (stepN g f n)=true)(j:Nat):darkG g (stepN g f (n+j))=true:=
 dark_stays (gridC_ok (fieldC_grid hv)) (gridC_uniq (fieldC_grid hv)) (fieldC_fld hv) h1 j
theorem sec_some{g:Grd}{f:Fld}(hv:fieldC g f=0){m:Mir}(hm:m∈f.mir):defE g f m.sec=0:=by
 unfold defE
 rw[if_pos hv]
 unfold secE
 have h1:=(chkF_iff.1 (fieldC_parts hv).2).1 m hm
 have h2:m.name∈secL f m.sec:=by
  unfold secL
  refine List.mem_map.2 ⟨m,List.mem_filter.2 ⟨hm,sEq_refl _⟩,rfl⟩
 have h3:(secL f m.sec).length≠0:=fun e=>by rw[List.length_eq_zero_iff.1 e]at h2;cases h2
 rw[h1.2.2.1,show(((secL f m.sec).length:Int)==0)=false by rw[beq_eq_false_iff_ne];omega]
 rfl
theorem defM_keep{g:Grd}{f:Fld}(hv:fieldC g f=0)(s:ByteArray){m:Mir}(hm:m∈f.mir):okMir g (defM g f s m)∧(defM g f s m).name=m.name∧(defM g f s m).sec=m.sec∧0≤(defM g f s m).heard∧(defM g f s m).heard≤f.tick:=by
 have ho:=gridC_ok (fieldC_grid hv)
 have hu:=gridC_uniq (fieldC_grid hv)
 have hf:=fieldC_fld hv
 have h1:=hf.mir m hm
 unfold defM
 split
 ·have h2:=sent_ok ho hu h1
  have h3:=sent_same ho hu h1
  exact⟨⟨h2.loc,h2.safe,h2.len,h2.chain,h2.left0,h2.left1,h2.home⟩,h3.1,h3.2.1,hf.tick0,Int.le_refl _⟩
 ·exact⟨h1,rfl,rfl,(hf.heard m hm).1,(hf.heard m hm).2⟩
theorem def_val{g:Grd}{f:Fld}(hv:fieldC g f=0)(s:ByteArray):fieldC g (defG g f s)=0:=by
 have hf:=fieldC_fld hv
 refine fieldC_keep hv (show f.tick≤10000000 from fieldC_tick hv) rfl ?_ ?_ ⟨hf.tick0,hf.tick1,hf.lease0,hf.lease1,by show(f.mir.map _).length≤16;rw[List.length_map];exact hf.n,fun m hm=>?_,fun m hm=>?_⟩
 ·show(f.mir.map _).map _=_
  rw[List.map_map]
  exact List.map_congr_left fun m hm=>(defM_keep hv s hm).2.1
 ·show(f.mir.map _).map _=_
  rw[List.map_map]
  exact List.map_congr_left fun m hm=>(defM_keep hv s hm).2.2.1
 ·obtain⟨x,hx,rfl⟩:=List.mem_map.1 hm
  exact(defM_keep hv s hx).1
 ·obtain⟨x,hx,rfl⟩:=List.mem_map.1 hm
  exact(defM_keep hv s hx).2.2.2
theorem def_in{g:Grd}{f:Fld}(hv:fieldC g f=0){s:ByteArray}{m:Mir}(hm:m∈f.mir)(hs:sEq m.sec s=true):
 (defM g f s m).heard=f.tick∧sEq (kindG g (boundM (defM g f s m))) kStandby=true∧memS (secL f s) m.name=true:=by
 have ho:=gridC_ok (fieldC_grid hv)
 have hu:=gridC_uniq (fieldC_grid hv)
 have h1:=(fieldC_fld hv).mir m hm
 refine⟨by unfold defM;rw[if_pos hs],?_,?_⟩
 ·have h2:=(sent_homed ho hu h1).2
  unfold defM
  rw[if_pos hs]
  exact h2
 ·have:m.name∈secL f s:=by
   unfold secL
   exact List.mem_map.2 ⟨m,List.mem_filter.2 ⟨hm,hs⟩,rfl⟩
  exact memS_iff.2 this
theorem def_out{g:Grd}{f:Fld}{s:ByteArray}{m:Mir}(hs:sEq m.sec s=false):defM g f s m=m:=by unfold defM;rw[hs];rfl
def cntS(s:ByteArray)(l:List Mir):Nat:=(l.filter fun m=>sEq m.sec s).length
theorem cntS_snoc(s:ByteArray)(l:List Mir)(m:Mir):cntS s (l++ [m])=cntS s l+if sEq m.sec s then 1 else 0:=by
 unfold cntS;rw[List.filter_append,List.length_append]
 congr 1
 cases h:sEq m.sec s<;>simp[h]
theorem cntS_all(f:Fld)(s:ByteArray):cntS s f.mir=(secL f s).length:=by unfold cntS secL;rw[List.length_map]
theorem chkN_nodup:∀{l seen:List ByteArray},chkN seen l=true→l.Nodup∧∀x∈l,x ∉ seen
 | [],_,_=>⟨List.nodup_nil,by simp⟩
 |n::l,seen,h=>by
  rw[chkN]at h
  simp only[Bool.and_eq_true,Bool.not_eq_true']at h
  have ih:=chkN_nodup h.2
  have hn:n ∉ seen:=fun hm=>by have:=memS_iff.2 hm;rw[h.1]at this;cases this
  refine⟨List.nodup_cons.2 ⟨fun hm=>ih.2 n hm (by simp),ih.1⟩,fun x hx=>?_⟩
  rcases List.mem_cons.1 hx with rfl|hx
  ·exact hn
  ·exact fun hm=>ih.2 x hx (by simp[hm])
theorem find_some{f:Fld}{m:Mir}(hm:m∈f.mir):∃i:Nat,findG f m.name=(i:Int)∧∃h:i<f.mir.length,f.mir[i].name=m.name:=by
 have h1:decide (0≤idxF (fun x:Mir=>sEq x.name m.name) f.mir)=true:=by
  rw[idxF_any]
  exact List.any_eq_true.2 ⟨m,hm,sEq_refl _⟩
 obtain⟨i,hi⟩:=Int.eq_ofNat_of_zero_le (of_decide_eq_true h1)
 have h2:=(idxF_lt (fun x:Mir=>sEq x.name m.name) f.mir).1
 have hlt:i<f.mir.length:=by omega
 exact⟨i,hi,hlt,sEq_iff.1 (idxF_hit hi hlt)⟩
theorem tak_gone{g:Grd}{f:Fld}{m:Mir}(hv:fieldC g f=0)(hd:darkG g f=true)(hm:m∈f.mir):
 takE g f m.name=0∧(takF g f m.name).mir.length=f.mir.length-1∧findG (takF g f m.name) m.name<0∧f.mir.length≠0:=by
 obtain⟨i,hi,hlt,hn⟩:=find_some hm
 have hst:standsG g f.mir[i]=true:=by
  unfold darkG at hd
  exact List.all_eq_true.1 hd _ (List.getElem_mem hlt)
 have he:takE g f m.name=0:=by
  unfold takE
  rw[if_pos hv,hi,if_neg (by omega),Int.toNat_natCast,List.getD_eq_getElem?_getD,List.getElem?_eq_getElem hlt,Option.getD_some,hst]
  rfl
 have hF:takF g f m.name=delM f i:=by unfold takF;rw[he,if_pos rfl,hi,Int.toNat_natCast]
 refine⟨he,?_,?_,by omega⟩
 ·rw[hF];show(f.mir.eraseIdx i).length=_;rw[List.length_eraseIdx,if_pos hlt]
 ·rw[hF]
  have hnd:=(chkN_nodup (chkF_iff.1 (fieldC_parts hv).2).2).1
  have hno:∀x∈(delM f i).mir,sEq x.name m.name=false:=fun x hx=>by
   cases hs:sEq x.name m.name
   ·rfl
   ·exfalso
    have h1:x.name=m.name:=sEq_iff.1 hs
    obtain⟨j,hj,rfl⟩:=List.getElem_of_mem hx
    have hj':j<(f.mir.eraseIdx i).length:=hj
    rw[List.length_eraseIdx,if_pos hlt]at hj'
    have h2:(delM f i).mir[j]=if h:j<i then f.mir[j]'(by omega)else f.mir[j+1]'(by omega):=List.getElem_eraseIdx _
    rw[h2]at h1
    have hnm:∀p (hp:p<f.mir.length),p≠i→f.mir[p].name≠f.mir[i].name:=fun p hp hne e=>by
     have h3:(f.mir.map Mir.name)[p]'(by simpa using hp)=(f.mir.map Mir.name)[i]'(by simpa using hlt):=by rw[List.getElem_map,List.getElem_map];exact e
     rcases Nat.lt_or_gt_of_ne hne with h4|h4
     ·exact List.pairwise_iff_getElem.1 hnd p i (by simpa using hp) (by simpa using hlt) h4 h3
     ·exact List.pairwise_iff_getElem.1 hnd i p (by simpa using hlt) (by simpa using hp) h4 h3.symm
    split at h1
    ·rename_i hji;exact hnm j (by omega) (by omega) (h1.trans hn.symm)
    ·rename_i hji;exact hnm (j+1) (by omega) (by omega) (h1.trans hn.symm)
  unfold findG
  rw[idxF_none _ _ hno]
  decide
end Go.Proofs.YtehnikhicnnnhaaGreatDoor
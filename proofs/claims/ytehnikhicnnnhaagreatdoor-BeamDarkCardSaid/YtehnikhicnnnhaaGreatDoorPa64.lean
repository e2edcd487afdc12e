/- Every valid field becomes dark: the plain law of deadlines. | Valid fields stay valid, as CheckField sees it; what a round keeps of each mirror. -/
import Derived.Test.YtehnikhicnnnhaaGreatDoorPa60
namespace Go.Proofs.YtehnikhicnnnhaaGreatDoor
def homed(g:Grd)(m:Mir):Prop:=sEq (kindG g (boundM m)) kFocus=false
def muM(m:Mir):Nat:=if m.way= []then 0 else(m.left+20*(m.way.length-1:Nat)).toNat
theorem bound_cons{m:Mir}{a:Int}{l:List Int}(h:m.way=a::l):boundM m=l.getLastD a:=by
 unfold boundM;rw[h];cases l<;>simp[List.getLastD]
theorem bound_nil{m:Mir}(h:m.way= []):boundM m=m.loc:=by unfold boundM;rw[h];rfl
theorem gone_bound(g:Grd)(m:Mir):boundM (goneG g m)=boundM m:=by
 unfold goneG
 split
 ·rfl
 ·rename_i hm
  split
  ·rfl
  ·cases hw:m.way with
   |nil=>exact absurd hw hm
   |cons a l=>
    rw[bound_cons hw]
    unfold boundM turnM
    simp only[hw,List.tail_cons,List.headD_cons]
theorem mu_gone{g:Grd}{m:Mir}(ho:okG g)(h:okMir g m):muM (goneG g m)≤muM m-1:=by
 unfold goneG
 split
 ·rename_i hm
  unfold muM;rw[if_pos hm];exact Nat.zero_le _
 ·rename_i hm
  have h1:=h.left1 hm
  have e:muM m=(m.left+20*(m.way.length-1:Nat)).toNat:=by unfold muM;rw[if_neg hm]
  rw[e]
  split
  ·unfold muM
   show(if m.way= []then 0 else(m.left-1+20*(m.way.length-1:Nat)).toNat)≤_
   rw[if_neg hm]
   omega
  ·cases hw:m.way with
   |nil=>exact absurd hw hm
   |cons a l=>
    have ht:turnM m=a:=by unfold turnM;rw[hw];rfl
    unfold muM
    simp only[List.tail_cons,ht]
    cases l with
    |nil=>rw[if_pos rfl];exact Nat.zero_le _
    |cons b l=>
     have hc:=h.chain
     rw[hw]at hc
     have h5:=lnk_rng ho (chkW_cons.1 (chkW_cons.1 hc).2.2).2.1
     rw[if_neg (by simp),if_neg (by simp)]
     simp only[List.headD_cons,List.length_cons]
     omega
theorem mu_zero{g:Grd}{m:Mir}(h:okMir g m)(hm:muM m=0):m.way= []:=by
 by_cases hw:m.way= []
 ·exact hw
 ·have:=h.left1 hw
  unfold muM at hm;rw[if_neg hw]at hm;omega
theorem mu_le{g:Grd}{m:Mir}(ho:okG g)(h:okMir g m):muM m≤20*m.way.length:=by
 unfold muM
 split
 ·exact Nat.zero_le _
 ·rename_i hw
  have h1:=h.left1 hw
  have h2:lnk g m.loc (turnM m)≠0:=by omega
  have h3:=lnk_rng ho h2
  have h4:0<m.way.length:=by cases hq:m.way with
   |nil=>exact absurd hq hw
   |cons a l=>simp
  omega
theorem sta_ne_foc(s:ByteArray)(h:sEq s kStandby=true):sEq s kFocus=false:=by
 unfold sEq at h ⊢
 have h1:s.data.toList=kStandby.data.toList:=by simpa using h
 rw[h1]
 decide
theorem led_way{g:Grd}{m m':Mir}{dst:Int}(ho:okG g)(hu:Uniq g.mov)(h:okMir g m)(hl:ledG g m dst=some m'):m'.way.length≤g.sta.length:=by
 unfold ledG at hl
 cases hr:wayG g (turnM m) dst with
 |none=>rw[hr]at hl;cases hl
 |some r=>
  rw[hr]at hl
  have hs:=wayG_small ho hu h.turn hr
  simp only at hl
  split at hl
  ·cases hl;exact hs
  ·cases hl;show r.st.tail.length≤_;rw[List.length_tail];omega
theorem sent_led{g:Grd}{m:Mir}(h:okMir g m):∃m',ledG g m (homeG g (turnM m))=some m'∧sentG g m=m':=by
 have h1:=(homeG_some h.home).2.2.1
 obtain⟨r,hr⟩:=Option.isSome_iff_exists.1 h1
 have:∃m',ledG g m (homeG g (turnM m))=some m':=by
  unfold ledG;rw[hr];simp only
  split
  ·exact⟨_,rfl⟩
  ·exact⟨_,rfl⟩
 obtain⟨m',hm⟩:=this
 exact⟨m',hm,by unfold sentG;rw[hm];rfl⟩
theorem sent_homed{g:Grd}{m:Mir}(ho:okG g)(hu:Uniq g.mov)(h:okMir g m):homed g (sentG g m)∧sEq (kindG g (boundM (sentG g m))) kStandby=true:=by
 obtain⟨m',hm,e⟩:=sent_led h
 rw[e]
 have h2:=(led_ok ho hu h hm).2.1
 unfold homed
 rw[h2]
 have h3:=(homeG_some h.home).2.2.2
 exact⟨sta_ne_foc _ h3,h3⟩
theorem sent_mu{g:Grd}{m:Mir}(ho:okG g)(hu:Uniq g.mov)(h:okMir g m):muM (sentG g m)≤20*g.sta.length:=by
 obtain⟨m',hm,e⟩:=sent_led h
 rw[e]
 have h1:=mu_le ho (led_ok ho hu h hm).1
 have h2:=led_way ho hu h hm
 omega
theorem step_homed{g:Grd}{f:Fld}{m:Mir}(h:homed g m):stepM g f m=goneG g m:=by
 unfold stepM;unfold homed at h;rw[h,Bool.and_false];rfl
theorem gone_homed{g:Grd}{m:Mir}(h:homed g m):homed g (goneG g m):=by unfold homed;rw[gone_bound];exact h
def iterM(g:Grd)(f:Fld)(m:Mir):Nat→Mir
 |0=>m
 |k+1=>stepM g (stepN g f k) (iterM g f m k)
theorem stepN_mir(g:Grd)(f:Fld):∀k,(stepN g f k).mir=f.mir.map fun m=>iterM g f m k
 |0=>by simp[stepN,iterM]
 |k+1=>by
  show((stepN g f k).mir.map (stepM g (stepN g f k)))=_
  rw[stepN_mir g f k,List.map_map]
  rfl
theorem iter_ok{g:Grd}{f:Fld}{m:Mir}(ho:okG g)(hu:Uniq g.mov)(h:okMir g m):∀k,okMir g (iterM g f m k)∧(iterM g f m k).heard=m.heard
 |0=>⟨h,rfl⟩
 |k+1=>by
  have ih:=iter_ok (f:=f) ho hu h k
  exact⟨stepM_ok ho hu ih.1,(stepM_same ho hu ih.1).2.2.trans ih.2⟩
theorem iter_home{g:Grd}{f:Fld}{m:Mir}(ho:okG g)(hu:Uniq g.mov)(h:okMir g m){k:Nat}(hk:homed g (iterM g f m k)):∀j,homed g (iterM g f m (k+j))∧muM (iterM g f m (k+j))≤muM (iterM g f m k)-j
 |0=>⟨hk,Nat.le_refl _⟩
 |j+1=>by
  have ih:=iter_home ho hu h hk j
  have e:iterM g f m (k+(j+1))=goneG g (iterM g f m (k+j)):=step_homed ih.1
  rw[e]
  have h1:=mu_gone ho (iter_ok (f:=f) ho hu h (k+j)).1
  exact⟨gone_homed ih.1,by omega⟩
theorem iter_late{g:Grd}{f:Fld}{m:Mir}(ho:okG g)(hu:Uniq g.mov)(h:okMir g m)(hh:m.heard≤f.tick)(hl:0≤f.lease)(ht:f.tick+(f.lease.toNat:Int)≤20000000)(hf:okFld g f):
 ∃k≤f.lease.toNat,(homed g (iterM g f m k)∧muM (iterM g f m k)≤20*m.way.length)∨(homed g (iterM g f m (k+1))∧muM (iterM g f m (k+1))≤20*g.sta.length-1):=by
 by_cases hm:homed g m
 ·exact⟨0,Nat.zero_le _,.inl ⟨hm,mu_le ho h⟩⟩
 ·by_cases h2:homed g (iterM g f m f.lease.toNat)
  ·have key:∀n,homed g (iterM g f m n)→n≤f.lease.toNat→∃k≤f.lease.toNat,(homed g (iterM g f m k)∧muM (iterM g f m k)≤20*m.way.length)∨(homed g (iterM g f m (k+1))∧muM (iterM g f m (k+1))≤20*g.sta.length-1):=by
    intro n
    induction n with
    |zero=>intro hn;exact absurd hn hm
    |succ n ih=>
     intro hn hle
     by_cases hp:homed g (iterM g f m n)
     ·exact ih hp (by omega)
     ·refine⟨n,by omega,.inr ⟨hn,?_⟩⟩
      have hi:=iter_ok (f:=f) ho hu h n
      have e:iterM g f m (n+1)=stepM g (stepN g f n) (iterM g f m n):=rfl
      rw[e]at hn ⊢
      unfold stepM at hn ⊢
      split
      ·have h3:=mu_gone ho (sent_ok ho hu hi.1)
       have h4:=sent_mu ho hu hi.1
       omega
      ·rename_i hc
       rw[if_neg hc]at hn
       unfold homed at hn
       rw[gone_bound]at hn
       exact absurd hn hp
   exact key _ h2 (Nat.le_refl _)
  ·refine⟨f.lease.toNat,Nat.le_refl _,.inr ?_⟩
   have hi:=iter_ok (f:=f) ho hu h f.lease.toNat
   have hs:=stepN_ok ho hu hf f.lease.toNat ht
   have e:iterM g f m (f.lease.toNat+1)=goneG g (sentG g (iterM g f m f.lease.toNat)):=by
    show stepM g (stepN g f f.lease.toNat) (iterM g f m f.lease.toNat)=_
    unfold stepM
    rw[hs.2.1,hs.2.2,hi.2]
    have h3:sEq (kindG g (boundM (iterM g f m f.lease.toNat))) kFocus=true:=by
     unfold homed at h2;simpa using h2
    rw[h3,decide_eq_true (by omega),Bool.and_true,if_pos rfl]
   rw[e]
   have h3:=mu_gone ho (sent_ok ho hu hi.1)
   have h4:=sent_mu ho hu hi.1
   exact⟨gone_homed (sent_homed ho hu hi.1).1,by omega⟩
theorem homed_stands{g:Grd}{m:Mir}(h:okMir g m)(hh:homed g m)(hm:muM m=0):standsG g m=true:=by
 have hw:=mu_zero h hm
 unfold homed at hh
 rw[bound_nil hw]at hh
 unfold standsG
 rw[hh,decide_eq_true hw]
 rfl
theorem stands_home{g:Grd}{m:Mir}(hh:standsG g m=true):homed g m∧muM m=0:=by
 unfold standsG at hh
 simp only[Bool.and_eq_true,decide_eq_true_eq,Bool.not_eq_true']at hh
 exact⟨by unfold homed;rw[bound_nil hh.1];exact hh.2,by unfold muM;rw[if_pos hh.1]⟩
theorem dark_iff{g:Grd}{f:Fld}{k:Nat}:darkG g (stepN g f k)=true↔∀m∈f.mir,standsG g (iterM g f m k)=true:=by
 unfold darkG
 rw[stepN_mir,List.all_map,List.all_eq_true]
 rfl
theorem dark_after{g:Grd}{f:Fld}(ho:okG g)(hu:Uniq g.mov)(hf:okFld g f)(ht:f.tick≤10000000){B:Nat}(hB:∀m∈f.mir,f.lease.toNat+20*(m.way.length+g.sta.length)≤B):darkG g (stepN g f B)=true:=by
 rw[dark_iff]
 intro m hm
 have h:=hf.mir m hm
 have hl:=hf.lease1
 obtain⟨k,hk,h1⟩:=iter_late (f:=f) ho hu h (hf.heard m hm).2 (by have:=hf.lease0;omega) (by omega) hf
 have hb:=hB m hm
 have hn:0<g.sta.length:=by have:=h.loc;omega
 rcases h1 with ⟨h2,h3⟩|⟨h2,h3⟩
 ·have h4:=iter_home ho hu h h2 (B-k)
  rw[show k+(B-k)=B by omega]at h4
  exact homed_stands (iter_ok (f:=f) ho hu h B).1 h4.1 (by omega)
 ·have h4:=iter_home ho hu h h2 (B-(k+1))
  rw[show k+1+(B-(k+1))=B by omega]at h4
  exact homed_stands (iter_ok (f:=f) ho hu h B).1 h4.1 (by omega)
theorem dark_stays{g:Grd}{f:Fld}(ho:okG g)(hu:Uniq g.mov)(hf:okFld g f){k:Nat}(h:darkG g (stepN g f k)=true)(j:Nat):darkG g (stepN g f (k+j))=true:=by
 rw[dark_iff]at h ⊢
 intro m hm
 have h1:=stands_home (h m hm)
 have h2:=iter_home ho hu (hf.mir m hm) h1.1 j
 exact homed_stands (iter_ok (f:=f) ho hu (hf.mir m hm) _).1 h2.1 (by omega)
theorem least_nat{P:Nat→Prop}:∀n,P n→∃k≤n,P k∧∀j<k,¬P j
 |n,h=>by
  induction n using Nat.strongRecOn with
  |_ n ih=>
   by_cases hx:∃j<n,P j
   ·obtain⟨j,hj,hp⟩:=hx
    obtain⟨k,hk,h1,h2⟩:=ih j hj hp
    exact⟨k,by omega,h1,h2⟩
   ·exact⟨n,Nat.le_refl _,h,fun j hj hp=>hx ⟨j,hj,hp⟩⟩
theorem deadline_ex{g:Grd}{f:Fld}(ho:okG g)(hu:Uniq g.mov)(hf:okFld g f)(ht:f.tick≤10000000){B:Nat}(hB:∀m∈f.mir,f.lease.toNat+20*(m.way.length+g.sta.length)≤B):
 ∃n≤B,darkG g (stepN g f n)=true∧∀k<n,darkG g (stepN g f k)=false:=by
 obtain⟨n,h1,h2,h3⟩:=least_nat (P:=fun n=>darkG g (stepN g f n)=true) B (dark_after ho hu hf ht hB)
 exact⟨n,h1,h2,fun k hk=>by simpa using h3 k hk⟩
theorem wayC_of{g:Grd}{m:Mir}(h:okMir g m):wayC g m=0:=by
 have hb:hasB g m.loc=true:=hasB_iff.2 h.loc
 have h1:firstErr [staC g m.loc,whn (decide (40<m.way.length)) 5]=0:=by
  have e1:staC g m.loc=0:=by unfold staC;rw[if_pos hb,h.safe];rfl
  have e2:whn (decide (40<m.way.length)) 5=0:=by rw[decide_eq_false (by have:=h.len;omega)];rfl
  rw[e1,e2];rfl
 unfold wayC
 rw[if_neg (fun k=>k h1),if_neg (fun k=>k h.chain)]
 split
 ·rename_i hw;rw[h.left0 hw];rfl
 ·rename_i hw
  have:=h.left1 hw
  unfold rng;rw[if_neg (by omega)]
def chkN:List ByteArray→List ByteArray→Bool
 |_,[]=>true
 |seen,n::l=> !memS seen n&&chkN (seen++ [n]) l
def mirV(g:Grd)(tk:Int)(m:Mir):Prop:=okMir g m∧nmC m.name=0∧nmC m.sec=0∧0≤m.heard∧m.heard≤tk
theorem chkF_iff{g:Grd}{tk:Int}:∀{l:List Mir} {seen:List ByteArray},chkF g tk seen l=0↔(∀m∈l,mirV g tk m)∧chkN seen (l.map Mir.name)=true
 | [],seen=>by simp[chkF,chkN]
 |m::l,seen=>by
  rw[chkF,List.map_cons,chkN]
  constructor
  ·intro h
   split at h
   ·rename_i he;exact absurd h he
   ·rename_i he
    split at h
    ·cases h
    ·rename_i hh
     have he':=firstErr_zero (Classical.not_not.1 he)
     have h1:=he' (nmC m.name) (by simp)
     have h2:=whn_zero (he' (whn (memS seen m.name) 9) (by simp)) (by decide)
     have h3:=he' (nmC m.sec) (by simp)
     have h4:=he' (wayC g m) (by simp)
     have h5:=rng_zero (he' (rng m.heard 0 tk) (by simp))
     have ih:=chkF_iff.1 h
     refine⟨fun x hx=>?_,by rw[h2,ih.2];rfl⟩
     rcases List.mem_cons.1 hx with rfl|hx
     ·exact⟨wayC_ok h4 hh,h1,h3,h5⟩
     ·exact ih.1 x hx
  ·rintro⟨h1,h2⟩
   simp only[Bool.and_eq_true,Bool.not_eq_true']at h2
   obtain⟨h3,h4,h5,h6⟩:=h1 m (by simp)
   have e:mirE g tk seen m=0:=by
    unfold mirE
    rw[h4,h2.1,h5,wayC_of h3,show rng m.heard 0 tk=0 by unfold rng;rw[if_neg (by omega)]]
    rfl
   rw[if_neg (fun k=>k e),if_neg (by have:=h3.home;omega)]
   exact chkF_iff.2 ⟨fun x hx=>h1 x (by simp[hx]),h2.2⟩
theorem fieldC_parts{g:Grd}{f:Fld}(h:fieldC g f=0):fldE g f=0∧chkF g f.tick [] f.mir=0:=by
 unfold fieldC at h
 split at h
 ·rename_i he;exact absurd h he
 ·rename_i he;exact⟨Classical.not_not.1 he,h⟩
theorem fieldC_keep{g:Grd}{f f':Fld}(h:fieldC g f=0)(ht:f'.tick≤10000000)(hl:f'.lease=f.lease)(hn:f'.mir.map Mir.name=f.mir.map Mir.name)(hs:f'.mir.map Mir.sec=f.mir.map Mir.sec)(hok:okFld g f'):fieldC g f'=0:=by
 obtain⟨h1,h2⟩:=fieldC_parts h
 have h3:=chkF_iff.1 h2
 have e1:fldE g f'=0:=by
  have h4:=firstErr_zero h1
  unfold fldE
  rw[h4 (gridC g) (by simp),show rng f'.tick 0 10000000=0 by unfold rng;rw[if_neg (by have:=hok.tick0;omega)],hl,h4 (rng f.lease 1 100) (by simp),decide_eq_false (by have:=hok.n;omega)]
  rfl
 unfold fieldC
 rw[if_neg (fun k=>k e1)]
 refine chkF_iff.2 ⟨fun m hm=>⟨hok.mir m hm,?_,?_,hok.heard m hm⟩,by rw[hn];exact h3.2⟩
 ·have:m.name∈f.mir.map Mir.name:=by rw[←hn];exact List.mem_map_of_mem hm
  obtain⟨x,hx,e⟩:=List.mem_map.1 this
  rw[←e];exact(h3.1 x hx).2.1
 ·have:m.sec∈f.mir.map Mir.sec:=by rw[←hs];exact List.mem_map_of_mem hm
  obtain⟨x,hx,e⟩:=List.mem_map.1 this
  rw[←e];exact(h3.1 x hx).2.2.1
structure Kept(f f':Fld):Prop where
 lease:f'.lease=f.lease
 name:f'.mir.map Mir.name=f.mir.map Mir.name
 sec:f'.mir.map Mir.sec=f.mir.map Mir.sec
 heard:∀(k:Nat) (m m':Mir),f.mir[k]? =some m→f'.mir[k]? =some m'→m'.heard=m.heard∨m'.heard=f.tick
theorem Kept.refl(f:Fld):Kept f f:=⟨rfl,rfl,rfl,fun k m m' h h'=>by rw[h]at h';cases h';exact .inl rfl⟩
theorem Kept.len{f f':Fld}(h:Kept f f'):f'.mir.length=f.mir.length:=by simpa using congrArg List.length h.name
theorem Kept.trans{f f1 f2:Fld}(h:Kept f f1)(k:Kept f1 f2)(ht:f1.tick=f.tick):Kept f f2:=
 ⟨k.lease.trans h.lease,k.name.trans h.name,k.sec.trans h.sec,fun i m m' hm hm'=>by
   have hi:i<f1.mir.length:=by rw[h.len];exact(List.getElem?_eq_some_iff.1 hm).1
   have h1:=h.heard i m f1.mir[i] hm (List.getElem?_eq_getElem hi)
   have h2:=k.heard i f1.mir[i] m' (List.getElem?_eq_getElem hi) hm'
   rw[ht]at h2
   rcases h2 with h2|h2
   ·rw[h2];exact h1
   ·exact .inr h2⟩
theorem step_kept{g:Grd}{f:Fld}(ho:okG g)(hu:Uniq g.mov)(h:okFld g f):Kept f (stepG g f):=by
 refine⟨rfl,?_,?_,fun k m m' hm hm'=>?_⟩
 ·show(f.mir.map _).map _=_
  rw[List.map_map]
  exact List.map_congr_left fun m hm=>(stepM_same ho hu (h.mir m hm)).1
 ·show(f.mir.map _).map _=_
  rw[List.map_map]
  exact List.map_congr_left fun m hm=>(stepM_same ho hu (h.mir m hm)).2.1
 ·have h1:(f.mir.map (stepM g f))[k]? =some m':=hm'
  rw[List.getElem?_map,hm]at h1
  cases h1
  exact .inl (stepM_same ho hu (h.mir m (List.mem_of_getElem? hm))).2.2
theorem way_gone{g:Grd}{m:Mir}{n:Nat}(h:m.way.length≤n):(goneG g m).way.length≤n:=by
 unfold goneG
 split
 ·exact h
 ·split
  ·exact h
  ·show m.way.tail.length≤n;rw[List.length_tail];omega
theorem way_step{g:Grd}{f:Fld}{m:Mir}{n:Nat}(ho:okG g)(hu:Uniq g.mov)(hm:okMir g m)(hn:g.sta.length≤n)(h:m.way.length≤n):(stepM g f m).way.length≤n:=by
 unfold stepM
 refine way_gone ?_
 split
 ·obtain⟨m',hl,e⟩:=sent_led hm
  rw[e]
  exact Nat.le_trans (led_way ho hu hm hl) hn
 ·exact h
structure Sf(g:Grd)(f0 f:Fld):Prop where
 val:fieldC g f=0
 lease:f.lease=f0.lease
 name:f.mir.map Mir.name=f0.mir.map Mir.name
 sec:f.mir.map Mir.sec=f0.mir.map Mir.sec
 way:∀m∈f.mir,m.way.length≤12
theorem Sf.ok{g:Grd}{f0 f:Fld}(h:Sf g f0 f):okG g∧Uniq g.mov∧okFld g f:=⟨gridC_ok (fieldC_grid h.val),gridC_uniq (fieldC_grid h.val),fieldC_fld h.val⟩
theorem Sf.keep{g:Grd}{f0 f f':Fld}(h:Sf g f0 f)(k:Kept f f')(ht:f'.tick≤10000000)(hok:okFld g f')(hw:∀m∈f'.mir,m.way.length≤12):Sf g f0 f':=
 ⟨fieldC_keep h.val ht k.lease k.name k.sec hok,k.lease.trans h.lease,k.name.trans h.name,k.sec.trans h.sec,hw⟩
theorem Sf.step{g:Grd}{f0 f:Fld}(hns:g.sta.length≤12)(h:Sf g f0 f)(ht:f.tick<10000000):Sf g f0 (stepG g f):=by
 obtain⟨ho,hu,hf⟩:=h.ok
 exact h.keep (step_kept ho hu hf) (by show f.tick+1≤_;omega) (step_ok ho hu hf (by omega)) (fun m hm=>by
  obtain⟨x,hx,rfl⟩:=List.mem_map.1 hm
  exact way_step ho hu (hf.mir x hx) hns (h.way x hx))
end Go.Proofs.YtehnikhicnnnhaaGreatDoor
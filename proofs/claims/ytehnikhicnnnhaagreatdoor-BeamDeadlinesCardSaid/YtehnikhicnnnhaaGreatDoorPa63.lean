/- Every valid field becomes dark: the plain law of deadlines. | Sector. | The reference: Sector, Deadline. | The reference's Defocused: the region that leads a mirror home and lays it back into its box. | The reference: Defocused. -/
import Derived.Test.YtehnikhicnnnhaaGreatDoorPa59
import Derived.Test.YtehnikhicnnnhaaGreatDoorPa01
import Derived.Test.YtehnikhicnnnhaaGreatDoorPa24
import Derived.Test.YtehnikhicnnnhaaGreatDoorPa60
import Derived.Test.YtehnikhicnnnhaaGreatDoorPa62
import Derived.Test.YtehnikhicnnnhaaGreatDoorPa51
import Derived.Test.YtehnikhicnnnhaaGreatDoorPa50
namespace Go.Proofs.YtehnikhicnnnhaaGreatDoor
def homed(g:Grd)(m:Mir):Prop:=sEq (kindG g (boundM m)) kFocus=false
def muM(m:Mir):Nat:=if m.way= []then 0 else(m.left+20*(m.way.length-1:Nat)).toNat
theorem bound_cons{m:Mir}{a:Int}{l:List Int}(h:m.way=a::l):boundM m=l.getLastD a:=by
 unfold boundM;rw[h];cases l<;>simp[List.getLastD]
theorem bound_nil{m:Mir}(h:m.way= []):boundM m=m.loc:=by unfold boundM;rw[h];rfl
theorem gone_bound(g:Grd)(m:Mir):boundM (goneG g m)=boundM m:=by
 unfold goneG
 split
 ·rfl
 ·rename_i hm
  split
  ·rfl
  ·cases hw:m.way with
   |nil=>exact absurd hw hm
   |cons a l=>
    rw[bound_cons hw]
    unfold boundM turnM
    simp only[hw,List.tail_cons,List.headD_cons]
theorem mu_gone{g:Grd}{m:Mir}(ho:okG g)(h:okMir g m):muM (goneG g m)≤muM m-1:=by
 unfold goneG
 split
 ·rename_i hm
  unfold muM;rw[if_pos hm];exact Nat.zero_le _
 ·rename_i hm
  have h1:=h.left1 hm
  have e:muM m=(m.left+20*(m.way.length-1:Nat)).toNat:=by unfold muM;rw[if_neg hm]
  rw[e]
  split
  ·unfold muM
   show(if m.way= []then 0 else(m.left-1+20*(m.way.length-1:Nat)).toNat)≤_
   rw[if_neg hm]
   omega
  ·cases hw:m.way with
   |nil=>exact absurd hw hm
   |cons a l=>
    have ht:turnM m=a:=by unfold turnM;rw[hw];rfl
    unfold muM
    simp only[List.tail_cons,ht]
    cases l with
    |nil=>rw[if_pos rfl];exact Nat.zero_le _
    |cons b l=>
     have hc:=h.chain
     rw[hw]at hc
     have h5:=lnk_rng ho (chkW_cons.1 (chkW_cons.1 hc).2.2).2.1
     rw[if_neg (by simp),if_neg (by simp)]
     simp only[List.headD_cons,List.length_cons]
     omega
theorem mu_zero{g:Grd}{m:Mir}(h:okMir g m)(hm:muM m=0):m.way= []:=by
 by_cases hw:m.way= []
 ·exact hw
 ·have:=h.left1 hw
  unfold muM at hm;rw[if_neg hw]at hm;omega
theorem mu_le{g:Grd}{m:Mir}(ho:okG g)(h:okMir g m):muM m≤20*m.way.length:=by
 unfold muM
 split
 ·exact Nat.zero_le _
 ·rename_i hw
  have h1:=h.left1 hw
  have h2:lnk g m.loc (turnM m)≠0:=by omega
  have h3:=lnk_rng ho h2
  have h4:0<m.way.length:=by cases hq:m.way with
   |nil=>exact absurd hq hw
   |cons a l=>simp
  omega
theorem sta_ne_foc(s:ByteArray)(h:sEq s kStandby=true):sEq s kFocus=false:=by
 unfold sEq at h ⊢
 have h1:s.data.toList=kStandby.data.toList:=by simpa using h
 rw[h1]
 decide
theorem led_way{g:Grd}{m m':Mir}{dst:Int}(ho:okG g)(hu:Uniq g.mov)(h:okMir g m)(hl:ledG g m dst=some m'):m'.way.length≤g.sta.length:=by
 unfold ledG at hl
 cases hr:wayG g (turnM m) dst with
 |none=>rw[hr]at hl;cases hl
 |some r=>
  rw[hr]at hl
  have hs:=wayG_small ho hu h.turn hr
  simp only at hl
  split at hl
  ·cases hl;exact hs
  ·cases hl;show r.st.tail.length≤_;rw[List.length_tail];omega
theorem sent_led{g:Grd}{m:Mir}(h:okMir g m):∃m',ledG g m (homeG g (turnM m))=some m'∧sentG g m=m':=by
 have h1:=(homeG_some h.home).2.2.1
 obtain⟨r,hr⟩:=Option.isSome_iff_exists.1 h1
 have:∃m',ledG g m (homeG g (turnM m))=some m':=by
  unfold ledG;rw[hr];simp only
  split
  ·exact⟨_,rfl⟩
  ·exact⟨_,rfl⟩
 obtain⟨m',hm⟩:=this
 exact⟨m',hm,by unfold sentG;rw[hm];rfl⟩
theorem sent_homed{g:Grd}{m:Mir}(ho:okG g)(hu:Uniq g.mov)(h:okMir g m):homed g (sentG g m)∧sEq (kindG g (boundM (sentG g m))) kStandby=true:=by
 obtain⟨m',hm,e⟩:=sent_led h
 rw[e]
 have h2:=(led_ok ho hu h hm).2.1
 unfold homed
 rw[h2]
 have h3:=(homeG_some h.home).2.2.2
 exact⟨sta_ne_foc _ h3,h3⟩
theorem sent_mu{g:Grd}{m:Mir}(ho:okG g)(hu:Uniq g.mov)(h:okMir g m):muM (sentG g m)≤20*g.sta.length:=by
 obtain⟨m',hm,e⟩:=sent_led h
 rw[e]
 have h1:=mu_le ho (led_ok ho hu h hm).1
 have h2:=led_way ho hu h hm
 omega
theorem step_homed{g:Grd}{f:Fld}{m:Mir}(h:homed g m):stepM g f m=goneG g m:=by
 unfold stepM;unfold homed at h;rw[h,Bool.and_false];rfl
theorem gone_homed{g:Grd}{m:Mir}(h:homed g m):homed g (goneG g m):=by unfold homed;rw[gone_bound];exact h
def iterM(g:Grd)(f:Fld)(m:Mir):Nat→Mir
 |0=>m
 |k+1=>stepM g (stepN g f k) (iterM g f m k)
theorem stepN_mir(g:Grd)(f:Fld):∀k,(stepN g f k).mir=f.mir.map fun m=>iterM g f m k
 |0=>by simp[stepN,iterM]
 |k+1=>by
  show((stepN g f k).mir.map (stepM g (stepN g f k)))=_
  rw[stepN_mir g f k,List.map_map]
  rfl
theorem iter_ok{g:Grd}{f:Fld}{m:Mir}(ho:okG g)(hu:Uniq g.mov)(h:okMir g m):∀k,okMir g (iterM g f m k)∧(iterM g f m k).heard=m.heard
 |0=>⟨h,rfl⟩
 |k+1=>by
  have ih:=iter_ok (f:=f) ho hu h k
  exact⟨stepM_ok ho hu ih.1,(stepM_same ho hu ih.1).2.2.trans ih.2⟩
theorem iter_home{g:Grd}{f:Fld}{m:Mir}(ho:okG g)(hu:Uniq g.mov)(h:okMir g m){k:Nat}(hk:homed g (iterM g f m k)):∀j,homed g (iterM g f m (k+j))∧muM (iterM g f m (k+j))≤muM (iterM g f m k)-j
 |0=>⟨hk,Nat.le_refl _⟩
 |j+1=>by
  have ih:=iter_home ho hu h hk j
  have e:iterM g f m (k+(j+1))=goneG g (iterM g f m (k+j)):=step_homed ih.1
  rw[e]
  have h1:=mu_gone ho (iter_ok (f:=f) ho hu h (k+j)).1
  exact⟨gone_homed ih.1,by omega⟩
theorem iter_late{g:Grd}{f:Fld}{m:Mir}(ho:okG g)(hu:Uniq g.mov)(h:okMir g m)(hh:m.heard≤f.tick)(hl:0≤f.lease)(ht:f.tick+(f.lease.toNat:Int)≤20000000)(hf:okFld g f):
 ∃k≤f.lease.toNat,(homed g (iterM g f m k)∧muM (iterM g f m k)≤20*m.way.length)∨(homed g (iterM g f m (k+1))∧muM (iterM g f m (k+1))≤20*g.sta.length-1):=by
 by_cases hm:homed g m
 ·exact⟨0,Nat.zero_le _,.inl ⟨hm,mu_le ho h⟩⟩
 ·by_cases h2:homed g (iterM g f m f.lease.toNat)
  ·have key:∀n,homed g (iterM g f m n)→n≤f.lease.toNat→∃k≤f.lease.toNat,(homed g (iterM g f m k)∧muM (iterM g f m k)≤20*m.way.length)∨(homed g (iterM g f m (k+1))∧muM (iterM g f m (k+1))≤20*g.sta.length-1):=by
    intro n
    induction n with
    |zero=>intro hn;exact absurd hn hm
    |succ n ih=>
     intro hn hle
     by_cases hp:homed g (iterM g f m n)
     ·exact ih hp (by omega)
     ·refine⟨n,by omega,.inr ⟨hn,?_⟩⟩
      have hi:=iter_ok (f:=f) ho hu h n
      have e:iterM g f m (n+1)=stepM g (stepN g f n) (iterM g f m n):=rfl
      rw[e]at hn ⊢
      unfold stepM at hn ⊢
      split
      ·have h3:=mu_gone ho (sent_ok ho hu hi.1)
       have h4:=sent_mu ho hu hi.1
       omega
      ·rename_i hc
       rw[if_neg hc]at hn
       unfold homed at hn
       rw[gone_bound]at hn
       exact absurd hn hp
   exact key _ h2 (Nat.le_refl _)
  ·refine⟨f.lease.toNat,Nat.le_refl _,.inr ?_⟩
   have hi:=iter_ok (f:=f) ho hu h f.lease.toNat
   have hs:=stepN_ok ho hu hf f.lease.toNat ht
   have e:iterM g f m (f.lease.toNat+1)=goneG g (sentG g (iterM g f m f.lease.toNat)):=by
    show stepM g (stepN g f f.lease.toNat) (iterM g f m f.lease.toNat)=_
    unfold stepM
    rw[hs.2.1,hs.2.2,hi.2]
    have h3:sEq (kindG g (boundM (iterM g f m f.lease.toNat))) kFocus=true:=by
     unfold homed at h2;simpa using h2
    rw[h3,decide_eq_true (by omega),Bool.and_true,if_pos rfl]
   rw[e]
   have h3:=mu_gone ho (sent_ok ho hu hi.1)
   have h4:=sent_mu ho hu hi.1
   exact⟨gone_homed (sent_homed ho hu hi.1).1,by omega⟩
theorem homed_stands{g:Grd}{m:Mir}(h:okMir g m)(hh:homed g m)(hm:muM m=0):standsG g m=true:=by
 have hw:=mu_zero h hm
 unfold homed at hh
 rw[bound_nil hw]at hh
 unfold standsG
 rw[hh,decide_eq_true hw]
 rfl
theorem stands_home{g:Grd}{m:Mir}(hh:standsG g m=true):homed g m∧muM m=0:=by
 unfold standsG at hh
 simp only[Bool.and_eq_true,decide_eq_true_eq,Bool.not_eq_true']at hh
 exact⟨by unfold homed;rw[bound_nil hh.1];exact hh.2,by unfold muM;rw[if_pos hh.1]⟩
theorem dark_iff{g:Grd}{f:Fld}{k:Nat}:darkG g (stepN g f k)=true↔∀m∈f.mir,standsG g (iterM g f m k)=true:=by
 unfold darkG
 rw[stepN_mir,List.all_map,List.all_eq_true]
 rfl
theorem dark_after{g:Grd}{f:Fld}(ho:okG g)(hu:Uniq g.mov)(hf:okFld g f)(ht:f.tick≤10000000){B:Nat}(hB:∀m∈f.mir,f.lease.toNat+20*(m.way.length+g.sta.length)≤B):darkG g (stepN g f B)=true:=by
 rw[dark_iff]
 intro m hm
 have h:=hf.mir m hm
 have hl:=hf.lease1
 obtain⟨k,hk,h1⟩:=iter_late (f:=f) ho hu h (hf.heard m hm).2 (by have:=hf.lease0;omega) (by omega) hf
 have hb:=hB m hm
 have hn:0<g.sta.length:=by have:=h.loc;omega
 rcases h1 with ⟨h2,h3⟩|⟨h2,h3⟩
 ·have h4:=iter_home ho hu h h2 (B-k)
  rw[show k+(B-k)=B by omega]at h4
  exact homed_stands (iter_ok (f:=f) ho hu h B).1 h4.1 (by omega)
 ·have h4:=iter_home ho hu h h2 (B-(k+1))
  rw[show k+1+(B-(k+1))=B by omega]at h4
  exact homed_stands (iter_ok (f:=f) ho hu h B).1 h4.1 (by omega)
theorem dark_stays{g:Grd}{f:Fld}(ho:okG g)(hu:Uniq g.mov)(hf:okFld g f){k:Nat}(h:darkG g (stepN g f k)=true)(j:Nat):darkG g (stepN g f (k+j))=true:=by
 rw[dark_iff]at h ⊢
 intro m hm
 have h1:=stands_home (h m hm)
 have h2:=iter_home ho hu (hf.mir m hm) h1.1 j
 exact homed_stands (iter_ok (f:=f) ho hu (hf.mir m hm) _).1 h2.1 (by omega)
theorem least_nat{P:Nat→Prop}:∀n,P n→∃k≤n,P k∧∀j<k,¬P j
 |n,h=>by
  induction n using Nat.strongRecOn with
  |_ n ih=>
   by_cases hx:∃j<n,P j
   ·obtain⟨j,hj,hp⟩:=hx
    obtain⟨k,hk,h1,h2⟩:=ih j hj hp
    exact⟨k,by omega,h1,h2⟩
   ·exact⟨n,Nat.le_refl _,h,fun j hj hp=>hx ⟨j,hj,hp⟩⟩
theorem deadline_ex{g:Grd}{f:Fld}(ho:okG g)(hu:Uniq g.mov)(hf:okFld g f)(ht:f.tick≤10000000){B:Nat}(hB:∀m∈f.mir,f.lease.toNat+20*(m.way.length+g.sta.length)≤B):
 ∃n≤B,darkG g (stepN g f n)=true∧∀k<n,darkG g (stepN g f k)=false:=by
 obtain⟨n,h1,h2,h3⟩:=least_nat (P:=fun n=>darkG g (stepN g f n)=true) B (dark_after ho hu hf ht hB)
 exact⟨n,h1,h2,fun k hk=>by simpa using h3 k hk⟩
end Go.Proofs.YtehnikhicnnnhaaGreatDoor
namespace Go.Proofs.YtehnikhicnnnhaaGreatDoor
open Go.RowKit
def secF(g:Grd)(f:Fld)(s:ByteArray):List ByteArray:=if defE g f s=0 then secL f s else []
set_option maxRecDepth 100000 in
set_option maxHeartbeats 4000000 in
theorem Sector_c(a:GA)(g:Grd)(tk ls:Int)(A:Option Addr)(c:Nat)(xs:List MA)(s:ByteArray)(w:World)(hs:SmallG g)(hsf:SmallF xs)(hr:GridR w w.heap.size a g)(hkd:KindsAt w)(hf:FldR w w.heap.size A c xs)(hss:s.size≤100000):
 Calls Tryz.prog 69 #[(.agg #[.int .i64 g.blur,.slice a.pS g.sta.length a.cs,.slice a.pM g.mov.length a.cm,.slice a.pZ g.zon.length a.cz]),(.agg #[.int .i64 tk,.int .i64 ls,.slice A xs.length c]),.string s] w fun e w'=>∃v,e=.returned (.tuple #[v,.int .i64 (defE g (fldOf tk ls xs) s)])∧OwnS w' w.heap.size v (secF g (fldOf tk ls xs) s)∧Below w.heap.size w w':=by
 obtain⟨W0,hW0⟩:∃W0,W0=(w.alloc (.cells #[.int .i64 g.blur,.slice a.pS g.sta.length a.cs,.slice a.pM g.mov.length a.cm,.slice a.pZ g.zon.length a.cz] 38)).alloc (.cells #[.int .i64 tk,.int .i64 ls,.slice A xs.length c] 72):=⟨_,rfl⟩
 have hB0:Below w.heap.size w W0:=by rw[hW0];(repeat first|(with_reducible first|assumption|exact Below.refl _ _|refine Bl.drew ?_|refine Bl.drewN ?_ _|refine Bl.alloc ?_ _|refine Bl.set ?_ _ ?_)|(with_reducible apply Bl.step';(focus(with_reducible assumption)))|omega|(focus(simp;done))|(focus(simp;omega)))
 have k0:W0.heap[w.heap.size]? =some (.cells #[.int .i64 g.blur,.slice a.pS g.sta.length a.cs,.slice a.pM g.mov.length a.cm,.slice a.pZ g.zon.length a.cz] 38 (0,0)):=by rw[hW0];exact(Below.heap_alloc _ _ _ (by simp)).trans (heap_alloc_new w _)
 have k1:W0.heap[w.heap.size+1]? =some (.cells #[.int .i64 tk,.int .i64 ls,.slice A xs.length c] 72 (0,0)):=by rw[hW0];exact heap_two w _ _
 have HG:=zh (hr.to hB0)
 have HK:=zh (hkd.to hB0)
 have HF:=zh (FldR.to hf hB0)
 have HB0:=zh hB0
 have HS:=zh hs
 have HSF:=zh hsf
 have hl:=hsf.n
 have K1:=zh k1
 have z1:=blk_lt k1
 (obtain⟨g0,g1,g2,g3⟩:=cg4 k0)
 (obtain⟨q0,qf0,q1,qf1,q2,qf2⟩:=cv3 k1)
 clear hr hkd hf hB0 hs hsf k0 k1 qf0 qf1 qf2
 obtain⟨B,hB⟩:∃B,B=fieldC g (fldOf tk ls xs):=⟨_,rfl⟩
 obtain⟨E,hE⟩:∃E,E=secE (fldOf tk ls xs) s:=⟨_,rfl⟩
 have HB:=zh hB
 have HE:=zh hE
 have HCF:=zh (show Calls Tryz.prog 44 #[(.agg #[.int .i64 g.blur,.slice a.pS g.sta.length a.cs,.slice a.pM g.mov.length a.cm,.slice a.pZ g.zon.length a.cz]),(.agg #[.int .i64 tk,.int .i64 ls,.slice A xs.length c])] W0 fun e w'=>e=.returned (.int .i64 B)∧Below W0.heap.size W0 w' by rw[hB];exact CheckField_c a g tk ls A c xs _ HS.out HSF.out HG.out HK.out HF.out)
 have HSC:=zh (fun W (h:FldR W W.heap.size A c xs)=>(show Calls Tryz.prog 138 #[(.agg #[.int .i64 tk,.int .i64 ls,.slice A xs.length c]),.string s] W fun e w'=>∃v,e=.returned (.tuple #[v,.int .i64 E])∧OwnS w' W.heap.size v (secL (fldOf tk ls xs) s)∧Below W.heap.size W w' by rw[hE];exact sector_c tk ls A c xs s W hl hss h))
 clear hB hE
 go_enter Tryz.func69,Tryz.ntmps69
 go_upto_region 1 with fail
 rw[←hW0]
 clear hW0
 cases hb0:(B !=0)
 case true=>
  have hne:B≠0:=by simpa using hb0
  have HD:=zh (show defE g (fldOf tk ls xs) s=B by unfold defE;rw[←HB.out,if_neg hne])
  have HNE:=zh hne
  clear hne
  go_wp2_with (go_at_call 44;(with_reducible refine Calls.mono HCF.out ?_);rintro e w1 ⟨rfl,hb1⟩)
  go_ret2
  exact⟨_,by rw[HD.out];rfl,by unfold secF;rw[HD.out,if_neg HNE.out];exact OwnS.nil_ _ _,HB0.out.trans (hb1.mono HB0.out.size)⟩
 case false=>
  have heq:B=0:=by simpa using hb0
  have HD:=zh (show defE g (fldOf tk ls xs) s=E by unfold defE;rw[←HB.out,if_pos heq,HE.out])
  clear heq
  cases he0:(E !=0)
  case true=>
   have HNE:=zh (show E≠0 by simpa using he0)
   go_wp2_with (first|(go_at_call 44;(with_reducible refine Calls.mono HCF.out ?_);rintro e w1 ⟨rfl,hb1⟩;(have k1:=(hb1.block (w.heap.size+1) z1).trans K1.out);clear q0 q1 q2;(obtain⟨q0,qf0,q1,qf1,q2,qf2⟩:=cv3 k1);clear k1 qf0 qf1 qf2)|(go_at_call 138;(with_reducible refine Calls.mono (HSC.out _ (HF.out.to hb1)) ?_);rintro e w2 ⟨v,rfl,ho,hb2⟩;clear ho))
   go_ret2
   exact⟨_,by rw[HD.out];rfl,by unfold secF;rw[HD.out,if_neg HNE.out];exact OwnS.nil_ _ _,HB0.out.trans ((hb1.trans (hb2.mono hb1.size)).mono HB0.out.size)⟩
  case false=>
   have HEQ:=zh (show E=0 by simpa using he0)
   go_wp2_with (first|(go_at_call 44;(with_reducible refine Calls.mono HCF.out ?_);rintro e w1 ⟨rfl,hb1⟩;(have k1:=(hb1.block (w.heap.size+1) z1).trans K1.out);clear q0 q1 q2;(obtain⟨q0,qf0,q1,qf1,q2,qf2⟩:=cv3 k1);clear k1 qf0 qf1 qf2)|(go_at_call 138;(with_reducible refine Calls.mono (HSC.out _ (HF.out.to hb1)) ?_);rintro e w2 ⟨v,rfl,ho,hb2⟩;(have HO:=zh ho);clear ho))
   go_ret2
   exact⟨_,by rw[HD.out,HEQ.out];rfl,by unfold secF;rw[HD.out,if_pos HEQ.out];exact HO.out.mono (Nat.le_trans HB0.out.size hb1.size),HB0.out.trans ((hb1.trans (hb2.mono hb1.size)).mono HB0.out.size)⟩
set_option maxRecDepth 100000 in
set_option maxHeartbeats 4000000 in
theorem rSector_c(tk ls:Int)(A:Option Addr)(c:Nat)(xs:List MA)(s:ByteArray)(w:World)(hl:xs.length≤1000)(hss:s.size≤100000)(hf:FldR w w.heap.size A c xs):
 Calls Tryz.prog 72 #[(.agg #[.int .i64 tk,.int .i64 ls,.slice A xs.length c]),.string s] w fun e w'=>∃v l,e=.returned (.tuple #[v,.int .i64 (secE (fldOf tk ls xs) s)])∧OwnS w' w.heap.size v l∧(secE (fldOf tk ls xs) s=0→l=secL (fldOf tk ls xs) s)∧l.length≤1000∧Below w.heap.size w w':=by
 obtain⟨i0,hi,hi0,hi1,hi2⟩:=info_parts Tryz.infoStr
 obtain⟨W1,hW1⟩:∃W1,W1=w.alloc (.cells #[.int .i64 tk,.int .i64 ls,.slice A xs.length c] 66):=⟨_,rfl⟩
 have k1:W1.heap[w.heap.size]? =some (.cells #[.int .i64 tk,.int .i64 ls,.slice A xs.length c] 66 (0,0)):=by rw[hW1];exact heap_alloc_new w _
 have hB0:Below w.heap.size w W1:=by rw[hW1];(repeat first|(with_reducible first|assumption|exact Below.refl _ _|refine Bl.drew ?_|refine Bl.drewN ?_ _|refine Bl.alloc ?_ _|refine Bl.set ?_ _ ?_)|(with_reducible apply Bl.step';(focus(with_reducible assumption)))|omega|(focus(simp;done))|(focus(simp;omega)))
 have HB0:=zh hB0
 have HF:=zh (FldR.to hf hB0)
 have z1:=blk_lt k1
 (obtain⟨d0,df0,d1,df1,d2,df2⟩:=cv3 k1)
 clear hf k1 hB0 df0 df1 df2
 have HN:=zh (fun W=>rName_c s W hss)
 cases hn:isNm s with
 |false=>
  have HE:=zh (show secE (fldOf tk ls xs) s=8 by unfold secE nmC;rw[hn];rfl)
  rw[hn]at HN
  clear hn
  go_enter Tryz.func72,Tryz.ntmps72
  go_upto_region 1 with fail
  rw[←hW1]
  clear hW1
  go_wp2_with (go_at_call 96;(with_reducible refine Calls.mono (HN.out _) ?_);rintro e w1 ⟨rfl,rfl⟩)
  go_ret2
  exact⟨.slice none 0 0,[],by rw[HE.out];rfl,OwnS.nil_ _ _,(fun h=>by rw[HE.out]at h;cases h),by simp,HB0.out⟩
 |true=>
  have HE:=zh (show secE (fldOf tk ls xs) s=whn (((secL (fldOf tk ls xs) s).length:Int)==0) 10 by
   unfold secE nmC firstErr;rw[hn];simp only[whn,Bool.not_true,Bool.false_eq_true,if_false,if_true]
   unfold firstErr
   split<;>simp_all [firstErr])
  rw[hn]at HN
  clear hn
  go_enter Tryz.func72,Tryz.ntmps72
  go_upto_region 1 with fail
  rw[←hW1]
  clear hW1
  go_wp2_with (go_at_call 96;(with_reducible refine Calls.mono (HN.out _) ?_);rintro e w1 ⟨rfl,rfl⟩)
  go_loopw [6,7] (fun v i wr=>∃k:Nat,k≤xs.length∧i=.int .i64 k∧OwnS wr W1.heap.size v (nmsP (fun x=>sEq x.m.sec s) (xs.take k))∧Below W1.heap.size W1 wr) (fun _ i _=>xs.length-(intOf i).toNat)
  case atStart=>exact⟨0,Nat.zero_le _,rfl,OwnS.nil_ _ _,Below.refl _ _⟩
  case round=>
   obtain⟨k,hk,rfl,hown,hb⟩:=hrel
   have hbs:=hb.size
   have hc:=(bcell hb).1
   have y1:w.heap.size<wr.heap.size:=by omega
   obtain⟨nl,hnl⟩:∃nl,nl=nmsP (fun x=>sEq x.m.sec s) (xs.take k):=⟨_,rfl⟩
   have hnn:nl.length≤1000:=by rw[hnl];have:=nmsP_len (fun x=>sEq x.m.sec s) (xs.take k);rw[List.length_take]at this;omega
   by_cases hlt:k<xs.length
   ·obtain⟨x,hx⟩:∃x,x=xs[k]:=⟨_,rfl⟩
    obtain⟨b,off,ea,hbl,c0,c1,c2,c3,c4,c5⟩:=HF.out.rw_.get6 (k:=k) (by simpa using hlt) (by rw[List.getElem_map,←hx];rfl)
    rw[ea]at d2
    have HEA:=zh ea
    have hst:nmsP (fun x=>sEq x.m.sec s) (xs.take (k+1))=nl++(if sEq x.m.sec s then [x.m.name]else []):=by rw[nmsP_succ hlt,←hnl,hx]
    rw[←hnl]at hown
    have HST:=zh hst
    clear hx hnl hst ea
    obtain⟨m,mA,mc⟩:=x
    simp only at c0 c1 c2 c3 c4 c5 HST
    have hq:=sEq_list m.sec s
    have hbw:b<wr.heap.size:=by omega
    cases hp:sEq m.sec s with
    |true=>
     rw[hp]at hq HST
     clear hp c2 c3 c4 c5
     go_wp2_with (at_builtin;refine wpList_append_own _ rfl _ _ 90 rfl W1.heap.size 9 i0 (.string ⟨#[]⟩) 1 16 Tryz.underlying90 hi hi0 hi1 hi2 rfl (by decide) _ _ _ rfl (World.ownsRow.alloc hown _) ⟨wr.heap.size,0,none⟩ 1 1 [.string m.name] rfl rfl ?c1 ?c2 ?c3 ?c4 ?c5 ?_)
     case c2=>first|rfl|(intro u hu;simp at hu;subst hu;rfl)
     case c3=>unfold maxLen;omega
     case c4=>omega
     case c5=>first|omega|(simp;omega)
     intro v' w4 hown' hgrow _
     go_wp2_with fail
     go_roundw
     case rel=>exact⟨k+1,by omega,by go_num,by rw[HST.out];exact OwnS.app hown',Below.grown (by exact zbl) hgrow (by simp;omega) (fun j e=>(World.ownsRow.lt hown j e).1)⟩
     case measure=>simp[intOf];omega
    |false=>
     rw[hp]at hq HST
     clear hp c2 c3 c4 c5
     go_wp2_with fail
     go_roundw
     case rel=>exact⟨k+1,by omega,by go_num,by rw[HST.out];simpa using hown,hb⟩
     case measure=>simp[intOf];omega
   ·have hkl:k=xs.length:=by omega
    have he:nl=secL (fldOf tk ls xs) s:=by rw[hnl,hkl,List.take_length,secL_eq]
    rw[←hnl]at hown
    obtain⟨A1,c1,rfl,hc1,_,_⟩:=hown.sl
    have HO:=zh hown
    have HN2:=zh hnn
    rw[←he]at HE
    have HX:=zh he
    obtain⟨wt,hwt⟩:∃b,b=((nl.length:Int)==0):=⟨_,rfl⟩
    have hwt2:((nl.length:Int)==0)=wt:=hwt.symm
    rw[←hwt]at HE
    clear hown hkl he hnl hwt
    go_wp2_with (go_at_call 34;(with_reducible refine Calls.mono (rWhen_c wt 10 _) ?_);rintro e w1 ⟨rfl,rfl⟩)
    go_ret2
    exact⟨_,nl,by rw[HE.out];rfl,HO.out.mono HB0.out.size,fun _=>HX.out,HN2.out,HB0.out.trans (hb.mono HB0.out.size)⟩
set_option maxRecDepth 100000 in
set_option maxHeartbeats 4000000 in
theorem rDeadline_c(a:GA)(g:Grd)(tk ls:Int)(A:Option Addr)(c:Nat)(xs:List MA)(w:World)(hok:okG g)(hu:Uniq g.mov)(hof:okFld g (fldOf tk ls xs))(htk:tk≤10000000)(hz:NilW xs)(hr:GridR w w.heap.size a g)(hf:FldR w w.heap.size A c xs)(n:Nat)(hn1:n≤1000000)(hn2:darkG g (stepN g (fldOf tk ls xs) n)=true)(hn3:∀k<n,darkG g (stepN g (fldOf tk ls xs) k)=false):
 Calls Tryz.prog 71 #[(.agg #[.int .i64 g.blur,.slice a.pS g.sta.length a.cs,.slice a.pM g.mov.length a.cm,.slice a.pZ g.zon.length a.cz]),(.agg #[.int .i64 tk,.int .i64 ls,.slice A xs.length c])] w fun e w'=>e=.returned (.int .i64 (n:Int))∧Below w.heap.size w w':=by
 obtain⟨W0,hW0⟩:∃W0,W0=((w.alloc (.cells #[.int .i64 g.blur,.slice a.pS g.sta.length a.cs,.slice a.pM g.mov.length a.cm,.slice a.pZ g.zon.length a.cz] 26)).alloc (.cells #[.int .i64 tk,.int .i64 ls,.slice A xs.length c] 66)):=⟨_,rfl⟩
 have hB0:Below w.heap.size w W0:=by rw[hW0];(repeat first|(with_reducible first|assumption|exact Below.refl _ _|refine Bl.drew ?_|refine Bl.drewN ?_ _|refine Bl.alloc ?_ _|refine Bl.set ?_ _ ?_)|(with_reducible apply Bl.step';(focus(with_reducible assumption)))|omega|(focus(simp;done))|(focus(simp;omega)))
 have k0:W0.heap[w.heap.size]? =some (.cells #[.int .i64 g.blur,.slice a.pS g.sta.length a.cs,.slice a.pM g.mov.length a.cm,.slice a.pZ g.zon.length a.cz] 26 (0,0)):=by rw[hW0];exact(Below.heap_alloc _ _ _ (by simp)).trans (heap_alloc_new w _)
 have k1:W0.heap[w.heap.size+1]? =some (.cells #[.int .i64 tk,.int .i64 ls,.slice A xs.length c] 66 (0,0)):=by rw[hW0];exact heap_two w _ _
 have HG:=zh (hr.to hB0)
 have HF:=zh (FldR.to hf hB0)
 have HB0:=zh hB0
 have HOF:=zh hof
 have hl:xs.length≤1000:=by
  have:=hof.n
  have e:(fldOf tk ls xs).mir.length=xs.length:=by simp[fldOf]
  omega
 have hwl:∀x∈xs,x.m.way.length≤1000:=fun x hx=>by have:=(hof.mir x.m (List.mem_map_of_mem hx)).len;omega
 have HOWN:=zh (fun W (h:FldR W W.heap.size A c xs)=>rOwn_c tk ls A c xs W hl hwl hz h)
 have HST:=zh (fun k hk=>stepN_ok hok hu hof k hk)
 have HN2:=zh hn2
 have HN3:=zh hn3
 have HTK:=zh htk
 have l0:w.heap.size<W0.heap.size:=blk_lt k0
 have hns:=hok.ns
 (obtain⟨g0,g1,g2,g3⟩:=cg4 k0)
 (obtain⟨q0,qf0,q1,qf1,q2,qf2⟩:=cv3 k1)
 clear hr hf hB0 hz hof k0 k1 hwl hn2 hn3 htk qf0 qf1 qf2
 go_enter Tryz.func71,Tryz.ntmps71
 go_upto_region 1 with fail
 rw[←hW0]
 clear hW0
 go_wp2_with (go_at_call 117;(with_reducible refine Calls.mono (HOWN.out _ HF.out) ?_);rintro e w2 ⟨A2,c2,ys,rfl,hys,hown,hfy,hny,hb2⟩;(have HYS:=zh hys);(have HF2:=zh hown.fld);(have HNY:=zh hny);clear hys hown hfy hny)
 obtain⟨Wb,hWb⟩:∃Wb,Wb=w2.alloc (.cells #[.int .i64 tk,.int .i64 ls,.slice A2 ys.length c2] 66):=⟨_,rfl⟩
 rw[←hWb]
 have hws2:=hb2.size
 have hBb:Below w2.heap.size w2 Wb:=by rw[hWb];(repeat first|(with_reducible first|assumption|exact Below.refl _ _|refine Bl.drew ?_|refine Bl.drewN ?_ _|refine Bl.alloc ?_ _|refine Bl.set ?_ _ ?_)|(with_reducible apply Bl.step';(focus(with_reducible assumption)))|omega|(focus(simp;done))|(focus(simp;omega)))
 have yb:Wb.heap[w2.heap.size]? =some (.cells #[.int .i64 (tk),.int .i64 ls,.slice A2 ys.length c2] 66 (0,0)):=by rw[hWb];exact heap_alloc_new _ _
 have HYB:=zh yb
 have HFB:=zh (FldR.to HF2.out hBb)
 have hzb:Wb.heap.size=w2.heap.size+1:=by rw[hWb];simp
 have hBW:Below W0.heap.size W0 Wb:=hb2.trans (hBb.mono hws2)
 clear hWb yb q0 q1 q2 hBb hb2
 go_loopw [5,6] (fun v p wr=>∃(k xb ck:Nat) (Ak:Option Addr) (zs:List MA),k≤n∧v=.int .i64 k∧p=.pointer (some ⟨xb,0,none⟩)∧W0.heap.size≤xb∧xb<wr.heap.size∧Hid (wr.heap[xb]? =some (.cells #[.int .i64 (tk+k),.int .i64 ls,.slice Ak zs.length ck] 66 (0,0)))∧Hid (fldOf (tk+k) ls zs=stepN g (fldOf tk ls xs) k)∧Hid (FldR wr wr.heap.size Ak ck zs)∧Hid (NilW zs)∧Below W0.heap.size W0 wr) (fun v _ _=>n-(intOf v).toNat)
 case atStart=>exact⟨0,w2.heap.size,c2,A2,ys,Nat.zero_le _,rfl,rfl,by omega,by omega,zh (by simpa using HYB.out),zh (by unfold fldOf stepN;simp[HYS.out]),HFB,HNY,hBW⟩
 case round=>
  obtain⟨k,xb,ck,Ak,zs,hk,rfl,rfl,hxb,hxl,hxk,hzf,hzr,hzn,hb⟩:=hrel
  have hbs:=hb.size
  have hst:=HST.out k (by have:=HTK.out;show tk+(k:Int)≤_;omega)
  rw[←hzf.out]at hst
  have HSK:=zh hst.1
  have hzl:zs.length≤1000:=by have:=hst.1.n;simp[fldOf]at this;omega
  have hdk:darkG g (fldOf (tk+k) ls zs)=darkG g (stepN g (fldOf tk ls xs) k):=by rw[←hzf.out]
  have HLOC:=zh (fun W (h:GridR W W.heap.size a g) (h2:FldR W W.heap.size Ak ck zs)=>rDark_c a g (tk+k) ls Ak ck zs W hzl hst.1.loc h h2)
  have kx:=hxk.out
  (obtain⟨e0,ef0,e1,ef1,e2,ef2⟩:=cv3 kx)
  have hcw:=(bcell hb).1
  have HBW:=zh hb
  have hwl:w.heap.size<wr.heap.size:=by omega
  clear kx hst
  by_cases hkn:k<n
  ·have hd:=hdk.trans (HN3.out k hkn)
   rw[hd]at HLOC
   have hw1:IntKind.i64.wrap ((k:Int)+1)=(k:Int)+1:=IntWalk.i64_in _ (by omega)
   clear hd hdk
   go_upto_region 5 with (go_at_call 53;(with_reducible refine Calls.mono (HLOC.out _ (HG.out.to HBW.out) hzr.out) ?_);rintro e w3 ⟨rfl,hb3⟩;(have kx:=(hb3.block xb hxl).trans hxk.out);clear e0 e1 e2 ef0 ef1 ef2;(obtain⟨e0,ef0,e1,ef1,e2,ef2⟩:=cv3 kx);clear kx;(have hbs3:=hb3.size);(have hc3:=(bcell hb3).1);(have hx3:xb<w3.heap.size:=by omega))
   go_upto_region 4 with fail
   obtain⟨W4,hW4⟩:∃W,W=w3.alloc (.cells #[.int .i64 (tk+k),.int .i64 ls,.slice Ak zs.length ck] 66):=⟨_,rfl⟩
   rw[←hW4]
   have hB4:Below wr.heap.size wr W4:=by rw[hW4];(repeat first|(with_reducible first|assumption|exact Below.refl _ _|refine Bl.drew ?_|refine Bl.drewN ?_ _|refine Bl.alloc ?_ _|refine Bl.set ?_ _ ?_)|(with_reducible apply Bl.step';(focus(with_reducible assumption)))|omega|(focus(simp;done))|(focus(simp;omega)))
   have k4:W4.heap[w3.heap.size]? =some (.cells #[.int .i64 (tk+k),.int .i64 ls,.slice Ak zs.length ck] 66 (0,0)):=by rw[hW4];exact heap_alloc_new w3 _
   have y4:=blk_lt k4
   have K4:=zh k4
   have HB4:=zh hB4
   have hc4:=(bcell hB4).1
   clear e0 e1 e2 ef0 ef1 ef2
   (obtain⟨e0,ef0,e1,ef1,e2,ef2⟩:=cv3 k4)
   clear k4 hB4 hW4
   have hs4:=HB4.out.size
   go_wp2_with (go_at_call 43;(with_reducible refine Calls.mono (rStepped_c a g (tk+k) ls Ak ck zs _ hok hu HSK.out hzn.out (HG.out.to (HBW.out.trans (HB4.out.mono HBW.out.size))) (hzr.out.to HB4.out)) ?_);rintro e w5 ⟨A5,c5,us,rfl,hus,ho5,hfr5,hn5,hb5⟩;(have HUS:=zh hus);(have HF5:=zh ho5.fld);(have HFR5:=zh (show Fresh W4.heap.size A5 us from⟨fun _ a ha=>own_block ho5 a ha,fun x hx _ a ha=>hfr5 x hx a ha⟩));(have HN5:=zh hn5);clear hus ho5 hfr5 hn5;(have k5:=(hb5.block w3.heap.size y4).trans K4.out);(obtain⟨r0,rf0,r1,rf1,r2,rf2⟩:=cv3 k5);(have HK5:=zh k5);clear k5)
   go_roundw
   case rel=>
    have hbs5:=hb5.size
    refine⟨k+1,w3.heap.size,c5,A5,us,by omega,by go_num,rfl,by omega,by simp;omega,zh ?_,zh ?_,zh ?_,HN5,?_⟩
    ·rw[set3_block HK5.out]
     simp[Int.add_assoc]
    ·show fldOf (tk+((k+1:Nat):Int)) ls us=stepG g (stepN g (fldOf tk ls xs) k)
     rw[←hzf.out,←HUS.out]
     simp[Int.add_assoc]
    ·exact(HF5.out.set3 _ _ _ (HFR5.out.imp fun d hd e=>by omega)).more (by simp)
    ·exact Below.set3 (HBW.out.trans ((HB4.out.trans (hb5.mono HB4.out.size)).mono HBW.out.size)) (by omega) _ _ _
   case measure=>simp[intOf];omega
  ·have hkn2:k=n:=by omega
   have hd:=hdk.trans (show darkG g (stepN g (fldOf tk ls xs) k)=true by rw[hkn2];exact HN2.out)
   rw[hd]at HLOC
   have HKN:=zh hkn2
   clear hd hdk hkn2 hkn
   go_wp2_with (go_at_call 53;(with_reducible refine Calls.mono (HLOC.out _ (HG.out.to HBW.out) hzr.out) ?_);rintro e w3 ⟨rfl,hb3⟩)
   go_ret
   exact⟨by rw[HKN.out];rfl,HB0.out.trans ((HBW.out.trans (hb3.mono HBW.out.size)).mono HB0.out.size)⟩
end Go.Proofs.YtehnikhicnnnhaaGreatDoor
namespace Go.Proofs.YtehnikhicnnnhaaGreatDoor
open Go.RowKit Go.Shelf
noncomputable def dfR_c:Code:=(findZ 7 (Tryz.f73.body.getD .skip)).getD .skip
set_option maxRecDepth 100000 in
set_option maxHeartbeats 16000000 in
theorem dfR_r(X:World)(a:GA)(g:Grd)(m m7:Mir)(A:Option Addr)(c bG mb:Nat)(t h:Int)(P F:Option Addr→Nat→World→Prop)
 (hG0:X.cell? ⟨bG,0,none⟩=some (.int .i64 g.blur)) (hG1:X.cell? ⟨bG,1,none⟩=some (.slice a.pS g.sta.length a.cs)) (hG2:X.cell? ⟨bG,2,none⟩=some (.slice a.pM g.mov.length a.cm)) (hG3:X.cell? ⟨bG,3,none⟩=some (.slice a.pZ g.zon.length a.cz))
 (hM:X.heap[mb]? =some (.cells #[.string m.name,.string m.sec,.int .i64 m.loc,.slice A m.way.length c,.int .i64 m.left,.int .i64 m.heard] 107 (0,0)))
 (hTurn:∀W,Below X.heap.size X W→Calls Tryz.prog 119 #[.agg #[.string m.name,.string m.sec,.int .i64 m.loc,.slice A m.way.length c,.int .i64 m.left,.int .i64 m.heard]] W fun e w'=>e=.returned (.int .i64 t)∧Below W.heap.size W w')
 (hHome:∀W,Below X.heap.size X W→Calls Tryz.prog 101 #[.agg #[.int .i64 g.blur,.slice a.pS g.sta.length a.cs,.slice a.pM g.mov.length a.cm,.slice a.pZ g.zon.length a.cz],.int .i64 t] W fun e w'=>e=.returned (.int .i64 h)∧Below W.heap.size W w')
 (hLed:∀W,Below X.heap.size X W→Calls Tryz.prog 121 #[.agg #[.int .i64 g.blur,.slice a.pS g.sta.length a.cs,.slice a.pM g.mov.length a.cm,.slice a.pZ g.zon.length a.cz],.agg #[.string m.name,.string m.sec,.int .i64 m.loc,.slice A m.way.length c,.int .i64 m.left,.int .i64 m.heard],.int .i64 h] W fun e w'=>∃A7 c7,e=.returned (.tuple #[.agg #[.string m7.name,.string m7.sec,.int .i64 m7.loc,.slice A7 m7.way.length c7,.int .i64 m7.left,.int .i64 m7.heard],.int .i64 0])∧Below W.heap.size W w'∧P A7 c7 w')
 (hF:∀A7 c7 W,Below X.heap.size X W→P A7 c7 W→F A7 c7 ((((((W.setCell ⟨mb,0,none⟩ (.string m7.name)).setCell ⟨mb,1,none⟩ (.string m7.sec)).setCell ⟨mb,2,none⟩ (.int .i64 m7.loc)).setCell ⟨mb,3,none⟩ (.slice A7 m7.way.length c7)).setCell ⟨mb,4,none⟩ (.int .i64 m7.left)).setCell ⟨mb,5,none⟩ (.int .i64 m7.heard)))
 (u0 u1 u2 u4 u5 u6 u7 u8 u10 u11 u12 u13 u14 u15 u16 u17 u18 u19 u20 u21 u22 u23 u24 u25 u26 u27 u28 u29 u30 u31 u32 u33 u34 u35 u36 u37 u38 u39 u40 u41 u42 u43 u44 u45 u46:Value) (K:Act→World→Prop) (Q:Exit→Act→World→Prop)
 (hK:∀(v29 v30 v31 v32 v33 v34 v35 v28 v36 v37:Value) (wx:World) (A7:Option Addr) (c7:Nat),F A7 c7 wx→K {tmps:= #[u0,u1,u2,.pointer (some ⟨bG,0,none⟩),u4,u5,u6,u7,u8,.pointer (some ⟨mb,0,none⟩),u10,u11,u12,u13,u14,u15,u16,u17,u18,u19,u20,u21,u22,u23,u24,u25,u26,u27,v28,v29,v30,v31,v32,v33,v34,v35,v36,v37,u38,u39,u40,u41,u42,u43,u44,u45,u46],defers:= []} wx):
 Code.wp Tryz.prog dfR_c (Exit.then K Q) {tmps:= #[u0,u1,u2,.pointer (some ⟨bG,0,none⟩),u4,u5,u6,u7,u8,.pointer (some ⟨mb,0,none⟩),u10,u11,u12,u13,u14,u15,u16,u17,u18,u19,u20,u21,u22,u23,u24,u25,u26,u27,u28,u29,u30,u31,u32,u33,u34,u35,u36,u37,u38,u39,u40,u41,u42,u43,u44,u45,u46],defers:= []} X:=by
 have yG:bG<X.heap.size:=World.block_lt_of_cell? X ⟨bG,0,none⟩ hG0
 have yM:mb<X.heap.size:=blk_lt hM
 have hmo:Tryz.prog.follows .mixedOrders=true:=by kernel_rfl
 have HK:=zh hK
 have HM:=zh hM
 have HF:=zh hF
 clear hK hM hF
 conv=>arg 2;whnf
 refine(wpIn_wide (n:=3)).1 ?_
 refine wpIn_region_inv2B hmo (fun L a' w'=>∃(A7:Option Addr) (c7:Nat) (s:Nat→Value),RJ X (stR_v a g m m7 A c t h) P F L A7 c7 s w'∧a'= {tmps:= #[u0,u1,u2,.pointer (some ⟨bG,0,none⟩),u4,u5,u6,u7,u8,.pointer (some ⟨mb,0,none⟩),u10,u11,u12,u13,u14,u15,u16,u17,u18,u19,u20,u21,u22,u23,u24,u25,u26,u27,s 7,s 0,s 1,s 2,s 3,s 4,s 5,s 6,s 8,s 9,u38,u39,u40,u41,u42,u43,u44,u45,u46],defers:= []}) ?acyc ?h0 ?step ?fin
 case acyc=>
  intro i o ho
  have hi:i<11:=by have:=(Array.getElem?_eq_some_iff.1 ho).1;simpa using this
  rcases(show i=0∨i=1∨i=2∨i=3∨i=4∨i=5∨i=6∨i=7∨i=8∨i=9∨i=10 by omega)with rfl|rfl|rfl|rfl|rfl|rfl|rfl|rfl|rfl|rfl|rfl<;>(simp at ho;subst ho;simp[Region.binds])
 case h0=>exact⟨none,0,fun i=>match i with|0=>u29|1=>u30|2=>u31|3=>u32|4=>u33|5=>u34|6=>u35|7=>u28|8=>u36|9=>u37|_=>.bool false,⟨fun _=>by exact zbl,fun h=>(by cases h),fun h=>(by cases h),fun _ _ h=>(by cases h)⟩,rfl⟩
 case step=>
  intro i o ho L a' w' hI hLi hcl he K' hK
  obtain⟨A7,c7,s,hf,rfl⟩:=hI
  have hi:i<11:=by have:=(Array.getElem?_eq_some_iff.1 ho).1;simpa using this
  have hno:i<9→L 10=false:=fun hlt=>by
   cases hL:L 10 with
   |false=>rfl
   |true=>
    have h1:=hcl 10 _ rfl hL
    exfalso
    rcases(show i=0∨i=1∨i=2∨i=3∨i=4∨i=5∨i=6∨i=7∨i=8 by omega)with rfl|rfl|rfl|rfl|rfl|rfl|rfl|rfl|rfl<;>simp[Region.binds,hLi]at h1
  have h65:L 6=true→L 5=true:=fun hL=>by have h1:=hcl 6 _ rfl hL;simp[Region.binds]at h1;simp[h1]
  have h54:L 5=true→L 4=true:=fun hL=>by have h1:=hcl 5 _ rfl hL;simp[Region.binds]at h1;simp[h1]
  have h76:L 7=true→L 6=true:=fun hL=>by have h1:=hcl 7 _ rfl hL;simp[Region.binds]at h1;simp[h1]
  have h87:L 8=true→L 7=true:=fun hL=>by have h1:=hcl 8 _ rfl hL;simp[Region.binds]at h1;simp[h1]
  have h97:L 9=true→L 7=true:=fun hL=>by have h1:=hcl 9 _ rfl hL;simp[Region.binds]at h1;simp[h1]
  rcases(show i=0∨i=1∨i=2∨i=3∨i=4∨i=5∨i=6∨i=7∨i=8∨i=9∨i=10 by omega)with rfl|rfl|rfl|rfl|rfl|rfl|rfl|rfl|rfl|rfl|rfl
  ·simp at ho
   subst ho
   simp[Region.binds]at he
   simp[wpOpIn,Region.wanted]
   have hb:=hf.pre (hno (by decide))
   have hc0:=(hb.cell (p:=⟨bG,0,none⟩) yG).trans hG0
   have hc1:=(hb.cell (p:=⟨bG,1,none⟩) yG).trans hG1
   have hc2:=(hb.cell (p:=⟨bG,2,none⟩) yG).trans hG2
   have hc3:=(hb.cell (p:=⟨bG,3,none⟩) yG).trans hG3
   go_simp
   refine hK _ _ ⟨A7,c7,updS s 0 (.agg #[.int .i64 g.blur,.slice a.pS g.sta.length a.cs,.slice a.pM g.mov.length a.cm,.slice a.pZ g.zon.length a.cz]),hf.const 0 (by decide) (by decide) rfl,?_⟩
   first|rfl|simp[updS]
  ·simp at ho
   subst ho
   simp[Region.binds]at he
   simp[wpOpIn,Region.wanted]
   have hb:=hf.pre (hno (by decide))
   have kM:=(hb.block mb yM).trans HM.out
   (obtain⟨p0,pf0,p1,pf1,p2,pf2,p3,pf3,p4,pf4,p5,pf5⟩:=cv6 kM)
   clear kM
   go_simp
   refine hK _ _ ⟨A7,c7,updS s 1 (.agg #[.string m.name,.string m.sec,.int .i64 m.loc,.slice A m.way.length c,.int .i64 m.left,.int .i64 m.heard]),hf.const 1 (by decide) (by decide) rfl,?_⟩
   first|rfl|simp[updS]
  ·simp at ho
   subst ho
   simp[Region.binds]at he
   simp[wpOpIn,Region.wanted]
   have hb:=hf.pre (hno (by decide))
   have hc0:=(hb.cell (p:=⟨bG,0,none⟩) yG).trans hG0
   have hc1:=(hb.cell (p:=⟨bG,1,none⟩) yG).trans hG1
   have hc2:=(hb.cell (p:=⟨bG,2,none⟩) yG).trans hG2
   have hc3:=(hb.cell (p:=⟨bG,3,none⟩) yG).trans hG3
   go_simp
   refine hK _ _ ⟨A7,c7,updS s 2 (.agg #[.int .i64 g.blur,.slice a.pS g.sta.length a.cs,.slice a.pM g.mov.length a.cm,.slice a.pZ g.zon.length a.cz]),hf.const 2 (by decide) (by decide) rfl,?_⟩
   first|rfl|simp[updS]
  ·simp at ho
   subst ho
   simp[Region.binds]at he
   simp[wpOpIn,Region.wanted]
   have hb:=hf.pre (hno (by decide))
   have kM:=(hb.block mb yM).trans HM.out
   (obtain⟨p0,pf0,p1,pf1,p2,pf2,p3,pf3,p4,pf4,p5,pf5⟩:=cv6 kM)
   clear kM
   go_simp
   refine hK _ _ ⟨A7,c7,updS s 3 (.agg #[.string m.name,.string m.sec,.int .i64 m.loc,.slice A m.way.length c,.int .i64 m.left,.int .i64 m.heard]),hf.const 3 (by decide) (by decide) rfl,?_⟩
   first|rfl|simp[updS]
  ·simp at ho
   subst ho
   simp[Region.binds]at he
   have e3:s 3=stR_v a g m m7 A c t h A7 c7 3:=hf.k 3 (by decide) (by simp[he])
   simp only[stR_v]at e3
   simp[wpOpIn,Region.wanted]
   have hb:=hf.pre (hno (by decide))
   have hn10:=hno (by decide)
   have hn6:L 6=false:=(by cases h6:L 6 with|false=>rfl|true=>exact absurd (h54 (h65 h6)) (by simp[hLi]))
   have HC:=zh ((callsIn_wide (n:=2)).2 (hTurn w' hb))
   go_simp
   refine⟨trivial,HC.out.mono ?_⟩
   rintro e wc ⟨rfl,hbc⟩
   simp only
   refine hK _ _ ⟨A7,c7,updS s 4 (.int .i64 t),(hf.world hn6 hn10 hbc).const 4 (by decide) (by decide) rfl,?_⟩
   first|rfl|simp[updS,e3]
  ·simp at ho
   subst ho
   simp[Region.binds]at he
   have e2:s 2=stR_v a g m m7 A c t h A7 c7 2:=hf.k 2 (by decide) (by simp[he])
   simp only[stR_v]at e2
   have e4:s 4=stR_v a g m m7 A c t h A7 c7 4:=hf.k 4 (by decide) (by simp[he])
   simp only[stR_v]at e4
   simp[wpOpIn,Region.wanted]
   have hb:=hf.pre (hno (by decide))
   have hn10:=hno (by decide)
   have hn6:L 6=false:=(by cases h6:L 6 with|false=>rfl|true=>exact absurd (h65 h6) (by simp[hLi]))
   have HC:=zh ((callsIn_wide (n:=2)).2 (hHome w' hb))
   go_simp
   refine⟨trivial,HC.out.mono ?_⟩
   rintro e wc ⟨rfl,hbc⟩
   simp only
   refine hK _ _ ⟨A7,c7,updS s 5 (.int .i64 h),(hf.world hn6 hn10 hbc).const 5 (by decide) (by decide) rfl,?_⟩
   first|rfl|simp[updS,e2,e4]
  ·simp at ho
   subst ho
   simp[Region.binds]at he
   have e0:s 0=stR_v a g m m7 A c t h A7 c7 0:=hf.k 0 (by decide) (by simp[he])
   simp only[stR_v]at e0
   have e1:s 1=stR_v a g m m7 A c t h A7 c7 1:=hf.k 1 (by decide) (by simp[he])
   simp only[stR_v]at e1
   have e5:s 5=stR_v a g m m7 A c t h A7 c7 5:=hf.k 5 (by decide) (by simp[he])
   simp only[stR_v]at e5
   simp[wpOpIn,Region.wanted]
   have hb:=hf.pre (hno (by decide))
   have hn10:=hno (by decide)
   have HC:=zh ((callsIn_wide (n:=2)).2 (hLed w' hb))
   go_simp
   refine⟨trivial,HC.out.mono ?_⟩
   rintro e wc ⟨A8,c8,rfl,hbc,hp⟩
   simp only
   refine hK _ _ ⟨A8,c8,updS s 6 (.tuple #[.agg #[.string m7.name,.string m7.sec,.int .i64 m7.loc,.slice A8 m7.way.length c8,.int .i64 m7.left,.int .i64 m7.heard],.int .i64 0]),⟨fun _=>hb.trans (hbc.mono hb.size),fun _ _=>hp,fun e=>?_,fun j hj hL=>?_⟩,?_⟩
   ·rw[updL_ne (by decide),hn10]at e;cases e
   ·unfold updS
    by_cases e:j=6
    ·subst e;rw[if_pos rfl];rfl
    ·rw[if_neg e]
     rw[updL_ne e]at hL
     have hk:=hf.k j hj hL
     rcases(show j=0∨j=1∨j=2∨j=3∨j=4∨j=5∨j=7∨j=8∨j=9 by omega)with rfl|rfl|rfl|rfl|rfl|rfl|rfl|rfl|rfl
     ·exact hk
     ·exact hk
     ·exact hk
     ·exact hk
     ·exact hk
     ·exact hk
     ·exact absurd (h76 hL) (by simp[hLi])
     ·exact absurd (h76 (h87 hL)) (by simp[hLi])
     ·exact absurd (h76 (h97 hL)) (by simp[hLi])
   first|rfl|simp[updS,e0,e1,e5]
  ·simp at ho
   subst ho
   simp[Region.binds]at he
   have e6:s 6=stR_v a g m m7 A c t h A7 c7 6:=hf.k 6 (by decide) (by simp[he])
   simp only[stR_v]at e6
   simp[wpOpIn,Region.wanted]
   go_simp
   refine hK _ _ ⟨A7,c7,updS s 7 (.tuple #[.agg #[.string m7.name,.string m7.sec,.int .i64 m7.loc,.slice A7 m7.way.length c7,.int .i64 m7.left,.int .i64 m7.heard],.int .i64 0]),hf.const 7 (by decide) (by decide) rfl,?_⟩
   first|rfl|simp[updS,e6]
  ·simp at ho
   subst ho
   simp[Region.binds]at he
   have e7:s 7=stR_v a g m m7 A c t h A7 c7 7:=hf.k 7 (by decide) (by simp[he])
   simp only[stR_v]at e7
   simp[wpOpIn,Region.wanted]
   go_simp
   refine hK _ _ ⟨A7,c7,updS s 8 (.agg #[.string m7.name,.string m7.sec,.int .i64 m7.loc,.slice A7 m7.way.length c7,.int .i64 m7.left,.int .i64 m7.heard]),hf.const 8 (by decide) (by decide) rfl,?_⟩
   first|rfl|simp[updS,e7]
  ·simp at ho
   subst ho
   simp[Region.binds]at he
   have e7:s 7=stR_v a g m m7 A c t h A7 c7 7:=hf.k 7 (by decide) (by simp[he])
   simp only[stR_v]at e7
   simp[wpOpIn,Region.wanted]
   go_simp
   refine hK _ _ ⟨A7,c7,updS s 9 (.int .i64 0),hf.const 9 (by decide) (by decide) rfl,?_⟩
   first|rfl|simp[updS,e7]
  ·simp at ho
   subst ho
   simp[Region.binds]at he
   have e8:s 8=stR_v a g m m7 A c t h A7 c7 8:=hf.k 8 (by decide) (by simp[he])
   simp only[stR_v]at e8
   have hb:=hf.pre hLi
   have hp:=hf.led (by simp[he]) hLi
   have hff:=HF.out A7 c7 w' hb hp
   have kM:=(hb.block mb yM).trans HM.out
   (obtain⟨p0,pf0,p1,pf1,p2,pf2,p3,pf3,p4,pf4,p5,pf5⟩:=cv6 kM)
   clear kM
   have yw:mb<w'.heap.size:=Nat.lt_of_lt_of_le yM hb.size
   simp[wpOpIn,Region.wanted,e8]
   go_simp
   refine hK _ _ ⟨A7,c7,s,⟨fun e=>?_,fun _ e=>?_,fun _=>hff,fun j hj hL=>?_⟩,?_⟩
   ·simp[updL]at e
   ·simp[updL]at e
   ·rw[updL_ne (by omega)]at hL;exact hf.k j hj hL
   first|rfl|simp[e8]
 case fin=>
  intro L a' w' hI hall
  obtain⟨A7,c7,s,hf,rfl⟩:=hI
  exact HK.out (s 0) (s 1) (s 2) (s 3) (s 4) (s 5) (s 6) (s 7) (s 8) (s 9) w' A7 c7 (hf.post (hall 10 (by simp)))
end Go.Proofs.YtehnikhicnnnhaaGreatDoor
namespace Go.Proofs.YtehnikhicnnnhaaGreatDoor
open Go.RowKit
theorem SB.setHeard{W0 wr V:World}{gb mb c:Nat}{m:Mir}{A:Option Addr}(h:SB W0 wr gb mb m A c V)(n:Int):SB W0 wr gb mb {m with heard:=n} A c (V.setCell ⟨mb,5,none⟩ (.int .i64 n)):=by
 have h1:=h.mir.setc (p:=⟨mb,5,none⟩) (.int .i64 n) (fun hne a ha=>(h.ne hne a ha).1)
 exact⟨heap_setCell_same V mb 5 _ _ _ h.box,⟨Rw.more h1.way (by simp),h1.cap⟩,Below.setCell h.low (p:=⟨mb,5,none⟩) h.lo _,h.lo,h.fr,h.ne,h.nil,by simpa using h.lt⟩
theorem mapG_set{F:Mir→Mir}{xs ys:List MA}{k:Nat}{y:MA}(hk:k<xs.length)(h:ys.map MA.m=((xs.map MA.m).take k).map F++(xs.map MA.m).drop k)(hy:y.m=F xs[k].m):
 (ys.set k y).map MA.m=((xs.map MA.m).take (k+1)).map F++(xs.map MA.m).drop (k+1):=by
 rw[List.map_set,h,hy]
 have h1:((xs.map MA.m).take k).map F=((xs.map MA.m).map F).take k:=by rw[List.map_take]
 have hl2:(((xs.map MA.m).take k).map F).length=k:=by simp;omega
 rw[List.set_append_right _ _ (by omega),hl2,Nat.sub_self]
 have h2:(xs.map MA.m).drop k=xs[k].m::(xs.map MA.m).drop (k+1):=by
  rw[List.drop_eq_getElem_cons (by simpa using hk)];simp
 rw[h2,List.set_cons_zero,List.take_succ_eq_append_getElem (by simpa using hk),List.map_append]
 simp
theorem mapG_skip{F:Mir→Mir}{xs ys:List MA}{k:Nat}(hk:k<xs.length)(h:ys.map MA.m=((xs.map MA.m).take k).map F++(xs.map MA.m).drop k)(hy:F xs[k].m=xs[k].m):
 ys.map MA.m=((xs.map MA.m).take (k+1)).map F++(xs.map MA.m).drop (k+1):=by
 have h2:(xs.map MA.m).drop k=xs[k].m::(xs.map MA.m).drop (k+1):=by
  rw[List.drop_eq_getElem_cons (by simpa using hk)];simp
 rw[h,h2,List.take_succ_eq_append_getElem (by simpa using hk),List.map_append]
 simp[hy]
theorem mapG_at{F:Mir→Mir}{xs ys:List MA}{k:Nat}(hk:k<xs.length)(hk':k<ys.length)(h:ys.map MA.m=((xs.map MA.m).take k).map F++(xs.map MA.m).drop k):ys[k].m=xs[k].m:=by
 have h1:(ys.map MA.m)[k]? =(((xs.map MA.m).take k).map F++(xs.map MA.m).drop k)[k]? :=by rw[h]
 have hl2:(((xs.map MA.m).take k).map F).length=k:=by simp;omega
 rw[List.getElem?_map,List.getElem?_eq_getElem hk',List.getElem?_append_right (by omega),hl2,Nat.sub_self,List.getElem?_drop,List.getElem?_map,Nat.add_zero,List.getElem?_eq_getElem hk]at h1
 simpa using h1
set_option maxRecDepth 100000 in
set_option maxHeartbeats 16000000 in
theorem rDefocused_c(a:GA)(g:Grd)(tk ls:Int)(A:Option Addr)(c:Nat)(xs:List MA)(s:ByteArray)(w:World)(hok:okG g)(hu:Uniq g.mov)(hf0:okFld g (fldOf tk ls xs))(hz:NilW xs)(hr:GridR w w.heap.size a g)(hf:FldR w w.heap.size A c xs):
 Calls Tryz.prog 73 #[(.agg #[.int .i64 g.blur,.slice a.pS g.sta.length a.cs,.slice a.pM g.mov.length a.cm,.slice a.pZ g.zon.length a.cz]),(.agg #[.int .i64 tk,.int .i64 ls,.slice A xs.length c]),.string s] w fun e w'=>∃A' c' ys,e=.returned (.agg #[.int .i64 tk,.int .i64 ls,.slice A' ys.length c'])∧fldOf tk ls ys=defG g (fldOf tk ls xs) s∧OwnT 107 w' w.heap.size A' c' ys∧(∀y∈ys,∀a,y.A=some a→w.heap.size≤a.block)∧NilW ys∧Below w.heap.size w w':=by
 obtain⟨i0,hi,hz0,hz1,hz2⟩:=info_parts Tryz.infoInt
 have hn:xs.length≤16:=by have:=hf0.n;simpa [fldOf]using this
 have htk0:0≤tk:=hf0.tick0
 have htk1:tk≤20000000:=hf0.tick1
 have hls:1≤ls∧ls≤100:=⟨hf0.lease0,hf0.lease1⟩
 have hm0:∀x∈xs,okMir g x.m:=fun x hx=>hf0.mir x.m (List.mem_map_of_mem hx)
 have hh0:∀x∈xs,0≤x.m.heard∧x.m.heard≤tk:=fun x hx=>hf0.heard x.m (List.mem_map_of_mem hx)
 have hns:=hok.ns
 obtain⟨W0,hW0⟩:∃W0,W0=((w.alloc (.cells #[.int .i64 g.blur,.slice a.pS g.sta.length a.cs,.slice a.pM g.mov.length a.cm,.slice a.pZ g.zon.length a.cz] 26)).alloc (.cells #[.int .i64 tk,.int .i64 ls,.slice A xs.length c] 66)).alloc (.cells #[.int .i64 0,.int .i64 0,.slice none 0 0] 66):=⟨_,rfl⟩
 have hB0:Below w.heap.size w W0:=by rw[hW0];(repeat first|(with_reducible first|assumption|exact Below.refl _ _|refine Bl.drew ?_|refine Bl.drewN ?_ _|refine Bl.alloc ?_ _|refine Bl.set ?_ _ ?_)|(with_reducible apply Bl.step';(focus(with_reducible assumption)))|omega|(focus(simp;done))|(focus(simp;omega)))
 have hsz:W0.heap.size=w.heap.size+3:=by rw[hW0];simp
 have k0:W0.heap[w.heap.size]? =some (.cells #[.int .i64 g.blur,.slice a.pS g.sta.length a.cs,.slice a.pM g.mov.length a.cm,.slice a.pZ g.zon.length a.cz] 26 (0,0)):=by rw[hW0];exact heap_fst _ _ _ _
 have k1:W0.heap[w.heap.size+1]? =some (.cells #[.int .i64 tk,.int .i64 ls,.slice A xs.length c] 66 (0,0)):=by rw[hW0];exact heap_mid _ _ _ _
 have k2:W0.heap[w.heap.size+1+1]? =some (.cells #[.int .i64 0,.int .i64 0,.slice none 0 0] 66 (0,0)):=by rw[hW0];exact heap_lst _ _ _ _
 have HB0:=zh hB0
 have HGw:=zh hr
 have HFw:=zh (show ∀W,Below w.heap.size w W→FldR W W.heap.size A c xs from fun W hb=>⟨(hf.rw_.belowB (w0:=w) hb (Nat.le_refl _)).more hb.size,fun x hx=>((hf.each x hx).belowB (w0:=w) hb (Nat.le_refl _)).more hb.size,hf.cap⟩)
 have HM0:=zh hm0
 have HH0:=zh hh0
 have HOK:=zh hok
 have HU:=zh hu
 have K0:=zh k0
 have K1:=zh k1
 have K2:=zh k2
 have HOWN:=zh (fun W (h:Below w.heap.size w W)=>rOwn_c tk ls A c xs W (by omega) (fun x hx=>by have:=(hm0 x hx).len;omega) hz (HFw.out W h))
 (obtain⟨v0,vf0,v1,vf1,v2,vf2⟩:=cv3 k1)
 clear hr hf hz k0 k1 k2 hm0 hh0 hf0 hB0
 go_enter Tryz.func73,Tryz.ntmps73
 go_upto_region 2 with (go_at_call 117;(first|rw[←hW0]|skip);(with_reducible refine Calls.mono (HOWN.out _ HB0.out) ?_);rintro e w1 ⟨A1,c1,ys0,rfl,hm1,ho1,hf1,hn1,hb1⟩)
 obtain⟨b8,hb8⟩:∃b,b=w1.heap.size:=⟨_,rfl⟩
 obtain⟨W1,hW1⟩:∃W,W=w1.alloc (.cells #[.int .i64 tk,.int .i64 ls,.slice A1 ys0.length c1] 66):=⟨_,rfl⟩
 rw[←hb8,←hW1]
 have hb1':Below W0.heap.size W0 w1:=by(first|exact hb1|(rw[hW0];exact hb1))
 have ho1':OwnT 107 w1 W0.heap.size A1 c1 ys0:=by(first|exact ho1|(rw[hW0];exact ho1))
 have hf1':∀y∈ys0,∀a,y.A=some a→W0.heap.size≤a.block:=by(first|exact hf1|(rw[hW0];exact hf1))
 have hB1:Below W0.heap.size W0 W1:=by rw[hW1];exact hb1'.alloc hb1'.size _
 have j8:W1.heap[b8]? =some (.cells #[.int .i64 tk,.int .i64 ls,.slice A1 ys0.length c1] 66 (0,0)):=by rw[hW1,hb8];exact heap_alloc_new w1 _
 have hyl:ys0.length=xs.length:=by simpa using congrArg List.length hm1
 rw[hyl]at j8
 have hz8:W0.heap.size≤b8:=by rw[hb8];exact hb1'.size
 have z0:w.heap.size<W0.heap.size:=by omega
 have z1:w.heap.size+1<W0.heap.size:=by omega
 have z2:w.heap.size+1+1<W0.heap.size:=by omega
 have hA8:∀a,A1=some a→a.block<b8:=fun a ha=>by
  rcases ho1'.row.2 with ⟨hv,_⟩|⟨gg,cap,cur,hv,hgb,hgg,_⟩
  ·rw[ha]at hv;cases hv
  ·rw[ha]at hv
   cases hv
   rw[hb8]
   exact(Array.getElem?_eq_some_iff.1 hgg).1
 have ho2:OwnT 107 W1 W0.heap.size A1 c1 ys0:=by rw[hW1];exact ho1'.below (Below.alloc (Below.refl _ _) (Nat.le_refl _) _)
 have hw8:∀x∈ys0,x.m.way≠ []→∀a,x.A=some a→a.block<b8:=fun x hx hne a ha=>by
  obtain⟨b2,off2,e2,hb2,_⟩:=(ho1'.each x hx).way.at hne
  rw[e2]at ha
  cases ha
  rw[hb8]
  exact hb2
 have y8:b8<W1.heap.size:=blk_lt j8
 have hc1:=(bcell hB1).1
 have y1:w.heap.size+1<W1.heap.size:=Nat.lt_of_lt_of_le z1 hB1.size
 (obtain⟨q0,qf0,q1,qf1,q2,qf2⟩:=cv3 j8)
 have HYL:=zh hyl
 clear hW1 hb8 hW0 hyl
 obtain⟨W2,hW2⟩:∃W,W=W1:=⟨_,rfl⟩
 rw[←hW2]at ho2 ⊢
 have j8':W2.heap[b8]? =some (.cells #[.int .i64 tk,.int .i64 ls,.slice A1 xs.length c1] 66 (0,0)):=by rw[hW2];exact j8
 have hB2:Below W0.heap.size W0 W2:=by rw[hW2];exact hB1
 have HB2:=zh hB2
 have HJ8:=zh j8'
 have HO3:=zh ho2
 have HF3:=zh hf1'
 have HN3:=zh hn1
 have HM3:=zh (show ys0.map MA.m=((xs.map MA.m).take 0).map (defM g (fldOf tk ls xs) s)++(xs.map MA.m).drop 0 by simpa using hm1)
 have HA8:=zh (show ∀a,A1=some a→a.block≠b8 from fun a ha e=>by have:=hA8 a ha;omega)
 clear hb1 ho1 hf1 hn1 hm1 hb1' ho1' hf1' hB1 j8 hA8 ho2 hw8 hc1 q0 q1 q2 qf0 qf1 qf2 hW2 hB2 j8' v0 v1 v2 vf0 vf1 vf2 y8 y1
 go_wp2_with fail
 go_loopw [8] (fun i wr=>∃(k:Nat) (ys:List MA),k≤xs.length∧i=.int .i64 k∧ys.length=xs.length∧Hid (ys.map MA.m=((xs.map MA.m).take k).map (defM g (fldOf tk ls xs) s)++(xs.map MA.m).drop k)∧Hid (wr.heap[b8]? =some (.cells #[.int .i64 tk,.int .i64 ls,.slice A1 xs.length c1] 66 (0,0)))∧Hid (OwnT 107 wr W0.heap.size A1 c1 ys)∧Hid (∀y∈ys,∀a,y.A=some a→W0.heap.size≤a.block)∧Hid (NilW ys)∧Hid (∀a,A1=some a→a.block≠b8)∧Below W0.heap.size W0 wr) (fun i _=>xs.length-(intOf i).toNat)
 case atStart=>exact⟨0,ys0,Nat.zero_le _,rfl,HYL.out,HM3,HJ8,HO3,HF3,HN3,HA8,HB2.out⟩
 case round=>
  clear HM3 HJ8 HO3 HF3 HN3
  obtain⟨k,ys,hk,rfl,hyl,HMP,HJ8,HO,HF,HN,HA8,hb⟩:=hrel
  have hcw:=(bcell hb).1
  have y0:w.heap.size<wr.heap.size:=Nat.lt_of_lt_of_le z0 hb.size
  have y1:w.heap.size+1<wr.heap.size:=Nat.lt_of_lt_of_le z1 hb.size
  have y2:w.heap.size+1+1<wr.heap.size:=Nat.lt_of_lt_of_le z2 hb.size
  have j8:=HJ8.out
  have y8:b8<wr.heap.size:=blk_lt j8
  (obtain⟨h0,hf0,h1,hf1,h2,hf2⟩:=cv3 j8)
  clear j8
  by_cases hlt:k<xs.length
  ·have hlt':k<ys.length:=by omega
   obtain⟨x,hx⟩:∃x,x=ys[k]:=⟨_,rfl⟩
   have hxm:x∈ys:=by rw[hx];exact List.getElem_mem hlt'
   have hmx:x.m=xs[k].m:=by rw[hx];exact mapG_at hlt hlt' HMP.out
   have hmo:okMir g x.m:=by rw[hmx];exact HM0.out _ (List.getElem_mem hlt)
   have hhe:0≤x.m.heard∧x.m.heard≤tk:=by rw[hmx];exact HH0.out _ (List.getElem_mem hlt)
   have ho:=HO.out
   rw[←hyl]at h2
   obtain⟨gb,cap,hv,hgb,hgl⟩:=ho.row.form (by omega)
   injection hv with hvA hvl hvc
   subst hvA
   subst hvc
   obtain⟨b,off,ea,hbl,x0,x1,x2,x3,x4,x5⟩:=ho.fld.rw_.get6 (k:=k) (by simpa using hlt') (by rw[List.getElem_map,←hx];rfl)
   cases ea
   simp only[Nat.zero_add]at x0 x1 x2 x3 x4 x5
   have tf0:=ho.row.frozenAt (k*6)
   have tf1:=ho.row.frozenAt (k*6+1)
   have tf2:=ho.row.frozenAt (k*6+2)
   have tf3:=ho.row.frozenAt (k*6+3)
   have tf4:=ho.row.frozenAt (k*6+4)
   have tf5:=ho.row.frozenAt (k*6+5)
   have hmr:=ho.each x hxm
   have hne:=ho.apart x hxm
   have hfx:=HF.out x hxm
   have hnx:=HN.out x hxm
   obtain⟨m,hm⟩:∃m,m=x.m:=⟨_,rfl⟩
   obtain⟨xA,hxA⟩:∃q,q=x.A:=⟨_,rfl⟩
   obtain⟨xc,hxc⟩:∃q,q=x.c:=⟨_,rfl⟩
   rw[←hm]at x0 x1 x2 x3 x4 x5 hmo hhe hmr hne
   rw[←hxA]at x3 hmr hne hfx hnx
   rw[←hxc]at x3 hmr hnx
   have HMX:=zh (hm.trans hmx)
   have ix0:(0:Int)≤(k:Int):=by omega
   have ix1:(k:Int)<(ys.length:Int):=by omega
   have ix6:IntKind.i64.wrap (k:Int)=(k:Int):=IntWalk.i64_in _ (by omega)
   have zg:gb<wr.heap.size:=hgl
   clear hx hxm hmx hm hxA hxc ho
   obtain⟨mb,hmb⟩:∃b,b=wr.heap.size:=⟨_,rfl⟩
   obtain⟨V,hV⟩:∃W,W=wr.alloc (.cells #[.string m.name,.string m.sec,.int .i64 m.loc,.slice xA m.way.length xc,.int .i64 m.left,.int .i64 m.heard] 107):=⟨_,rfl⟩
   have kV:V.heap[mb]? =some (.cells #[.string m.name,.string m.sec,.int .i64 m.loc,.slice xA m.way.length xc,.int .i64 m.left,.int .i64 m.heard] 107 (0,0)):=by rw[hV,hmb];exact heap_alloc_new wr _
   have hbV:Below wr.heap.size wr V:=by rw[hV];exact Below.alloc (Below.refl _ _) (Nat.le_refl _) _
   have hsV:SB W0 wr gb mb m xA xc V:=⟨kV,⟨hmr.way.to hbV,hmr.cap⟩,hbV,by omega,hfx,fun hn a ha=>⟨fun e=>by
    obtain⟨b2,off2,e2,hb2,_⟩:=hmr.way.at hn
    rw[e2]at ha
    cases ha
    simp only at e
    omega,hne hn a ha _ rfl⟩,hnx,blk_lt kV⟩
   have HSB:=zh hsV
   have hbV0:Below W0.heap.size W0 V:=hb.trans (hbV.mono hb.size)
   have HGV:=zh (show ∀W,Below W0.heap.size W0 W→GridR W W.heap.size a g from fun W h=>HGw.out.to (HB0.out.trans (h.mono (by omega))))
   have HOr:=zh HO.out
   have HMO:=zh hmo
   have HXN:=zh hyl
   go_upto_region 6 with fail
   rw[←hmb,←hV]
   have hzg:gb<V.heap.size:=Nat.lt_of_lt_of_le zg hbV.size
   have hzm:mb<V.heap.size:=hsV.lt
   have hz0V:W0.heap.size≤V.heap.size:=hbV0.size
   have hy8:b8<V.heap.size:=Nat.lt_of_lt_of_le y8 hbV.size
   clear hV hmb h0 h1 h2 hf0 hf1 hf2 x0 x1 x2 x3 x4 x5 tf0 tf1 tf2 tf3 tf4 tf5 hmr hne hfx hnx hsV hcw
   have hq:=sEq_list m.sec s
   (obtain⟨p0,pf0,p1,pf1,p2,pf2,p3,pf3,p4,pf4,p5,pf5⟩:=cv6 kV)
   have HKV:=zh kV
   have HBV:=zh hbV
   have HBV0:=zh hbV0
   clear kV
   cases hsec:sEq m.sec s
   case false=>
    have HDM:=zh (show defM g (fldOf tk ls xs) s m=m by unfold defM;rw[hsec];rfl)
    rw[hsec]at hq
    clear hsec
    go_wp2_with fail
    go_roundw
    case rel=>
     exact⟨k+1,ys,by omega,by go_num,HXN.out,zh (mapG_skip hlt HMP.out (by rw[←HMX.out,HDM.out])),zh ((HBV.out.block b8 y8).trans HJ8.out),zh (HOr.out.below HBV.out),HF,HN,HA8,HBV0.out⟩
    case measure=>simp[intOf];omega
   case true=>
    rw[hsec]at hq
    have HSEC:=zh hsec
    clear hsec
    have hh:=HMO.out.home
    have hhs:=homeG_some hh
    obtain⟨r,hr⟩:=Option.isSome_iff_exists.1 hhs.2.2.1
    obtain⟨m7,hm7⟩:∃m7,ledG g m (homeG g (turnM m))=some m7:=by
     unfold ledG
     rw[hr]
     simp only
     split<;>exact⟨_,rfl⟩
    have HDM:=zh (show defM g (fldOf tk ls xs) s m= {m7 with heard:=tk} by
     unfold defM
     rw[HSEC.out,if_pos rfl]
     unfold sentG
     rw[hm7]
     rfl)
    have ht:=HMO.out.turn
    obtain⟨kh,hkh⟩:=Int.eq_ofNat_of_zero_le hh
    have hkhn:kh<g.sta.length:=by have:=hhs.2.1;omega
    rw[hkh]at hm7 hr
    have HTU:=zh (fun W (h:MirR W W.heap.size m xA xc)=>rTurn_c m xA xc W h)
    have hHM:=fun W (h:GridR W W.heap.size a g)=>rHome_c a g (turnM m) W HOK.out HU.out ht h
    rw[hkh]at hHM
    have HHM:=zh hHM
    have HLD:=zh (fun W (h:GridR W W.heap.size a g) (h2:MirR W W.heap.size m xA xc)=>rLedS_c a g m xA xc kh W HOK.out HU.out ht hkhn h h2 hr)
    have HM7:=zh hm7
    clear hHM hr hm7 hhs hh hkh
    go_upto_region 7 with fail
    obtain⟨W7,hW7⟩:∃W,W=V:=⟨_,rfl⟩
    subst hW7
    have kM:=HKV.out
    have kG:=(HBV0.out.block w.heap.size z0).trans K0.out
    (obtain⟨e0,e1,e2,e3⟩:=cg4 kG)
    have hMIRc:=HSB.out.mir
    have hLD2:∀W,Below W7.heap.size W7 W→Calls Tryz.prog 121 #[(.agg #[.int .i64 g.blur,.slice a.pS g.sta.length a.cs,.slice a.pM g.mov.length a.cm,.slice a.pZ g.zon.length a.cz]),(.agg #[.string m.name,.string m.sec,.int .i64 m.loc,.slice xA m.way.length xc,.int .i64 m.left,.int .i64 m.heard]),.int .i64 kh] W fun e w'=>∃A7 c7,e=.returned (.tuple #[(.agg #[.string m7.name,.string m7.sec,.int .i64 m7.loc,.slice A7 m7.way.length c7,.int .i64 m7.left,.int .i64 m7.heard]),.int .i64 0])∧Below W.heap.size W w'∧(MirR w' w'.heap.size m7 A7 c7∧(∀a,A7=some a→W7.heap.size≤a.block)∧(A7=none→c7=0)):=fun W h=>by
     refine(HLD.out W (HGV.out W (HBV0.out.trans (h.mono hz0V))) ⟨hMIRc.way.to h,hMIRc.cap⟩).mono ?_
     rintro e w' ⟨m2,A7,c7,rfl,hm2,hr7,hf7,hn7,hb6⟩
     obtain rfl:m2=m7:=Option.some.inj (hm2.symm.trans HM7.out)
     exact⟨A7,c7,rfl,hb6,hr7,fun a ha=>Nat.le_trans h.size (hf7 a ha),hn7⟩
    refine dfR_r W7 a g m m7 xA xc w.heap.size mb (turnM m) kh (fun A7 c7 W=>MirR W W.heap.size m7 A7 c7∧(∀a,A7=some a→W7.heap.size≤a.block)∧(A7=none→c7=0)) (fun A7 c7 W=>SB W0 wr gb mb m7 A7 c7 W) e0 e1 e2 e3 kM (fun W h=>HTU.out W ⟨hMIRc.way.to h,hMIRc.cap⟩) (fun W h=>HHM.out W (HGV.out W (HBV0.out.trans (h.mono hz0V)))) hLD2 (fun A7 c7 W h hp=>HSB.out.setAll h hp.1 hp.2.1 hp.2.2 hz0V hzg) _ _ _ _ _ _ _ _ _ _ _ _ _ _ _ _ _ _ _ _ _ _ _ _ _ _ _ _ _ _ _ _ _ _ _ _ _ _ _ _ _ _ _ _ _ _ _ ?_
    intro v29 v30 v31 v32 v33 v34 v35 v28 v36 v37 wx A7 c7 hs7
    dsimp only
    have HS7:=zh hs7
    have kM7:=hs7.box
    have hlow7:Below W0.heap.size W0 wx:=hb.trans (hs7.low.mono hb.size)
    have kF7:=(hlow7.block (w.heap.size+1) z1).trans K1.out
    have zm7:mb<wx.heap.size:=hs7.lt
    have yf7:w.heap.size+1<wx.heap.size:=blk_lt kF7
    clear hs7 hLD2 hMIRc e0 e1 e2 e3 kG kM p0 p1 p2 p3 p4 p5 pf0 pf1 pf2 pf3 pf4 pf5
    (obtain⟨p0,pf0,p1,pf1,p2,pf2,p3,pf3,p4,pf4,p5,pf5⟩:=cv6 kM7)
    (obtain⟨q0,qf0,q1,qf1,q2,qf2⟩:=cv3 kF7)
    clear kM7 kF7
    go_upto_region 9 with fail
    obtain⟨V2,hV2⟩:∃W,W=wx.setCell ⟨mb,5,none⟩ (.int .i64 tk):=⟨_,rfl⟩
    have hS2:=HS7.out.setHeard tk
    rw[←hV2]at hS2 ⊢
    obtain⟨m8,hm8⟩:∃m8,m8= {m7 with heard:=tk}:=⟨_,rfl⟩
    rw[←hm8]at hS2
    have HSTEP:=zh (show defM g (fldOf tk ls xs) s m=m8 by rw[HDM.out,hm8])
    have hwy8:m8.way=m7.way:=by rw[hm8]
    have kM2:=hS2.box
    clear p0 p1 p2 p3 p4 p5 pf0 pf1 pf2 pf3 pf4 pf5 q0 q1 q2 qf0 qf1 qf2 hV2 zm7 yf7 hm8
    (obtain⟨p0,pf0,p1,pf1,p2,pf2,p3,pf3,p4,pf4,p5,pf5⟩:=cv6 kM2)
    have zmV:mb<V2.heap.size:=hS2.lt
    clear kM2 hwy8
    have k8:=(hS2.low.block b8 y8).trans HJ8.out
    (obtain⟨h0,hf0,h1,hf1,h2,hf2⟩:=cv3 k8)
    clear k8
    have hOx:=HOr.out.below hS2.low
    obtain⟨b6,off6,e6,_,t0,t1,t2,t3,t4,t5⟩:=hOx.fld.rw_.get6 (k:=k) (by simpa using hlt') (by rw[List.getElem_map];rfl)
    cases e6
    simp only[Nat.zero_add]at t0 t1 t2 t3 t4 t5
    have tf0:=hOx.row.frozenAt (k*6)
    have tf1:=hOx.row.frozenAt (k*6+1)
    have tf2:=hOx.row.frozenAt (k*6+2)
    have tf3:=hOx.row.frozenAt (k*6+3)
    have tf4:=hOx.row.frozenAt (k*6+4)
    have tf5:=hOx.row.frozenAt (k*6+5)
    have zgV:gb<V2.heap.size:=Nat.lt_of_lt_of_le zg hS2.low.size
    have hcl:=hS2.close HOr.out hlt'
    have HCL:=zh hcl
    have HJX:=zh ((hS2.low.block b8 y8).trans HJ8.out)
    have HSY:=zh hS2
    have hne8:b8≠gb:=fun e=>HA8.out _ rfl e.symm
    have hlowX:Below W0.heap.size W0 V2:=hb.trans (hS2.low.mono hb.size)
    clear hcl hOx
    go_wp2_with fail
    go_roundw
    case rel=>first|exact⟨k+1,ys.set k ⟨m8,A7,c7⟩,by omega,by go_num,by rw[List.length_set];exact HXN.out,zh (mapG_set hlt HMP.out (by rw[←HMX.out,HSTEP.out])),zh (by rw[heap_setCell_other _ _ _ _ hne8,heap_setCell_other _ _ _ _ hne8,heap_setCell_other _ _ _ _ hne8,heap_setCell_other _ _ _ _ hne8,heap_setCell_other _ _ _ _ hne8,heap_setCell_other _ _ _ _ hne8];exact HJX.out),HCL,zh (set_fresh HF.out HSY.out.fr),zh (set_nilW HN.out HSY.out.nil),HA8,by exact zbl⟩|((repeat apply Exists.intro);refine⟨?_,rfl⟩;exact⟨k+1,ys.set k ⟨m8,A7,c7⟩,by omega,by go_num,by rw[List.length_set];exact HXN.out,zh (mapG_set hlt HMP.out (by rw[←HMX.out,HSTEP.out])),zh (by rw[heap_setCell_other _ _ _ _ hne8,heap_setCell_other _ _ _ _ hne8,heap_setCell_other _ _ _ _ hne8,heap_setCell_other _ _ _ _ hne8,heap_setCell_other _ _ _ _ hne8,heap_setCell_other _ _ _ _ hne8];exact HJX.out),HCL,zh (set_fresh HF.out HSY.out.fr),zh (set_nilW HN.out HSY.out.nil),HA8,by exact zbl⟩)
    case measure=>simp[intOf];omega
  ·have hkl:k=xs.length:=by omega
   have hfin:fldOf tk ls ys=defG g (fldOf tk ls xs) s:=by
    have h1:=HMP.out
    rw[hkl,show(xs.map MA.m).take xs.length=xs.map MA.m by rw[←List.length_map (f:=MA.m),List.take_length],show(xs.map MA.m).drop xs.length= [] by rw[←List.length_map (f:=MA.m),List.drop_length],List.append_nil]at h1
    unfold fldOf defG
    rw[h1]
    rfl
   have HFIN:=zh hfin
   have k2:=(hb.block (w.heap.size+1+1) z2).trans K2.out
   have KZ:=zh k2
   (obtain⟨d0,df0,d1,df1,d2,df2⟩:=cv3 k2)
   clear k2 hfin hcw
   go_wp2_with fail
   refine bodyPost_ret (Tryz.rres_fld rfl _ _ rfl (set3_block KZ.out)) rfl ?_
   rw[←hyl]
   exact⟨A1,c1,ys,rfl,HFIN.out,(OwnT.setc (OwnT.setc (OwnT.setc HO.out HF.out _ z2) HF.out _ z2) HF.out _ z2).mono (by omega),fun y hy a ha=>by have:=HF.out y hy a ha;omega,HN.out,Below.set3 (b:=w.heap.size+1+1) (HB0.out.trans (hb.mono (by omega))) (by omega) _ _ _⟩
end Go.Proofs.YtehnikhicnnnhaaGreatDoor
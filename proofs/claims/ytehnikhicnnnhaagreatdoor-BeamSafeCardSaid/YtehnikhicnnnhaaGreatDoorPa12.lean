/- Mirrors in memory; turn, bound, checkWay. | checkWay. -/
import Derived.Test.YtehnikhicnnnhaaGreatDoorPa10
namespace Go.Proofs.YtehnikhicnnnhaaGreatDoor
open Go.RowKit
structure MA where
 m:Mir
 A:Option Addr
 c:Nat
def encMA(x:MA):List Value:= [.string x.m.name,.string x.m.sec,.int .i64 x.m.loc,.slice x.A x.m.way.length x.c,.int .i64 x.m.left,.int .i64 x.m.heard]
structure MirR(w:World)(B:Nat)(m:Mir)(A:Option Addr)(c:Nat):Prop where
 way:IntsR w B A m.way
 cap:m.way.length≤c
theorem MirR.more{w:World}{B B':Nat}{m:Mir}{A:Option Addr}{c:Nat}(h:MirR w B m A c)(hB:B≤B'):MirR w B' m A c:=⟨Rw.more h.way hB,h.cap⟩
theorem MirR.keep{w w':World}{B:Nat}{m:Mir}{A:Option Addr}{c:Nat}(h:MirR w B m A c)(hk:∀b o,b<B→w'.cell? ⟨b,o,none⟩=w.cell? ⟨b,o,none⟩):MirR w' B m A c:=⟨Rw.keep h.way hk,h.cap⟩
theorem MirR.sx{W0 W:World}{B:Nat}{m:Mir}{A:Option Addr}{c:Nat}(h:MirR W0 B m A c)(hB:B≤W0.heap.size)(hs:Sx W0 W):MirR W W.heap.size m A c:=⟨Rw.sx h.way hB hs,h.cap⟩
theorem MirR.belowB{w w' w0:World}{B:Nat}{m:Mir}{A:Option Addr}{c:Nat}(h:MirR w B m A c)(hb:Below w0.heap.size w w')(hB:B≤w0.heap.size):MirR w' B m A c:=⟨Rw.belowB h.way hb hB,h.cap⟩
set_option maxHeartbeats 1000000 in
theorem turn_c(m:Mir)(A:Option Addr)(c:Nat)(w:World)(hr:MirR w w.heap.size m A c):
 Calls Tryz.prog 125 #[(.agg #[.string m.name,.string m.sec,.int .i64 m.loc,.slice A m.way.length c,.int .i64 m.left,.int .i64 m.heard])] w fun e w'=>e=.returned (.int .i64 (turnM m))∧Below w.heap.size w w':=by
 cases hw:m.way with
 |nil=>
  have ht:=zh (show turnM m=m.loc by unfold turnM;rw[hw];rfl)
  have hl:m.way.length=0:=by rw[hw];rfl
  rw[←hw]
  clear hr hw
  go_enter Tryz.func125,Tryz.ntmps125
  go_wp2_with fail
  go_ret
  exact⟨ret_int ht.out.symm,by exact zbl⟩
 |cons v tl=>
  have ht:=zh (show turnM m=v by unfold turnM;rw[hw];rfl)
  have hl:0<m.way.length:=by rw[hw];simp
  obtain⟨b,off,rfl,hb,hc⟩:=hr.way.at (by rw[hw];simp)
  have x0:w.cell? ⟨b,off,none⟩=some (.int .i64 v):=by
   have:=hc 0 hl
   simpa [hw]using this
  rw[←hw]
  clear hr hc hw
  go_enter Tryz.func125,Tryz.ntmps125
  go_wp2_with fail
  go_ret
  exact⟨ret_int ht.out.symm,by exact zbl⟩
set_option maxHeartbeats 1000000 in
theorem bound_c(m:Mir)(A:Option Addr)(c:Nat)(w:World)(hl1:m.way.length≤1000)(hr:MirR w w.heap.size m A c):
 Calls Tryz.prog 169 #[(.agg #[.string m.name,.string m.sec,.int .i64 m.loc,.slice A m.way.length c,.int .i64 m.left,.int .i64 m.heard])] w fun e w'=>e=.returned (.int .i64 (boundM m))∧Below w.heap.size w w':=by
 by_cases hl:m.way.length=0
 ·have ht:=zh (show boundM m=m.loc by unfold boundM;rw[List.length_eq_zero_iff.1 hl];rfl)
  clear hr
  go_enter Tryz.func169,Tryz.ntmps169
  go_wp2_with fail
  go_ret
  exact⟨ret_int ht.out.symm,by exact zbl⟩
 ·obtain⟨n,hn⟩:∃n,m.way.length=n+1:=⟨m.way.length-1,by omega⟩
  obtain⟨b,off,rfl,hb,hc⟩:=hr.way.at (by intro h;rw[h]at hl;exact hl rfl)
  have x0:w.cell? ⟨b,off+n,none⟩=some (.int .i64 m.way[n]):=hc n (by omega)
  have ht:=zh (show boundM m=m.way[n] by
   unfold boundM
   rw[List.getLastD_eq_getLast?,List.getLast?_eq_getElem?,show m.way.length-1=n by omega,List.getElem?_eq_getElem (show n<m.way.length by omega)]
   rfl)
  have hn0:n≤1000:=by omega
  clear hr hc hl hl1
  rw[hn]
  obtain⟨v,hv⟩:∃v,v=m.way[n]:=⟨_,rfl⟩
  rw[←hv]at x0 ht
  clear hv hn
  have j0:(0:Int)<(n:Int)+1:=by omega
  go_enter Tryz.func169,Tryz.ntmps169
  go_wp2_with fail
  go_ret
  exact⟨ret_int ht.out.symm,by exact zbl⟩
def wayE0(g:Grd)(m:Mir):Int:=firstErr [staC g m.loc,whn (decide ((40:Int)<m.way.length)) 5]
theorem wayE0_eq(g:Grd)(m:Mir):firstErr [staC g m.loc,whn (decide (40<m.way.length)) 5]=wayE0 g m:=by
 unfold wayE0
 rw[show decide (40<m.way.length)=decide ((40:Int)<m.way.length)from decide_eq_decide.2 (by omega)]
theorem wayC_bad{g:Grd}{m:Mir}(h:wayE0 g m≠0):wayC g m=wayE0 g m:=by unfold wayC;rw[wayE0_eq];exact if_pos h
theorem wayC_mid{g:Grd}{m:Mir}(h:wayE0 g m=0)(h2:chkW g m.loc m.way≠0):wayC g m=chkW g m.loc m.way:=by
 unfold wayC;rw[wayE0_eq,if_neg (fun k=>k h),if_pos h2]
theorem wayC_end{g:Grd}{m:Mir}(h:wayE0 g m=0)(h2:chkW g m.loc m.way=0):wayC g m=if m.way= []then whn (decide (m.left≠0)) 3 else rng m.left 1 (lnk g m.loc (turnM m)):=by
 unfold wayC;rw[wayE0_eq,if_neg (fun k=>k h),if_neg (fun k=>k h2)]
theorem turn_at{m:Mir}(h:0<m.way.length):turnM m=m.way[0]:=by
 unfold turnM
 rw[List.headD_eq_head?_getD,List.head?_eq_getElem?,List.getElem?_eq_getElem h]
 rfl
theorem chkW_step{g:Grd}{at_:Int}{l:List Int}{k:Nat}(hk:k<l.length):chkW g at_ (l.drop k)=if hasB g l[k]then(if lnk g at_ l[k]=0 then 21 else chkW g l[k] (l.drop (k+1)))else 10:=by
 rw[List.drop_eq_getElem_cons hk];rfl
set_option maxRecDepth 100000 in
set_option maxHeartbeats 2000000 in
theorem checkWay_c(a:GA)(g:Grd)(m:Mir)(A:Option Addr)(c:Nat)(w:World)(hok:okG g)(hr:GridR w w.heap.size a g)(hm:MirR w w.heap.size m A c)(hl:m.way.length≤1000):
 Calls Tryz.prog 124 #[(.agg #[.int .i64 g.blur,.slice a.pS g.sta.length a.cs,.slice a.pM g.mov.length a.cm,.slice a.pZ g.zon.length a.cz]),(.agg #[.string m.name,.string m.sec,.int .i64 m.loc,.slice A m.way.length c,.int .i64 m.left,.int .i64 m.heard])] w fun e w'=>e=.returned (.int .i64 (wayC g m))∧Below w.heap.size w w':=by
 have hns:=hok.ns
 obtain⟨W0,hW0⟩:∃W0,W0=(w.alloc (.cells #[.int .i64 g.blur,.slice a.pS g.sta.length a.cs,.slice a.pM g.mov.length a.cm,.slice a.pZ g.zon.length a.cz] 38)).alloc (.cells #[.string m.name,.string m.sec,.int .i64 m.loc,.slice A m.way.length c,.int .i64 m.left,.int .i64 m.heard] 106):=⟨_,rfl⟩
 have hsx:Sx w W0:=by rw[hW0];exact((Sx.refl w).alloc _).alloc _
 have HG:=zh (hr.sx (Nat.le_refl _) hsx)
 have HM:=zh (hm.sx (Nat.le_refl _) hsx)
 have e0:W0.cell? ⟨w.heap.size,0,none⟩=some (.int .i64 g.blur):=by rw[hW0];simp[World.cell?_alloc_lt,cells_new]
 have e1:W0.cell? ⟨w.heap.size,1,none⟩=some (.slice a.pS g.sta.length a.cs):=by rw[hW0];simp[World.cell?_alloc_lt,cells_new]
 have e2:W0.cell? ⟨w.heap.size,2,none⟩=some (.slice a.pM g.mov.length a.cm):=by rw[hW0];simp[World.cell?_alloc_lt,cells_new]
 have e3:W0.cell? ⟨w.heap.size,3,none⟩=some (.slice a.pZ g.zon.length a.cz):=by rw[hW0];simp[World.cell?_alloc_lt,cells_new]
 have d2:W0.cell? ⟨w.heap.size+1,2,none⟩=some (.int .i64 m.loc):=by rw[hW0];simp[cells_new]
 have d3:W0.cell? ⟨w.heap.size+1,3,none⟩=some (.slice A m.way.length c):=by rw[hW0];simp[cells_new]
 have d4:W0.cell? ⟨w.heap.size+1,4,none⟩=some (.int .i64 m.left):=by rw[hW0];simp[cells_new]
 have hsz:W0.heap.size=w.heap.size+2:=by rw[hW0];simp
 have hB0:Below w.heap.size w W0:=by rw[hW0];(repeat first|(with_reducible first|assumption|exact Below.refl _ _|refine Bl.drew ?_|refine Bl.drewN ?_ _|refine Bl.alloc ?_ _|refine Bl.set ?_ _ ?_)|(with_reducible apply Bl.step';(focus(with_reducible assumption)))|omega|(focus(simp;done))|(focus(simp;omega)))
 have hbs0:w.heap.size<W0.heap.size:=by omega
 have hbs1:w.heap.size+1<W0.heap.size:=by omega
 clear hr hm hsx
 have HSZ:=zh hsz
 go_enter Tryz.func124,Tryz.ntmps124
 go_wp2_with fail
 rw[←hW0]
 clear hW0 hsz
 go_region_held3 (SSd W0) ((refine Sx.goal ?_;exact zsx)) (first|(go_at_call 157;refine(checkStation_c a g m.loc _ hok (HG.out.sx (Nat.le_refl _) (by exact zsx))).mono ?_;rintro e w1 ⟨rfl,hb1⟩)|(go_at_call 104;refine(when_c _ _ _).mono ?_;rintro e w' ⟨rfl,rfl⟩)|(go_at_call 103;refine(first_c _ [staC g m.loc,whn (decide ((40:Int)<m.way.length)) 5] _ ?_ ?_).mono ?_;(focus simp);(focus first|(simp[CellsAt];done)|(simp[CellsAt,cells_new]));rintro e w' ⟨rfl,rfl⟩))
 have hBa:Below W0.heap.size W0 (w1.alloc (.cells #[.int .i64 (staC g m.loc),.int .i64 (whn (decide ((40:Int)<m.way.length)) 5)] 31)):=by exact zbl
 obtain⟨Wa,hWa⟩:∃Wa,Wa=w1.alloc (.cells #[.int .i64 (staC g m.loc),.int .i64 (whn (decide ((40:Int)<m.way.length)) 5)] 31):=⟨_,rfl⟩
 rw[←hWa]at hBa ⊢
 clear hWa hb1
 have q0:=(hBa.cell (p:=⟨w.heap.size,0,none⟩) hbs0).trans e0
 have q1:=(hBa.cell (p:=⟨w.heap.size,1,none⟩) hbs0).trans e1
 have q2:=(hBa.cell (p:=⟨w.heap.size,2,none⟩) hbs0).trans e2
 have q3:=(hBa.cell (p:=⟨w.heap.size,3,none⟩) hbs0).trans e3
 have r2:=(hBa.cell (p:=⟨w.heap.size+1,2,none⟩) hbs1).trans d2
 have r3:=(hBa.cell (p:=⟨w.heap.size+1,3,none⟩) hbs1).trans d3
 have r4:=(hBa.cell (p:=⟨w.heap.size+1,4,none⟩) hbs1).trans d4
 have HG2:=zh ((HG.out.belowB (w0:=W0) hBa (Nat.le_refl _)).more hBa.size)
 have HM2:=zh ((HM.out.belowB (w0:=W0) hBa (Nat.le_refl _)).more hBa.size)
 have hBw:Below w.heap.size w Wa:=hB0.trans (hBa.mono (by omega))
 have hs0:w.heap.size+2≤Wa.heap.size:=by have:=hBa.size;omega
 clear e0 e1 e2 e3 d2 d3 d4 hBa hB0 HG HM hbs0 hbs1
 by_cases he:wayE0 g m=0
 ·have hz1':(firstErr [staC g m.loc,whn (decide ((40:Int)<m.way.length)) 5]!=0)=false:=by rw[bne_eq_false_iff_eq];exact he
  have HS:=zh (staC_zero (firstErr_zero he (staC g m.loc) (by simp))).1
  have HE:=zh he;clear he
  have hb0:w.heap.size<Wa.heap.size:=by omega
  have hb1:w.heap.size+1<Wa.heap.size:=by omega
  go_wp2_with fail
  go_loopg [6,28] m.way.length (fun n at_ i wr=>∃(k:Nat) (v:Int),k≤m.way.length∧n=m.way.length-k∧at_=.int .i64 v∧i=.int .i64 k∧Hid (0≤v∧v<g.sta.length)∧Below Wa.heap.size Wa wr∧Hid (chkW g m.loc m.way=chkW g v (m.way.drop k)))
  case atStart=>exact⟨0,m.loc,Nat.zero_le _,rfl,rfl,rfl,HS,Below.refl _ _,zh rfl⟩
  case round=>
   obtain⟨k,v,hk,rfl,rfl,rfl,hv,hb,hc⟩:=hrel
   have hbs:=hb.size
   have s0:=(hb.cell (p:=⟨w.heap.size,0,none⟩) hb0).trans q0
   have s1:=(hb.cell (p:=⟨w.heap.size,1,none⟩) hb0).trans q1
   have s2:=(hb.cell (p:=⟨w.heap.size,2,none⟩) hb0).trans q2
   have s3:=(hb.cell (p:=⟨w.heap.size,3,none⟩) hb0).trans q3
   have t2:=(hb.cell (p:=⟨w.heap.size+1,2,none⟩) hb1).trans r2
   have t3:=(hb.cell (p:=⟨w.heap.size+1,3,none⟩) hb1).trans r3
   have t4:=(hb.cell (p:=⟨w.heap.size+1,4,none⟩) hb1).trans r4
   have HGr:=zh ((HG2.out.belowB (w0:=Wa) hb (Nat.le_refl _)).more hbs)
   have HMr:=zh ((HM2.out.belowB (w0:=Wa) hb (Nat.le_refl _)).more hbs)
   have hBr:Below w.heap.size w wr:=hBw.trans (hb.mono (by omega))
   clear q0 q1 q2 q3 r2 r3 r4 HG2 HM2
   by_cases hlt:k<m.way.length
   ·obtain⟨b,off,rfl,hbl,hcs⟩:=IntsR.at HMr.out.way (by intro h;rw[h]at hlt;simp at hlt)
    have x0:wr.cell? ⟨b,off+k,none⟩=some (.int .i64 m.way[k]):=hcs k hlt
    have hstp:=chkW_step (g:=g) (at_:=v) hlt
    obtain⟨y,hy⟩:∃y,y=m.way[k]:=⟨_,rfl⟩
    rw[←hy]at x0 hstp
    have HST:=zh (hc.out.trans hstp)
    clear hy hcs hstp hc
    have i0:(0:Int)≤(k:Int):=by omega
    have i1:(k:Int)<(m.way.length:Int):=by omega
    cases hhb:hasB g y with
    |false=>
     have HC:=zh (show chkW g m.loc m.way=10 by rw[HST.out,hhb];rfl)
     clear HST
     have HH:=zh (has_c a g y)
     rw[hhb]at HH
     clear hhb
     go_wp2_with (go_at_call 107;refine(HH.out _).mono ?_;rintro e w3 ⟨rfl,hb3⟩)
     go_ret
     exact⟨ret_int ((wayC_mid HE.out (by rw[HC.out];decide)).trans HC.out).symm,by exact zbl⟩
    |true=>
     have hyr:=hasB_iffG.1 hhb
     have HST2:=zh (show chkW g m.loc m.way=if lnk g v y=0 then 21 else chkW g y (m.way.drop (k+1)) by rw[HST.out,hhb];rfl)
     clear HST
     have HH:=zh (has_c a g y)
     rw[hhb]at HH
     clear hhb
     by_cases hl0:lnk g v y=0
     ·have hl1:(lnk g v y==0)=true:=by rw[beq_iff_eq];exact hl0
      have HC:=zh (show chkW g m.loc m.way=21 by rw[HST2.out,if_pos hl0])
      clear HST2 hl0
      go_wp2_with (first|(go_at_call 107;refine(HH.out _).mono ?_;rintro e w3 ⟨rfl,hb3⟩;(have f0:w3.cell? ⟨w.heap.size,0,none⟩=some (.int .i64 g.blur):=(hb3.cell (p:=⟨w.heap.size,0,none⟩) (by first|(simp;done)|(simp;omega)|(show w.heap.size<_;omega))).trans (by first|assumption|(simp;done)));(have f1:w3.cell? ⟨w.heap.size,1,none⟩=some (.slice a.pS g.sta.length a.cs):=(hb3.cell (p:=⟨w.heap.size,1,none⟩) (by first|(simp;done)|(simp;omega)|(show w.heap.size<_;omega))).trans (by first|assumption|(simp;done)));(have f2:w3.cell? ⟨w.heap.size,2,none⟩=some (.slice a.pM g.mov.length a.cm):=(hb3.cell (p:=⟨w.heap.size,2,none⟩) (by first|(simp;done)|(simp;omega)|(show w.heap.size<_;omega))).trans (by first|assumption|(simp;done)));(have f3:w3.cell? ⟨w.heap.size,3,none⟩=some (.slice a.pZ g.zon.length a.cz):=(hb3.cell (p:=⟨w.heap.size,3,none⟩) (by first|(simp;done)|(simp;omega)|(show w.heap.size<_;omega))).trans (by first|assumption|(simp;done))))|(go_at_call 109;refine(joined_c a.pS a.pM a.pZ a.cs a.cm a.cz g v y _ hok hv.out.1 hv.out.2 (HGr.out.sx (Nat.le_refl _) (by exact zsx))).mono ?_;rintro e w4 ⟨rfl,hb4⟩))
      go_ret
      exact⟨ret_int ((wayC_mid HE.out (by rw[HC.out];decide)).trans HC.out).symm,by exact zbl⟩
     ·have hl1:(lnk g v y==0)=false:=by rw[beq_eq_false_iff_ne];exact hl0
      have HC:=zh (show chkW g m.loc m.way=chkW g y (m.way.drop (k+1)) by rw[HST2.out,if_neg hl0])
      clear HST2 hl0
      go_wp2_with (first|(go_at_call 107;refine(HH.out _).mono ?_;rintro e w3 ⟨rfl,hb3⟩;(have f0:w3.cell? ⟨w.heap.size,0,none⟩=some (.int .i64 g.blur):=(hb3.cell (p:=⟨w.heap.size,0,none⟩) (by first|(simp;done)|(simp;omega)|(show w.heap.size<_;omega))).trans (by first|assumption|(simp;done)));(have f1:w3.cell? ⟨w.heap.size,1,none⟩=some (.slice a.pS g.sta.length a.cs):=(hb3.cell (p:=⟨w.heap.size,1,none⟩) (by first|(simp;done)|(simp;omega)|(show w.heap.size<_;omega))).trans (by first|assumption|(simp;done)));(have f2:w3.cell? ⟨w.heap.size,2,none⟩=some (.slice a.pM g.mov.length a.cm):=(hb3.cell (p:=⟨w.heap.size,2,none⟩) (by first|(simp;done)|(simp;omega)|(show w.heap.size<_;omega))).trans (by first|assumption|(simp;done)));(have f3:w3.cell? ⟨w.heap.size,3,none⟩=some (.slice a.pZ g.zon.length a.cz):=(hb3.cell (p:=⟨w.heap.size,3,none⟩) (by first|(simp;done)|(simp;omega)|(show w.heap.size<_;omega))).trans (by first|assumption|(simp;done))))|(go_at_call 109;refine(joined_c a.pS a.pM a.pZ a.cs a.cm a.cz g v y _ hok hv.out.1 hv.out.2 (HGr.out.sx (Nat.le_refl _) (by exact zsx))).mono ?_;rintro e w4 ⟨rfl,hb4⟩))
      go_roundg (m.way.length-(k+1))
      case rel=>exact⟨k+1,y,by omega,rfl,rfl,by go_num,zh hyr,by exact zbl,HC⟩
      case measure=>omega
   ·have hkl:k=m.way.length:=by omega
    subst hkl
    have HC:=zh (show chkW g m.loc m.way=0 by rw[hc.out,List.drop_length];rfl)
    have hR:=zh (wayC_end HE.out HC.out)
    clear hc
    by_cases hz:m.way.length=0
    ·have hR2:=zh (show wayC g m=whn (decide (m.left≠0)) 3 by rw[hR.out,if_pos (List.length_eq_zero_iff.1 hz)])
     have hR3:=zh (show wayC g m=whn (m.left !=0) 3 by rw[hR2.out];congr 1;by_cases h:m.left=0<;>simp[h])
     go_wp2_with (first|(go_at_call 104;refine(when_c _ _ _).mono ?_;rintro e w' ⟨rfl,rfl⟩))
     go_ret
     exact⟨ret_int hR3.out.symm,hBr⟩
    ·have hR2:=zh (show wayC g m=rng m.left 1 (lnk g m.loc (turnM m)) by rw[hR.out,if_neg (fun h=>hz (by rw[h];rfl))])
     obtain⟨b,off,rfl,hbl,hcs⟩:=IntsR.at HMr.out.way (by intro h;rw[h]at hz;exact hz rfl)
     have x0:wr.cell? ⟨b,off,none⟩=some (.int .i64 (turnM m)):=by
      have h1:=hcs 0 (by omega)
      have h2:turnM m=m.way[0]:=turn_at (by omega)
      rw[h2];exact h1
     clear hcs
     have hq0:w.heap.size<wr.heap.size:=by omega
     have hq1:w.heap.size+1<wr.heap.size:=by omega
     have hz2:0<m.way.length:=by omega
     have hzz:((m.way.length:Int)==0)=false:=by rw[beq_eq_false_iff_ne];omega
     go_wp2_with fail
     go_region_held3 (SSd wr) ((refine Sx.goal ?_;exact zsx)) (first|(go_at_call 109;refine(joined_c a.pS a.pM a.pZ a.cs a.cm a.cz g m.loc (turnM m) _ hok HS.out.1 HS.out.2 (HGr.out.sx (Nat.le_refl _) (by exact zsx))).mono ?_;rintro e w4 ⟨rfl,hb4⟩)|(go_at_call 122;refine(within_c _ _ _ _).mono ?_;rintro e w' ⟨rfl,rfl⟩))
     go_wp2_with fail
     go_ret
     exact⟨ret_int hR2.out.symm,by exact zbl⟩
 ·have hz1':(firstErr [staC g m.loc,whn (decide ((40:Int)<m.way.length)) 5]!=0)=true:=by rw[bne_iff_ne];exact he
  have hR:=zh (wayC_bad he)
  have HE:=zh he;clear he
  go_wp2_with fail
  go_ret
  exact⟨ret_int hR.out.symm,hBw⟩
end Go.Proofs.YtehnikhicnnnhaaGreatDoor
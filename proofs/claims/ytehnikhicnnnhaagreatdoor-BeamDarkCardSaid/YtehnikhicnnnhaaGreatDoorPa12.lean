/- Mirrors in memory; turn, bound, checkWay. | checkWay. | CheckField. | Lists of mirrors that a call made; mapped over mirrors; own. -/
import Derived.Test.YtehnikhicnnnhaaGreatDoorPa10
namespace Go.Proofs.YtehnikhicnnnhaaGreatDoor
open Go.RowKit
structure MA where
 m:Mir
 A:Option Addr
 c:Nat
def encMA(x:MA):List Value:= [.string x.m.name,.string x.m.sec,.int .i64 x.m.loc,.slice x.A x.m.way.length x.c,.int .i64 x.m.left,.int .i64 x.m.heard]
structure MirR(w:World)(B:Nat)(m:Mir)(A:Option Addr)(c:Nat):Prop where
 way:IntsR w B A m.way
 cap:m.way.length≤c
theorem MirR.more{w:World}{B B':Nat}{m:Mir}{A:Option Addr}{c:Nat}(h:MirR w B m A c)(hB:B≤B'):MirR w B' m A c:=⟨Rw.more h.way hB,h.cap⟩
theorem MirR.keep{w w':World}{B:Nat}{m:Mir}{A:Option Addr}{c:Nat}(h:MirR w B m A c)(hk:∀b o,b<B→w'.cell? ⟨b,o,none⟩=w.cell? ⟨b,o,none⟩):MirR w' B m A c:=⟨Rw.keep h.way hk,h.cap⟩
theorem MirR.sx{W0 W:World}{B:Nat}{m:Mir}{A:Option Addr}{c:Nat}(h:MirR W0 B m A c)(hB:B≤W0.heap.size)(hs:Sx W0 W):MirR W W.heap.size m A c:=⟨Rw.sx h.way hB hs,h.cap⟩
theorem MirR.belowB{w w' w0:World}{B:Nat}{m:Mir}{A:Option Addr}{c:Nat}(h:MirR w B m A c)(hb:Below w0.heap.size w w')(hB:B≤w0.heap.size):MirR w' B m A c:=⟨Rw.belowB h.way hb hB,h.cap⟩
set_option maxHeartbeats 1000000 in
theorem turn_c(m:Mir)(A:Option Addr)(c:Nat)(w:World)(hr:MirR w w.heap.size m A c):
 Calls Tryz.prog 125 #[(.agg #[.string m.name,.string m.sec,.int .i64 m.loc,.slice A m.way.length c,.int .i64 m.left,.int .i64 m.heard])] w fun e w'=>e=.returned (.int .i64 (turnM m))∧Below w.heap.size w w':=by
 cases hw:m.way with
 |nil=>
  have ht:=zh (show turnM m=m.loc by unfold turnM;rw[hw];rfl)
  have hl:m.way.length=0:=by rw[hw];rfl
  rw[←hw]
  clear hr hw
  go_enter Tryz.func125,Tryz.ntmps125
  go_wp2_with fail
  go_ret
  exact⟨ret_int ht.out.symm,by exact zbl⟩
 |cons v tl=>
  have ht:=zh (show turnM m=v by unfold turnM;rw[hw];rfl)
  have hl:0<m.way.length:=by rw[hw];simp
  obtain⟨b,off,rfl,hb,hc⟩:=hr.way.at (by rw[hw];simp)
  have x0:w.cell? ⟨b,off,none⟩=some (.int .i64 v):=by
   have:=hc 0 hl
   simpa [hw]using this
  rw[←hw]
  clear hr hc hw
  go_enter Tryz.func125,Tryz.ntmps125
  go_wp2_with fail
  go_ret
  exact⟨ret_int ht.out.symm,by exact zbl⟩
set_option maxHeartbeats 1000000 in
theorem bound_c(m:Mir)(A:Option Addr)(c:Nat)(w:World)(hl1:m.way.length≤1000)(hr:MirR w w.heap.size m A c):
 Calls Tryz.prog 169 #[(.agg #[.string m.name,.string m.sec,.int .i64 m.loc,.slice A m.way.length c,.int .i64 m.left,.int .i64 m.heard])] w fun e w'=>e=.returned (.int .i64 (boundM m))∧Below w.heap.size w w':=by
 by_cases hl:m.way.length=0
 ·have ht:=zh (show boundM m=m.loc by unfold boundM;rw[List.length_eq_zero_iff.1 hl];rfl)
  clear hr
  go_enter Tryz.func169,Tryz.ntmps169
  go_wp2_with fail
  go_ret
  exact⟨ret_int ht.out.symm,by exact zbl⟩
 ·obtain⟨n,hn⟩:∃n,m.way.length=n+1:=⟨m.way.length-1,by omega⟩
  obtain⟨b,off,rfl,hb,hc⟩:=hr.way.at (by intro h;rw[h]at hl;exact hl rfl)
  have x0:w.cell? ⟨b,off+n,none⟩=some (.int .i64 m.way[n]):=hc n (by omega)
  have ht:=zh (show boundM m=m.way[n] by
   unfold boundM
   rw[List.getLastD_eq_getLast?,List.getLast?_eq_getElem?,show m.way.length-1=n by omega,List.getElem?_eq_getElem (show n<m.way.length by omega)]
   rfl)
  have hn0:n≤1000:=by omega
  clear hr hc hl hl1
  rw[hn]
  obtain⟨v,hv⟩:∃v,v=m.way[n]:=⟨_,rfl⟩
  rw[←hv]at x0 ht
  clear hv hn
  have j0:(0:Int)<(n:Int)+1:=by omega
  go_enter Tryz.func169,Tryz.ntmps169
  go_wp2_with fail
  go_ret
  exact⟨ret_int ht.out.symm,by exact zbl⟩
def wayE0(g:Grd)(m:Mir):Int:=firstErr [staC g m.loc,whn (decide ((40:Int)<m.way.length)) 5]
theorem wayE0_eq(g:Grd)(m:Mir):firstErr [staC g m.loc,whn (decide (40<m.way.length)) 5]=wayE0 g m:=by
 unfold wayE0
 rw[show decide (40<m.way.length)=decide ((40:Int)<m.way.length)from decide_eq_decide.2 (by omega)]
theorem wayC_bad{g:Grd}{m:Mir}(h:wayE0 g m≠0):wayC g m=wayE0 g m:=by unfold wayC;rw[wayE0_eq];exact if_pos h
theorem wayC_mid{g:Grd}{m:Mir}(h:wayE0 g m=0)(h2:chkW g m.loc m.way≠0):wayC g m=chkW g m.loc m.way:=by
 unfold wayC;rw[wayE0_eq,if_neg (fun k=>k h),if_pos h2]
theorem wayC_end{g:Grd}{m:Mir}(h:wayE0 g m=0)(h2:chkW g m.loc m.way=0):wayC g m=if m.way= []then whn (decide (m.left≠0)) 3 else rng m.left 1 (lnk g m.loc (turnM m)):=by
 unfold wayC;rw[wayE0_eq,if_neg (fun k=>k h),if_neg (fun k=>k h2)]
theorem turn_at{m:Mir}(h:0<m.way.length):turnM m=m.way[0]:=by
 unfold turnM
 rw[List.headD_eq_head?_getD,List.head?_eq_getElem?,List.getElem?_eq_getElem h]
 rfl
theorem chkW_step{g:Grd}{at_:Int}{l:List Int}{k:Nat}(hk:k<l.length):chkW g at_ (l.drop k)=if hasB g l[k]then(if lnk g at_ l[k]=0 then 21 else chkW g l[k] (l.drop (k+1)))else 10:=by
 rw[List.drop_eq_getElem_cons hk];rfl
set_option maxRecDepth 100000 in
set_option maxHeartbeats 2000000 in
theorem checkWay_c(a:GA)(g:Grd)(m:Mir)(A:Option Addr)(c:Nat)(w:World)(hok:okG g)(hr:GridR w w.heap.size a g)(hm:MirR w w.heap.size m A c)(hl:m.way.length≤1000):
 Calls Tryz.prog 124 #[(.agg #[.int .i64 g.blur,.slice a.pS g.sta.length a.cs,.slice a.pM g.mov.length a.cm,.slice a.pZ g.zon.length a.cz]),(.agg #[.string m.name,.string m.sec,.int .i64 m.loc,.slice A m.way.length c,.int .i64 m.left,.int .i64 m.heard])] w fun e w'=>e=.returned (.int .i64 (wayC g m))∧Below w.heap.size w w':=by
 have hns:=hok.ns
 obtain⟨W0,hW0⟩:∃W0,W0=(w.alloc (.cells #[.int .i64 g.blur,.slice a.pS g.sta.length a.cs,.slice a.pM g.mov.length a.cm,.slice a.pZ g.zon.length a.cz] 38)).alloc (.cells #[.string m.name,.string m.sec,.int .i64 m.loc,.slice A m.way.length c,.int .i64 m.left,.int .i64 m.heard] 106):=⟨_,rfl⟩
 have hsx:Sx w W0:=by rw[hW0];exact((Sx.refl w).alloc _).alloc _
 have HG:=zh (hr.sx (Nat.le_refl _) hsx)
 have HM:=zh (hm.sx (Nat.le_refl _) hsx)
 have e0:W0.cell? ⟨w.heap.size,0,none⟩=some (.int .i64 g.blur):=by rw[hW0];simp[World.cell?_alloc_lt,cells_new]
 have e1:W0.cell? ⟨w.heap.size,1,none⟩=some (.slice a.pS g.sta.length a.cs):=by rw[hW0];simp[World.cell?_alloc_lt,cells_new]
 have e2:W0.cell? ⟨w.heap.size,2,none⟩=some (.slice a.pM g.mov.length a.cm):=by rw[hW0];simp[World.cell?_alloc_lt,cells_new]
 have e3:W0.cell? ⟨w.heap.size,3,none⟩=some (.slice a.pZ g.zon.length a.cz):=by rw[hW0];simp[World.cell?_alloc_lt,cells_new]
 have d2:W0.cell? ⟨w.heap.size+1,2,none⟩=some (.int .i64 m.loc):=by rw[hW0];simp[cells_new]
 have d3:W0.cell? ⟨w.heap.size+1,3,none⟩=some (.slice A m.way.length c):=by rw[hW0];simp[cells_new]
 have d4:W0.cell? ⟨w.heap.size+1,4,none⟩=some (.int .i64 m.left):=by rw[hW0];simp[cells_new]
 have hsz:W0.heap.size=w.heap.size+2:=by rw[hW0];simp
 have hB0:Below w.heap.size w W0:=by rw[hW0];exact zbl
 have hbs0:w.heap.size<W0.heap.size:=by omega
 have hbs1:w.heap.size+1<W0.heap.size:=by omega
 clear hr hm hsx
 have HSZ:=zh hsz
 go_enter Tryz.func124,Tryz.ntmps124
 go_wp2_with fail
 rw[←hW0]
 clear hW0 hsz
 go_region_held3 (SSd W0) ((refine Sx.goal ?_;exact zsx)) (first|(go_at_call 157;refine(checkStation_c a g m.loc _ hok (HG.out.sx (Nat.le_refl _) (by exact zsx))).mono ?_;rintro e w1 ⟨rfl,hb1⟩)|(go_at_call 104;refine(when_c _ _ _).mono ?_;rintro e w' ⟨rfl,rfl⟩)|(go_at_call 103;refine(first_c _ [staC g m.loc,whn (decide ((40:Int)<m.way.length)) 5] _ ?_ ?_).mono ?_;(focus simp);(focus first|(simp[CellsAt];done)|(simp[CellsAt,cells_new]));rintro e w' ⟨rfl,rfl⟩))
 have hBa:Below W0.heap.size W0 (w1.alloc (.cells #[.int .i64 (staC g m.loc),.int .i64 (whn (decide ((40:Int)<m.way.length)) 5)] 31)):=by exact zbl
 obtain⟨Wa,hWa⟩:∃Wa,Wa=w1.alloc (.cells #[.int .i64 (staC g m.loc),.int .i64 (whn (decide ((40:Int)<m.way.length)) 5)] 31):=⟨_,rfl⟩
 rw[←hWa]at hBa ⊢
 clear hWa hb1
 have q0:=(hBa.cell (p:=⟨w.heap.size,0,none⟩) hbs0).trans e0
 have q1:=(hBa.cell (p:=⟨w.heap.size,1,none⟩) hbs0).trans e1
 have q2:=(hBa.cell (p:=⟨w.heap.size,2,none⟩) hbs0).trans e2
 have q3:=(hBa.cell (p:=⟨w.heap.size,3,none⟩) hbs0).trans e3
 have r2:=(hBa.cell (p:=⟨w.heap.size+1,2,none⟩) hbs1).trans d2
 have r3:=(hBa.cell (p:=⟨w.heap.size+1,3,none⟩) hbs1).trans d3
 have r4:=(hBa.cell (p:=⟨w.heap.size+1,4,none⟩) hbs1).trans d4
 have HG2:=zh ((HG.out.belowB (w0:=W0) hBa (Nat.le_refl _)).more hBa.size)
 have HM2:=zh ((HM.out.belowB (w0:=W0) hBa (Nat.le_refl _)).more hBa.size)
 have hBw:Below w.heap.size w Wa:=hB0.trans (hBa.mono (by omega))
 have hs0:w.heap.size+2≤Wa.heap.size:=by have:=hBa.size;omega
 clear e0 e1 e2 e3 d2 d3 d4 hBa hB0 HG HM hbs0 hbs1
 by_cases he:wayE0 g m=0
 ·have hz1':(firstErr [staC g m.loc,whn (decide ((40:Int)<m.way.length)) 5]!=0)=false:=by rw[bne_eq_false_iff_eq];exact he
  have HS:=zh (staC_zero (firstErr_zero he (staC g m.loc) (by simp))).1
  have HE:=zh he;clear he
  have hb0:w.heap.size<Wa.heap.size:=by omega
  have hb1:w.heap.size+1<Wa.heap.size:=by omega
  go_wp2_with fail
  go_loopg [6,28] m.way.length (fun n at_ i wr=>∃(k:Nat) (v:Int),k≤m.way.length∧n=m.way.length-k∧at_=.int .i64 v∧i=.int .i64 k∧Hid (0≤v∧v<g.sta.length)∧Below Wa.heap.size Wa wr∧Hid (chkW g m.loc m.way=chkW g v (m.way.drop k)))
  case atStart=>exact⟨0,m.loc,Nat.zero_le _,rfl,rfl,rfl,HS,Below.refl _ _,zh rfl⟩
  case round=>
   obtain⟨k,v,hk,rfl,rfl,rfl,hv,hb,hc⟩:=hrel
   have hbs:=hb.size
   have s0:=(hb.cell (p:=⟨w.heap.size,0,none⟩) hb0).trans q0
   have s1:=(hb.cell (p:=⟨w.heap.size,1,none⟩) hb0).trans q1
   have s2:=(hb.cell (p:=⟨w.heap.size,2,none⟩) hb0).trans q2
   have s3:=(hb.cell (p:=⟨w.heap.size,3,none⟩) hb0).trans q3
   have t2:=(hb.cell (p:=⟨w.heap.size+1,2,none⟩) hb1).trans r2
   have t3:=(hb.cell (p:=⟨w.heap.size+1,3,none⟩) hb1).trans r3
   have t4:=(hb.cell (p:=⟨w.heap.size+1,4,none⟩) hb1).trans r4
   have HGr:=zh ((HG2.out.belowB (w0:=Wa) hb (Nat.le_refl _)).more hbs)
   have HMr:=zh ((HM2.out.belowB (w0:=Wa) hb (Nat.le_refl _)).more hbs)
   have hBr:Below w.heap.size w wr:=hBw.trans (hb.mono (by omega))
   clear q0 q1 q2 q3 r2 r3 r4 HG2 HM2
   by_cases hlt:k<m.way.length
   ·obtain⟨b,off,rfl,hbl,hcs⟩:=IntsR.at HMr.out.way (by intro h;rw[h]at hlt;simp at hlt)
    have x0:wr.cell? ⟨b,off+k,none⟩=some (.int .i64 m.way[k]):=hcs k hlt
    have hstp:=chkW_step (g:=g) (at_:=v) hlt
    obtain⟨y,hy⟩:∃y,y=m.way[k]:=⟨_,rfl⟩
    rw[←hy]at x0 hstp
    have HST:=zh (hc.out.trans hstp)
    clear hy hcs hstp hc
    have i0:(0:Int)≤(k:Int):=by omega
    have i1:(k:Int)<(m.way.length:Int):=by omega
    cases hhb:hasB g y with
    |false=>
     have HC:=zh (show chkW g m.loc m.way=10 by rw[HST.out,hhb];rfl)
     clear HST
     have HH:=zh (has_c a g y)
     rw[hhb]at HH
     clear hhb
     go_wp2_with (go_at_call 107;refine(HH.out _).mono ?_;rintro e w3 ⟨rfl,hb3⟩)
     go_ret
     exact⟨ret_int ((wayC_mid HE.out (by rw[HC.out];decide)).trans HC.out).symm,by exact zbl⟩
    |true=>
     have hyr:=hasB_iffG.1 hhb
     have HST2:=zh (show chkW g m.loc m.way=if lnk g v y=0 then 21 else chkW g y (m.way.drop (k+1)) by rw[HST.out,hhb];rfl)
     clear HST
     have HH:=zh (has_c a g y)
     rw[hhb]at HH
     clear hhb
     by_cases hl0:lnk g v y=0
     ·have hl1:(lnk g v y==0)=true:=by rw[beq_iff_eq];exact hl0
      have HC:=zh (show chkW g m.loc m.way=21 by rw[HST2.out,if_pos hl0])
      clear HST2 hl0
      go_wp2_with (first|(go_at_call 107;refine(HH.out _).mono ?_;rintro e w3 ⟨rfl,hb3⟩;(have f0:w3.cell? ⟨w.heap.size,0,none⟩=some (.int .i64 g.blur):=(hb3.cell (p:=⟨w.heap.size,0,none⟩) (by first|(simp;done)|(simp;omega)|(show w.heap.size<_;omega))).trans (by first|assumption|(simp;done)));(have f1:w3.cell? ⟨w.heap.size,1,none⟩=some (.slice a.pS g.sta.length a.cs):=(hb3.cell (p:=⟨w.heap.size,1,none⟩) (by first|(simp;done)|(simp;omega)|(show w.heap.size<_;omega))).trans (by first|assumption|(simp;done)));(have f2:w3.cell? ⟨w.heap.size,2,none⟩=some (.slice a.pM g.mov.length a.cm):=(hb3.cell (p:=⟨w.heap.size,2,none⟩) (by first|(simp;done)|(simp;omega)|(show w.heap.size<_;omega))).trans (by first|assumption|(simp;done)));(have f3:w3.cell? ⟨w.heap.size,3,none⟩=some (.slice a.pZ g.zon.length a.cz):=(hb3.cell (p:=⟨w.heap.size,3,none⟩) (by first|(simp;done)|(simp;omega)|(show w.heap.size<_;omega))).trans (by first|assumption|(simp;done))))|(go_at_call 109;refine(joined_c a.pS a.pM a.pZ a.cs a.cm a.cz g v y _ hok hv.out.1 hv.out.2 (HGr.out.sx (Nat.le_refl _) (by exact zsx))).mono ?_;rintro e w4 ⟨rfl,hb4⟩))
      go_ret
      exact⟨ret_int ((wayC_mid HE.out (by rw[HC.out];decide)).trans HC.out).symm,by exact zbl⟩
     ·have hl1:(lnk g v y==0)=false:=by rw[beq_eq_false_iff_ne];exact hl0
      have HC:=zh (show chkW g m.loc m.way=chkW g y (m.way.drop (k+1)) by rw[HST2.out,if_neg hl0])
      clear HST2 hl0
      go_wp2_with (first|(go_at_call 107;refine(HH.out _).mono ?_;rintro e w3 ⟨rfl,hb3⟩;(have f0:w3.cell? ⟨w.heap.size,0,none⟩=some (.int .i64 g.blur):=(hb3.cell (p:=⟨w.heap.size,0,none⟩) (by first|(simp;done)|(simp;omega)|(show w.heap.size<_;omega))).trans (by first|assumption|(simp;done)));(have f1:w3.cell? ⟨w.heap.size,1,none⟩=some (.slice a.pS g.sta.length a.cs):=(hb3.cell (p:=⟨w.heap.size,1,none⟩) (by first|(simp;done)|(simp;omega)|(show w.heap.size<_;omega))).trans (by first|assumption|(simp;done)));(have f2:w3.cell? ⟨w.heap.size,2,none⟩=some (.slice a.pM g.mov.length a.cm):=(hb3.cell (p:=⟨w.heap.size,2,none⟩) (by first|(simp;done)|(simp;omega)|(show w.heap.size<_;omega))).trans (by first|assumption|(simp;done)));(have f3:w3.cell? ⟨w.heap.size,3,none⟩=some (.slice a.pZ g.zon.length a.cz):=(hb3.cell (p:=⟨w.heap.size,3,none⟩) (by first|(simp;done)|(simp;omega)|(show w.heap.size<_;omega))).trans (by first|assumption|(simp;done))))|(go_at_call 109;refine(joined_c a.pS a.pM a.pZ a.cs a.cm a.cz g v y _ hok hv.out.1 hv.out.2 (HGr.out.sx (Nat.le_refl _) (by exact zsx))).mono ?_;rintro e w4 ⟨rfl,hb4⟩))
      go_roundg (m.way.length-(k+1))
      case rel=>exact⟨k+1,y,by omega,rfl,rfl,by go_num,zh hyr,by exact zbl,HC⟩
      case measure=>omega
   ·have hkl:k=m.way.length:=by omega
    subst hkl
    have HC:=zh (show chkW g m.loc m.way=0 by rw[hc.out,List.drop_length];rfl)
    have hR:=zh (wayC_end HE.out HC.out)
    clear hc
    by_cases hz:m.way.length=0
    ·have hR2:=zh (show wayC g m=whn (decide (m.left≠0)) 3 by rw[hR.out,if_pos (List.length_eq_zero_iff.1 hz)])
     have hR3:=zh (show wayC g m=whn (m.left !=0) 3 by rw[hR2.out];congr 1;by_cases h:m.left=0<;>simp[h])
     go_wp2_with (first|(go_at_call 104;refine(when_c _ _ _).mono ?_;rintro e w' ⟨rfl,rfl⟩))
     go_ret
     exact⟨ret_int hR3.out.symm,hBr⟩
    ·have hR2:=zh (show wayC g m=rng m.left 1 (lnk g m.loc (turnM m)) by rw[hR.out,if_neg (fun h=>hz (by rw[h];rfl))])
     obtain⟨b,off,rfl,hbl,hcs⟩:=IntsR.at HMr.out.way (by intro h;rw[h]at hz;exact hz rfl)
     have x0:wr.cell? ⟨b,off,none⟩=some (.int .i64 (turnM m)):=by
      have h1:=hcs 0 (by omega)
      have h2:turnM m=m.way[0]:=turn_at (by omega)
      rw[h2];exact h1
     clear hcs
     have hq0:w.heap.size<wr.heap.size:=by omega
     have hq1:w.heap.size+1<wr.heap.size:=by omega
     have hz2:0<m.way.length:=by omega
     have hzz:((m.way.length:Int)==0)=false:=by rw[beq_eq_false_iff_ne];omega
     go_wp2_with fail
     go_region_held3 (SSd wr) ((refine Sx.goal ?_;exact zsx)) (first|(go_at_call 109;refine(joined_c a.pS a.pM a.pZ a.cs a.cm a.cz g m.loc (turnM m) _ hok HS.out.1 HS.out.2 (HGr.out.sx (Nat.le_refl _) (by exact zsx))).mono ?_;rintro e w4 ⟨rfl,hb4⟩)|(go_at_call 122;refine(within_c _ _ _ _).mono ?_;rintro e w' ⟨rfl,rfl⟩))
     go_wp2_with fail
     go_ret
     exact⟨ret_int hR2.out.symm,by exact zbl⟩
 ·have hz1':(firstErr [staC g m.loc,whn (decide ((40:Int)<m.way.length)) 5]!=0)=true:=by rw[bne_iff_ne];exact he
  have hR:=zh (wayC_bad he)
  have HE:=zh he;clear he
  go_wp2_with fail
  go_ret
  exact⟨ret_int hR.out.symm,hBw⟩
structure FldR(w:World)(B:Nat)(A:Option Addr)(c:Nat)(xs:List MA):Prop where
 rw_:Rw w B 6 A (xs.map encMA)
 each:∀x∈xs,MirR w B x.m x.A x.c
 cap:xs.length≤c
structure SmallF(xs:List MA):Prop where
 n:xs.length≤1000
 name:∀x∈xs,x.m.name.size≤100000
 sec:∀x∈xs,x.m.sec.size≤100000
 way:∀x∈xs,x.m.way.length≤1000
theorem FldR.more{w:World}{B B' c:Nat}{A:Option Addr}{xs:List MA}(h:FldR w B A c xs)(hB:B≤B'):FldR w B' A c xs:=⟨Rw.more h.rw_ hB,fun x hx=>(h.each x hx).more hB,h.cap⟩
theorem FldR.belowB{w w' w0:World}{B c:Nat}{A:Option Addr}{xs:List MA}(h:FldR w B A c xs)(hb:Below w0.heap.size w w')(hB:B≤w0.heap.size):FldR w' B A c xs:=
 ⟨Rw.belowB h.rw_ hb hB,fun x hx=>(h.each x hx).belowB hb hB,h.cap⟩
theorem FldR.sx{W0 W:World}{B c:Nat}{A:Option Addr}{xs:List MA}(h:FldR W0 B A c xs)(hB:B≤W0.heap.size)(hs:Sx W0 W):FldR W W.heap.size A c xs:=
 ⟨Rw.sx h.rw_ hB hs,fun x hx=>(h.each x hx).sx hB hs,h.cap⟩
theorem Sh.sx{W0 W:World}(h:Sh W0 W):Sx W0 W:=⟨h.1,h.2.1⟩
def fldOf(tk ls:Int)(xs:List MA):Fld:=⟨tk,ls,xs.map MA.m⟩
def fldE0(g:Grd)(tk ls:Int)(n:Nat):Int:=firstErr [gridC g,rng tk 0 10000000,rng ls 1 100,whn (decide ((16:Int)<n)) 5]
theorem fldE_eq(g:Grd)(tk ls:Int)(xs:List MA):fldE g (fldOf tk ls xs)=fldE0 g tk ls xs.length:=by
 unfold fldE fldE0 fldOf
 rw[show decide (16<(xs.map MA.m).length)=decide ((16:Int)<xs.length)from decide_eq_decide.2 (by rw[List.length_map];omega)]
theorem fieldC_bad{g:Grd}{tk ls:Int}{xs:List MA}(h:fldE0 g tk ls xs.length≠0):fieldC g (fldOf tk ls xs)=fldE0 g tk ls xs.length:=by
 unfold fieldC;rw[fldE_eq,if_pos h]
theorem fieldC_ok{g:Grd}{tk ls:Int}{xs:List MA}(h:fldE0 g tk ls xs.length=0):fieldC g (fldOf tk ls xs)=chkF g tk [] (xs.map MA.m):=by
 unfold fieldC;rw[fldE_eq,if_neg (fun k=>k h)];rfl
theorem turn_rng{g:Grd}{m:Mir}(h:wayC g m=0):0≤turnM m∧turnM m<g.sta.length:=by
 by_cases h1:wayE0 g m=0
 ·by_cases h2:chkW g m.loc m.way=0
  ·unfold turnM
   cases hw:m.way with
   |nil=>exact(staC_zero (firstErr_zero h1 (staC g m.loc) (by simp))).1
   |cons v l=>rw[hw]at h2;exact hasB_iffG.1 (chkW_cons.1 h2).1
  ·rw[wayC_mid h1 h2]at h;exact absurd h h2
 ·rw[wayC_bad h1]at h;exact absurd h h1
def nmsF(xs:List MA):List ByteArray:=xs.map fun x=>x.m.name
theorem chkF_at{g:Grd}{tk:Int}{xs:List MA}{k:Nat}{x:MA}(hk:k<xs.length)(hx:x=xs[k])(h:Hid (chkF g tk (nmsF (xs.take k)) ((xs.drop k).map MA.m)=chkF g tk [] (xs.map MA.m))):
 chkF g tk [] (xs.map MA.m)=if mirE g tk (nmsF (xs.take k)) x.m≠0 then mirE g tk (nmsF (xs.take k)) x.m else if homeG g (turnM x.m)<0 then 7 else chkF g tk (nmsF (xs.take (k+1))) ((xs.drop (k+1)).map MA.m):=by
 have h1:=h.out
 rw[List.drop_eq_getElem_cons hk,←hx,List.map_cons,chkF]at h1
 rw[←h1,List.take_succ_eq_append_getElem hk,←hx]
 simp[nmsF]
set_option maxRecDepth 100000 in
set_option maxHeartbeats 2000000 in
theorem CheckField_c(a:GA)(g:Grd)(tk ls:Int)(A:Option Addr)(c:Nat)(xs:List MA)(w:World)(hs:SmallG g)(hsf:SmallF xs)(hr:GridR w w.heap.size a g)(hkd:KindsAt w)(hf:FldR w w.heap.size A c xs):
 Calls Tryz.prog 44 #[(.agg #[.int .i64 g.blur,.slice a.pS g.sta.length a.cs,.slice a.pM g.mov.length a.cm,.slice a.pZ g.zon.length a.cz]),(.agg #[.int .i64 tk,.int .i64 ls,.slice A xs.length c])] w fun e w'=>e=.returned (.int .i64 (fieldC g (fldOf tk ls xs)))∧Below w.heap.size w w':=by
 obtain⟨W0,hW0⟩:∃W0,W0=(w.alloc (.cells #[.int .i64 g.blur,.slice a.pS g.sta.length a.cs,.slice a.pM g.mov.length a.cm,.slice a.pZ g.zon.length a.cz] 38)).alloc (.cells #[.int .i64 tk,.int .i64 ls,.slice A xs.length c] 72):=⟨_,rfl⟩
 have hsx:Sx w W0:=by rw[hW0];exact((Sx.refl w).alloc _).alloc _
 have HG:=zh (hr.sx (Nat.le_refl _) hsx)
 have HK:=zh (hkd.sx hsx)
 have HF:=zh (hf.sx (Nat.le_refl _) hsx)
 have hl:=hsf.n
 have HSF:=zh hsf
 have e0:W0.cell? ⟨w.heap.size,0,none⟩=some (.int .i64 g.blur):=by rw[hW0];simp[World.cell?_alloc_lt,cells_new]
 have e1:W0.cell? ⟨w.heap.size,1,none⟩=some (.slice a.pS g.sta.length a.cs):=by rw[hW0];simp[World.cell?_alloc_lt,cells_new]
 have e2:W0.cell? ⟨w.heap.size,2,none⟩=some (.slice a.pM g.mov.length a.cm):=by rw[hW0];simp[World.cell?_alloc_lt,cells_new]
 have e3:W0.cell? ⟨w.heap.size,3,none⟩=some (.slice a.pZ g.zon.length a.cz):=by rw[hW0];simp[World.cell?_alloc_lt,cells_new]
 have d0:W0.cell? ⟨w.heap.size+1,0,none⟩=some (.int .i64 tk):=by rw[hW0];simp[cells_new]
 have d1:W0.cell? ⟨w.heap.size+1,1,none⟩=some (.int .i64 ls):=by rw[hW0];simp[cells_new]
 have d2:W0.cell? ⟨w.heap.size+1,2,none⟩=some (.slice A xs.length c):=by rw[hW0];simp[cells_new]
 have hsz:W0.heap.size=w.heap.size+2:=by rw[hW0];simp
 have hB0:Below w.heap.size w W0:=by rw[hW0];exact zbl
 have hbs0:w.heap.size<W0.heap.size:=by omega
 have hbs1:w.heap.size+1<W0.heap.size:=by omega
 clear hr hkd hf hsx hsf
 have HSZ:=zh hsz
 have hmm:= @run_makeMap Tryz.prog
 go_enter Tryz.func44,Tryz.ntmps44
 go_wp2_with fail
 rw[←hW0]
 clear hW0 hsz
 go_region_held3 (SSd W0) ((refine Sx.goal ?_;exact zsx)) (first|(go_at_call 66;refine(CheckGrid_c a g _ hs (HG.out.sx (Nat.le_refl _) (by exact zsx)) (HK.out.sx (by exact zsx))).mono ?_;rintro e w1 ⟨rfl,hb1⟩)|(go_at_call 122;refine(within_c _ _ _ _).mono ?_;rintro e w' ⟨rfl,rfl⟩)|(go_at_call 104;refine(when_c _ _ _).mono ?_;rintro e w' ⟨rfl,rfl⟩)|(go_at_call 103;refine(first_c _ [gridC g,rng tk 0 10000000,rng ls 1 100,whn (decide ((16:Int)<xs.length)) 5] _ ?_ ?_).mono ?_;(focus simp);(focus first|(simp[CellsAt];done)|(simp[CellsAt,cells_new]));rintro e w' ⟨rfl,rfl⟩))
 have hBa:Below W0.heap.size W0 (w1.alloc (.cells #[.int .i64 (gridC g),.int .i64 (rng tk 0 10000000),.int .i64 (rng ls 1 100),.int .i64 (whn (decide ((16:Int)<xs.length)) 5)] 31)):=by exact zbl
 obtain⟨Wa,hWa⟩:∃Wa,Wa=w1.alloc (.cells #[.int .i64 (gridC g),.int .i64 (rng tk 0 10000000),.int .i64 (rng ls 1 100),.int .i64 (whn (decide ((16:Int)<xs.length)) 5)] 31):=⟨_,rfl⟩
 rw[←hWa]at hBa ⊢
 clear hWa hb1
 have q0:=(hBa.cell (p:=⟨w.heap.size,0,none⟩) hbs0).trans e0
 have q1:=(hBa.cell (p:=⟨w.heap.size,1,none⟩) hbs0).trans e1
 have q2:=(hBa.cell (p:=⟨w.heap.size,2,none⟩) hbs0).trans e2
 have q3:=(hBa.cell (p:=⟨w.heap.size,3,none⟩) hbs0).trans e3
 have r0:=(hBa.cell (p:=⟨w.heap.size+1,0,none⟩) hbs1).trans d0
 have r1:=(hBa.cell (p:=⟨w.heap.size+1,1,none⟩) hbs1).trans d1
 have r2:=(hBa.cell (p:=⟨w.heap.size+1,2,none⟩) hbs1).trans d2
 have HG2:=zh ((HG.out.belowB (w0:=W0) hBa (Nat.le_refl _)).more hBa.size)
 have HF2:=zh ((HF.out.belowB (w0:=W0) hBa (Nat.le_refl _)).more hBa.size)
 have hBw:Below w.heap.size w Wa:=hB0.trans (hBa.mono (by omega))
 have hs0:w.heap.size+2≤Wa.heap.size:=by have:=hBa.size;omega
 clear e0 e1 e2 e3 d0 d1 d2 hBa hB0 HG HF HK hbs0 hbs1
 by_cases he:fldE0 g tk ls xs.length=0
 ·have hz1':(firstErr [gridC g,rng tk 0 10000000,rng ls 1 100,whn (decide ((16:Int)<xs.length)) 5]!=0)=false:=by rw[bne_eq_false_iff_eq];exact he
  have hgc:gridC g=0:=firstErr_zero he (gridC g) (by simp)
  have hok:=gridC_ok hgc
  have hu:=gridC_uniq hgc
  have hR:=zh (fieldC_ok he)
  have HE:=zh he;clear he hgc
  have hb0:w.heap.size<Wa.heap.size:=by omega
  have hb1:w.heap.size+1<Wa.heap.size:=by omega
  go_wp2_with fail
  go_loopw [32] (fun i wr=>∃k:Nat,k≤xs.length∧i=.int .i64 k∧SetAt wr Wa.heap.size (nmsF (xs.take k))∧Below Wa.heap.size Wa wr∧Hid (chkF g tk (nmsF (xs.take k)) ((xs.drop k).map MA.m)=chkF g tk [] (xs.map MA.m))) (fun i _=>xs.length-(intOf i).toNat)
  case atStart=>exact⟨0,Nat.zero_le _,rfl,SetAt.new _,by exact zbl,zh (by simp[nmsF])⟩
  case round=>
   obtain⟨k,hk,rfl,hset,hb,hc⟩:=hrel
   have hbs:=hb.size
   have s0:=(hb.cell (p:=⟨w.heap.size,0,none⟩) hb0).trans q0
   have s1:=(hb.cell (p:=⟨w.heap.size,1,none⟩) hb0).trans q1
   have s2:=(hb.cell (p:=⟨w.heap.size,2,none⟩) hb0).trans q2
   have s3:=(hb.cell (p:=⟨w.heap.size,3,none⟩) hb0).trans q3
   have t0:=(hb.cell (p:=⟨w.heap.size+1,0,none⟩) hb1).trans r0
   have HGr:=zh ((HG2.out.belowB (w0:=Wa) hb (Nat.le_refl _)).more hbs)
   have HFr:=zh ((HF2.out.belowB (w0:=Wa) hb (Nat.le_refl _)).more hbs)
   have hBr:Below w.heap.size w wr:=hBw.trans (hb.mono (by omega))
   have hl0:w.heap.size<wr.heap.size:=by omega
   have hl1:w.heap.size+1<wr.heap.size:=by omega
   have hl2:Wa.heap.size<wr.heap.size:=hset.lt
   clear q0 q1 q2 q3 r0 r1 r2 HG2 HF2
   by_cases hlt:k<xs.length
   ·obtain⟨x,hx⟩:∃x,x=xs[k]:=⟨_,rfl⟩
    have hxm:x∈xs:=by rw[hx];exact List.getElem_mem hlt
    obtain⟨b,off,rfl,hbl,c0,c1,c2,c3,c4,c5⟩:=HFr.out.rw_.get6 (k:=k) (by simpa using hlt) (by rw[List.getElem_map,←hx];rfl)
    have hmr:=HFr.out.each x hxm
    have hn1:=HSF.out.name x hxm
    have hn2:=HSF.out.sec x hxm
    have hn3:=HSF.out.way x hxm
    have hat:=chkF_at hlt hx hc
    clear hc hxm
    obtain⟨sn,hsn⟩:∃sn,sn=nmsF (xs.take k):=⟨_,rfl⟩
    rw[←hsn]at hset hat
    have hsn1:nmsF (xs.take (k+1))=sn++ [x.m.name]:=by rw[hsn,List.take_succ_eq_append_getElem hlt,←hx];simp[nmsF]
    have HSN:=zh hsn1
    clear hsn hsn1 hx
    obtain⟨m,mA,mc⟩:=x
    simp only at hn1 hn2 hn3 hmr hat HSN c0 c1 c2 c3 c4 c5
    have HAT:=zh hat
    have HMR:=zh hmr
    clear hat hmr
    obtain⟨W1,hW1⟩:∃W1,W1=wr.alloc (.cells #[.string m.name,.string m.sec,.int .i64 m.loc,.slice mA m.way.length mc,.int .i64 m.left,.int .i64 m.heard] 106):=⟨_,rfl⟩
    have hsh:Sh wr W1:=by rw[hW1];exact(Sh.refl wr).alloc _
    have hB1:Below wr.heap.size wr W1:=by rw[hW1];exact zbl
    have hs1:W1.heap.size=wr.heap.size+1:=by rw[hW1];simp
    have y0:W1.cell? ⟨wr.heap.size,0,none⟩=some (.string m.name):=by rw[hW1];simp[cells_new]
    have y1:W1.cell? ⟨wr.heap.size,1,none⟩=some (.string m.sec):=by rw[hW1];simp[cells_new]
    have y2:W1.cell? ⟨wr.heap.size,2,none⟩=some (.int .i64 m.loc):=by rw[hW1];simp[cells_new]
    have y3:W1.cell? ⟨wr.heap.size,3,none⟩=some (.slice mA m.way.length mc):=by rw[hW1];simp[cells_new]
    have y4:W1.cell? ⟨wr.heap.size,4,none⟩=some (.int .i64 m.left):=by rw[hW1];simp[cells_new]
    have y5:W1.cell? ⟨wr.heap.size,5,none⟩=some (.int .i64 m.heard):=by rw[hW1];simp[cells_new]
    have HG1:=zh (HGr.out.sx (Nat.le_refl _) hsh.sx)
    have HM1:=zh (HMR.out.sx (Nat.le_refl _) hsh.sx)
    have hset1:SetAt W1 Wa.heap.size sn:=hset.keep (hsh.2.2 _ hl2)
    have hlk:∀W:World,W.heap[Wa.heap.size]? =W1.heap[Wa.heap.size]? →
     (Instr.lookup 196 (.map (some Wa.heap.size)) (.string m.name) false).run Tryz.prog W=.ok (.bool (memS sn m.name)) W:=
     fun W hW=>run_lookup_set _ Tryz.underlying196 Tryz.underlying9 (Tryz.zeroB W) (hset1.keep hW)
    have p0:w.heap.size<W1.heap.size:=by omega
    have p1:w.heap.size+1<W1.heap.size:=by omega
    have p2:Wa.heap.size<W1.heap.size:=by omega
    have p3:wr.heap.size<W1.heap.size:=by omega
    have HS1:=zh hs1
    go_wp2_with fail
    rw[←hW1]
    clear hW1 hs1 c0 c1 c2 c3 c4 c5
    have z0:=hsh.sx.at s0
    have z1:=hsh.sx.at s1
    have z2:=hsh.sx.at s2
    have z3:=hsh.sx.at s3
    have z4:=hsh.sx.at t0
    have HBR:=zh hBr
    have HB1:=zh hB1
    have HB:=zh hb
    clear s0 s1 s2 s3 t0 hsh hset hBr hB1 hb
    go_region_held3 (SHd W1) ((refine Sh.goal ?_;exact zsh)) (first|(go_at_call 123;first|(refine(checkName_c m.name _ hn1).mono ?_;rintro e w1 ⟨rfl,hb1⟩)|(refine(checkName_c m.sec _ hn2).mono ?_;rintro e w3 ⟨rfl,hb3⟩))|(go_at_call 104;refine(when_c _ _ _).mono ?_;rintro e w' ⟨rfl,rfl⟩)|(go_at_call 122;refine(within_c _ _ _ _).mono ?_;rintro e w' ⟨rfl,rfl⟩)|(go_at_call 124;refine(checkWay_c a g m mA mc _ hok (HG1.out.sx (Nat.le_refl _) (Sh.sx (by exact zsh))) (HM1.out.sx (Nat.le_refl _) (Sh.sx (by exact zsh))) hn3).mono ?_;rintro e w2 ⟨rfl,hb2⟩)|(go_at_call 103;refine(first_c _ [nmC m.name,whn (memS sn m.name) 9,nmC m.sec,wayC g m,rng m.heard 0 tk] _ ?_ ?_).mono ?_;(focus simp);(focus first|(simp[CellsAt];done)|(simp[CellsAt,cells_new]));rintro e w' ⟨rfl,rfl⟩))
    all_goals
     have hBb:Below W1.heap.size W1 (w2.alloc (.cells #[.int .i64 (nmC m.name),.int .i64 (whn (memS sn m.name) 9),.int .i64 (nmC m.sec),.int .i64 (wayC g m),.int .i64 (rng m.heard 0 tk)] 31)):=by exact zbl
     obtain⟨Wb,hWb⟩:∃Wb,Wb=w2.alloc (.cells #[.int .i64 (nmC m.name),.int .i64 (whn (memS sn m.name) 9),.int .i64 (nmC m.sec),.int .i64 (wayC g m),.int .i64 (rng m.heard 0 tk)] 31):=⟨_,rfl⟩
     rw[←hWb]at hBb ⊢
     clear hWb hb1 hb2 hb3
     have v0:=(hBb.cell (p:=⟨w.heap.size,0,none⟩) p0).trans z0
     have v1:=(hBb.cell (p:=⟨w.heap.size,1,none⟩) p0).trans z1
     have v2:=(hBb.cell (p:=⟨w.heap.size,2,none⟩) p0).trans z2
     have v3:=(hBb.cell (p:=⟨w.heap.size,3,none⟩) p0).trans z3
     have x0:=(hBb.cell (p:=⟨wr.heap.size,0,none⟩) p3).trans y0
     have x1:=(hBb.cell (p:=⟨wr.heap.size,1,none⟩) p3).trans y1
     have x2:=(hBb.cell (p:=⟨wr.heap.size,2,none⟩) p3).trans y2
     have x3:=(hBb.cell (p:=⟨wr.heap.size,3,none⟩) p3).trans y3
     have x4:=(hBb.cell (p:=⟨wr.heap.size,4,none⟩) p3).trans y4
     have x5:=(hBb.cell (p:=⟨wr.heap.size,5,none⟩) p3).trans y5
     have HG3:=zh ((HG1.out.belowB (w0:=W1) hBb (Nat.le_refl _)).more hBb.size)
     have HM3:=zh ((HM1.out.belowB (w0:=W1) hBb (Nat.le_refl _)).more hBb.size)
     have hset2:SetAt Wb Wa.heap.size sn:=hset1.keep (hBb.block _ p2)
     have hBB:=zh (HB1.out.trans (hBb.mono HB1.out.size))
     have j0:w.heap.size<Wb.heap.size:=Nat.lt_of_lt_of_le p0 hBb.size
     have j1:Wa.heap.size<Wb.heap.size:=Nat.lt_of_lt_of_le p2 hBb.size
     have j2:wr.heap.size<Wb.heap.size:=Nat.lt_of_lt_of_le p3 hBb.size
     clear z0 z1 z2 z3 z4 y0 y1 y2 y3 y4 y5 hlk hset1 hBb p0 p1 p2 p3
     by_cases hm:mirE g tk sn m=0
     ·have hz2:(firstErr [nmC m.name,whn (memS sn m.name) 9,nmC m.sec,wayC g m,rng m.heard 0 tk]!=0)=false:=by rw[bne_eq_false_iff_eq];exact hm
      have hw0:wayC g m=0:=firstErr_zero hm (wayC g m) (by simp)
      have htr:=turn_rng hw0
      have hmem:=zh (whn_zero (n:=9) (firstErr_zero hm (whn (memS sn m.name) 9) (by simp)) (by decide))
      have HM0:=zh hm;clear hm hw0
      go_wp2_with fail
      go_region_held3 (SHd Wb) ((refine Sh.goal ?_;exact zsh)) (first|(go_at_call 125;refine(turn_c m mA mc _ (HM3.out.sx (Nat.le_refl _) (Sh.sx (by exact zsh)))).mono ?_;rintro e w5 ⟨rfl,hb5⟩)|(go_at_call 95;refine(home_c a g (turnM m) _ hok hu htr (HG3.out.sx (Nat.le_refl _) (Sh.sx (by exact zsh)))).mono ?_;rintro e w6 ⟨rfl,hb6⟩))
      have hB6:Below Wb.heap.size Wb w6:=by exact zbl
      clear hb5 hb6
      have x06:=(hB6.cell (p:=⟨wr.heap.size,0,none⟩) j2).trans x0
      have hset3:SetAt w6 Wa.heap.size sn:=hset2.keep (hB6.block _ j1)
      have HBF:=zh (hBB.out.trans (hB6.mono (Nat.le_trans (Nat.le_of_lt j2) (Nat.le_refl _))))
      by_cases hh:homeG g (turnM m)<0
      ·have hh':decide (homeG g (turnM m)<0)=true:=decide_eq_true hh
       have hC:=zh (show chkF g tk [] (xs.map MA.m)=7 by rw[HAT.out,if_neg (fun h=>h HM0.out),if_pos hh])
       go_wp2_with fail
       go_ret
       exact⟨ret_int (hR.out.trans hC.out).symm,HBR.out.trans (HBF.out.mono HBR.out.size)⟩
      ·have hh':decide (homeG g (turnM m)<0)=false:=decide_eq_false hh
       have hC:=zh (show chkF g tk (sn++ [m.name]) ((xs.drop (k+1)).map MA.m)=chkF g tk [] (xs.map MA.m) by rw[HAT.out,if_neg (fun h=>h HM0.out),if_neg hh,HSN.out])
       go_wp2_with (at_mapUpdate;refine wpList_update_set rfl _ _ _ _ rfl _ _ Tryz.underlying196 Tryz.underlying9 Wa.heap.size sn m.name rfl rfl rfl hset3 hmem.out ?_;intro wz hsz hgz)
       go_roundw
       case rel=>exact⟨k+1,by omega,by go_num,by rw[HSN.out];exact hsz,(HB.out.trans (HBF.out.mono hbs)).grown hgz (Nat.le_trans hbs HBF.out.size) (fun j e=>by cases e;exact Nat.le_refl _),by rw[HSN.out];exact hC⟩
       case measure=>simp[intOf];omega
     ·have hz2:(firstErr [nmC m.name,whn (memS sn m.name) 9,nmC m.sec,wayC g m,rng m.heard 0 tk]!=0)=true:=by rw[bne_iff_ne];exact hm
      have hC:=zh (show chkF g tk [] (xs.map MA.m)=firstErr [nmC m.name,whn (memS sn m.name) 9,nmC m.sec,wayC g m,rng m.heard 0 tk] by rw[HAT.out,if_pos hm];rfl)
      clear hm
      go_wp2_with fail
      go_ret
      exact⟨ret_int (hR.out.trans hC.out).symm,HBR.out.trans (hBB.out.mono HBR.out.size)⟩
   ·go_wp2_with fail
    go_ret
    have hkl:k=xs.length:=by omega
    have h1:=hc.out
    rw[hkl,List.drop_length]at h1
    exact⟨ret_int (hR.out.trans h1.symm).symm,hBr⟩
 ·have hz1':(firstErr [gridC g,rng tk 0 10000000,rng ls 1 100,whn (decide ((16:Int)<xs.length)) 5]!=0)=true:=by rw[bne_iff_ne];exact he
  have hR:=zh (fieldC_bad he)
  have HE:=zh he;clear he
  go_wp2_with fail
  go_ret
  exact⟨ret_int hR.out.symm,hBw⟩
theorem flat_at{α:Type}{n:Nat}:∀{l:List (List α)},(∀x∈l,x.length=n)→∀{k:Nat} (hk:k<l.length) {j:Nat},j<n→l.flatten[k*n+j]? =l[k][j]?
 |x::l,h,0,_,j,hj=>by
  rw[List.flatten_cons,List.getElem?_append_left (by rw[h x (by simp)];omega)];simp
 |x::l,h,k+1,hk,j,hj=>by
  have hx:=h x (by simp)
  rw[List.flatten_cons,List.getElem?_append_right (by rw[hx,Nat.succ_mul];omega),hx,show(k+1)*n+j-n=k*n+j by rw[Nat.succ_mul];omega]
  simpa using flat_at (fun y hy=>h y (by simp[hy])) (k:=k) (by simpa using hk) hj
theorem flat_len{α:Type}{n:Nat}:∀{l:List (List α)},(∀x∈l,x.length=n)→l.flatten.length=l.length*n
 | [],_=>by simp
 |x::l,h=>by rw[List.flatten_cons,List.length_append,h x (by simp),flat_len fun y hy=>h y (by simp[hy]),List.length_cons,Nat.succ_mul];omega
theorem encMA_len{ys:List MA}:∀x∈ys.map encMA,x.length=6:=by
 intro x hx;obtain⟨y,_,rfl⟩:=List.mem_map.1 hx;rfl
def zeroMir:Value:=.agg #[.string ⟨#[]⟩,.string ⟨#[]⟩,.int .i64 0,.slice none 0 0,.int .i64 0,.int .i64 0]
theorem Tryz.infoMir:(Tryz.prog.info? 106).map (fun i=>(i.zero,i.size,i.bytes))=some (some zeroMir,6,80):=by kernel_rfl
theorem ownsRow_mono{w:World}{base base':Nat}{e:TypeId}{size:Nat}{v:Value}{n:Nat}{xs:List Value}(h:w.ownsRow base e size v n xs)(hb:base'≤base):w.ownsRow base' e size v n xs:=by
 refine⟨h.1,?_⟩
 rcases h.2 with hn|⟨g,cap,cur,h1,h2,h3⟩
 ·exact .inl hn
 ·exact .inr ⟨g,cap,cur,h1,Nat.le_trans hb h2,h3⟩
theorem add0(g n:Nat):(⟨g,0,none⟩:Addr).add n=⟨g,n,none⟩:=by unfold Addr.add;split<;>simp_all
structure OwnM(w:World)(base:Nat)(A:Option Addr)(c:Nat)(ys:List MA):Prop where
 row:w.ownsRow base 106 6 (.slice A ys.length c) ys.length (ys.map encMA).flatten
 each:∀x∈ys,MirR w w.heap.size x.m x.A x.c
 apart:∀x∈ys,x.m.way≠ []→∀a,x.A=some a→∀d,A=some d→a.block≠d.block
theorem OwnM.nil_(w:World)(base:Nat):OwnM w base none 0 []:=⟨World.ownsRow_nil _ _ _ _,by simp,by simp⟩
theorem OwnM.below{w w':World}{base c:Nat}{A:Option Addr}{ys:List MA}(h:OwnM w base A c ys)(hb:Below w.heap.size w w'):OwnM w' base A c ys:=
 ⟨World.ownsRow.kept h.row (row:=none) (grown_of hb) (by cases(Value.slice A ys.length c).ownBlock<;>simp),fun x hx=>((h.each x hx).belowB (w0:=w) hb (Nat.le_refl _)).more hb.size,h.apart⟩
theorem OwnM.mono{w:World}{base base' c:Nat}{A:Option Addr}{ys:List MA}(h:OwnM w base A c ys)(hb:base'≤base):OwnM w base' A c ys:=
 ⟨ownsRow_mono h.row hb,h.each,h.apart⟩
theorem OwnM.fld{w:World}{base c:Nat}{A:Option Addr}{ys:List MA}(h:OwnM w base A c ys):FldR w w.heap.size A c ys:=by
 refine⟨fun hn=>?_,h.each,?_⟩
 ·have hpos:0<ys.length:=by cases ys with|nil=>simp at hn|cons a l=>simp
  obtain⟨g,cap,hv,hb,hlt⟩:=h.row.form hpos
  cases hv
  refine⟨g,0,rfl,hlt,fun k hk j v hv=>?_⟩
  rw[List.getElem?_eq_some_iff]at hv
  obtain⟨hj,rfl⟩:=hv
  have h6:=encMA_len _ (List.getElem_mem hk)
  have:=h.row.cells (g:=g) rfl (k*6+j) ((ys.map encMA)[k][j]) (by rw[flat_at encMA_len hk (by omega)];exact List.getElem?_eq_getElem hj)
  rw[add0]at this
  simpa using this
 ·rcases h.row.2 with ⟨hv,hn⟩|⟨g,cap,cur,hv,_,_,hc,_⟩
  ·simp at hv;omega
  ·simp at hv;omega
theorem OwnM.kept{w w':World}{base c:Nat}{A:Option Addr}{ys:List MA}(h:OwnM w base A c ys){row:Option Nat}(hg:w.grownBy w' row)(hA:∀d,A=some d→row≠some d.block)
 (hr:∀x∈ys,x.m.way≠ []→∀a,x.A=some a→row≠some a.block):OwnM w' base A c ys:=
 ⟨World.ownsRow.kept h.row hg (by
   cases A with
   |none=>exact .inl rfl
   |some d=>right;simp only[Value.ownBlock];exact fun e=>hA d rfl e.symm),
   fun x hx=>⟨fun hn=>by
    obtain⟨b,off,e,hb,hc⟩:=(h.each x hx).way hn
    exact⟨b,off,e,Nat.lt_of_lt_of_le hb hg.size,fun k hk j v hv=>hg.cell (hc k hk j v hv) (fun e2=>hr x hx (fun h=>hn (by rw[h];rfl)) _ e e2.symm)⟩,(h.each x hx).cap⟩,h.apart⟩
set_option maxRecDepth 100000 in
set_option maxHeartbeats 2000000 in
theorem mappedM_c(S:Mir→Option Addr→Prop)(p:Mir→Mir)(gf:Nat)(fs cap:Array Value)(A:Option Addr)(c:Nat)(xs:List MA)(w:World)(hl:xs.length≤1000)
 (hen:∀args w,(callFunc gf args).run Tryz.prog w=.ok (.enter gf args) w) (hr:FldR w w.heap.size A c xs)
 (hcall:∀x∈xs,∀W,Below w.heap.size w W→Calls Tryz.prog gf (fs++ #[(.agg #[.string x.m.name,.string x.m.sec,.int .i64 x.m.loc,.slice x.A x.m.way.length x.c,.int .i64 x.m.left,.int .i64 x.m.heard])]++cap) W fun e W'=>∃A' c',e=.returned (.agg #[.string (p x.m).name,.string (p x.m).sec,.int .i64 (p x.m).loc,.slice A' (p x.m).way.length c',.int .i64 (p x.m).left,.int .i64 (p x.m).heard])∧MirR W' W'.heap.size (p x.m) A' c'∧((p x.m).way≠ []→∀a,A'=some a→a.block<w.heap.size∨W.heap.size≤a.block)∧S (p x.m) A'∧Below W.heap.size W W'):
 Calls Tryz.prog 166 #[.slice A xs.length c,.func (.func gf) fs cap] w fun e w'=>∃A' c' ys,e=.returned (.slice A' ys.length c')∧ys.map MA.m=(xs.map MA.m).map p∧OwnM w' w.heap.size A' c' ys∧(∀y∈ys,S y.m y.A)∧Below w.heap.size w w':=by
 obtain⟨i0,hi,hz0,hz1,hz2⟩:=info_parts Tryz.infoMir
 have HR:=zh hr;clear hr
 have HC:=zh hcall;clear hcall
 go_enter Tryz.func166,Tryz.ntmps166
 go_wp2_with fail
 go_loopw [5,10] (fun v i wr=>∃(k:Nat) (A':Option Addr) (c':Nat) (ys:List MA),k≤xs.length∧v=.slice A' ys.length c'∧i=.int .i64 k∧OwnM wr w.heap.size A' c' ys∧Hid (ys.map MA.m=((xs.take k).map MA.m).map p)∧Hid (∀y∈ys,S y.m y.A)∧Below w.heap.size w wr) (fun _ i _=>xs.length-(intOf i).toNat)
 case atStart=>exact⟨0,none,0,[],Nat.zero_le _,rfl,rfl,OwnM.nil_ _ _,zh (by simp),zh (by simp),Below.refl _ _⟩
 case round=>
  obtain⟨k,A',c',ys,hk,rfl,rfl,hown,hys,hS,hb⟩:=hrel
  have hyl:ys.length=k:=by have:=congrArg List.length hys.out;simpa [Nat.min_eq_left hk]using this
  have hyb:ys.length≤1000:=by omega
  have HYL:=zh hyl
  clear hyl
  have HOW:=zh hown
  clear hown
  by_cases hlt:k<xs.length
  ·obtain⟨x,hx⟩:∃x,x=xs[k]:=⟨_,rfl⟩
   have hxm:x∈xs:=by rw[hx];exact List.getElem_mem hlt
   have HF:=zh (HR.out.belowB (w0:=w) hb (Nat.le_refl _))
   obtain⟨b,off,rfl,hbl,c0,c1,c2,c3,c4,c5⟩:=HF.out.rw_.get6 (k:=k) (by simpa using hlt) (by rw[List.getElem_map,←hx];rfl)
   have HQ:=zh (HC.out x hxm)
   have HX:=zh hx
   clear hx hxm
   obtain⟨m,mA,mc⟩:=x
   simp only at c0 c1 c2 c3 c4 c5 HQ
   go_wp2_with (first|(refine(HQ.out _ (by exact zbl)).mono ?_;rintro e w2 ⟨A2,c2,rfl,hm2,ha2,hs2,hb2⟩;(have HS2:=zh hs2);clear hs2;(have HO2:=OwnM.below HOW.out (w':=w2) (by exact zbl));(have HM2:=zh hm2);(have HA2:=zh ha2);clear hm2 ha2)|(at_builtin;go_loud (refine wpList_append_lies _ rfl _ _ 70 rfl w.heap.size 106 i0 zeroMir 6 80 Tryz.underlying70 hi hz0 hz1 hz2 rfl (by decide) _ _ _ rfl (World.ownsRow.alloc HO2.row _) ⟨w2.heap.size,0,none⟩ 1 1 (encMA ⟨p m,A2,c2⟩) rfl rfl ?c1 ?c2 (by decide) ?c3 ?c4 ?c5 _ rfl ?_)))
   case c1=>
    intro j u hj
    rw[add0,cells_new _ _ rfl]
    match j,hj with
    |0,hj=>simpa [encMA]using hj
    |1,hj=>simpa [encMA]using hj
    |2,hj=>simpa [encMA]using hj
    |3,hj=>simpa [encMA]using hj
    |4,hj=>simpa [encMA]using hj
    |5,hj=>simpa [encMA]using hj
    |j+6,hj=>simp[encMA]at hj
   case c2=>intro u hu;simp[encMA]at hu;rcases hu with rfl|rfl|rfl|rfl|rfl|rfl<;>rfl
   case c3=>unfold maxLen;omega
   case c4=>omega
   case c5=>
    have h1:=hb.size
    have h3:=hb2.size
    rw[World.size_alloc]at h3 ⊢
    omega
   intro g1 cap1 w4 hown' hgrow hat hlt4
   go_wp2_with fail
   go_roundw
   case rel=>
    have hBz:=hgrow.size
    have hbz:=hb.size
    have hbz2:wr.heap.size+1≤w2.heap.size:=by have:=hb2.size;rwa [World.size_alloc]at this
    rw[World.size_alloc]at hBz
    refine⟨k+1,some ⟨g1,0,none⟩,cap1,ys++ [⟨p m,A2,c2⟩],by omega,by simp,by go_num,⟨by simpa using hown',?_,?_⟩,zh ?_,zh (fun y hy=>(List.mem_append.1 hy).elim (hS.out y) (fun h=>by simp only[List.mem_singleton]at h;subst h;exact HS2.out)),Below.grown (by exact zbl) hgrow (by simp;omega) (fun j e=>(World.ownsRow.lt HO2.row j e).1)⟩
    ·intro z hz
     rcases List.mem_append.1 hz with hz|hz
     ·refine⟨fun hn=>?_,(HO2.each z hz).cap⟩
      obtain⟨b',off',e,hb',hc'⟩:=(HO2.each z hz).way hn
      refine⟨b',off',e,by omega,fun i hi j v hv=>hgrow.cell ((World.cell?_alloc_lt _ _ ⟨b',off'+i*1+j,none⟩ hb').trans (hc' i hi j v hv)) ?_⟩
      intro e2
      cases A' with
      |none=>cases e2
      |some d=>exact HO2.apart z hz (fun h=>hn (by rw[h];rfl)) _ e d rfl (by simpa [Value.ownBlock]using e2)
     ·simp only[List.mem_singleton]at hz;subst hz
      refine⟨fun hn=>?_,HM2.out.cap⟩
      obtain⟨b',off',e,hb',hc'⟩:=HM2.out.way hn
      refine⟨b',off',e,by omega,fun i hi j v hv=>hgrow.cell ((World.cell?_alloc_lt _ _ ⟨b',off'+i*1+j,none⟩ hb').trans (hc' i hi j v hv)) ?_⟩
      intro e2
      cases A' with
      |none=>cases e2
      |some d=>
       simp only[Value.ownBlock,Option.some.injEq]at e2
       have h1:=World.ownsRow.lt HOW.out.row d.block rfl
       rcases HA2.out (fun h=>hn (by rw[h];rfl)) _ e with h2|h2
       ·have:b'=d.block:=e2
        simp only at h2;omega
       ·have:b'=d.block:=e2
        simp at h2;omega
    ·intro z hz hne a ha d hd
     cases hd
     show a.block≠g1
     have hg1:(∃d',A'=some d'∧d'.block=g1)∨g1=w2.heap.size+1:=by
      rcases hat with h|h
      ·left
       cases A' with
       |none=>cases h
       |some d'=>exact⟨d',rfl,by simpa [Value.ownBlock]using h⟩
      ·right;exact h
     rcases List.mem_append.1 hz with hz|hz
     ·rcases hg1 with ⟨d',e1,e2⟩|e1
      ·rw[←e2];exact HO2.apart z hz hne a ha d' e1
      ·obtain⟨b',off',e,hb',_⟩:=(HO2.each z hz).way.at hne
       rw[ha]at e
       cases e
       show b'≠g1
       omega
     ·simp only[List.mem_singleton]at hz;subst hz
      rcases hg1 with ⟨d',e1,e2⟩|e1
      ·have h1:=World.ownsRow.lt HOW.out.row d'.block (by rw[e1];rfl)
       rcases HA2.out hne a ha with h2|h2
       ·omega
       ·rw[World.size_alloc]at h2;omega
      ·obtain⟨b',off',e,hb',_⟩:=HM2.out.way.at hne
       rw[show A2=some a from ha]at e
       cases e
       show b'≠g1
       omega
    ·rw[List.map_append,hys.out,List.take_succ_eq_append_getElem hlt,←HX.out]
     simp
   case measure=>simp[intOf];omega
  ·have hkl:k=xs.length:=by omega
   subst hkl
   go_wp2_with fail
   go_ret
   exact⟨A',c',ys,rfl,by rw[hys.out,List.take_length],HOW.out,hS.out,hb⟩
end Go.Proofs.YtehnikhicnnnhaaGreatDoor
/- The reference: Reached, Way, Home, Homes. -/
import Derived.Test.YtehnikhicnnnhaaGreatDoorPa11
import Derived.Test.YtehnikhicnnnhaaGreatDoorPa37
namespace Go.Proofs.YtehnikhicnnnhaaGreatDoor
open Go.RowKit
theorem wayG_nat(g:Grd)(f i:Nat):wayG g (f:Int) (i:Int)=(table (lnk g) g.sta.length f (g.sta.length-1)).getD i none:=by
 unfold wayG
 rw[if_neg (by omega),Int.toNat_natCast,Int.toNat_natCast]
theorem rPathsG_c(a:GA)(g:Grd)(f:Int)(w:World)(hg:okG g)(hu:Uniq g.mov)(hf:0≤f∧f<g.sta.length)(hr:GridR w w.heap.size a g):
 Calls Tryz.prog 102 #[(.agg #[.int .i64 g.blur,.slice a.pS g.sta.length a.cs,.slice a.pM g.mov.length a.cm,.slice a.pZ g.zon.length a.cz]),.int .i64 f] w fun e w'=>∃b c T,e=.returned (.slice (some ⟨b,0,none⟩) g.sta.length c)∧g.sta.length≤c∧TabP w' b T∧T.length=g.sta.length∧(∀i:Nat,wayG g f (i:Int)=T.getD i none)∧(∀(i:Nat) (r:Rt),T.getD i none=some r→0<r.st.length∧r.st.length≤17∧0≤r.n∧r.n≤1000)∧Below w.heap.size w w':=by
 obtain⟨k,rfl⟩:=Int.eq_ofNat_of_zero_le hf.1
 refine(rPaths_c a g k w hg hu (by omega) hr).mono ?_
 rintro e w' ⟨b,c,h1,h2,h3,h4⟩
 have hns:=hg.ns
 refine⟨b,c,_,h1,h2,h3,table_len _ _ _ _,fun i=>wayG_nat g k i,fun i r hr=>?_,h4⟩
 have h5:=GTab.table hg (f:=k) (by omega) (g.sta.length-1) i r hr
 have h6:=h5.len
 have h7:=h5.n1
 exact⟨h5.pos,by omega,h5.n0,by omega⟩
theorem getD_at{T:List (Option Rt)}{k:Nat}(h:k<T.length):T.getD k none=T[k]:=by rw[List.getD_eq_getElem?_getD,List.getElem?_eq_getElem h];rfl
set_option maxRecDepth 100000 in
set_option maxHeartbeats 4000000 in
theorem rHome_c(a:GA)(g:Grd)(f:Int)(w:World)(hg:okG g)(hu:Uniq g.mov)(hf:0≤f∧f<g.sta.length)(hr:GridR w w.heap.size a g):
 Calls Tryz.prog 101 #[(.agg #[.int .i64 g.blur,.slice a.pS g.sta.length a.cs,.slice a.pM g.mov.length a.cm,.slice a.pZ g.zon.length a.cz]),.int .i64 f] w fun e w'=>e=.returned (.int .i64 (homeG g f))∧Below w.heap.size w w':=by
 have hns:=hg.ns
 have HG:=zh (hr.sx (Nat.le_refl _) ((Sx.refl w).alloc (.cells #[.int .i64 g.blur,.slice a.pS g.sta.length a.cs,.slice a.pM g.mov.length a.cm,.slice a.pZ g.zon.length a.cz] 26)))
 clear hr
 cases hsf:isSafeG g f with
 |false=>
  have hh:=zh (show homeG g f= -1 by unfold homeG;rw[hsf];rfl)
  have HS:=zh (show ∀W,GridR W W.heap.size a g→_ from fun W h=>rSafeG_c a g f W hg h hf)
  rw[hsf]at HS
  clear hsf
  go_enter Tryz.func101,Tryz.ntmps101
  go_wp2_with (go_at_call 55;(with_reducible refine Calls.mono (HS.out _ HG.out) ?_);rintro e w1 ⟨rfl,hb1⟩)
  go_ret
  exact⟨ret_int hh.out.symm,by exact zbl⟩
 |true=>
  have hh:=zh (show homeG g f=homeL g f 0 g.sta (-1) by unfold homeG;rw[hsf];rfl)
  have HS:=zh (show ∀W,GridR W W.heap.size a g→_ from fun W h=>rSafeG_c a g f W hg h hf)
  rw[hsf]at HS
  clear hsf
  go_enter Tryz.func101,Tryz.ntmps101
  go_wp2_with (first|(go_at_call 55;(with_reducible refine Calls.mono (HS.out _ HG.out) ?_);rintro e w0 ⟨rfl,hb0⟩;(have b0:w0.cell? ⟨w.heap.size,0,none⟩=some (.int .i64 g.blur):=(hb0.cell (p:=⟨w.heap.size,0,none⟩) (by first|(simp;done)|(simp;omega)|(show w.heap.size<_;omega))).trans (by first|assumption|(simp;done)));(have b1:w0.cell? ⟨w.heap.size,1,none⟩=some (.slice a.pS g.sta.length a.cs):=(hb0.cell (p:=⟨w.heap.size,1,none⟩) (by first|(simp;done)|(simp;omega)|(show w.heap.size<_;omega))).trans (by first|assumption|(simp;done)));(have b2:w0.cell? ⟨w.heap.size,2,none⟩=some (.slice a.pM g.mov.length a.cm):=(hb0.cell (p:=⟨w.heap.size,2,none⟩) (by first|(simp;done)|(simp;omega)|(show w.heap.size<_;omega))).trans (by first|assumption|(simp;done)));(have b3:w0.cell? ⟨w.heap.size,3,none⟩=some (.slice a.pZ g.zon.length a.cz):=(hb0.cell (p:=⟨w.heap.size,3,none⟩) (by first|(simp;done)|(simp;omega)|(show w.heap.size<_;omega))).trans (by first|assumption|(simp;done))))|(go_at_call 102;(with_reducible refine Calls.mono (rPathsG_c a g f _ hg hu hf (HG.out.sx (Nat.le_refl _) (by exact zsx))) ?_);rintro e w1 ⟨bT,cT,T,rfl,hcT,ht,htl,hwy,hgd,hb1⟩;(have HGD:=zh hgd);clear hgd;(have HT:=zh ht);(have HTL:=zh htl);(have HW:=zh hwy);clear ht htl hwy))
  have HG1:=zh (HG.out.sx (W:=w1) (Nat.le_refl _) (by exact zsx))
  have c1:w1.cell? ⟨w.heap.size,1,none⟩=some (.slice a.pS g.sta.length a.cs):=(hb1.cell (p:=⟨w.heap.size,1,none⟩) (by have:=hb0.size;simp at this;show w.heap.size<_;omega)).trans b1
  have hb1':Below w.heap.size w w1:=by exact zbl
  go_loopw [6,7] (fun v i wr=>∃(k:Nat) (o:Int),k≤g.sta.length∧v=.int .i64 o∧i=.int .i64 k∧ -1≤o∧o<g.sta.length∧Hid (0≤o→∃r,wayG g f o=some r)∧Below w1.heap.size w1 wr∧Hid (homeL g f k (g.sta.drop k) o=homeL g f 0 g.sta (-1))) (fun _ i _=>g.sta.length-(intOf i).toNat)
  case atStart=>exact⟨0, -1,Nat.zero_le _,rfl,rfl,by omega,by omega,zh (fun h=>by omega),Below.refl _ _,zh (by simp)⟩
  case round=>
   obtain⟨k,o,hk,rfl,rfl,ho1,ho2,hor,hb,hc⟩:=hrel
   have hbs:=hb.size
   have yw:w.heap.size<wr.heap.size:=by have:=World.block_lt_of_cell? w1 _ c1;simp only at this;omega
   have d1:=(hb.cell (p:=⟨w.heap.size,1,none⟩) (World.block_lt_of_cell? w1 _ c1)).trans c1
   clear c1
   by_cases hlt:k<g.sta.length
   ·obtain⟨b,off,hA,hbl,e0,e1,e2,e3⟩:=(HG1.out.belowB (w0:=w1) hb (Nat.le_refl _)).sta.get4 (k:=k) (by simpa using hlt) (by rw[List.getElem_map];rfl)
    have hbl2:b<wr.heap.size:=by omega
    rw[hA]at d1
    obtain⟨st,hst⟩:∃st,st=g.sta[k]:=⟨_,rfl⟩
    rw[←hst]at e0 e1 e2 e3
    have HS:=zh hst
    have HTr:=zh (HT.out.below hb)
    have yT:=HTr.out.lt
    have hkT:k<T.length:=by rw[HTL.out];exact hlt
    have hwk:=HW.out k
    rw[getD_at hkT]at hwk
    clear hst hA
    cases hkd:sEq st.kind kStandby with
    |false=>
     have HE:=zh (show(if better1 g f k st o then(k:Int)else o)=o by unfold better1;rw[hkd];simp)
     have hkd':(st.kind.toList== [115,116,97,110,100,98,121])=false:=(kSt_eq _).trans hkd
     clear hkd hwk
     go_wp2_with fail
     go_quiet (fail)
     go_wp2_with fail
     go_roundw
     case rel=>exact⟨k+1,o,by omega,rfl,by go_num,by omega,by omega,hor,by exact zbl,home_step hlt (by rw[←HS.out];exact HE.out) hc⟩
     case measure=>simp[intOf];omega
    |true=>
     have hkd':(st.kind.toList== [115,116,97,110,100,98,121])=true:=(kSt_eq _).trans hkd
     cases e:T[k]with
     |none=>
      rw[e]at hwk
      have HE:=zh (show(if better1 g f k st o then(k:Int)else o)=o by unfold better1;rw[hwk];rfl)
      obtain⟨t0,t1⟩:=HTr.out.none_ hkT e
      clear hwk e hkd
      go_wp2_with fail
      go_quiet (fail)
      go_wp2_with fail
      go_roundw
      case rel=>exact⟨k+1,o,by omega,rfl,by go_num,by omega,by omega,hor,by exact zbl,home_step hlt (by rw[←HS.out];exact HE.out) hc⟩
      case measure=>simp[intOf];omega
     |some r=>
      rw[e]at hwk
      obtain⟨bs,cs,t0,t1,_,_,_⟩:=HTr.out.some_ hkT e
      obtain⟨hp1,hp2,hp3,hp4⟩:=HGD.out k r (by rw[getD_at hkT];exact e)
      have hrp:decide ((0:Int)<(r.st.length:Int))=true:=decide_eq_true (by omega)
      have HWK:=zh hwk
      clear e hwk
      by_cases hn:o<0
      ·have HE:=zh (show(if better1 g f k st o then(k:Int)else o)=k by unfold better1;rw[HWK.out,hkd,decide_eq_true hn];rfl)
       have hn':decide (o<0)=true:=decide_eq_true hn
       clear hkd hn
       go_wp2_with fail
       go_quiet (fail)
       go_wp2_with fail
       go_roundw
       case rel=>exact⟨k+1,(k:Int),by omega,rfl,by go_num,by omega,by omega,zh (fun _=>⟨r,HWK.out⟩),by exact zbl,home_step hlt (by rw[←HS.out];exact HE.out) hc⟩
       case measure=>simp[intOf];omega
      ·obtain⟨ro,hro⟩:=hor.out (by omega)
       obtain⟨j,rfl⟩:=Int.eq_ofNat_of_zero_le (show 0≤o by omega)
       have hjT:j<T.length:=by rw[HTL.out];omega
       have hwj:=HW.out j
       rw[hro,getD_at hjT]at hwj
       obtain⟨bs2,cs2,t2,t3,_,_,_⟩:=HTr.out.some_ hjT hwj.symm
       have hn':decide ((j:Int)<0)=false:=decide_eq_false hn
       cases hcm:decide (r.n<ro.n)with
       |true=>
        have HE:=zh (show(if better1 g f k st j then(k:Int)else j)=k by
         unfold better1 wayN
         rw[HWK.out,hro,hkd,if_pos]
         simp only[hcm,Bool.or_true,Bool.and_self,Option.isSome_some])
        clear hkd hn hro hwj
        go_wp2_with fail
        go_quiet (fail)
        go_wp2_with fail
        go_roundw
        case rel=>exact⟨k+1,(k:Int),by omega,rfl,by go_num,by omega,by omega,zh (fun _=>⟨r,HWK.out⟩),by exact zbl,home_step hlt (by rw[←HS.out];exact HE.out) hc⟩
        case measure=>simp[intOf];omega
       |false=>
        have HE:=zh (show(if better1 g f k st j then(k:Int)else j)=j by
         unfold better1 wayN
         rw[HWK.out,hro,hkd,if_neg]
         simp only[hcm,hn',Bool.or_false,Bool.and_false]
         decide)
        clear hkd hn hro hwj
        go_wp2_with fail
        go_quiet (fail)
        go_wp2_with fail
        go_roundw
        case rel=>exact⟨k+1,(j:Int),by omega,rfl,by go_num,by omega,by omega,hor,by exact zbl,home_step hlt (by rw[←HS.out];exact HE.out) hc⟩
        case measure=>simp[intOf];omega
   ·have hkl:k=g.sta.length:=by omega
    have h0:=hc.out
    rw[hkl,List.drop_length]at h0
    have HQ:=zh (show homeG g f=o from hh.out.trans h0.symm)
    go_wp2_with fail
    go_ret
    exact⟨ret_int HQ.out.symm,hb1'.trans (hb.mono (by have:=hb1'.size;omega))⟩
end Go.Proofs.YtehnikhicnnnhaaGreatDoor
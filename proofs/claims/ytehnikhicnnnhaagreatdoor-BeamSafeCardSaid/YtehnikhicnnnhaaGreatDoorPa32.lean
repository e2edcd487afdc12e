/- The reference: SafeMoves, CheckStation, Linked. -/
import Derived.Test.YtehnikhicnnnhaaGreatDoorPa10
import Derived.Test.YtehnikhicnnnhaaGreatDoorPa31
namespace Go.Proofs.YtehnikhicnnnhaaGreatDoor
open Go.RowKit
set_option maxHeartbeats 1000000 in
theorem rSafeG_c(a:GA)(g:Grd)(i:Int)(w:World)(hg:okG g)(hr:GridR w w.heap.size a g)(hi:0≤i∧i<g.sta.length):
 Calls Tryz.prog 55 #[(.agg #[.int .i64 g.blur,.slice a.pS g.sta.length a.cs,.slice a.pM g.mov.length a.cm,.slice a.pZ g.zon.length a.cz]),.int .i64 i] w fun e w'=>e=.returned (.bool (isSafeG g i))∧Below w.heap.size w w':=by
 obtain⟨k,rfl⟩:=Int.eq_ofNat_of_zero_le hi.1
 exact rSafe_c a g k w hg hr (by omega)
set_option maxHeartbeats 1000000 in
theorem rStation_c(a:GA)(g:Grd)(i:Int)(w:World)(hg:okG g)(hr:GridR w w.heap.size a g):
 Calls Tryz.prog 22 #[(.agg #[.int .i64 g.blur,.slice a.pS g.sta.length a.cs,.slice a.pM g.mov.length a.cm,.slice a.pZ g.zon.length a.cz]),.int .i64 i] w fun e w'=>e=.returned (.int .i64 (staC g i))∧Below w.heap.size w w':=by
 have HG:=zh (hr.sx (Nat.le_refl _) ((Sx.refl w).alloc (.cells #[.int .i64 g.blur,.slice a.pS g.sta.length a.cs,.slice a.pM g.mov.length a.cm,.slice a.pZ g.zon.length a.cz] 26)))
 clear hr
 by_cases hb:hasB g i=true
 ·have HI:=zh (hasB_iffG.1 hb)
  have hz:=zh (show staC g i=whn (!isSafeG g i) 31 by unfold staC;rw[if_pos hb])
  go_enter Tryz.func22,Tryz.ntmps22
  go_wp2_with (first|(go_at_call 98;refine(has_r a g i _).mono ?_;rintro e w1 ⟨rfl,hb1⟩;(have b0:w1.cell? ⟨w.heap.size,0,none⟩=some (.int .i64 g.blur):=(hb1.cell (p:=⟨w.heap.size,0,none⟩) (by simp)).trans (by simp));(have b1:w1.cell? ⟨w.heap.size,1,none⟩=some (.slice a.pS g.sta.length a.cs):=(hb1.cell (p:=⟨w.heap.size,1,none⟩) (by simp)).trans (by simp));(have b2:w1.cell? ⟨w.heap.size,2,none⟩=some (.slice a.pM g.mov.length a.cm):=(hb1.cell (p:=⟨w.heap.size,2,none⟩) (by simp)).trans (by simp));(have b3:w1.cell? ⟨w.heap.size,3,none⟩=some (.slice a.pZ g.zon.length a.cz):=(hb1.cell (p:=⟨w.heap.size,3,none⟩) (by simp)).trans (by simp)))|(go_at_call 55;refine(rSafeG_c a g i _ hg (HG.out.sx (by simp) (by exact zsx)) HI.out).mono ?_;rintro e w2 ⟨rfl,hb2⟩)|(go_at_call 34;refine(rWhen_c _ _ _).mono ?_;rintro e w' ⟨rfl,rfl⟩))
  go_ret
  exact⟨ret_int hz.out.symm,by exact zbl⟩
 ·have hb':hasB g i=false:=by simpa using hb
  have hz:=zh (show staC g i=10 by unfold staC;rw[if_neg hb])
  go_enter Tryz.func22,Tryz.ntmps22
  go_wp2_with (go_at_call 98;refine(has_r a g i _).mono ?_;rintro e w1 ⟨rfl,hb1⟩)
  go_ret
  exact⟨ret_int hz.out.symm,by exact zbl⟩
theorem lnkL_step{g:Grd}{a b:Int}{k:Nat}{x:Mov}(hk:k<g.mov.length)(hx:x=g.mov[k]){n:Int}(h:Hid (lnkL g a b (g.mov.drop k)=n)):
 (if joins a b x∧movFree g x=true then x.s else lnkL g a b (g.mov.drop (k+1)))=n:=by
 rw[←h.out,List.drop_eq_getElem_cons hk,←hx];rfl
theorem joinsB(a b:Int)(x:Mov):decide (joins a b x)=((x.a==a)&&(x.b==b)||(x.a==b)&&(x.b==a)):=by
 rw[Bool.eq_iff_iff,decide_eq_true_iff];simp[joins]
set_option maxRecDepth 100000 in
set_option maxHeartbeats 8000000 in
theorem rLinked_c(a:GA)(g:Grd)(u v:Int)(w:World)(hg:okG g)(hr:GridR w w.heap.size a g):
 Calls Tryz.prog 113 #[(.agg #[.int .i64 g.blur,.slice a.pS g.sta.length a.cs,.slice a.pM g.mov.length a.cm,.slice a.pZ g.zon.length a.cz]),.int .i64 u,.int .i64 v] w fun e w'=>e=.returned (.int .i64 (lnk g u v))∧Below w.heap.size w w':=by
 have hnm:=hg.nm
 obtain⟨W1,hW1⟩:∃W1,W1=w.alloc (.cells #[.int .i64 g.blur,.slice a.pS g.sta.length a.cs,.slice a.pM g.mov.length a.cm,.slice a.pZ g.zon.length a.cz] 26):=⟨_,rfl⟩
 have hsz:W1.heap.size=w.heap.size+1:=by rw[hW1];simp
 have k0:W1.heap[w.heap.size]? =some (.cells #[.int .i64 g.blur,.slice a.pS g.sta.length a.cs,.slice a.pM g.mov.length a.cm,.slice a.pZ g.zon.length a.cz] 26 (0,0)):=by rw[hW1];exact heap_alloc_new w _
 have hB0:Below w.heap.size w W1:=by rw[hW1];(repeat first|(with_reducible first|assumption|exact Below.refl _ _|refine Bl.drew ?_|refine Bl.drewN ?_ _|refine Bl.alloc ?_ _|refine Bl.set ?_ _ ?_)|(with_reducible apply Bl.step';(focus(with_reducible assumption)))|omega|(focus(simp;done))|(focus(simp;omega)))
 have HG:=zh (hr.sx (Nat.le_refl _) (show Sx w W1 by rw[hW1];exact(Sx.refl w).alloc _))
 (obtain⟨g0,g1,g2,g3⟩:=cg4 k0)
 clear hr k0
 go_enter Tryz.func113,Tryz.ntmps113
 go_wp2_with fail
 rw[←hW1]
 clear hW1
 go_loopw [7] (fun i wr=>∃k:Nat,k≤g.mov.length∧i=.int .i64 k∧Hid (lnkL g u v (g.mov.drop k)=lnk g u v)∧Below W1.heap.size W1 wr) (fun i _=>g.mov.length-(intOf i).toNat)
 case atStart=>exact⟨0,Nat.zero_le _,rfl,zh rfl,Below.refl _ _⟩
 case round=>
  obtain⟨k,hk,rfl,hf,hb⟩:=hrel
  have hsw:=hb.size
  have y0:w.heap.size<wr.heap.size:=by omega
  have d0:=(hb.cell (p:=⟨w.heap.size,0,none⟩) (by show w.heap.size<_;omega)).trans g0
  have d1:=(hb.cell (p:=⟨w.heap.size,1,none⟩) (by show w.heap.size<_;omega)).trans g1
  have d2:=(hb.cell (p:=⟨w.heap.size,2,none⟩) (by show w.heap.size<_;omega)).trans g2
  have d3:=(hb.cell (p:=⟨w.heap.size,3,none⟩) (by show w.heap.size<_;omega)).trans g3
  clear g0 g1 g2 g3
  have hbw:Below w.heap.size w wr:=hB0.trans (hb.mono (by omega))
  by_cases hlt:k<g.mov.length
  ·have hgw:=HG.out.belowB (w0:=W1) hb (Nat.le_refl _)
   obtain⟨x,hx⟩:∃x,x=g.mov[k]:=⟨_,rfl⟩
   obtain⟨b,off,ea,hbl,c0,c1,c2⟩:=hgw.mov.get3 (k:=k) (by simpa using hlt) (by rw[List.getElem_map,←hx];rfl)
   have hst:=lnkL_step hlt hx hf
   have hmo:okM g.sta.length x:=by rw[hx];exact hg.mov _ (List.getElem_mem hlt)
   clear hx
   have HGW:=zh (hgw.more (show W1.heap.size≤wr.heap.size from hb.size))
   have yb:b<wr.heap.size:=by omega
   rw[ea]at d2
   have hN:=fun W (h:GridR W W.heap.size a g)=>rFreeM_c a g x W hg hmo h
   rw[ea]at hN
   clear ea
   have hJ:=joinsB u v x
   cases h1:(x.a==u)
   ·cases h3:(x.a==v)
    ·have hq:¬(joins u v x∧movFree g x=true):=fun h=>by have h5:=hJ.symm.trans (decide_eq_true h.1);clear hJ;simp only[*]at h5;cases h5
     have HQ:=zh (show lnkL g u v (g.mov.drop (k+1))=lnk g u v by have:=hst;rwa [if_neg hq]at this)
     clear hst hq hN hJ hgw
     go_wp2_with fail
     go_roundw
     case rel=>exact⟨k+1,by omega,by go_num,HQ,by exact zbl⟩
     case measure=>simp[intOf];omega
    ·cases h4:(x.b==u)
     ·have hq:¬(joins u v x∧movFree g x=true):=fun h=>by have h5:=hJ.symm.trans (decide_eq_true h.1);clear hJ;simp only[*]at h5;cases h5
      have HQ:=zh (show lnkL g u v (g.mov.drop (k+1))=lnk g u v by have:=hst;rwa [if_neg hq]at this)
      clear hst hq hN hJ hgw
      go_wp2_with fail
      go_roundw
      case rel=>exact⟨k+1,by omega,by go_num,HQ,by exact zbl⟩
      case measure=>simp[intOf];omega
     ·have hq:joins u v x:=of_decide_eq_true (by rw[hJ];simp only[*];rfl)
      cases hp:movFree g x
      ·rw[hp]at hN
       have HQ:=zh (show lnkL g u v (g.mov.drop (k+1))=lnk g u v by have:=hst;rwa [if_neg (fun h=>by rw[hp]at h;cases h.2)]at this)
       have HN:=zh hN
       clear hst hq hN hJ hgw hp
       go_wp2_with (go_at_call 114;refine(HN.out _ (HGW.out.sx (Nat.le_refl _) (by exact zsx))).mono ?_;rintro e w1 ⟨rfl,hb1⟩;(have e2:w1.cell? ⟨wr.heap.size,2,none⟩=some (.int .i64 x.s):=(hb1.cell (p:=⟨wr.heap.size,2,none⟩) (by simp)).trans (by simp)))
       go_roundw
       case rel=>exact⟨k+1,by omega,by go_num,HQ,by exact zbl⟩
       case measure=>simp[intOf];omega
      ·rw[hp]at hN
       have HQ:=zh (show x.s=lnk g u v by have:=hst;rwa [if_pos ⟨hq,hp⟩]at this)
       have HN:=zh hN
       clear hst hq hN hJ hgw hp
       go_wp2_with (go_at_call 114;refine(HN.out _ (HGW.out.sx (Nat.le_refl _) (by exact zsx))).mono ?_;rintro e w1 ⟨rfl,hb1⟩;(have e2:w1.cell? ⟨wr.heap.size,2,none⟩=some (.int .i64 x.s):=(hb1.cell (p:=⟨wr.heap.size,2,none⟩) (by simp)).trans (by simp)))
       go_ret
       exact⟨ret_int HQ.out,by exact zbl⟩
   ·cases h2:(x.b==v)
    ·cases h3:(x.a==v)
     ·have hq:¬(joins u v x∧movFree g x=true):=fun h=>by have h5:=hJ.symm.trans (decide_eq_true h.1);clear hJ;simp only[*]at h5;cases h5
      have HQ:=zh (show lnkL g u v (g.mov.drop (k+1))=lnk g u v by have:=hst;rwa [if_neg hq]at this)
      clear hst hq hN hJ hgw
      go_wp2_with fail
      go_roundw
      case rel=>exact⟨k+1,by omega,by go_num,HQ,by exact zbl⟩
      case measure=>simp[intOf];omega
     ·cases h4:(x.b==u)
      ·have hq:¬(joins u v x∧movFree g x=true):=fun h=>by have h5:=hJ.symm.trans (decide_eq_true h.1);clear hJ;simp only[*]at h5;cases h5
       have HQ:=zh (show lnkL g u v (g.mov.drop (k+1))=lnk g u v by have:=hst;rwa [if_neg hq]at this)
       clear hst hq hN hJ hgw
       go_wp2_with fail
       go_roundw
       case rel=>exact⟨k+1,by omega,by go_num,HQ,by exact zbl⟩
       case measure=>simp[intOf];omega
      ·have hq:joins u v x:=of_decide_eq_true (by rw[hJ];simp only[*];rfl)
       cases hp:movFree g x
       ·rw[hp]at hN
        have HQ:=zh (show lnkL g u v (g.mov.drop (k+1))=lnk g u v by have:=hst;rwa [if_neg (fun h=>by rw[hp]at h;cases h.2)]at this)
        have HN:=zh hN
        clear hst hq hN hJ hgw hp
        go_wp2_with (go_at_call 114;refine(HN.out _ (HGW.out.sx (Nat.le_refl _) (by exact zsx))).mono ?_;rintro e w1 ⟨rfl,hb1⟩;(have e2:w1.cell? ⟨wr.heap.size,2,none⟩=some (.int .i64 x.s):=(hb1.cell (p:=⟨wr.heap.size,2,none⟩) (by simp)).trans (by simp)))
        go_roundw
        case rel=>exact⟨k+1,by omega,by go_num,HQ,by exact zbl⟩
        case measure=>simp[intOf];omega
       ·rw[hp]at hN
        have HQ:=zh (show x.s=lnk g u v by have:=hst;rwa [if_pos ⟨hq,hp⟩]at this)
        have HN:=zh hN
        clear hst hq hN hJ hgw hp
        go_wp2_with (go_at_call 114;refine(HN.out _ (HGW.out.sx (Nat.le_refl _) (by exact zsx))).mono ?_;rintro e w1 ⟨rfl,hb1⟩;(have e2:w1.cell? ⟨wr.heap.size,2,none⟩=some (.int .i64 x.s):=(hb1.cell (p:=⟨wr.heap.size,2,none⟩) (by simp)).trans (by simp)))
        go_ret
        exact⟨ret_int HQ.out,by exact zbl⟩
    ·have hq:joins u v x:=of_decide_eq_true (by rw[hJ];simp only[*];rfl)
     cases hp:movFree g x
     ·rw[hp]at hN
      have HQ:=zh (show lnkL g u v (g.mov.drop (k+1))=lnk g u v by have:=hst;rwa [if_neg (fun h=>by rw[hp]at h;cases h.2)]at this)
      have HN:=zh hN
      clear hst hq hN hJ hgw hp
      go_wp2_with (go_at_call 114;refine(HN.out _ (HGW.out.sx (Nat.le_refl _) (by exact zsx))).mono ?_;rintro e w1 ⟨rfl,hb1⟩;(have e2:w1.cell? ⟨wr.heap.size,2,none⟩=some (.int .i64 x.s):=(hb1.cell (p:=⟨wr.heap.size,2,none⟩) (by simp)).trans (by simp)))
      go_roundw
      case rel=>exact⟨k+1,by omega,by go_num,HQ,by exact zbl⟩
      case measure=>simp[intOf];omega
     ·rw[hp]at hN
      have HQ:=zh (show x.s=lnk g u v by have:=hst;rwa [if_pos ⟨hq,hp⟩]at this)
      have HN:=zh hN
      clear hst hq hN hJ hgw hp
      go_wp2_with (go_at_call 114;refine(HN.out _ (HGW.out.sx (Nat.le_refl _) (by exact zsx))).mono ?_;rintro e w1 ⟨rfl,hb1⟩;(have e2:w1.cell? ⟨wr.heap.size,2,none⟩=some (.int .i64 x.s):=(hb1.cell (p:=⟨wr.heap.size,2,none⟩) (by simp)).trans (by simp)))
      go_ret
      exact⟨ret_int HQ.out,by exact zbl⟩
  ·have hkl:k=g.mov.length:=by omega
   have h0:=hf.out
   rw[hkl,List.drop_length]at h0
   have HQ:=zh h0
   go_wp2_with fail
   go_ret
   exact⟨ret_int HQ.out,by exact zbl⟩
end Go.Proofs.YtehnikhicnnnhaaGreatDoor
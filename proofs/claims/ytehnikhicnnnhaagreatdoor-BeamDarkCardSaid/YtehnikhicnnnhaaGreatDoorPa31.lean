/- The reference's places, blurs, zones, kinds; whether a line touches a zone. | The reference: free, IsSafe, CheckStation. | The reference: SafeMoves, CheckStation, Linked. -/
import Derived.Test.YtehnikhicnnnhaaGreatDoorPa10
import Derived.Test.YtehnikhicnnnhaaGreatDoorPa58
namespace Go.Proofs.YtehnikhicnnnhaaGreatDoor
open Go.RowKit
set_option maxHeartbeats 400000 in
theorem rBlur_c(n:Int)(w:World):
 Calls Tryz.prog 63 #[.int .i64 n] w fun e w'=>e=.returned (.int .i64 (rng n 0 100))∧w=w':=by
 go_enter Tryz.func63,Tryz.ntmps63
 go_wp2_with (go_at_call 99;refine(rRange_c _ _ _ _).mono ?_;rintro e w' ⟨rfl,rfl⟩)
 go_ret
 exact⟨rfl,rfl⟩
set_option maxHeartbeats 600000 in
theorem rPlace_c(x y:Int)(w:World):
 Calls Tryz.prog 64 #[.agg #[.int .i64 x,.int .i64 y]] w fun e w'=>e=.returned (.int .i64 (placeC x y))∧Below w.heap.size w w':=by
 go_enter Tryz.func64,Tryz.ntmps64
 go_wp2_with fail
 go_region_held3 (SSd (w.alloc (.cells #[.int .i64 x,.int .i64 y] 109))) ((refine Sx.goal ?_;exact zsx)) (first|(go_at_call 99;refine(rRange_c _ _ _ _).mono ?_;rintro e w' ⟨rfl,rfl⟩)|(go_at_call 100;refine(rFirst_c _ [rng x 0 1000,rng y 0 1000] _ ?_ ?_).mono ?_;(focus simp);(focus simp[CellsAt]);rintro e w' ⟨rfl,rfl⟩))
 go_wp2
 go_ret
 exact⟨rfl,by exact zbl⟩
def rZoneC(z:Zon):Int:=firstErr [nmC z.name,placeC z.x z.y,rng z.r 0 500]
theorem fE0(l:List Int):firstErr (0::l)=firstErr l:=rfl
theorem fEn{x:Int}(h:x≠0)(l:List Int):firstErr (x::l)=x:=by simp[firstErr,h]
theorem fE1(x:Int):firstErr [x]=x:=by by_cases h:x=0<;>simp[firstErr,h]
theorem rZoneC_eq(z:Zon):rZoneC z=firstErr [nmC z.name,extC z]:=by
 unfold rZoneC extC
 by_cases h1:nmC z.name=0
 ·rw[h1,fE0,fE0,fE1]
 ·rw[fEn h1,fEn h1]
set_option maxHeartbeats 600000 in
theorem rCheckName_c(s:ByteArray)(w:World)(hs:s.size≤100000):
 Calls Tryz.prog 134 #[.string s] w fun e w'=>e=.returned (.int .i64 (nmC s))∧w=w':=by
 cases hp:isNm s
 all_goals
  have HP:=zh (show nmC s=whn (!isNm s) 8 from rfl)
  rw[hp]at HP
  have HN:=zh (rName_c s w hs)
  rw[hp]at HN
  clear hp
  go_enter Tryz.func134,Tryz.ntmps134
  go_wp2_with (first|(go_at_call 96;refine(HN.out).mono ?_;rintro e w' ⟨rfl,rfl⟩)|(go_at_call 34;refine(rWhen_c _ _ _).mono ?_;rintro e w' ⟨rfl,rfl⟩))
  go_ret
  exact⟨ret_int HP.out.symm,rfl⟩
set_option maxHeartbeats 600000 in
theorem rZone_c(z:Zon)(w:World)(hs:z.name.size≤100000):
 Calls Tryz.prog 62 #[.agg #[.string z.name,.int .i64 z.x,.int .i64 z.y,.int .i64 z.r]] w fun e w'=>e=.returned (.int .i64 (rZoneC z))∧Below w.heap.size w w':=by
 go_enter Tryz.func62,Tryz.ntmps62
 go_wp2_with fail
 go_region_held3 (SSd (w.alloc (.cells #[.string z.name,.int .i64 z.x,.int .i64 z.y,.int .i64 z.r] 115))) ((refine Sx.goal ?_;exact zsx)) (first|(go_at_call 134;refine(rCheckName_c _ _ hs).mono ?_;rintro e w' ⟨rfl,rfl⟩)|(go_at_call 64;refine(rPlace_c _ _ _).mono ?_;rintro e w1 ⟨rfl,hb1⟩)|(go_at_call 99;refine(rRange_c _ _ _ _).mono ?_;rintro e w' ⟨rfl,rfl⟩)|(go_at_call 100;refine(rFirst_c _ [nmC z.name,placeC z.x z.y,rng z.r 0 500] _ ?_ ?_).mono ?_;(focus simp);(focus simp[CellsAt]);rintro e w' ⟨rfl,rfl⟩))
 all_goals
  go_wp2
  go_ret
  exact⟨rfl,by exact zbl⟩
theorem kinds_eq:kinds= [⟨#[102,111,99,117,115]⟩,⟨#[115,116,97,110,100,98,121]⟩,⟨#[115,116,111,119]⟩]:=by decide +kernel
theorem memKinds(s:ByteArray):memS kinds s=(s.data.toList== [102,111,99,117,115]||(s.data.toList== [115,116,97,110,100,98,121]||s.data.toList== [115,116,111,119])):=by
 rw[kinds_eq];simp[memS,sEq]
set_option maxHeartbeats 600000 in
theorem rKind_c(s:ByteArray)(w:World):
 Calls Tryz.prog 97 #[.string s] w fun e w'=>e=.returned (.bool (memS kinds s))∧w=w':=by
 have hm:=memKinds s
 rw[←ByteArray.toList_eq]at hm
 cases h1:(s.toList== [102,111,99,117,115])
 ·cases h2:(s.toList== [115,116,97,110,100,98,121])
  ·cases h3:(s.toList== [115,116,111,119])
   all_goals
    rw[h1,h2,h3]at hm
    have HM:=zh hm
    clear hm
    go_enter Tryz.func97,Tryz.ntmps97
    go_wp2
    go_ret
    exact⟨ret_bool HM.out.symm,rfl⟩
  ·rw[h1,h2]at hm
   have HM:=zh hm
   have h2':s.toList= [115,116,97,110,100,98,121]:=by simpa using h2
   clear hm
   go_enter Tryz.func97,Tryz.ntmps97
   go_wp2
   go_ret
   exact⟨ret_bool HM.out.symm,rfl⟩
 ·rw[h1]at hm
  have HM:=zh hm
  clear hm
  go_enter Tryz.func97,Tryz.ntmps97
  go_wp2
  go_ret
  exact⟨ret_bool HM.out.symm,rfl⟩
theorem dot_back(dx dy ux uy:Int):dotI dx dy (ux-dx) (uy-dy)=dotI dx dy ux uy-dotI dx dy dx dy:=by
 unfold dotI;rw[Int.mul_sub,Int.mul_sub];omega
theorem touchB_ref(zx zy r bl ax ay bx by_:Int):touchB zx zy r bl ax ay bx by_=
 (if dotI (bx-ax) (by_-ay) (zx-ax) (zy-ay)≤0 then decide (dotI (zx-ax) (zy-ay) (zx-ax) (zy-ay)≤(r+bl)*(r+bl))
  else if dotI (bx-ax) (by_-ay) (bx-ax) (by_-ay)≤dotI (bx-ax) (by_-ay) (zx-ax) (zy-ay)then decide (dotI (zx-bx) (zy-by_) (zx-bx) (zy-by_)≤(r+bl)*(r+bl))
  else decide (crossI (bx-ax) (by_-ay) (zx-ax) (zy-ay)*crossI (bx-ax) (by_-ay) (zx-ax) (zy-ay)≤(r+bl)*(r+bl)*dotI (bx-ax) (by_-ay) (bx-ax) (by_-ay))):=by
 have e:=dot_back (bx-ax) (by_-ay) (zx-ax) (zy-ay)
 rw[show zx-ax-(bx-ax)=zx-bx by omega,show zy-ay-(by_-ay)=zy-by_ by omega]at e
 simp only[touchB]
 by_cases h1:dotI (bx-ax) (by_-ay) (zx-ax) (zy-ay)≤0
 ·rw[if_pos (.inr h1),if_pos h1]
 ·rw[if_neg h1,if_neg (by
   rintro(h|h)
   ·apply h1
    rw[h.1,h.2,Int.sub_self,Int.sub_self]
    simp[dotI]
   ·exact h1 h)]
  by_cases h2:0≤dotI (bx-ax) (by_-ay) (zx-bx) (zy-by_)
  ·rw[if_pos h2,if_pos (by omega)]
  ·rw[if_neg h2,if_neg (by omega)]
set_option maxRecDepth 100000 in
set_option maxHeartbeats 2000000 in
theorem rTouches_c(nm:ByteArray)(zx zy r bl ax ay bx by_:Int)(w:World)(h1:0≤zx)(h1':zx≤1000)(h2:0≤zy)(h2':zy≤1000)(h3:0≤r)(h3':r≤500)(h4:0≤bl)(h4':bl≤100)
 (h5:0≤ax) (h5':ax≤1000) (h6:0≤ay) (h6':ay≤1000) (h7:0≤bx) (h7':bx≤1000) (h8:0≤by_) (h8':by_≤1000):
  Calls Tryz.prog 67 #[.agg #[.string nm,.int .i64 zx,.int .i64 zy,.int .i64 r],.int .i64 bl,.agg #[.int .i64 ax,.int .i64 ay],.agg #[.int .i64 bx,.int .i64 by_]] w fun e w'=>e=.returned (.bool (touchB zx zy r bl ax ay bx by_))∧Below w.heap.size w w':=by
 obtain⟨m1,m1'⟩:=mul_bd (a:=r+bl) (b:=r+bl) (A:=600) (B:=600) (by omega) (by omega) (by omega) (by omega)
 obtain⟨m2,m2'⟩:=mul_bd (a:=bx-ax) (b:=bx-ax) (A:=1000) (B:=1000) (by omega) (by omega) (by omega) (by omega)
 obtain⟨m3,m3'⟩:=mul_bd (a:=by_-ay) (b:=by_-ay) (A:=1000) (B:=1000) (by omega) (by omega) (by omega) (by omega)
 obtain⟨m4,m4'⟩:=mul_bd (a:=bx-ax) (b:=zx-ax) (A:=1000) (B:=1000) (by omega) (by omega) (by omega) (by omega)
 obtain⟨m5,m5'⟩:=mul_bd (a:=by_-ay) (b:=zy-ay) (A:=1000) (B:=1000) (by omega) (by omega) (by omega) (by omega)
 obtain⟨m6,m6'⟩:=mul_bd (a:=zx-ax) (b:=zx-ax) (A:=1000) (B:=1000) (by omega) (by omega) (by omega) (by omega)
 obtain⟨m7,m7'⟩:=mul_bd (a:=zy-ay) (b:=zy-ay) (A:=1000) (B:=1000) (by omega) (by omega) (by omega) (by omega)
 obtain⟨m8,m8'⟩:=mul_bd (a:=zx-bx) (b:=zx-bx) (A:=1000) (B:=1000) (by omega) (by omega) (by omega) (by omega)
 obtain⟨m9,m9'⟩:=mul_bd (a:=zy-by_) (b:=zy-by_) (A:=1000) (B:=1000) (by omega) (by omega) (by omega) (by omega)
 obtain⟨n1,n1'⟩:=mul_bd (a:=bx-ax) (b:=zy-ay) (A:=1000) (B:=1000) (by omega) (by omega) (by omega) (by omega)
 obtain⟨n2,n2'⟩:=mul_bd (a:=by_-ay) (b:=zx-ax) (A:=1000) (B:=1000) (by omega) (by omega) (by omega) (by omega)
 obtain⟨n3,n3'⟩:=mul_bd (a:=(bx-ax)*(zy-ay)-(by_-ay)*(zx-ax)) (b:=(bx-ax)*(zy-ay)-(by_-ay)*(zx-ax)) (A:=2000000) (B:=2000000) (by omega) (by omega) (by omega) (by omega)
 obtain⟨n4,n4'⟩:=mul_bd (a:=(r+bl)*(r+bl)) (b:=(bx-ax)*(bx-ax)+(by_-ay)*(by_-ay)) (A:=360000) (B:=2000000) (by omega) (by omega) (by omega) (by omega)
 have hT:=touchB_ref zx zy r bl ax ay bx by_
 unfold dotI crossI at hT
 have HT:=zh hT
 clear hT
 by_cases hd:(bx-ax)*(zx-ax)+(by_-ay)*(zy-ay)≤0
 ·have HD:=HT.out
  rw[if_pos hd]at HD
  have HE:=zh HD
  clear HD
  go_enter Tryz.func67,Tryz.ntmps67
  go_wp2_with fail
  go_quiet (fail)
  go_wp2_with fail
  go_quiet (fail)
  go_wp2_with fail
  go_ret
  exact⟨ret_bool HE.out.symm,by exact zbl⟩
 ·by_cases hl:(bx-ax)*(bx-ax)+(by_-ay)*(by_-ay)≤(bx-ax)*(zx-ax)+(by_-ay)*(zy-ay)
  ·have HD:=HT.out
   rw[if_neg hd,if_pos hl]at HD
   have HE:=zh HD
   clear HD
   go_enter Tryz.func67,Tryz.ntmps67
   go_wp2_with fail
   go_quiet (fail)
   go_wp2_with fail
   go_quiet (fail)
   go_wp2_with fail
   go_quiet (fail)
   go_wp2_with fail
   go_ret
   exact⟨ret_bool HE.out.symm,by exact zbl⟩
  ·have HD:=HT.out
   rw[if_neg hd,if_neg hl]at HD
   have HE:=zh HD
   clear HD
   go_enter Tryz.func67,Tryz.ntmps67
   go_wp2_with fail
   go_quiet (fail)
   go_wp2_with fail
   go_quiet (fail)
   go_wp2_with fail
   go_ret
   exact⟨ret_bool HE.out.symm,by exact zbl⟩
theorem any_false_take{α:Type}{p:α→Bool}{l:List α}{k:Nat}(hk:¬k<l.length)(h:∀x∈l.take k,p x=false):l.any p=false:=by
 rw[List.take_of_length_le (by omega)]at h;exact any_none h
set_option maxRecDepth 100000 in
set_option maxHeartbeats 1000000 in
theorem rFree_c(a:GA)(g:Grd)(i j:Nat)(w:World)(hg:okG g)(hr:GridR w w.heap.size a g)(hi:i<g.sta.length)(hj:j<g.sta.length):
 Calls Tryz.prog 114 #[(.agg #[.int .i64 g.blur,.slice a.pS g.sta.length a.cs,.slice a.pM g.mov.length a.cm,.slice a.pZ g.zon.length a.cz]),.int .i64 i,.int .i64 j] w fun e w'=>e=.returned (.bool (freeB g i j))∧Below w.heap.size w w':=by
 have s1:=hg.sta _ (List.getElem_mem hi)
 have s2:=hg.sta _ (List.getElem_mem hj)
 have hns:=hg.ns
 have hnz:=hg.nz
 obtain⟨W1,hW1⟩:∃W1,W1=w.alloc (.cells #[.int .i64 g.blur,.slice a.pS g.sta.length a.cs,.slice a.pM g.mov.length a.cm,.slice a.pZ g.zon.length a.cz] 26):=⟨_,rfl⟩
 have hsz:W1.heap.size=w.heap.size+1:=by rw[hW1];simp
 have k0:W1.heap[w.heap.size]? =some (.cells #[.int .i64 g.blur,.slice a.pS g.sta.length a.cs,.slice a.pM g.mov.length a.cm,.slice a.pZ g.zon.length a.cz] 26 (0,0)):=by rw[hW1];exact heap_alloc_new w _
 have hB0:Below w.heap.size w W1:=by rw[hW1];exact zbl
 have HG:=zh (hr.sx (Nat.le_refl _) (show Sx w W1 by rw[hW1];exact(Sx.refl w).alloc _))
 (obtain⟨g0,g1,g2,g3⟩:=cg4 k0)
 clear hr k0
 have HF:Hid (freeB g i j= !(g.zon.any (touchZ g.blur g.sta[i] g.sta[j]))):=zh (by simp[freeB,hi,hj])
 go_enter Tryz.func114,Tryz.ntmps114
 go_wp2_with fail
 rw[←hW1]
 clear hW1
 go_loopw [7] (fun v wr=>∃k:Nat,k≤g.zon.length∧v=.int .i64 k∧Hid (∀x∈g.zon.take k,touchZ g.blur g.sta[i] g.sta[j] x=false)∧Below W1.heap.size W1 wr) (fun v _=>g.zon.length-(intOf v).toNat)
 case atStart=>exact⟨0,Nat.zero_le _,rfl,zh (by simp),Below.refl _ _⟩
 case round=>
  obtain⟨k,hk,rfl,hf,hb⟩:=hrel
  have hsw:=hb.size
  have y0:w.heap.size<wr.heap.size:=by omega
  have d0:=(hb.cell (p:=⟨w.heap.size,0,none⟩) (by show w.heap.size<_;omega)).trans g0
  have d1:=(hb.cell (p:=⟨w.heap.size,1,none⟩) (by show w.heap.size<_;omega)).trans g1
  have d2:=(hb.cell (p:=⟨w.heap.size,2,none⟩) (by show w.heap.size<_;omega)).trans g2
  have d3:=(hb.cell (p:=⟨w.heap.size,3,none⟩) (by show w.heap.size<_;omega)).trans g3
  clear g0 g1 g2 g3
  have hbw:Below w.heap.size w wr:=hB0.trans (hb.mono (by omega))
  by_cases hlt:k<g.zon.length
  ·have hgw:=HG.out.belowB (w0:=W1) hb (Nat.le_refl _)
   obtain⟨b,off,ea,hbl,c0,c1,c2,c3⟩:=hgw.sta.get4 (k:=i) (by simpa using hi) (by rw[List.getElem_map];rfl)
   obtain⟨b',off',ea',hbl',e0,e1,e2,e3⟩:=hgw.sta.get4 (k:=j) (by simpa using hj) (by rw[List.getElem_map];rfl)
   rw[ea]at ea'
   injection ea' with ea'
   injection ea' with q1 q2
   subst q1 q2
   obtain⟨bz,offz,eaz,hbz,z0,z1,z2,z3⟩:=hgw.zon.get4 (k:=k) (by simpa using hlt) (by rw[List.getElem_map];rfl)
   rw[ea]at d1
   rw[eaz]at d3
   clear hgw ea eaz
   have hz:=hg.zon _ (List.getElem_mem hlt)
   have yb:b<wr.heap.size:=by omega
   have yz:bz<wr.heap.size:=by omega
   have hN:=fun W=>rTouches_c g.zon[k].name g.zon[k].x g.zon[k].y g.zon[k].r g.blur g.sta[i].x g.sta[i].y g.sta[j].x g.sta[j].y W hz.x0 hz.x1 hz.y0 hz.y1 hz.r0 hz.r1 hg.b0 hg.b1 s1.x0 s1.x1 s1.y0 s1.y1 s2.x0 s2.x1 s2.y0 s2.y1
   cases hp:touchZ g.blur g.sta[i] g.sta[j] g.zon[k]
   ·have hp2:=hp
    unfold touchZ at hp2
    rw[hp2]at hN
    have HN:=zh hN
    have HP:=zh hp
    clear hN hp hp2
    go_wp2_with fail
    go_region_held3 (SSd wr) ((refine Sx.goal ?_;exact zsx)) (first|(go_at_call 67;refine(HN.out _).mono ?_;rintro e w1 ⟨rfl,hb1⟩))
    all_goals
     go_wp2_with fail
     go_roundw
     case rel=>exact⟨k+1,by omega,by go_num,zh (take_all hlt hf.out HP.out),by exact zbl⟩
     case measure=>simp[intOf];omega
   ·have hp2:=hp
    unfold touchZ at hp2
    rw[hp2]at hN
    have HN:=zh hN
    have HP:=zh hp
    clear hN hp hp2
    go_wp2_with fail
    go_region_held3 (SSd wr) ((refine Sx.goal ?_;exact zsx)) (first|(go_at_call 67;refine(HN.out _).mono ?_;rintro e w1 ⟨rfl,hb1⟩))
    all_goals
     go_wp2_with fail
     go_ret
     exact⟨ret_bool (by rw[HF.out,any_at hlt HP.out];rfl),by exact zbl⟩
  ·go_wp2_with fail
   go_ret
   exact⟨ret_bool (by rw[HF.out,any_false_take hlt hf.out];rfl),by exact zbl⟩
set_option maxHeartbeats 400000 in
theorem rSafe_c(a:GA)(g:Grd)(i:Nat)(w:World)(hg:okG g)(hr:GridR w w.heap.size a g)(hi:i<g.sta.length):
 Calls Tryz.prog 55 #[(.agg #[.int .i64 g.blur,.slice a.pS g.sta.length a.cs,.slice a.pM g.mov.length a.cm,.slice a.pZ g.zon.length a.cz]),.int .i64 i] w fun e w'=>e=.returned (.bool (freeB g i i))∧Below w.heap.size w w':=by
 have HR:=zh hr;clear hr
 go_enter Tryz.func55,Tryz.ntmps55
 go_wp2_with (go_at_call 114;refine(rFree_c a g i i _ hg ((HR.out.belowB (w0:=w) (by exact zbl) (Nat.le_refl _)).more (by simp)) hi hi).mono ?_;rintro e w' ⟨rfl,hb⟩)
 go_ret
 exact⟨rfl,by exact zbl⟩
theorem rFreeM_c(a:GA)(g:Grd)(m:Mov)(w:World)(hg:okG g)(hm:okM g.sta.length m)(hr:GridR w w.heap.size a g):
 Calls Tryz.prog 114 #[(.agg #[.int .i64 g.blur,.slice a.pS g.sta.length a.cs,.slice a.pM g.mov.length a.cm,.slice a.pZ g.zon.length a.cz]),.int .i64 m.a,.int .i64 m.b] w fun e w'=>e=.returned (.bool (movFree g m))∧Below w.heap.size w w':=by
 obtain⟨i,hi⟩:=Int.eq_ofNat_of_zero_le hm.a0
 obtain⟨j,hj⟩:=Int.eq_ofNat_of_zero_le (Int.le_of_lt (Int.lt_of_le_of_lt hm.a0 hm.ab))
 have h1:=hm.ab
 have h2:=hm.bn
 have e:movFree g m=freeB g i j:=by simp[movFree,hi,hj]
 rw[e,hi,hj]
 exact rFree_c a g i j w hg hr (by omega) (by omega)
set_option maxHeartbeats 1000000 in
theorem rSafeG_c(a:GA)(g:Grd)(i:Int)(w:World)(hg:okG g)(hr:GridR w w.heap.size a g)(hi:0≤i∧i<g.sta.length):
 Calls Tryz.prog 55 #[(.agg #[.int .i64 g.blur,.slice a.pS g.sta.length a.cs,.slice a.pM g.mov.length a.cm,.slice a.pZ g.zon.length a.cz]),.int .i64 i] w fun e w'=>e=.returned (.bool (isSafeG g i))∧Below w.heap.size w w':=by
 obtain⟨k,rfl⟩:=Int.eq_ofNat_of_zero_le hi.1
 exact rSafe_c a g k w hg hr (by omega)
set_option maxHeartbeats 1000000 in
theorem rStation_c(a:GA)(g:Grd)(i:Int)(w:World)(hg:okG g)(hr:GridR w w.heap.size a g):
 Calls Tryz.prog 22 #[(.agg #[.int .i64 g.blur,.slice a.pS g.sta.length a.cs,.slice a.pM g.mov.length a.cm,.slice a.pZ g.zon.length a.cz]),.int .i64 i] w fun e w'=>e=.returned (.int .i64 (staC g i))∧Below w.heap.size w w':=by
 have HG:=zh (hr.sx (Nat.le_refl _) ((Sx.refl w).alloc (.cells #[.int .i64 g.blur,.slice a.pS g.sta.length a.cs,.slice a.pM g.mov.length a.cm,.slice a.pZ g.zon.length a.cz] 26)))
 clear hr
 by_cases hb:hasB g i=true
 ·have HI:=zh (hasB_iffG.1 hb)
  have hz:=zh (show staC g i=whn (!isSafeG g i) 31 by unfold staC;rw[if_pos hb])
  go_enter Tryz.func22,Tryz.ntmps22
  go_wp2_with (first|(go_at_call 98;refine(has_r a g i _).mono ?_;rintro e w1 ⟨rfl,hb1⟩;(have b0:w1.cell? ⟨w.heap.size,0,none⟩=some (.int .i64 g.blur):=(hb1.cell (p:=⟨w.heap.size,0,none⟩) (by simp)).trans (by simp));(have b1:w1.cell? ⟨w.heap.size,1,none⟩=some (.slice a.pS g.sta.length a.cs):=(hb1.cell (p:=⟨w.heap.size,1,none⟩) (by simp)).trans (by simp));(have b2:w1.cell? ⟨w.heap.size,2,none⟩=some (.slice a.pM g.mov.length a.cm):=(hb1.cell (p:=⟨w.heap.size,2,none⟩) (by simp)).trans (by simp));(have b3:w1.cell? ⟨w.heap.size,3,none⟩=some (.slice a.pZ g.zon.length a.cz):=(hb1.cell (p:=⟨w.heap.size,3,none⟩) (by simp)).trans (by simp)))|(go_at_call 55;refine(rSafeG_c a g i _ hg (HG.out.sx (by simp) (by exact zsx)) HI.out).mono ?_;rintro e w2 ⟨rfl,hb2⟩)|(go_at_call 34;refine(rWhen_c _ _ _).mono ?_;rintro e w' ⟨rfl,rfl⟩))
  go_ret
  exact⟨ret_int hz.out.symm,by exact zbl⟩
 ·have hb':hasB g i=false:=by simpa using hb
  have hz:=zh (show staC g i=10 by unfold staC;rw[if_neg hb])
  go_enter Tryz.func22,Tryz.ntmps22
  go_wp2_with (go_at_call 98;refine(has_r a g i _).mono ?_;rintro e w1 ⟨rfl,hb1⟩)
  go_ret
  exact⟨ret_int hz.out.symm,by exact zbl⟩
theorem lnkL_step{g:Grd}{a b:Int}{k:Nat}{x:Mov}(hk:k<g.mov.length)(hx:x=g.mov[k]){n:Int}(h:Hid (lnkL g a b (g.mov.drop k)=n)):
 (if joins a b x∧movFree g x=true then x.s else lnkL g a b (g.mov.drop (k+1)))=n:=by
 rw[←h.out,List.drop_eq_getElem_cons hk,←hx];rfl
theorem joinsB(a b:Int)(x:Mov):decide (joins a b x)=((x.a==a)&&(x.b==b)||(x.a==b)&&(x.b==a)):=by
 rw[Bool.eq_iff_iff,decide_eq_true_iff];simp[joins]
set_option maxRecDepth 100000 in
set_option maxHeartbeats 8000000 in
theorem rLinked_c(a:GA)(g:Grd)(u v:Int)(w:World)(hg:okG g)(hr:GridR w w.heap.size a g):
 Calls Tryz.prog 113 #[(.agg #[.int .i64 g.blur,.slice a.pS g.sta.length a.cs,.slice a.pM g.mov.length a.cm,.slice a.pZ g.zon.length a.cz]),.int .i64 u,.int .i64 v] w fun e w'=>e=.returned (.int .i64 (lnk g u v))∧Below w.heap.size w w':=by
 have hnm:=hg.nm
 obtain⟨W1,hW1⟩:∃W1,W1=w.alloc (.cells #[.int .i64 g.blur,.slice a.pS g.sta.length a.cs,.slice a.pM g.mov.length a.cm,.slice a.pZ g.zon.length a.cz] 26):=⟨_,rfl⟩
 have hsz:W1.heap.size=w.heap.size+1:=by rw[hW1];simp
 have k0:W1.heap[w.heap.size]? =some (.cells #[.int .i64 g.blur,.slice a.pS g.sta.length a.cs,.slice a.pM g.mov.length a.cm,.slice a.pZ g.zon.length a.cz] 26 (0,0)):=by rw[hW1];exact heap_alloc_new w _
 have hB0:Below w.heap.size w W1:=by rw[hW1];exact zbl
 have HG:=zh (hr.sx (Nat.le_refl _) (show Sx w W1 by rw[hW1];exact(Sx.refl w).alloc _))
 (obtain⟨g0,g1,g2,g3⟩:=cg4 k0)
 clear hr k0
 go_enter Tryz.func113,Tryz.ntmps113
 go_wp2_with fail
 rw[←hW1]
 clear hW1
 go_loopw [7] (fun i wr=>∃k:Nat,k≤g.mov.length∧i=.int .i64 k∧Hid (lnkL g u v (g.mov.drop k)=lnk g u v)∧Below W1.heap.size W1 wr) (fun i _=>g.mov.length-(intOf i).toNat)
 case atStart=>exact⟨0,Nat.zero_le _,rfl,zh rfl,Below.refl _ _⟩
 case round=>
  obtain⟨k,hk,rfl,hf,hb⟩:=hrel
  have hsw:=hb.size
  have y0:w.heap.size<wr.heap.size:=by omega
  have d0:=(hb.cell (p:=⟨w.heap.size,0,none⟩) (by show w.heap.size<_;omega)).trans g0
  have d1:=(hb.cell (p:=⟨w.heap.size,1,none⟩) (by show w.heap.size<_;omega)).trans g1
  have d2:=(hb.cell (p:=⟨w.heap.size,2,none⟩) (by show w.heap.size<_;omega)).trans g2
  have d3:=(hb.cell (p:=⟨w.heap.size,3,none⟩) (by show w.heap.size<_;omega)).trans g3
  clear g0 g1 g2 g3
  have hbw:Below w.heap.size w wr:=hB0.trans (hb.mono (by omega))
  by_cases hlt:k<g.mov.length
  ·have hgw:=HG.out.belowB (w0:=W1) hb (Nat.le_refl _)
   obtain⟨x,hx⟩:∃x,x=g.mov[k]:=⟨_,rfl⟩
   obtain⟨b,off,ea,hbl,c0,c1,c2⟩:=hgw.mov.get3 (k:=k) (by simpa using hlt) (by rw[List.getElem_map,←hx];rfl)
   have hst:=lnkL_step hlt hx hf
   have hmo:okM g.sta.length x:=by rw[hx];exact hg.mov _ (List.getElem_mem hlt)
   clear hx
   have HGW:=zh (hgw.more (show W1.heap.size≤wr.heap.size from hb.size))
   have yb:b<wr.heap.size:=by omega
   rw[ea]at d2
   have hN:=fun W (h:GridR W W.heap.size a g)=>rFreeM_c a g x W hg hmo h
   rw[ea]at hN
   clear ea
   have hJ:=joinsB u v x
   cases h1:(x.a==u)
   ·cases h3:(x.a==v)
    ·have hq:¬(joins u v x∧movFree g x=true):=fun h=>by have h5:=hJ.symm.trans (decide_eq_true h.1);clear hJ;simp only[*]at h5;cases h5
     have HQ:=zh (show lnkL g u v (g.mov.drop (k+1))=lnk g u v by have:=hst;rwa [if_neg hq]at this)
     clear hst hq hN hJ hgw
     go_wp2_with fail
     go_roundw
     case rel=>exact⟨k+1,by omega,by go_num,HQ,by exact zbl⟩
     case measure=>simp[intOf];omega
    ·cases h4:(x.b==u)
     ·have hq:¬(joins u v x∧movFree g x=true):=fun h=>by have h5:=hJ.symm.trans (decide_eq_true h.1);clear hJ;simp only[*]at h5;cases h5
      have HQ:=zh (show lnkL g u v (g.mov.drop (k+1))=lnk g u v by have:=hst;rwa [if_neg hq]at this)
      clear hst hq hN hJ hgw
      go_wp2_with fail
      go_roundw
      case rel=>exact⟨k+1,by omega,by go_num,HQ,by exact zbl⟩
      case measure=>simp[intOf];omega
     ·have hq:joins u v x:=of_decide_eq_true (by rw[hJ];simp only[*];rfl)
      cases hp:movFree g x
      ·rw[hp]at hN
       have HQ:=zh (show lnkL g u v (g.mov.drop (k+1))=lnk g u v by have:=hst;rwa [if_neg (fun h=>by rw[hp]at h;cases h.2)]at this)
       have HN:=zh hN
       clear hst hq hN hJ hgw hp
       go_wp2_with (go_at_call 114;refine(HN.out _ (HGW.out.sx (Nat.le_refl _) (by exact zsx))).mono ?_;rintro e w1 ⟨rfl,hb1⟩;(have e2:w1.cell? ⟨wr.heap.size,2,none⟩=some (.int .i64 x.s):=(hb1.cell (p:=⟨wr.heap.size,2,none⟩) (by simp)).trans (by simp)))
       go_roundw
       case rel=>exact⟨k+1,by omega,by go_num,HQ,by exact zbl⟩
       case measure=>simp[intOf];omega
      ·rw[hp]at hN
       have HQ:=zh (show x.s=lnk g u v by have:=hst;rwa [if_pos ⟨hq,hp⟩]at this)
       have HN:=zh hN
       clear hst hq hN hJ hgw hp
       go_wp2_with (go_at_call 114;refine(HN.out _ (HGW.out.sx (Nat.le_refl _) (by exact zsx))).mono ?_;rintro e w1 ⟨rfl,hb1⟩;(have e2:w1.cell? ⟨wr.heap.size,2,none⟩=some (.int .i64 x.s):=(hb1.cell (p:=⟨wr.heap.size,2,none⟩) (by simp)).trans (by simp)))
       go_ret
       exact⟨ret_int HQ.out,by exact zbl⟩
   ·cases h2:(x.b==v)
    ·cases h3:(x.a==v)
     ·have hq:¬(joins u v x∧movFree g x=true):=fun h=>by have h5:=hJ.symm.trans (decide_eq_true h.1);clear hJ;simp only[*]at h5;cases h5
      have HQ:=zh (show lnkL g u v (g.mov.drop (k+1))=lnk g u v by have:=hst;rwa [if_neg hq]at this)
      clear hst hq hN hJ hgw
      go_wp2_with fail
      go_roundw
      case rel=>exact⟨k+1,by omega,by go_num,HQ,by exact zbl⟩
      case measure=>simp[intOf];omega
     ·cases h4:(x.b==u)
      ·have hq:¬(joins u v x∧movFree g x=true):=fun h=>by have h5:=hJ.symm.trans (decide_eq_true h.1);clear hJ;simp only[*]at h5;cases h5
       have HQ:=zh (show lnkL g u v (g.mov.drop (k+1))=lnk g u v by have:=hst;rwa [if_neg hq]at this)
       clear hst hq hN hJ hgw
       go_wp2_with fail
       go_roundw
       case rel=>exact⟨k+1,by omega,by go_num,HQ,by exact zbl⟩
       case measure=>simp[intOf];omega
      ·have hq:joins u v x:=of_decide_eq_true (by rw[hJ];simp only[*];rfl)
       cases hp:movFree g x
       ·rw[hp]at hN
        have HQ:=zh (show lnkL g u v (g.mov.drop (k+1))=lnk g u v by have:=hst;rwa [if_neg (fun h=>by rw[hp]at h;cases h.2)]at this)
        have HN:=zh hN
        clear hst hq hN hJ hgw hp
        go_wp2_with (go_at_call 114;refine(HN.out _ (HGW.out.sx (Nat.le_refl _) (by exact zsx))).mono ?_;rintro e w1 ⟨rfl,hb1⟩;(have e2:w1.cell? ⟨wr.heap.size,2,none⟩=some (.int .i64 x.s):=(hb1.cell (p:=⟨wr.heap.size,2,none⟩) (by simp)).trans (by simp)))
        go_roundw
        case rel=>exact⟨k+1,by omega,by go_num,HQ,by exact zbl⟩
        case measure=>simp[intOf];omega
       ·rw[hp]at hN
        have HQ:=zh (show x.s=lnk g u v by have:=hst;rwa [if_pos ⟨hq,hp⟩]at this)
        have HN:=zh hN
        clear hst hq hN hJ hgw hp
        go_wp2_with (go_at_call 114;refine(HN.out _ (HGW.out.sx (Nat.le_refl _) (by exact zsx))).mono ?_;rintro e w1 ⟨rfl,hb1⟩;(have e2:w1.cell? ⟨wr.heap.size,2,none⟩=some (.int .i64 x.s):=(hb1.cell (p:=⟨wr.heap.size,2,none⟩) (by simp)).trans (by simp)))
        go_ret
        exact⟨ret_int HQ.out,by exact zbl⟩
    ·have hq:joins u v x:=of_decide_eq_true (by rw[hJ];simp only[*];rfl)
     cases hp:movFree g x
     ·rw[hp]at hN
      have HQ:=zh (show lnkL g u v (g.mov.drop (k+1))=lnk g u v by have:=hst;rwa [if_neg (fun h=>by rw[hp]at h;cases h.2)]at this)
      have HN:=zh hN
      clear hst hq hN hJ hgw hp
      go_wp2_with (go_at_call 114;refine(HN.out _ (HGW.out.sx (Nat.le_refl _) (by exact zsx))).mono ?_;rintro e w1 ⟨rfl,hb1⟩;(have e2:w1.cell? ⟨wr.heap.size,2,none⟩=some (.int .i64 x.s):=(hb1.cell (p:=⟨wr.heap.size,2,none⟩) (by simp)).trans (by simp)))
      go_roundw
      case rel=>exact⟨k+1,by omega,by go_num,HQ,by exact zbl⟩
      case measure=>simp[intOf];omega
     ·rw[hp]at hN
      have HQ:=zh (show x.s=lnk g u v by have:=hst;rwa [if_pos ⟨hq,hp⟩]at this)
      have HN:=zh hN
      clear hst hq hN hJ hgw hp
      go_wp2_with (go_at_call 114;refine(HN.out _ (HGW.out.sx (Nat.le_refl _) (by exact zsx))).mono ?_;rintro e w1 ⟨rfl,hb1⟩;(have e2:w1.cell? ⟨wr.heap.size,2,none⟩=some (.int .i64 x.s):=(hb1.cell (p:=⟨wr.heap.size,2,none⟩) (by simp)).trans (by simp)))
      go_ret
      exact⟨ret_int HQ.out,by exact zbl⟩
  ·have hkl:k=g.mov.length:=by omega
   have h0:=hf.out
   rw[hkl,List.drop_length]at h0
   have HQ:=zh h0
   go_wp2_with fail
   go_ret
   exact⟨ret_int HQ.out,by exact zbl⟩
end Go.Proofs.YtehnikhicnnnhaaGreatDoor
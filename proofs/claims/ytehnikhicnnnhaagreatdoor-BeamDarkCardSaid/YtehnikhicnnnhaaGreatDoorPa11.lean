/- Homes, Steps. | Steps. | CheckBarrier. -/
import Derived.Test.YtehnikhicnnnhaaGreatDoorPa10
namespace Go.Proofs.YtehnikhicnnnhaaGreatDoor
open Go.RowKit
def homesK(g:Grd)(k:Nat):List Int:=(List.range k).map fun i=>homeG g (i:Nat)
theorem homesK_succ(g:Grd)(k:Nat):homesK g (k+1)=homesK g k++ [homeG g (k:Nat)]:=by
 unfold homesK;rw[List.range_succ,List.map_append];rfl
theorem homesK_len(g:Grd)(k:Nat):(homesK g k).length=k:=by unfold homesK;simp
def homesL(g:Grd):List Int:=if gridC g=0 then homesK g g.sta.length else []
set_option maxRecDepth 100000 in
set_option maxHeartbeats 2000000 in
theorem Homes_c(a:GA)(g:Grd)(w:World)(hs:SmallG g)(hr:GridR w w.heap.size a g)(hkd:KindsAt w):
 Calls Tryz.prog 20 #[(.agg #[.int .i64 g.blur,.slice a.pS g.sta.length a.cs,.slice a.pM g.mov.length a.cm,.slice a.pZ g.zon.length a.cz])] w fun e w'=>∃v,e=.returned (.tuple #[v,.int .i64 (gridC g)])∧OwnI w' w.heap.size v (homesL g)∧Below w.heap.size w w':=by
 obtain⟨i0,hi,hz0,hz1,hz2⟩:=info_parts Tryz.infoInt
 have HG:=zh (hr.sx (Nat.le_refl _) ((Sx.refl w).alloc (.cells #[.int .i64 g.blur,.slice a.pS g.sta.length a.cs,.slice a.pM g.mov.length a.cm,.slice a.pZ g.zon.length a.cz] 38)))
 have HK:=zh (hkd.sx ((Sx.refl w).alloc (.cells #[.int .i64 g.blur,.slice a.pS g.sta.length a.cs,.slice a.pM g.mov.length a.cm,.slice a.pZ g.zon.length a.cz] 38)))
 clear hr hkd
 by_cases he:gridC g=0
 ·have hz1':(gridC g !=0)=false:=by rw[bne_eq_false_iff_eq];exact he
  have hhl:=zh (show homesL g=homesK g g.sta.length by unfold homesL;rw[if_pos he])
  have HE:=zh he;clear he
  have hok:=gridC_ok HE.out
  have hns:=hok.ns
  have hu:=gridC_uniq HE.out
  go_enter Tryz.func20,Tryz.ntmps20
  go_wp2_with (go_at_call 66;refine(CheckGrid_c a g _ hs HG.out HK.out).mono ?_;rintro e w1 ⟨rfl,hb1⟩;(have b0:w1.cell? ⟨w.heap.size,0,none⟩=some (.int .i64 g.blur):=(hb1.cell (p:=⟨w.heap.size,0,none⟩) (by first|(simp;done)|(simp;omega)|(show w.heap.size<_;omega))).trans (by first|assumption|(simp;done)));(have b1:w1.cell? ⟨w.heap.size,1,none⟩=some (.slice a.pS g.sta.length a.cs):=(hb1.cell (p:=⟨w.heap.size,1,none⟩) (by first|(simp;done)|(simp;omega)|(show w.heap.size<_;omega))).trans (by first|assumption|(simp;done)));(have b2:w1.cell? ⟨w.heap.size,2,none⟩=some (.slice a.pM g.mov.length a.cm):=(hb1.cell (p:=⟨w.heap.size,2,none⟩) (by first|(simp;done)|(simp;omega)|(show w.heap.size<_;omega))).trans (by first|assumption|(simp;done)));(have b3:w1.cell? ⟨w.heap.size,3,none⟩=some (.slice a.pZ g.zon.length a.cz):=(hb1.cell (p:=⟨w.heap.size,3,none⟩) (by first|(simp;done)|(simp;omega)|(show w.heap.size<_;omega))).trans (by first|assumption|(simp;done))))
  have HG1:=zh (HG.out.sx (W:=w1) (Nat.le_refl _) (by exact zsx))
  have hb1':Below w.heap.size w w1:=by exact zbl
  have hs1:=hb1.size
  simp at hs1
  go_loopw [5,15] (fun v i wr=>∃k:Nat,k≤g.sta.length∧i=.int .i64 k∧OwnI wr w1.heap.size v (homesK g k)∧Below w1.heap.size w1 wr) (fun _ i _=>g.sta.length-(intOf i).toNat)
  case atStart=>exact⟨0,Nat.zero_le _,rfl,OwnI.nil_ _ _,Below.refl _ _⟩
  case round=>
   obtain⟨k,hk,rfl,hown,hb⟩:=hrel
   have hbs:=hb.size
   have d0:=(hb.cell (p:=⟨w.heap.size,0,none⟩) (by show w.heap.size<_;omega)).trans b0
   have d1:=(hb.cell (p:=⟨w.heap.size,1,none⟩) (by show w.heap.size<_;omega)).trans b1
   have d2:=(hb.cell (p:=⟨w.heap.size,2,none⟩) (by show w.heap.size<_;omega)).trans b2
   have d3:=(hb.cell (p:=⟨w.heap.size,3,none⟩) (by show w.heap.size<_;omega)).trans b3
   clear b0 b1 b2 b3
   by_cases hlt:k<g.sta.length
   ·obtain⟨hl,hhl2⟩:∃hl,hl=homesK g k:=⟨_,rfl⟩
    have hln:hl.length≤1000:=by rw[hhl2,homesK_len];omega
    rw[←hhl2]at hown
    have HHL:=zh hhl2
    clear hhl2
    go_wp2_with (first|(go_at_call 95;refine(home_c a g k _ hok hu (by omega) ((HG1.out.belowB (w0:=w1) hb (Nat.le_refl _)).more hbs)).mono ?_;rintro e w2 ⟨rfl,hb2⟩)|(at_builtin;refine wpList_append_own _ rfl _ _ 30 rfl w1.heap.size 3 i0 (.int .i64 0) 1 8 Tryz.underlying30 hi hz0 hz1 hz2 rfl (by decide) _ _ _ rfl ((hown.below hb2).alloc _) ⟨w2.heap.size,0,none⟩ 1 1 [.int .i64 (homeG g k)] rfl rfl ?c1 ?c2 ?c3 ?c4 ?c5 ?_))
    case c1=>
     intro j u hj
     match j,hj with
     |0,hj=>simp at hj;subst hj;simp[Addr.add,cells_new]
    case c2=>intro u hu;simp at hu;subst hu;rfl
    case c3=>unfold maxLen;omega
    case c4=>omega
    case c5=>have:=hb2.size;simp;omega
    intro v' w4 hown' hgrow _
    go_wp2_with fail
    go_roundw
    case rel=>exact⟨k+1,by omega,by go_num,by rw[homesK_succ,←HHL.out];exact OwnI.app hown',Below.grown (by exact zbl) hgrow (by have:=hb2.size;simp;omega) (fun j e=>(World.ownsRow.lt hown j e).1)⟩
    case measure=>simp[intOf];omega
   ·have hkl:k=g.sta.length:=by omega
    subst hkl
    go_wp2_with fail
    go_ret2
    exact⟨_,by rw[HE.out];rfl,by rw[hhl.out];exact hown.mono (by omega),hb1'.trans (hb.mono (by omega))⟩
 ·have hz1':(gridC g !=0)=true:=by rw[bne_iff_ne];exact he
  have hhl:=zh (show homesL g= [] by unfold homesL;rw[if_neg he])
  have HE:=zh he;clear he
  go_enter Tryz.func20,Tryz.ntmps20
  go_wp2_with (go_at_call 66;refine(CheckGrid_c a g _ hs HG.out HK.out).mono ?_;rintro e w1 ⟨rfl,hb1⟩)
  go_ret2
  exact⟨_,rfl,by rw[hhl.out];exact OwnI.nil_ _ _,by exact zbl⟩
set_option maxHeartbeats 1000000 in
theorem stepsF_c(a:GA)(g:Grd)(x:Int)(Bg:Nat)(w:World)(h0:w.cell? ⟨Bg,0,none⟩=some (.int .i64 g.blur))(h1:w.cell? ⟨Bg,1,none⟩=some (.slice a.pS g.sta.length a.cs))(h2:w.cell? ⟨Bg,2,none⟩=some (.slice a.pM g.mov.length a.cm))(h3:w.cell? ⟨Bg,3,none⟩=some (.slice a.pZ g.zon.length a.cz)):
 Calls Tryz.prog 106 #[.int .i64 x,.pointer (some ⟨Bg,0,none⟩)] w fun e w'=>e=.returned (.bool (!hasB g x))∧Below w.heap.size w w':=by
 go_enter Tryz.func106,Tryz.ntmps106
 go_wp2_with (go_at_call 107;refine(has_c a g x _).mono ?_;rintro e w1 ⟨rfl,hb1⟩)
 go_ret
 exact⟨rfl,by exact zbl⟩
theorem enters_st(args:Array Value)(w:World):(callFunc 106 args).run Tryz.prog w=.ok (.enter 106 args) w:=
 enters_of Tryz.func106 (by kernel_rfl) rfl args w
theorem notHas_c(a:GA)(g:Grd)(A:Option Addr)(xs:List Int)(c:Nat)(Bg:Nat)(w:World)(hl:xs.length≤1000)(hx:IntsR w w.heap.size A xs)(hBg:Bg<w.heap.size)(h0:w.cell? ⟨Bg,0,none⟩=some (.int .i64 g.blur))(h1:w.cell? ⟨Bg,1,none⟩=some (.slice a.pS g.sta.length a.cs))(h2:w.cell? ⟨Bg,2,none⟩=some (.slice a.pM g.mov.length a.cm))(h3:w.cell? ⟨Bg,3,none⟩=some (.slice a.pZ g.zon.length a.cz)):
 Calls Tryz.prog 105 #[.slice A xs.length c,.func (.func 106) #[] #[.pointer (some ⟨Bg,0,none⟩)]] w fun e w'=>e=.returned (.bool (xs.any fun x=> !hasB g x))∧Below w.heap.size w w':=by
 refine hasInt_c (fun x:Int=> [Value.int .i64 x]) (fun x=> !hasB g x) 106 #[.pointer (some ⟨Bg,0,none⟩)] A xs c w hl enters_st hx (fun x _=>⟨_,rfl⟩) ?_
 intro x _ v0 hv W hW
 simp only[List.cons.injEq,and_true]at hv
 subst hv
 exact stepsF_c a g x Bg W ((hW.cell (p:=⟨Bg,0,none⟩) hBg).trans h0) ((hW.cell (p:=⟨Bg,1,none⟩) hBg).trans h1) ((hW.cell (p:=⟨Bg,2,none⟩) hBg).trans h2) ((hW.cell (p:=⟨Bg,3,none⟩) hBg).trans h3)
def sumW(g:Grd):Int→List Int→Option Int
 |_,[]=>some 0
 |at_,t::l=>if lnk g at_ t=0 then none else(sumW g t l).map (lnk g at_ t+ ·)
def stepsE0(g:Grd)(l:List Int):Int:=firstErr [gridC g,whn ((l.length:Int)==0) 12,whn (decide ((40:Int)<l.length)) 5]
def stepsR(g:Grd)(l:List Int):Int×Int:=
 if stepsE0 g l≠0 then(0,stepsE0 g l)
 else if l.any (fun x=> !hasB g x)then(0,10)
 else if isSafeG g (l.headD 0)then(match sumW g (l.headD 0) l.tail with|none=>(0,21)|some n=>(n,0))else(0,31)
set_option maxRecDepth 100000 in
set_option maxHeartbeats 2000000 in
theorem Steps_c(a:GA)(g:Grd)(A:Option Addr)(xs:List Int)(c:Nat)(w:World)(hs:SmallG g)(hr:GridR w w.heap.size a g)(hkd:KindsAt w)(hx:IntsR w w.heap.size A xs)(hl:xs.length≤1000):
 Calls Tryz.prog 29 #[(.agg #[.int .i64 g.blur,.slice a.pS g.sta.length a.cs,.slice a.pM g.mov.length a.cm,.slice a.pZ g.zon.length a.cz]),.slice A xs.length c] w fun e w'=>e=.returned (.tuple #[.int .i64 (stepsR g xs).1,.int .i64 (stepsR g xs).2])∧Below w.heap.size w w':=by
 have hsx:=(Sx.refl w).alloc (.cells #[.int .i64 g.blur,.slice a.pS g.sta.length a.cs,.slice a.pM g.mov.length a.cm,.slice a.pZ g.zon.length a.cz] 38)
 have HG:=zh (hr.sx (Nat.le_refl _) hsx)
 have HK:=zh (hkd.sx hsx)
 have HX:=zh hx
 have HNH:=zh (show ∀W,Sx (w.alloc (.cells #[.int .i64 g.blur,.slice a.pS g.sta.length a.cs,.slice a.pM g.mov.length a.cm,.slice a.pZ g.zon.length a.cz] 38)) W→Calls Tryz.prog 105 #[.slice A xs.length c,.func (.func 106) #[] #[.pointer (some ⟨w.heap.size,0,none⟩)]] W fun e w'=>e=.returned (.bool (xs.any fun x=> !hasB g x))∧Below W.heap.size W w' from fun W hW=>
  notHas_c a g A xs c w.heap.size W hl (Rw.sx HX.out (Nat.le_refl _) (hsx.trans hW)) (by have:=hW.1;simp at this;omega) (hW.at (by simp[cells_new])) (hW.at (by simp[cells_new])) (hW.at (by simp[cells_new])) (hW.at (by simp[cells_new])))
 clear hr hkd hx
 by_cases he:stepsE0 g xs=0
 ·have hz1':(firstErr [gridC g,whn ((xs.length:Int)==0) 12,whn (decide ((40:Int)<xs.length)) 5]!=0)=false:=by rw[bne_eq_false_iff_eq];exact he
  have hgc:gridC g=0:=firstErr_zero he (gridC g) (by simp)
  have hok:=gridC_ok hgc
  have hns:=hok.ns
  have hln:xs.length≠0:=by
   have h1:=whn_zero (firstErr_zero he (whn ((xs.length:Int)==0) 12) (by simp)) (by decide)
   intro h;rw[h]at h1;cases h1
  have HE:=zh he;clear he hgc
  cases hany:xs.any (fun x=> !hasB g x)with
  |true=>
   have hR:=zh (show stepsR g xs=(0,10) by unfold stepsR;rw[if_neg (fun h=>h HE.out),if_pos hany])
   rw[hany]at HNH
   clear hany hsx
   go_enter Tryz.func29,Tryz.ntmps29
   go_wp2_with (first|(go_at_call 66;refine(CheckGrid_c a g _ hs HG.out HK.out).mono ?_;rintro e w1 ⟨rfl,hb1⟩;(have b0:w1.cell? ⟨w.heap.size,0,none⟩=some (.int .i64 g.blur):=(hb1.cell (p:=⟨w.heap.size,0,none⟩) (by first|(simp;done)|(simp;omega)|(show w.heap.size<_;omega))).trans (by first|assumption|(simp;done)));(have b1:w1.cell? ⟨w.heap.size,1,none⟩=some (.slice a.pS g.sta.length a.cs):=(hb1.cell (p:=⟨w.heap.size,1,none⟩) (by first|(simp;done)|(simp;omega)|(show w.heap.size<_;omega))).trans (by first|assumption|(simp;done)));(have b2:w1.cell? ⟨w.heap.size,2,none⟩=some (.slice a.pM g.mov.length a.cm):=(hb1.cell (p:=⟨w.heap.size,2,none⟩) (by first|(simp;done)|(simp;omega)|(show w.heap.size<_;omega))).trans (by first|assumption|(simp;done)));(have b3:w1.cell? ⟨w.heap.size,3,none⟩=some (.slice a.pZ g.zon.length a.cz):=(hb1.cell (p:=⟨w.heap.size,3,none⟩) (by first|(simp;done)|(simp;omega)|(show w.heap.size<_;omega))).trans (by first|assumption|(simp;done))))|(go_at_call 104;refine(when_c _ _ _).mono ?_;rintro e w' ⟨rfl,rfl⟩)|(go_at_call 103;refine(first_c _ [gridC g,whn ((xs.length:Int)==0) 12,whn (decide ((40:Int)<xs.length)) 5] _ ?_ ?_).mono ?_;(focus simp);(focus first|(simp[CellsAt];done)|(simp[CellsAt,cells_new]));rintro e w' ⟨rfl,rfl⟩)|(go_at_call 105;refine(HNH.out _ (by exact zsx)).mono ?_;rintro e w2 ⟨rfl,hb2⟩;(have e0:w2.cell? ⟨w.heap.size,0,none⟩=some (.int .i64 g.blur):=(Sx.at (W0:=w1) (by exact zsx) b0));(have e1:w2.cell? ⟨w.heap.size,1,none⟩=some (.slice a.pS g.sta.length a.cs):=(Sx.at (W0:=w1) (by exact zsx) b1));(have e2:w2.cell? ⟨w.heap.size,2,none⟩=some (.slice a.pM g.mov.length a.cm):=(Sx.at (W0:=w1) (by exact zsx) b2));(have e3:w2.cell? ⟨w.heap.size,3,none⟩=some (.slice a.pZ g.zon.length a.cz):=(Sx.at (W0:=w1) (by exact zsx) b3))))
   go_ret2
   exact⟨by rw[hR.out];rfl,by exact zbl⟩
  |false=>
   have hall:∀x∈xs,0≤x∧x<g.sta.length:=fun x hx=>by
    have:=List.any_eq_false.1 hany x hx
    exact hasB_iffG.1 (by simpa using this)
   rw[hany]at HNH
   obtain⟨v,tl,hxs⟩:∃v tl,xs=v::tl:=by
    cases xs with
    |nil=>exact absurd rfl hln
    |cons v tl=>exact⟨v,tl,rfl⟩
   have hv:=hall v (by rw[hxs];simp)
   have h0:0<xs.length:=by omega
   have hx0:xs[0]=v:=by simp[hxs]
   obtain⟨b,off,hA,hbl,hbc⟩:=HX.out.at (by intro h;rw[h]at hln;exact hln rfl)
   have HC:=zh hbc
   have HXS:=zh hxs
   have HAL:=zh hall
   have hnE:=zh (fun h:stepsE0 g xs≠0=>h HE.out)
   have hst2:=zh (show stepsR g xs=if isSafeG g v then(match sumW g v tl with|none=>((0:Int),(21:Int))|some n=>(n,0))else((0:Int),(31:Int)) by
    unfold stepsR;rw[if_neg (fun h=>h HE.out),hany,HXS.out];rfl)
   subst hA
   clear hall hxs hbc hany hx0
   go_enter Tryz.func29,Tryz.ntmps29
   go_wp2_with (first|(go_at_call 66;refine(CheckGrid_c a g _ hs HG.out HK.out).mono ?_;rintro e w1 ⟨rfl,hb1⟩;(have b0:w1.cell? ⟨w.heap.size,0,none⟩=some (.int .i64 g.blur):=(hb1.cell (p:=⟨w.heap.size,0,none⟩) (by first|(simp;done)|(simp;omega)|(show w.heap.size<_;omega))).trans (by first|assumption|(simp;done)));(have b1:w1.cell? ⟨w.heap.size,1,none⟩=some (.slice a.pS g.sta.length a.cs):=(hb1.cell (p:=⟨w.heap.size,1,none⟩) (by first|(simp;done)|(simp;omega)|(show w.heap.size<_;omega))).trans (by first|assumption|(simp;done)));(have b2:w1.cell? ⟨w.heap.size,2,none⟩=some (.slice a.pM g.mov.length a.cm):=(hb1.cell (p:=⟨w.heap.size,2,none⟩) (by first|(simp;done)|(simp;omega)|(show w.heap.size<_;omega))).trans (by first|assumption|(simp;done)));(have b3:w1.cell? ⟨w.heap.size,3,none⟩=some (.slice a.pZ g.zon.length a.cz):=(hb1.cell (p:=⟨w.heap.size,3,none⟩) (by first|(simp;done)|(simp;omega)|(show w.heap.size<_;omega))).trans (by first|assumption|(simp;done))))|(go_at_call 104;refine(when_c _ _ _).mono ?_;rintro e w' ⟨rfl,rfl⟩)|(go_at_call 103;refine(first_c _ [gridC g,whn ((xs.length:Int)==0) 12,whn (decide ((40:Int)<xs.length)) 5] _ ?_ ?_).mono ?_;(focus simp);(focus first|(simp[CellsAt];done)|(simp[CellsAt,cells_new]));rintro e w' ⟨rfl,rfl⟩)|(go_at_call 105;refine(HNH.out _ (by exact zsx)).mono ?_;rintro e w2 ⟨rfl,hb2⟩;(have e0:w2.cell? ⟨w.heap.size,0,none⟩=some (.int .i64 g.blur):=(Sx.at (W0:=w1) (by exact zsx) b0));(have e1:w2.cell? ⟨w.heap.size,1,none⟩=some (.slice a.pS g.sta.length a.cs):=(Sx.at (W0:=w1) (by exact zsx) b1));(have e2:w2.cell? ⟨w.heap.size,2,none⟩=some (.slice a.pM g.mov.length a.cm):=(Sx.at (W0:=w1) (by exact zsx) b2));(have e3:w2.cell? ⟨w.heap.size,3,none⟩=some (.slice a.pZ g.zon.length a.cz):=(Sx.at (W0:=w1) (by exact zsx) b3))))
   have HG2:=zh (HG.out.sx (W:=w2) (Nat.le_refl _) (by exact zsx))
   have hb2':Below w.heap.size w w2:=by exact zbl
   have hbs1:w.heap.size<w2.heap.size:=World.block_lt_of_cell? w2 _ e0
   have hbs2:b<w2.heap.size:=by omega
   have HD:=zh (show ∀k (hk:k<xs.length),w2.cell? ⟨b,off+k,none⟩=some (.int .i64 xs[k])from fun k hk=>(hb2'.cell (p:=⟨b,off+k,none⟩) hbl).trans (HC.out k hk))
   have d0:w2.cell? ⟨b,off,none⟩=some (.int .i64 v):=by
    have:=HD.out 0 h0
    have hx0:xs[0]=v:=by simp[HXS.out]
    rw[hx0]at this
    exact this
   go_region_held3 (SSd w2) ((refine Sx.goal ?_;exact zsx)) (first|(go_at_call 108;refine(isSafeG_c a g v _ hok (HG2.out.sx (Nat.le_refl _) (by exact zsx)) hv).mono ?_;rintro e w3 ⟨rfl,hb3⟩))
   have HG3:=zh (HG2.out.sx (W:=w3) (Nat.le_refl _) (Sx.below' hb3 (Sx.drew (Sx.refl w2))))
   have hb3':Below w2.heap.size w2 w3:=((Below.refl w2.heap.size w2).drew).trans hb3
   have hb33:=hb2'.trans (hb3'.mono hb2'.size)
   cases hsf:isSafeG g v with
   |false=>
    have hR:=zh (show stepsR g xs=(0,31) by rw[hst2.out,hsf];rfl)
    clear hsf
    go_wp2_with fail
    go_ret2
    exact⟨by rw[hR.out];rfl,hb33⟩
   |true=>
    have hR:=zh (show stepsR g xs=match sumW g v tl with|none=>((0:Int),(21:Int))|some n=>(n,0) by rw[hst2.out,hsf];rfl)
    clear hsf
    have hs3:=hb3'.size
    go_wp2_with fail
    go_loopg [7,8] xs.length (fun n sv i wr=>∃(k:Nat) (s:Int),k+1≤xs.length∧n=xs.length-k∧sv=.int .i64 s∧i=.int .i64 ((k:Int)+1)∧0≤s∧s≤20*k∧Below w3.heap.size w3 wr∧Hid (sumW g v tl=(sumW g (xs.getD k 0) (xs.drop (k+1))).map (s+ ·)))
    case atStart=>exact⟨0,0,by omega,by omega,rfl,rfl,by omega,by omega,Below.refl _ _,zh (by rw[HXS.out];simp)⟩
    case round=>
     obtain⟨k,s,hk,rfl,rfl,rfl,hs0,hs1,hb,hc⟩:=hrel
     have hbs:=hb.size
     have hb4:Below w2.heap.size w2 wr:=hb3'.trans (hb.mono hs3)
     have q0:=(hb4.cell (p:=⟨w.heap.size,0,none⟩) hbs1).trans e0
     have q1:=(hb4.cell (p:=⟨w.heap.size,1,none⟩) hbs1).trans e1
     have q2:=(hb4.cell (p:=⟨w.heap.size,2,none⟩) hbs1).trans e2
     have q3:=(hb4.cell (p:=⟨w.heap.size,3,none⟩) hbs1).trans e3
     have hq1:w.heap.size<wr.heap.size:=by omega
     have hq2:b<wr.heap.size:=by omega
     clear e0 e1 e2 e3 d0
     by_cases hlt:k+1<xs.length
     ·have x0:wr.cell? ⟨b,off+k,none⟩=some (.int .i64 xs[k]):=(hb4.cell (p:=⟨b,off+k,none⟩) hbs2).trans (HD.out k (by omega))
      have x1:wr.cell? ⟨b,off+(k+1),none⟩=some (.int .i64 xs[k+1]):=(hb4.cell (p:=⟨b,off+(k+1),none⟩) hbs2).trans (HD.out (k+1) hlt)
      obtain⟨y,hy⟩:∃y,y=xs[k]:=⟨_,rfl⟩
      obtain⟨z,hz⟩:∃z,z=xs[k+1]:=⟨_,rfl⟩
      rw[←hy]at x0
      rw[←hz]at x1
      have hyr:=HAL.out y (by rw[hy];exact List.getElem_mem _)
      have HJ:=zh (show ∀W,Sx wr W→Calls Tryz.prog 109 #[(.agg #[.int .i64 g.blur,.slice a.pS g.sta.length a.cs,.slice a.pM g.mov.length a.cm,.slice a.pZ g.zon.length a.cz]),.int .i64 y,.int .i64 z] W fun e w'=>e=.returned (.int .i64 (lnk g y z))∧Below W.heap.size W w' from fun W hW=>
       joined_c a.pS a.pM a.pZ a.cs a.cm a.cz g y z W hok hyr.1 hyr.2 (((HG3.out.belowB (w0:=w3) hb (Nat.le_refl _)).more hbs).sx (Nat.le_refl _) hW))
      have hsum:=zh (show sumW g (xs.getD k 0) (xs.drop (k+1))=if lnk g y z=0 then none else(sumW g z (xs.drop (k+2))).map (lnk g y z+ ·) by
       rw[List.drop_eq_getElem_cons hlt,List.getD_eq_getElem?_getD,List.getElem?_eq_getElem (by omega:k<xs.length),←hz,Option.getD_some,←hy,sumW])
      have HZ:=zh hz
      clear hy hz
      have i0:(0:Int)≤(k:Int):=by omega
      have i1:(k:Int)<(xs.length:Int):=by omega
      have i2:(0:Int)≤(k:Int)+1:=by omega
      have i3:(k:Int)+1<(xs.length:Int):=by omega
      have i4:IntKind.i64.wrap ((k:Int)+1-1)=(k:Int):=by rw[IntWalk.i64_in _ (by omega)];omega
      have i5:((k:Int)+1).toNat=k+1:=by omega
      have i6:IntKind.i64.wrap (k:Int)=(k:Int):=IntWalk.i64_in _ (by omega)
      have i7:wrap64 (k:Int)=(k:Int):=by rw[←IntWalk.i64_left];exact i6
      have i8:wrap64 ((k:Int)+1-1)=(k:Int):=by rw[←IntWalk.i64_left];exact i4
      go_wp2_with fail
      go_region_held3 (SSd wr) ((refine Sx.goal ?_;exact zsx)) (first|(go_at_call 109;refine(HJ.out _ (by exact zsx)).mono ?_;rintro e w5 ⟨rfl,hb5⟩))
      have hb5':Below wr.heap.size wr w5:=((Below.refl wr.heap.size wr).drew).trans hb5
      clear i4 i5 i6 i7 i8 x0 x1
      by_cases hl0:lnk g y z=0
      ·have hl1:(lnk g y z==0)=true:=by rw[beq_iff_eq];exact hl0
       have HL:=zh hl0
       clear hl0
       go_wp2_with fail
       go_ret2
       refine⟨?_,hb33.trans ((hb.mono (by have:=hb33.size;omega)).trans (hb5'.mono (by have:=hb33.size;omega)))⟩
       have h1:=hc.out
       rw[hsum.out,if_pos HL.out]at h1
       rw[hR.out,h1]
       rfl
      ·have hl1:(lnk g y z==0)=false:=by rw[beq_eq_false_iff_ne];exact hl0
       have hlr:=lnk_rng hok hl0
       have hl2:=hlr.2.2.1
       have hl3:=hlr.2.2.2
       have HL:=zh hl0
       clear hl0 hlr
       go_wp2_with fail
       go_roundg (xs.length-(k+1))
       case rel=>exact⟨k+1,s+lnk g y z,by omega,rfl,by go_num,by go_num,by omega,by omega,by exact zbl,zh (by
        have h1:=hc.out
        rw[hsum.out,if_neg HL.out]at h1
        rw[h1,List.getD_eq_getElem?_getD,List.getElem?_eq_getElem hlt,Option.getD_some,←HZ.out]
        cases sumW g z (xs.drop (k+1+1))with
        |none=>rfl
        |some n=>simp[Int.add_assoc])⟩
       case measure=>omega
     ·have hkl:k+1=xs.length:=by omega
      go_wp2_with fail
      go_ret2
      have h1:=hc.out
      rw[hkl,List.drop_length]at h1
      refine⟨?_,hb33.trans (hb.mono (by have:=hb33.size;omega))⟩
      rw[hR.out,h1]
      simp[sumW]
 ·have hz1':(firstErr [gridC g,whn ((xs.length:Int)==0) 12,whn (decide ((40:Int)<xs.length)) 5]!=0)=true:=by rw[bne_iff_ne];exact he
  have hR:=zh (show stepsR g xs=(0,firstErr [gridC g,whn ((xs.length:Int)==0) 12,whn (decide ((40:Int)<xs.length)) 5]) by unfold stepsR;rw[if_pos he];rfl)
  have HE:=zh he;clear he hsx
  go_enter Tryz.func29,Tryz.ntmps29
  go_wp2_with (first|(go_at_call 66;refine(CheckGrid_c a g _ hs HG.out HK.out).mono ?_;rintro e w1 ⟨rfl,hb1⟩;(have b0:w1.cell? ⟨w.heap.size,0,none⟩=some (.int .i64 g.blur):=(hb1.cell (p:=⟨w.heap.size,0,none⟩) (by first|(simp;done)|(simp;omega)|(show w.heap.size<_;omega))).trans (by first|assumption|(simp;done)));(have b1:w1.cell? ⟨w.heap.size,1,none⟩=some (.slice a.pS g.sta.length a.cs):=(hb1.cell (p:=⟨w.heap.size,1,none⟩) (by first|(simp;done)|(simp;omega)|(show w.heap.size<_;omega))).trans (by first|assumption|(simp;done)));(have b2:w1.cell? ⟨w.heap.size,2,none⟩=some (.slice a.pM g.mov.length a.cm):=(hb1.cell (p:=⟨w.heap.size,2,none⟩) (by first|(simp;done)|(simp;omega)|(show w.heap.size<_;omega))).trans (by first|assumption|(simp;done)));(have b3:w1.cell? ⟨w.heap.size,3,none⟩=some (.slice a.pZ g.zon.length a.cz):=(hb1.cell (p:=⟨w.heap.size,3,none⟩) (by first|(simp;done)|(simp;omega)|(show w.heap.size<_;omega))).trans (by first|assumption|(simp;done))))|(go_at_call 104;refine(when_c _ _ _).mono ?_;rintro e w' ⟨rfl,rfl⟩)|(go_at_call 103;refine(first_c _ [gridC g,whn ((xs.length:Int)==0) 12,whn (decide ((40:Int)<xs.length)) 5] _ ?_ ?_).mono ?_;(focus simp);(focus first|(simp[CellsAt];done)|(simp[CellsAt,cells_new]));rintro e w' ⟨rfl,rfl⟩))
  go_ret2
  exact⟨by rw[hR.out];rfl,by exact zbl⟩
end Go.Proofs.YtehnikhicnnnhaaGreatDoor
namespace Go.Proofs.YtehnikhicnnnhaaGreatDoor
open Go.RowKit Go.Shelf
attribute [local go_sem] Oper.semAt_some
set_option maxHeartbeats 1000000 in
theorem cbF_c(a:GA)(g:Grd)(x:Int)(Bg:Nat)(w:World)(h0:w.cell? ⟨Bg,0,none⟩=some (.int .i64 g.blur))(h1:w.cell? ⟨Bg,1,none⟩=some (.slice a.pS g.sta.length a.cs))(h2:w.cell? ⟨Bg,2,none⟩=some (.slice a.pM g.mov.length a.cm))(h3:w.cell? ⟨Bg,3,none⟩=some (.slice a.pZ g.zon.length a.cz)):
 Calls Tryz.prog 111 #[.int .i64 x,.pointer (some ⟨Bg,0,none⟩)] w fun e w'=>e=.returned (.bool (!hasB g x))∧Below w.heap.size w w':=by
 go_enter Tryz.func111,Tryz.ntmps111
 go_wp2_with (go_at_call 107;refine(has_c a g x _).mono ?_;rintro e w1 ⟨rfl,hb1⟩)
 go_ret
 exact⟨rfl,by exact zbl⟩
theorem enters_cb(args:Array Value)(w:World):(callFunc 111 args).run Tryz.prog w=.ok (.enter 111 args) w:=
 enters_of Tryz.func111 (by kernel_rfl) rfl args w
theorem notHas2_c(a:GA)(g:Grd)(A:Option Addr)(xs:List Int)(c:Nat)(Bg:Nat)(w:World)(hl:xs.length≤1000)(hx:IntsR w w.heap.size A xs)(hBg:Bg<w.heap.size)(h0:w.cell? ⟨Bg,0,none⟩=some (.int .i64 g.blur))(h1:w.cell? ⟨Bg,1,none⟩=some (.slice a.pS g.sta.length a.cs))(h2:w.cell? ⟨Bg,2,none⟩=some (.slice a.pM g.mov.length a.cm))(h3:w.cell? ⟨Bg,3,none⟩=some (.slice a.pZ g.zon.length a.cz)):
 Calls Tryz.prog 105 #[.slice A xs.length c,.func (.func 111) #[] #[.pointer (some ⟨Bg,0,none⟩)]] w fun e w'=>e=.returned (.bool (xs.any fun x=> !hasB g x))∧Below w.heap.size w w':=by
 refine hasInt_c (fun x:Int=> [Value.int .i64 x]) (fun x=> !hasB g x) 111 #[.pointer (some ⟨Bg,0,none⟩)] A xs c w hl enters_cb hx (fun x _=>⟨_,rfl⟩) ?_
 intro x _ v0 hv W hW
 simp only[List.cons.injEq,and_true]at hv
 subst hv
 exact cbF_c a g x Bg W ((hW.cell (p:=⟨Bg,0,none⟩) hBg).trans h0) ((hW.cell (p:=⟨Bg,1,none⟩) hBg).trans h1) ((hW.cell (p:=⟨Bg,2,none⟩) hBg).trans h2) ((hW.cell (p:=⟨Bg,3,none⟩) hBg).trans h3)
def chkO:List Int→Bool
 | []=>true
 | [_]=>true
 |x::y::l=>if y≤x then false else chkO (y::l)
def barE0(g:Grd)(f t:Int)(l:List Int):Int:=firstErr [fromC g [f,t],whn (decide ((16:Int)<l.length)) 5]
def edgeOk(g:Grd)(l:List Int)(v:Int):Bool:=(nbrs g v g.mov).all fun x=>l.any (x.1.1== ·)
def cbR(g:Grd)(f t:Int)(l:List Int):Int:=
 if barE0 g f t l≠0 then barE0 g f t l
 else if l.any (fun x=> !hasB g x)then 10
 else if chkO l then(if !l.any (f== ·)||l.any (t== ·)then 19 else if l.all (edgeOk g l)then 0 else 19)else 11
theorem two_at{W:World}{b:Nat}{f t:Int}(h0:W.cell? ⟨b,0,none⟩=some (.int .i64 f))(h1:W.cell? ⟨b,1,none⟩=some (.int .i64 t)):IntsR W W.heap.size (some ⟨b,0,none⟩) [f,t]:=fun _=>⟨b,0,rfl,World.block_lt_of_cell? W ⟨b,0,none⟩ h0,fun k hk j v hv=>by
 simp at hk
 cases j with
 |succ j=>rcases(show k=0∨k=1 by omega)with rfl|rfl<;>simp at hv
 |zero=>rcases(show k=0∨k=1 by omega)with rfl|rfl<;>(simp at hv;subst hv;simpa)⟩
theorem chkO_cons{x y:Int}{l:List Int}:chkO (x::y::l)=if y≤x then false else chkO (y::l):=rfl
theorem chkO_step{l:List Int}{j:Nat}(h:j+1<l.length):chkO (l.drop j)=if l[j+1]≤l[j]then false else chkO (l.drop (j+1)):=by
 rw[List.drop_eq_getElem_cons (show j<l.length by omega),List.drop_eq_getElem_cons h,chkO_cons]
theorem chkO_end{l:List Int}:chkO (l.drop (l.length-1))=true:=by
 cases hl:l.drop (l.length-1)with
 |nil=>rfl
 |cons a t=>
  have h1:=congrArg List.length hl
  simp at h1
  cases t with
  |nil=>rfl
  |cons b t=>simp at h1;omega
structure CBI(w:World)(a:GA)(g:Grd)(A:Option Addr)(n c:Nat)(ds:List Deferred)(Ds:List Nat)(W:World):Prop where
 g0:W.cell? ⟨w.heap.size,0,none⟩=some (.int .i64 g.blur)
 g1:W.cell? ⟨w.heap.size,1,none⟩=some (.slice a.pS g.sta.length a.cs)
 g2:W.cell? ⟨w.heap.size,2,none⟩=some (.slice a.pM g.mov.length a.cm)
 g3:W.cell? ⟨w.heap.size,3,none⟩=some (.slice a.pZ g.zon.length a.cz)
 p4:W.cell? ⟨w.heap.size+1,0,none⟩=some (.slice A n c)
 rb:Boxed W (w.heap.size+1+1) 31 (.int .i64 0)
 low:Below w.heap.size w W
 sz:w.heap.size+3≤W.heap.size
 mks:Marks w.heap.size ds Ds W
section
variable {w:World} {a:GA} {g:Grd} {A:Option Addr} {n c:Nat} {ds:List Deferred} {Ds:List Nat} {W W':World}
theorem CBI.grown(h:CBI w a g A n c ds Ds W){row:Option Nat}(hg:W.grownBy W' row)(hr:∀r,row=some r→w.heap.size+3≤r∧r ∉ Ds):CBI w a g A n c ds Ds W':=by
 have hne:∀k,k<w.heap.size+3→some k≠row:=fun k hk e=>by have:=(hr k e.symm).1;omega
 exact⟨hg.cell h.g0 (hne _ (by simp)),hg.cell h.g1 (hne _ (by simp)),hg.cell h.g2 (hne _ (by simp)),hg.cell h.g3 (hne _ (by simp)),hg.cell h.p4 (hne _ (by simp)),h.rb.kept hg (hne _ (by omega)),
  h.low.grown hg h.low.size (fun r e=>by have:=(hr r e).1;omega),Nat.le_trans h.sz hg.size,h.mks.grown hg (fun r e=>(hr r e).2)⟩
theorem CBI.below(h:CBI w a g A n c ds Ds W)(hb:Below W.heap.size W W'):CBI w a g A n c ds Ds W':=h.grown (grown_of hb) (fun r e=>by cases e)
theorem CBI.ownFrom{β:Type}{B:Nat}(hB:w.heap.size+3≤B)(hDs:∀D∈Ds,D<B):OwnFrom B (fun(_:List β) W=>CBI w a g A n c ds Ds W):=fun _ _ _ _ h hg hr=>h.grown hg fun r e=>⟨by have:=(hr r e).1;omega,fun hm=>by have:=hDs r hm;have:=(hr r e).1;omega⟩
end
set_option maxRecDepth 100000 in
set_option maxHeartbeats 2000000 in
theorem CheckBarrier_c(a:GA)(g:Grd)(f t:Int)(A:Option Addr)(xs:List Int)(c:Nat)(w:World)(hs:SmallG g)(hr:GridR w w.heap.size a g)(hkd:KindsAt w)(hx:IntsR w w.heap.size A xs)(hl:xs.length≤1000):
 Calls Tryz.prog 32 #[(.agg #[.int .i64 g.blur,.slice a.pS g.sta.length a.cs,.slice a.pM g.mov.length a.cm,.slice a.pZ g.zon.length a.cz]),.int .i64 f,.int .i64 t,.slice A xs.length c] w fun e w'=>e=.returned (.int .i64 (cbR g f t xs))∧Below w.heap.size w w':=by
 refine callsIn_wide (n:=5) |>.1 ?_
 obtain⟨W0,hW0⟩:∃W0,W0=((w.alloc (.cells #[.int .i64 g.blur,.slice a.pS g.sta.length a.cs,.slice a.pM g.mov.length a.cm,.slice a.pZ g.zon.length a.cz] 38)).alloc (.cells #[.slice A xs.length c] 30)).alloc (.cells #[.int .i64 0] 31):=⟨_,rfl⟩
 have hsx:Sx w W0:=by rw[hW0];exact(((Sx.refl w).alloc _).alloc _).alloc _
 have HG:=zh (hr.sx (Nat.le_refl _) hsx)
 have HK:=zh (hkd.sx hsx)
 have HX:=zh (Rw.sx hx (Nat.le_refl _) hsx)
 have e0:W0.cell? ⟨w.heap.size,0,none⟩=some (.int .i64 g.blur):=by rw[hW0];simp[World.cell?_alloc_lt,cells_new]
 have e1:W0.cell? ⟨w.heap.size,1,none⟩=some (.slice a.pS g.sta.length a.cs):=by rw[hW0];simp[World.cell?_alloc_lt,cells_new]
 have e2:W0.cell? ⟨w.heap.size,2,none⟩=some (.slice a.pM g.mov.length a.cm):=by rw[hW0];simp[World.cell?_alloc_lt,cells_new]
 have e3:W0.cell? ⟨w.heap.size,3,none⟩=some (.slice a.pZ g.zon.length a.cz):=by rw[hW0];simp[World.cell?_alloc_lt,cells_new]
 have e4:W0.cell? ⟨w.heap.size+1,0,none⟩=some (.slice A xs.length c):=by rw[hW0];simp[World.cell?_alloc_lt,cells_new]
 have e5:=Boxed.new ((w.alloc (.cells #[.int .i64 g.blur,.slice a.pS g.sta.length a.cs,.slice a.pM g.mov.length a.cm,.slice a.pZ g.zon.length a.cz] 38)).alloc (.cells #[.slice A xs.length c] 30)) 31 (.int .i64 0)
 rw[World.size_alloc,World.size_alloc,←hW0]at e5
 have hsz:W0.heap.size=w.heap.size+3:=by rw[hW0];simp
 have hB0:Below w.heap.size w W0:=by rw[hW0];exact zbl
 have HXW:=zh hx
 have HGW:=zh hr
 clear hr hkd hx
 refine callsIn_of_wp_marks Tryz.func32 rfl trivial ?_ rfl
 simp only[Tryz.ntmps32,List.size_toArray,List.length_cons,List.length_nil,Nat.reduceAdd,Nat.reduceSub,Array.replicate_succ,Array.replicate_zero,List.push_toArray,List.append_toArray,List.nil_append,List.cons_append]
 gi_wp2
 rw[←hW0]
 refine wpIn_wide.2 ?_
 clear hW0
 have hbs0:w.heap.size<W0.heap.size:=by omega
 have hbs1:w.heap.size+1<W0.heap.size:=by omega
 have HSZ:=zh hsz
 clear hsz
 have HCF:=zh (show ∀W b,Sx W0 W→W.cell? ⟨b,0,none⟩=some (.int .i64 f)→W.cell? ⟨b,1,none⟩=some (.int .i64 t)→Calls Tryz.prog 92 #[(.agg #[.int .i64 g.blur,.slice a.pS g.sta.length a.cs,.slice a.pM g.mov.length a.cm,.slice a.pZ g.zon.length a.cz]),.slice (some ⟨b,0,none⟩) 2 2] W fun e w'=>e=.returned (.int .i64 (fromC g [f,t]))∧Below W.heap.size W w' from fun W b hW h0 h1=>
  checkFrom_c a g (some ⟨b,0,none⟩) [f,t] 2 W hs (HG.out.sx (Nat.le_refl _) hW) (HK.out.sx hW) (two_at h0 h1) (by simp) (by simp))
 go_region_held3 (SSd W0) ((refine Sx.goal ?_;exact zsx)) (first|(go_at_call 92;refine(HCF.out _ _ ?_ ?_ ?_).mono ?_;(focus((repeat first|(with_reducible first|assumption|exact Sx.refl _|refine Sx.drew ?_|refine Sx.alloc ?_ _|refine Sx.set ?_ _ ?_)|(with_reducible apply Sx.below';(focus(with_reducible assumption)))|omega|(focus(simp;done))|(focus(simp;omega)))));(focus(simp;done));(focus(simp;done));rintro e w1 ⟨rfl,hb1⟩)|(go_at_call 104;refine(when_c _ _ _).mono ?_;rintro e w' ⟨rfl,rfl⟩)|(go_at_call 103;refine(first_c _ [fromC g [f,t],whn (decide ((16:Int)<xs.length)) 5] _ ?_ ?_).mono ?_;(focus simp);(focus first|(simp[CellsAt];done)|(simp[CellsAt,cells_new]));rintro e w' ⟨rfl,rfl⟩))
 have hBa:Below W0.heap.size W0 (w1.alloc (.cells #[.int .i64 (fromC g [f,t]),.int .i64 (whn (decide ((16:Int)<xs.length)) 5)] 31)):=by exact zbl
 obtain⟨Wa,hWa⟩:∃Wa,Wa=w1.alloc (.cells #[.int .i64 (fromC g [f,t]),.int .i64 (whn (decide ((16:Int)<xs.length)) 5)] 31):=⟨_,rfl⟩
 rw[←hWa]at hBa ⊢
 clear hWa hb1
 have q0:=(hBa.cell (p:=⟨w.heap.size,0,none⟩) hbs0).trans e0
 have q1:=(hBa.cell (p:=⟨w.heap.size,1,none⟩) hbs0).trans e1
 have q2:=(hBa.cell (p:=⟨w.heap.size,2,none⟩) hbs0).trans e2
 have q3:=(hBa.cell (p:=⟨w.heap.size,3,none⟩) hbs0).trans e3
 have q4:=(hBa.cell (p:=⟨w.heap.size+1,0,none⟩) hbs1).trans e4
 have q5:Boxed Wa (w.heap.size+1+1) 31 (.int .i64 0):=(hBa.block _ e5.lt).trans e5
 have r0:=q5.cell
 have r1:=q5.frozen
 have hss:=zh (show Sx W0 Wa from(Sx.refl W0).below hBa)
 have hBw:Below w.heap.size w Wa:=hB0.trans (hBa.mono (by omega))
 have Q5:=zh q5
 clear e0 e1 e2 e3 e4 e5 q5 HCF hsx
 by_cases he:barE0 g f t xs=0
 ·have hz1':(firstErr [fromC g [f,t],whn (decide ((16:Int)<xs.length)) 5]!=0)=false:=by rw[bne_eq_false_iff_eq];exact he
  have hgc:gridC g=0:=(fromC_zero (firstErr_zero he (fromC g [f,t]) (by simp))).1
  have hok:=gridC_ok hgc
  have hns:=hok.ns
  have hNH:=notHas2_c a g A xs c w.heap.size Wa hl (Rw.sx HX.out (Nat.le_refl _) hss.out) (by have:=hBa.size;omega) q0 q1 q2 q3
  have HE:=zh he;clear he hgc
  cases hany:xs.any (fun x=> !hasB g x)with
  |true=>
   have hR:=zh (show cbR g f t xs=10 by unfold cbR;rw[if_neg (fun h=>h HE.out),if_pos hany])
   rw[hany]at hNH
   have HNH:=zh hNH
   clear hany hNH
   gi_wp2_with (refine⟨trivial,?_⟩;gi_at_call 105;refine(callsIn_wide.2 HNH.out).mono ?_;rintro e w2 ⟨rfl,hb2⟩;(have r2:Boxed w2 (w.heap.size+1+1) 31 (.int .i64 0):=(hb2.block _ Q5.out.lt).trans Q5.out);(have r3:=r2.cell);(have r4:=r2.frozen))
   have hc5:=World.cell?_setCell_same' w2 ⟨w.heap.size+1+1,0,none⟩ (.int .i64 10) (by rw[r3];rfl)
   refine⟨.int .i64 10,?_,by rw[hR.out],(hBw.trans (hb2.mono hBw.size)).setCell (p:=⟨w.heap.size+1+1,0,none⟩) (by show w.heap.size≤w.heap.size+1+1;omega) _⟩
   simp[results,go_sem,hc5]
  |false=>
   have hR:=zh (show cbR g f t xs=if chkO xs then(if !xs.any (f== ·)||xs.any (t== ·)then 19 else if xs.all (edgeOk g xs)then 0 else 19)else 11 by unfold cbR;rw[if_neg (fun h=>h HE.out),hany];rfl)
   have HALL:=zh (show ∀x∈xs,0≤x∧x<g.sta.length from fun x hx=>by
    have:=List.any_eq_false.1 hany x hx
    exact hasB_iffG.1 (by simpa using this))
   rw[hany]at hNH
   have HNH:=zh hNH
   clear hany hNH
   have hs2:=hBa.size
   gi_wp2_with (refine⟨trivial,?_⟩;gi_at_call 105;refine(callsIn_wide.2 HNH.out).mono ?_;rintro e w2 ⟨rfl,hb2⟩;(have p0:=(hb2.cell (p:=⟨w.heap.size,0,none⟩) (by show w.heap.size<_;omega)).trans q0);(have p1:=(hb2.cell (p:=⟨w.heap.size,1,none⟩) (by show w.heap.size<_;omega)).trans q1);(have p2:=(hb2.cell (p:=⟨w.heap.size,2,none⟩) (by show w.heap.size<_;omega)).trans q2);(have p3:=(hb2.cell (p:=⟨w.heap.size,3,none⟩) (by show w.heap.size<_;omega)).trans q3);(have p4:=(hb2.cell (p:=⟨w.heap.size+1,0,none⟩) (by show w.heap.size+1<_;omega)).trans q4);(have R2:=zh (show Boxed w2 (w.heap.size+1+1) 31 (.int .i64 0)from(hb2.block _ Q5.out.lt).trans Q5.out)))
   have r3:=R2.out.cell
   have r4:=R2.out.frozen
   have hb22:Below W0.heap.size W0 w2:=hBa.trans (hb2.mono hs2)
   have hbw2:=hBw.trans (hb2.mono hBw.size)
   have HX2:=zh (show IntsR w2 w2.heap.size A xs from Rw.more (Rw.belowB (w0:=W0) HX.out hb22 (Nat.le_refl _)) hb22.size)
   have HG2:=zh ((HG.out.belowB (w0:=W0) hb22 (Nat.le_refl _)).more hb22.size)
   clear q0 q1 q2 q3 q4 r0 r1 hb2
   gi_loopg [34] xs.length (fun n i wr=>∃k:Nat,k≤xs.length∧n=xs.length-k∧i=.int .i64 k∧wr=w2∧Hid (chkO xs=chkO (xs.drop (k-1))))
   case atStart=>exact⟨0,Nat.zero_le _,rfl,rfl,rfl,zh rfl⟩
   case round=>
    obtain⟨k,hk,rfl,rfl,rfl,hc⟩:=hrel
    by_cases hlt:k<xs.length
    ·obtain⟨b,off,rfl,hbl,hcs⟩:=HX2.out.at (by intro h;rw[h]at hlt;simp at hlt)
     cases k with
     |zero=>
      have x0:wr.cell? ⟨b,off,none⟩=some (.int .i64 xs[0]):=hcs 0 hlt
      have HCS:=zh hcs
      clear hcs
      obtain⟨z,hz⟩:∃z,z=xs[0]:=⟨_,rfl⟩
      rw[←hz]at x0
      clear hz
      have i3:(0:Int)<(xs.length:Int):=by omega
      gi_wp2
      gi_roundg (xs.length-1)
      case rel=>exact⟨1,by omega,rfl,by go_num,rfl,hc⟩
      case measure=>omega
     |succ j=>
      have x0:wr.cell? ⟨b,off+(j+1),none⟩=some (.int .i64 xs[j+1]):=hcs (j+1) hlt
      have x1:wr.cell? ⟨b,off+j,none⟩=some (.int .i64 xs[j]):=hcs j (by omega)
      have HCS:=zh hcs
      have hstp:=chkO_step hlt
      clear hcs
      obtain⟨y,hy⟩:∃y,y=xs[j]:=⟨_,rfl⟩
      obtain⟨z,hz⟩:∃z,z=xs[j+1]:=⟨_,rfl⟩
      rw[←hy]at x1 hstp
      rw[←hz]at x0 hstp
      have HST:=zh hstp
      clear hy hz hstp
      have i0:(0:Int)≤(j:Int):=by omega
      have i1:(j:Int)<(xs.length:Int):=by omega
      have i2:(0:Int)≤(j:Int)+1:=by omega
      have i9:(0:Int)<(j:Int)+1:=by omega
      have i3:(j:Int)+1<(xs.length:Int):=by omega
      have i10:max (0:Int) (j:Int)=j:=by omega
      have i5:((j:Int)+1).toNat=j+1:=by omega
      rcases Nat.eq_zero_or_pos j with hj|hj
      ·have HJ0:=zh hj
       subst hj
       rw[Nat.add_zero]at x1
       by_cases hle:z≤y
       ·have hle':decide (z≤y)=true:=decide_eq_true hle
        have hch:=zh (show chkO xs=false by rw[hc.out];exact(HST.out).trans (if_pos hle))
        clear hc HST
        gi_wp2
        have hc5:=World.cell?_setCell_same' wr ⟨w.heap.size+1+1,0,none⟩ (.int .i64 11) (by rw[r3];rfl)
        refine⟨.int .i64 11,?_,by rw[hR.out,hch.out];rfl,hbw2.setCell (p:=⟨w.heap.size+1+1,0,none⟩) (by show w.heap.size≤w.heap.size+1+1;omega) _⟩
        simp[results,go_sem,hc5]
       ·have hle':decide (z≤y)=false:=decide_eq_false hle
        have hch:=zh (show chkO xs=chkO (xs.drop (0+1)) by rw[hc.out];exact(HST.out).trans (if_neg hle))
        clear hc HST
        gi_wp2
        gi_roundg (xs.length-(1+1))
        case rel=>exact⟨1+1,by omega,rfl,by go_num,rfl,hch⟩
        case measure=>omega
      ·by_cases hle:z≤y
       ·have hle':decide (z≤y)=true:=decide_eq_true hle
        have hch:=zh (show chkO xs=false by rw[hc.out];exact(HST.out).trans (if_pos hle))
        clear hc HST
        gi_wp2
        have hc5:=World.cell?_setCell_same' wr ⟨w.heap.size+1+1,0,none⟩ (.int .i64 11) (by rw[r3];rfl)
        refine⟨.int .i64 11,?_,by rw[hR.out,hch.out];rfl,hbw2.setCell (p:=⟨w.heap.size+1+1,0,none⟩) (by show w.heap.size≤w.heap.size+1+1;omega) _⟩
        simp[results,go_sem,hc5]
       ·have hle':decide (z≤y)=false:=decide_eq_false hle
        have hch:=zh (show chkO xs=chkO (xs.drop (j+1)) by rw[hc.out];exact(HST.out).trans (if_neg hle))
        clear hc HST
        gi_wp2
        gi_roundg (xs.length-(j+1+1))
        case rel=>exact⟨j+1+1,by omega,rfl,by go_num,rfl,hch⟩
        case measure=>omega
    ·have hkl:k=xs.length:=by omega
     subst hkl
     have hR2:=zh (show cbR g f t xs=(if !xs.any (f== ·)||xs.any (t== ·)then 19 else if xs.all (edgeOk g xs)then 0 else 19) by rw[hR.out,hc.out,chkO_end];rfl)
     clear hc
     have HEQ:=zh (fun v=>hasEq_c v A xs c wr hl HX2.out)
     cases hfa:xs.any (f== ·)with
     |false=>
      have hR3:=zh (show cbR g f t xs=19 by rw[hR2.out,hfa];rfl)
      have HF:=zh (HEQ.out f)
      rw[hfa]at HF
      clear hfa
      gi_wp2_with (first|(refine⟨trivial,?_⟩;gi_at_call 110;refine(callsIn_wide.2 HF.out).mono ?_;rintro e w' ⟨rfl,rfl⟩)|(refine⟨trivial,?_⟩))
      have hc5:=World.cell?_setCell_same' wr ⟨w.heap.size+1+1,0,none⟩ (.int .i64 19) (by rw[r3];rfl)
      refine⟨.int .i64 19,?_,by rw[hR3.out],hbw2.setCell (p:=⟨w.heap.size+1+1,0,none⟩) (by show w.heap.size≤w.heap.size+1+1;omega) _⟩
      simp[results,go_sem,hc5]
     |true=>
      have HF:=zh (HEQ.out f)
      rw[hfa]at HF
      cases hta:xs.any (t== ·)with
      |true=>
       have hR3:=zh (show cbR g f t xs=19 by rw[hR2.out,hfa,hta];rfl)
       have HT:=zh (HEQ.out t)
       rw[hta]at HT
       clear hfa hta
       gi_wp2_with (first|(refine⟨trivial,?_⟩;gi_at_call 110;first|(refine(callsIn_wide.2 HF.out).mono ?_;rintro e w' ⟨rfl,rfl⟩)|(refine(callsIn_wide.2 HT.out).mono ?_;rintro e w' ⟨rfl,rfl⟩)))
       have hc5:=World.cell?_setCell_same' wr ⟨w.heap.size+1+1,0,none⟩ (.int .i64 19) (by rw[r3];rfl)
       refine⟨.int .i64 19,?_,by rw[hR3.out],hbw2.setCell (p:=⟨w.heap.size+1+1,0,none⟩) (by show w.heap.size≤w.heap.size+1+1;omega) _⟩
       simp[results,go_sem,hc5]
      |false=>
       have hR3:=zh (show cbR g f t xs=(if xs.all (edgeOk g xs)then 0 else 19) by rw[hR2.out,hfa,hta];rfl)
       have HT:=zh (HEQ.out t)
       rw[hta]at HT
       clear hfa hta
       gi_wp2_with (first|(refine⟨trivial,?_⟩;gi_at_call 110;first|(refine(callsIn_wide.2 HF.out).mono ?_;rintro e w' ⟨rfl,rfl⟩)|(refine(callsIn_wide.2 HT.out).mono ?_;rintro e w' ⟨rfl,rfl⟩)))
       have HCB:=zh (show CBI w a g A xs.length c [] [] wr from⟨p0,p1,p2,p3,p4,R2.out,hbw2,by have:=hb22.size;have:=HSZ.out;omega,Marks.nil _ _⟩)
       clear p0 p1 p2 p3 p4 r3 r4
       refine wpIn_loop_ghost_k (fun(k:Nat) (a':Act) (wr:World)=>∃(ds:List Deferred) (u0 u1 u2 u3 u5 u6 u9 u10 u11 u12 u13 u14 u15 u16 u17 u18 u19 u20 u21 u22 u23 u24 u25 u26 u27 u28 u29 u30 u31 u32 u33 u34 u35 u36 u37 u38 u39 u40 u41 u42 u43 u44 u45 u46 u47 u48 u49 u50 u51 u52 u53 u54 u55 u56 u57 u58 u59 u60 u63 u64 u65 u66 u67 u68 u69 u70 u71 u72 u73 u74 u75 u76:Value),(∃(j:Nat) (Ds:List Nat),u63=.int .i64 j∧j≤xs.length∧k=xs.length-j∧CBI w a g A xs.length c ds Ds wr∧Hid (∀i (h:i<xs.length),i<j→edgeOk g xs xs[i]=true))∧a'= {tmps:= #[u0,u1,u2,u3,.pointer (some ⟨w.heap.size,0,none⟩),u5,u6,.pointer (some ⟨w.heap.size+1,0,none⟩),.pointer (some ⟨w.heap.size+1+1,0,none⟩),u9,u10,u11,u12,u13,u14,u15,u16,u17,u18,u19,u20,u21,u22,u23,u24,u25,u26,u27,u28,u29,u30,u31,u32,u33,u34,u35,u36,u37,u38,u39,u40,u41,u42,u43,u44,u45,u46,u47,u48,u49,u50,u51,u52,u53,u54,u55,u56,u57,u58,u59,u60,.slice A xs.length c,.int .i64 xs.length,u63,u64,u65,u66,u67,u68,u69,u70,u71,u72,u73,u74,u75,u76],defers:=ds}) xs.length ?_ ?_
       ·(repeat apply Exists.intro);refine⟨?_,rfl⟩
        exact⟨0,[],rfl,Nat.zero_le _,rfl,HCB.out,zh (fun i h hi=>absurd hi (Nat.not_lt_zero _))⟩
       ·clear HCB HX2 HG2 HEQ HF HT hb22 hbw2
        intro gk _ W1 hinv
        obtain⟨ds,u0,u1,u2,u3,u5,u6,u9,u10,u11,u12,u13,u14,u15,u16,u17,u18,u19,u20,u21,u22,u23,u24,u25,u26,u27,u28,u29,u30,u31,u32,u33,u34,u35,u36,u37,u38,u39,u40,u41,u42,u43,u44,u45,u46,u47,u48,u49,u50,u51,u52,u53,u54,u55,u56,u57,u58,u59,u60,u63,u64,u65,u66,u67,u68,u69,u70,u71,u72,u73,u74,u75,u76,⟨j,Ds,rfl,hj,rfl,hcb,hh⟩,rfl⟩:=hinv
        try dsimp only
        intro J K hJ hK
        have HJ:=zh hJ
        clear hJ
        have HCB:=zh hcb
        have p0:=hcb.g0
        have p1:=hcb.g1
        have p2:=hcb.g2
        have p3:=hcb.g3
        have p4:=hcb.p4
        have hszw:=hcb.sz
        have hxr:=(Rw.belowB (w0:=w) HXW.out hcb.low (Nat.le_refl _))
        clear hcb
        by_cases hlt:j<xs.length
        ·obtain⟨b,off,rfl,hbl,hcs⟩:=IntsR.at hxr (by intro h;rw[h]at hlt;simp at hlt)
         have x0:W1.cell? ⟨b,off+j,none⟩=some (.int .i64 xs[j]):=hcs j hlt
         obtain⟨y,hy⟩:∃y,y=xs[j]:=⟨_,rfl⟩
         rw[←hy]at x0
         have hyr:=HALL.out y (by rw[hy];exact List.getElem_mem _)
         have HY:=zh hy
         clear hy hcs
         have i0:(0:Int)≤(j:Int):=by omega
         have i3:(j:Int)<(xs.length:Int):=by omega
         gi_wp2_with (refine⟨trivial,?_⟩;gi_at_call 112;refine(callsIn_wide.2 (next_c _ _ _ _ _ _ g y _)).mono ?_;rintro e w' ⟨rfl,rfl⟩)
         obtain⟨W0',hW0⟩:∃W0,W0=(W1.alloc (.cells #[.int .i64 g.blur,.slice a.pS g.sta.length a.cs,.slice a.pM g.mov.length a.cm,.slice a.pZ g.zon.length a.cz] 38)).alloc (.cells #[.int .i64 y] 3):=⟨_,rfl⟩
         have hB0:Below W1.heap.size W1 W0':=by rw[hW0];exact zbl
         have hsz:W0'.heap.size=W1.heap.size+2:=by rw[hW0];simp
         have hlow:=HCB.out.low.size
         have hst:=next_stopsA 4 (by decide) a.pS a.pM a.pZ a.cs a.cm a.cz g y W1.heap.size (W1.heap.size+1) w.heap.size hok hyr.1 hyr.2 W0' (by omega) (by omega) (by omega) (by rw[hW0];simp[World.cell?_alloc_lt,cells_new]) (by rw[hW0];simp[World.cell?_alloc_lt,cells_new]) (by rw[hW0];simp[World.cell?_alloc_lt,cells_new]) (by rw[hW0];simp[World.cell?_alloc_lt,cells_new]) (by rw[hW0];simp[cells_new])
          (HGW.out.belowB (w0:=w) (HCB.out.low.trans (hB0.mono hlow)) (Nat.le_refl _))
         have hDs:∀D∈Ds,D<W0'.heap.size:=fun D hD=>by have:=HCB.out.mks.lt hD;omega
         have hcb0:=HCB.out.below hB0
         rw[←hW0]
         refine wpIn_rangeFunc_ownG rfl (by decide) (gf:=163) (lb:= #[.pointer (some ⟨W1.heap.size,0,none⟩),.pointer (some ⟨W1.heap.size+1,0,none⟩)]) rfl trivial (enters_of Tryz.func163 (by kernel_rfl) rfl)
          hst KpN.t (kpN_b (by omega) (by omega) (by omega)) (Below.refl _ _) (fun _=>rfl)
          (fun(pre:List (NA g y)) W=>CBI w a g (some ⟨b,off,none⟩) xs.length c ds Ds W∧(W0'.heap.size≤W.heap.size∧Hid (∀x∈pre,xs.any (x.1.1.1== ·)=true)))
          (fun c' (pre:List (NA g y)) W=>(W.cell? ⟨w.heap.size+1+1,0,none⟩=some (.int .i64 19)∧Below w.heap.size w W)∧(Marks w.heap.size ds Ds W∧c'=.ret∧Hid (∃x∈pre,xs.any (x.1.1.1== ·)=false)))
          (OwnFrom.and (CBI.ownFrom (by omega) hDs) (OwnFrom.and (fun _ _ _ _ hs hg _=>Nat.le_trans hs hg.size) (ownFrom_pure _ _)))
          (fun c=>OwnFrom.and (OwnFrom.and (ownFrom_cell _ _ _) (ownFrom_below (Nat.le_refl _) (by omega))) (OwnFrom.and (fun _ _ _ _ hs hg hr=>hs.grown hg fun r e hm=>by have:=hDs r hm;have:=(hr r e).1;omega) (ownFrom_pure _ _)))
          ⟨hcb0,Nat.le_refl _,zh (by simp)⟩
          ?a1 ?assign ?body ?done ?stop
         case assign=>
          intro l x W K hK
          gi_wp2
          exact hK
         case body=>
          rintro l pre x W ⟨hcb,hsl,hno⟩ _
          have HCB2:=zh hcb
          have q4:=hcb.p4
          have r3:=hcb.rb.cell
          have r4:=hcb.rb.frozen
          have hq:=hcb.sz
          have HEQ:=hasEq_c x.1.1.1 (some ⟨b,off,none⟩) xs c W hl (Rw.more (Rw.belowB (w0:=w) HXW.out hcb.low (Nat.le_refl _)) hcb.low.size)
          clear hcb
          cases hxa:xs.any (x.1.1.1== ·)with
          |true=>
           rw[hxa]at HEQ
           have HE2:=zh HEQ
           have HXA:=zh hxa
           clear HEQ hxa
           gi_wp2_with (refine⟨trivial,?_⟩;gi_at_call 110;refine(CallsIn.inRound l (callsIn_wide.2 HE2.out)).mono ?_;rintro e w' ⟨rfl,rfl⟩)
           refine⟨KeepsFrom.refl _ _,KpN.refl _ _ _ _,HCB2.out,hsl,zh fun z hz=>?_⟩
           rcases List.mem_append.1 hz with hz|hz
           ·exact hno.out z hz
           ·simp only[List.mem_singleton]at hz;subst hz;exact HXA.out
          |false=>
           rw[hxa]at HEQ
           have HE2:=zh HEQ
           have HXA:=zh hxa
           clear HEQ hxa
           gi_wp2_with (refine⟨trivial,?_⟩;gi_at_call 110;refine(CallsIn.inRound l (callsIn_wide.2 HE2.out)).mono ?_;rintro e w' ⟨rfl,rfl⟩)
           exact⟨(KeepsOthers.setCell _ _ _).from _,⟨World.cell?_setCell_same' _ _ _ (by rw[r3];rfl),HCB2.out.low.setCell (p:=⟨w.heap.size+1+1,0,none⟩) (by simp) _⟩,HCB2.out.mks.grown (grownBy_setCell' W (w.heap.size+1+1) (.int .i64 19)) (fun r e=>by cases e;exact HCB2.out.mks.notCells HCB2.out.rb),rfl,zh ⟨x,by simp,HXA.out⟩⟩
         case done=>
          rintro D ys W hD hys ⟨hcb,hsl,hno⟩ hKD
          have HCB3:=zh hcb
          clear hcb
          gi_wp2
          refine Handed.intro (xs.length-(j+1)) (by omega) (HJ.out _ _ _ ?_)
          (repeat apply Exists.intro);refine⟨?_,rfl⟩
          refine⟨j+1,D::Ds,by go_num,by omega,rfl,{HCB3.out with mks:=HCB3.out.mks.cons (fun hm=>by have:=hDs _ hm;omega) (by omega) hKD},zh fun i hi hij=>?_⟩
          by_cases e:i=j
          ·subst e
           rw[←HY.out]
           show(nbrs g y g.mov).all _=true
           rw[←hys,List.all_eq_true]
           intro z hz
           obtain⟨z',hz',rfl⟩:=List.mem_map.1 hz
           exact hno.out z' hz'
          ·exact hh.out i hi (by omega)
         case stop=>
          rintro D c' pre W hD hpre ⟨⟨hc,hB⟩,hmk,rfl,hp⟩ hKD
          gi_wp2
          have hmk2:=hmk.cons (D:=D) (fun hm=>by have:=hDs _ hm;omega) (by omega) hKD
          have hne:xs.all (edgeOk g xs)=false:=by
           obtain⟨z,hz,hf⟩:=hp.out
           obtain⟨rest,hpr⟩:=hpre
           rw[List.all_eq_false]
           refine⟨y,by rw[HY.out];exact List.getElem_mem _,?_⟩
           rw[Bool.not_eq_true]
           show(nbrs g y g.mov).all _=false
           rw[←hpr,List.all_eq_false]
           exact⟨z.1,List.mem_append.2 (.inl (List.mem_map.2 ⟨z,hz,rfl⟩)),by rw[hf];simp⟩
          refine leaves_marks hmk2 fun W' hl=>⟨.int .i64 19,?_,by rw[hR3.out,hne];rfl,hB.trans (hl.grown fun D' hD'=>(hmk2.at_ D' hD').1)⟩
          have hc5:=hl.cell hmk2 hc
          simp[results,go_sem,hc5]
        ·have r3:=HCB.out.rb.cell
         have r4:=HCB.out.rb.frozen
         have hjn:j=xs.length:=by omega
         have hyes:xs.all (edgeOk g xs)=true:=by
          rw[List.all_eq_true]
          intro z hz
          obtain⟨i,hi,rfl⟩:=List.getElem_of_mem hz
          exact hh.out i hi (by omega)
         have HYES:=zh hyes
         clear hyes
         subst hjn
         gi_wp2
         have hc6:=World.cell?_setCell_same' W1 ⟨w.heap.size+1+1,0,none⟩ (.int .i64 0) (by rw[r3];rfl)
         have hmk2:=HCB.out.mks.grown (grownBy_setCell' W1 (w.heap.size+1+1) (.int .i64 0)) (fun r e=>by cases e;exact HCB.out.mks.notCells HCB.out.rb)
         refine leaves_marks hmk2 fun W' hl=>⟨.int .i64 0,?_,by rw[hR3.out,HYES.out];rfl,(HCB.out.low.setCell (p:=⟨w.heap.size+1+1,0,none⟩) (by simp) _).trans (hl.grown fun D' hD'=>(hmk2.at_ D' hD').1)⟩
         have hc5:=hl.cell hmk2 hc6
         simp[results,go_sem,hc5]
 ·have hz1':(firstErr [fromC g [f,t],whn (decide ((16:Int)<xs.length)) 5]!=0)=true:=by rw[bne_iff_ne];exact he
  have hR:=zh (show cbR g f t xs=firstErr [fromC g [f,t],whn (decide ((16:Int)<xs.length)) 5] by unfold cbR;rw[if_pos he];rfl)
  have HE:=zh he;clear he
  gi_wp2
  have hc5:=World.cell?_setCell_same' Wa ⟨w.heap.size+1+1,0,none⟩ (.int .i64 (firstErr [fromC g [f,t],whn (decide ((16:Int)<xs.length)) 5])) (by rw[r0];rfl)
  refine⟨.int .i64 (firstErr [fromC g [f,t],whn (decide ((16:Int)<xs.length)) 5]),?_,by rw[hR.out],hBw.setCell (p:=⟨w.heap.size+1+1,0,none⟩) (by show w.heap.size≤w.heap.size+1+1;omega) _⟩
  simp[results,go_sem,hc5]
end Go.Proofs.YtehnikhicnnnhaaGreatDoor
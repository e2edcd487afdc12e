/- checkStation, mapped over it, checkFrom. | checkFrom, reached, Reached, Way, Barrier. | Reached, Way, Barrier. | Barrier, home, Homes. -/
import Derived.Test.YtehnikhicnnnhaaGreatDoorPa08
namespace Go.Proofs.YtehnikhicnnnhaaGreatDoor
open Go.RowKit
theorem hasB_iffG{g:Grd}{i:Int}:hasB g i=true↔0≤i∧i<g.sta.length:=by unfold hasB;exact decide_eq_true_iff
theorem isSafeG_c(a:GA)(g:Grd)(i:Int)(w:World)(hg:okG g)(hr:GridR w w.heap.size a g)(hi:0≤i∧i<g.sta.length):
 Calls Tryz.prog 108 #[(.agg #[.int .i64 g.blur,.slice a.pS g.sta.length a.cs,.slice a.pM g.mov.length a.cm,.slice a.pZ g.zon.length a.cz]),.int .i64 i] w fun e w'=>e=.returned (.bool (isSafeG g i))∧Below w.heap.size w w':=by
 obtain⟨k,rfl⟩:=Int.eq_ofNat_of_zero_le hi.1
 exact isSafe_c a g k w hg hr (by omega)
set_option maxHeartbeats 1000000 in
theorem checkStation_c(a:GA)(g:Grd)(i:Int)(w:World)(hg:okG g)(hr:GridR w w.heap.size a g):
 Calls Tryz.prog 157 #[(.agg #[.int .i64 g.blur,.slice a.pS g.sta.length a.cs,.slice a.pM g.mov.length a.cm,.slice a.pZ g.zon.length a.cz]),.int .i64 i] w fun e w'=>e=.returned (.int .i64 (staC g i))∧Below w.heap.size w w':=by
 have HG:=zh (hr.sx (Nat.le_refl _) ((Sx.refl w).alloc (.cells #[.int .i64 g.blur,.slice a.pS g.sta.length a.cs,.slice a.pM g.mov.length a.cm,.slice a.pZ g.zon.length a.cz] 38)))
 clear hr
 by_cases hb:hasB g i=true
 ·have HI:=zh (hasB_iffG.1 hb)
  have hz:=zh (show staC g i=whn (!isSafeG g i) 31 by unfold staC;rw[if_pos hb])
  go_enter Tryz.func157,Tryz.ntmps157
  go_wp2_with (first|(go_at_call 107;refine(has_c a g i _).mono ?_;rintro e w1 ⟨rfl,hb1⟩;(have b0:w1.cell? ⟨w.heap.size,0,none⟩=some (.int .i64 g.blur):=(hb1.cell (p:=⟨w.heap.size,0,none⟩) (by simp)).trans (by simp));(have b1:w1.cell? ⟨w.heap.size,1,none⟩=some (.slice a.pS g.sta.length a.cs):=(hb1.cell (p:=⟨w.heap.size,1,none⟩) (by simp)).trans (by simp));(have b2:w1.cell? ⟨w.heap.size,2,none⟩=some (.slice a.pM g.mov.length a.cm):=(hb1.cell (p:=⟨w.heap.size,2,none⟩) (by simp)).trans (by simp));(have b3:w1.cell? ⟨w.heap.size,3,none⟩=some (.slice a.pZ g.zon.length a.cz):=(hb1.cell (p:=⟨w.heap.size,3,none⟩) (by simp)).trans (by simp)))|(go_at_call 108;refine(isSafeG_c a g i _ hg (HG.out.sx (by simp) (by exact zsx)) HI.out).mono ?_;rintro e w2 ⟨rfl,hb2⟩)|(go_at_call 104;refine(when_c _ _ _).mono ?_;rintro e w' ⟨rfl,rfl⟩))
  go_ret
  exact⟨ret_int hz.out.symm,by exact zbl⟩
 ·have hb':hasB g i=false:=by simpa using hb
  have hz:=zh (show staC g i=10 by unfold staC;rw[if_neg hb])
  go_enter Tryz.func157,Tryz.ntmps157
  go_wp2_with (go_at_call 107;refine(has_c a g i _).mono ?_;rintro e w1 ⟨rfl,hb1⟩)
  go_ret
  exact⟨ret_int hz.out.symm,by exact zbl⟩
theorem Tryz.infoErr:(Tryz.prog.info? 31).map (fun i=>(i.zero,i.size,i.bytes))=some (some (.int .i64 0),1,8):=by kernel_rfl
def OwnE(w:World)(base:Nat)(v:Value)(xs:List Int):Prop:=w.ownsRow base 31 1 v xs.length (xs.map (Value.int .i64))
theorem OwnE.below{w w':World}{base:Nat}{v:Value}{xs:List Int}(h:OwnE w base v xs)(hb:Below w.heap.size w w'):OwnE w' base v xs:=
 World.ownsRow.kept h (row:=none) (grown_of hb) (by cases v.ownBlock<;>simp)
theorem OwnE.alloc{w:World}{base:Nat}{v:Value}{xs:List Int}(h:OwnE w base v xs)(o:Obj):OwnE (w.alloc o) base v xs:=World.ownsRow.alloc h o
theorem OwnE.app{w:World}{base:Nat}{v:Value}{xs:List Int}{k:Int}(h:w.ownsRow base 31 1 v (xs.length+1) (xs.map (Value.int .i64)++ [.int .i64 k])):OwnE w base v (xs++ [k]):=by
 unfold OwnE;simpa using h
theorem OwnE.cells{w:World}{base:Nat}{v:Value}{xs:List Int}(h:OwnE w base v xs):(v=.slice none 0 0∧xs= [])∨∃b c,v=.slice (some ⟨b,0,none⟩) xs.length c∧CellsAt w b 0 xs:=by
 obtain⟨_,h2⟩:=h
 rcases h2 with ⟨h3,h4⟩|⟨g,cap,cur,e1,_,hg,hc,_,hz,ht⟩
 ·exact .inl ⟨h3,List.length_eq_zero_iff.1 h4⟩
 ·refine .inr ⟨g,cap,e1,?_⟩
  have key:∀(l:List Int) (k:Nat),(∀j x,l[j]? =some x→cur[k+j]? =some (.int .i64 x))→CellsAt w g k l:=by
   intro l
   induction l with
   |nil=>intro k _;trivial
   |cons a l ih=>
    intro k hk
    refine⟨?_,ih (k+1) fun j x hj=>by rw[show k+1+j=k+(j+1) by omega];exact hk (j+1) x (by simpa using hj)⟩
    unfold World.cell?
    simp only[hg]
    simpa using hk 0 a rfl
  refine key xs 0 fun j x hj=>?_
  have hj':=(List.getElem?_eq_some_iff.1 hj).1
  have h6:(cur.toList.take (xs.length*1))[j]? =(xs.map (Value.int .i64))[j]? :=by rw[ht]
  rw[List.getElem?_take_of_lt (by omega),List.getElem?_map,hj]at h6
  simpa using h6
set_option maxRecDepth 100000 in
set_option maxHeartbeats 2000000 in
theorem mappedE_c(p:Int→Int)(gf:Nat)(fs cap:Array Value)(A:Option Addr)(xs:List Int)(c:Nat)(w:World)(hl:xs.length≤1000)
 (hen:∀args w,(callFunc gf args).run Tryz.prog w=.ok (.enter gf args) w) (hr:IntsR w w.heap.size A xs)
 (hcall:∀x∈xs,∀W,Below w.heap.size w W→Calls Tryz.prog gf (fs++ #[.int .i64 x]++cap) W fun e W'=>e=.returned (.int .i64 (p x))∧Below W.heap.size W W'):
 Calls Tryz.prog 156 #[.slice A xs.length c,.func (.func gf) fs cap] w fun e w'=>∃v,e=.returned v∧OwnE w' w.heap.size v (xs.map p)∧Below w.heap.size w w':=by
 obtain⟨i0,hi,hz0,hz1,hz2⟩:=info_parts Tryz.infoErr
 have HR:=zh hr;clear hr
 have HC:=zh hcall;clear hcall
 go_enter Tryz.func156,Tryz.ntmps156
 go_wp2_with fail
 go_loopw [5,10] (fun v i wr=>∃k:Nat,k≤xs.length∧i=.int .i64 k∧OwnE wr w.heap.size v ((xs.take k).map p)∧Below w.heap.size w wr) (fun _ i _=>xs.length-(intOf i).toNat)
 case atStart=>exact⟨0,Nat.zero_le _,rfl,World.ownsRow_nil _ _ _ _,Below.refl _ _⟩
 case round=>
  obtain⟨k,hk,rfl,hown,hb⟩:=hrel
  by_cases hlt:k<xs.length
  ·have hq:=HC.out xs[k] (List.getElem_mem hlt) wr hb
   obtain⟨b,off,rfl,_,c0⟩:=IntsR.get (show IntsR wr w.heap.size A xs from Rw.belowB (w0:=w) HR.out hb (Nat.le_refl _)) hlt
   have HQ:=zh hq;clear hq
   obtain⟨pl,hpl⟩:∃pl,pl=(xs.take k).map p:=⟨_,rfl⟩
   rw[←hpl]at hown
   have hkl:pl.length≤1000:=by rw[hpl];simp;omega
   have HPL:=zh hpl
   clear hpl
   go_wp2_with (first|(refine HQ.out.mono ?_;rintro e w2 ⟨rfl,hb2⟩)|(at_builtin;refine wpList_append_own _ rfl _ _ 250 rfl w.heap.size 31 i0 (.int .i64 0) 1 8 Tryz.underlying250 hi hz0 hz1 hz2 rfl (by decide) _ _ _ rfl ((OwnE.below hown hb2).alloc _) ⟨w2.heap.size,0,none⟩ 1 1 [.int .i64 (p xs[k])] rfl rfl ?c1 ?c2 ?c3 ?c4 ?c5 ?_))
   case c1=>
    intro j u hj
    match j,hj with
    |0,hj=>simp at hj;subst hj;simp[Addr.add]
   case c2=>intro u hu;simp at hu;subst hu;rfl
   case c3=>unfold maxLen;omega
   case c4=>omega
   case c5=>have:=hb.size;have:=hb2.size;simp;omega
   intro v' w4 hown' hgrow _
   go_wp2_with fail
   go_roundw
   case rel=>exact⟨k+1,by omega,by go_num,by rw[List.take_succ_eq_append_getElem hlt,List.map_append,←HPL.out];exact OwnE.app hown',Below.grown (by exact zbl) hgrow (by have:=hb.size;have:=hb2.size;simp;omega) (fun j e=>(World.ownsRow.lt hown j e).1)⟩
   case measure=>simp[intOf];omega
  ·have hkl:k=xs.length:=by omega
   subst hkl
   rw[List.take_length]at hown
   go_wp2_with fail
   go_ret
   exact⟨_,rfl,hown,hb⟩
set_option maxHeartbeats 400000 in
theorem firstG_c(b c:Nat)(xs:List Int)(w:World)(hx:xs.length≤1000)(hb:CellsAt w b 0 xs):
 Calls Tryz.prog 103 #[.slice (some ⟨b,0,none⟩) xs.length c] w fun e w'=>e=.returned (.int .i64 (firstErr xs))∧w=w':=by
 have hcell:∀k (h:k<xs.length),w.cell? ⟨b,k,none⟩=some (.int .i64 xs[k]):=by
  intro k h
  simpa using hb.get k h
 have HB:=zh hb;clear hb
 have HC:=zh hcell;clear hcell
 go_enter Tryz.func103,Tryz.ntmps103
 go_wp2
 go_loop [7] (fun i=>∃k:Nat,k≤xs.length∧i=.int .i64 k∧Hid (firstErr (xs.take k)=0)) (fun i=>xs.length-(intOf i).toNat)
 case atStart=>exact⟨0,Nat.zero_le _,rfl,zh (by simp[firstErr])⟩
 case round=>
  obtain⟨k,hk,rfl,hf⟩:=hrel
  by_cases hlt:k<xs.length
  ·have hc:=HC.out k hlt
   by_cases hz:xs[k]=0
   ·have hz':(xs[k]!=0)=false:=by simp[hz]
    go_wp2
    go_round
    case rel=>exact⟨k+1,by omega,by go_num,zh ((firstErr_take_succ xs k hlt hf.out).trans hz)⟩
    case measure=>simp[intOf];omega
   ·have hz':(xs[k]!=0)=true:=by simp[hz]
    have HF:=zh (firstErr_at xs k hlt hf.out hz)
    clear hz
    go_wp2
    go_ret
    exact⟨ret_int HF.out.symm,rfl⟩
  ·go_wp2
   go_ret
   have:=hf.out
   rw[List.take_of_length_le (by omega)]at this
   exact⟨ret_int this.symm,rfl⟩
theorem Sx.trans{A B C:World}(h:Sx A B)(k:Sx B C):Sx A C:=⟨Nat.le_trans h.1 k.1,fun b o hb=>(k.2 b o (Nat.lt_of_lt_of_le hb h.1)).trans (h.2 b o hb)⟩
def fromC(g:Grd)(l:List Int):Int:=if gridC g≠0 then gridC g else firstErr (l.map (staC g))
theorem enters_cs(args:Array Value)(w:World):(callFunc 157 args).run Tryz.prog w=.ok (.enter 157 args) w:=
 enters_of Tryz.func157 (by kernel_rfl) rfl args w
set_option maxRecDepth 100000 in
set_option maxHeartbeats 2000000 in
theorem checkFrom_c(a:GA)(g:Grd)(A:Option Addr)(xs:List Int)(c:Nat)(w:World)(hs:SmallG g)(hr:GridR w w.heap.size a g)(hkd:KindsAt w)(hx:IntsR w w.heap.size A xs)(hl:xs.length≤100)(hne:xs≠ []):
 Calls Tryz.prog 92 #[(.agg #[.int .i64 g.blur,.slice a.pS g.sta.length a.cs,.slice a.pM g.mov.length a.cm,.slice a.pZ g.zon.length a.cz]),.slice A xs.length c] w fun e w'=>e=.returned (.int .i64 (fromC g xs))∧Below w.heap.size w w':=by
 have hsx:=(Sx.refl w).alloc (.cells #[.int .i64 g.blur,.slice a.pS g.sta.length a.cs,.slice a.pM g.mov.length a.cm,.slice a.pZ g.zon.length a.cz] 38)
 have HG:=zh (hr.sx (Nat.le_refl _) hsx)
 have HK:=zh (hkd.alloc (.cells #[.int .i64 g.blur,.slice a.pS g.sta.length a.cs,.slice a.pM g.mov.length a.cm,.slice a.pZ g.zon.length a.cz] 38))
 have HX:=zh hx
 clear hr hkd hx
 by_cases he:gridC g=0
 ·have hz1':(gridC g !=0)=false:=by rw[bne_eq_false_iff_eq];exact he
  have HE:=zh he;clear he
  have hok:=gridC_ok HE.out
  obtain⟨el,hel⟩:∃el,el=xs.map (staC g):=⟨_,rfl⟩
  have hlen:el.length≤1000:=by rw[hel];simp;omega
  have HF:=zh (show fromC g xs=firstErr el by unfold fromC;rw[if_neg (fun h=>h HE.out),hel])
  have HMP:=zh (show ∀W,Sx (w.alloc (.cells #[.int .i64 g.blur,.slice a.pS g.sta.length a.cs,.slice a.pM g.mov.length a.cm,.slice a.pZ g.zon.length a.cz] 38)) W→Calls Tryz.prog 156 #[.slice A xs.length c,.func (.func 157) #[(.agg #[.int .i64 g.blur,.slice a.pS g.sta.length a.cs,.slice a.pM g.mov.length a.cm,.slice a.pZ g.zon.length a.cz])] #[]] W fun e w'=>∃b c2,e=.returned (.slice (some ⟨b,0,none⟩) el.length c2)∧CellsAt w' b 0 el∧Below W.heap.size W w' from fun W hW=>by
   refine(mappedE_c (staC g) 157 #[(.agg #[.int .i64 g.blur,.slice a.pS g.sta.length a.cs,.slice a.pM g.mov.length a.cm,.slice a.pZ g.zon.length a.cz])] #[] A xs c W (by omega) enters_cs (Rw.sx HX.out (Nat.le_refl _) (hsx.trans hW)) (fun x _ W2 hW2=>checkStation_c a g x W2 hok (HG.out.sx (Nat.le_refl _) (hW.trans (Sx.below' hW2 (Sx.refl W)))))).mono ?_
   rintro e w' ⟨v,rfl,hown,hb⟩
   rw[←hel]at hown
   rcases hown.cells with ⟨_,hn⟩|⟨b,c2,rfl,hc⟩
   ·rw[hel]at hn;exact absurd (List.map_eq_nil_iff.1 hn) hne
   ·exact⟨b,c2,rfl,hc,hb⟩)
  clear hel hsx
  go_enter Tryz.func92,Tryz.ntmps92
  go_wp2_with (first|(go_at_call 66;refine(CheckGrid_c a g _ hs HG.out HK.out).mono ?_;rintro e w1 ⟨rfl,hb1⟩;(have b0:w1.cell? ⟨w.heap.size,0,none⟩=some (.int .i64 g.blur):=(hb1.cell (p:=⟨w.heap.size,0,none⟩) (by simp)).trans (by simp));(have b1:w1.cell? ⟨w.heap.size,1,none⟩=some (.slice a.pS g.sta.length a.cs):=(hb1.cell (p:=⟨w.heap.size,1,none⟩) (by simp)).trans (by simp));(have b2:w1.cell? ⟨w.heap.size,2,none⟩=some (.slice a.pM g.mov.length a.cm):=(hb1.cell (p:=⟨w.heap.size,2,none⟩) (by simp)).trans (by simp));(have b3:w1.cell? ⟨w.heap.size,3,none⟩=some (.slice a.pZ g.zon.length a.cz):=(hb1.cell (p:=⟨w.heap.size,3,none⟩) (by simp)).trans (by simp)))|(go_at_call 156;refine(HMP.out _ (by exact zsx)).mono ?_;rintro e w2 ⟨b,c2,rfl,hcl,hb2⟩)|(go_at_call 103;refine(firstG_c b c2 el _ hlen hcl).mono ?_;rintro e w' ⟨rfl,rfl⟩))
  go_ret
  exact⟨ret_int HF.out.symm,by exact zbl⟩
 ·have hz1':(gridC g !=0)=true:=by rw[bne_iff_ne];exact he
  have HF:=zh (show fromC g xs=gridC g by unfold fromC;rw[if_pos he])
  clear he hsx
  go_enter Tryz.func92,Tryz.ntmps92
  go_wp2_with (go_at_call 66;refine(CheckGrid_c a g _ hs HG.out HK.out).mono ?_;rintro e w1 ⟨rfl,hb1⟩)
  go_ret
  exact⟨ret_int HF.out.symm,by exact zbl⟩
def reachK(g:Grd)(f:Int)(k:Nat):List Int:=((List.range k).filter fun i=>(wayG g f (i:Nat)).isSome).map Int.ofNat
theorem reachK_succ(g:Grd)(f:Int)(k:Nat):reachK g f (k+1)=reachK g f k++(if(wayG g f (k:Nat)).isSome then [(k:Int)]else []):=by
 unfold reachK
 rw[List.range_succ,List.filter_append,List.map_append]
 congr 1
 by_cases h:(wayG g f (k:Nat)).isSome<;>simp[h]
theorem reachK_len(g:Grd)(f:Int)(k:Nat):(reachK g f k).length≤k:=by
 unfold reachK;rw[List.length_map];exact Nat.le_trans (List.length_filter_le _ _) (by simp)
theorem TabD.belowB{w0 w w':World}{m B:Nat}{D:Int→Option Rt}(h:TabD w m B D)(hb:Below w0.heap.size w w')(hm:m<w0.heap.size)(hB:B≤w0.heap.size):TabD w' m B D:=
 h.keep (hb.block m hm) (fun b o hlt=>hb.cell (p:=⟨b,o,none⟩) (by show b<_;omega))
set_option maxRecDepth 100000 in
set_option maxHeartbeats 2000000 in
theorem reached_c(a:GA)(g:Grd)(f:Int)(w:World)(hok:okG g)(hu:Uniq g.mov)(hf0:0≤f)(hf1:f<g.sta.length)(hr:GridR w w.heap.size a g):
 Calls Tryz.prog 93 #[(.agg #[.int .i64 g.blur,.slice a.pS g.sta.length a.cs,.slice a.pM g.mov.length a.cm,.slice a.pZ g.zon.length a.cz]),.int .i64 f] w fun e w'=>∃v,e=.returned v∧OwnI w' w.heap.size v (reachG g f)∧Below w.heap.size w w':=by
 obtain⟨i0,hi,hz0,hz1,hz2⟩:=info_parts Tryz.infoInt
 have hns:=hok.ns
 have HG:=zh (hr.sx (Nat.le_refl _) ((Sx.refl w).alloc (.cells #[.int .i64 g.blur,.slice a.pS g.sta.length a.cs,.slice a.pM g.mov.length a.cm,.slice a.pZ g.zon.length a.cz] 38)))
 clear hr
 go_enter Tryz.func93,Tryz.ntmps93
 go_wp2_with (go_at_call 94;refine(routes_c a.pS a.pM a.pZ a.cs a.cm a.cz g f _ hok hu hf0 hf1 HG.out).mono ?_;rintro e w1 ⟨m,rfl,hb1,hm1,ht1⟩;(have b0:w1.cell? ⟨w.heap.size,0,none⟩=some (.int .i64 g.blur):=(hb1.cell (p:=⟨w.heap.size,0,none⟩) (by first|(simp;done)|(simp;omega)|(show w.heap.size<_;omega))).trans (by first|assumption|(simp;done)));(have b1:w1.cell? ⟨w.heap.size,1,none⟩=some (.slice a.pS g.sta.length a.cs):=(hb1.cell (p:=⟨w.heap.size,1,none⟩) (by first|(simp;done)|(simp;omega)|(show w.heap.size<_;omega))).trans (by first|assumption|(simp;done)));(have b2:w1.cell? ⟨w.heap.size,2,none⟩=some (.slice a.pM g.mov.length a.cm):=(hb1.cell (p:=⟨w.heap.size,2,none⟩) (by first|(simp;done)|(simp;omega)|(show w.heap.size<_;omega))).trans (by first|assumption|(simp;done)));(have b3:w1.cell? ⟨w.heap.size,3,none⟩=some (.slice a.pZ g.zon.length a.cz):=(hb1.cell (p:=⟨w.heap.size,3,none⟩) (by first|(simp;done)|(simp;omega)|(show w.heap.size<_;omega))).trans (by first|assumption|(simp;done)));(have HT:=zh ht1);clear ht1)
 have hb1':Below w.heap.size w w1:=by exact zbl
 have hs1:=hb1.size
 have hml:=HT.out.lt
 simp at hs1 hm1
 go_loopw [6,16] (fun v i wr=>∃k:Nat,k≤g.sta.length∧i=.int .i64 k∧OwnI wr w1.heap.size v (reachK g f k)∧Below w1.heap.size w1 wr) (fun _ i _=>g.sta.length-(intOf i).toNat)
 case atStart=>exact⟨0,Nat.zero_le _,rfl,OwnI.nil_ _ _,Below.refl _ _⟩
 case round=>
  obtain⟨k,hk,rfl,hown,hb⟩:=hrel
  have hln:=reachK_len g f k
  have hbs:=hb.size
  by_cases hlt:k<g.sta.length
  ·have hst:=reachK_succ g f k
   rcases Tryz.look (HT.out.belowB (w0:=w1) hb hml (Nat.le_refl _)) (k:Int)with ⟨hD,hlk,_⟩|⟨A,c,r,hD,_,_,hlk,_⟩
   ·rw[hD]at hst
    simp only[Option.isSome_none,Bool.false_eq_true,if_false,List.append_nil]at hst
    have HST:=zh hst
    clear hst hD
    go_wp2_with fail
    go_roundw
    case rel=>exact⟨k+1,by omega,by go_num,by rw[HST.out];exact hown.alloc _,by exact zbl⟩
    case measure=>simp[intOf];omega
   ·rw[hD]at hst
    simp only[Option.isSome_some,if_true]at hst
    have HST:=zh hst
    clear hst hD
    go_wp2_with (at_builtin;refine wpList_append_own _ rfl _ _ 30 rfl w1.heap.size 3 i0 (.int .i64 0) 1 8 Tryz.underlying30 hi hz0 hz1 hz2 rfl (by decide) _ _ _ rfl ((hown.alloc _).alloc _) ⟨wr.heap.size+1,0,none⟩ 1 1 [.int .i64 k] rfl rfl ?c1 ?c2 ?c3 ?c4 ?c5 ?_)
    case c1=>
     intro j u hj
     match j,hj with
     |0,hj=>simp at hj;subst hj;simp[Addr.add,cells_new]
    case c2=>intro u hu;simp at hu;subst hu;rfl
    case c3=>unfold maxLen;omega
    case c4=>omega
    case c5=>simp;omega
    intro v' w4 hown' hgrow _
    go_wp2_with fail
    go_roundw
    case rel=>exact⟨k+1,by omega,by go_num,by rw[HST.out];exact OwnI.app hown',Below.grown (by exact zbl) hgrow (by simp;omega) (fun j e=>(World.ownsRow.lt hown j e).1)⟩
    case measure=>simp[intOf];omega
  ·have hkl:k=g.sta.length:=by omega
   subst hkl
   go_wp2_with fail
   go_ret
   exact⟨_,rfl,hown.mono (by omega),hb1'.trans (hb.mono (by omega))⟩
theorem Tryz.lookN{w:World}{r B:Nat}{D:Int→Option Rt}(h:TabD w r B D){k:Int}(hD:D k=none):
 (∀W:World,W.heap[r]? =w.heap[r]? →(Instr.lookup 170 (.map (some r)) (.int .i64 k) true).run Tryz.prog W=.ok (.tuple #[.agg #[.slice none 0 0,.int .i64 0],.bool false]) W)∧
 (∀W:World,W.heap[r]? =w.heap[r]? →(Instr.lookup 170 (.map (some r)) (.int .i64 k) false).run Tryz.prog W=.ok (.agg #[.slice none 0 0,.int .i64 0]) W):=by
 rcases Tryz.look h k with ⟨_,h1,h2⟩|⟨A,c,r',h1,_⟩
 ·exact⟨h1,h2⟩
 ·rw[hD]at h1;cases h1
theorem Tryz.lookS{w:World}{r B:Nat}{D:Int→Option Rt}(h:TabD w r B D){k:Int}{rt:Rt}(hD:D k=some rt):
 ∃A c,rt.st.length≤c∧IntsR w B A rt.st∧
  (∀W:World,W.heap[r]? =w.heap[r]? →(Instr.lookup 170 (.map (some r)) (.int .i64 k) true).run Tryz.prog W=.ok (.tuple #[.agg #[.slice A rt.st.length c,.int .i64 rt.n],.bool true]) W)∧
  (∀W:World,W.heap[r]? =w.heap[r]? →(Instr.lookup 170 (.map (some r)) (.int .i64 k) false).run Tryz.prog W=.ok (.agg #[.slice A rt.st.length c,.int .i64 rt.n]) W):=by
 rcases Tryz.look h k with ⟨h1,_⟩|⟨A,c,r',h1,h2,h3,h4,h5⟩
 ·rw[hD]at h1;cases h1
 ·rw[hD]at h1;cases h1;exact⟨A,c,h2,h3,h4,h5⟩
theorem staC_zero{g:Grd}{i:Int}(h:staC g i=0):(0≤i∧i<g.sta.length)∧isSafeG g i=true:=by
 unfold staC at h
 split at h
 ·rename_i hb
  exact⟨hasB_iffG.1 hb,by simpa using whn_zero h (by decide)⟩
 ·cases h
theorem fromC_zero{g:Grd}{l:List Int}(h:fromC g l=0):gridC g=0∧∀x∈l,staC g x=0:=by
 unfold fromC at h
 split at h
 ·rename_i hn;exact absurd h hn
 ·rename_i hn
  exact⟨Classical.not_not.1 hn,fun x hx=>firstErr_zero h _ (List.mem_map_of_mem hx)⟩
set_option maxRecDepth 100000 in
set_option maxHeartbeats 2000000 in
theorem Reached_c(a:GA)(g:Grd)(f:Int)(w:World)(hs:SmallG g)(hr:GridR w w.heap.size a g)(hkd:KindsAt w):
 Calls Tryz.prog 17 #[(.agg #[.int .i64 g.blur,.slice a.pS g.sta.length a.cs,.slice a.pM g.mov.length a.cm,.slice a.pZ g.zon.length a.cz]),.int .i64 f] w fun e w'=>∃v,e=.returned (.tuple #[v,.int .i64 (fromC g [f])])∧OwnI w' w.heap.size v (if fromC g [f]=0 then reachG g f else [])∧Below w.heap.size w w':=by
 have HG:=zh (hr.sx (Nat.le_refl _) ((Sx.refl w).alloc (.cells #[.int .i64 g.blur,.slice a.pS g.sta.length a.cs,.slice a.pM g.mov.length a.cm,.slice a.pZ g.zon.length a.cz] 38)))
 have HK:=zh (hkd.sx ((Sx.refl w).alloc (.cells #[.int .i64 g.blur,.slice a.pS g.sta.length a.cs,.slice a.pM g.mov.length a.cm,.slice a.pZ g.zon.length a.cz] 38)))
 clear hr hkd
 have HX:=zh (show IntsR ((w.alloc (.cells #[.int .i64 g.blur,.slice a.pS g.sta.length a.cs,.slice a.pM g.mov.length a.cm,.slice a.pZ g.zon.length a.cz] 38)).alloc (.cells #[.int .i64 f] 3)) ((w.alloc (.cells #[.int .i64 g.blur,.slice a.pS g.sta.length a.cs,.slice a.pM g.mov.length a.cm,.slice a.pZ g.zon.length a.cz] 38)).alloc (.cells #[.int .i64 f] 3)).heap.size (some ⟨w.heap.size+1,0,none⟩) [f]from fun _=>⟨w.heap.size+1,0,rfl,by simp,fun k hk j v hv=>by
  simp at hk;subst hk
  cases j with
  |zero=>simp at hv;subst hv;simp[cells_new]
  |succ j=>simp at hv⟩)
 by_cases he:fromC g [f]=0
 ·have hz1':(fromC g [f]!=0)=false:=by rw[bne_eq_false_iff_eq];exact he
  have HE:=zh he;clear he
  have hz:=fromC_zero HE.out
  have hok:=gridC_ok hz.1
  have hu:=gridC_uniq hz.1
  have hst:=staC_zero (hz.2 f (by simp))
  clear hz
  go_enter Tryz.func17,Tryz.ntmps17
  go_wp2_with (first|(go_at_call 92;refine(checkFrom_c a g (some ⟨w.heap.size+1,0,none⟩) [f] 1 _ hs (HG.out.sx (Nat.le_refl _) (by exact zsx)) (HK.out.sx (by exact zsx)) HX.out (by simp) (by simp)).mono ?_;rintro e w1 ⟨rfl,hb1⟩;(have b0:w1.cell? ⟨w.heap.size,0,none⟩=some (.int .i64 g.blur):=(hb1.cell (p:=⟨w.heap.size,0,none⟩) (by first|(simp;done)|(simp;omega)|(show w.heap.size<_;omega))).trans (by first|assumption|(simp;done)));(have b1:w1.cell? ⟨w.heap.size,1,none⟩=some (.slice a.pS g.sta.length a.cs):=(hb1.cell (p:=⟨w.heap.size,1,none⟩) (by first|(simp;done)|(simp;omega)|(show w.heap.size<_;omega))).trans (by first|assumption|(simp;done)));(have b2:w1.cell? ⟨w.heap.size,2,none⟩=some (.slice a.pM g.mov.length a.cm):=(hb1.cell (p:=⟨w.heap.size,2,none⟩) (by first|(simp;done)|(simp;omega)|(show w.heap.size<_;omega))).trans (by first|assumption|(simp;done)));(have b3:w1.cell? ⟨w.heap.size,3,none⟩=some (.slice a.pZ g.zon.length a.cz):=(hb1.cell (p:=⟨w.heap.size,3,none⟩) (by first|(simp;done)|(simp;omega)|(show w.heap.size<_;omega))).trans (by first|assumption|(simp;done))))|(go_at_call 93;refine(reached_c a g f _ hok hu hst.1.1 hst.1.2 (HG.out.sx (Nat.le_refl _) (by exact zsx))).mono ?_;rintro e w2 ⟨v,rfl,hown,hb2⟩))
  go_ret2
  exact⟨v,rfl,hown.mono (by have:=hb1.size;simp at this;omega),by exact zbl⟩
 ·have hz1':(fromC g [f]!=0)=true:=by rw[bne_iff_ne];exact he
  have HE:=zh he;clear he
  go_enter Tryz.func17,Tryz.ntmps17
  go_wp2_with (go_at_call 92;refine(checkFrom_c a g (some ⟨w.heap.size+1,0,none⟩) [f] 1 _ hs (HG.out.sx (Nat.le_refl _) (by exact zsx)) (HK.out.sx (by exact zsx)) HX.out (by simp) (by simp)).mono ?_;rintro e w1 ⟨rfl,hb1⟩)
  go_ret2
  exact⟨_,rfl,OwnI.nil_ _ _,by exact zbl⟩
def wayE(g:Grd)(f t:Int):Int:=if fromC g [f,t]≠0 then fromC g [f,t]else if(wayG g f t).isSome then 0 else 7
def WayR(g:Grd)(f t:Int)(l:List Int)(n:Int):Prop:=if wayE g f t=0 then wayG g f t=some ⟨l,n⟩else l= []∧n=0
theorem two_cells(w:World)(a:GA)(g:Grd)(f t:Int):IntsR ((w.alloc (.cells #[.int .i64 g.blur,.slice a.pS g.sta.length a.cs,.slice a.pM g.mov.length a.cm,.slice a.pZ g.zon.length a.cz] 38)).alloc (.cells #[.int .i64 f,.int .i64 t] 3)) ((w.alloc (.cells #[.int .i64 g.blur,.slice a.pS g.sta.length a.cs,.slice a.pM g.mov.length a.cm,.slice a.pZ g.zon.length a.cz] 38)).alloc (.cells #[.int .i64 f,.int .i64 t] 3)).heap.size (some ⟨w.heap.size+1,0,none⟩) [f,t]:=fun _=>⟨w.heap.size+1,0,rfl,by simp,fun k hk j v hv=>by
 simp at hk
 cases j with
 |succ j=>rcases(show k=0∨k=1 by omega)with rfl|rfl<;>simp at hv
 |zero=>rcases(show k=0∨k=1 by omega)with rfl|rfl<;>(simp at hv;subst hv;simp[cells_new])⟩
set_option maxRecDepth 100000 in
set_option maxHeartbeats 2000000 in
theorem Way_c(a:GA)(g:Grd)(f t:Int)(w:World)(hs:SmallG g)(hr:GridR w w.heap.size a g)(hkd:KindsAt w):
 Calls Tryz.prog 19 #[(.agg #[.int .i64 g.blur,.slice a.pS g.sta.length a.cs,.slice a.pM g.mov.length a.cm,.slice a.pZ g.zon.length a.cz]),.int .i64 f,.int .i64 t] w fun e w'=>∃A c n l,e=.returned (.tuple #[.slice A (List.length l) c,.int .i64 n,.int .i64 (wayE g f t)])∧l.length≤c∧IntsR w' w'.heap.size A l∧
  WayR g f t l n∧Below w.heap.size w w':=by
 have HG:=zh (hr.sx (Nat.le_refl _) ((Sx.refl w).alloc (.cells #[.int .i64 g.blur,.slice a.pS g.sta.length a.cs,.slice a.pM g.mov.length a.cm,.slice a.pZ g.zon.length a.cz] 38)))
 have HK:=zh (hkd.sx ((Sx.refl w).alloc (.cells #[.int .i64 g.blur,.slice a.pS g.sta.length a.cs,.slice a.pM g.mov.length a.cm,.slice a.pZ g.zon.length a.cz] 38)))
 clear hr hkd
 have HX:=zh (two_cells w a g f t)
 by_cases he:fromC g [f,t]=0
 ·have hz1':(fromC g [f,t]!=0)=false:=by rw[bne_eq_false_iff_eq];exact he
  have HE:=zh he;clear he
  have hz:=fromC_zero HE.out
  have hok:=gridC_ok hz.1
  have hu:=gridC_uniq hz.1
  have hst:=staC_zero (hz.2 f (by simp))
  clear hz
  cases hw:wayG g f t with
  |none=>
   have hwe:=zh (show wayE g f t=7 by unfold wayE;rw[if_neg (fun h=>h HE.out),hw];rfl)
   have HW:=zh hw
   clear hw
   go_enter Tryz.func19,Tryz.ntmps19
   go_wp2_with (first|(go_at_call 92;refine(checkFrom_c a g (some ⟨w.heap.size+1,0,none⟩) [f,t] 2 _ hs (HG.out.sx (Nat.le_refl _) (by exact zsx)) (HK.out.sx (by exact zsx)) HX.out (by simp) (by simp)).mono ?_;rintro e w1 ⟨rfl,hb1⟩;(have b0:w1.cell? ⟨w.heap.size,0,none⟩=some (.int .i64 g.blur):=(hb1.cell (p:=⟨w.heap.size,0,none⟩) (by first|(simp;done)|(simp;omega)|(show w.heap.size<_;omega))).trans (by first|assumption|(simp;done)));(have b1:w1.cell? ⟨w.heap.size,1,none⟩=some (.slice a.pS g.sta.length a.cs):=(hb1.cell (p:=⟨w.heap.size,1,none⟩) (by first|(simp;done)|(simp;omega)|(show w.heap.size<_;omega))).trans (by first|assumption|(simp;done)));(have b2:w1.cell? ⟨w.heap.size,2,none⟩=some (.slice a.pM g.mov.length a.cm):=(hb1.cell (p:=⟨w.heap.size,2,none⟩) (by first|(simp;done)|(simp;omega)|(show w.heap.size<_;omega))).trans (by first|assumption|(simp;done)));(have b3:w1.cell? ⟨w.heap.size,3,none⟩=some (.slice a.pZ g.zon.length a.cz):=(hb1.cell (p:=⟨w.heap.size,3,none⟩) (by first|(simp;done)|(simp;omega)|(show w.heap.size<_;omega))).trans (by first|assumption|(simp;done))))|(go_at_call 94;refine(routes_c a.pS a.pM a.pZ a.cs a.cm a.cz g f _ hok hu hst.1.1 hst.1.2 (HG.out.sx (Nat.le_refl _) (by exact zsx))).mono ?_;rintro e w2 ⟨m,rfl,hb2,hm2,ht2⟩;(have HT:=zh ht2);clear ht2;(have hlk:=(Tryz.lookN HT.out HW.out).1)))
   go_ret3
   exact⟨none,0,0,[],by rw[hwe.out];rfl,Nat.le_refl _,fun hn=>absurd rfl hn,by unfold WayR;rw[hwe.out];exact⟨rfl,rfl⟩,by exact zbl⟩
  |some r=>
   have hwe:=zh (show wayE g f t=0 by unfold wayE;rw[if_neg (fun h=>h HE.out),hw];rfl)
   have HW:=zh hw
   clear hw
   go_enter Tryz.func19,Tryz.ntmps19
   go_wp2_with (first|(go_at_call 92;refine(checkFrom_c a g (some ⟨w.heap.size+1,0,none⟩) [f,t] 2 _ hs (HG.out.sx (Nat.le_refl _) (by exact zsx)) (HK.out.sx (by exact zsx)) HX.out (by simp) (by simp)).mono ?_;rintro e w1 ⟨rfl,hb1⟩;(have b0:w1.cell? ⟨w.heap.size,0,none⟩=some (.int .i64 g.blur):=(hb1.cell (p:=⟨w.heap.size,0,none⟩) (by first|(simp;done)|(simp;omega)|(show w.heap.size<_;omega))).trans (by first|assumption|(simp;done)));(have b1:w1.cell? ⟨w.heap.size,1,none⟩=some (.slice a.pS g.sta.length a.cs):=(hb1.cell (p:=⟨w.heap.size,1,none⟩) (by first|(simp;done)|(simp;omega)|(show w.heap.size<_;omega))).trans (by first|assumption|(simp;done)));(have b2:w1.cell? ⟨w.heap.size,2,none⟩=some (.slice a.pM g.mov.length a.cm):=(hb1.cell (p:=⟨w.heap.size,2,none⟩) (by first|(simp;done)|(simp;omega)|(show w.heap.size<_;omega))).trans (by first|assumption|(simp;done)));(have b3:w1.cell? ⟨w.heap.size,3,none⟩=some (.slice a.pZ g.zon.length a.cz):=(hb1.cell (p:=⟨w.heap.size,3,none⟩) (by first|(simp;done)|(simp;omega)|(show w.heap.size<_;omega))).trans (by first|assumption|(simp;done))))|(go_at_call 94;refine(routes_c a.pS a.pM a.pZ a.cs a.cm a.cz g f _ hok hu hst.1.1 hst.1.2 (HG.out.sx (Nat.le_refl _) (by exact zsx))).mono ?_;rintro e w2 ⟨m,rfl,hb2,hm2,ht2⟩;(obtain⟨A,c,hlc,hin,hlk,_⟩:=Tryz.lookS ht2 HW.out);clear ht2;(have HI:=zh hin);clear hin))
   go_quiet (fail)
   go_wp2_with fail
   go_ret3
   exact⟨A,c,r.n,r.st,by rw[hwe.out];rfl,hlc,Rw.more (Rw.belowB (w0:=w2) HI.out (by exact zbl) (Nat.le_refl _)) (by simp),by unfold WayR;rw[hwe.out,if_pos rfl];exact HW.out,by exact zbl⟩
 ·have hz1':(fromC g [f,t]!=0)=true:=by rw[bne_iff_ne];exact he
  have hwe:=zh (show wayE g f t=fromC g [f,t] by unfold wayE;rw[if_pos he])
  have HE:=zh he;clear he
  go_enter Tryz.func19,Tryz.ntmps19
  go_wp2_with (go_at_call 92;refine(checkFrom_c a g (some ⟨w.heap.size+1,0,none⟩) [f,t] 2 _ hs (HG.out.sx (Nat.le_refl _) (by exact zsx)) (HK.out.sx (by exact zsx)) HX.out (by simp) (by simp)).mono ?_;rintro e w1 ⟨rfl,hb1⟩)
  go_ret3
  exact⟨none,0,0,[],by rw[hwe.out];rfl,Nat.le_refl _,fun hn=>absurd rfl hn,by unfold WayR;rw[hwe.out,if_neg HE.out];exact⟨rfl,rfl⟩,by exact zbl⟩
def barE(g:Grd)(f t:Int):Int:=if fromC g [f,t]≠0 then fromC g [f,t]else if(reachG g f).any (t== ·)then 21 else 0
def barL(g:Grd)(f t:Int):List Int:=if barE g f t=0 then reachG g f else []
theorem reachG_len(g:Grd)(f:Int):(reachG g f).length≤g.sta.length:=reachK_len g f _
set_option maxRecDepth 100000 in
set_option maxHeartbeats 2000000 in
theorem Barrier_c(a:GA)(g:Grd)(f t:Int)(w:World)(hs:SmallG g)(hr:GridR w w.heap.size a g)(hkd:KindsAt w):
 Calls Tryz.prog 31 #[(.agg #[.int .i64 g.blur,.slice a.pS g.sta.length a.cs,.slice a.pM g.mov.length a.cm,.slice a.pZ g.zon.length a.cz]),.int .i64 f,.int .i64 t] w fun e w'=>∃v,e=.returned (.tuple #[v,.int .i64 (barE g f t)])∧OwnI w' w.heap.size v (barL g f t)∧Below w.heap.size w w':=by
 have HG:=zh (hr.sx (Nat.le_refl _) ((Sx.refl w).alloc (.cells #[.int .i64 g.blur,.slice a.pS g.sta.length a.cs,.slice a.pM g.mov.length a.cm,.slice a.pZ g.zon.length a.cz] 38)))
 have HK:=zh (hkd.sx ((Sx.refl w).alloc (.cells #[.int .i64 g.blur,.slice a.pS g.sta.length a.cs,.slice a.pM g.mov.length a.cm,.slice a.pZ g.zon.length a.cz] 38)))
 clear hr hkd
 have HX:=zh (two_cells w a g f t)
 by_cases he:fromC g [f,t]=0
 ·have hz1':(fromC g [f,t]!=0)=false:=by rw[bne_eq_false_iff_eq];exact he
  have HE:=zh he;clear he
  have hz:=fromC_zero HE.out
  have hok:=gridC_ok hz.1
  have hns:=hok.ns
  have hu:=gridC_uniq hz.1
  have hst:=staC_zero (hz.2 f (by simp))
  clear hz
  obtain⟨rl,hrl⟩:∃rl,rl=reachG g f:=⟨_,rfl⟩
  have hrn:rl.length≤1000:=by rw[hrl];have:=reachG_len g f;omega
  have HRL:=zh hrl
  have hRC:=zh (show ∀W,GridR W W.heap.size a g→Calls Tryz.prog 93 #[(.agg #[.int .i64 g.blur,.slice a.pS g.sta.length a.cs,.slice a.pM g.mov.length a.cm,.slice a.pZ g.zon.length a.cz]),.int .i64 f] W fun e w'=>∃A c,e=.returned (.slice A rl.length c)∧OwnI w' W.heap.size (.slice A rl.length c) rl∧IntsR w' w'.heap.size A rl∧Below W.heap.size W w' from fun W hg=>by
   refine(reached_c a g f W hok hu hst.1.1 hst.1.2 hg).mono ?_
   rintro e w' ⟨v,rfl,hown,hb⟩
   rw[←hrl]at hown
   obtain⟨A,c,rfl,_,h3⟩:=hown.ints
   exact⟨A,c,rfl,hown,h3,hb⟩)
  cases hc:rl.any (t== ·)with
  |true=>
   have hbe:=zh (show barE g f t=21 by unfold barE;rw[if_neg (fun h=>h HE.out),←hrl,hc];rfl)
   have hbl:=zh (show barL g f t= [] by unfold barL;rw[hbe.out];rfl)
   clear hrl
   go_enter Tryz.func31,Tryz.ntmps31
   go_wp2_with (first|(go_at_call 92;refine(checkFrom_c a g (some ⟨w.heap.size+1,0,none⟩) [f,t] 2 _ hs (HG.out.sx (Nat.le_refl _) (by exact zsx)) (HK.out.sx (by exact zsx)) HX.out (by simp) (by simp)).mono ?_;rintro e w1 ⟨rfl,hb1⟩;(have b0:w1.cell? ⟨w.heap.size,0,none⟩=some (.int .i64 g.blur):=(hb1.cell (p:=⟨w.heap.size,0,none⟩) (by first|(simp;done)|(simp;omega)|(show w.heap.size<_;omega))).trans (by first|assumption|(simp;done)));(have b1:w1.cell? ⟨w.heap.size,1,none⟩=some (.slice a.pS g.sta.length a.cs):=(hb1.cell (p:=⟨w.heap.size,1,none⟩) (by first|(simp;done)|(simp;omega)|(show w.heap.size<_;omega))).trans (by first|assumption|(simp;done)));(have b2:w1.cell? ⟨w.heap.size,2,none⟩=some (.slice a.pM g.mov.length a.cm):=(hb1.cell (p:=⟨w.heap.size,2,none⟩) (by first|(simp;done)|(simp;omega)|(show w.heap.size<_;omega))).trans (by first|assumption|(simp;done)));(have b3:w1.cell? ⟨w.heap.size,3,none⟩=some (.slice a.pZ g.zon.length a.cz):=(hb1.cell (p:=⟨w.heap.size,3,none⟩) (by first|(simp;done)|(simp;omega)|(show w.heap.size<_;omega))).trans (by first|assumption|(simp;done))))|(go_at_call 93;refine(hRC.out _ (HG.out.sx (Nat.le_refl _) (by exact zsx))).mono ?_;rintro e w2 ⟨A,c,rfl,hown,hin,hb2⟩;(have HO:=zh hown);(have HI:=zh hin);clear hown hin)|(go_at_call 110;refine(hasEq_c t A rl c _ hrn HI.out).mono ?_;rintro e w3 ⟨rfl,rfl⟩))
   go_ret2
   exact⟨_,by rw[hbe.out];rfl,by rw[hbl.out];exact OwnI.nil_ _ _,by exact zbl⟩
  |false=>
   have hbe:=zh (show barE g f t=0 by unfold barE;rw[if_neg (fun h=>h HE.out),←hrl,hc];rfl)
   have hbl:=zh (show barL g f t=rl by unfold barL;rw[hbe.out,hrl];rfl)
   clear hrl
   go_enter Tryz.func31,Tryz.ntmps31
   go_wp2_with (first|(go_at_call 92;refine(checkFrom_c a g (some ⟨w.heap.size+1,0,none⟩) [f,t] 2 _ hs (HG.out.sx (Nat.le_refl _) (by exact zsx)) (HK.out.sx (by exact zsx)) HX.out (by simp) (by simp)).mono ?_;rintro e w1 ⟨rfl,hb1⟩;(have b0:w1.cell? ⟨w.heap.size,0,none⟩=some (.int .i64 g.blur):=(hb1.cell (p:=⟨w.heap.size,0,none⟩) (by first|(simp;done)|(simp;omega)|(show w.heap.size<_;omega))).trans (by first|assumption|(simp;done)));(have b1:w1.cell? ⟨w.heap.size,1,none⟩=some (.slice a.pS g.sta.length a.cs):=(hb1.cell (p:=⟨w.heap.size,1,none⟩) (by first|(simp;done)|(simp;omega)|(show w.heap.size<_;omega))).trans (by first|assumption|(simp;done)));(have b2:w1.cell? ⟨w.heap.size,2,none⟩=some (.slice a.pM g.mov.length a.cm):=(hb1.cell (p:=⟨w.heap.size,2,none⟩) (by first|(simp;done)|(simp;omega)|(show w.heap.size<_;omega))).trans (by first|assumption|(simp;done)));(have b3:w1.cell? ⟨w.heap.size,3,none⟩=some (.slice a.pZ g.zon.length a.cz):=(hb1.cell (p:=⟨w.heap.size,3,none⟩) (by first|(simp;done)|(simp;omega)|(show w.heap.size<_;omega))).trans (by first|assumption|(simp;done))))|(go_at_call 93;refine(hRC.out _ (HG.out.sx (Nat.le_refl _) (by exact zsx))).mono ?_;rintro e w2 ⟨A,c,rfl,hown,hin,hb2⟩;(have HO:=zh hown);(have HI:=zh hin);clear hown hin)|(go_at_call 110;refine(hasEq_c t A rl c _ hrn HI.out).mono ?_;rintro e w3 ⟨rfl,rfl⟩))
   go_ret2
   exact⟨_,by rw[hbe.out];rfl,by rw[hbl.out];exact HO.out.mono (by have:=hb1.size;simp at this;omega),by exact zbl⟩
 ·have hz1':(fromC g [f,t]!=0)=true:=by rw[bne_iff_ne];exact he
  have hbe:=zh (show barE g f t=fromC g [f,t] by unfold barE;rw[if_pos he])
  have hbl:=zh (show barL g f t= [] by unfold barL;rw[hbe.out,if_neg he])
  have HE:=zh he;clear he
  go_enter Tryz.func31,Tryz.ntmps31
  go_wp2_with (go_at_call 92;refine(checkFrom_c a g (some ⟨w.heap.size+1,0,none⟩) [f,t] 2 _ hs (HG.out.sx (Nat.le_refl _) (by exact zsx)) (HK.out.sx (by exact zsx)) HX.out (by simp) (by simp)).mono ?_;rintro e w1 ⟨rfl,hb1⟩)
  go_ret2
  exact⟨_,by rw[hbe.out];rfl,by rw[hbl.out];exact OwnI.nil_ _ _,by exact zbl⟩
def better1(g:Grd)(f:Int)(i:Nat)(s:Sta)(out:Int):Bool:=(wayG g f i).isSome&&sEq s.kind kStandby&&(decide (out<0)||decide (wayN g f i<wayN g f out))
theorem homeL_cons(g:Grd)(f:Int)(i:Nat)(s:Sta)(l:List Sta)(out:Int):homeL g f i (s::l) out=homeL g f (i+1) l (if better1 g f i s out then(i:Int)else out):=rfl
theorem kSt_eq(s:ByteArray):(s.toList== [115,116,97,110,100,98,121])=sEq s kStandby:=by
 rw[ByteArray.toList_eq];rfl
theorem home_step{g:Grd}{f:Int}{k:Nat}{o o':Int}(hk:k<g.sta.length)(he:(if better1 g f k g.sta[k] o then(k:Int)else o)=o')(h:Hid (homeL g f k (g.sta.drop k) o=homeL g f 0 g.sta (-1))):
 Hid (homeL g f (k+1) (g.sta.drop (k+1)) o'=homeL g f 0 g.sta (-1)):=by
 have h1:=h.out
 rw[List.drop_eq_getElem_cons hk,homeL_cons,he]at h1
 exact zh h1
theorem Tryz.fld1(v:Value)(n:Int)(W:World):(Instr.field 168 (.agg #[v,.int .i64 n]) 1).run Tryz.prog W=.ok (.int .i64 n) W:=by kernel_rfl
set_option maxRecDepth 100000 in
set_option maxHeartbeats 2000000 in
theorem home_c(a:GA)(g:Grd)(f:Int)(w:World)(hok:okG g)(hu:Uniq g.mov)(hf:0≤f∧f<g.sta.length)(hr:GridR w w.heap.size a g):
 Calls Tryz.prog 95 #[(.agg #[.int .i64 g.blur,.slice a.pS g.sta.length a.cs,.slice a.pM g.mov.length a.cm,.slice a.pZ g.zon.length a.cz]),.int .i64 f] w fun e w'=>e=.returned (.int .i64 (homeG g f))∧Below w.heap.size w w':=by
 have hns:=hok.ns
 have hfd:=Tryz.fld1
 have HG:=zh (hr.sx (Nat.le_refl _) ((Sx.refl w).alloc (.cells #[.int .i64 g.blur,.slice a.pS g.sta.length a.cs,.slice a.pM g.mov.length a.cm,.slice a.pZ g.zon.length a.cz] 38)))
 clear hr
 cases hsf:isSafeG g f with
 |false=>
  have hh:=zh (show homeG g f= -1 by unfold homeG;rw[hsf];rfl)
  go_enter Tryz.func95,Tryz.ntmps95
  go_wp2_with (go_at_call 108;refine(isSafeG_c a g f _ hok HG.out hf).mono ?_;rintro e w1 ⟨rfl,hb1⟩)
  go_ret
  exact⟨ret_int hh.out.symm,by exact zbl⟩
 |true=>
  have hh:=zh (show homeG g f=homeL g f 0 g.sta (-1) by unfold homeG;rw[hsf];rfl)
  go_enter Tryz.func95,Tryz.ntmps95
  go_wp2_with (first|(go_at_call 108;refine(isSafeG_c a g f _ hok HG.out hf).mono ?_;rintro e w0 ⟨rfl,hb0⟩;(have b0:w0.cell? ⟨w.heap.size,0,none⟩=some (.int .i64 g.blur):=(hb0.cell (p:=⟨w.heap.size,0,none⟩) (by first|(simp;done)|(simp;omega)|(show w.heap.size<_;omega))).trans (by first|assumption|(simp;done)));(have b1:w0.cell? ⟨w.heap.size,1,none⟩=some (.slice a.pS g.sta.length a.cs):=(hb0.cell (p:=⟨w.heap.size,1,none⟩) (by first|(simp;done)|(simp;omega)|(show w.heap.size<_;omega))).trans (by first|assumption|(simp;done)));(have b2:w0.cell? ⟨w.heap.size,2,none⟩=some (.slice a.pM g.mov.length a.cm):=(hb0.cell (p:=⟨w.heap.size,2,none⟩) (by first|(simp;done)|(simp;omega)|(show w.heap.size<_;omega))).trans (by first|assumption|(simp;done)));(have b3:w0.cell? ⟨w.heap.size,3,none⟩=some (.slice a.pZ g.zon.length a.cz):=(hb0.cell (p:=⟨w.heap.size,3,none⟩) (by first|(simp;done)|(simp;omega)|(show w.heap.size<_;omega))).trans (by first|assumption|(simp;done))))|(go_at_call 94;refine(routes_c a.pS a.pM a.pZ a.cs a.cm a.cz g f _ hok hu hf.1 hf.2 (HG.out.sx (Nat.le_refl _) (by exact zsx))).mono ?_;rintro e w1 ⟨m,rfl,hb1,hm1,ht1⟩;(have c1:w1.cell? ⟨w.heap.size,1,none⟩=some (.slice a.pS g.sta.length a.cs):=(hb1.cell (p:=⟨w.heap.size,1,none⟩) (by have:=hb0.size;simp at this;show w.heap.size<_;omega)).trans b1);(have HT:=zh ht1);clear ht1))
  have HG1:=zh (HG.out.sx (W:=w1) (Nat.le_refl _) (by exact zsx))
  have hml:=HT.out.lt
  have hb1':Below w.heap.size w w1:=by exact zbl
  go_loopw [6,21] (fun v i wr=>∃(k:Nat) (o:Int),k≤g.sta.length∧v=.int .i64 o∧i=.int .i64 k∧ -1≤o∧o<g.sta.length∧Hid (0≤o→∃r,wayG g f o=some r)∧Below w1.heap.size w1 wr∧Hid (homeL g f k (g.sta.drop k) o=homeL g f 0 g.sta (-1))) (fun _ i _=>g.sta.length-(intOf i).toNat)
  case atStart=>exact⟨0, -1,Nat.zero_le _,rfl,rfl,by omega,by omega,zh (fun h=>by omega),Below.refl _ _,zh (by simp)⟩
  case round=>
   obtain⟨k,o,hk,rfl,rfl,ho1,ho2,hor,hb,hc⟩:=hrel
   have hbs:=hb.size
   by_cases hlt:k<g.sta.length
   ·obtain⟨b,off,hA,hbl,d0,d1,d2,d3⟩:=(HG1.out.belowB (w0:=w1) hb (Nat.le_refl _)).sta.get4 (k:=k) (by simpa using hlt) (by rw[List.getElem_map];rfl)
    have hbl2:b<wr.heap.size:=by omega
    have hmr:m<wr.heap.size:=by omega
    obtain⟨st,hst⟩:∃st,st=g.sta[k]:=⟨_,rfl⟩
    rw[←hst]at d0 d1 d2 d3
    have HS:=zh hst
    have HTR:=zh ((HT.out.belowB (w0:=w1) hb hml (Nat.le_refl _)).keep (w':=wr.alloc (.cells #[.string st.name,.string st.kind,.int .i64 st.x,.int .i64 st.y] 163)) (Below.heap_alloc _ _ _ hmr) (fun b o hlt=>(World.cell?_alloc_lt _ _ ⟨b,o,none⟩ (by show b<_;omega))))
    clear hst
    cases hw:wayG g f k with
    |none=>
     have hlk:=(Tryz.lookN HTR.out hw).1
     have HE:=zh (show(if better1 g f k st o then(k:Int)else o)=o by unfold better1;rw[hw];rfl)
     clear hw
     go_wp2_with fail
     go_roundw
     case rel=>exact⟨k+1,o,by omega,rfl,by go_num,by omega,by omega,hor,by exact zbl,home_step hlt (by rw[←HS.out];exact HE.out) hc⟩
     case measure=>simp[intOf];omega
    |some r=>
     obtain⟨A,c,_,_,hlk,_⟩:=Tryz.lookS HTR.out hw
     have HW:=zh hw
     clear hw
     cases hkd:sEq st.kind kStandby with
     |false=>
      have HE:=zh (show(if better1 g f k st o then(k:Int)else o)=o by unfold better1;rw[hkd];simp)
      have hkd':(st.kind.toList== [115,116,97,110,100,98,121])=false:=(kSt_eq _).trans hkd
      clear hkd
      go_wp2_with fail
      go_roundw
      case rel=>exact⟨k+1,o,by omega,rfl,by go_num,by omega,by omega,hor,by exact zbl,home_step hlt (by rw[←HS.out];exact HE.out) hc⟩
      case measure=>simp[intOf];omega
     |true=>
      have hkd':(st.kind.toList== [115,116,97,110,100,98,121])=true:=(kSt_eq _).trans hkd
      by_cases hn:o<0
      ·have HE:=zh (show(if better1 g f k st o then(k:Int)else o)=k by unfold better1;rw[HW.out,hkd,decide_eq_true hn];rfl)
       have hn':decide (o<0)=true:=decide_eq_true hn
       clear hkd hn
       go_wp2_with fail
       go_roundw
       case rel=>exact⟨k+1,(k:Int),by omega,rfl,by go_num,by omega,by omega,zh (fun _=>⟨r,HW.out⟩),by exact zbl,home_step hlt (by rw[←HS.out];exact HE.out) hc⟩
       case measure=>simp[intOf];omega
      ·obtain⟨ro,hro⟩:=hor.out (by omega)
       have HTR2:=zh (HTR.out.keep (w':=(wr.alloc (.cells #[.string st.name,.string st.kind,.int .i64 st.x,.int .i64 st.y] 163)).alloc (.cells #[.slice A r.st.length c,.int .i64 r.n] 168)) (Below.heap_alloc _ _ _ (by simp;omega)) (fun b o hlt=>(World.cell?_alloc_lt _ _ ⟨b,o,none⟩ (by show b<_;simp;omega))))
       obtain⟨A2,c2,_,_,_,hlk2⟩:=Tryz.lookS HTR2.out hro
       have hn':decide (o<0)=false:=decide_eq_false hn
       have hwn:wayN g f k=r.n:=by unfold wayN;rw[HW.out]
       have hwo:wayN g f o=ro.n:=by unfold wayN;rw[hro]
       by_cases hl2:r.n<ro.n
       ·have HE:=zh (show(if better1 g f k st o then(k:Int)else o)=k by unfold better1;rw[HW.out,hkd,hwn,hwo,decide_eq_true hl2];simp)
        have hl':decide (r.n<ro.n)=true:=decide_eq_true hl2
        clear hkd hro hwn hwo hn hl2
        go_wp2_with fail
        go_roundw
        case rel=>exact⟨k+1,(k:Int),by omega,rfl,by go_num,by omega,by omega,zh (fun _=>⟨r,HW.out⟩),by exact zbl,home_step hlt (by rw[←HS.out];exact HE.out) hc⟩
        case measure=>simp[intOf];omega
       ·have HE:=zh (show(if better1 g f k st o then(k:Int)else o)=o by unfold better1;rw[hwn,hwo,decide_eq_false hl2,decide_eq_false hn];simp)
        have hl':decide (r.n<ro.n)=false:=decide_eq_false hl2
        clear hkd hro hwn hwo hn hl2
        go_wp2_with fail
        go_roundw
        case rel=>exact⟨k+1,o,by omega,rfl,by go_num,by omega,by omega,hor,by exact zbl,home_step hlt (by rw[←HS.out];exact HE.out) hc⟩
        case measure=>simp[intOf];omega
   ·have hkl:k=g.sta.length:=by omega
    subst hkl
    go_wp2_with fail
    go_ret
    have h1:=hc.out
    rw[List.drop_length]at h1
    exact⟨ret_int (hh.out.trans h1.symm).symm,hb1'.trans (hb.mono (by have:=hb1'.size;omega))⟩
end Go.Proofs.YtehnikhicnnnhaaGreatDoor
/- Base: words and small contracts. | Helpers of a claim's texts: what the long proofs ask for again and again. -/
import Derived.Test.YtehnikhicnnnhaaGreatDoorChecked
import Derived.BigQuiet
import Derived.Deep.AppendLies
import Derived.Deep.DeepCutAuto
import Derived.Deep.RegionHeld3
import Derived.Handy
import Derived.Lib.Hide
import Derived.WalkLawsBesides
import Derived.WalkSpells
namespace Go.Proofs.YtehnikhicnnnhaaGreatDoor
open Go.RowKit
/-- An error,or 0. -/
def rng(n lo hi:Int):Int:=if n<lo∨n>hi then 3 else 0
def whn(b:Bool)(e:Int):Int:=if b then e else 0
def firstErr:List Int→Int
 | []=>0
 |x::l=>if x=0 then firstErr l else x
theorem firstErr_append(l m:List Int)(h:firstErr l=0):firstErr (l++m)=firstErr m:=by
 induction l with
 |nil=>rfl
 |cons x l ih=>simp only[firstErr,List.cons_append]at *;split at h<;>simp_all
theorem firstErr_take_succ(l:List Int)(k:Nat)(hk:k<l.length)(h:firstErr (l.take k)=0):firstErr (l.take (k+1))=l[k]:=by
 rw[List.take_succ_eq_append_getElem hk,firstErr_append _ _ h]
 simp only[firstErr];split<;>simp_all
theorem firstErr_at(l:List Int)(k:Nat)(hk:k<l.length)(h:firstErr (l.take k)=0)(hn:l[k]≠0):firstErr l=l[k]:=by
 have:l=l.take k++(l[k]::l.drop (k+1)):=by rw[←List.drop_eq_getElem_cons hk,List.take_append_drop]
 conv=>lhs;rw[this,firstErr_append _ _ h]
 simp[firstErr,hn]
theorem ret_int{k:IntKind}{a b:Int}(h:a=b):Ending.returned (.int k a)=.returned (.int k b):=by rw[h]
theorem ret_bool{a b:Bool}(h:a=b):Ending.returned (.bool a)=.returned (.bool b):=by rw[h]
theorem bcell{W w1:World}(hb:Below W.heap.size W w1):(∀b o,b<W.heap.size→w1.cell? ⟨b,o,none⟩=W.cell? ⟨b,o,none⟩)∧(∀b o,b<W.heap.size→w1.frozen? ⟨b,o,none⟩=W.frozen? ⟨b,o,none⟩):=
 ⟨fun b o h=>hb.cell (p:=⟨b,o,none⟩) h,fun b o h=>hb.frozen (p:=⟨b,o,none⟩) h⟩
@[simp,go_sem] theorem nlt2 (n:Nat):n<n+1+1:=by omega
@[simp,go_sem] theorem nle2 (n:Nat):n≤n+1+1:=by omega
@[simp,go_sem] theorem nlt3 (n:Nat):n<n+1+1+1:=by omega
@[simp,go_sem] theorem nle3 (n:Nat):n≤n+1+1+1:=by omega
@[simp,go_sem] theorem nlt4 (n:Nat):n<n+1+1+1+1:=by omega
@[simp,go_sem] theorem nle4 (n:Nat):n≤n+1+1+1+1:=by omega
@[simp,go_sem] theorem nlt5 (n:Nat):n<n+1+1+1+1+1:=by omega
@[simp,go_sem] theorem nle5 (n:Nat):n≤n+1+1+1+1+1:=by omega
@[simp,go_sem] theorem nlt6 (n:Nat):n<n+1+1+1+1+1+1:=by omega
@[simp,go_sem] theorem nle6 (n:Nat):n≤n+1+1+1+1+1+1:=by omega
@[simp,go_sem] theorem nlt7 (n:Nat):n<n+1+1+1+1+1+1+1:=by omega
@[simp,go_sem] theorem nle7 (n:Nat):n≤n+1+1+1+1+1+1+1:=by omega
@[simp,go_sem] theorem nlt8 (n:Nat):n<n+1+1+1+1+1+1+1+1:=by omega
@[simp,go_sem] theorem nle8 (n:Nat):n≤n+1+1+1+1+1+1+1+1:=by omega
/-- All cells that lie in W0 lie in W as they lay. -/
def Sx(W0 W:World):Prop:=W0.heap.size≤W.heap.size∧(∀b o,b<W0.heap.size→W.cell? ⟨b,o,none⟩=W0.cell? ⟨b,o,none⟩)
theorem Sx.goal{W0 W:World}(h:Sx W0 W):W0.heap.size≤W.heap.size∧(∀b o,b<W0.heap.size→W.cell? ⟨b,o,none⟩=W0.cell? ⟨b,o,none⟩):=h
theorem Sx.refl(W:World):Sx W W:=⟨Nat.le_refl _,fun _ _ _=>rfl⟩
theorem Sx.drew{W0 W:World}(h:Sx W0 W):Sx W0 W.drew:=h
theorem Sx.alloc{W0 W:World}(h:Sx W0 W)(o:Obj):Sx W0 (W.alloc o):=
 ⟨by simp;have:=h.1;omega,fun b i hb=>(World.cell?_alloc_lt W o ⟨b,i,none⟩ (Nat.lt_of_lt_of_le hb h.1)).trans (h.2 b i hb)⟩
theorem Sx.below{W0 W W':World}(h:Sx W0 W)(hb:Below W.heap.size W W'):Sx W0 W':=
 ⟨Nat.le_trans h.1 hb.size,fun b i hlt=>(hb.cell (p:=⟨b,i,none⟩) (Nat.lt_of_lt_of_le hlt h.1)).trans (h.2 b i hlt)⟩
theorem Sx.set{W0 W:World}(h:Sx W0 W){a:Addr}(v:Value)(hb:W0.heap.size≤a.block):Sx W0 (W.setCell a v):=
 ⟨by simpa using h.1,fun b i hlt=>(World.cell?_setCell_other W a ⟨b,i,none⟩ v (fun e=>by subst e;exact absurd hlt (Nat.not_lt.2 hb))).trans (h.2 b i hlt)⟩
theorem Sx.below'{W0 W W':World}(hb:Below W.heap.size W W')(h:Sx W0 W):Sx W0 W':=h.below hb
theorem Sx.at{W0 W:World}(hs:Sx W0 W){b o:Nat}{v:Value}(h:W0.cell? ⟨b,o,none⟩=some v):W.cell? ⟨b,o,none⟩=some v:=
 (hs.2 b o (World.block_lt_of_cell? W0 ⟨b,o,none⟩ h)).trans h
theorem Bl.drew{w W:World}(h:Below w.heap.size w W):Below w.heap.size w W.drew:=⟨h.os,h.tape,h.output,h.size,h.block⟩
theorem Bl.drewN{w W:World}(h:Below w.heap.size w W)(n:Nat):Below w.heap.size w (W.drewN n):=⟨h.os,h.tape,h.output,h.size,h.block⟩
theorem Bl.alloc{w W:World}(h:Below w.heap.size w W)(o:Obj):Below w.heap.size w (W.alloc o):=Below.alloc h h.size o
theorem Bl.set{w W:World}(h:Below w.heap.size w W){a:Addr}(v:Value)(hb:w.heap.size≤a.block):Below w.heap.size w (W.setCell a v):=h.setCell hb v
theorem Bl.step{w W W':World}(h:Below w.heap.size w W)(hb:Below W.heap.size W W'):Below w.heap.size w W':=h.trans (hb.mono h.size)
theorem Bl.step'{w W W':World}(hb:Below W.heap.size W W')(h:Below w.heap.size w W):Below w.heap.size w W':=Bl.step h hb
theorem Bl.lt{w W:World}(h:Below w.heap.size w W):w.heap.size≤W.heap.size:=h.size
set_option maxHeartbeats 400000 in
theorem when_c(b:Bool)(n:Int)(w:World):
 Calls Tryz.prog 104 #[.bool b,.int .i64 n] w fun e w'=>e=.returned (.int .i64 (whn b n))∧w=w':=by
 cases b
 all_goals
  go_enter Tryz.func104,Tryz.ntmps104
  go_wp2
  go_ret
  exact⟨rfl,rfl⟩
theorem bdec(p q:Prop)[Decidable p][Decidable q]:(if decide p=true then true else decide q)=decide (p∨q):=by
 by_cases p<;>simp_all
set_option maxHeartbeats 400000 in
theorem within_c(n lo hi:Int)(w:World):
 Calls Tryz.prog 122 #[.int .i64 n,.int .i64 lo,.int .i64 hi] w fun e w'=>e=.returned (.int .i64 (rng n lo hi))∧w=w':=by
 have hr:rng n lo hi=whn (decide (n<lo∨n>hi)) 3:=by unfold rng whn;simp
 by_cases h1:n<lo
 ·have h2:decide (n<lo)=true:=by simpa using h1
  go_enter Tryz.func122,Tryz.ntmps122
  go_wp2_with (go_at_call 104;refine(when_c _ _ _).mono ?_;rintro e w' ⟨rfl,rfl⟩)
  go_ret
  exact⟨ret_int (by rw[hr];simp[h2]),rfl⟩
 ·have h2:decide (n<lo)=false:=by simpa using h1
  go_enter Tryz.func122,Tryz.ntmps122
  go_wp2_with (go_at_call 104;refine(when_c _ _ _).mono ?_;rintro e w' ⟨rfl,rfl⟩)
  go_ret
  exact⟨ret_int (by rw[hr];simp[h2]),rfl⟩
/-- The cells of block b from k on hold these integers. -/
def CellsAt(w:World)(b:Nat):Nat→List Int→Prop
 |_,[]=>True
 |k,x::l=>w.cell? ⟨b,k,none⟩=some (.int .i64 x)∧CellsAt w b (k+1) l
theorem CellsAt.get{w:World}{b:Nat}{xs:List Int}{j:Nat}(h:CellsAt w b j xs):∀k (hk:k<xs.length),w.cell? ⟨b,j+k,none⟩=some (.int .i64 xs[k]):=by
 induction xs generalizing j with
 |nil=>intro k hk;simp at hk
 |cons x l ih=>
  intro k hk
  cases k with
  |zero=>exact h.1
  |succ k=>
   have:=ih h.2 k (by simpa using hk)
   rw[show j+(k+1)=j+1+k by omega]
   simpa using this
set_option maxHeartbeats 400000 in
theorem first_c(b:Nat)(xs:List Int)(w:World)(hx:xs.length≤1000)(hb:CellsAt w b 0 xs):
 Calls Tryz.prog 103 #[.slice (some ⟨b,0,none⟩) xs.length xs.length] w fun e w'=>e=.returned (.int .i64 (firstErr xs))∧w=w':=by
 have hcell:∀k (h:k<xs.length),w.cell? ⟨b,k,none⟩=some (.int .i64 xs[k]):=by
  intro k h
  simpa using hb.get k h
 have HB:=Lib.hid hb;clear hb
 have HC:=Lib.hid hcell;clear hcell
 go_enter Tryz.func103,Tryz.ntmps103
 go_wp2
 go_loop [7] (fun i=>∃k:Nat,k≤xs.length∧i=.int .i64 k∧Hid (firstErr (xs.take k)=0)) (fun i=>xs.length-(intOf i).toNat)
 case atStart=>exact⟨0,Nat.zero_le _,rfl,Lib.hid (by simp[firstErr])⟩
 case round=>
  obtain⟨k,hk,rfl,hf⟩:=hrel
  by_cases hlt:k<xs.length
  ·have hc:=HC.out k hlt
   by_cases hz:xs[k]=0
   ·have hz':(xs[k]!=0)=false:=by simp[hz]
    go_wp2
    go_round
    case rel=>exact⟨k+1,by omega,by go_num,Lib.hid ((firstErr_take_succ xs k hlt hf.out).trans hz)⟩
    case measure=>simp[intOf];omega
   ·have hz':(xs[k]!=0)=true:=by simp[hz]
    have HF:=Lib.hid (firstErr_at xs k hlt hf.out hz)
    clear hz
    go_wp2
    go_ret
    exact⟨ret_int HF.out.symm,rfl⟩
  ·go_wp2
   go_ret
   have:=hf.out
   rw[List.take_of_length_le (by omega)]at this
   exact⟨ret_int this.symm,rfl⟩
set_option maxHeartbeats 400000 in
theorem checkPlace_c(x y:Int)(w:World):
 Calls Tryz.prog 132 #[.agg #[.int .i64 x,.int .i64 y]] w fun e w'=>e=.returned (.int .i64 (firstErr [rng x 0 1000,rng y 0 1000]))∧Below w.heap.size w w':=by
 go_enter Tryz.func132,Tryz.ntmps132
 go_wp2_with fail
 go_region_held3 (fun W=>(w.alloc (.cells #[.int .i64 x,.int .i64 y] 109)).heap.size≤W.heap.size∧(∀b o,b<(w.alloc (.cells #[.int .i64 x,.int .i64 y] 109)).heap.size→W.cell? ⟨b,o,none⟩=(w.alloc (.cells #[.int .i64 x,.int .i64 y] 109)).cell? ⟨b,o,none⟩)) ((refine Sx.goal ?_;repeat first|(with_reducible first|assumption|exact Sx.refl _|refine Sx.drew ?_|refine Sx.alloc ?_ _|refine Sx.set ?_ _ ?_)|(with_reducible apply Sx.below';(focus(with_reducible assumption)))|omega|(focus(simp;done))|(focus(simp;omega)))) (first|(go_at_call 122;refine(within_c _ _ _ _).mono ?_;rintro e w' ⟨rfl,rfl⟩)|(go_at_call 103;refine(first_c _ [rng x 0 1000,rng y 0 1000] _ ?_ ?_).mono ?_;(focus simp);(focus simp[CellsAt]);rintro e w' ⟨rfl,rfl⟩))
 go_wp2
 go_ret
 exact⟨rfl,by go_grown⟩
theorem zbl{p:Prop}(h:p:=by(repeat first|(with_reducible first|assumption|exact Below.refl _ _|refine Bl.drew ?_|refine Bl.drewN ?_ _|refine Bl.alloc ?_ _|refine Bl.set ?_ _ ?_)|(with_reducible apply Bl.step';(focus(with_reducible assumption)))|omega|(focus(simp;done))|(focus(simp;omega)))):p:=h
theorem zsx{p:Prop}(h:p:=by(repeat first|(with_reducible first|assumption|exact Sx.refl _|refine Sx.drew ?_|refine Sx.alloc ?_ _|refine Sx.set ?_ _ ?_)|(with_reducible apply Sx.below';(focus(with_reducible assumption)))|omega|(focus(simp;done))|(focus(simp;omega)))):p:=h
section
variable {W:World} {b:Nat} {T:TypeId} {v0 v1 v2 v3 v4 v5:Value}
theorem cv1(h:W.heap[b]? =some (.cells #[v0] T (0,0))):W.cell? ⟨b,0,none⟩=some v0∧W.frozen? ⟨b,0,none⟩=false:=by
 refine⟨(cell_of_row W b 0 _ _ _ h).trans rfl,frozen_of_row W b 0 _ _ h⟩
theorem cv2(h:W.heap[b]? =some (.cells #[v0,v1] T (0,0))):W.cell? ⟨b,0,none⟩=some v0∧W.frozen? ⟨b,0,none⟩=false∧W.cell? ⟨b,1,none⟩=some v1∧W.frozen? ⟨b,1,none⟩=false:=by
 refine⟨(cell_of_row W b 0 _ _ _ h).trans rfl,frozen_of_row W b 0 _ _ h,(cell_of_row W b 1 _ _ _ h).trans rfl,frozen_of_row W b 1 _ _ h⟩
theorem cv3(h:W.heap[b]? =some (.cells #[v0,v1,v2] T (0,0))):W.cell? ⟨b,0,none⟩=some v0∧W.frozen? ⟨b,0,none⟩=false∧W.cell? ⟨b,1,none⟩=some v1∧W.frozen? ⟨b,1,none⟩=false∧W.cell? ⟨b,2,none⟩=some v2∧W.frozen? ⟨b,2,none⟩=false:=by
 refine⟨(cell_of_row W b 0 _ _ _ h).trans rfl,frozen_of_row W b 0 _ _ h,(cell_of_row W b 1 _ _ _ h).trans rfl,frozen_of_row W b 1 _ _ h,(cell_of_row W b 2 _ _ _ h).trans rfl,frozen_of_row W b 2 _ _ h⟩
theorem cv4(h:W.heap[b]? =some (.cells #[v0,v1,v2,v3] T (0,0))):W.cell? ⟨b,0,none⟩=some v0∧W.frozen? ⟨b,0,none⟩=false∧W.cell? ⟨b,1,none⟩=some v1∧W.frozen? ⟨b,1,none⟩=false∧W.cell? ⟨b,2,none⟩=some v2∧W.frozen? ⟨b,2,none⟩=false∧W.cell? ⟨b,3,none⟩=some v3∧W.frozen? ⟨b,3,none⟩=false:=by
 refine⟨(cell_of_row W b 0 _ _ _ h).trans rfl,frozen_of_row W b 0 _ _ h,(cell_of_row W b 1 _ _ _ h).trans rfl,frozen_of_row W b 1 _ _ h,(cell_of_row W b 2 _ _ _ h).trans rfl,frozen_of_row W b 2 _ _ h,(cell_of_row W b 3 _ _ _ h).trans rfl,frozen_of_row W b 3 _ _ h⟩
theorem cv5(h:W.heap[b]? =some (.cells #[v0,v1,v2,v3,v4] T (0,0))):W.cell? ⟨b,0,none⟩=some v0∧W.frozen? ⟨b,0,none⟩=false∧W.cell? ⟨b,1,none⟩=some v1∧W.frozen? ⟨b,1,none⟩=false∧W.cell? ⟨b,2,none⟩=some v2∧W.frozen? ⟨b,2,none⟩=false∧W.cell? ⟨b,3,none⟩=some v3∧W.frozen? ⟨b,3,none⟩=false∧W.cell? ⟨b,4,none⟩=some v4∧W.frozen? ⟨b,4,none⟩=false:=by
 refine⟨(cell_of_row W b 0 _ _ _ h).trans rfl,frozen_of_row W b 0 _ _ h,(cell_of_row W b 1 _ _ _ h).trans rfl,frozen_of_row W b 1 _ _ h,(cell_of_row W b 2 _ _ _ h).trans rfl,frozen_of_row W b 2 _ _ h,(cell_of_row W b 3 _ _ _ h).trans rfl,frozen_of_row W b 3 _ _ h,(cell_of_row W b 4 _ _ _ h).trans rfl,frozen_of_row W b 4 _ _ h⟩
theorem cv6(h:W.heap[b]? =some (.cells #[v0,v1,v2,v3,v4,v5] T (0,0))):W.cell? ⟨b,0,none⟩=some v0∧W.frozen? ⟨b,0,none⟩=false∧W.cell? ⟨b,1,none⟩=some v1∧W.frozen? ⟨b,1,none⟩=false∧W.cell? ⟨b,2,none⟩=some v2∧W.frozen? ⟨b,2,none⟩=false∧W.cell? ⟨b,3,none⟩=some v3∧W.frozen? ⟨b,3,none⟩=false∧W.cell? ⟨b,4,none⟩=some v4∧W.frozen? ⟨b,4,none⟩=false∧W.cell? ⟨b,5,none⟩=some v5∧W.frozen? ⟨b,5,none⟩=false:=by
 refine⟨(cell_of_row W b 0 _ _ _ h).trans rfl,frozen_of_row W b 0 _ _ h,(cell_of_row W b 1 _ _ _ h).trans rfl,frozen_of_row W b 1 _ _ h,(cell_of_row W b 2 _ _ _ h).trans rfl,frozen_of_row W b 2 _ _ h,(cell_of_row W b 3 _ _ _ h).trans rfl,frozen_of_row W b 3 _ _ h,(cell_of_row W b 4 _ _ _ h).trans rfl,frozen_of_row W b 4 _ _ h,(cell_of_row W b 5 _ _ _ h).trans rfl,frozen_of_row W b 5 _ _ h⟩
theorem cg4(h:W.heap[b]? =some (.cells #[v0,v1,v2,v3] T (0,0))):W.cell? ⟨b,0,none⟩=some v0∧W.cell? ⟨b,1,none⟩=some v1∧W.cell? ⟨b,2,none⟩=some v2∧W.cell? ⟨b,3,none⟩=some v3:=
 ⟨(cell_of_row W b 0 _ _ _ h).trans rfl,(cell_of_row W b 1 _ _ _ h).trans rfl,(cell_of_row W b 2 _ _ _ h).trans rfl,(cell_of_row W b 3 _ _ _ h).trans rfl⟩
end
theorem zh{p:Prop}(h:p):Hid p:=Lib.hid h
abbrev SHd(X:World):World→Prop:=fun W=>X.heap.size≤W.heap.size∧(∀b o,b<X.heap.size→W.cell? ⟨b,o,none⟩=X.cell? ⟨b,o,none⟩)∧(∀b,b<X.heap.size→W.heap[b]? =X.heap[b]?)
abbrev SSd(X:World):World→Prop:=fun W=>X.heap.size≤W.heap.size∧(∀b o,b<X.heap.size→W.cell? ⟨b,o,none⟩=X.cell? ⟨b,o,none⟩)
end Go.Proofs.YtehnikhicnnnhaaGreatDoor
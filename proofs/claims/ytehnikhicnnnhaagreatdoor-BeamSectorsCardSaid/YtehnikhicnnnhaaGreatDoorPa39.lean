/- Helpers of the laws: listed, number, first, ints. | Helpers of the laws: words. -/
import Derived.Test.YtehnikhicnnnhaaGreatDoorPa30
import Derived.Laws.AppendOwnNone
namespace Go.Proofs.YtehnikhicnnnhaaGreatDoor
open Go.RowKit
set_option maxHeartbeats 1000000 in
theorem listed_t(A A':Option Addr)(n m c c':Nat)(er bad:Int)(xs ys:List Int)(w:World)(hn:xs.length=n)(hm:ys.length=m)(hl:n≤1000)(h:IntsR w w.heap.size A xs)(h':IntsR w w.heap.size A' ys)(hE:er=bad)(he:xs=if bad=0 then ys else []):
 Calls Tryz.prog 27 #[.slice A n c,.int .i64 er,.int .i64 bad,.slice A' m c'] w fun e w'=>e=.returned (.bool true)∧Below w.heap.size w w':=by
 subst hE hn hm
 have H:=zh h
 have H':=zh h'
 clear h h'
 by_cases hb:er=0
 ·have hz:(er !=0)=false:=by rw[bne_eq_false_iff_eq];exact hb
  rw[if_pos hb]at he
  subst he
  clear hb
  go_enter Tryz.func27,Tryz.ntmps27
  go_wp2_with (go_at_call 56;(with_reducible refine Calls.mono (same_c xs xs.length A A' c c' _ rfl (by omega) (H.out.to (by exact zbl)) (H'.out.to (by exact zbl))) ?_);rintro e w1 ⟨rfl,hb1⟩)
  go_ret
  exact⟨ret_bool (by simp),by exact zbl⟩
 ·have hz:(er !=0)=true:=by rw[bne_iff_ne];exact hb
  rw[if_neg hb]at he
  subst he
  clear hb
  go_enter Tryz.func27,Tryz.ntmps27
  go_wp2_with (go_at_call 56;(with_reducible refine Calls.mono (same_c [] 0 A none c 0 _ rfl (by omega) (IntsR.nil0 _ _) (IntsR.nil0 _ _)) ?_);rintro e w1 ⟨rfl,hb1⟩)
  go_ret
  exact⟨ret_bool (by simp),by exact zbl⟩
set_option maxHeartbeats 1000000 in
theorem number_t(have_ er bad want:Int)(w:World)(hE:er=bad)(he:have_=if bad=0 then want else 0):
 Calls Tryz.prog 28 #[.int .i64 have_,.int .i64 er,.int .i64 bad,.int .i64 want] w fun e w'=>e=.returned (.bool true)∧w=w':=by
 subst hE
 by_cases hb:er=0
 ·have hz:(er !=0)=false:=by rw[bne_eq_false_iff_eq];exact hb
  rw[if_pos hb]at he
  subst he
  clear hb
  go_enter Tryz.func28,Tryz.ntmps28
  go_wp2_with fail
  go_ret
  exact⟨ret_bool (by simp),rfl⟩
 ·have hz:(er !=0)=true:=by rw[bne_iff_ne];exact hb
  rw[if_neg hb]at he
  subst he
  clear hb
  go_enter Tryz.func28,Tryz.ntmps28
  go_wp2_with fail
  go_ret
  exact⟨ret_bool (by simp),rfl⟩
set_option maxHeartbeats 1000000 in
theorem lfirst_c(b:Nat)(xs:List Int)(w:World)(hx:xs.length≤1000)(hb:CellsAt w b 0 xs):
 Calls Tryz.prog 23 #[.slice (some ⟨b,0,none⟩) xs.length xs.length] w fun e w'=>e=.returned (.int .i64 (firstErr xs))∧w=w':=by
 have HB:=zh hb
 clear hb
 go_enter Tryz.func23,Tryz.ntmps23
 go_wp2_with (go_at_call 100;(with_reducible refine Calls.mono (rFirst_c b xs _ hx HB.out) ?_);rintro e w1 ⟨rfl,rfl⟩)
 go_ret
 exact⟨rfl,rfl⟩
theorem IntsR.none_nil{w:World}{B:Nat}{xs:List Int}(h:IntsR w B none xs):xs= []:=by
 cases xs with
 |nil=>rfl
 |cons x l=>obtain⟨b,off,e,_⟩:=h.at (by simp);cases e
set_option maxRecDepth 100000 in
set_option maxHeartbeats 1000000 in
theorem ints_c(A:Option Addr)(xs:List Int)(c:Nat)(w:World)(hl:xs.length≤1000)(hr:IntsR w w.heap.size A xs)(hA:A=none→c=0):
 Calls Tryz.prog 30 #[.slice A xs.length c] w fun e w'=>∃v,e=.returned v∧OwnI w' w.heap.size v xs∧Below w.heap.size w w':=by
 obtain⟨i0,hi,hz0,hz1,hz2⟩:=info_parts Tryz.infoInt
 have hemp:OwnI (w.alloc (.cells #[] 3)) w.heap.size (.slice (some ⟨w.heap.size,0,none⟩) 0 0) []:=⟨by simp,.inr ⟨w.heap.size,0,#[],rfl,Nat.le_refl _,heap_alloc_new w _,Nat.le_refl _,Nat.zero_le _,rfl,rfl⟩⟩
 cases A with
 |none=>
  obtain rfl:=hA rfl
  obtain rfl:=hr.none_nil
  have HE:=zh hemp
  clear hr hA hemp
  simp only[List.length_nil]
  go_enter Tryz.func30,Tryz.ntmps30
  go_wp2_with (at_builtin;refine wpList_append_own_none rfl _ _ 30 rfl w.heap.size 3 i0 1 Tryz.underlying30 hi _ 0 [] rfl ?c1 rfl ?_)
  case c1=>exact HE.out
  go_wp2_with fail
  go_ret
  exact⟨_,rfl,HE.out,by exact zbl⟩
 |some ad=>
  have HE:=zh hemp
  have hc:∀j u,(xs.map (Value.int .i64))[j]? =some u→(w.alloc (.cells #[] 3)).cell? (ad.add j)=some u:=by
   intro j u hj
   rw[List.getElem?_map]at hj
   obtain⟨x,hx,rfl⟩:=Option.map_eq_some_iff.1 hj
   obtain⟨hj',rfl⟩:=List.getElem?_eq_some_iff.1 hx
   obtain⟨b,off,e,hb,hc⟩:=hr.at (by intro e;rw[e]at hj';simp at hj')
   cases e
   rw[Addr.add_lit]
   exact(World.cell?_alloc_lt _ _ ⟨b,off+j,none⟩ hb).trans (hc j hj')
  have HC:=zh hc
  clear hr hA hemp hc
  go_enter Tryz.func30,Tryz.ntmps30
  go_wp2_with (at_builtin;refine wpList_append_own _ rfl _ _ 30 rfl w.heap.size 3 i0 (.int .i64 0) 1 8 Tryz.underlying30 hi hz0 hz1 hz2 rfl (by decide) (.slice (some ⟨w.heap.size,0,none⟩) 0 0) 0 [] rfl ?c0 ad xs.length c (xs.map (Value.int .i64)) rfl ?cl ?c1 ?c2 ?c3 ?c4 ?c5 ?_)
  case c0=>exact HE.out
  case cl=>simp
  case c1=>exact HC.out
  case c2=>intro u hu;obtain⟨y,_,rfl⟩:=List.mem_map.1 hu;rfl
  case c3=>unfold maxLen;omega
  case c4=>omega
  case c5=>simp
  intro v' w6 hown' hgrow _
  go_wp2_with fail
  go_ret
  refine⟨v',rfl,?_,Below.grown (Below.alloc (Below.refl _ _) (Nat.le_refl _) _) hgrow (by simp) (fun k e=>by cases e;exact Nat.le_refl _)⟩
  unfold OwnI
  simpa using hown'
theorem StrsR.nil0(w:World)(B:Nat)(A:Option Addr):StrsR w B A []:=fun h=>absurd rfl h
set_option maxHeartbeats 1000000 in
theorem words_t(A A':Option Addr)(n m c c':Nat)(er bad:Int)(xs ys:List ByteArray)(w:World)(hn:xs.length=n)(hm:ys.length=m)(hl:n≤1000)(h:StrsR w w.heap.size A xs)(h':StrsR w w.heap.size A' ys)(hE:er=bad)(he:xs=if bad=0 then ys else []):
 Calls Tryz.prog 52 #[.slice A n c,.int .i64 er,.int .i64 bad,.slice A' m c'] w fun e w'=>e=.returned (.bool true)∧Below w.heap.size w w':=by
 subst hE hn hm
 have H:=zh h
 have H':=zh h'
 clear h h'
 by_cases hb:er=0
 ·have hz:(er !=0)=false:=by rw[bne_eq_false_iff_eq];exact hb
  rw[if_pos hb]at he
  subst he
  clear hb
  go_enter Tryz.func52,Tryz.ntmps52
  go_wp2_with (go_at_call 90;(with_reducible refine Calls.mono (sameW_c xs xs.length A A' c c' _ rfl (by omega) (H.out.to (by exact zbl)) (H'.out.to (by exact zbl))) ?_);rintro e w1 ⟨rfl,hb1⟩)
  go_ret
  exact⟨ret_bool (by simp),by exact zbl⟩
 ·have hz:(er !=0)=true:=by rw[bne_iff_ne];exact hb
  rw[if_neg hb]at he
  subst he
  clear hb
  go_enter Tryz.func52,Tryz.ntmps52
  go_wp2_with (go_at_call 90;(with_reducible refine Calls.mono (sameW_c [] 0 A none c 0 _ rfl (by omega) (StrsR.nil0 _ _ _) (StrsR.nil0 _ _ _)) ?_);rintro e w1 ⟨rfl,hb1⟩)
  go_ret
  exact⟨ret_bool (by simp),by exact zbl⟩
end Go.Proofs.YtehnikhicnnnhaaGreatDoor
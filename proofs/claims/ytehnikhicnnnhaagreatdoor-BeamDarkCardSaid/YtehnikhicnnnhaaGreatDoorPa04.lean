/- checkZones, checkStations. | checkStations. | checkMoves. | CheckGrid. | What a grid without a fault gives. Touches. | SafeMoves. -/
import Derived.Test.YtehnikhicnnnhaaGreatDoorPa03
namespace Go.Proofs.YtehnikhicnnnhaaGreatDoor
open Go.RowKit
theorem Tryz.zeroB(w:World):(zeroValue 4).run Tryz.prog w=.ok (.bool false) w:=by kernel_rfl
def zonE(seen:List ByteArray)(z:Zon):Int:=firstErr [nmC z.name,whn (memS seen z.name) 9,extC z]
def chkZ(seen:List ByteArray):List Zon→Int
 | []=>0
 |z::l=>if zonE seen z=0 then chkZ (seen++ [z.name]) l else zonE seen z
def zonesC(l:List Zon):Int:=if 8<l.length then 5 else chkZ [] l
theorem chkZ_step{l:List Zon}{k:Nat}(hk:k<l.length)(e:zonE ((l.take k).map Zon.name) l[k]=0)(h:Hid (chkZ ((l.take k).map Zon.name) (l.drop k)=chkZ [] l)):
 Hid (chkZ ((l.take (k+1)).map Zon.name) (l.drop (k+1))=chkZ [] l):=by
 have h1:=h.out
 rw[List.drop_eq_getElem_cons hk,chkZ,if_pos e]at h1
 rw[List.take_succ_eq_append_getElem hk,List.map_append]
 exact zh h1
theorem chkZ_bad{l:List Zon}{k:Nat}(hk:k<l.length)(e:zonE ((l.take k).map Zon.name) l[k]≠0)(h:Hid (chkZ ((l.take k).map Zon.name) (l.drop k)=chkZ [] l)):
 chkZ [] l=zonE ((l.take k).map Zon.name) l[k]:=by
 have h1:=h.out
 rw[List.drop_eq_getElem_cons hk,chkZ,if_neg e]at h1
 exact h1.symm
theorem chkZ_end{l:List Zon}{k:Nat}(hk:¬k<l.length)(h:Hid (chkZ ((l.take k).map Zon.name) (l.drop k)=chkZ [] l)):chkZ [] l=0:=by
 have h1:=h.out
 rw[List.drop_eq_nil_of_le (by omega)]at h1
 exact h1.symm
@[simp,go_sem] theorem drew_heap_ (w:World):w.drew.heap=w.heap:=rfl
theorem firstErr_zero{l:List Int}(h:firstErr l=0):∀x∈l,x=0:=by
 induction l with
 |nil=>intro x hx;cases hx
 |cons a l ih=>
  intro x hx
  simp only[firstErr]at h
  split at h
  ·rename_i ha
   rcases List.mem_cons.1 hx with rfl|hx
   ·exact ha
   ·exact ih h x hx
  ·rename_i ha;exact absurd h ha
theorem whn_zero{b:Bool}{n:Int}(h:whn b n=0)(hn:n≠0):b=false:=by
 cases b
 ·rfl
 ·exact absurd h hn
set_option maxRecDepth 100000 in
set_option maxHeartbeats 2000000 in
theorem checkZones_c(A:Option Addr)(l:List Zon)(c:Nat)(w:World)(hl:l.length≤1000)(hnm:∀z∈l,z.name.size≤100000)(hr:Rw w w.heap.size 4 A (l.map encZ)):
 Calls Tryz.prog 137 #[.slice A l.length c] w fun e w'=>e=.returned (.int .i64 (zonesC l))∧Below w.heap.size w w':=by
 by_cases h8:8<l.length
 ·have hz:=zh (show zonesC l=5 by simp[zonesC,h8])
  go_enter Tryz.func137,Tryz.ntmps137
  go_wp2
  go_ret
  exact⟨ret_int hz.out.symm,by exact zbl⟩
 ·have hz:=zh (show zonesC l=chkZ [] l by simp[zonesC,h8])
  have HR:=zh hr;clear hr
  have hmm:= @run_makeMap Tryz.prog
  go_enter Tryz.func137,Tryz.ntmps137
  go_wp2_with fail
  go_loopw [13] (fun i wr=>∃k:Nat,k≤l.length∧i=.int .i64 k∧SetAt wr w.heap.size ((l.take k).map Zon.name)∧Below w.heap.size w wr∧Hid (chkZ ((l.take k).map Zon.name) (l.drop k)=chkZ [] l)) (fun i _=>l.length-(intOf i).toNat)
  case atStart=>exact⟨0,Nat.zero_le _,rfl,SetAt.new _,by exact zbl,zh (by simp)⟩
  case round=>
   obtain⟨k,hk,rfl,hset,hb,hc⟩:=hrel
   by_cases hlt:k<l.length
   ·obtain⟨sn,hsn⟩:∃sn,sn=(l.take k).map Zon.name:=⟨_,rfl⟩
    rw[←hsn]at hset
    have HSN:=zh hsn
    obtain⟨b,off,rfl,hbl,c0,c1,c2,c3⟩:=(HR.out.belowB hb (Nat.le_refl _)).get4 (k:=k) (by simpa using hlt) (by rw[List.getElem_map];rfl)
    have hrl:w.heap.size<wr.heap.size:=hset.lt
    have hbl2:b<wr.heap.size:=by omega
    have hrl2:w.heap.size<wr.heap.size+1:=by omega
    have hs:=hnm _ (List.getElem_mem hlt)
    have hlk:∀W:World,W.heap[w.heap.size]? =(wr.alloc (.cells #[.string l[k].name,.int .i64 l[k].x,.int .i64 l[k].y,.int .i64 l[k].r] 119)).heap[w.heap.size]? →
     (Instr.lookup 196 (.map (some w.heap.size)) (.string l[k].name) false).run Tryz.prog W=.ok (.bool (memS sn l[k].name)) W:=
     fun W hW=>run_lookup_set _ Tryz.underlying196 Tryz.underlying9 (Tryz.zeroB W) (hset.keep (hW.trans (Below.heap_alloc _ _ _ hrl)))
    have hj1:wr.heap.size<(wr.alloc (.cells #[.string l[k].name,.int .i64 l[k].x,.int .i64 l[k].y,.int .i64 l[k].r] 119)).heap.size:=by simp
    by_cases he:zonE sn l[k]=0
    ·have hz1:(firstErr [nmC l[k].name,whn (memS sn l[k].name) 9,extC l[k]]!=0)=false:=by rw[bne_eq_false_iff_eq];exact he
     have HE:=zh he;clear he hsn
     go_wp2_with fail
     go_region_held3 (SHd (wr.alloc (.cells #[.string l[k].name,.int .i64 l[k].x,.int .i64 l[k].y,.int .i64 l[k].r] 119))) ((refine Sh.goal ?_;exact zsh)) (first|(go_at_call 123;refine(checkName_c _ _ hs).mono ?_;rintro e w1 ⟨rfl,hb1⟩)|(go_at_call 104;refine(when_c _ _ _).mono ?_;rintro e w' ⟨rfl,rfl⟩)|(go_at_call 131;refine(checkExtent_c l[k] _).mono ?_;rintro e w2 ⟨rfl,hb2⟩)|(go_at_call 103;refine(first_c _ [nmC l[k].name,whn (memS sn l[k].name) 9,extC l[k]] _ ?_ ?_).mono ?_;(focus simp);(focus simp[CellsAt]);rintro e w' ⟨rfl,rfl⟩))
     all_goals
      have hmem:=zh (whn_zero (n:=9) (firstErr_zero HE.out (whn (memS sn l[k].name) 9) (by simp)) (by decide))
      go_wp2_with (at_mapUpdate;refine wpList_update_set rfl _ _ _ _ rfl _ _ Tryz.underlying196 Tryz.underlying9 w.heap.size sn l[k].name rfl rfl rfl (hset.keep (Sh.at2 (W0:=wr) hrl ?_)) hmem.out ?_;(focus((repeat first|(with_reducible first|assumption|exact Sh.refl _|refine Sh.drew ?_|refine Sh.alloc ?_ _|refine Sh.set ?_ _ ?_)|(with_reducible apply Sh.below';(focus(with_reducible assumption)))|omega|(focus(simp;done))|(focus(simp;omega)))));intro wz hsz hgz)
      go_roundw
      case rel=>exact⟨k+1,by omega,by go_num,by rw[List.take_succ_eq_append_getElem hlt,List.map_append,←HSN.out];exact hsz,Below.grown (row:=some w.heap.size) (by exact zbl) hgz (by omega) (fun j e=>by cases e;exact Nat.le_refl _),chkZ_step hlt (by rw[←HSN.out];exact HE.out) hc⟩
      case measure=>simp[intOf];omega
    ·have hz1:(firstErr [nmC l[k].name,whn (memS sn l[k].name) 9,extC l[k]]!=0)=true:=by rw[bne_iff_ne];exact he
     have HE:=zh he;clear he hsn
     go_wp2_with fail
     go_region_held3 (SHd (wr.alloc (.cells #[.string l[k].name,.int .i64 l[k].x,.int .i64 l[k].y,.int .i64 l[k].r] 119))) ((refine Sh.goal ?_;exact zsh)) (first|(go_at_call 123;refine(checkName_c _ _ hs).mono ?_;rintro e w1 ⟨rfl,hb1⟩)|(go_at_call 104;refine(when_c _ _ _).mono ?_;rintro e w' ⟨rfl,rfl⟩)|(go_at_call 131;refine(checkExtent_c l[k] _).mono ?_;rintro e w2 ⟨rfl,hb2⟩)|(go_at_call 103;refine(first_c _ [nmC l[k].name,whn (memS sn l[k].name) 9,extC l[k]] _ ?_ ?_).mono ?_;(focus simp);(focus simp[CellsAt]);rintro e w' ⟨rfl,rfl⟩))
     all_goals
      go_wp2
      go_ret
      exact⟨ret_int (hz.out.trans ((chkZ_bad hlt (by rw[←HSN.out];exact HE.out) hc).trans (by rw[←HSN.out];rfl))).symm,by exact zbl⟩
   ·go_wp2_with fail
    go_ret
    exact⟨ret_int (hz.out.trans (chkZ_end hlt hc)).symm,hb⟩
def kinds:List ByteArray:= ["focus".toUTF8, "standby".toUTF8, "stow".toUTF8]
structure KindsAt(w:World):Prop where
 lt:0<w.heap.size
 k0:w.cell? ⟨0,0,none⟩=some (.string "focus".toUTF8)
 k1:w.cell? ⟨0,1,none⟩=some (.string "standby".toUTF8)
 k2:w.cell? ⟨0,2,none⟩=some (.string "stow".toUTF8)
theorem KindsAt.belowB{w w' w0:World}(h:KindsAt w)(hb:Below w0.heap.size w w')(h0:0<w0.heap.size):KindsAt w':=
 ⟨Nat.lt_of_lt_of_le h.lt hb.size,(hb.cell (p:=⟨0,0,none⟩) h0).trans h.k0,(hb.cell (p:=⟨0,1,none⟩) h0).trans h.k1,(hb.cell (p:=⟨0,2,none⟩) h0).trans h.k2⟩
theorem kindsRw{W:World}(hs:0<W.heap.size)(k0:W.cell? ⟨0,0,none⟩=some (.string "focus".toUTF8))(k1:W.cell? ⟨0,1,none⟩=some (.string "standby".toUTF8))
 (k2:W.cell? ⟨0,2,none⟩=some (.string "stow".toUTF8)) :Rw W W.heap.size 1 (some ⟨0,0,none⟩) (kinds.map fun t=> [Value.string t]):=by
 intro _
 refine⟨_,_,rfl,hs,?_⟩
 intro k hk j v hv
 have hk3:k<3:=by simpa [kinds]using hk
 have hj:j=0:=by
  cases j with
  |zero=>rfl
  |succ j=>simp at hv
 subst hj
 match k,hk3 with
 |0,_=>simp[kinds]at hv;subst hv;exact k0
 |1,_=>simp[kinds]at hv;subst hv;exact k1
 |2,_=>simp[kinds]at hv;subst hv;exact k2
theorem KindsAt.alloc{w:World}(h:KindsAt w)(o:Obj):KindsAt (w.alloc o):=
 ⟨by simp,(World.cell?_alloc_lt w o ⟨0,0,none⟩ h.lt).trans h.k0,(World.cell?_alloc_lt w o ⟨0,1,none⟩ h.lt).trans h.k1,(World.cell?_alloc_lt w o ⟨0,2,none⟩ h.lt).trans h.k2⟩
theorem KindsAt.sh{W0 W:World}(h:Hid (KindsAt W0))(hs:Sh W0 W):Rw W W.heap.size 1 (some ⟨0,0,none⟩) (kinds.map fun t=> [Value.string t]):=
 kindsRw (Nat.lt_of_lt_of_le h.out.lt hs.1) (hs.at h.out.k0) (hs.at h.out.k1) (hs.at h.out.k2)
theorem checkPlaceC_c(x y:Int)(w:World):
 Calls Tryz.prog 132 #[.agg #[.int .i64 x,.int .i64 y]] w fun e w'=>e=.returned (.int .i64 (placeC x y))∧Below w.heap.size w w':=checkPlace_c x y w
def staE(seen:List ByteArray)(z:Sta):Int:=firstErr [nmC z.name,whn (memS seen z.name) 9,whn (!memS kinds z.kind) 13,placeC z.x z.y]
def chkS(seen:List ByteArray):List Sta→Int
 | []=>0
 |z::l=>if staE seen z=0 then chkS (seen++ [z.name]) l else staE seen z
def stasC(l:List Sta):Int:=if 16<l.length then 5 else chkS [] l
theorem chkS_step{l:List Sta}{k:Nat}(hk:k<l.length)(e:staE ((l.take k).map Sta.name) l[k]=0)(h:Hid (chkS ((l.take k).map Sta.name) (l.drop k)=chkS [] l)):
 Hid (chkS ((l.take (k+1)).map Sta.name) (l.drop (k+1))=chkS [] l):=by
 have h1:=h.out
 rw[List.drop_eq_getElem_cons hk,chkS,if_pos e]at h1
 rw[List.take_succ_eq_append_getElem hk,List.map_append]
 exact zh h1
theorem chkS_bad{l:List Sta}{k:Nat}(hk:k<l.length)(e:staE ((l.take k).map Sta.name) l[k]≠0)(h:Hid (chkS ((l.take k).map Sta.name) (l.drop k)=chkS [] l)):
 chkS [] l=staE ((l.take k).map Sta.name) l[k]:=by
 have h1:=h.out
 rw[List.drop_eq_getElem_cons hk,chkS,if_neg e]at h1
 exact h1.symm
theorem chkS_end{l:List Sta}{k:Nat}(hk:¬k<l.length)(h:Hid (chkS ((l.take k).map Sta.name) (l.drop k)=chkS [] l)):chkS [] l=0:=by
 have h1:=h.out
 rw[List.drop_eq_nil_of_le (by omega)]at h1
 exact h1.symm
set_option maxRecDepth 100000 in
set_option maxHeartbeats 2000000 in
theorem checkStations_c(A:Option Addr)(l:List Sta)(c:Nat)(w:World)(hl:l.length≤1000)(hnm:∀z∈l,z.name.size≤100000)(hr:Rw w w.heap.size 4 A (l.map encS))(hkd:KindsAt w):
 Calls Tryz.prog 135 #[.slice A l.length c] w fun e w'=>e=.returned (.int .i64 (stasC l))∧Below w.heap.size w w':=by
 by_cases h8:16<l.length
 ·have hz:=zh (show stasC l=5 by simp[stasC,h8])
  go_enter Tryz.func135,Tryz.ntmps135
  go_wp2
  go_ret
  exact⟨ret_int hz.out.symm,by exact zbl⟩
 ·have hz:=zh (show stasC l=chkS [] l by simp[stasC,h8])
  have HR:=zh hr;clear hr
  have HK:=zh hkd;clear hkd
  have hmm:= @run_makeMap Tryz.prog
  go_enter Tryz.func135,Tryz.ntmps135
  go_wp2_with fail
  go_loopw [13] (fun i wr=>∃k:Nat,k≤l.length∧i=.int .i64 k∧SetAt wr w.heap.size ((l.take k).map Sta.name)∧Below w.heap.size w wr∧Hid (chkS ((l.take k).map Sta.name) (l.drop k)=chkS [] l)) (fun i _=>l.length-(intOf i).toNat)
  case atStart=>exact⟨0,Nat.zero_le _,rfl,SetAt.new _,by exact zbl,zh (by simp)⟩
  case round=>
   obtain⟨k,hk,rfl,hset,hb,hc⟩:=hrel
   by_cases hlt:k<l.length
   ·obtain⟨sn,hsn⟩:∃sn,sn=(l.take k).map Sta.name:=⟨_,rfl⟩
    rw[←hsn]at hset
    have HSN:=zh hsn
    obtain⟨b,off,rfl,hbl,c0,c1,c2,c3⟩:=(HR.out.belowB hb (Nat.le_refl _)).get4 (k:=k) (by simpa using hlt) (by rw[List.getElem_map];rfl)
    have hrl:w.heap.size<wr.heap.size:=hset.lt
    have hbl2:b<wr.heap.size:=by omega
    have hrl2:w.heap.size<wr.heap.size+1:=by omega
    have HK2:=zh ((HK.out.belowB hb HK.out.lt).alloc (.cells #[.string l[k].name,.string l[k].kind,.int .i64 l[k].x,.int .i64 l[k].y] 163))
    have hs:=hnm _ (List.getElem_mem hlt)
    have hlk:∀W:World,W.heap[w.heap.size]? =(wr.alloc (.cells #[.string l[k].name,.string l[k].kind,.int .i64 l[k].x,.int .i64 l[k].y] 163)).heap[w.heap.size]? →
     (Instr.lookup 196 (.map (some w.heap.size)) (.string l[k].name) false).run Tryz.prog W=.ok (.bool (memS sn l[k].name)) W:=
     fun W hW=>run_lookup_set _ Tryz.underlying196 Tryz.underlying9 (Tryz.zeroB W) (hset.keep (hW.trans (Below.heap_alloc _ _ _ hrl)))
    have hj1:wr.heap.size<(wr.alloc (.cells #[.string l[k].name,.string l[k].kind,.int .i64 l[k].x,.int .i64 l[k].y] 163)).heap.size:=by simp
    by_cases he:staE sn l[k]=0
    ·have hz1:(firstErr [nmC l[k].name,whn (memS sn l[k].name) 9,whn (!memS kinds l[k].kind) 13,placeC l[k].x l[k].y]!=0)=false:=by rw[bne_eq_false_iff_eq];exact he
     have HE:=zh he;clear he hsn
     go_wp2_with fail
     go_region_held3 (SHd (wr.alloc (.cells #[.string l[k].name,.string l[k].kind,.int .i64 l[k].x,.int .i64 l[k].y] 163))) ((refine Sh.goal ?_;exact zsh)) (first|(go_at_call 123;refine(checkName_c _ _ hs).mono ?_;rintro e w1 ⟨rfl,hb1⟩)|(go_at_call 104;refine(when_c _ _ _).mono ?_;rintro e w' ⟨rfl,rfl⟩)|(go_at_call 132;refine(checkPlaceC_c _ _ _).mono ?_;rintro e w2 ⟨rfl,hb2⟩)|(go_at_call 179;refine(hasStr_c _ _ kinds _ _ (by decide) ?_).mono ?_;(refine KindsAt.sh HK2 ?_);(focus((repeat first|(with_reducible first|assumption|exact Sh.refl _|refine Sh.drew ?_|refine Sh.alloc ?_ _|refine Sh.set ?_ _ ?_)|(with_reducible apply Sh.below';(focus(with_reducible assumption)))|omega|(focus(simp;done))|(focus(simp;omega)))));rintro e w' ⟨rfl,rfl⟩)|(go_at_call 103;refine(first_c _ [nmC l[k].name,whn (memS sn l[k].name) 9,whn (!memS kinds l[k].kind) 13,placeC l[k].x l[k].y] _ ?_ ?_).mono ?_;(focus simp);(focus simp[CellsAt]);rintro e w' ⟨rfl,rfl⟩))
     all_goals
      have hmem:=zh (whn_zero (n:=9) (firstErr_zero HE.out (whn (memS sn l[k].name) 9) (by simp)) (by decide))
      go_wp2_with (at_mapUpdate;refine wpList_update_set rfl _ _ _ _ rfl _ _ Tryz.underlying196 Tryz.underlying9 w.heap.size sn l[k].name rfl rfl rfl (hset.keep (Sh.at2 (W0:=wr) hrl ?_)) hmem.out ?_;(focus((repeat first|(with_reducible first|assumption|exact Sh.refl _|refine Sh.drew ?_|refine Sh.alloc ?_ _|refine Sh.set ?_ _ ?_)|(with_reducible apply Sh.below';(focus(with_reducible assumption)))|omega|(focus(simp;done))|(focus(simp;omega)))));intro wz hsz hgz)
      go_roundw
      case rel=>exact⟨k+1,by omega,by go_num,by rw[List.take_succ_eq_append_getElem hlt,List.map_append,←HSN.out];exact hsz,Below.grown (row:=some w.heap.size) (by exact zbl) hgz (by omega) (fun j e=>by cases e;exact Nat.le_refl _),chkS_step hlt (by rw[←HSN.out];exact HE.out) hc⟩
      case measure=>simp[intOf];omega
    ·have hz1:(firstErr [nmC l[k].name,whn (memS sn l[k].name) 9,whn (!memS kinds l[k].kind) 13,placeC l[k].x l[k].y]!=0)=true:=by rw[bne_iff_ne];exact he
     have HE:=zh he;clear he hsn
     go_wp2_with fail
     go_region_held3 (SHd (wr.alloc (.cells #[.string l[k].name,.string l[k].kind,.int .i64 l[k].x,.int .i64 l[k].y] 163))) ((refine Sh.goal ?_;exact zsh)) (first|(go_at_call 123;refine(checkName_c _ _ hs).mono ?_;rintro e w1 ⟨rfl,hb1⟩)|(go_at_call 104;refine(when_c _ _ _).mono ?_;rintro e w' ⟨rfl,rfl⟩)|(go_at_call 132;refine(checkPlaceC_c _ _ _).mono ?_;rintro e w2 ⟨rfl,hb2⟩)|(go_at_call 179;refine(hasStr_c _ _ kinds _ _ (by decide) ?_).mono ?_;(refine KindsAt.sh HK2 ?_);(focus((repeat first|(with_reducible first|assumption|exact Sh.refl _|refine Sh.drew ?_|refine Sh.alloc ?_ _|refine Sh.set ?_ _ ?_)|(with_reducible apply Sh.below';(focus(with_reducible assumption)))|omega|(focus(simp;done))|(focus(simp;omega)))));rintro e w' ⟨rfl,rfl⟩)|(go_at_call 103;refine(first_c _ [nmC l[k].name,whn (memS sn l[k].name) 9,whn (!memS kinds l[k].kind) 13,placeC l[k].x l[k].y] _ ?_ ?_).mono ?_;(focus simp);(focus simp[CellsAt]);rintro e w' ⟨rfl,rfl⟩))
     all_goals
      go_wp2
      go_ret
      exact⟨ret_int (hz.out.trans ((chkS_bad hlt (by rw[←HSN.out];exact HE.out) hc).trans (by rw[←HSN.out];rfl))).symm,by exact zbl⟩
   ·go_wp2_with fail
    go_ret
    exact⟨ret_int (hz.out.trans (chkS_end hlt hc)).symm,hb⟩
theorem Rw.take{w:World}{B sz:Nat}{A:Option Addr}{l:List (List Value)}(h:Rw w B sz A l)(k:Nat):Rw w B sz A (l.take k):=fun hn=>by
 obtain⟨b,off,e,hb,hc⟩:=h (fun e=>hn (by simp[e]))
 refine⟨b,off,e,hb,fun i hi j v hv=>?_⟩
 rw[List.getElem_take]at hv
 exact hc i (by simp at hi;omega) j v hv
def sameM(m n:Mov):Bool:=n.a==m.a&&n.b==m.b
def movE(g:Grd)(pre:List Mov)(m:Mov):Int:=
 firstErr [whn (!hasB g m.a) 10,whn (!hasB g m.b) 10,whn (decide (m.b≤m.a)) 11,whn (pre.any (sameM m)) 9,rng m.s 1 20]
def chkM(g:Grd)(pre:List Mov):List Mov→Int
 | []=>0
 |m::l=>if movE g pre m=0 then chkM g (pre++ [m]) l else movE g pre m
def movesC(g:Grd):Int:=if 40<g.mov.length then 5 else chkM g [] g.mov
theorem chkM_step{g:Grd}{l:List Mov}{k:Nat}(hk:k<l.length)(e:movE g (l.take k) l[k]=0)(h:Hid (chkM g (l.take k) (l.drop k)=chkM g [] l)):
 Hid (chkM g (l.take (k+1)) (l.drop (k+1))=chkM g [] l):=by
 have h1:=h.out
 rw[List.drop_eq_getElem_cons hk,chkM,if_pos e]at h1
 rw[List.take_succ_eq_append_getElem hk]
 exact zh h1
theorem chkM_bad{g:Grd}{l:List Mov}{k:Nat}(hk:k<l.length)(e:movE g (l.take k) l[k]≠0)(h:Hid (chkM g (l.take k) (l.drop k)=chkM g [] l)):
 chkM g [] l=movE g (l.take k) l[k]:=by
 have h1:=h.out
 rw[List.drop_eq_getElem_cons hk,chkM,if_neg e]at h1
 exact h1.symm
theorem chkM_end{g:Grd}{l:List Mov}{k:Nat}(hk:¬k<l.length)(h:Hid (chkM g (l.take k) (l.drop k)=chkM g [] l)):chkM g [] l=0:=by
 have h1:=h.out
 rw[List.drop_eq_nil_of_le (by omega)]at h1
 exact h1.symm
set_option maxHeartbeats 400000 in
theorem sameM_c(m n:Mov)(mb:Nat)(w:World)(c0:w.cell? ⟨mb,0,none⟩=some (.int .i64 m.a))(c1:w.cell? ⟨mb,1,none⟩=some (.int .i64 m.b)):
 Calls Tryz.prog 181 #[.agg #[.int .i64 n.a,.int .i64 n.b,.int .i64 n.s],.pointer (some ⟨mb,0,none⟩)] w
  fun e w'=>e=.returned (.bool (sameM m n))∧Below w.heap.size w w':=by
 have g1:=World.block_lt_of_cell? w ⟨mb,0,none⟩ c0
 by_cases h:n.a=m.a
 ·have h2:(n.a==m.a)=true:=by simpa using h
  go_enter Tryz.func181,Tryz.ntmps181
  go_wp2
  go_ret
  exact⟨ret_bool (by simp[sameM,h]),by exact zbl⟩
 ·have h2:(n.a==m.a)=false:=by simpa using h
  go_enter Tryz.func181,Tryz.ntmps181
  go_wp2
  go_ret
  exact⟨ret_bool (by simp[sameM,h]),by exact zbl⟩
theorem has_c2(pS pM pZ:Option Addr)(cs cm cz:Nat)(g:Grd)(i:Int)(w:World):
 Calls Tryz.prog 107 #[.agg #[.int .i64 g.blur,.slice pS g.sta.length cs,.slice pM g.mov.length cm,.slice pZ g.zon.length cz],.int .i64 i] w fun e w'=>e=.returned (.bool (hasB g i))∧Below w.heap.size w w':=
 has_c ⟨pS,pM,pZ,cs,cm,cz⟩ g i w
theorem hasMove_n{α:Type}(enc:α→List Value)(p:α→Bool)(gf:Nat)(cap:Array Value)(A:Option Addr)(l:List α)(n c:Nat)(w:World)(hn:l.length=n)(hl:n≤1000)
 (hen:∀args w,(callFunc gf args).run Tryz.prog w=.ok (.enter gf args) w) (hr:Rw w w.heap.size 3 A (l.map enc)) (henc:∀x∈l,∃v0 v1 v2,enc x= [v0,v1,v2])
 (hcall:∀x∈l,∀v0 v1 v2,enc x= [v0,v1,v2]→∀W,Below w.heap.size w W→Calls Tryz.prog gf (#[.agg #[v0,v1,v2]]++cap) W fun e W'=>e=.returned (.bool (p x))∧Below W.heap.size W W'):
 Calls Tryz.prog 180 #[.slice A n c,.func (.func gf) #[] cap] w fun e w'=>e=.returned (.bool (l.any p))∧Below w.heap.size w w':=by
 subst hn;exact hasMove_c enc p gf cap A l c w hl hen hr henc hcall
set_option maxRecDepth 100000 in
set_option maxHeartbeats 2000000 in
theorem checkMoves_c(a:GA)(g:Grd)(w:World)(hnm:g.mov.length≤1000)(hr:GridR w w.heap.size a g):
 Calls Tryz.prog 136 #[(.agg #[.int .i64 g.blur,.slice a.pS g.sta.length a.cs,.slice a.pM g.mov.length a.cm,.slice a.pZ g.zon.length a.cz])] w fun e w'=>e=.returned (.int .i64 (movesC g))∧Below w.heap.size w w':=by
 by_cases h8:40<g.mov.length
 ·have hz:=zh (show movesC g=5 by simp[movesC,h8])
  go_enter Tryz.func136,Tryz.ntmps136
  go_wp2
  go_ret
  exact⟨ret_int hz.out.symm,by exact zbl⟩
 ·have hz:=zh (show movesC g=chkM g [] g.mov by simp[movesC,h8])
  have HR:=zh hr;clear hr
  have hcap:=HR.out.capM
  go_enter Tryz.func136,Tryz.ntmps136
  go_wp2_with fail
  go_loopw [14] (fun i wr=>∃k:Nat,k≤g.mov.length∧i=.int .i64 k∧wr.cell? ⟨w.heap.size,0,none⟩=some (.int .i64 g.blur)∧wr.cell? ⟨w.heap.size,1,none⟩=some (.slice a.pS g.sta.length a.cs)∧wr.cell? ⟨w.heap.size,2,none⟩=some (.slice a.pM g.mov.length a.cm)∧wr.cell? ⟨w.heap.size,3,none⟩=some (.slice a.pZ g.zon.length a.cz)∧Below w.heap.size w wr∧Hid (chkM g (g.mov.take k) (g.mov.drop k)=chkM g [] g.mov)) (fun i _=>g.mov.length-(intOf i).toNat)
  case atStart=>exact⟨0,Nat.zero_le _,rfl,by simp,by simp,by simp,by simp,by exact zbl,zh (by simp)⟩
  case round=>
   obtain⟨k,hk,rfl,d0,d1,d2,d3,hb,hc⟩:=hrel
   have hgl:=World.block_lt_of_cell? wr ⟨w.heap.size,0,none⟩ d0
   simp only at hgl
   by_cases hlt:k<g.mov.length
   ·obtain⟨b,off,hA,hbl,c0,c1,c2⟩:=(HR.out.mov.belowB hb (Nat.le_refl _)).get3 (k:=k) (by simpa using hlt) (by rw[List.getElem_map];rfl)
    have hbl2:b<wr.heap.size:=by omega
    have hgl2:w.heap.size<wr.heap.size+1:=by omega
    obtain⟨pre,hpre⟩:∃pre,pre=g.mov.take k:=⟨_,rfl⟩
    have hpl:pre.length=k:=by rw[hpre];simp;omega
    have HPR:=zh hpre;clear hpre
    have HRT:=zh (show Rw wr wr.heap.size 3 a.pM (pre.map encM) by rw[HPR.out,List.map_take];exact((HR.out.mov.belowB hb (Nat.le_refl _)).more (Nat.le_of_lt hgl)).take k)
    rw[hA]at HRT d2
    rw[hA]
    go_wp2_with fail
    refine(hasMove_n encM (sameM g.mov[k]) 181 _ _ pre _ _ _ hpl (by omega) (Go.Proofs.enters_of Tryz.func181 (by kernel_rfl) rfl) ?_ (fun z _=>⟨_,_,_,rfl⟩) ?_).mono ?_
    ·exact(HRT.out.belowB (w0:=wr) (by exact zbl) (Nat.le_refl _)).more (by simp)
    ·intro z hz v0 v1 v2 hv W hW
     simp only[encM,List.cons.injEq]at hv
     obtain⟨rfl,rfl,rfl,_⟩:=hv
     refine sameM_c g.mov[k] z _ W ?_ ?_
     all_goals exact(hW.cell (by simp)).trans (by simp)
    ·rintro e wh ⟨rfl,hbh⟩
     obtain⟨hcc,hff⟩:=bcell hbh
     have hzz:=hbh.size
     simp at hzz
     have z1:wr.heap.size<wh.heap.size:=by omega
     have z2:w.heap.size<wh.heap.size:=by omega
     have z3:w.heap.size<wh.heap.size+1:=by omega
     have z4:wr.heap.size<wh.heap.size+1:=by omega
     have D0:=zh (show wh.cell? ⟨w.heap.size,0,none⟩=some (.int .i64 g.blur)from(hbh.cell (p:=⟨w.heap.size,0,none⟩) (by simp;omega)).trans ((World.cell?_alloc_lt _ _ ⟨w.heap.size,0,none⟩ hgl).trans d0))
     have D1:=zh (show wh.cell? ⟨w.heap.size,1,none⟩=some (.slice a.pS g.sta.length a.cs)from(hbh.cell (p:=⟨w.heap.size,1,none⟩) (by simp;omega)).trans ((World.cell?_alloc_lt _ _ ⟨w.heap.size,1,none⟩ hgl).trans d1))
     have D2:=zh (show wh.cell? ⟨w.heap.size,2,none⟩=some (.slice (some ⟨b,off,none⟩) g.mov.length a.cm)from(hbh.cell (p:=⟨w.heap.size,2,none⟩) (by simp;omega)).trans ((World.cell?_alloc_lt _ _ ⟨w.heap.size,2,none⟩ hgl).trans d2))
     have D3:=zh (show wh.cell? ⟨w.heap.size,3,none⟩=some (.slice a.pZ g.zon.length a.cz)from(hbh.cell (p:=⟨w.heap.size,3,none⟩) (by simp;omega)).trans ((World.cell?_alloc_lt _ _ ⟨w.heap.size,3,none⟩ hgl).trans d3))
     by_cases he:movE g pre g.mov[k]=0
     ·have hz1:(firstErr [whn (!hasB g g.mov[k].a) 10,whn (!hasB g g.mov[k].b) 10,whn (decide (g.mov[k].b≤g.mov[k].a)) 11,whn (pre.any (sameM g.mov[k])) 9,rng g.mov[k].s 1 20]!=0)=false:=by rw[bne_eq_false_iff_eq];exact he
      have HE:=zh he;clear he
      go_wp2_with fail
      go_region_held3 (SSd wh) ((refine Sx.goal ?_;exact zsx)) (first|(go_at_call 107;refine(has_c2 _ _ _ _ _ _ g _ _).mono ?_;rintro e w1 ⟨rfl,hb1⟩)|(go_at_call 104;refine(when_c _ _ _).mono ?_;rintro e w' ⟨rfl,rfl⟩)|(go_at_call 122;refine(within_c _ _ _ _).mono ?_;rintro e w' ⟨rfl,rfl⟩)|(go_at_call 103;refine(first_c _ [whn (!hasB g g.mov[k].a) 10,whn (!hasB g g.mov[k].b) 10,whn (decide (g.mov[k].b≤g.mov[k].a)) 11,whn (pre.any (sameM g.mov[k])) 9,rng g.mov[k].s 1 20] _ ?_ ?_).mono ?_;(focus simp);(focus simp[CellsAt]);rintro e w' ⟨rfl,rfl⟩))
      all_goals
       go_wp2_with fail
       go_roundw
       case rel=>exact⟨k+1,by omega,by go_num,Sx.at (W0:=wh) (by exact zsx) D0.out,Sx.at (W0:=wh) (by exact zsx) D1.out,Sx.at (W0:=wh) (by exact zsx) D2.out,Sx.at (W0:=wh) (by exact zsx) D3.out,by exact zbl,chkM_step hlt (by rw[←HPR.out];exact HE.out) hc⟩
       case measure=>simp[intOf];omega
     ·have hz1:(firstErr [whn (!hasB g g.mov[k].a) 10,whn (!hasB g g.mov[k].b) 10,whn (decide (g.mov[k].b≤g.mov[k].a)) 11,whn (pre.any (sameM g.mov[k])) 9,rng g.mov[k].s 1 20]!=0)=true:=by rw[bne_iff_ne];exact he
      have HE:=zh he;clear he
      go_wp2_with fail
      go_region_held3 (SSd wh) ((refine Sx.goal ?_;exact zsx)) (first|(go_at_call 107;refine(has_c2 _ _ _ _ _ _ g _ _).mono ?_;rintro e w1 ⟨rfl,hb1⟩)|(go_at_call 104;refine(when_c _ _ _).mono ?_;rintro e w' ⟨rfl,rfl⟩)|(go_at_call 122;refine(within_c _ _ _ _).mono ?_;rintro e w' ⟨rfl,rfl⟩)|(go_at_call 103;refine(first_c _ [whn (!hasB g g.mov[k].a) 10,whn (!hasB g g.mov[k].b) 10,whn (decide (g.mov[k].b≤g.mov[k].a)) 11,whn (pre.any (sameM g.mov[k])) 9,rng g.mov[k].s 1 20] _ ?_ ?_).mono ?_;(focus simp);(focus simp[CellsAt]);rintro e w' ⟨rfl,rfl⟩))
      all_goals
       go_wp2
       go_ret
       exact⟨ret_int (hz.out.trans ((chkM_bad hlt (by rw[←HPR.out];exact HE.out) hc).trans (by rw[←HPR.out];rfl))).symm,by exact zbl⟩
   ·go_wp2_with fail
    go_ret
    exact⟨ret_int (hz.out.trans (chkM_end hlt hc)).symm,hb⟩
structure SmallG(g:Grd):Prop where
 ns:g.sta.length≤1000
 nm:g.mov.length≤1000
 nz:g.zon.length≤1000
 names:∀s∈g.sta,s.name.size≤100000
 namez:∀z∈g.zon,z.name.size≤100000
theorem Rw.sx{W0 W:World}{B sz:Nat}{A:Option Addr}{l:List (List Value)}(h:Rw W0 B sz A l)(hB:B≤W0.heap.size)(hs:Sx W0 W):Rw W W.heap.size sz A l:=
 (h.keep fun b o hb=>hs.2 b o (Nat.lt_of_lt_of_le hb hB)).more (Nat.le_trans hB hs.1)
theorem KindsAt.sx{W0 W:World}(h:KindsAt W0)(hs:Sx W0 W):KindsAt W:=⟨Nat.lt_of_lt_of_le h.lt hs.1,hs.at h.k0,hs.at h.k1,hs.at h.k2⟩
theorem GridR.sx{W0 W:World}{B:Nat}{a:GA}{g:Grd}(h:GridR W0 B a g)(hB:B≤W0.heap.size)(hs:Sx W0 W):GridR W W.heap.size a g:=
 ⟨h.sta.sx hB hs,h.mov.sx hB hs,h.zon.sx hB hs,h.capS,h.capM,h.capZ⟩
def gridC(g:Grd):Int:=firstErr [rng g.blur 0 100,stasC g.sta,movesC g,zonesC g.zon]
set_option maxHeartbeats 2000000 in
theorem CheckGrid_c(a:GA)(g:Grd)(w:World)(hg:SmallG g)(hr:GridR w w.heap.size a g)(hkd:KindsAt w):
 Calls Tryz.prog 66 #[(.agg #[.int .i64 g.blur,.slice a.pS g.sta.length a.cs,.slice a.pM g.mov.length a.cm,.slice a.pZ g.zon.length a.cz])] w fun e w'=>e=.returned (.int .i64 (gridC g))∧Below w.heap.size w w':=by
 have HG:=zh (hr.sx (Nat.le_refl _) ((Sx.refl w).alloc (.cells #[.int .i64 g.blur,.slice a.pS g.sta.length a.cs,.slice a.pM g.mov.length a.cm,.slice a.pZ g.zon.length a.cz] 38)))
 have HK:=zh (hkd.alloc (.cells #[.int .i64 g.blur,.slice a.pS g.sta.length a.cs,.slice a.pM g.mov.length a.cm,.slice a.pZ g.zon.length a.cz] 38))
 clear hr hkd
 go_enter Tryz.func66,Tryz.ntmps66
 go_wp2_with fail
 go_region_held3 (SSd (w.alloc (.cells #[.int .i64 g.blur,.slice a.pS g.sta.length a.cs,.slice a.pM g.mov.length a.cm,.slice a.pZ g.zon.length a.cz] 38))) ((refine Sx.goal ?_;exact zsx)) (first|(go_at_call 122;refine(within_c _ _ _ _).mono ?_;rintro e w' ⟨rfl,rfl⟩)|(go_at_call 135;refine(checkStations_c _ g.sta _ _ hg.ns hg.names ?_ ?_).mono ?_;(focus(refine HG.out.sta.sx (Nat.le_refl _) ?_;(focus((repeat first|(with_reducible first|assumption|exact Sx.refl _|refine Sx.drew ?_|refine Sx.alloc ?_ _|refine Sx.set ?_ _ ?_)|(with_reducible apply Sx.below';(focus(with_reducible assumption)))|omega|(focus(simp;done))|(focus(simp;omega)))))));(focus(refine HK.out.sx ?_;(focus((repeat first|(with_reducible first|assumption|exact Sx.refl _|refine Sx.drew ?_|refine Sx.alloc ?_ _|refine Sx.set ?_ _ ?_)|(with_reducible apply Sx.below';(focus(with_reducible assumption)))|omega|(focus(simp;done))|(focus(simp;omega)))))));rintro e w1 ⟨rfl,hb1⟩)|(go_at_call 136;refine(checkMoves_c a g _ hg.nm ?_).mono ?_;(focus(refine HG.out.sx (Nat.le_refl _) ?_;(focus((repeat first|(with_reducible first|assumption|exact Sx.refl _|refine Sx.drew ?_|refine Sx.alloc ?_ _|refine Sx.set ?_ _ ?_)|(with_reducible apply Sx.below';(focus(with_reducible assumption)))|omega|(focus(simp;done))|(focus(simp;omega)))))));rintro e w2 ⟨rfl,hb2⟩)|(go_at_call 137;refine(checkZones_c _ g.zon _ _ hg.nz hg.namez ?_).mono ?_;(focus(refine HG.out.zon.sx (Nat.le_refl _) ?_;(focus((repeat first|(with_reducible first|assumption|exact Sx.refl _|refine Sx.drew ?_|refine Sx.alloc ?_ _|refine Sx.set ?_ _ ?_)|(with_reducible apply Sx.below';(focus(with_reducible assumption)))|omega|(focus(simp;done))|(focus(simp;omega)))))));rintro e w3 ⟨rfl,hb3⟩)|(go_at_call 103;refine(first_c _ [rng g.blur 0 100,stasC g.sta,movesC g,zonesC g.zon] _ ?_ ?_).mono ?_;(focus simp);(focus simp[CellsAt]);rintro e w' ⟨rfl,rfl⟩))
 all_goals
  go_wp2
  go_ret
  exact⟨rfl,by exact zbl⟩
theorem rng_zero{n lo hi:Int}(h:rng n lo hi=0):lo≤n∧n≤hi:=by
 unfold rng at h;split at h<;>omega
theorem chkS_ok{l:List Sta}:∀{pre:List ByteArray},chkS pre l=0→∀s∈l,okS s:=by
 induction l with
 |nil=>intro _ _ s hs;cases hs
 |cons a l ih=>
  intro pre h s hs
  simp only[chkS]at h
  split at h
  ·rename_i he
   rcases List.mem_cons.1 hs with rfl|hs
   ·have h1:=firstErr_zero he (placeC s.x s.y) (by simp)
    have h2:=rng_zero (firstErr_zero h1 (rng s.x 0 1000) (by simp))
    have h3:=rng_zero (firstErr_zero h1 (rng s.y 0 1000) (by simp))
    exact⟨h2.1,h2.2,h3.1,h3.2⟩
   ·exact ih h s hs
  ·rename_i he;exact absurd h he
theorem chkZ_ok{l:List Zon}:∀{pre:List ByteArray},chkZ pre l=0→∀s∈l,okZ s:=by
 induction l with
 |nil=>intro _ _ s hs;cases hs
 |cons a l ih=>
  intro pre h s hs
  simp only[chkZ]at h
  split at h
  ·rename_i he
   rcases List.mem_cons.1 hs with rfl|hs
   ·have h0:=firstErr_zero he (extC s) (by simp)
    have h1:=firstErr_zero h0 (placeC s.x s.y) (by simp)
    have h2:=rng_zero (firstErr_zero h1 (rng s.x 0 1000) (by simp))
    have h3:=rng_zero (firstErr_zero h1 (rng s.y 0 1000) (by simp))
    have h4:=rng_zero (firstErr_zero h0 (rng s.r 0 500) (by simp))
    exact⟨h2.1,h2.2,h3.1,h3.2,h4.1,h4.2⟩
   ·exact ih h s hs
  ·rename_i he;exact absurd h he
theorem chkM_ok{g:Grd}{l:List Mov}:∀{pre:List Mov},chkM g pre l=0→∀s∈l,okM g.sta.length s:=by
 induction l with
 |nil=>intro _ _ s hs;cases hs
 |cons a l ih=>
  intro pre h s hs
  simp only[chkM]at h
  split at h
  ·rename_i he
   rcases List.mem_cons.1 hs with rfl|hs
   ·have h1:=whn_zero (n:=10) (firstErr_zero he (whn (!hasB g s.a) 10) (by simp)) (by decide)
    have h2:=whn_zero (n:=10) (firstErr_zero he (whn (!hasB g s.b) 10) (by simp)) (by decide)
    have h3:=whn_zero (n:=11) (firstErr_zero he (whn (decide (s.b≤s.a)) 11) (by simp)) (by decide)
    have h4:=rng_zero (firstErr_zero he (rng s.s 1 20) (by simp))
    simp[hasB]at h1 h2 h3
    exact⟨h1.1,by omega,h2.2,h4.1,h4.2⟩
   ·exact ih h s hs
  ·rename_i he;exact absurd h he
theorem gridC_ok{g:Grd}(h:gridC g=0):okG g:=by
 have h1:=rng_zero (firstErr_zero h (rng g.blur 0 100) (by simp))
 have h2:=firstErr_zero h (stasC g.sta) (by simp)
 have h3:=firstErr_zero h (movesC g) (by simp)
 have h4:=firstErr_zero h (zonesC g.zon) (by simp)
 unfold stasC at h2
 unfold movesC at h3
 unfold zonesC at h4
 split at h2
 ·exact absurd h2 (by decide)
 split at h3
 ·exact absurd h3 (by decide)
 split at h4
 ·exact absurd h4 (by decide)
 exact⟨h1.1,h1.2,by omega,by omega,by omega,chkS_ok h2,chkM_ok h3,chkZ_ok h4⟩
def touchC(z:Zon)(bl ax ay bx by_:Int):Int:=firstErr [nmC z.name,extC z,rng bl 0 100,placeC ax ay,placeC bx by_]
theorem touchC_ok{z:Zon}{bl ax ay bx by_:Int}(h:touchC z bl ax ay bx by_=0):okZ z∧(0≤bl∧bl≤100)∧(0≤ax∧ax≤1000)∧(0≤ay∧ay≤1000)∧(0≤bx∧bx≤1000)∧(0≤by_∧by_≤1000):=by
 have h0:=firstErr_zero h (extC z) (by simp)
 have h1:=firstErr_zero h0 (placeC z.x z.y) (by simp)
 have h2:=rng_zero (firstErr_zero h1 (rng z.x 0 1000) (by simp))
 have h3:=rng_zero (firstErr_zero h1 (rng z.y 0 1000) (by simp))
 have h4:=rng_zero (firstErr_zero h0 (rng z.r 0 500) (by simp))
 have h5:=firstErr_zero h (placeC ax ay) (by simp)
 have h6:=firstErr_zero h (placeC bx by_) (by simp)
 exact⟨⟨h2.1,h2.2,h3.1,h3.2,h4.1,h4.2⟩,rng_zero (firstErr_zero h (rng bl 0 100) (by simp)),rng_zero (firstErr_zero h5 (rng ax 0 1000) (by simp)),rng_zero (firstErr_zero h5 (rng ay 0 1000) (by simp)),
  rng_zero (firstErr_zero h6 (rng bx 0 1000) (by simp)),rng_zero (firstErr_zero h6 (rng by_ 0 1000) (by simp))⟩
set_option maxHeartbeats 2000000 in
theorem Touches_c(z:Zon)(bl ax ay bx by_:Int)(w:World)(hs:z.name.size≤100000):
 Calls Tryz.prog 61 #[.agg #[.string z.name,.int .i64 z.x,.int .i64 z.y,.int .i64 z.r],.int .i64 bl,.agg #[.int .i64 ax,.int .i64 ay,.int .i64 bx,.int .i64 by_]] w
  fun e w'=>e=.returned (.tuple #[.bool (touchC z bl ax ay bx by_==0&&touchB z.x z.y z.r bl ax ay bx by_),.int .i64 (touchC z bl ax ay bx by_)])∧Below w.heap.size w w':=by
 by_cases he:touchC z bl ax ay bx by_=0
 ·have hz1:(firstErr [nmC z.name,extC z,rng bl 0 100,placeC ax ay,placeC bx by_]!=0)=false:=by rw[bne_eq_false_iff_eq];exact he
  have HE:=zh he;clear he
  go_enter Tryz.func61,Tryz.ntmps61
  go_wp2_with fail
  go_region_held3 (SSd ((w.alloc (.cells #[.string z.name,.int .i64 z.x,.int .i64 z.y,.int .i64 z.r] 119)).alloc (.cells #[.int .i64 ax,.int .i64 ay,.int .i64 bx,.int .i64 by_] 117))) ((refine Sx.goal ?_;exact zsx)) (first|(go_at_call 123;refine(checkName_c _ _ hs).mono ?_;rintro e w1 ⟨rfl,hb1⟩)|(go_at_call 122;refine(within_c _ _ _ _).mono ?_;rintro e w' ⟨rfl,rfl⟩)|(go_at_call 131;refine(checkExtent_c z _).mono ?_;rintro e w2 ⟨rfl,hb2⟩)|(go_at_call 132;refine(checkPlaceC_c _ _ _).mono ?_;rintro e w3 ⟨rfl,hb3⟩)|(go_at_call 103;refine(first_c _ [nmC z.name,extC z,rng bl 0 100,placeC ax ay,placeC bx by_] _ ?_ ?_).mono ?_;(focus simp);(focus simp[CellsAt]);rintro e w' ⟨rfl,rfl⟩))
  all_goals
   obtain⟨hz,k1,k2,k3,k4,k5⟩:=touchC_ok HE.out
   go_wp2_with (go_at_call 133;refine(touches_c _ _ _ _ _ _ _ _ _ _ hz.x0 hz.x1 hz.y0 hz.y1 hz.r0 hz.r1 k1.1 k1.2 k2.1 k2.2 k3.1 k3.2 k4.1 k4.2 k5.1 k5.2).mono ?_;rintro e w9 ⟨rfl,hb9⟩)
   go_ret2
   exact⟨by rw[HE.out];rfl,by exact zbl⟩
 ·have hz1:(firstErr [nmC z.name,extC z,rng bl 0 100,placeC ax ay,placeC bx by_]!=0)=true:=by rw[bne_iff_ne];exact he
  have HE:=zh he;clear he
  go_enter Tryz.func61,Tryz.ntmps61
  go_wp2_with fail
  go_region_held3 (SSd ((w.alloc (.cells #[.string z.name,.int .i64 z.x,.int .i64 z.y,.int .i64 z.r] 119)).alloc (.cells #[.int .i64 ax,.int .i64 ay,.int .i64 bx,.int .i64 by_] 117))) ((refine Sx.goal ?_;exact zsx)) (first|(go_at_call 123;refine(checkName_c _ _ hs).mono ?_;rintro e w1 ⟨rfl,hb1⟩)|(go_at_call 122;refine(within_c _ _ _ _).mono ?_;rintro e w' ⟨rfl,rfl⟩)|(go_at_call 131;refine(checkExtent_c z _).mono ?_;rintro e w2 ⟨rfl,hb2⟩)|(go_at_call 132;refine(checkPlaceC_c _ _ _).mono ?_;rintro e w3 ⟨rfl,hb3⟩)|(go_at_call 103;refine(first_c _ [nmC z.name,extC z,rng bl 0 100,placeC ax ay,placeC bx by_] _ ?_ ?_).mono ?_;(focus simp);(focus simp[CellsAt]);rintro e w' ⟨rfl,rfl⟩))
  all_goals
   go_wp2
   go_ret2
   exact⟨by rw[show(touchC z bl ax ay bx by_==0)=false from beq_eq_false_iff_ne.2 HE.out];rfl,by exact zbl⟩
theorem Tryz.infoInt:(Tryz.prog.info? 3).map (fun i=>(i.zero,i.size,i.bytes))=some (some (.int .i64 0),1,8):=by kernel_rfl
def OwnI(w:World)(base:Nat)(v:Value)(xs:List Int):Prop:=w.ownsRow base 3 1 v xs.length (xs.map (Value.int .i64))
theorem OwnI.nil_(w:World)(base:Nat):OwnI w base (.slice none 0 0) []:=World.ownsRow_nil _ _ _ _
theorem OwnI.alloc{w:World}{base:Nat}{v:Value}{xs:List Int}(h:OwnI w base v xs)(o:Obj):OwnI (w.alloc o) base v xs:=World.ownsRow.alloc h o
theorem OwnI.drew{w:World}{base:Nat}{v:Value}{xs:List Int}(h:OwnI w base v xs):OwnI w.drew base v xs:=h
theorem OwnI.below{w w':World}{base:Nat}{v:Value}{xs:List Int}(h:OwnI w base v xs)(hb:Below w.heap.size w w'):OwnI w' base v xs:=
 World.ownsRow.kept h (row:=none) ⟨hb.os,hb.tape,hb.output,hb.size,fun k hk _=>hb.block k hk⟩ (by cases v.ownBlock<;>simp)
theorem OwnI.mono{w:World}{base base':Nat}{v:Value}{xs:List Int}(h:OwnI w base v xs)(hb:base'≤base):OwnI w base' v xs:=by
 obtain⟨h1,h2⟩:=h
 refine⟨h1,?_⟩
 rcases h2 with h2|⟨g,cap,cur,e,hg,r⟩
 ·exact .inl h2
 ·exact .inr ⟨g,cap,cur,e,by omega,r⟩
theorem OwnI.app{w:World}{base:Nat}{v:Value}{xs:List Int}{k:Int}(h:w.ownsRow base 3 1 v (xs.length+1) (xs.map (Value.int .i64)++ [.int .i64 k])):OwnI w base v (xs++ [k]):=by
 unfold OwnI;simpa using h
theorem OwnI.ne{w:World}{base:Nat}{v:Value}{xs:List Int}(h:OwnI w base v xs){b:Nat}(hb:b<base):some b≠v.ownBlock:=fun e=>by
 have:=(World.ownsRow.lt h b e.symm).1;omega
instance:Inhabited Mov:=⟨⟨0,0,0⟩⟩
def movFree(g:Grd)(m:Mov):Bool:=freeB g m.a.toNat m.b.toNat
def safeMs(g:Grd)(l:List Mov):List Int:=((List.range l.length).filter fun i=>movFree g (l.getD i default)).map Int.ofNat
theorem safeMs_step{g:Grd}{l:List Mov}{k:Nat}(hk:k<l.length):safeMs g (l.take (k+1))=safeMs g (l.take k)++(if movFree g l[k]then [(k:Int)]else []):=by
 have e1:(l.take (k+1)).length=k+1:=by simp;omega
 have e2:(l.take k).length=k:=by simp;omega
 unfold safeMs
 rw[e1,e2,List.range_succ,List.filter_append,List.map_append]
 congr 1
 ·congr 1
  apply List.filter_congr
  intro i hi
  have hi:=List.mem_range.1 hi
  simp[hi,Nat.lt_succ_of_lt hi]
 ·by_cases h:movFree g l[k]
  ·simp[h,List.getElem?_eq_getElem hk]
  ·simp[h,List.getElem?_eq_getElem hk]
theorem safeMs_len(g:Grd)(l:List Mov):(safeMs g l).length≤l.length:=by
 unfold safeMs;simp only[List.length_map];exact Nat.le_trans (List.length_filter_le _ _) (by simp)
theorem isFreeM_c(pS pM pZ:Option Addr)(cs cm cz:Nat)(g:Grd)(m:Mov)(w:World)(hg:okG g)(hm:okM g.sta.length m)(hr:GridR w w.heap.size ⟨pS,pM,pZ,cs,cm,cz⟩ g):
 Calls Tryz.prog 130 #[.agg #[.int .i64 g.blur,.slice pS g.sta.length cs,.slice pM g.mov.length cm,.slice pZ g.zon.length cz],.int .i64 m.a,.int .i64 m.b] w fun e w'=>e=.returned (.bool (movFree g m))∧Below w.heap.size w w':=by
 obtain⟨i,hi⟩:=Int.eq_ofNat_of_zero_le hm.a0
 obtain⟨j,hj⟩:=Int.eq_ofNat_of_zero_le (Int.le_of_lt (Int.lt_of_le_of_lt hm.a0 hm.ab))
 have h1:=hm.ab
 have h2:=hm.bn
 have e:movFree g m=freeB g i j:=by simp[movFree,hi,hj]
 rw[e,hi,hj]
 exact isFree_c ⟨pS,pM,pZ,cs,cm,cz⟩ g i j w hg hr (by omega) (by omega)
set_option maxRecDepth 100000 in
set_option maxHeartbeats 2000000 in
theorem SafeMoves_c(pS pM pZ:Option Addr)(cs cm cz:Nat)(g:Grd)(w:World)(hs:SmallG g)(hr:GridR w w.heap.size ⟨pS,pM,pZ,cs,cm,cz⟩ g)(hkd:KindsAt w):
 Calls Tryz.prog 57 #[.agg #[.int .i64 g.blur,.slice pS g.sta.length cs,.slice pM g.mov.length cm,.slice pZ g.zon.length cz]] w fun e w'=>
  ∃v,e=.returned (.tuple #[v,.int .i64 (gridC g)])∧Below w.heap.size w w'∧OwnI w' w.heap.size v (if gridC g=0 then safeMs g g.mov else []):=by
 obtain⟨i0,hi,hz0,hz1,hz2⟩:=info_parts Tryz.infoInt
 have HR:=zh hr
 have HG:=zh (hr.sx (Nat.le_refl _) ((Sx.refl w).alloc (.cells #[.int .i64 g.blur,.slice pS g.sta.length cs,.slice pM g.mov.length cm,.slice pZ g.zon.length cz] 38)))
 have HK:=zh (hkd.alloc (.cells #[.int .i64 g.blur,.slice pS g.sta.length cs,.slice pM g.mov.length cm,.slice pZ g.zon.length cz] 38))
 clear hr hkd
 by_cases he:gridC g=0
 ·have hz1':(gridC g !=0)=false:=by rw[bne_eq_false_iff_eq];exact he
  have HE:=zh he;clear he
  have hok:=gridC_ok HE.out
  go_enter Tryz.func57,Tryz.ntmps57
  go_wp2_with (go_at_call 66;refine(CheckGrid_c ⟨pS,pM,pZ,cs,cm,cz⟩ g _ hs HG.out HK.out).mono ?_;rintro e w1 ⟨rfl,hb1⟩;(have b0:w1.cell? ⟨w.heap.size,0,none⟩=some (.int .i64 g.blur):=(hb1.cell (p:=⟨w.heap.size,0,none⟩) (by simp)).trans (by simp));(have b1:w1.cell? ⟨w.heap.size,1,none⟩=some (.slice pS g.sta.length cs):=(hb1.cell (p:=⟨w.heap.size,1,none⟩) (by simp)).trans (by simp));(have b2:w1.cell? ⟨w.heap.size,2,none⟩=some (.slice pM g.mov.length cm):=(hb1.cell (p:=⟨w.heap.size,2,none⟩) (by simp)).trans (by simp));(have b3:w1.cell? ⟨w.heap.size,3,none⟩=some (.slice pZ g.zon.length cz):=(hb1.cell (p:=⟨w.heap.size,3,none⟩) (by simp)).trans (by simp)))
  have hb1':Below w.heap.size w w1:=by exact zbl
  go_loopw [5,16] (fun v i wr=>∃k:Nat,k≤g.mov.length∧i=.int .i64 k∧OwnI wr (w.heap.size+1) v (safeMs g (g.mov.take k))∧wr.cell? ⟨w.heap.size,0,none⟩=some (.int .i64 g.blur)∧wr.cell? ⟨w.heap.size,1,none⟩=some (.slice pS g.sta.length cs)∧wr.cell? ⟨w.heap.size,2,none⟩=some (.slice pM g.mov.length cm)∧wr.cell? ⟨w.heap.size,3,none⟩=some (.slice pZ g.zon.length cz)∧Below w.heap.size w wr) (fun _ i _=>g.mov.length-(intOf i).toNat)
  case atStart=>exact⟨0,Nat.zero_le _,rfl,OwnI.nil_ _ _,b0,b1,b2,b3,hb1'⟩
  case round=>
   clear b0 b1 b2 b3
   obtain⟨k,hk,rfl,hown,d0,d1,d2,d3,hb⟩:=hrel
   have hgl:=World.block_lt_of_cell? wr ⟨w.heap.size,0,none⟩ d0
   simp only at hgl
   by_cases hlt:k<g.mov.length
   ·obtain⟨b,off,hA,hbl,c0,c1,c2⟩:=(HR.out.mov.belowB hb (Nat.le_refl _)).get3 (k:=k) (by simpa using hlt) (by rw[List.getElem_map];rfl)
    simp only at hA
    have hbl2:b<wr.heap.size:=by omega
    have hgl2:w.heap.size<wr.heap.size+1:=by omega
    have hst:=safeMs_step (g:=g) hlt
    have hln:=safeMs_len g (g.mov.take k)
    have hnm:=hok.nm
    simp only[List.length_take]at hln
    have hmo:=hok.mov _ (List.getElem_mem hlt)
    have HGW:=zh ((HR.out.belowB hb (Nat.le_refl _)).more (Nat.le_of_lt hgl))
    subst hA
    by_cases hf:movFree g g.mov[k]=true
    ·rw[if_pos hf]at hst
     have HST:=zh hst;clear hst
     go_wp2_with (first|(go_at_call 130;refine(isFreeM_c _ _ _ _ _ _ g g.mov[k] _ hok hmo ((HGW.out.belowB (w0:=wr) (by exact zbl) (Nat.le_refl _)).more (by simp))).mono ?_;rintro e w2 ⟨rfl,hb2⟩)|(at_builtin;refine wpList_append_own _ rfl _ _ 30 rfl (w.heap.size+1) 3 i0 (.int .i64 0) 1 8 Tryz.underlying30 hi hz0 hz1 hz2 rfl (by decide) _ _ _ rfl ((OwnI.below (hown.alloc _) hb2).alloc _) ⟨w2.heap.size,0,none⟩ 1 1 [.int .i64 k] rfl rfl ?c1 ?c2 ?c3 ?c4 ?c5 ?_))
     case c1=>
      intro j u hj
      match j,hj with
      |0,hj=>simp at hj;subst hj;simp[Addr.add]
     case c2=>intro u hu;simp at hu;subst hu;rfl
     case c3=>unfold maxLen;omega
     case c4=>omega
     case c5=>have:=hb2.size;simp at this;simp;omega
     intro v' w4 hown' hgrow _
     go_wp2_with fail
     go_roundw
     case rel=>exact⟨k+1,by omega,by go_num,by rw[HST.out];exact OwnI.app hown',hgrow.cell ((World.cell?_alloc_lt _ _ ⟨w.heap.size,0,none⟩ (by have:=hb2.size;simp at this;simp;omega)).trans ((hb2.cell (p:=⟨w.heap.size,0,none⟩) (by simp;omega)).trans ((World.cell?_alloc_lt _ _ ⟨w.heap.size,0,none⟩ hgl).trans d0))) (hown.ne (Nat.lt_succ_self _)),hgrow.cell ((World.cell?_alloc_lt _ _ ⟨w.heap.size,1,none⟩ (by have:=hb2.size;simp at this;simp;omega)).trans ((hb2.cell (p:=⟨w.heap.size,1,none⟩) (by simp;omega)).trans ((World.cell?_alloc_lt _ _ ⟨w.heap.size,1,none⟩ hgl).trans d1))) (hown.ne (Nat.lt_succ_self _)),hgrow.cell ((World.cell?_alloc_lt _ _ ⟨w.heap.size,2,none⟩ (by have:=hb2.size;simp at this;simp;omega)).trans ((hb2.cell (p:=⟨w.heap.size,2,none⟩) (by simp;omega)).trans ((World.cell?_alloc_lt _ _ ⟨w.heap.size,2,none⟩ hgl).trans d2))) (hown.ne (Nat.lt_succ_self _)),hgrow.cell ((World.cell?_alloc_lt _ _ ⟨w.heap.size,3,none⟩ (by have:=hb2.size;simp at this;simp;omega)).trans ((hb2.cell (p:=⟨w.heap.size,3,none⟩) (by simp;omega)).trans ((World.cell?_alloc_lt _ _ ⟨w.heap.size,3,none⟩ hgl).trans d3))) (hown.ne (Nat.lt_succ_self _)),Below.grown (by exact zbl) hgrow (by have:=hb2.size;simp at this;simp;omega) (fun j e=>Nat.le_of_succ_le (World.ownsRow.lt hown j e).1)⟩
     case measure=>simp[intOf];omega
    ·have hf':movFree g g.mov[k]=false:=by simpa using hf
     rw[if_neg hf,List.append_nil]at hst
     have HST:=zh hst;clear hst
     go_wp2_with (go_at_call 130;refine(isFreeM_c _ _ _ _ _ _ g g.mov[k] _ hok hmo ((HGW.out.belowB (w0:=wr) (by exact zbl) (Nat.le_refl _)).more (by simp))).mono ?_;rintro e w2 ⟨rfl,hb2⟩)
     go_roundw
     case rel=>exact⟨k+1,by omega,by go_num,by rw[HST.out];exact(hown.alloc _).below hb2,(hb2.cell (p:=⟨w.heap.size,0,none⟩) (by simp;omega)).trans ((World.cell?_alloc_lt _ _ ⟨w.heap.size,0,none⟩ hgl).trans d0),(hb2.cell (p:=⟨w.heap.size,1,none⟩) (by simp;omega)).trans ((World.cell?_alloc_lt _ _ ⟨w.heap.size,1,none⟩ hgl).trans d1),(hb2.cell (p:=⟨w.heap.size,2,none⟩) (by simp;omega)).trans ((World.cell?_alloc_lt _ _ ⟨w.heap.size,2,none⟩ hgl).trans d2),(hb2.cell (p:=⟨w.heap.size,3,none⟩) (by simp;omega)).trans ((World.cell?_alloc_lt _ _ ⟨w.heap.size,3,none⟩ hgl).trans d3),by exact zbl⟩
     case measure=>simp[intOf];omega
   ·have hkl:k=g.mov.length:=by omega
    subst hkl
    rw[List.take_length]at hown
    go_wp2_with fail
    go_ret2
    exact⟨_,rfl,hb,hown.mono (Nat.le_succ _)⟩
 ·have hz1':(gridC g !=0)=true:=by rw[bne_iff_ne];exact he
  have HE:=zh he;clear he
  go_enter Tryz.func57,Tryz.ntmps57
  go_wp2_with (go_at_call 66;refine(CheckGrid_c ⟨pS,pM,pZ,cs,cm,cz⟩ g _ hs HG.out HK.out).mono ?_;rintro e w1 ⟨rfl,hb1⟩)
  go_ret2
  exact⟨_,rfl,by exact zbl,OwnI.nil_ _ _⟩
end Go.Proofs.YtehnikhicnnnhaaGreatDoor
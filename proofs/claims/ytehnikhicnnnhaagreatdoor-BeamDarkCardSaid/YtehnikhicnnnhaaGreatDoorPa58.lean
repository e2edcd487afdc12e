/- The reference's small lists: SameInts, SameWords, HasInt, HasWord, Has. -/
import Derived.Test.YtehnikhicnnnhaaGreatDoorPa06
namespace Go.Proofs.YtehnikhicnnnhaaGreatDoor
open Go.RowKit
def StrsR(w:World)(B:Nat)(A:Option Addr)(l:List ByteArray):Prop:=Rw w B 1 A (l.map fun s=> [Value.string s])
theorem StrsR.get{w:World}{B:Nat}{A:Option Addr}{l:List ByteArray}(h:StrsR w B A l){k:Nat}(hk:k<l.length):∃b off,A=some ⟨b,off,none⟩∧b<B∧w.cell? ⟨b,off+k,none⟩=some (.string l[k]):=
 Rw.get1 h (k:=k) (by simpa using hk) (by rw[List.getElem_map])
theorem take_eq_succ{α:Type}{xs ys:List α}{k:Nat}(h1:k<xs.length)(h2:k<ys.length)(h:xs.take k=ys.take k)(he:xs[k]=ys[k]):xs.take (k+1)=ys.take (k+1):=by
 rw[List.take_succ_eq_append_getElem h1,List.take_succ_eq_append_getElem h2,h,he]
theorem ba_toList{x y:ByteArray}(e:x.toList=y.toList):x=y:=by
 rw[ByteArray.toList_eq,ByteArray.toList_eq]at e
 cases x;cases y
 simp only[Array.toList_inj]at e
 rw[e]
set_option maxHeartbeats 600000 in
theorem sameInts_c(A A':Option Addr)(c c':Nat)(xs ys:List Int)(w:World)(hl:xs.length≤100000)(h:IntsR w w.heap.size A xs)(h':IntsR w w.heap.size A' ys):
 Calls Tryz.prog 56 #[.slice A xs.length c,.slice A' ys.length c'] w fun e w'=>e=.returned (.bool (decide (xs=ys)))∧Below w.heap.size w w':=by
 have H:=zh h;clear h
 have H':=zh h';clear h'
 by_cases hne:xs.length=ys.length
 ·have HR:=zh hne
  have hne':((xs.length:Int)!=ys.length)=false:=by rw[bne_eq_false_iff_eq];omega
  clear hne
  go_enter Tryz.func56,Tryz.ntmps56
  go_wp2
  go_loopw [5] (fun i wr=>∃k:Nat,k≤xs.length∧i=.int .i64 k∧Hid (xs.take k=ys.take k)∧Below w.heap.size w wr) (fun i _=>xs.length-(intOf i).toNat)
  case atStart=>exact⟨0,Nat.zero_le _,rfl,zh (by simp),Below.refl _ _⟩
  case round=>
   obtain⟨k,hk,rfl,hf,hb⟩:=hrel
   by_cases hlt:k<xs.length
   ·have hlt':k<ys.length:=by have:=HR.out;omega
    obtain⟨b,off,rfl,_,c0⟩:=(Rw.belowB H.out (w0:=w) hb (Nat.le_refl _)).get1 (k:=k) (by simpa using hlt) (by rw[List.getElem_map])
    obtain⟨b',off',rfl,_,c1⟩:=(Rw.belowB H'.out (w0:=w) hb (Nat.le_refl _)).get1 (k:=k) (by simpa using hlt') (by rw[List.getElem_map])
    by_cases hz:xs[k]=ys[k]
    ·have HZ:=zh hz
     have hz':(xs[k]!=ys[k])=false:=by simp[hz]
     clear hz
     go_wp2
     go_quiet (fail)
     go_wp2
     go_roundw
     case rel=>exact⟨k+1,by omega,by go_num,zh (take_eq_succ hlt hlt' hf.out HZ.out),by exact zbl⟩
     case measure=>simp[intOf];omega
    ·have HZ:=zh hz
     have hz':(xs[k]!=ys[k])=true:=by simp[hz]
     clear hz
     go_wp2
     go_quiet (fail)
     go_wp2
     go_ret
     exact⟨ret_bool (decide_eq_false (fun e=>HZ.out (by subst e;rfl))).symm,by exact zbl⟩
   ·go_wp2
    go_ret
    have h1:=hf.out
    have h2:=HR.out
    rw[List.take_of_length_le (by omega),List.take_of_length_le (by omega)]at h1
    exact⟨ret_bool (decide_eq_true h1).symm,by exact zbl⟩
 ·have hz:((xs.length:Int)!=ys.length)=true:=by rw[bne_iff_ne];omega
  have HR:=zh hne;clear hne
  go_enter Tryz.func56,Tryz.ntmps56
  go_wp2
  go_ret
  exact⟨ret_bool (decide_eq_false (fun e=>HR.out (by rw[e]))).symm,by exact zbl⟩
set_option maxHeartbeats 600000 in
theorem sameWords_c(A A':Option Addr)(c c':Nat)(xs ys:List ByteArray)(w:World)(hl:xs.length≤100000)(h:StrsR w w.heap.size A xs)(h':StrsR w w.heap.size A' ys):
 Calls Tryz.prog 90 #[.slice A xs.length c,.slice A' ys.length c'] w fun e w'=>e=.returned (.bool (decide (xs=ys)))∧Below w.heap.size w w':=by
 have H:=zh h;clear h
 have H':=zh h';clear h'
 by_cases hne:xs.length=ys.length
 ·have HR:=zh hne
  have hne':((xs.length:Int)!=ys.length)=false:=by rw[bne_eq_false_iff_eq];omega
  clear hne
  go_enter Tryz.func90,Tryz.ntmps90
  go_wp2
  go_loopw [5] (fun i wr=>∃k:Nat,k≤xs.length∧i=.int .i64 k∧Hid (xs.take k=ys.take k)∧Below w.heap.size w wr) (fun i _=>xs.length-(intOf i).toNat)
  case atStart=>exact⟨0,Nat.zero_le _,rfl,zh (by simp),Below.refl _ _⟩
  case round=>
   obtain⟨k,hk,rfl,hf,hb⟩:=hrel
   by_cases hlt:k<xs.length
   ·have hlt':k<ys.length:=by have:=HR.out;omega
    obtain⟨b,off,rfl,_,c0⟩:=(Rw.belowB H.out (w0:=w) hb (Nat.le_refl _)).get1 (k:=k) (by simpa using hlt) (by rw[List.getElem_map])
    obtain⟨b',off',rfl,_,c1⟩:=(Rw.belowB H'.out (w0:=w) hb (Nat.le_refl _)).get1 (k:=k) (by simpa using hlt') (by rw[List.getElem_map])
    by_cases hz:xs[k]=ys[k]
    ·have HZ:=zh hz
     obtain⟨x,hx⟩:∃x,x=xs[k]:=⟨_,rfl⟩
     obtain⟨y,hy⟩:∃y,y=ys[k]:=⟨_,rfl⟩
     rw[←hx]at c0 hz
     rw[←hy]at c1 hz
     have hz':(x.toList !=y.toList)=false:=by simp[hz]
     have hz2:(x.toList==y.toList)=true:=by simp[hz]
     clear hz hx hy
     go_wp2
     go_quiet (fail)
     go_wp2
     go_roundw
     case rel=>exact⟨k+1,by omega,by go_num,zh (take_eq_succ hlt hlt' hf.out HZ.out),by exact zbl⟩
     case measure=>simp[intOf];omega
    ·have HZ:=zh hz
     obtain⟨x,hx⟩:∃x,x=xs[k]:=⟨_,rfl⟩
     obtain⟨y,hy⟩:∃y,y=ys[k]:=⟨_,rfl⟩
     rw[←hx]at c0 hz
     rw[←hy]at c1 hz
     have hz0:x.toList≠y.toList:=fun e=>hz (ba_toList e)
     have hz':(x.toList !=y.toList)=true:=by simpa using hz0
     have hz2:(x.toList==y.toList)=false:=by simpa using hz0
     clear hz hx hy hz0
     go_wp2
     go_quiet (fail)
     go_wp2
     go_ret
     exact⟨ret_bool (decide_eq_false (fun e=>HZ.out (by subst e;rfl))).symm,by exact zbl⟩
   ·go_wp2
    go_ret
    have h1:=hf.out
    have h2:=HR.out
    rw[List.take_of_length_le (by omega),List.take_of_length_le (by omega)]at h1
    exact⟨ret_bool (decide_eq_true h1).symm,by exact zbl⟩
 ·have hz:((xs.length:Int)!=ys.length)=true:=by rw[bne_iff_ne];omega
  have HR:=zh hne;clear hne
  go_enter Tryz.func90,Tryz.ntmps90
  go_wp2
  go_ret
  exact⟨ret_bool (decide_eq_false (fun e=>HR.out (by rw[e]))).symm,by exact zbl⟩
theorem any_at{α:Type}{p:α→Bool}{l:List α}{k:Nat}(hk:k<l.length)(hp:p l[k]=true):l.any p=true:=List.any_eq_true.2 ⟨_,List.getElem_mem hk,hp⟩
theorem any_none{α:Type}{p:α→Bool}{l:List α}(h:∀x∈l,p x=false):l.any p=false:=by simpa using h
set_option maxHeartbeats 600000 in
theorem hasWord_r(s:ByteArray)(A:Option Addr)(l:List ByteArray)(c:Nat)(w:World)(B:Nat)(hl:l.length≤100000)(hr:StrsR w B A l):
 Calls Tryz.prog 74 #[.slice A l.length c,.string s] w fun e w'=>e=.returned (.bool (memS l s))∧w=w':=by
 have HR:=zh hr;clear hr
 go_enter Tryz.func74,Tryz.ntmps74
 go_wp2_with fail
 go_loop [5] (fun i=>∃k:Nat,k≤l.length∧i=.int .i64 k∧Hid (∀x∈l.take k,sEq s x=false)) (fun i=>l.length-(intOf i).toNat)
 case atStart=>exact⟨0,Nat.zero_le _,rfl,zh (by simp)⟩
 case round=>
  obtain⟨k,hk,rfl,hf⟩:=hrel
  by_cases hlt:k<l.length
  ·obtain⟨b,off,rfl,_,c0⟩:=HR.out.get hlt
   cases hp:sEq s l[k]
   ·have hq:(l[k].toList==s.toList)=false:=by rw[ByteArray.toList_eq,ByteArray.toList_eq];exact(sEq_comm _ _).trans hp
    have HP:=zh hp;clear hp
    go_wp2
    go_round
    case rel=>exact⟨k+1,by omega,by go_num,zh (take_all hlt hf.out HP.out)⟩
    case measure=>simp[intOf];omega
   ·have hq:(l[k].toList==s.toList)=true:=by rw[ByteArray.toList_eq,ByteArray.toList_eq];exact(sEq_comm _ _).trans hp
    have hq2:l[k].toList=s.toList:=by simpa using hq
    have HP:=zh hp;clear hp
    have HQ:=zh hq2;clear hq2
    go_wp2
    go_ret
    exact⟨ret_bool (any_at hlt HP.out).symm,rfl⟩
  ·go_wp2_with fail
   go_ret
   have:=hf.out
   rw[List.take_of_length_le (by omega)]at this
   exact⟨ret_bool (any_none this).symm,rfl⟩
set_option maxHeartbeats 600000 in
theorem has_r(a:GA)(g:Grd)(i:Int)(w:World):
 Calls Tryz.prog 98 #[(.agg #[.int .i64 g.blur,.slice a.pS g.sta.length a.cs,.slice a.pM g.mov.length a.cm,.slice a.pZ g.zon.length a.cz]),.int .i64 i] w fun e w'=>e=.returned (.bool (hasB g i))∧Below w.heap.size w w':=by
 by_cases h0:0≤i
 ·have h0':decide (0≤i)=true:=decide_eq_true h0
  have hR:=zh (show hasB g i=decide (i<g.sta.length) by unfold hasB;exact decide_eq_decide.2 ⟨fun h=>h.2,fun h=>⟨h0,h⟩⟩)
  go_enter Tryz.func98,Tryz.ntmps98
  go_wp2
  go_ret
  exact⟨ret_bool hR.out.symm,by exact zbl⟩
 ·have h0':decide (0≤i)=false:=decide_eq_false h0
  have hR:=zh (show hasB g i=false by unfold hasB;exact decide_eq_false fun h=>h0 h.1)
  go_enter Tryz.func98,Tryz.ntmps98
  go_wp2
  go_ret
  exact⟨ret_bool hR.out.symm,by exact zbl⟩
end Go.Proofs.YtehnikhicnnnhaaGreatDoor
/- Slices that are read: rows of elements of several cells. | slices.IndexFunc, ContainsFunc at the types of this seat (written by wip/gen/find.py). | The grids, in plain words: what the program and the reference compute. | has, isFree, isSafe. | light.IsName: runes and bytes tell the same names. | Maps with string keys and true for every key: sets of names. | checkName, checkExtent, slices.Contains at strings and ints. | Helpers of a claim's texts: blocks that stay. -/
import Derived.Test.YtehnikhicnnnhaaGreatDoorPa02
import Derived.Shelf.Abstract
namespace Go.Proofs.YtehnikhicnnnhaaGreatDoor
open Go.RowKit
def Rw(w:World)(B sz:Nat)(A:Option Addr)(l:List (List Value)):Prop:=
 l≠ []→∃b off,A=some ⟨b,off,none⟩∧b<B∧∀k (h:k<l.length) (j:Nat) (v:Value),l[k][j]? =some v→w.cell? ⟨b,off+k*sz+j,none⟩=some v
section
variable {w w':World} {B sz:Nat} {A:Option Addr} {l:List (List Value)}
theorem Rw.nil_:Rw w B sz A []:=fun h=>absurd rfl h
theorem Rw.keep(h:Rw w B sz A l)(hk:∀b o,b<B→w'.cell? ⟨b,o,none⟩=w.cell? ⟨b,o,none⟩):Rw w' B sz A l:=fun hn=>by
 obtain⟨b,off,e,hb,hc⟩:=h hn
 exact⟨b,off,e,hb,fun k hk' j v hv=>(hk _ _ hb).trans (hc k hk' j v hv)⟩
theorem Rw.more{B':Nat}(h:Rw w B sz A l)(hB:B≤B'):Rw w B' sz A l:=fun hn=>by
 obtain⟨b,off,e,hb,hc⟩:=h hn
 exact⟨b,off,e,by omega,hc⟩
theorem Rw.below(h:Rw w B sz A l)(hb:Below w.heap.size w w')(hB:B≤w.heap.size):Rw w' B sz A l:=
 h.keep fun b o hlt=>hb.cell (p:=⟨b,o,none⟩) (by show b<_;omega)
theorem Rw.belowB{w0:World}(h:Rw w B sz A l)(hb:Below w0.heap.size w w')(hB:B≤w0.heap.size):Rw w' B sz A l:=
 h.keep fun b o hlt=>hb.cell (p:=⟨b,o,none⟩) (by show b<_;omega)
theorem Rw.get{k:Nat}(h:Rw w B sz A l)(hk:k<l.length):∃b off,A=some ⟨b,off,none⟩∧b<B∧∀(j:Nat) (v:Value),l[k][j]? =some v→w.cell? ⟨b,off+k*sz+j,none⟩=some v:=by
 obtain⟨b,off,e,hb,hc⟩:=h (by intro e;subst e;simp at hk)
 exact⟨b,off,e,hb,hc k hk⟩
theorem Rw.get1{k:Nat}(h:Rw w B 1 A l)(hk:k<l.length){v0:Value}(hv:l[k]= [v0]):
 ∃b off,A=some ⟨b,off,none⟩∧b<B∧w.cell? ⟨b,off+k,none⟩=some v0:=by
 obtain⟨b,off,e,hb,hc⟩:=h.get hk
 exact⟨b,off,e,hb,by have:=hc 0 v0 (by rw[hv];rfl);simpa using this⟩
theorem Rw.get3{k:Nat}(h:Rw w B 3 A l)(hk:k<l.length){v0 v1 v2:Value}(hv:l[k]= [v0,v1,v2]):
 ∃b off,A=some ⟨b,off,none⟩∧b<B∧w.cell? ⟨b,off+k*3,none⟩=some v0∧w.cell? ⟨b,off+k*3+1,none⟩=some v1∧w.cell? ⟨b,off+k*3+2,none⟩=some v2:=by
 obtain⟨b,off,e,hb,hc⟩:=h.get hk
 exact⟨b,off,e,hb,hc 0 v0 (by rw[hv];rfl),hc 1 v1 (by rw[hv];rfl),hc 2 v2 (by rw[hv];rfl)⟩
theorem Rw.get4{k:Nat}(h:Rw w B 4 A l)(hk:k<l.length){v0 v1 v2 v3:Value}(hv:l[k]= [v0,v1,v2,v3]):
 ∃b off,A=some ⟨b,off,none⟩∧b<B∧w.cell? ⟨b,off+k*4,none⟩=some v0∧w.cell? ⟨b,off+k*4+1,none⟩=some v1∧w.cell? ⟨b,off+k*4+2,none⟩=some v2∧w.cell? ⟨b,off+k*4+3,none⟩=some v3:=by
 obtain⟨b,off,e,hb,hc⟩:=h.get hk
 exact⟨b,off,e,hb,hc 0 v0 (by rw[hv];rfl),hc 1 v1 (by rw[hv];rfl),hc 2 v2 (by rw[hv];rfl),hc 3 v3 (by rw[hv];rfl)⟩
theorem Rw.get6{k:Nat}(h:Rw w B 6 A l)(hk:k<l.length){v0 v1 v2 v3 v4 v5:Value}(hv:l[k]= [v0,v1,v2,v3,v4,v5]):
 ∃b off,A=some ⟨b,off,none⟩∧b<B∧w.cell? ⟨b,off+k*6,none⟩=some v0∧w.cell? ⟨b,off+k*6+1,none⟩=some v1∧w.cell? ⟨b,off+k*6+2,none⟩=some v2∧
  w.cell? ⟨b,off+k*6+3,none⟩=some v3∧w.cell? ⟨b,off+k*6+4,none⟩=some v4∧w.cell? ⟨b,off+k*6+5,none⟩=some v5:=by
 obtain⟨b,off,e,hb,hc⟩:=h.get hk
 exact⟨b,off,e,hb,hc 0 v0 (by rw[hv];rfl),hc 1 v1 (by rw[hv];rfl),hc 2 v2 (by rw[hv];rfl),hc 3 v3 (by rw[hv];rfl),hc 4 v4 (by rw[hv];rfl),hc 5 v5 (by rw[hv];rfl)⟩
end
def idxF{α:Type}(p:α→Bool):List α→Int
 | []=> -1
 |x::l=>if p x then 0 else(if idxF p l<0 then -1 else idxF p l+1)
theorem idxF_none{α:Type}(p:α→Bool)(l:List α)(h:∀x∈l,p x=false):idxF p l= -1:=by
 induction l with
 |nil=>rfl
 |cons x l ih=>simp[idxF,h x (by simp),ih (fun y hy=>h y (by simp[hy]))]
theorem idxF_lt{α:Type}(p:α→Bool)(l:List α):idxF p l<l.length∧ -1≤idxF p l:=by
 induction l with
 |nil=>simp[idxF]
 |cons x l ih=>
  simp only[idxF,List.length_cons];split
  ·omega
  ·split<;>omega
theorem idxF_at{α:Type}(p:α→Bool)(l:List α)(k:Nat)(hk:k<l.length)(h:∀x∈l.take k,p x=false)(hp:p l[k]=true):idxF p l=k:=by
 induction l generalizing k with
 |nil=>simp at hk
 |cons x l ih=>
  cases k with
  |zero=>simp at hp;simp[idxF,hp]
  |succ k=>
   have hx:p x=false:=h x (by simp)
   have:=ih k (by simpa using hk) (fun y hy=>h y (by simp[hy])) (by simpa using hp)
   simp only[idxF,hx,this]
   rw[if_neg (by decide),if_neg (by omega)];omega
theorem idxF_any{α:Type}(p:α→Bool)(l:List α):decide (0≤idxF p l)=l.any p:=by
 induction l with
 |nil=>simp[idxF]
 |cons x l ih=>
  simp only[idxF,List.any_cons]
  by_cases hx:p x
  ·simp[hx]
  ·simp only[hx,Bool.false_or]
   rw[←ih]
   have:=idxF_lt p l
   by_cases h0:idxF p l<0
   ·simp[h0]
   ·simp[h0];omega
theorem take_all{α:Type}{p:α→Bool}{l:List α}{k:Nat}(hk:k<l.length)(h:∀x∈l.take k,p x=false)(hp:p l[k]=false):∀x∈l.take (k+1),p x=false:=by
 intro x hx
 rw[List.take_succ_eq_append_getElem hk]at hx
 simp only[List.mem_append,List.mem_singleton]at hx
 rcases hx with hx|rfl
 ·exact h x hx
 ·exact hp
set_option maxHeartbeats 600000 in
theorem idxZone_c{α:Type}(enc:α→List Value)(p:α→Bool)(gf:Nat)(cap:Array Value)(A:Option Addr)(l:List α)(c:Nat)(w:World)(hl:l.length≤1000)
 (hen:∀args w,(callFunc gf args).run Tryz.prog w=.ok (.enter gf args) w) (hr:Rw w w.heap.size 4 A (l.map enc)) (henc:∀x∈l,∃v0 v1 v2 v3,enc x= [v0,v1,v2,v3])
 (hcall:∀x∈l,∀v0 v1 v2 v3,enc x= [v0,v1,v2,v3]→∀W,Below w.heap.size w W→Calls Tryz.prog gf (#[.agg #[v0,v1,v2,v3]]++cap) W fun e W'=>e=.returned (.bool (p x))∧Below W.heap.size W W'):
 Calls Tryz.prog 204 #[.slice A l.length c,.func (.func gf) #[] cap] w fun e w'=>e=.returned (.int .i64 (idxF p l))∧Below w.heap.size w w':=by
 have HR:=zh hr;clear hr
 have HC:=zh hcall;clear hcall
 have HE:=zh henc;clear henc
 go_enter Tryz.func204,Tryz.ntmps204
 go_wp2_with fail
 go_loopw [8] (fun i wr=>∃k:Nat,k≤l.length∧i=.int .i64 k∧Hid (∀x∈l.take k,p x=false)∧Below w.heap.size w wr) (fun i _=>l.length-(intOf i).toNat)
 case atStart=>exact⟨0,Nat.zero_le _,rfl,zh (by simp),Below.refl _ _⟩
 case round=>
  obtain⟨k,hk,rfl,hf,hb⟩:=hrel
  by_cases hlt:k<l.length
  ·obtain⟨v0,v1,v2,v3,hv⟩:=HE.out l[k] (List.getElem_mem hlt)
   have hq:=HC.out l[k] (List.getElem_mem hlt) v0 v1 v2 v3 hv wr hb
   obtain⟨b,off,rfl,_,c0,c1,c2,c3⟩:=(HR.out.belowB hb (Nat.le_refl _)).get4 (k:=k) (by simpa using hlt) (by rw[List.getElem_map];exact hv)
   have HQ:=zh hq;clear hq
   have HV:=zh hv;clear hv
   cases hp:p l[k]
   ·rw[hp]at HQ
    have HP:=zh hp;clear hp
    go_wp2_with (refine HQ.out.mono ?_;rintro e w' ⟨rfl,hb1⟩)
    go_roundw
    case rel=>exact⟨k+1,by omega,by go_num,zh (take_all hlt hf.out HP.out),by exact zbl⟩
    case measure=>simp[intOf];omega
   ·rw[hp]at HQ
    have HP:=zh hp;clear hp
    go_wp2_with (refine HQ.out.mono ?_;rintro e w' ⟨rfl,hb1⟩)
    go_ret
    exact⟨ret_int (idxF_at p l k hlt hf.out HP.out).symm,by exact zbl⟩
  ·go_wp2_with fail
   go_ret
   have:=hf.out
   rw[List.take_of_length_le (by omega)]at this
   exact⟨ret_int (idxF_none p l this).symm,hb⟩
set_option maxHeartbeats 400000 in
theorem hasZone_c{α:Type}(enc:α→List Value)(p:α→Bool)(gf:Nat)(cap:Array Value)(A:Option Addr)(l:List α)(c:Nat)(w:World)(hl:l.length≤1000)
 (hen:∀args w,(callFunc gf args).run Tryz.prog w=.ok (.enter gf args) w) (hr:Rw w w.heap.size 4 A (l.map enc)) (henc:∀x∈l,∃v0 v1 v2 v3,enc x= [v0,v1,v2,v3])
 (hcall:∀x∈l,∀v0 v1 v2 v3,enc x= [v0,v1,v2,v3]→∀W,Below w.heap.size w W→Calls Tryz.prog gf (#[.agg #[v0,v1,v2,v3]]++cap) W fun e W'=>e=.returned (.bool (p x))∧Below W.heap.size W W'):
 Calls Tryz.prog 174 #[.slice A l.length c,.func (.func gf) #[] cap] w fun e w'=>e=.returned (.bool (l.any p))∧Below w.heap.size w w':=by
 have HI:=zh (idxZone_c enc p gf cap A l c w hl hen hr henc hcall)
 clear hen hr henc hcall
 go_enter Tryz.func174,Tryz.ntmps174
 go_wp2_with (refine HI.out.mono ?_;rintro e w' ⟨rfl,hb1⟩)
 go_ret
 exact⟨ret_bool (idxF_any p l),hb1⟩
set_option maxHeartbeats 600000 in
theorem idxMove_c{α:Type}(enc:α→List Value)(p:α→Bool)(gf:Nat)(cap:Array Value)(A:Option Addr)(l:List α)(c:Nat)(w:World)(hl:l.length≤1000)
 (hen:∀args w,(callFunc gf args).run Tryz.prog w=.ok (.enter gf args) w) (hr:Rw w w.heap.size 3 A (l.map enc)) (henc:∀x∈l,∃v0 v1 v2,enc x= [v0,v1,v2])
 (hcall:∀x∈l,∀v0 v1 v2,enc x= [v0,v1,v2]→∀W,Below w.heap.size w W→Calls Tryz.prog gf (#[.agg #[v0,v1,v2]]++cap) W fun e W'=>e=.returned (.bool (p x))∧Below W.heap.size W W'):
 Calls Tryz.prog 206 #[.slice A l.length c,.func (.func gf) #[] cap] w fun e w'=>e=.returned (.int .i64 (idxF p l))∧Below w.heap.size w w':=by
 have HR:=zh hr;clear hr
 have HC:=zh hcall;clear hcall
 have HE:=zh henc;clear henc
 go_enter Tryz.func206,Tryz.ntmps206
 go_wp2_with fail
 go_loopw [8] (fun i wr=>∃k:Nat,k≤l.length∧i=.int .i64 k∧Hid (∀x∈l.take k,p x=false)∧Below w.heap.size w wr) (fun i _=>l.length-(intOf i).toNat)
 case atStart=>exact⟨0,Nat.zero_le _,rfl,zh (by simp),Below.refl _ _⟩
 case round=>
  obtain⟨k,hk,rfl,hf,hb⟩:=hrel
  by_cases hlt:k<l.length
  ·obtain⟨v0,v1,v2,hv⟩:=HE.out l[k] (List.getElem_mem hlt)
   have hq:=HC.out l[k] (List.getElem_mem hlt) v0 v1 v2 hv wr hb
   obtain⟨b,off,rfl,_,c0,c1,c2⟩:=(HR.out.belowB hb (Nat.le_refl _)).get3 (k:=k) (by simpa using hlt) (by rw[List.getElem_map];exact hv)
   have HQ:=zh hq;clear hq
   have HV:=zh hv;clear hv
   cases hp:p l[k]
   ·rw[hp]at HQ
    have HP:=zh hp;clear hp
    go_wp2_with (refine HQ.out.mono ?_;rintro e w' ⟨rfl,hb1⟩)
    go_roundw
    case rel=>exact⟨k+1,by omega,by go_num,zh (take_all hlt hf.out HP.out),by exact zbl⟩
    case measure=>simp[intOf];omega
   ·rw[hp]at HQ
    have HP:=zh hp;clear hp
    go_wp2_with (refine HQ.out.mono ?_;rintro e w' ⟨rfl,hb1⟩)
    go_ret
    exact⟨ret_int (idxF_at p l k hlt hf.out HP.out).symm,by exact zbl⟩
  ·go_wp2_with fail
   go_ret
   have:=hf.out
   rw[List.take_of_length_le (by omega)]at this
   exact⟨ret_int (idxF_none p l this).symm,hb⟩
set_option maxHeartbeats 400000 in
theorem hasMove_c{α:Type}(enc:α→List Value)(p:α→Bool)(gf:Nat)(cap:Array Value)(A:Option Addr)(l:List α)(c:Nat)(w:World)(hl:l.length≤1000)
 (hen:∀args w,(callFunc gf args).run Tryz.prog w=.ok (.enter gf args) w) (hr:Rw w w.heap.size 3 A (l.map enc)) (henc:∀x∈l,∃v0 v1 v2,enc x= [v0,v1,v2])
 (hcall:∀x∈l,∀v0 v1 v2,enc x= [v0,v1,v2]→∀W,Below w.heap.size w W→Calls Tryz.prog gf (#[.agg #[v0,v1,v2]]++cap) W fun e W'=>e=.returned (.bool (p x))∧Below W.heap.size W W'):
 Calls Tryz.prog 180 #[.slice A l.length c,.func (.func gf) #[] cap] w fun e w'=>e=.returned (.bool (l.any p))∧Below w.heap.size w w':=by
 have HI:=zh (idxMove_c enc p gf cap A l c w hl hen hr henc hcall)
 clear hen hr henc hcall
 go_enter Tryz.func180,Tryz.ntmps180
 go_wp2_with (refine HI.out.mono ?_;rintro e w' ⟨rfl,hb1⟩)
 go_ret
 exact⟨ret_bool (idxF_any p l),hb1⟩
set_option maxHeartbeats 600000 in
theorem idxMirror_c{α:Type}(enc:α→List Value)(p:α→Bool)(gf:Nat)(cap:Array Value)(A:Option Addr)(l:List α)(c:Nat)(w:World)(hl:l.length≤1000)
 (hen:∀args w,(callFunc gf args).run Tryz.prog w=.ok (.enter gf args) w) (hr:Rw w w.heap.size 6 A (l.map enc)) (henc:∀x∈l,∃v0 v1 v2 v3 v4 v5,enc x= [v0,v1,v2,v3,v4,v5])
 (hcall:∀x∈l,∀v0 v1 v2 v3 v4 v5,enc x= [v0,v1,v2,v3,v4,v5]→∀W,Below w.heap.size w W→Calls Tryz.prog gf (#[.agg #[v0,v1,v2,v3,v4,v5]]++cap) W fun e W'=>e=.returned (.bool (p x))∧Below W.heap.size W W'):
 Calls Tryz.prog 183 #[.slice A l.length c,.func (.func gf) #[] cap] w fun e w'=>e=.returned (.int .i64 (idxF p l))∧Below w.heap.size w w':=by
 have HR:=zh hr;clear hr
 have HC:=zh hcall;clear hcall
 have HE:=zh henc;clear henc
 go_enter Tryz.func183,Tryz.ntmps183
 go_wp2_with fail
 go_loopw [8] (fun i wr=>∃k:Nat,k≤l.length∧i=.int .i64 k∧Hid (∀x∈l.take k,p x=false)∧Below w.heap.size w wr) (fun i _=>l.length-(intOf i).toNat)
 case atStart=>exact⟨0,Nat.zero_le _,rfl,zh (by simp),Below.refl _ _⟩
 case round=>
  obtain⟨k,hk,rfl,hf,hb⟩:=hrel
  by_cases hlt:k<l.length
  ·obtain⟨v0,v1,v2,v3,v4,v5,hv⟩:=HE.out l[k] (List.getElem_mem hlt)
   have hq:=HC.out l[k] (List.getElem_mem hlt) v0 v1 v2 v3 v4 v5 hv wr hb
   obtain⟨b,off,rfl,_,c0,c1,c2,c3,c4,c5⟩:=(HR.out.belowB hb (Nat.le_refl _)).get6 (k:=k) (by simpa using hlt) (by rw[List.getElem_map];exact hv)
   have HQ:=zh hq;clear hq
   have HV:=zh hv;clear hv
   cases hp:p l[k]
   ·rw[hp]at HQ
    have HP:=zh hp;clear hp
    go_wp2_with (refine HQ.out.mono ?_;rintro e w' ⟨rfl,hb1⟩)
    go_roundw
    case rel=>exact⟨k+1,by omega,by go_num,zh (take_all hlt hf.out HP.out),by exact zbl⟩
    case measure=>simp[intOf];omega
   ·rw[hp]at HQ
    have HP:=zh hp;clear hp
    go_wp2_with (refine HQ.out.mono ?_;rintro e w' ⟨rfl,hb1⟩)
    go_ret
    exact⟨ret_int (idxF_at p l k hlt hf.out HP.out).symm,by exact zbl⟩
  ·go_wp2_with fail
   go_ret
   have:=hf.out
   rw[List.take_of_length_le (by omega)]at this
   exact⟨ret_int (idxF_none p l this).symm,hb⟩
set_option maxHeartbeats 400000 in
theorem hasMirror_c{α:Type}(enc:α→List Value)(p:α→Bool)(gf:Nat)(cap:Array Value)(A:Option Addr)(l:List α)(c:Nat)(w:World)(hl:l.length≤1000)
 (hen:∀args w,(callFunc gf args).run Tryz.prog w=.ok (.enter gf args) w) (hr:Rw w w.heap.size 6 A (l.map enc)) (henc:∀x∈l,∃v0 v1 v2 v3 v4 v5,enc x= [v0,v1,v2,v3,v4,v5])
 (hcall:∀x∈l,∀v0 v1 v2 v3 v4 v5,enc x= [v0,v1,v2,v3,v4,v5]→∀W,Below w.heap.size w W→Calls Tryz.prog gf (#[.agg #[v0,v1,v2,v3,v4,v5]]++cap) W fun e W'=>e=.returned (.bool (p x))∧Below W.heap.size W W'):
 Calls Tryz.prog 172 #[.slice A l.length c,.func (.func gf) #[] cap] w fun e w'=>e=.returned (.bool (l.any p))∧Below w.heap.size w w':=by
 have HI:=zh (idxMirror_c enc p gf cap A l c w hl hen hr henc hcall)
 clear hen hr henc hcall
 go_enter Tryz.func172,Tryz.ntmps172
 go_wp2_with (refine HI.out.mono ?_;rintro e w' ⟨rfl,hb1⟩)
 go_ret
 exact⟨ret_bool (idxF_any p l),hb1⟩
set_option maxHeartbeats 600000 in
theorem idxSta_c{α:Type}(enc:α→List Value)(p:α→Bool)(gf:Nat)(cap:Array Value)(A:Option Addr)(l:List α)(c:Nat)(w:World)(hl:l.length≤1000)
 (hen:∀args w,(callFunc gf args).run Tryz.prog w=.ok (.enter gf args) w) (hr:Rw w w.heap.size 4 A (l.map enc)) (henc:∀x∈l,∃v0 v1 v2 v3,enc x= [v0,v1,v2,v3])
 (hcall:∀x∈l,∀v0 v1 v2 v3,enc x= [v0,v1,v2,v3]→∀W,Below w.heap.size w W→Calls Tryz.prog gf (#[.agg #[v0,v1,v2,v3]]++cap) W fun e W'=>e=.returned (.bool (p x))∧Below W.heap.size W W'):
 Calls Tryz.prog 202 #[.slice A l.length c,.func (.func gf) #[] cap] w fun e w'=>e=.returned (.int .i64 (idxF p l))∧Below w.heap.size w w':=by
 have HR:=zh hr;clear hr
 have HC:=zh hcall;clear hcall
 have HE:=zh henc;clear henc
 go_enter Tryz.func202,Tryz.ntmps202
 go_wp2_with fail
 go_loopw [8] (fun i wr=>∃k:Nat,k≤l.length∧i=.int .i64 k∧Hid (∀x∈l.take k,p x=false)∧Below w.heap.size w wr) (fun i _=>l.length-(intOf i).toNat)
 case atStart=>exact⟨0,Nat.zero_le _,rfl,zh (by simp),Below.refl _ _⟩
 case round=>
  obtain⟨k,hk,rfl,hf,hb⟩:=hrel
  by_cases hlt:k<l.length
  ·obtain⟨v0,v1,v2,v3,hv⟩:=HE.out l[k] (List.getElem_mem hlt)
   have hq:=HC.out l[k] (List.getElem_mem hlt) v0 v1 v2 v3 hv wr hb
   obtain⟨b,off,rfl,_,c0,c1,c2,c3⟩:=(HR.out.belowB hb (Nat.le_refl _)).get4 (k:=k) (by simpa using hlt) (by rw[List.getElem_map];exact hv)
   have HQ:=zh hq;clear hq
   have HV:=zh hv;clear hv
   cases hp:p l[k]
   ·rw[hp]at HQ
    have HP:=zh hp;clear hp
    go_wp2_with (refine HQ.out.mono ?_;rintro e w' ⟨rfl,hb1⟩)
    go_roundw
    case rel=>exact⟨k+1,by omega,by go_num,zh (take_all hlt hf.out HP.out),by exact zbl⟩
    case measure=>simp[intOf];omega
   ·rw[hp]at HQ
    have HP:=zh hp;clear hp
    go_wp2_with (refine HQ.out.mono ?_;rintro e w' ⟨rfl,hb1⟩)
    go_ret
    exact⟨ret_int (idxF_at p l k hlt hf.out HP.out).symm,by exact zbl⟩
  ·go_wp2_with fail
   go_ret
   have:=hf.out
   rw[List.take_of_length_le (by omega)]at this
   exact⟨ret_int (idxF_none p l this).symm,hb⟩
set_option maxHeartbeats 600000 in
theorem idxInt_c{α:Type}(enc:α→List Value)(p:α→Bool)(gf:Nat)(cap:Array Value)(A:Option Addr)(l:List α)(c:Nat)(w:World)(hl:l.length≤1000)
 (hen:∀args w,(callFunc gf args).run Tryz.prog w=.ok (.enter gf args) w) (hr:Rw w w.heap.size 1 A (l.map enc)) (henc:∀x∈l,∃v0,enc x= [v0])
 (hcall:∀x∈l,∀v0,enc x= [v0]→∀W,Below w.heap.size w W→Calls Tryz.prog gf (#[v0]++cap) W fun e W'=>e=.returned (.bool (p x))∧Below W.heap.size W W'):
 Calls Tryz.prog 161 #[.slice A l.length c,.func (.func gf) #[] cap] w fun e w'=>e=.returned (.int .i64 (idxF p l))∧Below w.heap.size w w':=by
 have HR:=zh hr;clear hr
 have HC:=zh hcall;clear hcall
 have HE:=zh henc;clear henc
 go_enter Tryz.func161,Tryz.ntmps161
 go_wp2_with fail
 go_loopw [8] (fun i wr=>∃k:Nat,k≤l.length∧i=.int .i64 k∧Hid (∀x∈l.take k,p x=false)∧Below w.heap.size w wr) (fun i _=>l.length-(intOf i).toNat)
 case atStart=>exact⟨0,Nat.zero_le _,rfl,zh (by simp),Below.refl _ _⟩
 case round=>
  obtain⟨k,hk,rfl,hf,hb⟩:=hrel
  by_cases hlt:k<l.length
  ·obtain⟨v0,hv⟩:=HE.out l[k] (List.getElem_mem hlt)
   have hq:=HC.out l[k] (List.getElem_mem hlt) v0 hv wr hb
   obtain⟨b,off,rfl,_,c0⟩:=(HR.out.belowB hb (Nat.le_refl _)).get1 (k:=k) (by simpa using hlt) (by rw[List.getElem_map];exact hv)
   have HQ:=zh hq;clear hq
   have HV:=zh hv;clear hv
   cases hp:p l[k]
   ·rw[hp]at HQ
    have HP:=zh hp;clear hp
    go_wp2_with (refine HQ.out.mono ?_;rintro e w' ⟨rfl,hb1⟩)
    go_roundw
    case rel=>exact⟨k+1,by omega,by go_num,zh (take_all hlt hf.out HP.out),by exact zbl⟩
    case measure=>simp[intOf];omega
   ·rw[hp]at HQ
    have HP:=zh hp;clear hp
    go_wp2_with (refine HQ.out.mono ?_;rintro e w' ⟨rfl,hb1⟩)
    go_ret
    exact⟨ret_int (idxF_at p l k hlt hf.out HP.out).symm,by exact zbl⟩
  ·go_wp2_with fail
   go_ret
   have:=hf.out
   rw[List.take_of_length_le (by omega)]at this
   exact⟨ret_int (idxF_none p l this).symm,hb⟩
set_option maxHeartbeats 400000 in
theorem hasInt_c{α:Type}(enc:α→List Value)(p:α→Bool)(gf:Nat)(cap:Array Value)(A:Option Addr)(l:List α)(c:Nat)(w:World)(hl:l.length≤1000)
 (hen:∀args w,(callFunc gf args).run Tryz.prog w=.ok (.enter gf args) w) (hr:Rw w w.heap.size 1 A (l.map enc)) (henc:∀x∈l,∃v0,enc x= [v0])
 (hcall:∀x∈l,∀v0,enc x= [v0]→∀W,Below w.heap.size w W→Calls Tryz.prog gf (#[v0]++cap) W fun e W'=>e=.returned (.bool (p x))∧Below W.heap.size W W'):
 Calls Tryz.prog 105 #[.slice A l.length c,.func (.func gf) #[] cap] w fun e w'=>e=.returned (.bool (l.any p))∧Below w.heap.size w w':=by
 have HI:=zh (idxInt_c enc p gf cap A l c w hl hen hr henc hcall)
 clear hen hr henc hcall
 go_enter Tryz.func105,Tryz.ntmps105
 go_wp2_with (refine HI.out.mono ?_;rintro e w' ⟨rfl,hb1⟩)
 go_ret
 exact⟨ret_bool (idxF_any p l),hb1⟩
structure Sta where
 name:ByteArray
 kind:ByteArray
 x:Int
 y:Int
structure Mov where
 a:Int
 b:Int
 s:Int
structure Zon where
 name:ByteArray
 x:Int
 y:Int
 r:Int
structure Grd where
 blur:Int
 sta:List Sta
 mov:List Mov
 zon:List Zon
def encS(s:Sta):List Value:= [.string s.name,.string s.kind,.int .i64 s.x,.int .i64 s.y]
def encM(m:Mov):List Value:= [.int .i64 m.a,.int .i64 m.b,.int .i64 m.s]
def encZ(z:Zon):List Value:= [.string z.name,.int .i64 z.x,.int .i64 z.y,.int .i64 z.r]
instance:Inhabited Sta:=⟨⟨.empty,.empty,0,0⟩⟩
instance:Inhabited Mov:=⟨⟨0,0,0⟩⟩
structure GA where
 pS:Option Addr
 pM:Option Addr
 pZ:Option Addr
 cs:Nat
 cm:Nat
 cz:Nat
structure GridR(w:World)(B:Nat)(a:GA)(g:Grd):Prop where
 sta:Rw w B 4 a.pS (g.sta.map encS)
 mov:Rw w B 3 a.pM (g.mov.map encM)
 zon:Rw w B 4 a.pZ (g.zon.map encZ)
 capS:g.sta.length≤a.cs
 capM:g.mov.length≤a.cm
 capZ:g.zon.length≤a.cz
theorem GridR.belowB{w w' w0:World}{B:Nat}{a:GA}{g:Grd}(h:GridR w B a g)(hb:Below w0.heap.size w w')(hB:B≤w0.heap.size):GridR w' B a g:=
 ⟨h.sta.belowB hb hB,h.mov.belowB hb hB,h.zon.belowB hb hB,h.capS,h.capM,h.capZ⟩
theorem GridR.more{w:World}{B B':Nat}{a:GA}{g:Grd}(h:GridR w B a g)(hB:B≤B'):GridR w B' a g:=⟨h.sta.more hB,h.mov.more hB,h.zon.more hB,h.capS,h.capM,h.capZ⟩
theorem GridR.keep{w w':World}{B:Nat}{a:GA}{g:Grd}(h:GridR w B a g)(hk:∀b o,b<B→w'.cell? ⟨b,o,none⟩=w.cell? ⟨b,o,none⟩):GridR w' B a g:=⟨h.sta.keep hk,h.mov.keep hk,h.zon.keep hk,h.capS,h.capM,h.capZ⟩
structure okZ(z:Zon):Prop where
 x0:0≤z.x
 x1:z.x≤1000
 y0:0≤z.y
 y1:z.y≤1000
 r0:0≤z.r
 r1:z.r≤500
structure okS(s:Sta):Prop where
 x0:0≤s.x
 x1:s.x≤1000
 y0:0≤s.y
 y1:s.y≤1000
structure okM(n:Nat)(m:Mov):Prop where
 a0:0≤m.a
 ab:m.a<m.b
 bn:m.b<n
 s0:1≤m.s
 s1:m.s≤20
structure okG(g:Grd):Prop where
 b0:0≤g.blur
 b1:g.blur≤100
 ns:g.sta.length≤16
 nm:g.mov.length≤40
 nz:g.zon.length≤8
 sta:∀s∈g.sta,okS s
 mov:∀m∈g.mov,okM g.sta.length m
 zon:∀z∈g.zon,okZ z
def touchZ(bl:Int)(s t:Sta)(z:Zon):Bool:=touchB z.x z.y z.r bl s.x s.y t.x t.y
def freeB(g:Grd)(i j:Nat):Bool:= !(g.zon.any (touchZ g.blur (g.sta.getD i default) (g.sta.getD j default)))
def hasB(g:Grd)(i:Int):Bool:=decide (0≤i∧i<g.sta.length)
set_option maxHeartbeats 400000 in
theorem has_c(a:GA)(g:Grd)(i:Int)(w:World):
 Calls Tryz.prog 107 #[(.agg #[.int .i64 g.blur,.slice a.pS g.sta.length a.cs,.slice a.pM g.mov.length a.cm,.slice a.pZ g.zon.length a.cz]),.int .i64 i] w fun e w'=>e=.returned (.bool (hasB g i))∧Below w.heap.size w w':=by
 by_cases h:0≤i
 ·have h2:decide (0≤i)=true:=by simpa using h
  go_enter Tryz.func107,Tryz.ntmps107
  go_wp2
  go_ret
  exact⟨ret_bool (by simp[hasB,h]),by exact zbl⟩
 ·have h2:decide (0≤i)=false:=by simpa using h
  go_enter Tryz.func107,Tryz.ntmps107
  go_wp2
  go_ret
  exact⟨ret_bool (by simp[hasB,h2]),by exact zbl⟩
set_option maxHeartbeats 400000 in
theorem isFree1_c(z:Zon)(hz:okZ z)(gb lb:Nat)(bl ax ay bx by_:Int)(w:World)(h4:0≤bl)(h4':bl≤100)
 (h5:0≤ax) (h5':ax≤1000) (h6:0≤ay) (h6':ay≤1000) (h7:0≤bx) (h7':bx≤1000) (h8:0≤by_) (h8':by_≤1000)
 (c0:w.cell? ⟨gb,0,none⟩=some (.int .i64 bl)) (l0:w.cell? ⟨lb,0,none⟩=some (.int .i64 ax)) (l1:w.cell? ⟨lb,1,none⟩=some (.int .i64 ay)) (l2:w.cell? ⟨lb,2,none⟩=some (.int .i64 bx)) (l3:w.cell? ⟨lb,3,none⟩=some (.int .i64 by_)):
  Calls Tryz.prog 175 #[.agg #[.string z.name,.int .i64 z.x,.int .i64 z.y,.int .i64 z.r],.pointer (some ⟨gb,0,none⟩),.pointer (some ⟨lb,0,none⟩)] w
   fun e w'=>e=.returned (.bool (touchB z.x z.y z.r bl ax ay bx by_))∧Below w.heap.size w w':=by
 have g1:=World.block_lt_of_cell? w ⟨gb,0,none⟩ c0
 have g2:=World.block_lt_of_cell? w ⟨lb,0,none⟩ l0
 go_enter Tryz.func175,Tryz.ntmps175
 go_wp2_with (go_at_call 133;refine(touches_c _ _ _ _ _ _ _ _ _ _ hz.x0 hz.x1 hz.y0 hz.y1 hz.r0 hz.r1 h4 h4' h5 h5' h6 h6' h7 h7' h8 h8').mono ?_;rintro e w' ⟨rfl,hb⟩)
 go_ret
 exact⟨rfl,by exact zbl⟩
set_option maxHeartbeats 1000000 in
theorem isFree_c(a:GA)(g:Grd)(i j:Nat)(w:World)(hg:okG g)(hr:GridR w w.heap.size a g)(hi:i<g.sta.length)(hj:j<g.sta.length):
 Calls Tryz.prog 130 #[(.agg #[.int .i64 g.blur,.slice a.pS g.sta.length a.cs,.slice a.pM g.mov.length a.cm,.slice a.pZ g.zon.length a.cz]),.int .i64 i,.int .i64 j] w fun e w'=>e=.returned (.bool (freeB g i j))∧Below w.heap.size w w':=by
 obtain⟨b,off,ea,hb,c0,c1,c2,c3⟩:=hr.sta.get4 (k:=i) (by simpa using hi) (by rw[List.getElem_map];rfl)
 obtain⟨b',off',ea',hb',d0,d1,d2,d3⟩:=hr.sta.get4 (k:=j) (by simpa using hj) (by rw[List.getElem_map];rfl)
 rw[ea]at ea'
 injection ea' with ea'
 injection ea' with e1 e2
 subst e1 e2
 obtain⟨pS,pM,pZ,cs,cm,cz⟩:=a
 simp only at ea
 subst ea
 have s1:=hg.sta _ (List.getElem_mem hi)
 have s2:=hg.sta _ (List.getElem_mem hj)
 have HR:=zh hr;clear hr
 have HF:Hid (freeB g i j= !(g.zon.any (touchZ g.blur g.sta[i] g.sta[j]))):=zh (by simp[freeB,hi,hj])
 go_enter Tryz.func130,Tryz.ntmps130
 go_wp2_with fail
 go_region
 go_wp2_with fail
 refine(hasZone_c encZ (touchZ g.blur g.sta[i] g.sta[j]) 175 _ _ _ _ _ (by have:=hg.nz;omega) (Go.Proofs.enters_of Tryz.func175 (by kernel_rfl) rfl) ?_ (fun z _=>⟨_,_,_,_,rfl⟩) ?_).mono ?_
 ·exact(HR.out.zon.belowB (w0:=w) (by exact zbl) (Nat.le_refl _)).more (by simp)
 ·intro z hz v0 v1 v2 v3 hv W hW
  simp only[encZ,List.cons.injEq]at hv
  obtain⟨rfl,rfl,rfl,rfl,_⟩:=hv
  refine isFree1_c z (hg.zon z hz) _ _ g.blur _ _ _ _ W hg.b0 hg.b1 s1.x0 s1.x1 s1.y0 s1.y1 s2.x0 s2.x1 s2.y0 s2.y1 ?_ ?_ ?_ ?_ ?_
  all_goals exact(hW.cell (by simp)).trans (by simp)
 ·rintro e w' ⟨rfl,hb⟩
  go_wp2
  go_ret
  exact⟨ret_bool HF.out.symm,by exact zbl⟩
set_option maxHeartbeats 400000 in
theorem isSafe_c(a:GA)(g:Grd)(i:Nat)(w:World)(hg:okG g)(hr:GridR w w.heap.size a g)(hi:i<g.sta.length):
 Calls Tryz.prog 108 #[(.agg #[.int .i64 g.blur,.slice a.pS g.sta.length a.cs,.slice a.pM g.mov.length a.cm,.slice a.pZ g.zon.length a.cz]),.int .i64 i] w fun e w'=>e=.returned (.bool (freeB g i i))∧Below w.heap.size w w':=by
 have HR:=zh hr;clear hr
 go_enter Tryz.func108,Tryz.ntmps108
 go_wp2_with (go_at_call 130;refine(isFree_c a g i i _ hg ((HR.out.belowB (w0:=w) (by exact zbl) (Nat.le_refl _)).more (by simp)) hi hi).mono ?_;rintro e w' ⟨rfl,hb⟩)
 go_ret
 exact⟨rfl,by exact zbl⟩
theorem iter_bl(w:World)(s:ByteArray)(p:Nat):Below w.heap.size w (w.iter s p):=Bl.alloc (Below.refl _ _) _
set_option maxHeartbeats 4000000 in
theorem lName_c(s:ByteArray)(w:World)(hs:s.size≤100000):
 Calls Tryz.prog 171 #[.string s] w fun e w'=>e=.returned (.bool (isNm s))∧Below w.heap.size w w':=by
 go_enter Tryz.func171,Tryz.ntmps171
 go_wp2
 go_loopw [3] (fun _ wr=>∃pos:Nat,wr=w.iter s pos∧pos≤s.size∧Hid (nameOK (decide (pos=0)) (s.data.toList.drop pos)=nameOK true s.data.toList)) (fun _ wr=>s.size-wr.iterPos w.heap.size)
 case atStart=>exact⟨0,rfl,Nat.zero_le _,zh (by simp)⟩
 case round=>
  obtain⟨pos,rfl,hps,hf⟩:=hrel
  by_cases hlt:pos<s.size
  ·have hnx:∀ty,(Instr.next (.pointer (some ⟨w.heap.size,0,none⟩)) true ty).run Tryz.prog (w.iter s pos)=_:=fun ty=>run_next_any w s pos ty hlt
   have hb:s[pos].toNat<256:=s[pos].toNat_lt
   by_cases hhi:128≤s[pos].toNat
   ·have hd:=decode_high s pos hlt hhi
    have hle:=decode_le s pos
    obtain⟨hd1,hd2⟩:=hd
    generalize hdec:Utf8.decode s pos=dc at*
    obtain⟨rn,wd⟩:=dc
    simp only at hd1 hd2 hle hnx
    have HD:=zh hdec;clear hdec
    have n95:((rn:Int)==95)=false:=by rw[beq_eq_false_iff_ne];omega
    have n95':((rn:Int)!=95)=true:=by rw[bne_iff_ne];omega
    by_cases hp0:pos=0
    ·have hp1:((pos:Int)==0)=true:=by rw[beq_iff_eq];omega
     have HP:=zh hp0;clear hp0
     go_wp2
     all_goals first
     |(exfalso;(try simp only[decide_eq_true_eq,decide_eq_false_iff_not,Bool.not_eq_eq_eq_not,Bool.not_true,Bool.not_false]at *);omega)
     |(go_ret;exact⟨ret_bool (nm_bad hlt hf (okC_no (by omega) (.inr (by omega)))).symm,iter_bl _ _ _⟩)
    ·have hp1:((pos:Int)==0)=false:=by rw[beq_eq_false_iff_ne];omega
     have HP:=zh hp0;clear hp0
     go_wp2
     all_goals first
     |(exfalso;(try simp only[decide_eq_true_eq,decide_eq_false_iff_not,Bool.not_eq_eq_eq_not,Bool.not_true,Bool.not_false]at *);omega)
     |(go_ret;exact⟨ret_bool (nm_bad hlt hf (okC_no (by omega) (.inr (by omega)))).symm,iter_bl _ _ _⟩)
   ·have hdec:=decode_ascii s pos hlt (by omega)
    rw[hdec]at hnx
    simp only at hnx
    have HD:=zh hdec;clear hdec
    rcases Nat.eq_zero_or_pos pos with hk0|hk0
    ·subst hk0
     by_cases hc1:97≤s[0].toNat<;>by_cases hc2:s[0].toNat≤122<;>by_cases hc3:65≤s[0].toNat<;>by_cases hc4:s[0].toNat≤90<;>(try omega)
     all_goals
      go_wp2
      all_goals first
      |(exfalso;(try simp only[decide_eq_true_eq,decide_eq_false_iff_not,Bool.not_eq_eq_eq_not,Bool.not_true,Bool.not_false]at *);omega)
      |(go_roundw
        case rel=>exact⟨1,rfl,by omega,nm_step (k:=0) hlt hf (okC_let _ (by omega))⟩
        case measure=>simp;omega)
      |(go_ret;exact⟨ret_bool (nm_bad hlt hf (okC_no (by omega) (.inl rfl))).symm,iter_bl _ _ _⟩)
    ·have hkn:((pos:Int)==0)=false:=by rw[beq_eq_false_iff_ne];omega
     have hkd:decide (pos=0)=false:=by simp;omega
     rw[hkd]at hf
     clear hkd
     by_cases hc5:s[pos].toNat=95
     ·have hc6:((s[pos].toNat:Int)!=95)=false:=by rw[bne_eq_false_iff_eq];omega
      have H5:=zh hc5
      have h7:¬97≤s[pos].toNat:=by omega
      have h8:¬s[pos].toNat≤90:=by omega
      clear hc5
      go_wp2
      go_roundw
      case rel=>exact⟨pos+1,rfl,by omega,nm_step hlt (by rw[show decide (pos=0)=false by simp;omega];exact hf) (by rw[show decide (pos=0)=false by simp;omega];exact okC_dig (.inr H5.out))⟩
      case measure=>simp;omega
     ·have hc6:((s[pos].toNat:Int)!=95)=true:=by rw[bne_iff_ne];omega
      by_cases hc1:97≤s[pos].toNat<;>by_cases hc2:s[pos].toNat≤122<;>by_cases hc3:65≤s[pos].toNat<;>by_cases hc4:s[pos].toNat≤90<;>by_cases hc7:s[pos].toNat<48<;>by_cases hc8:57<s[pos].toNat<;>(try omega)
      all_goals
       go_wp2
       all_goals first
       |(exfalso;(try simp only[decide_eq_true_eq,decide_eq_false_iff_not,Bool.not_eq_eq_eq_not,Bool.not_true,Bool.not_false]at *);omega)
       |(go_roundw
         case rel=>exact⟨pos+1,rfl,by omega,nm_step hlt (by rw[show decide (pos=0)=false by simp;omega];exact hf) (by rw[show decide (pos=0)=false by simp;omega];first|exact okC_let _ (by omega)|exact okC_dig (by omega))⟩
         case measure=>simp;omega)
       |(go_ret;exact⟨ret_bool (nm_bad hlt (by rw[show decide (pos=0)=false by simp;omega];exact hf) (by rw[show decide (pos=0)=false by simp;omega];exact okC_no (by omega) (.inr (by omega)))).symm,iter_bl _ _ _⟩)
  ·have hnx:∀ty,(Instr.next (.pointer (some ⟨w.heap.size,0,none⟩)) true ty).run Tryz.prog (w.iter s pos)=_:=fun ty=>run_next_end w s pos ty hlt
   by_cases h0:s.size=0
   ·have e0:=str_empty h0
    have HH:=zh h0;clear h0
    go_wp2
    go_ret
    exact⟨ret_bool (by simp[isNm,HH.out]),iter_bl _ _ _⟩
   ·have e1:=str_some h0
    have e2:=str_ne h0
    go_wp2
    go_ret
    have e9:isNm s=decide ((s.size:Int)≤24):=by
     rw[nm_end hlt hf]
     by_cases h24:s.size≤24
     ·have h25:(s.size:Int)≤24:=by omega
      simp[h24,h25];omega
     ·have h25:¬(s.size:Int)≤24:=by omega
      simp[h24,h25]
    exact⟨ret_bool e9.symm,iter_bl _ _ _⟩
def sEq(a b:ByteArray):Bool:=a.data.toList==b.data.toList
theorem sEq_eq(a b:ByteArray):(a==b)=sEq a b:=by rw[beq_toListBytes,ByteArray.toList_eq,ByteArray.toList_eq];rfl
theorem sEq_refl(a:ByteArray):sEq a a=true:=by simp[sEq]
theorem sEq_comm(a b:ByteArray):sEq a b=sEq b a:=by simp only[sEq];exact BEq.comm
def SetAt(w:World)(r:Nat)(l:List ByteArray):Prop:=
 ∃es clock,w.heap[r]? =some (.map es clock)∧es.toList.map (·.key)=l.map Value.string∧∀e∈es.toList,e.val=.bool true
def memS(l:List ByteArray)(s:ByteArray):Bool:=l.any (sEq s)
theorem findNow_set(s:ByteArray):∀(es:List MapEntry) (l:List ByteArray) (i:Nat),es.map (·.key)=l.map Value.string→(∀e∈es,e.val=.bool true)→
 ((memS l s=true∧∃j,Instr.findNow .string (.string s) es i=some (some (j,.bool true)))∨(memS l s=false∧Instr.findNow .string (.string s) es i=some none)):=by
 intro es
 induction es with
 |nil=>intro l i hk _;cases l with|nil=>exact .inr ⟨rfl,rfl⟩|cons a l=>simp at hk
 |cons e es ih=>
  intro l i hk hv
  cases l with
  |nil=>simp at hk
  |cons a l=>
   simp only[List.map_cons,List.cons.injEq]at hk
   obtain⟨hk1,hk2⟩:=hk
   simp only[Instr.findNow,hk1,Instr.sameNow,sEq_eq]
   by_cases hs:sEq s a=true
   ·left
    exact⟨by simp[memS,hs],i,by simp[hs,hv e (by simp)]⟩
   ·have hs':sEq s a=false:=by simpa using hs
    rw[hs']
    rcases ih l (i+1) hk2 (fun e he=>hv e (by simp[he]))with ⟨h1,h2⟩|⟨h1,h2⟩
    ·left;exact⟨by simp only[memS,List.any_cons,hs',Bool.false_or];exact h1,h2⟩
    ·right;exact⟨by simp only[memS,List.any_cons,hs',Bool.false_or];exact h1,h2⟩
theorem run_checkKey_str{P:Program}{w:World}{K:TypeId}(b:Bool)(s:ByteArray)(hK:P.underlying K=some .string):(Instr.checkKey b 10000 K (.string s)).run P w=.ok () w:=by
 rw[show(10000:Nat)=9999+1 from rfl,Instr.checkKey]
 simp[run_underlying hK]
theorem run_findKey_str{P:Program}{w:World}{K:TypeId}(s:ByteArray)(es:List MapEntry)(x:Option (Nat×Value))(hK:P.underlying K=some .string)(h:Instr.findNow .string (.string s) es 0=some x):
 (Instr.findKey K (.string s) es).run P w=.ok x w:=by
 simp[Instr.findKey,run_underlying hK,h]
theorem run_getObj_map{P:Program}{w:World}{r:Nat}{es:Array MapEntry}{c:Nat}(h:w.heap[r]? =some (.map es c)):(getObj r).run P w=.ok (.map es c) w:=by
 simp[getObj,Sem.run,h]
theorem run_setObj_map{P:Program}{w:World}{r:Nat}{es:Array MapEntry}{c:Nat}(o:Obj)(h:w.heap[r]? =some (.map es c)):(setObj r o).run P w=.ok () {w with heap:=w.heap.setIfInBounds r o}:=by
 simp[setObj,Sem.run,h]
theorem run_lookup_set{P:Program}{w:World}{T K E:TypeId}{r:Nat}{l:List ByteArray}(s:ByteArray)(hT:P.underlying T=some (.map K E))(hK:P.underlying K=some .string)
 (hz:(zeroValue E).run P w=.ok (.bool false) w) (h:SetAt w r l):(Instr.lookup T (.map (some r)) (.string s) false).run P w=.ok (.bool (memS l s)) w:=by
 obtain⟨es,clock,hb,hk,hv⟩:=h
 have hf:=findNow_set s es.toList l 0 hk hv
 rcases hf with ⟨h1,j,h2⟩|⟨h1,h2⟩
 ·simp[Instr.lookup,run_underlying hT,run_getObj_map hb,run_checkKey_str _ s hK,run_findKey_str s _ _ hK h2,h1]
 ·simp[Instr.lookup,run_underlying hT,run_getObj_map hb,run_checkKey_str _ s hK,run_findKey_str s _ _ hK h2,h1,hz]
theorem run_update_set{P:Program}{w:World}{T K E:TypeId}{r:Nat}{l:List ByteArray}(s:ByteArray)(hT:P.underlying T=some (.map K E))(hK:P.underlying K=some .string)
 (h:SetAt w r l) (hs:memS l s=false):∃w',(Instr.mapUpdate T (.map (some r)) (.string s) (.bool true)).run P w=.ok () w'∧SetAt w' r (l++ [s])∧w.grownBy w' (some r):=by
 obtain⟨es,clock,hb,hk,hv⟩:=h
 have hlt:r<w.heap.size:=(Array.getElem?_eq_some_iff.1 hb).1
 rcases findNow_set s es.toList l 0 hk hv with ⟨h1,_⟩|⟨_,h2⟩
 ·rw[hs]at h1;cases h1
 ·refine⟨{w with heap:=w.heap.setIfInBounds r (.map (es.push {key:=.string s,val:=.bool true,born:=clock}) (clock+1))},?_,?_,?_⟩
  ·simp[Instr.mapUpdate,run_underlying hT,run_getObj_map hb,run_checkKey_str _ s hK,run_findKey_str s _ _ hK h2,run_setObj_map _ hb]
  ·refine⟨_,_,by simp[hlt];exact⟨rfl,rfl⟩,by simp[hk],fun e he=>?_⟩
   simp only[Array.toList_push,List.mem_append,List.mem_singleton]at he
   rcases he with he|rfl
   ·exact hv e he
   ·rfl
  ·exact⟨rfl,rfl,rfl,by simp,fun k hk' hne=>by simp;rw[Array.getElem?_setIfInBounds_ne (by intro e;exact hne (by rw[e]))]⟩
theorem wpList_update_set{P:Program}{w:World}{ops:Array Oper}{rest:List Oper}{o:Oper}{a:Act}{Q:Exit→Act→World→Prop}
 (hg:o.guard=none) (m x v:Operand) (T:TypeId) (hop:o.op=Op.mapUpdate T m x v) (K E:TypeId) (hT:P.underlying T=some (.map K E)) (hK:P.underlying K=some .string)
 (r:Nat) (l:List ByteArray) (s:ByteArray) (hm:a.eval m=.map (some r)) (hx:a.eval x=.string s) (hv:a.eval v=.bool true) (hset:SetAt w r l) (hs:memS l s=false)
 (hN:∀w',SetAt w' r (l++ [s])→w.grownBy w' (some r)→wpList P ops Q rest (a.put o.dst undef) w'):wpList P ops Q (o::rest) a w:=by
 refine wpList_plain hg fun K' hK'=>?_
 obtain⟨w',hrun,h1,h2⟩:=run_update_set (P:=P) (w:=w) s hT hK hset hs
 unfold Oper.wp
 simp[execOp,hop,hm,hx,hv,hrun,Result.andThen]
 exact hK' _ _ (hN w' h1 h2)
theorem SetAt.new(w:World):SetAt (w.alloc (.map #[] 0)) w.heap.size []:=⟨#[],0,heap_alloc_new w _,rfl,by simp⟩
theorem SetAt.lt{w:World}{r:Nat}{l:List ByteArray}(h:SetAt w r l):r<w.heap.size:=by
 obtain⟨es,clock,hb,_⟩:=h;exact(Array.getElem?_eq_some_iff.1 hb).1
theorem SetAt.keep{w w':World}{r:Nat}{l:List ByteArray}(h:SetAt w r l)(hb:w'.heap[r]? =w.heap[r]?):SetAt w' r l:=by
 obtain⟨es,clock,h1,h2⟩:=h;exact⟨es,clock,hb.trans h1,h2⟩
def nmC(s:ByteArray):Int:=whn (!isNm s) 8
set_option maxHeartbeats 400000 in
theorem checkName_c(s:ByteArray)(w:World)(hs:s.size≤100000):
 Calls Tryz.prog 123 #[.string s] w fun e w'=>e=.returned (.int .i64 (nmC s))∧Below w.heap.size w w':=by
 go_enter Tryz.func123,Tryz.ntmps123
 go_wp2_with (first|(go_at_call 171;refine(lName_c _ _ hs).mono ?_;rintro e w' ⟨rfl,hb⟩)|(go_at_call 104;refine(when_c _ _ _).mono ?_;rintro e w' ⟨rfl,rfl⟩))
 go_ret
 exact⟨rfl,by exact zbl⟩
def placeC(x y:Int):Int:=firstErr [rng x 0 1000,rng y 0 1000]
def extC(z:Zon):Int:=firstErr [placeC z.x z.y,rng z.r 0 500]
set_option maxHeartbeats 1000000 in
theorem checkExtent_c(z:Zon)(w:World):
 Calls Tryz.prog 131 #[.agg #[.string z.name,.int .i64 z.x,.int .i64 z.y,.int .i64 z.r]] w fun e w'=>e=.returned (.int .i64 (extC z))∧Below w.heap.size w w':=by
 go_enter Tryz.func131,Tryz.ntmps131
 go_wp2_with fail
 go_region_held3 (SSd (w.alloc (.cells #[.string z.name,.int .i64 z.x,.int .i64 z.y,.int .i64 z.r] 119))) ((refine Sx.goal ?_;exact zsx)) (first|(go_at_call 132;refine(checkPlace_c _ _ _).mono ?_;rintro e w1 ⟨rfl,hb1⟩)|(go_at_call 122;refine(within_c _ _ _ _).mono ?_;rintro e w' ⟨rfl,rfl⟩)|(go_at_call 103;refine(first_c _ [firstErr [rng z.x 0 1000,rng z.y 0 1000],rng z.r 0 500] _ ?_ ?_).mono ?_;(focus simp);(focus simp[CellsAt]);rintro e w' ⟨rfl,rfl⟩))
 go_wp2
 go_ret
 exact⟨rfl,by exact zbl⟩
set_option maxHeartbeats 600000 in
theorem idxStr_c(s:ByteArray)(A:Option Addr)(l:List ByteArray)(c:Nat)(w:World)(hl:l.length≤1000)(hr:Rw w w.heap.size 1 A (l.map fun t=> [Value.string t])):
 Calls Tryz.prog 205 #[.slice A l.length c,.string s] w fun e w'=>e=.returned (.int .i64 (idxF (sEq s) l))∧w=w':=by
 have HR:=zh hr;clear hr
 go_enter Tryz.func205,Tryz.ntmps205
 go_wp2_with fail
 go_loop [8] (fun i=>∃k:Nat,k≤l.length∧i=.int .i64 k∧Hid (∀x∈l.take k,sEq s x=false)) (fun i=>l.length-(intOf i).toNat)
 case atStart=>exact⟨0,Nat.zero_le _,rfl,zh (by simp)⟩
 case round=>
  obtain⟨k,hk,rfl,hf⟩:=hrel
  by_cases hlt:k<l.length
  ·obtain⟨b,off,rfl,_,c0⟩:=HR.out.get1 (k:=k) (by simpa using hlt) (by rw[List.getElem_map])
   cases hp:sEq s l[k]
   ·have hq:(s.toList==l[k].toList)=false:=by rw[ByteArray.toList_eq,ByteArray.toList_eq];exact hp
    have HP:=zh hp;clear hp
    go_wp2
    go_round
    case rel=>exact⟨k+1,by omega,by go_num,zh (take_all hlt hf.out HP.out)⟩
    case measure=>simp[intOf];omega
   ·have hq:(s.toList==l[k].toList)=true:=by rw[ByteArray.toList_eq,ByteArray.toList_eq];exact hp
    have hq2:s.toList=l[k].toList:=by simpa using hq
    have HP:=zh hp;clear hp
    have HQ:=zh hq2;clear hq2
    go_wp2
    go_ret
    exact⟨ret_int (idxF_at _ l k hlt hf.out HP.out).symm,rfl⟩
  ·go_wp2_with fail
   go_ret
   have:=hf.out
   rw[List.take_of_length_le (by omega)]at this
   exact⟨ret_int (idxF_none _ l this).symm,rfl⟩
set_option maxHeartbeats 400000 in
theorem hasStr_c(s:ByteArray)(A:Option Addr)(l:List ByteArray)(c:Nat)(w:World)(hl:l.length≤1000)(hr:Rw w w.heap.size 1 A (l.map fun t=> [Value.string t])):
 Calls Tryz.prog 179 #[.slice A l.length c,.string s] w fun e w'=>e=.returned (.bool (memS l s))∧w=w':=by
 have HI:=zh (idxStr_c s A l c w hl hr)
 clear hr
 go_enter Tryz.func179,Tryz.ntmps179
 go_wp2_with (refine HI.out.mono ?_;rintro e w' ⟨rfl,rfl⟩)
 go_ret
 exact⟨ret_bool (idxF_any _ l),rfl⟩
set_option maxHeartbeats 600000 in
theorem idxEq_c(s:Int)(A:Option Addr)(l:List Int)(c:Nat)(w:World)(hl:l.length≤1000)(hr:Rw w w.heap.size 1 A (l.map fun t=> [Value.int .i64 t])):
 Calls Tryz.prog 162 #[.slice A l.length c,.int .i64 s] w fun e w'=>e=.returned (.int .i64 (idxF (s== ·) l))∧w=w':=by
 have HR:=zh hr;clear hr
 go_enter Tryz.func162,Tryz.ntmps162
 go_wp2_with fail
 go_loop [8] (fun i=>∃k:Nat,k≤l.length∧i=.int .i64 k∧Hid (∀x∈l.take k,(s==x)=false)) (fun i=>l.length-(intOf i).toNat)
 case atStart=>exact⟨0,Nat.zero_le _,rfl,zh (by simp)⟩
 case round=>
  obtain⟨k,hk,rfl,hf⟩:=hrel
  by_cases hlt:k<l.length
  ·obtain⟨b,off,rfl,_,c0⟩:=HR.out.get1 (k:=k) (by simpa using hlt) (by rw[List.getElem_map])
   cases hp:(s==l[k])
   ·have HP:=zh hp
    go_wp2
    go_round
    case rel=>exact⟨k+1,by omega,by go_num,zh (take_all (p:=(s== ·)) hlt hf.out HP.out)⟩
    case measure=>simp[intOf];omega
   ·have HP:=zh hp
    have hq2:s=l[k]:=by simpa using hp
    have HQ:=zh hq2;clear hq2
    go_wp2
    go_ret
    exact⟨ret_int (idxF_at _ l k hlt hf.out HP.out).symm,rfl⟩
  ·go_wp2_with fail
   go_ret
   have:=hf.out
   rw[List.take_of_length_le (by omega)]at this
   exact⟨ret_int (idxF_none _ l this).symm,rfl⟩
set_option maxHeartbeats 400000 in
theorem hasEq_c(s:Int)(A:Option Addr)(l:List Int)(c:Nat)(w:World)(hl:l.length≤1000)(hr:Rw w w.heap.size 1 A (l.map fun t=> [Value.int .i64 t])):
 Calls Tryz.prog 110 #[.slice A l.length c,.int .i64 s] w fun e w'=>e=.returned (.bool (l.any (s== ·)))∧w=w':=by
 have HI:=zh (idxEq_c s A l c w hl hr)
 clear hr
 go_enter Tryz.func110,Tryz.ntmps110
 go_wp2_with (refine HI.out.mono ?_;rintro e w' ⟨rfl,rfl⟩)
 go_ret
 exact⟨ret_bool (idxF_any _ l),rfl⟩
def Sh(W0 W:World):Prop:=W0.heap.size≤W.heap.size∧(∀b o,b<W0.heap.size→W.cell? ⟨b,o,none⟩=W0.cell? ⟨b,o,none⟩)∧(∀b,b<W0.heap.size→W.heap[b]? =W0.heap[b]?)
theorem Sh.goal{W0 W:World}(h:Sh W0 W):W0.heap.size≤W.heap.size∧(∀b o,b<W0.heap.size→W.cell? ⟨b,o,none⟩=W0.cell? ⟨b,o,none⟩)∧(∀b,b<W0.heap.size→W.heap[b]? =W0.heap[b]?):=h
theorem Sh.refl(W:World):Sh W W:=⟨Nat.le_refl _,fun _ _ _=>rfl,fun _ _=>rfl⟩
theorem Sh.drew{W0 W:World}(h:Sh W0 W):Sh W0 W.drew:=h
theorem Sh.alloc{W0 W:World}(h:Sh W0 W)(o:Obj):Sh W0 (W.alloc o):=
 ⟨by have:=h.1;simp;omega,fun b i hb=>(World.cell?_alloc_lt W o ⟨b,i,none⟩ (Nat.lt_of_lt_of_le hb h.1)).trans (h.2.1 b i hb),fun b hb=>(Below.heap_alloc W o b (Nat.lt_of_lt_of_le hb h.1)).trans (h.2.2 b hb)⟩
theorem Sh.below'{W0 W W':World}(hb:Below W.heap.size W W')(h:Sh W0 W):Sh W0 W':=
 ⟨Nat.le_trans h.1 hb.size,fun b i hlt=>(hb.cell (p:=⟨b,i,none⟩) (Nat.lt_of_lt_of_le hlt h.1)).trans (h.2.1 b i hlt),fun b hlt=>(hb.block b (Nat.lt_of_lt_of_le hlt h.1)).trans (h.2.2 b hlt)⟩
theorem Sh.set{W0 W:World}(h:Sh W0 W){a:Addr}(v:Value)(hb:W0.heap.size≤a.block):Sh W0 (W.setCell a v):=
 ⟨by simpa using h.1,fun b i hlt=>(World.cell?_setCell_other W a ⟨b,i,none⟩ v (fun e=>by subst e;exact absurd hlt (Nat.not_lt.2 hb))).trans (h.2.1 b i hlt),
  fun b hlt=>(Below.heap_setCell W a v b (by omega)).trans (h.2.2 b hlt)⟩
theorem Sh.at{W0 W:World}(hs:Sh W0 W){b o:Nat}{v:Value}(h:W0.cell? ⟨b,o,none⟩=some v):W.cell? ⟨b,o,none⟩=some v:=
 (hs.2.1 b o (World.block_lt_of_cell? W0 ⟨b,o,none⟩ h)).trans h
theorem Sh.at2{W0 W:World}{r:Nat}(hr:r<W0.heap.size)(h:Sh W0 W):W.heap[r]? =W0.heap[r]? :=h.2.2 r hr
theorem zsh{p:Prop}(h:p:=by(repeat first|(with_reducible first|assumption|exact Sh.refl _|refine Sh.drew ?_|refine Sh.alloc ?_ _|refine Sh.set ?_ _ ?_)|(with_reducible apply Sh.below';(focus(with_reducible assumption)))|omega|(focus(simp;done))|(focus(simp;omega)))):p:=h
end Go.Proofs.YtehnikhicnnnhaaGreatDoor
/- The reference: better. | The reference's table of ways, as it lies in memory; what its entries keep. | Regions that draw their order, each operation with a value known ahead: one invariant over what is listed. -/
import Derived.Test.YtehnikhicnnnhaaGreatDoorPa60
namespace Go.Proofs.YtehnikhicnnnhaaGreatDoor
open Go.RowKit
theorem cmpI_self(a:Int):cmpI a a=0:=by simp[cmpI]
theorem cmpL_self:∀l:List Int,cmpL l l=0
 | []=>rfl
 |a::l=>by rw[cmpL,if_pos (cmpI_self a),cmpL_self l]
theorem cmpL_at:∀{xs ys:List Int} {k:Nat} (h1:k<xs.length) (h2:k<ys.length),xs.take k=ys.take k→xs[k]≠ys[k]→cmpL xs ys=cmpI xs[k] ys[k]
 | [],_,_,h1,_,_,_=>by simp at h1
 |_::_,[],_,_,h2,_,_=>by simp at h2
 |x::xs,y::ys,0,_,_,_,hne=>by
  simp only[List.getElem_cons_zero]at hne ⊢
  rw[cmpL,if_neg]
  rcases cmpI_cases x y with ⟨_,h⟩|⟨h,_⟩|⟨_,h⟩
  ·rw[h];decide
  ·exact absurd h hne
  ·rw[h];decide
 |x::xs,y::ys,k+1,h1,h2,ht,hne=>by
  simp only[List.take_succ_cons,List.cons.injEq]at ht
  obtain⟨rfl,ht⟩:=ht
  simp only[List.getElem_cons_succ]at hne ⊢
  rw[cmpL,if_pos (cmpI_self _)]
  exact cmpL_at (by simpa using h1) (by simpa using h2) ht hne
theorem cmpI_neg(a b:Int):decide (cmpI a b<0)=decide (a<b):=by
 rcases cmpI_cases a b with ⟨h,e⟩|⟨h,e⟩|⟨h,e⟩<;>rw[e,Bool.eq_iff_iff]<;>simp<;>omega
set_option maxHeartbeats 600000 in
theorem better_none(x:Rt)(A:Option Addr)(c:Nat)(w:World)(hx:0<x.st.length):
 Calls Tryz.prog 160 #[.agg #[.slice A x.st.length c,.int .i64 x.n],.agg #[.slice none 0 0,.int .i64 0]] w fun e w'=>e=.returned (.bool true)∧Below w.heap.size w w':=by
 have h1:((x.st.length:Int)==0)=false:=by rw[beq_eq_false_iff_ne];omega
 have h2:decide ((0:Int)<(x.st.length:Int))=true:=decide_eq_true (by omega)
 go_enter Tryz.func160,Tryz.ntmps160
 go_wp2_with fail
 go_ret
 exact⟨ret_bool (by first|rfl|simpa using h2|(simp;omega)),by exact zbl⟩
set_option maxHeartbeats 1000000 in
theorem better_some(x r:Rt)(A A':Option Addr)(c c':Nat)(w:World)(hx:0<x.st.length)(hy:0<r.st.length)(hl:x.st.length≤100000)(h:IntsR w w.heap.size A x.st)(h':IntsR w w.heap.size A' r.st):
 Calls Tryz.prog 160 #[.agg #[.slice A x.st.length c,.int .i64 x.n],.agg #[.slice A' r.st.length c',.int .i64 r.n]] w fun e w'=>e=.returned (.bool (decide (rcmp x r<0)))∧Below w.heap.size w w':=by
 have h1:((x.st.length:Int)==0)=false:=by rw[beq_eq_false_iff_ne];omega
 have h2:((r.st.length:Int)==0)=false:=by rw[beq_eq_false_iff_ne];omega
 obtain⟨W0,hW0⟩:∃W0,W0=(w.alloc (.cells #[.slice A x.st.length c,.int .i64 x.n] 178)).alloc (.cells #[.slice A' r.st.length c',.int .i64 r.n] 178):=⟨_,rfl⟩
 have hs0:W0.heap.size=w.heap.size+2:=by rw[hW0];simp
 have hB0:Below w.heap.size w W0:=by rw[hW0];exact zbl
 have k0:W0.heap[w.heap.size]? =some (.cells #[.slice A x.st.length c,.int .i64 x.n] 178 (0,0)):=by rw[hW0];exact(Below.heap_alloc _ _ _ (by simp)).trans (heap_alloc_new w _)
 have k1:W0.heap[w.heap.size+1]? =some (.cells #[.slice A' r.st.length c',.int .i64 r.n] 178 (0,0)):=by
  rw[hW0]
  have:=heap_alloc_new (w.alloc (.cells #[.slice A x.st.length c,.int .i64 x.n] 178)) (.cells #[.slice A' r.st.length c',.int .i64 r.n] 178)
  rwa [World.size_alloc]at this
 have c0:W0.cell? ⟨w.heap.size,0,none⟩=some (.slice A x.st.length c):=by rw[cell_of_row W0 _ 0 _ _ _ k0];rfl
 have c1:W0.cell? ⟨w.heap.size,1,none⟩=some (.int .i64 x.n):=by rw[cell_of_row W0 _ 1 _ _ _ k0];rfl
 have d0:W0.cell? ⟨w.heap.size+1,0,none⟩=some (.slice A' r.st.length c'):=by rw[cell_of_row W0 _ 0 _ _ _ k1];rfl
 have d1:W0.cell? ⟨w.heap.size+1,1,none⟩=some (.int .i64 r.n):=by rw[cell_of_row W0 _ 1 _ _ _ k1];rfl
 clear k0 k1
 have H:=zh (Rw.belowB h (w0:=w) hB0 (Nat.le_refl _));clear h
 have H':=zh (Rw.belowB h' (w0:=w) hB0 (Nat.le_refl _));clear h'
 have HB0:=zh hB0
 clear hB0
 cases hn:(x.n !=r.n)
 ·have hn':x.n=r.n:=by simpa using hn
  have HN:=zh hn'
  clear hn'
  cases hq:((x.st.length:Int)!=(r.st.length:Int))
  ·have hq':x.st.length=r.st.length:=by have:=hq;rw[bne_eq_false_iff_eq]at this;omega
   have HQ:=zh (show decide (rcmp x r<0)=decide (cmpL x.st r.st<0) by unfold rcmp;rw[HN.out,hq',cmpI_self,cmpI_self];rfl)
   have HR:=zh hq'
   clear hq'
   go_enter Tryz.func160,Tryz.ntmps160
   go_upto_region 1 with fail
   rw[←hW0]
   clear hW0
   go_wp2_with fail
   go_loopw [5] (fun i wr=>∃k:Nat,k≤x.st.length∧i=.int .i64 k∧Hid (x.st.take k=r.st.take k)∧Below W0.heap.size W0 wr) (fun i _=>x.st.length-(intOf i).toNat)
   case atStart=>exact⟨0,Nat.zero_le _,rfl,zh (by simp),Below.refl _ _⟩
   case round=>
    obtain⟨k,hk,rfl,hf,hb⟩:=hrel
    have e0:=(hb.cell (p:=⟨w.heap.size,0,none⟩) (by show w.heap.size<_;omega)).trans c0
    have e1:=(hb.cell (p:=⟨w.heap.size,1,none⟩) (by show w.heap.size<_;omega)).trans c1
    have f0:=(hb.cell (p:=⟨w.heap.size+1,0,none⟩) (by show w.heap.size+1<_;omega)).trans d0
    have f1:=(hb.cell (p:=⟨w.heap.size+1,1,none⟩) (by show w.heap.size+1<_;omega)).trans d1
    clear c0 c1 d0 d1
    have hbw:Below w.heap.size w wr:=HB0.out.trans (hb.mono (by omega))
    by_cases hlt:k<x.st.length
    ·have hlt':k<r.st.length:=by have:=HR.out;omega
     obtain⟨b,off,ea,hbb,z0⟩:=(Rw.belowB H.out (w0:=W0) (hb.mono (by omega)) (by omega)).get1 (k:=k) (by simpa using hlt) (by rw[List.getElem_map])
     obtain⟨b',off',ea',hbb',z1⟩:=(Rw.belowB H'.out (w0:=W0) (hb.mono (by omega)) (by omega)).get1 (k:=k) (by simpa using hlt') (by rw[List.getElem_map])
     rw[ea]at e0
     rw[ea']at f0
     clear ea ea'
     cases hz:(x.st[k]!=r.st[k])
     ·have HZ:=zh (show x.st[k]=r.st[k] by simpa using hz)
      go_wp2_with fail
      go_quiet (fail)
      go_wp2_with fail
      go_roundw
      case rel=>exact⟨k+1,by omega,by go_num,zh (take_eq_succ hlt hlt' hf.out HZ.out),by exact zbl⟩
      case measure=>simp[intOf];omega
     ·have HZ:=zh (show decide (x.st[k]<r.st[k])=decide (rcmp x r<0) by rw[HQ.out,cmpL_at hlt hlt' hf.out (by simpa using hz),cmpI_neg])
      go_wp2_with fail
      go_quiet (fail)
      go_wp2_with fail
      go_quiet (fail)
      go_wp2_with fail
      go_ret
      exact⟨ret_bool (by rw[←HZ.out]),by exact zbl⟩
    ·go_wp2_with fail
     go_ret
     have h3:=hf.out
     have h4:=HR.out
     rw[List.take_of_length_le (by omega),List.take_of_length_le (by omega)]at h3
     exact⟨ret_bool (by rw[HQ.out,h3,cmpL_self];rfl),by exact zbl⟩
  ·have hq':x.st.length≠r.st.length:=by have:=hq;rw[bne_iff_ne]at this;omega
   have HQ:=zh (show decide (rcmp x r<0)=decide ((x.st.length:Int)<(r.st.length:Int)) by
    unfold rcmp
    rw[HN.out,cmpI_self,if_neg (by decide),if_pos,cmpI_neg]
    rcases cmpI_cases (x.st.length:Int) r.st.length with ⟨_,h⟩|⟨h,_⟩|⟨_,h⟩
    ·rw[h];decide
    ·omega
    ·rw[h];decide)
   clear hq'
   go_enter Tryz.func160,Tryz.ntmps160
   go_upto_region 1 with fail
   rw[←hW0]
   clear hW0
   go_wp2_with fail
   go_ret
   exact⟨ret_bool (by rw[HQ.out];first|rfl|simp),HB0.out.trans ((show Below W0.heap.size W0 _ by exact zbl).mono (by omega))⟩
 ·have hn':x.n≠r.n:=by simpa using hn
  have HQ:=zh (show decide (rcmp x r<0)=decide (x.n<r.n) by
   unfold rcmp
   rw[if_pos,cmpI_neg]
   rcases cmpI_cases x.n r.n with ⟨_,h⟩|⟨h,_⟩|⟨_,h⟩
   ·rw[h];decide
   ·exact absurd h hn'
   ·rw[h];decide)
  clear hn'
  go_enter Tryz.func160,Tryz.ntmps160
  go_upto_region 1 with fail
  rw[←hW0]
  clear hW0
  go_wp2_with fail
  go_ret
  exact⟨ret_bool (by rw[HQ.out]),HB0.out.trans ((show Below W0.heap.size W0 _ by exact zbl).mono (by omega))⟩
def IntB(w:World)(bs:Nat)(l:List Int):Prop:=∃cs:Array Value,w.heap[bs]? =some (.cells cs 3 (0,0))∧∀k (h:k<l.length),cs[k]? =some (.int .i64 l[k])
theorem IntB.ints{w:World}{bs:Nat}{l:List Int}(h:IntB w bs l):IntsR w w.heap.size (some ⟨bs,0,none⟩) l:=by
 obtain⟨cs,hb,hc⟩:=h
 refine fun _=>⟨bs,0,rfl,blk_lt hb,fun k hk j v hv=>?_⟩
 rw[List.length_map]at hk
 simp only[List.getElem_map]at hv
 cases j with
 |succ j=>simp at hv
 |zero=>
  simp only[List.getElem?_cons_zero,Option.some.injEq]at hv
  subst hv
  rw[cell_of_row _ _ _ _ _ _ hb,show 0+k*1+0=k by omega]
  exact hc k hk
theorem IntB.of{w w':World}{bs:Nat}{l:List Int}(h:IntB w bs l)(he:w'.heap[bs]? =w.heap[bs]?):IntB w' bs l:=by
 obtain⟨cs,hb,hc⟩:=h
 exact⟨cs,he.trans hb,hc⟩
theorem OwnI.intB{w:World}{base:Nat}{v:Value}{xs:List Int}(h:OwnI w base v xs)(hx:xs≠ []):∃g cap,v=.slice (some ⟨g,0,none⟩) xs.length cap∧xs.length≤cap∧base≤g∧IntB w g xs:=by
 rcases h.2 with ⟨_,h0⟩|⟨g,cap,cur,hv,hb,hg,hc,_,_,ht⟩
 ·exact absurd (List.eq_nil_of_length_eq_zero h0) hx
 ·refine⟨g,cap,hv,hc,hb,cur,hg,fun k hk=>?_⟩
  have:=h.cells (g:=g) (by rw[hv];rfl) k (.int .i64 xs[k]) (by rw[List.getElem?_map,List.getElem?_eq_getElem hk];rfl)
  rw[add0,cell_of_row _ _ _ _ _ _ hg]at this
  exact this
def EntP(w:World)(arr:Array Value)(k:Nat):Option Rt→Prop
 |none=>arr[k*2]? =some (.slice none 0 0)∧arr[k*2+1]? =some (.int .i64 0)
 |some r=>∃bs c,arr[k*2]? =some (.slice (some ⟨bs,0,none⟩) r.st.length c)∧arr[k*2+1]? =some (.int .i64 r.n)∧r.st.length≤c∧IntB w bs r.st
def TabP(w:World)(bO:Nat)(T:List (Option Rt)):Prop:=∃arr:Array Value,w.heap[bO]? =some (.cells arr 178 (0,0))∧T.length*2≤arr.size∧∀k (h:k<T.length),EntP w arr k T[k]
theorem TabP.lt{w:World}{b:Nat}{T:List (Option Rt)}(h:TabP w b T):b<w.heap.size:=by
 obtain⟨_,h,_⟩:=h;exact blk_lt h
theorem EntP.keep{w w':World}{arr:Array Value}{k p:Nat}{o:Option Rt}{Tp:TypeId}{cp:Array Value}(h:EntP w arr k o)(hk:Ke p w w')(hp:w.heap[p]? =some (.cells cp Tp (0,0)))(ht:Tp≠3):EntP w' arr k o:=by
 cases o with
 |none=>exact h
 |some r=>
  obtain⟨bs,c,h1,h2,h3,h4⟩:=h
  refine⟨bs,c,h1,h2,h3,h4.of (hk.2 bs ?_ ?_)⟩
  ·obtain⟨_,h5,_⟩:=h4;exact blk_lt h5
  ·rintro rfl
   obtain⟨_,h5,_⟩:=h4
   rw[hp]at h5
   cases h5
   exact ht rfl
theorem TabP.keep{w w':World}{b p:Nat}{T:List (Option Rt)}{Tp:TypeId}{cp:Array Value}(h:TabP w b T)(hk:Ke p w w')(hp:w.heap[p]? =some (.cells cp Tp (0,0)))(ht:Tp≠3)(hne:b≠p):TabP w' b T:=by
 obtain⟨arr,h1,h2,h3⟩:=h
 exact⟨arr,(hk.2 b (blk_lt h1) hne).trans h1,h2,fun k hk'=>(h3 k hk').keep hk hp ht⟩
theorem Ke.of{p:Nat}{U W:World}(h:Below U.heap.size U W):Ke p U W:=⟨h.size,fun b hb _=>h.block b hb⟩
theorem TabP.below{w w':World}{b:Nat}{T:List (Option Rt)}(h:TabP w b T)(hb:Below w.heap.size w w'):TabP w' b T:=by
 obtain⟨arr,h1,h2,h3⟩:=h
 refine⟨arr,(hb.block b (blk_lt h1)).trans h1,h2,fun k hk'=>?_⟩
 have:=h3 k hk'
 cases e:T[k]with
 |none=>rw[e]at this;exact this
 |some r=>
  rw[e]at this
  obtain⟨bs,c,h4,h5,h6,h7⟩:=this
  refine⟨bs,c,h4,h5,h6,h7.of (hb.block bs ?_)⟩
  obtain⟨_,h8,_⟩:=h7;exact blk_lt h8
theorem TabP.none_{w:World}{b k:Nat}{T:List (Option Rt)}(h:TabP w b T)(hk:k<T.length)(he:T[k]=none):w.cell? ⟨b,k*2,none⟩=some (.slice none 0 0)∧w.cell? ⟨b,k*2+1,none⟩=some (.int .i64 0):=by
 obtain⟨arr,h1,_,h3⟩:=h
 have:=h3 k hk
 rw[he]at this
 rw[cell_of_row _ _ _ _ _ _ h1,cell_of_row _ _ _ _ _ _ h1]
 exact this
theorem TabP.some_{w:World}{b k:Nat}{T:List (Option Rt)}{r:Rt}(h:TabP w b T)(hk:k<T.length)(he:T[k]=some r):
 ∃bs c,w.cell? ⟨b,k*2,none⟩=some (.slice (some ⟨bs,0,none⟩) r.st.length c)∧w.cell? ⟨b,k*2+1,none⟩=some (.int .i64 r.n)∧r.st.length≤c∧IntB w bs r.st∧bs≠b:=by
 obtain⟨arr,h1,_,h3⟩:=h
 have:=h3 k hk
 rw[he]at this
 obtain⟨bs,c,h4,h5,h6,h7⟩:=this
 refine⟨bs,c,?_,?_,h6,h7,?_⟩
 ·rw[cell_of_row _ _ _ _ _ _ h1];exact h4
 ·rw[cell_of_row _ _ _ _ _ _ h1];exact h5
 ·rintro rfl
  obtain⟨_,h8,_⟩:=h7
  rw[h1]at h8
  cases h8
theorem TabP.frozen{w:World}{b k:Nat}{T:List (Option Rt)}(h:TabP w b T):w.frozen? ⟨b,k,none⟩=false:=by
 obtain⟨arr,h1,_⟩:=h
 exact frozen_of_row _ _ _ _ _ h1
theorem Ke.set2{p i j:Nat}(W:World)(v0 v1:Value):Ke p W ((W.setCell ⟨p,i,none⟩ v0).setCell ⟨p,j,none⟩ v1):=
 ⟨by simp,fun b _ hne=>by rw[heap_setCell_other _ _ _ _ hne,heap_setCell_other _ _ _ _ hne]⟩
theorem TabP.set{w:World}{b k bs c:Nat}{T:List (Option Rt)}{r:Rt}(h:TabP w b T)(hk:k<T.length)(hc:r.st.length≤c)(hI:IntB w bs r.st):
 TabP ((w.setCell ⟨b,k*2,none⟩ (.slice (some ⟨bs,0,none⟩) r.st.length c)).setCell ⟨b,k*2+1,none⟩ (.int .i64 r.n)) b (T.set k (some r)):=by
 obtain⟨arr,h1,h2,h3⟩:=h
 have hK:=Ke.set2 (p:=b) (i:=k*2) (j:=k*2+1) w (.slice (some ⟨bs,0,none⟩) r.st.length c) (.int .i64 r.n)
 refine⟨(arr.setIfInBounds (k*2) (.slice (some ⟨bs,0,none⟩) r.st.length c)).setIfInBounds (k*2+1) (.int .i64 r.n),heap_setCell_same _ _ _ _ _ _ (heap_setCell_same _ _ _ _ _ _ h1),by simpa using h2,fun j hj=>?_⟩
 rw[List.length_set]at hj
 by_cases e:k=j
 ·subst e
  rw[List.getElem_set_self]
  refine⟨bs,c,?_,?_,hc,hI.of (hK.2 bs ?_ ?_)⟩
  ·rw[Array.getElem?_setIfInBounds_ne (by omega),Array.getElem?_setIfInBounds_self];rw[if_pos (by omega)]
  ·rw[Array.getElem?_setIfInBounds_self];rw[if_pos (by simp;omega)]
  ·obtain⟨_,h5,_⟩:=hI;exact blk_lt h5
  ·rintro rfl
   obtain⟨_,h5,_⟩:=hI
   rw[h1]at h5
   cases h5
 ·rw[List.getElem_set_ne e]
  have h4:=(h3 j hj).keep hK h1 (by decide)
  have e0:∀i,i=j*2∨i=j*2+1→((arr.setIfInBounds (k*2) (.slice (some ⟨bs,0,none⟩) r.st.length c)).setIfInBounds (k*2+1) (.int .i64 r.n))[i]? =arr[i]? :=fun i hi=>by
   rw[Array.getElem?_setIfInBounds_ne (by omega),Array.getElem?_setIfInBounds_ne (by omega)]
  cases hT:T[j]with
  |none=>rw[hT]at h4;exact⟨(e0 _ (.inl rfl)).trans h4.1,(e0 _ (.inr rfl)).trans h4.2⟩
  |some x=>
   rw[hT]at h4
   obtain⟨bs',c',h5,h6,h7,h8⟩:=h4
   exact⟨bs',c',(e0 _ (.inl rfl)).trans h5,(e0 _ (.inr rfl)).trans h6,h7,h8⟩
/-! ### What the entries keep -/
structure GRt(m:Nat)(r:Rt):Prop where
 dig:Dig r.st
 pos:0<r.st.length
 len:r.st.length≤m
 n0:0≤r.n
 n1:r.n≤20*m
def GTab(m:Nat)(T:List (Option Rt)):Prop:=∀(c:Nat) (r:Rt),T.getD c none=some r→GRt m r
theorem GRt.mono{m m':Nat}{r:Rt}(h:GRt m r)(hm:m≤m'):GRt m' r:=⟨h.dig,h.pos,by have:=h.len;omega,h.n0,by have:=h.n1;omega⟩
theorem GRt.ext{m:Nat}{r:Rt}{b l:Int}(h:GRt m r)(hb:0≤b∧b<16)(hl:0≤l∧l≤20):GRt (m+1) (ext r (b,l)):=by
 refine⟨fun d hd=>?_,by rw[ext_len];omega,by rw[ext_len];have:=h.len;omega,by rw[ext_n];have:=h.n0;show 0≤r.n+l;omega,by rw[ext_n];have:=h.n1;show r.n+l≤_;omega⟩
 rcases List.mem_append.1 (show d∈r.st++ [b]from hd)with hd|hd
 ·exact h.dig d hd
 ·rw[List.mem_singleton.1 hd];exact hb
theorem GTab.table{g:Grd}{f:Nat}(ho:okG g)(hf:f<g.sta.length)(k:Nat):GTab (k+1) (table (lnk g) g.sta.length f k):=fun c r h=>by
 obtain⟨h1,h2⟩:=table_walk ho h
 have h3:=h1.steps
 exact⟨h1.dig ho.ns ⟨by omega,by omega⟩,by omega,h2,by omega,by omega⟩
theorem lnk_20{g:Grd}(ho:okG g){a b:Int}(h:0<lnk g a b):(0≤b∧b<16)∧0≤lnk g a b∧lnk g a b≤20:=by
 have h1:=lnk_rng ho (a:=a) (b:=b) (by omega)
 have:=ho.ns
 exact⟨⟨h1.1.1,by omega⟩,by omega,h1.2.2.2⟩
theorem GTab.rows{g:Grd}{m n k:Nat}{T:List (Option Rt)}(ho:okG g)(h:GTab m T):GTab (m+1) (rowsT (lnk g) n k T):=fun c r hr=>by
 rcases rows_from hr with h1|⟨a,_,hl,ra,h2,rfl⟩
 ·exact(h c r h1).mono (by omega)
 ·obtain⟨h3,h4⟩:=lnk_20 ho hl
  exact(h a ra h2).ext h3 h4
theorem GTab.row{g:Grd}{m n a:Nat}{T N:List (Option Rt)}(ho:okG g)(h:GTab m T)(hN:GTab (m+1) N):GTab (m+1) (relaxRow (lnk g) T n N a):=fun c r hr=>by
 rcases row_from hr with h1|⟨hl,ra,h2,rfl⟩
 ·exact hN c r h1
 ·obtain⟨h3,h4⟩:=lnk_20 ho hl
  exact(h a ra h2).ext h3 h4
theorem relax_no{lk:Int→Int→Int}{out nx:List (Option Rt)}{a b:Nat}(h:¬0<lk a b):relax lk out a nx b=nx:=by unfold relax;rw[if_neg h]
theorem relax_none{lk:Int→Int→Int}{out nx:List (Option Rt)}{a b:Nat}(h:out.getD a none=none):relax lk out a nx b=nx:=by
 unfold relax;split
 ·rw[h]
 ·rfl
theorem relax_some{lk:Int→Int→Int}{out nx:List (Option Rt)}{a b:Nat}{r:Rt}(h:0<lk a b)(hr:out.getD a none=some r):relax lk out a nx b=if better (ext r (b,lk a b)) (nx.getD b none)then nx.set b (some (ext r (b,lk a b)))else nx:=by
 unfold relax;rw[if_pos h,hr]
end Go.Proofs.YtehnikhicnnnhaaGreatDoor
namespace Go.Proofs.YtehnikhicnnnhaaGreatDoor
open Go.RowKit Go.Shelf
def findZ(n:Nat):Code→Option Code
 |.region k ops b=>if k=n then some (.region k ops b)else none
 |.seq a b=>(findZ n a).or (findZ n b)
 |.block _ c=>findZ n c
 |.cond _ a b=>(findZ n a).or (findZ n b)
 |.scope c=>findZ n c
 |.loop c=>findZ n c
 |_=>none
def updS(s:Nat→Value)(i:Nat)(v:Value):Nat→Value:=fun j=>if j=i then v else s j
structure RC(X:World)(C:Nat→Value)(sp:Nat→Bool)(L:Nat→Bool)(s:Nat→Value)(w:World):Prop where
 low:Below X.heap.size X w
 k:∀i,sp i=true→L i=true→s i=C i
section
variable {X w w2:World} {C:Nat→Value} {sp L:Nat→Bool} {s:Nat→Value}
theorem RC.const(h:RC X C sp L s w)(i:Nat){v:Value}(hv:v=C i):RC X C sp (updL L i) (updS s i v) w:=by
 subst hv
 refine⟨h.low,fun j hj hL=>?_⟩
 unfold updS
 by_cases e:j=i
 ·subst e;rw[if_pos rfl]
 ·rw[if_neg e];unfold updL at hL;rw[if_neg e]at hL;exact h.k j hj hL
theorem RC.world(h:RC X C sp L s w)(hb:Below w.heap.size w w2):RC X C sp L s w2:=⟨h.low.trans (hb.mono h.low.size),h.k⟩
theorem RC.skip(h:RC X C sp L s w)(i:Nat)(v:Value)(hi:sp i=false):RC X C sp (updL L i) (updS s i v) w:=by
 refine⟨h.low,fun j hj hL=>?_⟩
 have e:j≠i:=fun e=>by rw[e,hi]at hj;cases hj
 unfold updL at hL;rw[if_neg e]at hL
 unfold updS;rw[if_neg e]
 exact h.k j hj hL
end
end Go.Proofs.YtehnikhicnnnhaaGreatDoor
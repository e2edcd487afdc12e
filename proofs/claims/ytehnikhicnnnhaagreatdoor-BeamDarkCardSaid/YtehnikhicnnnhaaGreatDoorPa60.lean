/- Small helpers: blocks that stay, boxes, lists in later worlds. | Steps, one after the other. | Rounds of orders in plain words. -/
import Derived.Test.YtehnikhicnnnhaaGreatDoorPa12
import Derived.Test.YtehnikhicnnnhaaGreatDoorPa58
namespace Go.Proofs.YtehnikhicnnnhaaGreatDoor
open Go.RowKit
theorem flatten_at{sz:Nat}:∀{l:List (List Value)},(∀x∈l,x.length=sz)→∀k (hk:k<l.length) (j:Nat) (v:Value),l[k][j]? =some v→l.flatten[k*sz+j]? =some v
 |x::l,h,0,_,j,v,hv=>by
  have hv:x[j]? =some v:=hv
  have hj:=(List.getElem?_eq_some_iff.1 hv).1
  rw[List.flatten_cons,Nat.zero_mul,Nat.zero_add,List.getElem?_append_left hj]
  exact hv
 |x::l,h,k+1,hk,j,v,hv=>by
  have hx:=h x (by simp)
  rw[List.flatten_cons,List.getElem?_append_right (by rw[hx,Nat.succ_mul];omega),hx,Nat.succ_mul,show k*sz+sz+j-sz=k*sz+j by omega]
  exact flatten_at (fun y hy=>h y (by simp[hy])) k (by simpa using hk) j v hv
def Ke(p:Nat)(U W:World):Prop:=U.heap.size≤W.heap.size∧∀b,b<U.heap.size→b≠p→W.heap[b]? =U.heap[b]?
theorem Ke.refl(p:Nat)(U:World):Ke p U U:=⟨Nat.le_refl _,fun _ _ _=>rfl⟩
theorem Ke.rw_{p B sz:Nat}{U W:World}{A:Option Addr}{l:List (List Value)}(h:Rw U B sz A l)(hk:Ke p U W)(hB:B≤U.heap.size)(hp:∀a,A=some a→a.block≠p):Rw W B sz A l:=fun hn=>by
 obtain⟨b,off,e,hb,hc⟩:=h hn
 refine⟨b,off,e,hb,fun k hk' j v hv=>?_⟩
 have h1:=hk.2 b (Nat.lt_of_lt_of_le hb hB) (hp _ e)
 rw[←hc k hk' j v hv]
 unfold World.cell?
 simp only[h1]
theorem gr_block{w w':World}{row:Option Nat}{k:Nat}(h:w.grownBy w' row)(hk:k<w.heap.size)(hne:row≠some k):w'.heap[k]? =w.heap[k]? :=by
 first|exact h.block k hk hne|exact h.block k hk (Ne.symm hne)|exact h.block k hk (fun e=>hne e.symm)
theorem own_form{w:World}{base n sz:Nat}{T:TypeId}{v:Value}{l:List Value}(h:w.ownsRow base T sz v n l):∃A c,v=.slice A n c:=by
 rcases h.2 with ⟨hv,h0⟩|⟨g,cap,cur,hv,_⟩
 ·exact⟨none,0,by rw[hv,h0]⟩
 ·exact⟨_,_,hv⟩
theorem own_rw{w:World}{base n sz:Nat}{T:TypeId}{v:Value}{l:List (List Value)}(h:w.ownsRow base T sz v n l.flatten)(hn:l.length=n)(hl:∀x∈l,x.length=sz):
 ∃A c,v=.slice A n c∧n≤c∧Rw w w.heap.size sz A l∧∀a,A=some a→base≤a.block:=by
 rcases h.2 with ⟨hv,h0⟩|⟨g,cap,cur,hv,hb,hg,hc,_⟩
 ·exact⟨none,0,by rw[hv,h0],by omega,fun hne=>absurd (List.eq_nil_of_length_eq_zero (by omega)) hne,fun a ha=>by cases ha⟩
 ·subst hv
  have hlt:g<w.heap.size:=(Array.getElem?_eq_some_iff.1 hg).1
  refine⟨some ⟨g,0,none⟩,cap,rfl,hc,fun _=>⟨g,0,rfl,hlt,fun k hk j u hj=>?_⟩,fun a ha=>by cases ha;exact hb⟩
  have:=h.cells (g:=g) rfl (k*sz+j) u (flatten_at hl k hk j u hj)
  rw[add0]at this
  simpa using this
theorem Ke.set4{p:Nat}(W:World)(v0 v1 v2 v3:Value):Ke p W ((((W.setCell ⟨p,0,none⟩ v0).setCell ⟨p,1,none⟩ v1).setCell ⟨p,2,none⟩ v2).setCell ⟨p,3,none⟩ v3):=
 ⟨by simp,fun b _ hne=>by
   rw[heap_setCell_other _ _ _ _ hne,heap_setCell_other _ _ _ _ hne,heap_setCell_other _ _ _ _ hne,heap_setCell_other _ _ _ _ hne]⟩
theorem Ke.trans{p:Nat}{U V W:World}(h:Ke p U V)(k:Ke p V W):Ke p U W:=⟨Nat.le_trans h.1 k.1,fun b hb hne=>(k.2 b (Nat.lt_of_lt_of_le hb h.1) hne).trans (h.2 b hb hne)⟩
theorem blk_lt{U:World}{b:Nat}{c:Obj}(h:U.heap[b]? =some c):b<U.heap.size:=(Array.getElem?_eq_some_iff.1 h).1
theorem blk_step{U W:World}{b:Nat}{c:Obj}(hb:Below U.heap.size U W)(h:U.heap[b]? =some c):W.heap[b]? =some c:=(hb.block b (blk_lt h)).trans h
theorem blk_alloc{U:World}{b:Nat}{c o:Obj}(h:U.heap[b]? =some c):(U.alloc o).heap[b]? =some c:=(Below.heap_alloc _ _ _ (blk_lt h)).trans h
theorem blk_drew{U:World}{b:Nat}{c:Obj}(h:U.heap[b]? =some c):U.drew.heap[b]? =some c:=h
theorem blk_new{U:World}{b:Nat}{o:Obj}(hb:b=U.heap.size):(U.alloc o).heap[b]? =some o:=by subst hb;exact heap_alloc_new _ _
theorem IntsR.to{w W:World}{A:Option Addr}{l:List Int}(h:IntsR w w.heap.size A l)(hb:Below w.heap.size w W):IntsR W W.heap.size A l:=Rw.more (Rw.belowB (w0:=w) h hb (Nat.le_refl _)) hb.size
theorem StrsR.to{w W:World}{A:Option Addr}{l:List ByteArray}(h:StrsR w w.heap.size A l)(hb:Below w.heap.size w W):StrsR W W.heap.size A l:=Rw.more (Rw.belowB (w0:=w) h hb (Nat.le_refl _)) hb.size
theorem GridR.to{w W:World}{a:GA}{g:Grd}(h:GridR w w.heap.size a g)(hb:Below w.heap.size w W):GridR W W.heap.size a g:=(h.belowB (w0:=w) hb (Nat.le_refl _)).more hb.size
theorem FldR.to{w W:World}{A:Option Addr}{c:Nat}{xs:List MA}(h:FldR w w.heap.size A c xs)(hb:Below w.heap.size w W):FldR W W.heap.size A c xs:=(h.belowB (w0:=w) hb (Nat.le_refl _)).more hb.size
theorem KindsAt.to{w W:World}(h:KindsAt w)(hb:Below w.heap.size w W):KindsAt W:=h.belowB (w0:=w) hb h.lt
theorem heap4_0(w:World)(x y z u:Obj):((((w.alloc x).alloc y).alloc z).alloc u).heap[w.heap.size]? =some x:=
 (Below.heap_alloc _ _ _ (by simp)).trans ((Below.heap_alloc _ _ _ (by simp)).trans ((Below.heap_alloc _ _ _ (by simp)).trans (heap_alloc_new w _)))
theorem heap4_1(w:World)(x y z u:Obj):((((w.alloc x).alloc y).alloc z).alloc u).heap[w.heap.size+1]? =some y:=by
 refine(Below.heap_alloc _ _ _ (by simp)).trans ((Below.heap_alloc _ _ _ (by simp)).trans ?_)
 have:=heap_alloc_new (w.alloc x) y
 rwa [World.size_alloc]at this
theorem heap4_2(w:World)(x y z u:Obj):((((w.alloc x).alloc y).alloc z).alloc u).heap[w.heap.size+1+1]? =some z:=by
 refine(Below.heap_alloc _ _ _ (by simp)).trans ?_
 have:=heap_alloc_new ((w.alloc x).alloc y) z
 rwa [World.size_alloc,World.size_alloc]at this
theorem heap4_3(w:World)(x y z u:Obj):((((w.alloc x).alloc y).alloc z).alloc u).heap[w.heap.size+1+1+1]? =some u:=by
 have:=heap_alloc_new (((w.alloc x).alloc y).alloc z) u
 rwa [World.size_alloc,World.size_alloc,World.size_alloc]at this
theorem Below.set3{B:Nat}{a w:World}(h:Below B a w){b:Nat}(hb:B≤b)(v0 v1 v2:Value):Below B a (((w.setCell ⟨b,0,none⟩ v0).setCell ⟨b,1,none⟩ v1).setCell ⟨b,2,none⟩ v2):=
 Below.setCell (Below.setCell (Below.setCell h (p:=⟨b,0,none⟩) hb _) (p:=⟨b,1,none⟩) hb _) (p:=⟨b,2,none⟩) hb _
theorem small_map{xs ys:List MA}(h:SmallF xs)(he:ys.map MA.m=xs.map MA.m):SmallF ys:=by
 have hm:∀y∈ys,∃x∈xs,x.m=y.m:=fun y hy=>by
  have h1:y.m∈xs.map MA.m:=by rw[←he];exact List.mem_map_of_mem hy
  obtain⟨x,hx,e⟩:=List.mem_map.1 h1
  exact⟨x,hx,e⟩
 refine⟨by have:=congrArg List.length he;simp at this;have:=h.n;omega,fun y hy=>?_,fun y hy=>?_,fun y hy=>?_⟩<;>(obtain⟨x,hx,e⟩:=hm y hy;rw[←e])
 ·exact h.name x hx
 ·exact h.sec x hx
 ·exact h.way x hx
end Go.Proofs.YtehnikhicnnnhaaGreatDoor
namespace Go.Proofs.YtehnikhicnnnhaaGreatDoor
def stepN(g:Grd)(f:Fld):Nat→Fld
 |0=>f
 |k+1=>stepG g (stepN g f k)
theorem stepN_ok{g:Grd}{f:Fld}(ho:okG g)(hu:Uniq g.mov)(h:okFld g f):∀k:Nat,f.tick+k≤20000000→okFld g (stepN g f k)∧(stepN g f k).tick=f.tick+k∧(stepN g f k).lease=f.lease
 |0,_=>⟨h,by simp[stepN],rfl⟩
 |k+1,hk=>by
  have ih:=stepN_ok ho hu h k (by omega)
  refine⟨step_ok ho hu ih.1 (by rw[ih.2.1];omega),?_,ih.2.2⟩
  show(stepN g f k).tick+1=_
  rw[ih.2.1]
  omega
def rndG(g:Grd)(f:Fld)(os:List Ord):Fld:=os.foldl (heardG g) f
def runG(g:Grd)(f:Fld)(rs:List (List Ord)):Fld:=rs.foldl (fun f os=>stepG g (rndG g f os)) f
theorem heard_tick(g:Grd)(f:Fld)(o:Ord):(heardG g f o).tick=f.tick∧(heardG g f o).lease=f.lease:=by
 unfold heardG;split<;>exact⟨rfl,rfl⟩
theorem rnd_ok{g:Grd}(ho:okG g)(hu:Uniq g.mov):∀(os:List Ord) {f:Fld},okFld g f→okFld g (rndG g f os)
 | [],_,h=>h
 |_::os,_,h=>rnd_ok ho hu os (heard_ok ho hu h)
theorem rnd_tick(g:Grd):∀(os:List Ord) (f:Fld),(rndG g f os).tick=f.tick∧(rndG g f os).lease=f.lease
 | [],f=>⟨rfl,rfl⟩
 |o::os,f=>by
  have h:=rnd_tick g os (heardG g f o)
  have k:=heard_tick g f o
  exact⟨h.1.trans k.1,h.2.trans k.2⟩
theorem run_ok{g:Grd}(ho:okG g)(hu:Uniq g.mov):∀(rs:List (List Ord)) {f:Fld},okFld g f→f.tick+rs.length≤20000000→okFld g (runG g f rs)∧(runG g f rs).tick=f.tick+rs.length
 | [],f,h,_=>⟨h,by simp[runG]⟩
 |r::rs,f,h,ht=>by
  have h1:=rnd_ok ho hu r h
  have h2:=(rnd_tick g r f).1
  simp only[List.length_cons]at ht
  have h3:=step_ok ho hu h1 (by rw[h2];omega)
  have h4:=run_ok ho hu rs h3 (by show(rndG g f r).tick+1+(rs.length:Int)≤_;rw[h2];omega)
  refine⟨h4.1,h4.2.trans ?_⟩
  show(rndG g f r).tick+1+(rs.length:Int)=_
  rw[h2,List.length_cons]
  omega
theorem run_snoc(g:Grd)(f:Fld)(rs:List (List Ord))(r:List Ord):runG g f (rs++ [r])=stepG g (rndG g (runG g f rs) r):=by unfold runG;rw[List.foldl_append];rfl
theorem rnd_snoc(g:Grd)(f:Fld)(os:List Ord)(o:Ord):rndG g f (os++ [o])=heardG g (rndG g f os) o:=by unfold rndG;rw[List.foldl_append];rfl
end Go.Proofs.YtehnikhicnnnhaaGreatDoor
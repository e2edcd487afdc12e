/- BeamLeast in plain words: ways and barriers between two safe stations of a valid grid; the grid without its first zone. | The program's ways and barriers between safe stations of a valid grid, each with its plain answer. | The law's few: a grid is valid and small. -/
import Derived.Test.YtehnikhicnnnhaaGreatDoorProg
import Derived.Test.YtehnikhicnnnhaaGreatDoorPa11
import Derived.Test.YtehnikhicnnnhaaGreatDoorPa33
import Derived.Test.YtehnikhicnnnhaaGreatDoorPa60
import Derived.Test.YtehnikhicnnnhaaGreatDoorPa61
import Derived.Laws.CopyOwn
import Derived.Laws.EntriesVeiled
import Derived.Lib.AppendIntMem
import Derived.Lib.ItoaLen
import Derived.Shelf.Slices.Clone
import Derived.Shelf.Slices.SearchI
import Derived.Shelf.Slices.Turned
import Derived.Shelf.SlicesE.Clone
import Derived.Shelf.Small.Strs
import Derived.Shelf.Small.Wraps
import Derived.Shelf.Strconv.Itoa3
import Derived.Shelf.Strings.BuilderCap
import Derived.Shelf.Strings.Explode
import Derived.Shelf.Strings.OnBuilder
import Derived.Shelf.Strings.Shaped
import Derived.Shelf.Strings.SplitShaped
import Derived.Shelf.Unicode.DecodeAny
import Derived.Shelf.Utf8.RuneCount
namespace Go.Proofs.YtehnikhicnnnhaaGreatDoor
theorem firstErr_all{l:List Int}(h:∀x∈l,x=0):firstErr l=0:=by
 induction l with
 |nil=>rfl
 |cons a l ih=>unfold firstErr;rw[if_pos (h a (by simp))];exact ih (fun x hx=>h x (by simp[hx]))
structure SafeAt(g:Grd)(f:Int):Prop where
 rng:0≤f∧f<g.sta.length
 safe:isSafeG g f=true
theorem SafeAt.code{g:Grd}{f:Int}(h:SafeAt g f):staC g f=0:=by
 unfold Go.Proofs.YtehnikhicnnnhaaGreatDoor.staC
 rw[if_pos (hasB_iff.2 h.rng),h.safe];rfl
theorem fromC_ok{g:Grd}{l:List Int}(hz:gridC g=0)(h:∀x∈l,SafeAt g x):fromC g l=0:=by
 unfold fromC
 rw[if_neg (fun c=>c hz)]
 refine firstErr_all fun x hx=>?_
 obtain⟨y,hy,rfl⟩:=List.mem_map.1 hx
 exact(h y hy).code
theorem Wk.safeAt{g:Grd}{f b:Int}{r:Rt}(hf:SafeAt g f)(h:Wk g f b r):SafeAt g b:=by
 cases h with
 |nil=>exact hf
 |snoc x h1 hx=>exact⟨x.2.1,(nb_safe hx).2⟩
theorem mem_reach{g:Grd}{f k:Int}(ho:okG g)(hu:Uniq g.mov)(hf:SafeAt g f):k∈reachG g f↔∃r,Wk g f k r:=by
 unfold reachG
 constructor
 ·intro h
  obtain⟨i,hi,rfl⟩:=List.mem_map.1 h
  have h2:=(List.mem_filter.1 hi).2
  obtain⟨r,hr⟩:=Option.isSome_iff_exists.1 h2
  exact⟨r,((wayG_some ho hu hf.rng).1 hr).1⟩
 ·rintro⟨r,hr⟩
  have h1:=(hr.rng hf.rng).1
  obtain⟨i,rfl⟩:=Int.eq_ofNat_of_zero_le h1.1
  obtain⟨r',h2,_⟩:=wayG_walk ho hu hf.rng hr
  exact List.mem_map.2 ⟨i,List.mem_filter.2 ⟨List.mem_range.2 (by omega),by rw[h2];rfl⟩,rfl⟩
theorem way_reach{g:Grd}{f t:Int}(ho:okG g)(hu:Uniq g.mov)(hf:SafeAt g f):(wayG g f t).isSome=(reachG g f).any (t== ·):=by
 rw[Bool.eq_iff_iff]
 constructor
 ·intro h
  obtain⟨r,hr⟩:=Option.isSome_iff_exists.1 h
  exact List.any_eq_true.2 ⟨t,(mem_reach ho hu hf).2 ⟨r,((wayG_some ho hu hf.rng).1 hr).1⟩,by simp⟩
 ·intro h
  obtain⟨k,hk,e⟩:=List.any_eq_true.1 h
  rw[beq_iff_eq]at e
  subst e
  obtain⟨r,hr⟩:=(mem_reach ho hu hf).1 hk
  obtain⟨r',h2,_⟩:=wayG_walk ho hu hf.rng hr
  rw[h2];rfl
theorem reach_at{g:Grd}{f k:Int}(ho:okG g)(hu:Uniq g.mov)(hf:SafeAt g f)(hk:k∈reachG g f):SafeAt g k:=by
 obtain⟨r,hr⟩:=(mem_reach ho hu hf).1 hk
 exact hr.safeAt hf
theorem reach_eq{g:Grd}{f k:Int}(ho:okG g)(hu:Uniq g.mov)(hf:SafeAt g f)(hk:k∈reachG g f):reachG g k=reachG g f:=by
 obtain⟨r,hr⟩:=(mem_reach ho hu hf).1 hk
 have hs:=hr.safeAt hf
 obtain⟨r1,hr1,_⟩:=hr.back ho hu
 unfold reachG
 congr 1
 refine List.filter_congr fun i _=>?_
 rw[way_reach ho hu hs,way_reach ho hu hf,Bool.eq_iff_iff,List.any_eq_true,List.any_eq_true]
 have key:∀j:Int,j∈reachG g k↔j∈reachG g f:=fun j=>by
  rw[mem_reach ho hu hs,mem_reach ho hu hf]
  constructor
  ·rintro⟨a,ha⟩
   obtain⟨t,ht,_⟩:=hr.trans ha
   exact⟨t,ht⟩
  ·rintro⟨a,ha⟩
   obtain⟨t,ht,_⟩:=hr1.trans ha
   exact⟨t,ht⟩
 constructor
 ·rintro⟨x,h1,h2⟩;exact⟨x,(key x).1 h1,h2⟩
 ·rintro⟨x,h1,h2⟩;exact⟨x,(key x).2 h1,h2⟩
theorem way_eq{g:Grd}{f t:Int}(hz:gridC g=0)(hf:SafeAt g f)(ht:SafeAt g t):wayE g f t=if(wayG g f t).isSome then 0 else 7:=by
 unfold wayE
 rw[if_neg (fun c=>c (fromC_ok hz (by simp;exact⟨hf,ht⟩)))]
theorem bar_eq{g:Grd}{f t:Int}(hz:gridC g=0)(hf:SafeAt g f)(ht:SafeAt g t):barE g f t=if(wayG g f t).isSome then 21 else 0:=by
 unfold barE
 rw[if_neg (fun c=>c (fromC_ok hz (by simp;exact⟨hf,ht⟩))),way_reach (gridC_ok hz) (gridC_uniq hz) hf]
/-! ### The steps of a way,there and back -/
theorem sumW_snoc{g:Grd}{c:Int}:∀{l:List Int} {a n:Int},sumW g a l=some n→lnk g (l.getLastD a) c≠0→sumW g a (l++ [c])=some (n+lnk g (l.getLastD a) c)
 | [],a,n,h,h2=>by
   unfold sumW at h
   cases h
   rw[List.nil_append]
   simp only[List.getLastD_nil]at h2 ⊢
   unfold sumW
   rw[if_neg h2]
   unfold sumW
   simp
 |d::l,a,n,h,h2=>by
  unfold sumW at h
  split at h
  ·cases h
  ·rename_i h3
   obtain⟨m,hm,rfl⟩:=Option.map_eq_some_iff.1 h
   rw[List.getLastD_cons]at h2 ⊢
   rw[List.cons_append]
   unfold sumW
   rw[if_neg h3,sumW_snoc hm h2,Option.map_some]
   congr 1
   omega
theorem Wk.sum{g:Grd}{f b:Int}{r:Rt}(hu:Uniq g.mov)(ho:okG g)(h:Wk g f b r):∃l,r.st=f::l∧l.getLastD f=b∧sumW g f l=some r.n:=by
 induction h with
 |nil=>exact⟨[],rfl,rfl,rfl⟩
 |snoc x _ hx ih=>
  obtain⟨l,h1,h2,h3⟩:=ih
  have h4:=nb_lnk hu ho hx
  have h5:=x.2.2.1
  refine⟨l++ [x.1.1],by simp[ext,h1],by simp,?_⟩
  rw[sumW_snoc h3 (by rw[h2,h4];omega),h2,h4,ext_n]
theorem way_steps{g:Grd}{f t:Int}{r:Rt}(hz:gridC g=0)(hf:SafeAt g f)(h:wayG g f t=some r):
 stepsR g r.st=(r.n,0)∧1≤r.st.length∧r.st.length≤16∧r.st[0]? =some f∧r.st[r.st.length-1]? =some t∧0≤r.n∧r.n≤320:=by
 have ho:=gridC_ok hz
 have hu:=gridC_uniq hz
 have hw:=((wayG_some ho hu hf.rng).1 h).1
 have hl:=wayG_small ho hu hf.rng h
 have hns:=ho.ns
 have hst:=hw.steps
 obtain⟨l,h1,h2,h3⟩:=hw.sum hu ho
 have hr:=(hw.rng hf.rng).2
 refine⟨?_,hst.2.2,by omega,by rw[h1];rfl,?_,by omega,by omega⟩
 ·unfold stepsR
  have h4:stepsE0 g r.st=0:=by
   unfold stepsE0
   refine firstErr_all fun x hx=>?_
   simp only[List.mem_cons,List.not_mem_nil,or_false]at hx
   rcases hx with rfl|rfl|rfl
   ·exact hz
   ·rw[show((r.st.length:Int)==0)=false by rw[beq_eq_false_iff_ne];omega];rfl
   ·rw[decide_eq_false (by omega)];rfl
  have h5:r.st.any (fun x=> !hasB g x)=false:=List.any_eq_false.2 fun x hx=>by
   rw[hasB_iff.2 (hr x hx)];simp
  rw[if_neg (fun c=>c h4),h5,if_neg (by simp),h1,show(f::l).headD 0=f from rfl,show(f::l).tail=l from rfl,if_pos hf.safe,h3]
 ·rw[←List.getLast?_eq_getElem?];exact hw.last.2
theorem way_back{g:Grd}{f t:Int}{r:Rt}(ho:okG g)(hu:Uniq g.mov)(hf:SafeAt g f)(h:wayG g f t=some r):∃r',wayG g t f=some r'∧r'.n=r.n:=by
 have hw:=(wayG_some ho hu hf.rng).1 h
 have ht:=hw.1.safeAt hf
 obtain⟨b,hb,hn⟩:=hw.1.back ho hu
 obtain⟨r',h1,h2⟩:=wayG_walk ho hu ht.rng hb
 refine⟨r',h1,?_⟩
 obtain⟨b',hb',hn'⟩:=((wayG_some ho hu ht.rng).1 h1).1.back ho hu
 have h3:=hw.2 _ hb'
 unfold rle rlt at h2 h3
 omega
theorem way_over{g:Grd}{f t k:Int}{r:Rt}(ho:okG g)(hu:Uniq g.mov)(hf:SafeAt g f)(h:wayG g f t=some r)(hk:k∈reachG g f):
 ∃r1 r2,wayG g f k=some r1∧wayG g k t=some r2∧r.n≤r1.n+r2.n:=by
 have hw:=(wayG_some ho hu hf.rng).1 h
 have hs:=reach_at ho hu hf hk
 obtain⟨a,ha⟩:=(mem_reach ho hu hf).1 hk
 obtain⟨r1,h1,_⟩:=wayG_walk ho hu hf.rng ha
 have hw1:=(wayG_some ho hu hf.rng).1 h1
 obtain⟨b,hb,_⟩:=ha.back ho hu
 obtain⟨c,hc,_⟩:=hb.trans hw.1
 obtain⟨r2,h2,_⟩:=wayG_walk ho hu hs.rng hc
 have hw2:=(wayG_some ho hu hs.rng).1 h2
 obtain⟨s,hs1,hs2⟩:=hw1.1.trans hw2.1
 refine⟨r1,r2,h1,h2,?_⟩
 have h3:=hw.2 _ hs1
 unfold rle rlt at h3
 omega
/-! ### What is reached is a barrier to what is not -/
theorem chkO_of:∀{l:List Int},l.Pairwise (· < ·)→chkO l=true
 | [],_=>rfl
 | [_],_=>rfl
 |x::y::l,h=>by
  rw[chkO_cons,if_neg (by have:=(List.pairwise_cons.1 h).1 y (by simp);omega)]
  exact chkO_of (List.pairwise_cons.1 h).2
theorem reach_up(g:Grd)(f:Int):(reachG g f).Pairwise (· < ·):=by
 unfold reachG
 rw[List.pairwise_map]
 refine(List.Pairwise.filter _ List.pairwise_lt_range).imp fun h=>?_
 exact Int.ofNat_lt.2 h
theorem reach_bar{g:Grd}{f t:Int}(hz:gridC g=0)(hf:SafeAt g f)(ht:SafeAt g t)(hn:(wayG g f t).isSome=false):cbR g f t (reachG g f)=0:=by
 have ho:=gridC_ok hz
 have hu:=gridC_uniq hz
 have hns:=ho.ns
 have hl:=reachG_len g f
 unfold cbR
 have h0:barE0 g f t (reachG g f)=0:=by
  unfold barE0
  rw[fromC_ok hz (by simp;exact⟨hf,ht⟩),decide_eq_false (by omega)]
  rfl
 have h1:(reachG g f).any (fun x=> !hasB g x)=false:=List.any_eq_false.2 fun x hx=>by
  rw[hasB_iff.2 (reach_at ho hu hf hx).rng];simp
 have h2:(reachG g f).any (f== ·)=true:=List.any_eq_true.2 ⟨f,(mem_reach ho hu hf).2 ⟨_,Wk.nil⟩,by simp⟩
 have h3:(reachG g f).any (t== ·)=false:=by rw[←way_reach ho hu hf];exact hn
 have h4:(reachG g f).all (edgeOk g (reachG g f))=true:=List.all_eq_true.2 fun v hv=>by
  unfold edgeOk
  refine List.all_eq_true.2 fun x hx=>?_
  obtain⟨r,hr⟩:=(mem_reach ho hu hf).1 hv
  exact List.any_eq_true.2 ⟨x.1.1,(mem_reach ho hu hf).2 ⟨_,Wk.snoc x hr hx⟩,by simp⟩
 rw[if_neg (fun c=>c h0),h1,if_neg (by simp),chkO_of (reach_up g f),if_pos rfl,h2,h3,h4]
 rfl
/-! ### Without its first zone -/
def openG(g:Grd):Grd:= {g with zon:=g.zon.tail}
theorem memS_sub{l l':List ByteArray}{s:ByteArray}(h:∀x∈l',x∈l)(hm:memS l s=false):memS l' s=false:=by
 unfold memS at*
 rw[List.any_eq_false]at*
 exact fun x hx=>hm x (h x hx)
theorem chkZ_sub{l:List Zon}:∀{s s':List ByteArray},(∀x∈s',x∈s)→chkZ s l=0→chkZ s' l=0:=by
 induction l with
 |nil=>intro _ _ _ _;rfl
 |cons z l ih=>
  intro s s' hs h
  unfold chkZ at h ⊢
  split at h
  ·rename_i he
   have h1:=firstErr_zero he
   have h2:=memS_sub hs (whn_zero (h1 (whn (memS s z.name) 9) (by simp)) (by decide))
   rw[if_pos]
   ·refine ih (fun x hx=>?_) h
    rcases List.mem_append.1 hx with hx|hx
    ·exact List.mem_append.2 (.inl (hs x hx))
    ·exact List.mem_append.2 (.inr hx)
   ·unfold zonE
    refine firstErr_all fun x hx=>?_
    simp only[List.mem_cons,List.not_mem_nil,or_false]at hx
    rcases hx with rfl|rfl|rfl
    ·exact h1 _ (by simp)
    ·rw[h2];rfl
    ·exact h1 _ (by simp)
  ·rename_i he;exact absurd h he
theorem chkM_open(g:Grd){l:List Mov}:∀{pre:List Mov},chkM (openG g) pre l=chkM g pre l:=by
 induction l with
 |nil=>intro _;rfl
 |cons m l ih=>intro pre;unfold chkM;rw[ih];rfl
theorem openC{g:Grd}(hz:gridC g=0):gridC (openG g)=0:=by
 have h:=firstErr_zero hz
 unfold gridC
 refine firstErr_all fun x hx=>?_
 simp only[List.mem_cons,List.not_mem_nil,or_false]at hx
 rcases hx with rfl|rfl|rfl|rfl
 ·exact h (rng g.blur 0 100) (by simp)
 ·exact h (stasC g.sta) (by simp)
 ·have h1:=h (movesC g) (by simp)
  unfold movesC at h1 ⊢
  rw[show(openG g).mov=g.mov from rfl,chkM_open]
  exact h1
 ·have h1:=h (zonesC g.zon) (by simp)
  unfold zonesC at h1 ⊢
  split at h1
  ·cases h1
  ·rename_i h2
   rw[show(openG g).zon=g.zon.tail from rfl,if_neg (by rw[List.length_tail];omega)]
   cases hc:g.zon with
   |nil=>rfl
   |cons z l=>
    rw[hc]at h1
    unfold chkZ at h1
    split at h1
    ·exact chkZ_sub (fun x hx=>by cases hx) h1
    ·rename_i he;exact absurd h1 he
theorem free_open{g:Grd}{i j:Nat}(h:freeB g i j=true):freeB (openG g) i j=true:=by
 unfold freeB at*
 rw[Bool.not_eq_true']at*
 rw[List.any_eq_false]at*
 exact fun z hz=>h z (List.mem_of_mem_tail hz)
theorem SafeAt.open_{g:Grd}{f:Int}(h:SafeAt g f):SafeAt (openG g) f:=⟨h.rng,free_open h.safe⟩
theorem nb_open{g:Grd}{v:Int}{x:NB g}(h:x∈nbrs g v g.mov):∃y∈nbrs (openG g) v (openG g).mov,y.1=x.1:=by
 obtain⟨m,hm,hn,e⟩:=nb_mov h
 obtain⟨y,h1,h2⟩:=mov_nb (g:=openG g) (v:=v) (m:=m) hm ⟨hn.1,hn.2.1,free_open hn.2.2⟩
 exact⟨y,h1,h2.trans e.symm⟩
theorem Wk.open_{g:Grd}{f b:Int}{r:Rt}(h:Wk g f b r):Wk (openG g) f b r:=by
 induction h with
 |nil=>exact Wk.nil
 |snoc x _ hx ih=>
  obtain⟨y,h1,h2⟩:=nb_open hx
  rw[←h2]
  exact Wk.snoc y ih h1
theorem way_open{g:Grd}{f t:Int}{r:Rt}(hz:gridC g=0)(hf:SafeAt g f)(h:wayG g f t=some r):∃r',wayG (openG g) f t=some r'∧r'.n≤r.n:=by
 have hw:=(wayG_some (gridC_ok hz) (gridC_uniq hz) hf.rng).1 h
 obtain⟨r',h1,h2⟩:=wayG_walk (gridC_ok (openC hz)) (gridC_uniq (openC hz)) hf.open_.rng hw.1.open_
 refine⟨r',h1,?_⟩
 unfold rle rlt at h2
 omega
theorem safeMs_open(g:Grd):(safeMs g g.mov).length≤(safeMs (openG g) g.mov).length∧∀x∈safeMs g g.mov,(safeMs (openG g) g.mov).any (x== ·)=true:=by
 unfold safeMs
 have key:∀i,movFree g (g.mov.getD i default)=true→movFree (openG g) (g.mov.getD i default)=true:=fun i h=>free_open h
 constructor
 ·rw[List.length_map,List.length_map,←List.countP_eq_length_filter,←List.countP_eq_length_filter]
  exact List.countP_mono_left fun i _ h=>key i h
 ·intro x hx
  obtain⟨i,hi,rfl⟩:=List.mem_map.1 hx
  have h:=List.mem_filter.1 hi
  exact List.any_eq_true.2 ⟨_,List.mem_map.2 ⟨i,List.mem_filter.2 ⟨h.1,key i h.2⟩,rfl⟩,by simp⟩
end Go.Proofs.YtehnikhicnnnhaaGreatDoor
namespace Go.Proofs.YtehnikhicnnnhaaGreatDoor
open Go.RowKit
theorem lWay_c(a:GA)(g:Grd)(x y:Int)(r:Rt)(w:World)(hz:gridC g=0)(hs:SmallG g)(hx:SafeAt g x)(hy:SafeAt g y)(h:wayG g x y=some r)(hr:GridR w w.heap.size a g)(hk:KindsAt w):
 Calls Tryz.prog 19 #[(.agg #[.int .i64 g.blur,.slice a.pS g.sta.length a.cs,.slice a.pM g.mov.length a.cm,.slice a.pZ g.zon.length a.cz]),.int .i64 x,.int .i64 y] w fun e w'=>∃A c,e=.returned (.tuple #[.slice A r.st.length c,.int .i64 r.n,.int .i64 0])∧IntsR w' w'.heap.size A r.st∧Below w.heap.size w w':=by
 have he:wayE g x y=0:=by rw[way_eq hz hx hy,h];rfl
 refine(Way_c a g x y w hs hr hk).mono ?_
 rintro e w' ⟨A,c,n,l,rfl,_,h3,h4,hb⟩
 unfold WayR at h4
 rw[if_pos he,h]at h4
 cases h4
 exact⟨A,c,by rw[he],h3,hb⟩
theorem lWayN_c(a:GA)(g:Grd)(x y:Int)(w:World)(hz:gridC g=0)(hs:SmallG g)(hx:SafeAt g x)(hy:SafeAt g y)(h:(wayG g x y).isSome=false)(hr:GridR w w.heap.size a g)(hk:KindsAt w):
 Calls Tryz.prog 19 #[(.agg #[.int .i64 g.blur,.slice a.pS g.sta.length a.cs,.slice a.pM g.mov.length a.cm,.slice a.pZ g.zon.length a.cz]),.int .i64 x,.int .i64 y] w fun e w'=>∃A c,e=.returned (.tuple #[.slice A 0 c,.int .i64 0,.int .i64 7])∧Below w.heap.size w w':=by
 have he:wayE g x y=7:=by rw[way_eq hz hx hy,h];rfl
 refine(Way_c a g x y w hs hr hk).mono ?_
 rintro e w' ⟨A,c,n,l,rfl,_,h3,h4,hb⟩
 unfold WayR at h4
 rw[if_neg (by rw[he];decide)]at h4
 obtain⟨rfl,rfl⟩:=h4
 exact⟨A,c,by rw[he];rfl,hb⟩
theorem lRea_c(a:GA)(g:Grd)(x:Int)(w:World)(hz:gridC g=0)(hs:SmallG g)(hx:SafeAt g x)(hr:GridR w w.heap.size a g)(hk:KindsAt w):
 Calls Tryz.prog 17 #[(.agg #[.int .i64 g.blur,.slice a.pS g.sta.length a.cs,.slice a.pM g.mov.length a.cm,.slice a.pZ g.zon.length a.cz]),.int .i64 x] w fun e w'=>∃A c,e=.returned (.tuple #[.slice A (reachG g x).length c,.int .i64 0])∧IntsR w' w'.heap.size A (reachG g x)∧Below w.heap.size w w':=by
 have he:fromC g [x]=0:=fromC_ok hz (by simp;exact hx)
 refine(Reached_c a g x w hs hr hk).mono ?_
 rintro e w' ⟨v,rfl,ho,hb⟩
 rw[if_pos he]at ho
 obtain⟨A,c,rfl,_,h3⟩:=ho.ints
 exact⟨A,c,by rw[he],h3,hb⟩
theorem lBarN_c(a:GA)(g:Grd)(x y:Int)(w:World)(hz:gridC g=0)(hs:SmallG g)(hx:SafeAt g x)(hy:SafeAt g y)(h:(wayG g x y).isSome=true)(hr:GridR w w.heap.size a g)(hk:KindsAt w):
 Calls Tryz.prog 31 #[(.agg #[.int .i64 g.blur,.slice a.pS g.sta.length a.cs,.slice a.pM g.mov.length a.cm,.slice a.pZ g.zon.length a.cz]),.int .i64 x,.int .i64 y] w fun e w'=>∃A c,e=.returned (.tuple #[.slice A 0 c,.int .i64 21])∧Below w.heap.size w w':=by
 have he:barE g x y=21:=by rw[bar_eq hz hx hy,h];rfl
 refine(Barrier_c a g x y w hs hr hk).mono ?_
 rintro e w' ⟨v,rfl,ho,hb⟩
 unfold barL at ho
 rw[if_neg (by rw[he];decide)]at ho
 obtain⟨A,c,rfl,_,_⟩:=ho.ints
 exact⟨A,c,by rw[he];rfl,hb⟩
theorem lBar_c(a:GA)(g:Grd)(x y:Int)(w:World)(hz:gridC g=0)(hs:SmallG g)(hx:SafeAt g x)(hy:SafeAt g y)(h:(wayG g x y).isSome=false)(hr:GridR w w.heap.size a g)(hk:KindsAt w):
 Calls Tryz.prog 31 #[(.agg #[.int .i64 g.blur,.slice a.pS g.sta.length a.cs,.slice a.pM g.mov.length a.cm,.slice a.pZ g.zon.length a.cz]),.int .i64 x,.int .i64 y] w fun e w'=>∃A c,e=.returned (.tuple #[.slice A (reachG g x).length c,.int .i64 0])∧IntsR w' w'.heap.size A (reachG g x)∧Below w.heap.size w w':=by
 have he:barE g x y=0:=by rw[bar_eq hz hx hy,h];rfl
 refine(Barrier_c a g x y w hs hr hk).mono ?_
 rintro e w' ⟨v,rfl,ho,hb⟩
 unfold barL at ho
 rw[if_pos he]at ho
 obtain⟨A,c,rfl,_,h3⟩:=ho.ints
 exact⟨A,c,by rw[he],h3,hb⟩
theorem lCb_c(a:GA)(g:Grd)(x y:Int)(A:Option Addr)(c:Nat)(w:World)(hz:gridC g=0)(hs:SmallG g)(hx:SafeAt g x)(hy:SafeAt g y)(h:(wayG g x y).isSome=false)(hr:GridR w w.heap.size a g)(hk:KindsAt w)(hi:IntsR w w.heap.size A (reachG g x)):
 Calls Tryz.prog 32 #[(.agg #[.int .i64 g.blur,.slice a.pS g.sta.length a.cs,.slice a.pM g.mov.length a.cm,.slice a.pZ g.zon.length a.cz]),.int .i64 x,.int .i64 y,.slice A (reachG g x).length c] w fun e w'=>e=.returned (.int .i64 0)∧Below w.heap.size w w':=by
 have hl:=reachG_len g x
 have hn:=hs.ns
 refine(CheckBarrier_c a g x y A _ c w hs hr hk hi (by omega)).mono ?_
 rintro e w' ⟨rfl,hb⟩
 exact⟨by rw[reach_bar hz hx hy h],hb⟩
theorem lStp_c(a:GA)(g:Grd)(x y:Int)(r:Rt)(A:Option Addr)(c:Nat)(w:World)(hz:gridC g=0)(hs:SmallG g)(hx:SafeAt g x)(h:wayG g x y=some r)(hr:GridR w w.heap.size a g)(hk:KindsAt w)(hi:IntsR w w.heap.size A r.st):
 Calls Tryz.prog 29 #[(.agg #[.int .i64 g.blur,.slice a.pS g.sta.length a.cs,.slice a.pM g.mov.length a.cm,.slice a.pZ g.zon.length a.cz]),.slice A r.st.length c] w fun e w'=>e=.returned (.tuple #[.int .i64 r.n,.int .i64 0])∧Below w.heap.size w w':=by
 have h1:=way_steps hz hx h
 refine(Steps_c a g A r.st c w hs hr hk hi (by have:=h1.2.2.1;omega)).mono ?_
 rintro e w' ⟨rfl,hb⟩
 exact⟨by rw[h1.1],hb⟩
theorem lSm_c(a:GA)(g:Grd)(w:World)(hz:gridC g=0)(hs:SmallG g)(hr:GridR w w.heap.size a g)(hk:KindsAt w):
 Calls Tryz.prog 57 #[(.agg #[.int .i64 g.blur,.slice a.pS g.sta.length a.cs,.slice a.pM g.mov.length a.cm,.slice a.pZ g.zon.length a.cz])] w fun e w'=>∃A c,e=.returned (.tuple #[.slice A (safeMs g g.mov).length c,.int .i64 0])∧IntsR w' w'.heap.size A (safeMs g g.mov)∧Below w.heap.size w w':=by
 refine(SafeMoves_c a.pS a.pM a.pZ a.cs a.cm a.cz g w hs hr hk).mono ?_
 rintro e w' ⟨v,rfl,hb,ho⟩
 rw[if_pos hz]at ho
 obtain⟨A,c,rfl,_,h3⟩:=ho.ints
 exact⟨A,c,by rw[hz],h3,hb⟩
theorem GridR.open_{w:World}{B:Nat}{a:GA}{g:Grd}(h:GridR w B a g){b off:Nat}(hz:a.pZ=some ⟨b,off,none⟩)(hn:0<g.zon.length):GridR w B {a with pZ:=some ⟨b,off+4,none⟩,cz:=a.cz-1} (openG g):=by
 refine⟨h.sta,h.mov,?_,h.capS,h.capM,?_⟩
 ·cases hc:g.zon with
  |nil=>rw[hc]at hn;simp at hn
  |cons z l=>
   show Rw w B 4 (some ⟨b,off+4,none⟩) ((openG g).zon.map encZ)
   rw[show(openG g).zon=g.zon.tail from rfl,hc]
   have h1:=h.zon
   rw[hc,hz]at h1
   intro _
   obtain⟨b',off',e,hb,hcl⟩:=h1 (by simp)
   cases e
   refine⟨b,off+4,rfl,hb,fun k hk j v hv=>?_⟩
   have:=hcl (k+1) (by simp at hk ⊢;omega) j v (by simpa using hv)
   rw[show off+(k+1)*4+j=off+4+k*4+j by omega]at this
   exact this
 ·have:=h.capZ
  show g.zon.tail.length≤a.cz-1
  rw[List.length_tail];omega
theorem openS{g:Grd}(h:SmallG g):SmallG (openG g):=⟨h.ns,h.nm,by have:=h.nz;show g.zon.tail.length≤1000;rw[List.length_tail];omega,h.names,fun z hz=>h.namez z (List.mem_of_mem_tail hz)⟩
def fewG(g:Grd):Bool:=shortG g&&(decide ((g.sta.length:Int)≤8)&&(decide ((g.mov.length:Int)≤14)&&(decide ((g.zon.length:Int)≤4)&&(gridC g==0))))
set_option maxRecDepth 100000 in
set_option maxHeartbeats 4000000 in
theorem few_c(a:GA)(g:Grd)(w:World)(hr:GridR w w.heap.size a g):
 Calls Tryz.prog 54 #[(.agg #[.int .i64 g.blur,.slice a.pS g.sta.length a.cs,.slice a.pM g.mov.length a.cm,.slice a.pZ g.zon.length a.cz])] w fun e w'=>e=.returned (.bool (fewG g))∧Below w.heap.size w w':=by
 obtain⟨W0,hW0⟩:∃W0,W0=w.alloc (.cells #[.int .i64 g.blur,.slice a.pS g.sta.length a.cs,.slice a.pM g.mov.length a.cm,.slice a.pZ g.zon.length a.cz] 26):=⟨_,rfl⟩
 have hsz:W0.heap.size=w.heap.size+1:=by rw[hW0];simp
 have k0:W0.heap[w.heap.size]? =some (.cells #[.int .i64 g.blur,.slice a.pS g.sta.length a.cs,.slice a.pM g.mov.length a.cm,.slice a.pZ g.zon.length a.cz] 26 (0,0)):=by rw[hW0];exact heap_alloc_new w _
 have hB0:Below w.heap.size w W0:=by rw[hW0];(repeat first|(with_reducible first|assumption|exact Below.refl _ _|refine Bl.drew ?_|refine Bl.drewN ?_ _|refine Bl.alloc ?_ _|refine Bl.set ?_ _ ?_)|(with_reducible apply Bl.step';(focus(with_reducible assumption)))|omega|(focus(simp;done))|(focus(simp;omega)))
 have HG:Hid (GridR W0 W0.heap.size a g):=zh (hr.to hB0)
 have HB0:=zh hB0
 have z0:=bk_lt k0
 clear hr hB0
 (obtain⟨d0,d1,d2,d3⟩:=cg4 k0)
 clear k0
 have hSH:=fun W (h:GridR W W.heap.size a g)=>rShort_c a g W h
 cases hsh:shortG g
 ·have HF:=zh (show fewG g=false by unfold fewG;rw[hsh];rfl)
  rw[hsh]at hSH
  have HSH:=zh hSH
  clear hSH hsh
  go_enter Tryz.func54,Tryz.ntmps54
  go_upto_region 1 with fail
  rw[←hW0]
  clear hW0
  go_wp2_with (first|(go_at_call 15;(with_reducible refine Calls.mono (HSH.out _ (HG.out.to (by exact zbl))) ?_);rintro e wA ⟨rfl,hbA⟩;(have hq_wA:Below W0.heap.size W0 wA:=by exact zbl);(have hc_wA:=(bcell hq_wA).1);(have y0_wA:w.heap.size<wA.heap.size:=Nat.lt_of_lt_of_le z0 hq_wA.size);clear hq_wA))
  go_ret
  exact⟨ret_bool (by rw[HF.out]),HB0.out.trans ((show Below W0.heap.size W0 _ by exact zbl).mono HB0.out.size)⟩
 ·have hsm:=short_small hsh
  have h1:=hsh
  rw[hsh]at hSH
  have HSH:=zh hSH
  have HS:=zh hsh
  clear hSH hsh h1
  cases h8:decide ((g.sta.length:Int)≤8)
  ·have HF:=zh (show fewG g=false by unfold fewG;rw[HS.out,h8];rfl)
   go_enter Tryz.func54,Tryz.ntmps54
   go_upto_region 1 with fail
   rw[←hW0]
   clear hW0
   go_wp2_with (first|(go_at_call 15;(with_reducible refine Calls.mono (HSH.out _ (HG.out.to (by exact zbl))) ?_);rintro e wA ⟨rfl,hbA⟩;(have hq_wA:Below W0.heap.size W0 wA:=by exact zbl);(have hc_wA:=(bcell hq_wA).1);(have y0_wA:w.heap.size<wA.heap.size:=Nat.lt_of_lt_of_le z0 hq_wA.size);clear hq_wA))
   go_ret
   exact⟨ret_bool (by rw[HF.out]),HB0.out.trans ((show Below W0.heap.size W0 _ by exact zbl).mono HB0.out.size)⟩
  ·cases h14:decide ((g.mov.length:Int)≤14)
   ·have HF:=zh (show fewG g=false by unfold fewG;rw[HS.out,h8,h14];rfl)
    go_enter Tryz.func54,Tryz.ntmps54
    go_upto_region 1 with fail
    rw[←hW0]
    clear hW0
    go_wp2_with (first|(go_at_call 15;(with_reducible refine Calls.mono (HSH.out _ (HG.out.to (by exact zbl))) ?_);rintro e wA ⟨rfl,hbA⟩;(have hq_wA:Below W0.heap.size W0 wA:=by exact zbl);(have hc_wA:=(bcell hq_wA).1);(have y0_wA:w.heap.size<wA.heap.size:=Nat.lt_of_lt_of_le z0 hq_wA.size);clear hq_wA))
    go_ret
    exact⟨ret_bool (by rw[HF.out]),HB0.out.trans ((show Below W0.heap.size W0 _ by exact zbl).mono HB0.out.size)⟩
   ·cases h4:decide ((g.zon.length:Int)≤4)
    ·have HF:=zh (show fewG g=false by unfold fewG;rw[HS.out,h8,h14,h4];rfl)
     go_enter Tryz.func54,Tryz.ntmps54
     go_upto_region 1 with fail
     rw[←hW0]
     clear hW0
     go_wp2_with (first|(go_at_call 15;(with_reducible refine Calls.mono (HSH.out _ (HG.out.to (by exact zbl))) ?_);rintro e wA ⟨rfl,hbA⟩;(have hq_wA:Below W0.heap.size W0 wA:=by exact zbl);(have hc_wA:=(bcell hq_wA).1);(have y0_wA:w.heap.size<wA.heap.size:=Nat.lt_of_lt_of_le z0 hq_wA.size);clear hq_wA))
     go_ret
     exact⟨ret_bool (by rw[HF.out]),HB0.out.trans ((show Below W0.heap.size W0 _ by exact zbl).mono HB0.out.size)⟩
    ·have HF:=zh (show fewG g=(gridC g==0) by unfold fewG;rw[HS.out,h8,h14,h4];rfl)
     have HGC:=zh (show ∀W,GridR W W.heap.size a g→Calls Tryz.prog 21 #[(.agg #[.int .i64 g.blur,.slice a.pS g.sta.length a.cs,.slice a.pM g.mov.length a.cm,.slice a.pZ g.zon.length a.cz])] W fun e w'=>e=.returned (.int .i64 (gridC g))∧Below W.heap.size W w' from fun W h=>rGridC_c a g W hsm h)
     go_enter Tryz.func54,Tryz.ntmps54
     go_upto_region 1 with fail
     rw[←hW0]
     clear hW0
     go_wp2_with (first|(go_at_call 15;(with_reducible refine Calls.mono (HSH.out _ (HG.out.to (by exact zbl))) ?_);rintro e wA ⟨rfl,hbA⟩;(have hq_wA:Below W0.heap.size W0 wA:=by exact zbl);(have hc_wA:=(bcell hq_wA).1);(have y0_wA:w.heap.size<wA.heap.size:=Nat.lt_of_lt_of_le z0 hq_wA.size);clear hq_wA)|(go_at_call 21;(with_reducible refine Calls.mono (HGC.out _ (HG.out.to (by exact zbl))) ?_);rintro e wB ⟨rfl,hbB⟩;(have hq_wB:Below W0.heap.size W0 wB:=by exact zbl);(have hc_wB:=(bcell hq_wB).1);(have y0_wB:w.heap.size<wB.heap.size:=Nat.lt_of_lt_of_le z0 hq_wB.size);clear hq_wB))
     go_ret
     exact⟨ret_bool (by rw[HF.out]),HB0.out.trans ((show Below W0.heap.size W0 _ by exact zbl).mono HB0.out.size)⟩
end Go.Proofs.YtehnikhicnnnhaaGreatDoor
/- Homes, mirrors, fields in plain words; what a valid field keeps. | A line whose end touches a zone touches it; so the ends of a free move are safe. | Least ways, homes; what a valid mirror keeps when it is led and when it goes. | What the loops of routes keep. | A region that draws its order, inside a fence: one invariant over what has been listed. | What a round over a neighbour keeps: with a better way, without one. | Valid fields stay valid: sent, gone, stepped, heard. -/
import Derived.Test.YtehnikhicnnnhaaGreatDoorPa06
import Derived.Sort.LoopGhostIn
namespace Go.Proofs.YtehnikhicnnnhaaGreatDoor
def kStandby:ByteArray:= "standby".toUTF8
def kFocus:ByteArray:= "focus".toUTF8
def isSafeG(g:Grd)(i:Int):Bool:=freeB g i.toNat i.toNat
def staC(g:Grd)(i:Int):Int:=if hasB g i then whn (!isSafeG g i) 31 else 10
def wayN(g:Grd)(f b:Int):Int:=match wayG g f b with|some r=>r.n|none=>0
def homeL(g:Grd)(f:Int):Nat→List Sta→Int→Int
 |_,[],out=>out
 |i,s::l,out=>homeL g f (i+1) l (if(wayG g f i).isSome&&sEq s.kind kStandby&&(decide (out<0)||decide (wayN g f i<wayN g f out))then(i:Int)else out)
def homeG(g:Grd)(f:Int):Int:=if isSafeG g f then homeL g f 0 g.sta (-1)else -1
def reachG(g:Grd)(f:Int):List Int:=((List.range g.sta.length).filter fun i=>(wayG g f (i:Nat)).isSome).map Int.ofNat
structure Mir where
 name:ByteArray
 sec:ByteArray
 loc:Int
 way:List Int
 left:Int
 heard:Int
structure Fld where
 tick:Int
 lease:Int
 mir:List Mir
structure Ord where
 mir:ByteArray
 sta:ByteArray
 lost:Bool
instance:Inhabited Mir:=⟨⟨.empty,.empty,0,[],0,0⟩⟩
def turnM(m:Mir):Int:=m.way.headD m.loc
def boundM(m:Mir):Int:=m.way.getLastD m.loc
def chkW(g:Grd):Int→List Int→Int
 |_,[]=>0
 |at_,dst::l=>if hasB g dst then(if lnk g at_ dst=0 then 21 else chkW g dst l)else 10
def wayC(g:Grd)(m:Mir):Int:=
 if firstErr [staC g m.loc,whn (decide (40<m.way.length)) 5]≠0 then firstErr [staC g m.loc,whn (decide (40<m.way.length)) 5]
 else if chkW g m.loc m.way≠0 then chkW g m.loc m.way
 else if m.way= []then whn (decide (m.left≠0)) 3 else rng m.left 1 (lnk g m.loc (turnM m))
def mirE(g:Grd)(tick:Int)(seen:List ByteArray)(m:Mir):Int:=firstErr [nmC m.name,whn (memS seen m.name) 9,nmC m.sec,wayC g m,rng m.heard 0 tick]
def chkF(g:Grd)(tick:Int):List ByteArray→List Mir→Int
 |_,[]=>0
 |seen,m::l=>if mirE g tick seen m≠0 then mirE g tick seen m else if homeG g (turnM m)<0 then 7 else chkF g tick (seen++ [m.name]) l
def fldE(g:Grd)(f:Fld):Int:=firstErr [gridC g,rng f.tick 0 10000000,rng f.lease 1 100,whn (decide (16<f.mir.length)) 5]
def fieldC(g:Grd)(f:Fld):Int:=if fldE g f≠0 then fldE g f else chkF g f.tick [] f.mir
def ledG(g:Grd)(m:Mir)(dst:Int):Option Mir:=
 match wayG g (turnM m) dst with
 |none=>none
 |some r=>if m.way≠ []then some {m with way:=r.st}else some {m with way:=r.st.tail,left:=if r.st.tail= []then 0 else lnk g m.loc (r.st.tail.headD 0)}
def sentG(g:Grd)(m:Mir):Mir:=(ledG g m (homeG g (turnM m))).getD m
def goneG(g:Grd)(m:Mir):Mir:=
 if m.way= []then m
 else if 0<m.left-1 then {m with left:=m.left-1}
 else {m with loc:=turnM m,way:=m.way.tail,left:=if m.way.tail= []then m.left-1 else lnk g (turnM m) (m.way.tail.headD 0)}
def kindG(g:Grd)(i:Int):ByteArray:=(g.sta.getD i.toNat default).kind
def stepM(g:Grd)(f:Fld)(m:Mir):Mir:=goneG g (if decide (f.lease<f.tick+1-m.heard)&&sEq (kindG g (boundM m)) kFocus then sentG g m else m)
def stepG(g:Grd)(f:Fld):Fld:= {f with tick:=f.tick+1,mir:=f.mir.map (stepM g f)}
def findG(f:Fld)(n:ByteArray):Int:=idxF (fun m=>sEq m.name n) f.mir
def statG(g:Grd)(n:ByteArray):Int:=idxF (fun s=>sEq s.name n) g.sta
def heardE(g:Grd)(f:Fld)(o:Ord):Int:=
 if findG f o.mir<0∨statG g o.sta<0 then 10
 else if isSafeG g (statG g o.sta)then(if(ledG g (f.mir.getD (findG f o.mir).toNat default) (statG g o.sta)).isSome then 0 else 7)else 31
def heardG(g:Grd)(f:Fld)(o:Ord):Fld:=
 if heardE g f o≠0∨o.lost=true then f
 else {f with mir:=f.mir.set (findG f o.mir).toNat {(ledG g (f.mir.getD (findG f o.mir).toNat default) (statG g o.sta)).getD default with heard:=f.tick}}
def standsG(g:Grd)(m:Mir):Bool:=decide (m.way= [])&& !sEq (kindG g m.loc) kFocus
def darkG(g:Grd)(f:Fld):Bool:=f.mir.all (standsG g)
def litG(g:Grd)(f:Fld):List ByteArray:=(f.mir.filter fun m=>decide (m.way= [])&&sEq (kindG g m.loc) kFocus).map (·.name)
theorem sq_nn(a:Int):0≤a*a:=by
 rcases Int.le_total 0 a with h|h
 ·exact Int.mul_nonneg h h
 ·exact Int.mul_nonneg_of_nonpos_of_nonpos h h
theorem lag(dx dy ux uy:Int):crossI dx dy ux uy*crossI dx dy ux uy+dotI dx dy ux uy*dotI dx dy ux uy=dotI dx dy dx dy*dotI ux uy ux uy:=by
 unfold crossI dotI
 grind
theorem touch_fst{zx zy r bl ax ay bx by_:Int}(h:touchB zx zy r bl ax ay ax ay=true):touchB zx zy r bl ax ay bx by_=true:=by
 have h1:dotI (zx-ax) (zy-ay) (zx-ax) (zy-ay)≤(r+bl)*(r+bl):=by
  unfold touchB at h;simp only[and_self,true_or,if_true]at h;exact of_decide_eq_true h
 have h2:=lag (bx-ax) (by_-ay) (zx-ax) (zy-ay)
 have h3:dotI (zx-bx) (zy-by_) (zx-bx) (zy-by_)=dotI (zx-ax) (zy-ay) (zx-ax) (zy-ay)-2*dotI (bx-ax) (by_-ay) (zx-ax) (zy-ay)+dotI (bx-ax) (by_-ay) (bx-ax) (by_-ay):=by unfold dotI;grind
 have h4:dotI (bx-ax) (by_-ay) (zx-bx) (zy-by_)=dotI (bx-ax) (by_-ay) (zx-ax) (zy-ay)-dotI (bx-ax) (by_-ay) (bx-ax) (by_-ay):=by unfold dotI;grind
 have h5:0≤dotI (bx-ax) (by_-ay) (bx-ax) (by_-ay):=by
  unfold dotI;have:=sq_nn (bx-ax);have:=sq_nn (by_-ay);omega
 unfold touchB
 simp only
 split
 ·exact decide_eq_true h1
 ·split
  ·apply decide_eq_true;omega
  ·apply decide_eq_true
   generalize dotI (bx-ax) (by_-ay) (bx-ax) (by_-ay)=D at*
   generalize dotI (zx-ax) (zy-ay) (zx-ax) (zy-ay)=U at*
   generalize dotI (bx-ax) (by_-ay) (zx-ax) (zy-ay)=c at*
   have h6:=Int.mul_le_mul_of_nonneg_left h1 h5
   have h7:=sq_nn c
   rw[Int.mul_comm ((r+bl)*(r+bl)) D]
   omega
theorem touch_snd{zx zy r bl ax ay bx by_:Int}(h:touchB zx zy r bl bx by_ bx by_=true):touchB zx zy r bl ax ay bx by_=true:=by
 have h1:dotI (zx-bx) (zy-by_) (zx-bx) (zy-by_)≤(r+bl)*(r+bl):=by
  unfold touchB at h;simp only[and_self,true_or,if_true]at h;exact of_decide_eq_true h
 have h2:=lag (bx-ax) (by_-ay) (zx-bx) (zy-by_)
 have h3:dotI (zx-bx) (zy-by_) (zx-bx) (zy-by_)=dotI (zx-ax) (zy-ay) (zx-ax) (zy-ay)-2*dotI (bx-ax) (by_-ay) (zx-ax) (zy-ay)+dotI (bx-ax) (by_-ay) (bx-ax) (by_-ay):=by unfold dotI;grind
 have h4:dotI (bx-ax) (by_-ay) (zx-bx) (zy-by_)=dotI (bx-ax) (by_-ay) (zx-ax) (zy-ay)-dotI (bx-ax) (by_-ay) (bx-ax) (by_-ay):=by unfold dotI;grind
 have h5:0≤dotI (bx-ax) (by_-ay) (bx-ax) (by_-ay):=by
  unfold dotI;have:=sq_nn (bx-ax);have:=sq_nn (by_-ay);omega
 have h8:crossI (bx-ax) (by_-ay) (zx-ax) (zy-ay)=crossI (bx-ax) (by_-ay) (zx-bx) (zy-by_):=by unfold crossI;grind
 unfold touchB
 simp only
 split
 ·rename_i hc
  apply decide_eq_true
  rcases hc with ⟨e1,e2⟩|hc
  ·rw[e1,e2];exact h1
  ·omega
 ·split
  ·exact decide_eq_true h1
  ·apply decide_eq_true
   rw[h8]
   generalize dotI (bx-ax) (by_-ay) (bx-ax) (by_-ay)=D at*
   generalize dotI (zx-bx) (zy-by_) (zx-bx) (zy-by_)=V at*
   generalize dotI (bx-ax) (by_-ay) (zx-bx) (zy-by_)=c at*
   have h6:=Int.mul_le_mul_of_nonneg_left h1 h5
   have h7:=sq_nn c
   rw[Int.mul_comm ((r+bl)*(r+bl)) D]
   omega
theorem free_ends{g:Grd}{i j:Nat}(h:freeB g i j=true):freeB g i i=true∧freeB g j j=true:=by
 unfold freeB at*
 rw[Bool.not_eq_true']at h
 have h1:=List.any_eq_false.1 h
 constructor
 ·rw[Bool.not_eq_true']
  apply List.any_eq_false.2
  intro z hz e
  exact h1 z hz (touch_fst e)
 ·rw[Bool.not_eq_true']
  apply List.any_eq_false.2
  intro z hz e
  exact h1 z hz (touch_snd e)
theorem nb_safe{g:Grd}{v:Int}{x:NB g}(hx:x∈nbrs g v g.mov):isSafeG g v=true∧isSafeG g x.1.1=true:=by
 obtain⟨m,_,hn,e⟩:=nb_mov hx
 have h:=free_ends (show freeB g m.a.toNat m.b.toNat=true from hn.2.2)
 rw[e]
 unfold isSafeG
 rcases hn.2.1 with e1|e1
 ·subst e1;exact⟨h.1,by rw[show m.a+m.b-m.a=m.b by omega];exact h.2⟩
 ·subst e1;exact⟨h.2,by rw[show m.a+m.b-m.b=m.a by omega];exact h.1⟩
theorem exists_closed{g:Grd}{f:Int}(ho:okG g)(hf:0≤f∧f<g.sta.length):∃D,Inv g f D∧Closed g D:=by
 have key:∀n:Nat,∀D,mu g.sta.length D=n→Inv g f D→∃D,Inv g f D∧Closed g D:=by
  intro n
  induction n using Nat.strongRecOn with
  |_ n ih=>
   intro D hn hi
   by_cases hc:Closed g D
   ·exact⟨D,hi,hc⟩
   ·unfold Closed at hc
    obtain⟨a,hc⟩:=Classical.not_forall.1 hc
    obtain⟨r,hc⟩:=Classical.not_forall.1 hc
    obtain⟨ha,hc⟩:=Classical.not_imp.1 hc
    obtain⟨x,hc⟩:=Classical.not_forall.1 hc
    obtain⟨hx,hc⟩:=Classical.not_imp.1 hc
    have hw:=Classical.not_not.1 hc
    have hlt:=mu_step (n:=g.sta.length) x.2.1 (hi.rtsx ho.ns hf ha x) (fun r hr=>hi.rts ho.ns hf hr) hw
    exact ih _ (by rw[←hn];exact hlt) _ rfl (hi.step ha hx hw)
 exact key _ _ rfl (Inv.init g f)
theorem wayG_some{g:Grd}{f b:Int}{r:Rt}(ho:okG g)(hu:Uniq g.mov)(hf:0≤f∧f<g.sta.length):wayG g f b=some r↔Least g f b r:=by
 obtain⟨D,hi,hc⟩:=exists_closed ho hf
 rw[←wayG_eq ho hu hf hi hc]
 constructor
 ·exact Closed.isLeast hi hc
 ·intro h
  obtain⟨rb,h1,_⟩:=Closed.least hi hc h.1
  rw[h1,(Closed.isLeast hi hc h1).unique ho.ns hf h]
theorem wayG_walk{g:Grd}{f b:Int}{r:Rt}(ho:okG g)(hu:Uniq g.mov)(hf:0≤f∧f<g.sta.length)(h:Wk g f b r):∃r',wayG g f b=some r'∧rle r' r:=by
 obtain⟨D,hi,hc⟩:=exists_closed ho hf
 rw[←wayG_eq ho hu hf hi hc]
 exact Closed.least hi hc h
theorem wayG_small{g:Grd}{f b:Int}{r:Rt}(ho:okG g)(hu:Uniq g.mov)(hf:0≤f∧f<g.sta.length)(h:wayG g f b=some r):r.st.length≤g.sta.length:=by
 obtain⟨D,hi,hc⟩:=exists_closed ho hf
 rw[←wayG_eq ho hu hf hi hc]at h
 exact hi.small hf h
theorem lnk_pos{g:Grd}{a b:Int}(ho:okG g)(h:lnk g a b≠0):0<lnk g a b:=by
 have key:∀l:List Mov,(∀m∈l,1≤m.s)→lnkL g a b l≠0→0<lnkL g a b l:=by
  intro l
  induction l with
  |nil=>intro _ h;exact absurd rfl h
  |cons m l ih=>
   intro hm h
   unfold lnkL at h ⊢
   split
   ·have:=hm m (by simp);omega
   ·rename_i hj;rw[if_neg hj]at h;exact ih (fun m hm'=>hm m (by simp[hm'])) h
 exact key _ (fun m hm=>(ho.mov m hm).s0) h
theorem lnk_rng{g:Grd}{a b:Int}(ho:okG g)(h:lnk g a b≠0):(0≤b∧b<g.sta.length)∧(0≤a∧a<g.sta.length)∧1≤lnk g a b∧lnk g a b≤20:=by
 obtain⟨x,hx,e⟩:=lnk_nb ho (lnk_pos ho h)
 obtain⟨y,hy,e2⟩:=lnk_nb (a:=b) (b:=a) ho (by rw[lnk_sym];exact lnk_pos ho h)
 have h1:=x.2
 have h2:=y.2
 rw[e]at h1
 rw[e2]at h2
 exact⟨h1.1,h2.1,h1.2⟩
theorem chkW_cons{g:Grd}{a c:Int}{l:List Int}:chkW g a (c::l)=0↔hasB g c=true∧lnk g a c≠0∧chkW g c l=0:=by
 rw[chkW]
 by_cases h1:hasB g c=true
 ·rw[if_pos h1]
  by_cases h2:lnk g a c=0
  ·rw[if_pos h2];simp[h2]
  ·rw[if_neg h2];simp[h1,h2]
 ·rw[if_neg h1];simp[h1]
theorem chkW_snoc{g:Grd}{c:Int}:∀{l:List Int} {a:Int},chkW g a (l++ [c])=0↔chkW g a l=0∧hasB g c=true∧lnk g (l.getLastD a) c≠0
 | [],a=>by rw[List.nil_append,chkW_cons];simp[chkW]
 |d::l,a=>by
  rw[List.cons_append,chkW_cons,chkW_cons,chkW_snoc (l:=l) (a:=d)]
  have:(d::l).getLastD a=l.getLastD d:=by cases l<;>simp[List.getLastD]
  rw[this]
  constructor
  ·rintro⟨h1,h2,h3,h4,h5⟩;exact⟨⟨h1,h2,h3⟩,h4,h5⟩
  ·rintro⟨⟨h1,h2,h3⟩,h4,h5⟩;exact⟨h1,h2,h3,h4,h5⟩
theorem hasB_iff{g:Grd}{i:Int}:hasB g i=true↔0≤i∧i<g.sta.length:=by unfold hasB;exact decide_eq_true_iff
theorem Wk.chain{g:Grd}{f b:Int}{r:Rt}(hu:Uniq g.mov)(ho:okG g)(h:Wk g f b r):∃l,r.st=f::l∧chkW g f l=0∧l.getLastD f=b:=by
 induction h with
 |nil=>exact⟨[],rfl,rfl,rfl⟩
 |snoc x _ hx ih=>
  obtain⟨l,h1,h2,h3⟩:=ih
  refine⟨l++ [x.1.1],by simp[ext,h1],chkW_snoc.2 ⟨h2,hasB_iff.2 x.2.1,?_⟩,by simp⟩
  rw[h3,nb_lnk hu ho hx]
  have:=x.2.2.1
  omega
theorem Wk.pre{g:Grd}{a b c:Int}{r:Rt}{x:NB g}(hx:x∈nbrs g c g.mov)(e:x.1.1=a)(h:Wk g a b r):∃r',Wk g c b r'∧r'.n=r.n+x.1.2:=by
 induction h with
 |nil=>exact⟨_,e▸Wk.snoc x Wk.nil hx,by simp[ext]⟩
 |snoc y _ hy ih=>
  obtain⟨r',h1,h2⟩:=ih
  exact⟨_,Wk.snoc y h1 hy,by rw[ext_n,ext_n,h2];omega⟩
theorem nb_back{g:Grd}{v:Int}{x:NB g}(ho:okG g)(hu:Uniq g.mov)(hx:x∈nbrs g v g.mov):∃y∈nbrs g x.1.1 g.mov,y.1=(v,x.1.2):=by
 have h1:=nb_lnk hu ho hx
 have h2:=x.2.2.1
 rw[lnk_sym]at h1
 obtain⟨y,h3,h4⟩:=lnk_nb (a:=x.1.1) (b:=v) ho (by omega)
 exact⟨y,h3,by rw[h4,h1]⟩
theorem Wk.trans{g:Grd}{a b c:Int}{r s:Rt}(h:Wk g a b r)(k:Wk g b c s):∃t,Wk g a c t∧t.n=r.n+s.n:=by
 induction k with
 |nil=>exact⟨r,h,by simp⟩
 |snoc x _ hx ih=>
  obtain⟨t,h1,h2⟩:=ih
  exact⟨_,Wk.snoc x h1 hx,by rw[ext_n,ext_n,h2];omega⟩
/-! ### Homes -/
theorem homeL_spec{g:Grd}{f:Int}:∀{l:List Sta} {i:Nat} {out:Int},(∀k:Nat,∀h:k<l.length,g.sta[i+k]? =some l[k])→
 (homeL g f i l out=out∧(0≤out∨∀k:Nat,∀h:k<l.length,¬((wayG g f (i+k:Nat)).isSome=true∧sEq l[k].kind kStandby=true)))∨
 (∃k:Nat,∃h:k<l.length,homeL g f i l out=(i+k:Nat)∧(wayG g f (i+k:Nat)).isSome=true∧sEq l[k].kind kStandby=true)
 | [],i,out,_=>.inl ⟨rfl,.inr fun k h=>by simp at h⟩
 |s::l,i,out,hl=>by
  have hl':∀k:Nat,∀h:k<l.length,g.sta[i+1+k]? =some l[k]:=fun k h=>by
   have:=hl (k+1) (by simp;omega)
   rw[show i+1+k=i+(k+1) by omega];simpa using this
  rw[homeL]
  by_cases hc:((wayG g f i).isSome&&sEq s.kind kStandby&&(decide (out<0)||decide (wayN g f i<wayN g f out)))=true
  ·rw[if_pos hc]
   simp only[Bool.and_eq_true]at hc
   rcases homeL_spec (g:=g) (f:=f) (l:=l) (i:=i+1) (out:=(i:Int)) hl' with ⟨h1,_⟩|⟨k,hk,h1,h2,h3⟩
   ·exact .inr ⟨0,by simp,by rw[h1];rfl,by simpa using hc.1.1,by simpa using hc.1.2⟩
   ·exact .inr ⟨k+1,by simp;omega,by rw[h1];congr 1;omega,by rw[show i+(k+1)=i+1+k by omega];exact h2,by simpa using h3⟩
  ·rw[if_neg hc]
   rcases homeL_spec (g:=g) (f:=f) (l:=l) (i:=i+1) (out:=out) hl' with ⟨h1,h2⟩|⟨k,hk,h1,h2,h3⟩
   ·left
    refine⟨h1,?_⟩
    rcases h2 with h2|h2
    ·exact .inl h2
    ·by_cases ho:0≤out
     ·exact .inl ho
     ·right
      intro k hk
      cases k with
      |zero=>
       rintro⟨h3,h4⟩
       apply hc
       simp only[Bool.and_eq_true,Bool.or_eq_true,decide_eq_true_eq]
       exact⟨⟨h3,h4⟩,.inl (by omega)⟩
      |succ k=>
       have:=h2 k (by simpa using hk)
       rw[show i+(k+1)=i+1+k by omega]
       exact this
   ·exact .inr ⟨k+1,by simp;omega,by rw[h1];congr 1;omega,by rw[show i+(k+1)=i+1+k by omega];exact h2,by simpa using h3⟩
theorem homeG_some{g:Grd}{f:Int}(h:0≤homeG g f):isSafeG g f=true∧(homeG g f<g.sta.length)∧(wayG g f (homeG g f)).isSome=true∧sEq (kindG g (homeG g f)) kStandby=true:=by
 unfold homeG at h ⊢
 split at h
 ·rename_i hs
  rw[if_pos hs]
  refine⟨hs,?_⟩
  rcases homeL_spec (g:=g) (f:=f) (l:=g.sta) (i:=0) (out:= -1) (fun k h=>by simp[h])with ⟨h1,_⟩|⟨k,hk,h1,h2,h3⟩
  ·omega
  ·rw[Nat.zero_add]at h1 h2
   rw[h1]
   refine⟨by omega,h2,?_⟩
   unfold kindG
   rw[Int.toNat_natCast,List.getD_eq_getElem?_getD,List.getElem?_eq_getElem hk]
   exact h3
 ·omega
theorem homeG_of{g:Grd}{f:Int}{k:Nat}(hs:isSafeG g f=true)(hk:k<g.sta.length)(hw:(wayG g f k).isSome=true)(hkd:sEq (kindG g k) kStandby=true):0≤homeG g f:=by
 unfold homeG
 rw[if_pos hs]
 rcases homeL_spec (g:=g) (f:=f) (l:=g.sta) (i:=0) (out:= -1) (fun k h=>by simp[h])with ⟨h1,h2⟩|⟨j,hj,h1,_⟩
 ·rcases h2 with h2|h2
  ·omega
  ·exfalso
   refine h2 k hk ⟨by rw[Nat.zero_add];exact hw,?_⟩
   unfold kindG at hkd
   rw[Int.toNat_natCast,List.getD_eq_getElem?_getD,List.getElem?_eq_getElem hk]at hkd
   exact hkd
 ·omega
theorem home_next{g:Grd}{a b:Int}(ho:okG g)(hu:Uniq g.mov)(hl:lnk g a b≠0)(h:0≤homeG g a):0≤homeG g b:=by
 obtain⟨h1,h2,h3,h4⟩:=homeG_some h
 obtain⟨hb,ha,_,_⟩:=lnk_rng ho hl
 obtain⟨x,hx,e⟩:=lnk_nb ho (lnk_pos ho hl)
 obtain⟨y,hy,e2⟩:=nb_back ho hu hx
 have hsb:=(nb_safe hx).2
 rw[e]at hy hsb
 obtain⟨r,hr⟩:=Option.isSome_iff_exists.1 h3
 have hw:=((wayG_some ho hu ha).1 hr).1
 obtain⟨r',h5,_⟩:=Wk.pre hy (by rw[e2]) hw
 obtain⟨r2,h6,_⟩:=wayG_walk ho hu hb h5
 obtain⟨j,hj⟩:=Int.eq_ofNat_of_zero_le h
 rw[hj]at h6 h4 h2
 exact homeG_of hsb (k:=j) (by omega) (by rw[h6];rfl) h4
/-! ### A valid mirror -/
structure okMir(g:Grd)(m:Mir):Prop where
 loc:0≤m.loc∧m.loc<g.sta.length
 safe:isSafeG g m.loc=true
 len:m.way.length≤40
 chain:chkW g m.loc m.way=0
 left0:m.way= []→m.left=0
 left1:m.way≠ []→1≤m.left∧m.left≤lnk g m.loc (turnM m)
 home:0≤homeG g (turnM m)
theorem wayC_ok{g:Grd}{m:Mir}(h:wayC g m=0)(hh:¬homeG g (turnM m)<0):okMir g m:=by
 unfold wayC at h
 split at h
 ·rename_i hn;exact absurd h hn
 ·rename_i hn
  have hn:=Classical.not_not.1 hn
  have h1:=firstErr_zero hn (staC g m.loc) (by simp)
  have h2:=whn_zero (firstErr_zero hn (whn (decide (40<m.way.length)) 5) (by simp)) (by decide)
  unfold staC at h1
  split at h1
  ·rename_i hb
   have h3:=whn_zero h1 (by decide)
   split at h
   ·rename_i hc;exact absurd h hc
   ·rename_i hc
    refine⟨hasB_iff.1 hb,by simpa using h3,by simpa using h2,Classical.not_not.1 hc,fun e=>?_,fun e=>?_,by omega⟩
    ·rw[if_pos e]at h
     have:=whn_zero h (by decide)
     simpa using this
    ·rw[if_neg e]at h
     exact rng_zero h
  ·cases h1
theorem okMir.turn{g:Grd}{m:Mir}(h:okMir g m):0≤turnM m∧turnM m<g.sta.length:=by
 have h1:=h.chain
 have h2:=h.loc
 unfold turnM
 cases hw:m.way with
 |nil=>exact h2
 |cons a l=>rw[hw]at h1;exact hasB_iff.1 (chkW_cons.1 h1).1
theorem chkW_mem{g:Grd}:∀{l:List Int} {a:Int},chkW g a l=0→∀c∈l,0≤c∧c<g.sta.length
 | [],_,_,c,hc=>by simp at hc
 |d::l,a,h,c,hc=>by
  have h1:=chkW_cons.1 h
  rcases List.mem_cons.1 hc with rfl|hc
  ·exact hasB_iff.1 h1.1
  ·exact chkW_mem h1.2.2 c hc
theorem okMir.bound{g:Grd}{m:Mir}(h:okMir g m):0≤boundM m∧boundM m<g.sta.length:=by
 have h1:=chkW_mem h.chain
 have h2:=h.loc
 unfold boundM
 cases hw:m.way with
 |nil=>exact h2
 |cons a l=>
  rw[hw]at h1
  have:(a::l).getLastD m.loc∈a::l:=by rw[List.getLastD_cons];cases hl:l with
   |nil=>simp
   |cons b l'=>rw[List.getLastD_eq_getLast?,List.getLast?_eq_some_getLast (by simp)];exact List.mem_cons_of_mem _ (List.getLast_mem _)
  exact h1 _ this
theorem led_ok{g:Grd}{m m':Mir}{dst:Int}(ho:okG g)(hu:Uniq g.mov)(h:okMir g m)(hl:ledG g m dst=some m'):okMir g m'∧boundM m'=dst∧m'.way.length≤16∧m'.name=m.name∧m'.sec=m.sec∧m'.loc=m.loc∧m'.heard=m.heard:=by
 unfold ledG at hl
 cases hr:wayG g (turnM m) dst with
 |none=>rw[hr]at hl;cases hl
 |some r=>
  rw[hr]at hl
  have hw:=((wayG_some ho hu h.turn).1 hr).1
  have hs:=wayG_small ho hu h.turn hr
  have hns:=ho.ns
  obtain⟨l,h1,h2,h3⟩:=hw.chain hu ho
  simp only at hl
  by_cases hm:m.way= []
  ·rw[if_neg (fun c=>c hm)]at hl
   have ht:turnM m=m.loc:=by unfold turnM;rw[hm];rfl
   rw[ht]at h1 h2 h3
   rw[h1]at hl hs
   simp only[List.tail_cons]at hl
   simp only[List.length_cons]at hs
   cases hl
   cases l with
   |nil=>exact⟨⟨h.loc,h.safe,by simp,rfl,fun _=>rfl,fun c=>absurd rfl c,by have:=h.home;rw[ht]at this;exact this⟩,h3,by simp,rfl,rfl,rfl,rfl⟩
   |cons b l=>
    have h4:=chkW_cons.1 h2
    have h5:=lnk_rng ho h4.2.1
    refine⟨⟨h.loc,h.safe,by simp at hs ⊢;omega,h2,fun c=>by simp at c,fun _=>?_,?_⟩,h3,by simp at hs ⊢;omega,rfl,rfl,rfl,rfl⟩
    ·simp only[turnM,List.headD_cons,reduceCtorEq,if_false]
     exact⟨h5.2.2.1,Int.le_refl _⟩
    ·have:=h.home
     rw[ht]at this
     exact home_next ho hu h4.2.1 this
  ·rw[if_pos hm]at hl
   cases hl
   have ht:turnM {m with way:=r.st}=turnM m:=by rw[h1];rfl
   have hc:=h.chain
   have hlk:lnk g m.loc (turnM m)≠0:=by
    unfold turnM
    cases hw2:m.way with
    |nil=>exact absurd hw2 hm
    |cons a l'=>rw[hw2]at hc;exact(chkW_cons.1 hc).2.1
   refine⟨⟨h.loc,h.safe,by show r.st.length≤40;omega,?_,fun c=>?_,fun _=>?_,?_⟩,?_,by show r.st.length≤16;omega,rfl,rfl,rfl,rfl⟩
   ·show chkW g m.loc r.st=0
    rw[h1]
    exact chkW_cons.2 ⟨hasB_iff.2 h.turn,hlk,h2⟩
   ·have:r.st= []:=c
    rw[h1]at this;cases this
   ·rw[ht];exact h.left1 hm
   ·rw[ht];exact h.home
   ·show r.st.getLastD m.loc=dst
    rw[h1,List.getLastD_cons];exact h3
end Go.Proofs.YtehnikhicnnnhaaGreatDoor
namespace Go.Proofs.YtehnikhicnnnhaaGreatDoor
open Go.RowKit Go.Shelf
def NoInt(W:World)(r:Nat):Prop:=∀o x,W.cell? ⟨r,o,none⟩≠some (.int .i64 x)
theorem noInt_box{W:World}{r:Nat}{t:TypeId}{b:Bool}(h:Boxed W r t (.bool b)):NoInt W r:=by
 intro o x hc
 unfold World.cell? at hc
 rw[show W.heap[r]? =_ from h]at hc
 cases o with
 |zero=>simp at hc
 |succ o=>simp at hc
theorem noInt_other{W:World}{r:Nat}{o:Obj}(h:W.heap[r]? =some o)(ho:o.isCells=false):NoInt W r:=by
 intro k x hc
 unfold World.cell? at hc
 rw[h]at hc
 cases o<;>simp_all [Obj.isCells]
theorem IntsR.grownN{W W':World}{B:Nat}{A:Option Addr}{l:List Int}{row:Option Nat}(h:IntsR W B A l)(hg:W.grownBy W' row)(hr:∀r,row=some r→NoInt W r):IntsR W' B A l:=fun hn=>by
 obtain⟨b,off,e,hb,hc⟩:=h hn
 refine⟨b,off,e,hb,fun k hk j v hv=>?_⟩
 have hc1:=hc k hk j v hv
 refine hg.cell hc1 (fun e=>?_)
 have hx:∃x,v=.int .i64 x:=by
  rw[List.getElem_map]at hv
  cases j with
  |zero=>simp at hv;exact⟨_,hv.symm⟩
  |succ j=>simp at hv
 obtain⟨x,rfl⟩:=hx
 exact hr b e.symm _ _ hc1
theorem TabD.grownN{W W':World}{m B:Nat}{D:Int→Option Rt}{row:Option Nat}(h:TabD W m B D)(hg:W.grownBy W' row)(hr:∀r,row=some r→r≠m∧NoInt W r):TabD W' m B D:=by
 obtain⟨l,h1,h2⟩:=h
 refine⟨l,h1.keep (hg.block m h1.lt (fun e=>(hr m e.symm).1 rfl)),fun k=>?_⟩
 rcases h2 k with h3|⟨A,c,rt,h3,h4,h5,h6⟩
 ·exact .inl h3
 ·exact .inr ⟨A,c,rt,h3,h4,h5,IntsR.grownN h6 hg fun r e=>(hr r e).2⟩
structure RS(w:World)(a:GA)(g:Grd)(f:Int)(m Bo Ba:Nat)(D:Int→Option Rt)(b:Bool)(W:World):Prop where
 inv:Inv g f D
 tab:TabD W m W.heap.size D
 g0:W.cell? ⟨w.heap.size,0,none⟩=some (.int .i64 g.blur)
 g1:W.cell? ⟨w.heap.size,1,none⟩=some (.slice a.pS g.sta.length a.cs)
 g2:W.cell? ⟨w.heap.size,2,none⟩=some (.slice a.pM g.mov.length a.cm)
 g3:W.cell? ⟨w.heap.size,3,none⟩=some (.slice a.pZ g.zon.length a.cz)
 out:W.cell? ⟨Bo,0,none⟩=some (.map (some m))
 flag:Boxed W Ba 4 (.bool b)
 low:Below w.heap.size w W
 o1:w.heap.size<m
 o2:m<Bo
 o3:Bo<Ba
theorem RS.grown{w:World}{a:GA}{g:Grd}{f:Int}{m Bo Ba:Nat}{D:Int→Option Rt}{b:Bool}{W W':World}{row:Option Nat}(h:RS w a g f m Bo Ba D b W)(hg:W.grownBy W' row)
 (hr:∀r,row=some r→Bo<r∧r≠Ba∧NoInt W r):RS w a g f m Bo Ba D b W':=by
 have n1:=h.o1
 have n2:=h.o2
 have hne:∀k,k≤Bo→some k≠row:=fun k hk e=>by have:=(hr k e.symm).1;omega
 exact⟨h.inv,(h.tab.grownN hg (fun r e=>⟨by have:=(hr r e).1;omega,(hr r e).2.2⟩)).more hg.size,hg.cell h.g0 (hne w.heap.size (by omega)),hg.cell h.g1 (hne w.heap.size (by omega)),hg.cell h.g2 (hne w.heap.size (by omega)),hg.cell h.g3 (hne w.heap.size (by omega)),hg.cell h.out (hne _ (Nat.le_refl _)),
  h.flag.kept hg (fun e=>(hr _ e.symm).2.1 rfl),h.low.grown hg h.low.size (fun r e=>by have:=(hr r e).1;omega),n1,n2,h.o3⟩
theorem RS.below{w:World}{a:GA}{g:Grd}{f:Int}{m Bo Ba:Nat}{D:Int→Option Rt}{b:Bool}{W W':World}(h:RS w a g f m Bo Ba D b W)(hb:Below W.heap.size W W'):RS w a g f m Bo Ba D b W':=
 h.grown (grown_of hb) (fun r e=>by cases e)
theorem RS.setFlag{w:World}{a:GA}{g:Grd}{f:Int}{m Bo Ba:Nat}{D:Int→Option Rt}{b:Bool}{W:World}(h:RS w a g f m Bo Ba D b W)(b':Bool):RS w a g f m Bo Ba D b' (W.setCell ⟨Ba,0,none⟩ (.bool b')):=by
 have n1:=h.o1
 have n2:=h.o2
 have n3:=h.o3
 have hg:=grownBy_setCell' W Ba (.bool b')
 have hne:∀k,k≤Bo→some k≠some Ba:=fun k hk e=>by cases e;omega
 exact⟨h.inv,(h.tab.grownN hg (fun r e=>by cases e;exact⟨by omega,noInt_box h.flag⟩)).more hg.size,hg.cell h.g0 (hne w.heap.size (by omega)),hg.cell h.g1 (hne w.heap.size (by omega)),hg.cell h.g2 (hne w.heap.size (by omega)),hg.cell h.g3 (hne w.heap.size (by omega)),hg.cell h.out (hne _ (Nat.le_refl _)),
  h.flag.set _,h.low.setCell (p:=⟨Ba,0,none⟩) (by show w.heap.size≤Ba;omega) _,n1,n2,n3⟩
theorem RS.newFlag{w:World}{a:GA}{g:Grd}{f:Int}{m Bo Ba:Nat}{D:Int→Option Rt}{b:Bool}{W:World}(h:RS w a g f m Bo Ba D b W)(b':Bool):RS w a g f m Bo W.heap.size D b' (W.alloc (.cells #[.bool b'] 4)):=by
 have h1:=h.below (W':=W.alloc (.cells #[.bool b'] 4)) ((Below.refl _ _).alloc (Nat.le_refl _) _)
 have:=h.flag.lt
 have:=h.o3
 exact⟨h1.inv,h1.tab,h1.g0,h1.g1,h1.g2,h1.g3,h1.out,Boxed.new _ _ _,h1.low,h1.o1,h1.o2,by omega⟩
theorem RS.upd{w:World}{a:GA}{g:Grd}{f:Int}{m Bo Ba:Nat}{D D':Int→Option Rt}{b:Bool}{W W':World}(h:RS w a g f m Bo Ba D b W)(hi:Inv g f D')(ht:TabD W' m W.heap.size D')(hg:W.grownBy W' (some m)):RS w a g f m Bo Ba D' b W':=by
 have n1:=h.o1
 have n2:=h.o2
 have n3:=h.o3
 have hne:∀k,k≠m→some k≠some m:=fun k hk e=>by cases e;exact hk rfl
 exact⟨hi,ht.more hg.size,hg.cell h.g0 (hne _ (by simp;omega)),hg.cell h.g1 (hne _ (by simp;omega)),hg.cell h.g2 (hne _ (by simp;omega)),hg.cell h.g3 (hne _ (by simp;omega)),hg.cell h.out (hne _ (by simp;omega)),
  h.flag.kept hg (hne _ (by omega)),h.low.grown hg h.low.size (fun r e=>by cases e;omega),n1,n2,n3⟩
theorem RS.own{β:Type}{w:World}{a:GA}{g:Grd}{f:Int}{m Bo Ba B:Nat}{D:Int→Option Rt}{b:Bool}{W W':World}{row:Option Nat}(h:RS w a g f m Bo Ba D b W)(hg:W.grownBy W' row)
 (hr:∀r,row=some r→B≤r∧∃o:Obj,W.heap[r]? =some o∧o.isCells=false) (hB:Ba<B) (_:β):RS w a g f m Bo Ba D b W':=
 h.grown hg (fun r e=>by
  obtain⟨h1,o,h2,h3⟩:=hr r e
  have:=h.o3
  exact⟨by omega,by omega,noInt_other h2 h3⟩)
/-! ### The marks of loops that are over -/
def mkD(D:Nat):Deferred:= {target:=.collected D,args:= #[]}
structure Marks(lo:Nat)(ds:List Deferred)(Ds:List Nat)(W:World):Prop where
 eq:ds=Ds.map mkD
 nd:Ds.Nodup
 at_:∀D∈Ds,lo≤D∧W.heap[D]? =some (.deferred (some []))
theorem Marks.nil(lo:Nat)(W:World):Marks lo [] [] W:=⟨rfl,List.nodup_nil,by simp⟩
theorem Marks.cons{lo:Nat}{ds:List Deferred}{Ds:List Nat}{W:World}(h:Marks lo ds Ds W){D:Nat}(hD:D ∉ Ds)(hl:lo≤D)(hK:W.heap[D]? =some (.deferred (some []))):Marks lo ({target:=.collected D,args:= #[]}::ds) (D::Ds) W:=
 ⟨by rw[h.eq];rfl,List.nodup_cons.2 ⟨hD,h.nd⟩,fun E hE=>(List.mem_cons.1 hE).elim (fun e=>by subst e;exact⟨hl,hK⟩) (fun hE=>h.at_ E hE)⟩
theorem Marks.lt{lo:Nat}{ds:List Deferred}{Ds:List Nat}{W:World}(h:Marks lo ds Ds W){D:Nat}(hD:D∈Ds):D<W.heap.size:=(Array.getElem?_eq_some_iff.1 (h.at_ D hD).2).1
theorem Marks.grown{lo:Nat}{ds:List Deferred}{Ds:List Nat}{W W':World}{row:Option Nat}(h:Marks lo ds Ds W)(hg:W.grownBy W' row)(hr:∀r,row=some r→r ∉ Ds):Marks lo ds Ds W':=
 ⟨h.eq,h.nd,fun D hD=>⟨(h.at_ D hD).1,(hg.block D (h.lt hD) (fun e=>hr D e.symm hD)).trans (h.at_ D hD).2⟩⟩
theorem Marks.below{lo:Nat}{ds:List Deferred}{Ds:List Nat}{W W':World}(h:Marks lo ds Ds W)(hb:Below W.heap.size W W'):Marks lo ds Ds W':=h.grown (grown_of hb) (fun r e=>by cases e)
theorem Marks.notCells{lo:Nat}{ds:List Deferred}{Ds:List Nat}{W:World}(h:Marks lo ds Ds W){b:Nat}{t:TypeId}{v:Value}(hb:Boxed W b t v):b ∉ Ds:=fun hm=>by
 have h1:=(h.at_ b hm).2
 rw[show W.heap[b]? =_ from hb]at h1;cases h1
theorem Marks.notMap{lo:Nat}{ds:List Deferred}{Ds:List Nat}{W:World}(h:Marks lo ds Ds W){m:Nat}{l:List (Int×Value)}(hm:MapI W m l):m ∉ Ds:=fun hd=>by
 have h1:=(h.at_ m hd).2
 obtain⟨es,c,h2,_⟩:=hm
 rw[h2]at h1;cases h1
structure Left(Ds:List Nat)(W W':World):Prop where
 os:W'.os=W.os
 tape:W'.tape=W.tape
 output:W'.output=W.output
 size:W'.heap.size=W.heap.size
 block:∀k,k ∉ Ds→W'.heap[k]? =W.heap[k]?
theorem leaves_marks{F:Fence}{n:Nat}{P:Program}{fn:Func}{tmps:Array Value}{R:Ending→World→Prop}:∀{Ds:List Nat} {lo:Nat} {ds:List Deferred} {W:World},Marks lo ds Ds W→
 (∀W',Left Ds W W'→LeavesInM F n P fn tmps R [] .returning W')→LeavesInM F n P fn tmps R ds .returning W
 | [],lo,ds,W,h,hf=>by
   rw[h.eq]
   exact hf W ⟨rfl,rfl,rfl,rfl,fun _ _=>rfl⟩
 |D::Ds,lo,ds,W,h,hf=>by
  have h1:=h.at_ D (by simp)
  have h2:=List.nodup_cons.1 h.nd
  rw[h.eq]
  refine⟨by simp,.inl ⟨D,_,rfl,run_takeDeferred h1.2,?_⟩⟩
  have h3:Marks lo (Ds.map mkD) Ds (W.putObj D (.deferred none)):=
   ⟨rfl,h2.2,fun E hE=>⟨(h.at_ E (by simp[hE])).1,(World.putObj_heap_other (by intro e;subst e;exact h2.1 hE)).trans (h.at_ E (by simp[hE])).2⟩⟩
  refine leaves_marks h3 fun W' hl=>hf W' ⟨hl.os,hl.tape,hl.output,hl.size.trans (by simp[World.putObj]),fun k hk=>?_⟩
  have hk':k≠D∧k ∉ Ds:=⟨fun e=>hk (by simp[e]),fun e=>hk (by simp[e])⟩
  exact(hl.block k hk'.2).trans (World.putObj_heap_other hk'.1)
theorem Left.grown{Ds:List Nat}{W W':World}(h:Left Ds W W'){B:Nat}(hB:∀D∈Ds,B≤D):Below B W W':=
 ⟨h.os,h.tape,h.output,Nat.le_of_eq h.size.symm,fun k hk=>h.block k fun hm=>by have:=hB k hm;omega⟩
theorem Left.cell{Ds:List Nat}{W W':World}{lo:Nat}{ds:List Deferred}(h:Left Ds W W')(hm:Marks lo ds Ds W){a:Addr}{v:Value}(hc:W.cell? a=some v):W'.cell? a=some v:=by
 have hn:a.block ∉ Ds:=fun hd=>by
  have h1:=(hm.at_ _ hd).2
  unfold World.cell? at hc
  rw[h1]at hc;cases hc
 exact(World.cell?_of_block (w:=W) (h.block a.block hn)).trans hc
theorem TabD.left{W W':World}{m B:Nat}{D:Int→Option Rt}{Ds:List Nat}{lo:Nat}{ds:List Deferred}(h:TabD W m B D)(hm:Marks lo ds Ds W)(hl:Left Ds W W'):TabD W' m B D:=by
 obtain⟨l,h1,h2⟩:=h
 refine⟨l,h1.keep (hl.block m (hm.notMap h1)),fun k=>?_⟩
 rcases h2 k with h3|⟨A,c,rt,h3,h4,h5,h6⟩
 ·exact .inl h3
 ·refine .inr ⟨A,c,rt,h3,h4,h5,fun hn=>?_⟩
  obtain⟨b,off,e,hb,hc⟩:=h6 hn
  exact⟨b,off,e,hb,fun k hk j v hv=>hl.cell hm (hc k hk j v hv)⟩
theorem Tryz.zeroRt(w:World):(zeroValue 168).run Tryz.prog w=.ok zeroRt w:=by kernel_rfl
theorem Tryz.look{w:World}{r B:Nat}{D:Int→Option Rt}(h:TabD w r B D)(k:Int):
 (D k=none∧(∀W:World,W.heap[r]? =w.heap[r]? →(Instr.lookup 170 (.map (some r)) (.int .i64 k) true).run Tryz.prog W=.ok (.tuple #[.agg #[.slice none 0 0,.int .i64 0],.bool false]) W)∧
   (∀W:World,W.heap[r]? =w.heap[r]? →(Instr.lookup 170 (.map (some r)) (.int .i64 k) false).run Tryz.prog W=.ok (.agg #[.slice none 0 0,.int .i64 0]) W))∨
 (∃A c rt,D k=some rt∧rt.st.length≤c∧IntsR w B A rt.st∧
   (∀W:World,W.heap[r]? =w.heap[r]? →(Instr.lookup 170 (.map (some r)) (.int .i64 k) true).run Tryz.prog W=.ok (.tuple #[.agg #[.slice A rt.st.length c,.int .i64 rt.n],.bool true]) W)∧
   (∀W:World,W.heap[r]? =w.heap[r]? →(Instr.lookup 170 (.map (some r)) (.int .i64 k) false).run Tryz.prog W=.ok (.agg #[.slice A rt.st.length c,.int .i64 rt.n]) W)):=by
 rcases h.look (P:=Tryz.prog) k Tryz.underlying170 Tryz.underlying3 Tryz.zeroRt with ⟨h1,h2⟩|⟨A,c,rt,h1,h2,h3,h4⟩
 ·exact .inl ⟨h1,h2 true,h2 false⟩
 ·exact .inr ⟨A,c,rt,h1,h2,h3,h4 true,h4 false⟩
theorem wpListIn_look_none{F:Fence}{nF:Nat}{w:World}{ops:Array Oper}{rest:List Oper}{o:Oper}{a:Act}{Q:Exit→Act→World→Prop}
 (hg:o.guard=none) (m x:Operand) (hop:o.op=Op.lookup 170 m x true) (r B:Nat) (D:Int→Option Rt) (k:Int) (hm:a.eval m=.map (some r)) (hx:a.eval x=.int .i64 k) (hset:TabD w r B D) (hD:D k=none)
 (hN:wpListIn F nF Tryz.prog ops Q rest (a.put o.dst (.tuple #[.agg #[.slice none 0 0,.int .i64 0],.bool false])) w):wpListIn F nF Tryz.prog ops Q (o::rest) a w:=by
 refine wpListIn_plain hg fun K' hK'=>?_
 rcases Tryz.look hset k with ⟨_,hrun,_⟩|⟨A,c,rt,h1,_⟩
 ·have hrun:=hrun w rfl
  unfold Oper.wpIn
  refine⟨by simp[Oper.about,hop],?_⟩
  rw[Oper.semAt_plain F _ _ (by rw[hop];intro c hc';cases hc')]
  simp[execOp,hop,hm,hx,hrun,Result.andThen]
  exact hK' _ _ hN
 ·rw[hD]at h1;cases h1
theorem wpListIn_look_some{F:Fence}{nF:Nat}{w:World}{ops:Array Oper}{rest:List Oper}{o:Oper}{a:Act}{Q:Exit→Act→World→Prop}
 (hg:o.guard=none) (m x:Operand) (hop:o.op=Op.lookup 170 m x true) (r B:Nat) (D:Int→Option Rt) (k:Int) (rt:Rt) (hm:a.eval m=.map (some r)) (hx:a.eval x=.int .i64 k) (hset:TabD w r B D) (hD:D k=some rt)
 (hN:∀A c,rt.st.length≤c→IntsR w B A rt.st→wpListIn F nF Tryz.prog ops Q rest (a.put o.dst (.tuple #[.agg #[.slice A rt.st.length c,.int .i64 rt.n],.bool true])) w):wpListIn F nF Tryz.prog ops Q (o::rest) a w:=by
 refine wpListIn_plain hg fun K' hK'=>?_
 rcases Tryz.look hset k with ⟨h1,_⟩|⟨A,c,rt',h1,h2,h3,hrun,_⟩
 ·rw[hD]at h1;cases h1
 ·have hrun:=hrun w rfl
  rw[hD]at h1;cases h1
  unfold Oper.wpIn
  refine⟨by simp[Oper.about,hop],?_⟩
  rw[Oper.semAt_plain F _ _ (by rw[hop];intro c hc';cases hc')]
  simp[execOp,hop,hm,hx,hrun,Result.andThen]
  exact hK' _ _ (hN A c h2 h3)
structure RI(w:World)(a:GA)(g:Grd)(f:Int)(m Bo Ba:Nat)(P0:Prop)(D0:Int→Option Rt)(j:Int)(r:Rt)(A:Option Addr)(c Br:Nat)(ds:List Deferred)(Ds:List Nat)(sz:Nat)(pre:List (NA g j))(D:Int→Option Rt)(b:Bool)(W:World):Prop where
 rs:RS w a g f m Bo Ba D b W
 dj:D j=some r
 r0:W.cell? ⟨Br,0,none⟩=some (.slice A r.st.length c)
 r1:W.cell? ⟨Br,1,none⟩=some (.int .i64 r.n)
 ri:IntsR W W.heap.size A r.st
 mks:Marks w.heap.size ds Ds W
 sz:sz≤W.heap.size
 pr:(b=false∧P0∧D=D0∧∀y∈pre,¬worse D0 y.1.1.1 (ext r y.1.1))∨(b=true∧mu g.sta.length D<mu g.sta.length D0)
theorem nb_ne{g:Grd}{v:Int}(x:NA g v):x.1.1.1≠v:=by
 obtain⟨m,_,hn,e⟩:=nb_mov x.2
 rw[e]
 have:=hn.1.ab
 have:=hn.2.1
 show m.a+m.b-v≠v
 omega
def rfBody:Code→Option Code
 |.seq a b=>(rfBody a).or (rfBody b)
 |.cond _ a b=>(rfBody a).or (rfBody b)
 |.block _ c=>rfBody c
 |.loop c=>rfBody c
 |.scope c=>rfBody c
 |.rangeFunc _ _ _ b=>some b
 |_=>none
def updL(L:Nat→Bool)(i:Nat):Nat→Bool:=fun j=>if j=i then true else L j
def listL(listed:Array Bool):Nat→Bool:=fun i=>listed.getD i false
theorem mem_ready{md:Region.Mode}{ops:Array Oper}{listed:Array Bool}{i:Nat}:
 i∈Region.ready md ops listed↔i<ops.size∧listed.getD i true=false∧∀o,ops[i]? =some o→o.after.all (fun e=> !Region.binds md e||listed.getD e.on false)=true:=by
 unfold Region.ready
 simp only[List.mem_filter,List.mem_range,Bool.and_eq_true,Bool.not_eq_true']
 constructor
 ·rintro⟨h1,h2,h3⟩
  refine⟨h1,h2,fun o ho=>?_⟩
  rw[ho]at h3
  simpa using h3
 ·rintro⟨h1,h2,h3⟩
  refine⟨h1,h2,?_⟩
  have h4:=h3 _ (Array.getElem?_eq_getElem h1)
  rw[Array.getElem?_eq_getElem h1]
  simpa using h4
theorem listL_upd{listed:Array Bool}{i:Nat}(h:i<listed.size):listL (listed.setIfInBounds i true)=updL (listL listed) i:=by
 funext j
 unfold listL updL
 by_cases e:j=i
 ·subst e;simp[Array.getD,h]
 ·rw[if_neg e]
  simp[Array.getD_eq_getD_getElem?,Array.getElem?_setIfInBounds_ne (Ne.symm e)]
theorem wpAnyIn_inv{F:Fence}{n:Nat}{P:Program}{ops:Array Oper}{Q:Exit→Act→World→Prop}(I:(Nat→Bool)→Act→World→Prop)
 (acyc:∀(i:Nat) (o:Oper),ops[i]? =some o→∀e∈o.after.toList,e.on<i)
 (step:∀(i:Nat) (o:Oper),ops[i]? =some o→∀L a w,I L a w→L i=false→(∀e∈o.after.toList,Region.binds .any e=true→L e.on=true)→∀K:Act→World→Prop,(∀a' w',I (updL L i) a' w'→K a' w')→wpOpIn F n P ops Q i K a w)
 (fin:∀L a w,I L a w→(∀i,i<ops.size→L i=true)→Q .normal a w):
 ∀(fuel:Nat) (listed:Array Bool) (a:Act) (w:World),listed.size=ops.size→(listed.toList.filter (fun b=> !b)).length=fuel→I (listL listed) a w→wpAnyIn F n P .any ops Q fuel listed a w:=by
 have hall:∀(listed:Array Bool),listed.size=ops.size→Region.ready .any ops listed= []→∀i,i<ops.size→listL listed i=true:=by
  intro listed hs hr i
  induction i using Nat.strongRecOn with
  |_ i ih=>
   intro hi
   by_cases hl:listL listed i=true
   ·exact hl
   ·exfalso
    have hm:i∈Region.ready .any ops listed:=by
     refine mem_ready.2 ⟨hi,?_,fun o ho=>?_⟩
     ·have h2:i<listed.size:=by omega
      have h3:listL listed i=listed[i]:=by simp[listL,Array.getD,h2]
      rw[h3]at hl
      simp[Array.getD,h2]
      simpa using hl
     ·rw[Array.all_eq_true_iff_forall_mem]
      intro e he
      have h4:=acyc i o ho e (by simpa using he)
      have h5:=ih e.on h4 (by omega)
      simp only[listL]at h5
      simp[h5]
    rw[hr]at hm
    simp at hm
 intro fuel
 induction fuel with
 |zero=>
  intro listed a w hs hf hI
  have hnone:∀i,i<ops.size→listL listed i=true:=fun i hi=>by
   have h2:i<listed.size:=by omega
   have h3:listL listed i=listed[i]:=by simp[listL,Array.getD,h2]
   rw[h3]
   have h4:=List.filter_eq_nil_iff.1 (List.length_eq_zero_iff.1 hf) listed[i] (by simp)
   simpa using h4
  refine⟨?_,fin _ _ _ hI hnone⟩
  cases hr:Region.ready .any ops listed with
  |nil=>rfl
  |cons i rest=>
   exfalso
   have hm:i∈Region.ready .any ops listed:=by rw[hr];simp
   have h1:=mem_ready.1 hm
   have h2:=hnone i h1.1
   have h3:i<listed.size:=by omega
   have h4:=h1.2.1
   simp[listL,Array.getD,h3]at h2 h4
   rw[h2]at h4;cases h4
 |succ fuel ih=>
  intro listed a w hs hf hI
  refine⟨fun hr=>fin _ _ _ hI (hall listed hs hr),fun i hi=>?_⟩
  have h1:=mem_ready.1 hi
  have h3:i<listed.size:=by omega
  have ho:=Array.getElem?_eq_getElem h1.1
  have h4:=h1.2.1
  have h5:listL listed i=false:=by simp[listL,Array.getD,h3]at h4 ⊢;exact h4
  refine step i _ ho (listL listed) a w hI h5 (fun e he hb=>?_) _ (fun a' w' hI'=>ih _ a' w' (by simp[hs]) ?_ (by rw[listL_upd h3];exact hI'))
  ·have h6:=Array.all_eq_true_iff_forall_mem.1 (h1.2.2 _ ho) e (by simpa using he)
   rw[hb]at h6
   simpa [listL]using h6
  ·have h7:listed[i]=false:=by simp[listL,Array.getD,h3]at h5;exact h5
   have h8:∀(l:List Bool) (k:Nat) (hk:k<l.length),l[k]=false→((l.set k true).filter fun b=> !b).length+1=(l.filter fun b=> !b).length:=by
    intro l
    induction l with
    |nil=>intro k hk;simp at hk
    |cons b l ihl=>
     intro k hk hb
     cases k with
     |zero=>simp at hb;subst hb;simp
     |succ k=>
      have:=ihl k (by simpa using hk) (by simpa using hb)
      cases b<;>simp<;>omega
   have:=h8 listed.toList i (by simpa using h3) (by simpa using h7)
   rw[Array.toList_setIfInBounds]
   omega
theorem wpIn_region_inv{F:Fence}{n:Nat}{P:Program}{ops:Array Oper}{Q:Exit→Act→World→Prop}{id:Nat}{a:Act}{w:World}(hm:P.follows .mixedOrders=true)(I:(Nat→Bool)→Act→World→Prop)
 (acyc:∀(i:Nat) (o:Oper),ops[i]? =some o→∀e∈o.after.toList,e.on<i)
 (h0:I (fun _=>false) a w.drew)
 (step:∀(i:Nat) (o:Oper),ops[i]? =some o→∀L a w,I L a w→L i=false→(∀e∈o.after.toList,Region.binds .any e=true→L e.on=true)→∀K:Act→World→Prop,(∀a' w',I (updL L i) a' w'→K a' w')→wpOpIn F n P ops Q i K a w)
 (fin:∀L a w,I L a w→(∀i,i<ops.size→L i=true)→Q .normal a w):(Code.region id ops true).wpIn F n P Q a w:=by
 refine wpIn_region_any hm (wpAnyIn_inv I acyc step fin _ _ _ _ (by simp) ?_ ?_)
 ·simp
 ·have:listL (Array.replicate ops.size false)=fun _=>false:=by
   funext i;unfold listL;simp[Array.getD]
  rw[this]
  exact h0
def ClosedL(ops:Array Oper)(L:Nat→Bool):Prop:=∀(k:Nat) (o:Oper),ops[k]? =some o→L k=true→∀e∈o.after.toList,Region.binds .any e=true→L e.on=true
theorem updL_le{L:Nat→Bool}{i j:Nat}(h:L j=true):updL L i j=true:=by unfold updL;split;rfl;exact h
theorem wpIn_region_inv2{F:Fence}{n:Nat}{P:Program}{ops:Array Oper}{Q:Exit→Act→World→Prop}{id:Nat}{a:Act}{w:World}(hm:P.follows .mixedOrders=true)(I:(Nat→Bool)→Act→World→Prop)
 (acyc:∀(i:Nat) (o:Oper),ops[i]? =some o→∀e∈o.after.toList,e.on<i)
 (h0:I (fun _=>false) a w.drew)
 (step:∀(i:Nat) (o:Oper),ops[i]? =some o→∀L a w,I L a w→L i=false→ClosedL ops L→(∀e∈o.after.toList,Region.binds .any e=true→L e.on=true)→∀K:Act→World→Prop,(∀a' w',I (updL L i) a' w'→K a' w')→wpOpIn F n P ops Q i K a w)
 (fin:∀L a w,I L a w→(∀i,i<ops.size→L i=true)→Q .normal a w):(Code.region id ops true).wpIn F n P Q a w:=by
 refine wpIn_region_inv hm (fun L a w=>I L a w∧ClosedL ops L) acyc ⟨h0,fun _ _ _ h=>by cases h⟩ ?_ (fun L a w h=>fin L a w h.1)
 intro i o ho L a w hI hLi he K hK
 refine step i o ho L a w hI.1 hLi hI.2 he K (fun a' w' h=>hK a' w' ⟨h,fun k ok hk hL e hee hb=>?_⟩)
 by_cases hki:k=i
 ·subst hki
  rw[ho]at hk;cases hk
  exact updL_le (he e hee hb)
 ·exact updL_le (hI.2 k ok hk (by simpa [updL,hki]using hL) e hee hb)
theorem grownBy_setCellO(W:World)(b o:Nat)(v:Value):W.grownBy (W.setCell ⟨b,o,none⟩ v) (some b):=
 ⟨rfl,rfl,rfl,(KeepsWalks.setCell W _ v).size,fun k _ hk=>Below.heap_setCell _ _ _ k (fun e=>hk (by rw[e]))⟩
theorem wpIn_append_op{F:Fence}{n:Nat}(w:World){o:Oper}{a:Act}{K:Act→World→Prop}{Q:Exit→Act→World→Prop}(s x:Operand)
 (hop:o.op=Op.call {callee:=Callee.builtin Builtin.append,args:= #[s,x],argTypes:= #[30,30]}) (base:Nat) (v:Value) (xs:List Int) (hs:a.eval s=v) (hown:OwnI w base v xs) (b c:Nat) (y:Int)
 (hx:a.eval x=.slice (some ⟨b,0,none⟩) 1 c) (hc:w.cell? ⟨b,0,none⟩=some (.int .i64 y)) (hl:xs.length≤1000) (b3:base≤w.heap.size)
 (hK:∀v' w',OwnI w' base v' (xs++ [y])→w.grownBy w' v.ownBlock→K (a.put o.dst v') w'):o.wpIn F n Tryz.prog a w K Q:=by
 obtain⟨i0,hi,hz0,hz1,hz2⟩:=info_parts Tryz.infoInt
 obtain⟨v',w',hrun,r1,r2,_⟩:=run_append_own (P:=Tryz.prog) w base 30 o.type 3 i0 (.int .i64 0) 1 8 Tryz.underlying30 hi hz0 hz1 hz2 rfl (by decide) v xs.length (xs.map (Value.int .i64)) hown ⟨b,0,none⟩ 1 c [.int .i64 y] rfl
  (by
    intro j u hj
    match j,hj with
    |0,hj=>simp at hj;subst hj;simpa [Addr.add]using hc) (by intro u hu;simp at hu;subst hu;rfl) (by unfold maxLen;omega) (by omega) b3
 unfold Oper.wpIn
 refine⟨?_,?_⟩
 ·simp[Oper.about,hop,resolve,Target.leads,Sem.run_pure]
 ·rw[Oper.semAt_plain F _ _ (by rw[hop];intro c hc';cases hc')]
  simp[execOp,hop,resolve,invoke,builtin,hs,hx,hrun,Result.andThen]
  exact hK _ _ (OwnI.app r1) r2
theorem OwnI.grown{w w':World}{base:Nat}{v:Value}{xs:List Int}{row:Option Nat}(h:OwnI w base v xs)(hg:w.grownBy w' row)(hne:∀r,row=some r→some r≠v.ownBlock):OwnI w' base v xs:=
 World.ownsRow.kept h hg (by cases hb:v.ownBlock with
  |none=>simp
  |some b=>exact .inr (fun e=>hne b e.symm hb.symm))
theorem OwnI.notBlock{w:World}{base:Nat}{v:Value}{xs:List Int}(h:OwnI w base v xs){b:Nat}{cs:Array Value}{t:TypeId}{fz:Nat×Nat}(hb:w.heap[b]? =some (.cells cs t fz))(ht:t≠3):some b≠v.ownBlock:=by
 intro e
 obtain⟨_,h2⟩:=h
 rcases h2 with ⟨h3,_⟩|⟨g,cap,cur,e1,_,hg,_⟩
 ·rw[h3]at e;simp[Value.ownBlock]at e
 ·rw[e1]at e
  simp[Value.ownBlock]at e
  subst e
  rw[hb]at hg
  cases hg
  exact ht rfl
theorem OwnI.slice{w:World}{base:Nat}{v:Value}{xs:List Int}(h:OwnI w base v xs)(hx:xs≠ []):∃g cap,v=.slice (some ⟨g,0,none⟩) xs.length cap∧xs.length≤cap:=by
 obtain⟨_,h2⟩:=h
 rcases h2 with ⟨_,h3⟩|⟨g,cap,cur,e1,_,_,hc,_⟩
 ·exact absurd (List.length_eq_zero_iff.1 h3) hx
 ·exact⟨g,cap,e1,hc⟩
theorem OwnI.ints{w:World}{base:Nat}{v:Value}{xs:List Int}(h:OwnI w base v xs):∃A c,v=.slice A xs.length c∧xs.length≤c∧IntsR w w.heap.size A xs:=by
 obtain⟨_,h2⟩:=h
 rcases h2 with ⟨h3,h4⟩|⟨g,cap,cur,e1,_,hg,hc,_,hz,ht⟩
 ·have:=List.length_eq_zero_iff.1 h4
  subst this
  exact⟨none,0,h3,Nat.le_refl _,fun hn=>absurd rfl hn⟩
 ·refine⟨some ⟨g,0,none⟩,cap,e1,hc,fun _=>⟨g,0,rfl,(Array.getElem?_eq_some_iff.1 hg).1,fun k hk j v hv=>?_⟩⟩
  rw[List.getElem_map]at hv
  cases j with
  |succ j=>simp at hv
  |zero=>
   simp at hv hk
   subst hv
   have h5:cur[k]? =some (.int .i64 xs[k]):=by
    have h6:(cur.toList.take (xs.length*1))[k]? =(xs.map (Value.int .i64))[k]? :=by rw[ht]
    rw[List.getElem?_take_of_lt (by omega)]at h6
    simpa [hk]using h6
   unfold World.cell?
   simp only[hg]
   simpa using h5
section
variable {w:World} {a:GA} {g:Grd} {f:Int} {m Bo Ba:Nat} {P0:Prop} {D0:Int→Option Rt} {j:Int} {r:Rt} {A:Option Addr} {c Br Bg Bn:Nat} {ds:List Deferred} {Ds:List Nat} {sz:Nat} {pre:List (NA g j)} {D:Int→Option Rt} {b:Bool} {W w2 w3:World}
theorem RI.below(h:RI w a g f m Bo Ba P0 D0 j r A c Br ds Ds sz pre D b W)(hb:Below W.heap.size W w2):RI w a g f m Bo Ba P0 D0 j r A c Br ds Ds sz pre D b w2:=by
 have hbr:Br<W.heap.size:=World.block_lt_of_cell? W _ h.r0
 exact⟨h.rs.below hb,h.dj,(hb.cell (p:=⟨Br,0,none⟩) hbr).trans h.r0,(hb.cell (p:=⟨Br,1,none⟩) hbr).trans h.r1,(Rw.belowB (w0:=W) h.ri hb (Nat.le_refl _)).more hb.size,h.mks.below hb,Nat.le_trans h.sz hb.size,h.pr⟩
theorem RI.keep(h:RI w a g f m Bo Ba P0 D0 j r A c Br ds Ds sz pre D b W)(hb:Below W.heap.size W w2)(x:NA g j)(hw:¬worse D x.1.1.1 (ext r x.1.1))(h3:Bg<Bn)(h4:Bn<sz):
 KeepsFrom sz W w2∧KpN w.heap.size Bg Bn W w2∧∃D b,RI w a g f m Bo Ba P0 D0 j r A c Br ds Ds sz (pre++ [x]) D b w2:=by
 have hsz:=h.sz
 have k:=h.below hb
 refine⟨KeepsFrom.of_grownBy (grown_of hb) (fun r e=>by cases e),KpN.of hb h.rs.low.size (by omega) (by omega),D,b,k.rs,k.dj,k.r0,k.r1,k.ri,k.mks,k.sz,?_⟩
 rcases k.pr with ⟨e1,e0,e2,e3⟩|e1
 ·refine .inl ⟨e1,e0,e2,fun y hy=>?_⟩
  rcases List.mem_append.1 hy with hy|hy
  ·exact e3 y hy
  ·simp only[List.mem_singleton]at hy;subst hy;rw[←e2];exact hw
 ·exact .inr e1
theorem RI.upd(h:RI w a g f m Bo Ba P0 D0 j r A c Br ds Ds sz pre D b W)(hok:okG g)(hf:0≤f∧f<g.sta.length)(hb:Below W.heap.size W w2)(x:NA g j)(hw:worse D x.1.1.1 (ext r x.1.1))(h1:Ba<Br)(h2:Br<Bg)(h3:Bg<Bn)(h4:Bn<sz)
 (ht:TabD w3 m w2.heap.size (setD D x.1.1.1 (ext r x.1.1))) (hg:w2.grownBy w3 (some m)):
 KeepsFrom sz W (w3.setCell ⟨Ba,0,none⟩ (.bool true))∧KpN w.heap.size Bg Bn W (w3.setCell ⟨Ba,0,none⟩ (.bool true))∧∃D b,RI w a g f m Bo Ba P0 D0 j r A c Br ds Ds sz (pre++ [x]) D b (w3.setCell ⟨Ba,0,none⟩ (.bool true)):=by
 have hsz:=h.sz
 have n1:=h.rs.o1
 have n2:=h.rs.o2
 have n3:=h.rs.o3
 have k:=h.below hb
 have hinv:=k.rs.inv.step k.dj x.2 hw
 have krs:=k.rs.upd hinv ht hg
 have hg2:=grownBy_setCell' w3 Ba (.bool true)
 have hn1:∀k,k≠m→some k≠some m:=fun k hk e=>by cases e;exact hk rfl
 have hn2:∀k,k≠Ba→some k≠some Ba:=fun k hk e=>by cases e;exact hk rfl
 have hnm:m ∉ Ds:=by obtain⟨l,hl,_⟩:=k.rs.tab;exact k.mks.notMap hl
 have hno:∀r,some m=some r→NoInt w2 r:=fun r e=>by
  cases e
  obtain⟨l,hl,_⟩:=k.rs.tab
  intro o y hc
  rw[hl.nocell ⟨m,o,none⟩ rfl]at hc;cases hc
 have km:=k.mks.grown hg (fun r e=>by cases e;exact hnm)
 have hs3:W.heap.size≤w3.heap.size:=Nat.le_trans hb.size hg.size
 refine⟨(KeepsFrom.of_grownBy (grown_of hb) (fun r e=>by cases e)).trans ((KeepsFrom.of_grownBy hg (fun r e=>by cases e;omega)).trans ((KeepsOthers.setCell _ _ _).from _)),⟨?_,?_,?_⟩,setD D x.1.1.1 (ext r x.1.1),true,krs.setFlag true,?_,?_,?_,?_,?_,?_,.inr ⟨rfl,?_⟩⟩
 ·exact((hb.mono h.rs.low.size).grown hg (Nat.le_trans h.rs.low.size hb.size) (fun r e=>by cases e;omega)).setCell (p:=⟨Ba,0,none⟩) (by show w.heap.size≤Ba;omega) _
 ·exact(Below.heap_setCell _ _ _ _ (by show Bg≠Ba;omega)).trans ((hg.block Bg (by have:=hb.size;omega) (fun e=>by cases e;omega)).trans (hb.block Bg (by omega)))
 ·exact(Below.heap_setCell _ _ _ _ (by show Bn≠Ba;omega)).trans ((hg.block Bn (by have:=hb.size;omega) (fun e=>by cases e;omega)).trans (hb.block Bn (by omega)))
 ·rw[setD,if_neg (fun e=>nb_ne x e.symm)];exact k.dj
 ·exact hg2.cell (hg.cell k.r0 (hn1 Br (by omega))) (hn2 Br (by omega))
 ·exact hg2.cell (hg.cell k.r1 (hn1 Br (by omega))) (hn2 Br (by omega))
 ·exact Rw.more ((k.ri.grownN hg hno).grownN hg2 (fun r e=>by cases e;exact noInt_box krs.flag)) (Nat.le_trans hg.size hg2.size)
 ·exact km.grown hg2 (fun r e=>by cases e;exact km.notCells krs.flag)
 ·exact Nat.le_trans (Nat.le_trans k.sz hg.size) hg2.size
 ·have hx:=mu_step (n:=g.sta.length) x.1.2.1 (k.rs.inv.rtsx hok.ns hf k.dj x.1) (fun r hr=>k.rs.inv.rts hok.ns hf hr) hw
  rcases k.pr with ⟨_,_,e2,_⟩|⟨_,e2⟩
  ·rw[←e2];exact hx
  ·omega
theorem RI.ownFrom(hDs:∀D∈Ds,D<sz)(h1:Ba<Br)(h2:Br<sz):OwnFrom sz (fun(pre:List (NA g j)) W=>∃D b,RI w a g f m Bo Ba P0 D0 j r A c Br ds Ds sz pre D b W):=fun pre W W' row hs hg hr=>by
 obtain⟨D,b,h⟩:=hs
 have hne:∀k,k<sz→some k≠row:=fun k hk e=>by have:=(hr k e.symm).1;omega
 exact⟨D,b,h.rs.own hg hr (by omega) (),h.dj,hg.cell h.r0 (hne Br h2),hg.cell h.r1 (hne Br h2),Rw.more (h.ri.grownN hg (fun r e=>by obtain⟨_,o,h2,h3⟩:=hr r e;exact noInt_other h2 h3)) hg.size,h.mks.grown hg (fun r e hm=>by have:=hDs r hm;have:=(hr r e).1;omega),Nat.le_trans h.sz hg.size,h.pr⟩
end
end Go.Proofs.YtehnikhicnnnhaaGreatDoor
namespace Go.Proofs.YtehnikhicnnnhaaGreatDoor
theorem sent_ok{g:Grd}{m:Mir}(ho:okG g)(hu:Uniq g.mov)(h:okMir g m):okMir g (sentG g m):=by
 unfold sentG
 cases hl:ledG g m (homeG g (turnM m))with
 |none=>exact h
 |some m'=>exact(led_ok ho hu h hl).1
theorem gone_ok{g:Grd}{m:Mir}(ho:okG g)(hu:Uniq g.mov)(h:okMir g m):okMir g (goneG g m):=by
 unfold goneG
 split
 ·exact h
 ·rename_i hm
  split
  ·rename_i hl
   exact⟨h.loc,h.safe,h.len,h.chain,fun c=>absurd c hm,fun _=>⟨by show 1≤m.left-1;omega,by have:=(h.left1 hm).2;show m.left-1≤lnk g m.loc (turnM m);omega⟩,h.home⟩
  ·rename_i hl
   have hl1:=h.left1 hm
   cases hw:m.way with
   |nil=>exact absurd hw hm
   |cons a l=>
    have ht:turnM m=a:=by unfold turnM;rw[hw];rfl
    have hc:=h.chain
    rw[hw]at hc
    have hc':=chkW_cons.1 hc
    have hh:=h.home
    rw[ht]at hh
    have hs:=(homeG_some hh).1
    have htr:=h.turn
    rw[ht]at htr
    have hlen:=h.len
    rw[hw]at hlen
    simp only[ht,List.tail_cons]
    cases l with
    |nil=>exact⟨htr,hs,by simp,rfl,fun _=>by show(if([]:List Int)= []then m.left-1 else lnk g a (([]:List Int).headD 0))=0;rw[if_pos rfl];omega,fun c=>absurd rfl c,hh⟩
    |cons b l=>
     have h4:=chkW_cons.1 hc'.2.2
     have h5:=lnk_rng ho h4.2.1
     refine⟨htr,hs,by simp at hlen ⊢;omega,hc'.2.2,fun c=>absurd c (by simp),fun _=>?_,?_⟩
     ·show 1≤(if b::l= []then m.left-1 else lnk g a b)∧(if b::l= []then m.left-1 else lnk g a b)≤lnk g a b
      rw[if_neg (by simp)]
      exact⟨h5.2.2.1,Int.le_refl _⟩
     ·exact home_next ho hu h4.2.1 hh
theorem stepM_ok{g:Grd}{f:Fld}{m:Mir}(ho:okG g)(hu:Uniq g.mov)(h:okMir g m):okMir g (stepM g f m):=by
 unfold stepM
 refine gone_ok ho hu ?_
 split
 ·exact sent_ok ho hu h
 ·exact h
theorem sent_same{g:Grd}{m:Mir}(ho:okG g)(hu:Uniq g.mov)(h:okMir g m):(sentG g m).name=m.name∧(sentG g m).sec=m.sec∧(sentG g m).heard=m.heard:=by
 unfold sentG
 cases hl:ledG g m (homeG g (turnM m))with
 |none=>exact⟨rfl,rfl,rfl⟩
 |some m'=>have:=led_ok ho hu h hl;exact⟨this.2.2.2.1,this.2.2.2.2.1,this.2.2.2.2.2.2⟩
theorem gone_same{g:Grd}{m:Mir}:(goneG g m).name=m.name∧(goneG g m).sec=m.sec∧(goneG g m).heard=m.heard:=by
 unfold goneG
 split
 ·exact⟨rfl,rfl,rfl⟩
 ·split<;>exact⟨rfl,rfl,rfl⟩
theorem stepM_same{g:Grd}{f:Fld}{m:Mir}(ho:okG g)(hu:Uniq g.mov)(h:okMir g m):(stepM g f m).name=m.name∧(stepM g f m).sec=m.sec∧(stepM g f m).heard=m.heard:=by
 unfold stepM
 split
 ·have h1:=sent_same ho hu h
  have h2:= @gone_same g (sentG g m)
  exact⟨h2.1.trans h1.1,h2.2.1.trans h1.2.1,h2.2.2.trans h1.2.2⟩
 ·exact gone_same
structure okFld(g:Grd)(f:Fld):Prop where
 tick0:0≤f.tick
 tick1:f.tick≤20000000
 lease0:1≤f.lease
 lease1:f.lease≤100
 n:f.mir.length≤16
 mir:∀m∈f.mir,okMir g m
 heard:∀m∈f.mir,0≤m.heard∧m.heard≤f.tick
theorem chkF_all{g:Grd}{tk:Int}:∀{l:List Mir} {seen:List ByteArray},chkF g tk seen l=0→∀m∈l,okMir g m∧0≤m.heard∧m.heard≤tk
 | [],_,_=>by simp
 |x::l,seen,h=>by
  unfold chkF at h
  split at h
  ·rename_i he;exact absurd h he
  ·rename_i he
   split at h
   ·cases h
   ·rename_i hh
    have he':mirE g tk seen x=0:=Classical.not_not.1 he
    have hw:wayC g x=0:=firstErr_zero he' (wayC g x) (by simp)
    have hr:rng x.heard 0 tk=0:=firstErr_zero he' (rng x.heard 0 tk) (by simp)
    intro m hm
    rcases List.mem_cons.1 hm with rfl|hm
    ·exact⟨wayC_ok hw hh,rng_zero hr⟩
    ·exact chkF_all h m hm
theorem fieldC_grid{g:Grd}{f:Fld}(h:fieldC g f=0):gridC g=0:=by
 unfold fieldC at h
 split at h
 ·rename_i he;exact absurd h he
 ·rename_i he
  exact firstErr_zero (Classical.not_not.1 he) (gridC g) (by simp)
theorem fieldC_fld{g:Grd}{f:Fld}(h:fieldC g f=0):okFld g f:=by
 unfold fieldC at h
 split at h
 ·rename_i he;exact absurd h he
 ·rename_i he
  have he':fldE g f=0:=Classical.not_not.1 he
  have h1:=rng_zero (firstErr_zero he' (rng f.tick 0 10000000) (by simp))
  have h2:=rng_zero (firstErr_zero he' (rng f.lease 1 100) (by simp))
  have h3:=whn_zero (n:=5) (firstErr_zero he' (whn (decide (16<f.mir.length)) 5) (by simp)) (by decide)
  have h4:=chkF_all h
  exact⟨h1.1,Int.le_trans h1.2 (by decide),h2.1,h2.2,by simpa using h3,fun m hm=>(h4 m hm).1,fun m hm=>(h4 m hm).2⟩
theorem step_ok{g:Grd}{f:Fld}(ho:okG g)(hu:Uniq g.mov)(h:okFld g f)(ht:f.tick<20000000):okFld g (stepG g f):=
 ⟨by show 0≤f.tick+1;have:=h.tick0;omega,by show f.tick+1≤_;omega,h.lease0,h.lease1,by show(f.mir.map _).length≤16;rw[List.length_map];exact h.n,
   fun m hm=>by obtain⟨x,hx,rfl⟩:=List.mem_map.1 hm;exact stepM_ok ho hu (h.mir x hx),
   fun m hm=>by
    obtain⟨x,hx,rfl⟩:=List.mem_map.1 hm
    rw[(stepM_same ho hu (h.mir x hx)).2.2]
    have:=h.heard x hx
    exact⟨this.1,by show x.heard≤f.tick+1;omega⟩⟩
theorem heard_ok{g:Grd}{f:Fld}{o:Ord}(ho:okG g)(hu:Uniq g.mov)(h:okFld g f):okFld g (heardG g f o):=by
 unfold heardG
 split
 ·exact h
 ·rename_i hc
  have he:heardE g f o=0:=by
   by_cases he:heardE g f o=0
   ·exact he
   ·exact absurd (.inl he) hc
  refine⟨h.tick0,h.tick1,h.lease0,h.lease1,by show(f.mir.set _ _).length≤16;rw[List.length_set];exact h.n,?_,?_⟩
  all_goals
   intro m hm
   rcases List.mem_or_eq_of_mem_set hm with hm|rfl
  ·exact h.mir m hm
  rotate_left
  ·exact h.heard m hm
  ·exact⟨h.tick0,Int.le_refl _⟩
  ·unfold heardE at he
   split at he
   ·cases he
   ·rename_i hi
    split at he
    ·split at he
     ·rename_i hs
      obtain⟨m',hm'⟩:=Option.isSome_iff_exists.1 hs
      have hlt:=idxF_lt (fun m:Mir=>sEq m.name o.mir) f.mir
      have hk:(findG f o.mir).toNat<f.mir.length:=by unfold findG at hi ⊢;omega
      have hmem:f.mir.getD (findG f o.mir).toNat default∈f.mir:=by
       rw[List.getD_eq_getElem?_getD,List.getElem?_eq_getElem hk];exact List.getElem_mem hk
      have:=(led_ok ho hu (h.mir _ hmem) hm').1
      rw[hm']
      exact⟨this.loc,this.safe,this.len,this.chain,this.left0,this.left1,this.home⟩
     ·cases he
    ·cases he
end Go.Proofs.YtehnikhicnnnhaaGreatDoor
/- The neighbours of a station: next, and the function that it hands back. | Routes: their order; the walks of a grid; what a table of routes must keep so that it ends at the least walks. | The neighbours of a station: the iterator's contract. | The reference's table of least ways, round by round; it is the table to which the program's routes come. | Maps with int keys; the table of routes in a map. | slices.Clone, cmp.Compare, cmp.Or, slices.Compare, compare. | joined: the steps of the safe move that joins two stations, or 0. -/
import Derived.Test.YtehnikhicnnnhaaGreatDoorPa04
import Derived.LoopIn
import Derived.LoopNIn
import Derived.Maps.OwnIn
import Derived.RangeFuncBound
import Derived.RangeFuncNested
import Derived.Shelf.RegionOpen
namespace Go.Proofs.YtehnikhicnnnhaaGreatDoor
open Go.RowKit Go.Shelf
instance (n:Nat) (m:Mov):Decidable (okM n m):=
 decidable_of_iff (0≤m.a∧m.a<m.b∧m.b<n∧1≤m.s∧m.s≤20) ⟨fun h=>⟨h.1,h.2.1,h.2.2.1,h.2.2.2.1,h.2.2.2.2⟩,fun h=>⟨h.a0,h.ab,h.bn,h.s0,h.s1⟩⟩
abbrev NB(g:Grd):= {x:Int×Int // (0≤x.1∧x.1<g.sta.length)∧1≤x.2∧x.2≤20}
def isNb(g:Grd)(v:Int)(m:Mov):Prop:=okM g.sta.length m∧(m.a=v∨m.b=v)∧movFree g m=true
instance (g:Grd) (v:Int) (m:Mov):Decidable (isNb g v m):=inferInstanceAs (Decidable (_∧_∧_))
theorem nb_ok{g:Grd}{v:Int}{m:Mov}(h:isNb g v m):(0≤m.a+m.b-v∧m.a+m.b-v<g.sta.length)∧1≤m.s∧m.s≤20:=by
 obtain⟨⟨h1,h2,h3,h4,h5⟩,h6,_⟩:=h
 refine⟨⟨?_,?_⟩,h4,h5⟩<;>(rcases h6 with h6|h6<;>omega)
def nbOf(g:Grd)(v:Int)(m:Mov):Option (NB g):=if h:isNb g v m then some ⟨(m.a+m.b-v,m.s),nb_ok h⟩else none
def nbrs(g:Grd)(v:Int)(l:List Mov):List (NB g):=l.filterMap (nbOf g v)
theorem nbrs_yes{g:Grd}{v:Int}{l:List Mov}{k:Nat}(hk:k<l.length)(h:isNb g v l[k]):nbrs g v (l.take (k+1))=nbrs g v (l.take k)++ [⟨(l[k].a+l[k].b-v,l[k].s),nb_ok h⟩]:=by
 have e:nbOf g v l[k]=some ⟨(l[k].a+l[k].b-v,l[k].s),nb_ok h⟩:=dif_pos h
 rw[nbrs,nbrs,List.take_succ_eq_append_getElem hk,List.filterMap_append]
 congr 1
 rw[List.filterMap_cons_some e,List.filterMap_nil]
theorem nbrs_no{g:Grd}{v:Int}{l:List Mov}{k:Nat}(hk:k<l.length)(h:¬isNb g v l[k]):nbrs g v (l.take (k+1))=nbrs g v (l.take k):=by
 have e:nbOf g v l[k]=none:=dif_neg h
 rw[nbrs,nbrs,List.take_succ_eq_append_getElem hk,List.filterMap_append,List.filterMap_cons_none e,List.filterMap_nil,List.append_nil]
theorem nbrs_pre(g:Grd)(v:Int)(l:List Mov)(k:Nat):nbrs g v (l.take k) <+: nbrs g v l:=
 ⟨nbrs g v (l.drop k),by unfold nbrs;rw[←List.filterMap_append,List.take_append_drop]⟩
theorem nbrs_lt{g:Grd}{v:Int}{l:List Mov}{k:Nat}(hk:k<l.length)(h:isNb g v l[k]):(nbrs g v (l.take k)).length<(nbrs g v l).length:=by
 have h1:=(nbrs_pre g v l (k+1)).length_le
 rw[nbrs_yes hk h,List.length_append]at h1
 have h2: [(⟨(l[k].a+l[k].b-v,l[k].s),nb_ok h⟩:NB g)].length=1:=rfl
 omega
def KpN(n₀ Bg Bn:Nat)(A B:World):Prop:=Below n₀ A B∧B.heap[Bg]? =A.heap[Bg]? ∧B.heap[Bn]? =A.heap[Bn]?
theorem KpN.t{n₀ Bg Bn:Nat}{A B C:World}(h:KpN n₀ Bg Bn A B)(k:KpN n₀ Bg Bn B C):KpN n₀ Bg Bn A C:=⟨h.1.trans k.1,k.2.1.trans h.2.1,k.2.2.trans h.2.2⟩
theorem KpN.refl(n₀ Bg Bn:Nat)(A:World):KpN n₀ Bg Bn A A:=⟨Below.refl _ _,rfl,rfl⟩
theorem KpN.of{n₀ Bg Bn:Nat}{A B:World}(h:Below A.heap.size A B)(hn:n₀≤A.heap.size)(hg:Bg<A.heap.size)(hb:Bn<A.heap.size):KpN n₀ Bg Bn A B:=⟨h.mono hn,h.block _ hg,h.block _ hb⟩
theorem grown_of{A B:World}(h:Below A.heap.size A B):A.grownBy B none:=⟨h.os,h.tape,h.output,h.size,fun k hk _=>h.block k hk⟩
theorem next_c(pS pM pZ:Option Addr)(cs cm cz:Nat)(g:Grd)(v:Int)(w:World):
 Calls Tryz.prog 112 #[.agg #[.int .i64 g.blur,.slice pS g.sta.length cs,.slice pM g.mov.length cm,.slice pZ g.zon.length cz],.int .i64 v] w fun e w'=>
  e=.returned (.func (.func 163) #[] #[.pointer (some ⟨w.heap.size,0,none⟩),.pointer (some ⟨w.heap.size+1,0,none⟩)])∧
  w'=(w.alloc (.cells #[.int .i64 g.blur,.slice pS g.sta.length cs,.slice pM g.mov.length cm,.slice pZ g.zon.length cz] 38)).alloc (.cells #[.int .i64 v] 3):=by
 have hmf:∀(fn:Fn) (first cap:Array Value) (w:World),(Instr.makeFunc fn first cap).run Tryz.prog w=.ok (.func fn first cap) w:=fun _ _ _ _=>rfl
 go_enter Tryz.func112,Tryz.ntmps112
 go_wp2
 go_ret
 exact⟨by simp,rfl⟩
end Go.Proofs.YtehnikhicnnnhaaGreatDoor
namespace Go.Proofs.YtehnikhicnnnhaaGreatDoor
def lexv(a:Int)(l:List Int):Int:=l.foldl (fun a d=>a*16+d) a
theorem lexv_nil(a:Int):lexv a []=a:=rfl
theorem lexv_cons(a d:Int)(l:List Int):lexv a (d::l)=lexv (a*16+d) l:=rfl
theorem lexv_snoc(a d:Int)(l:List Int):lexv a (l++ [d])=lexv a l*16+d:=by simp[lexv,List.foldl_append]
def Dig(l:List Int):Prop:=∀d∈l,0≤d∧d<16
theorem Dig.tail{d:Int}{l:List Int}(h:Dig (d::l)):Dig l:=fun x hx=>h x (List.mem_cons_of_mem _ hx)
theorem Dig.head{d:Int}{l:List Int}(h:Dig (d::l)):0≤d∧d<16:=h d (List.mem_cons_self ..)
theorem lexv_lt:∀{l l':List Int} {a b:Int},l.length=l'.length→Dig l→Dig l'→a<b→lexv a l<lexv b l'
 | [],[],_,_,_,_,_,h=>h
 | [],_::_,_,_,h,_,_,_=>by simp at h
 |_::_,[],_,_,h,_,_,_=>by simp at h
 |d::l,e::l',a,b,h,h1,h2,hab=>by
  rw[lexv_cons,lexv_cons]
  have k1:=h1.head
  have k2:=h2.head
  exact lexv_lt (by simpa using h) h1.tail h2.tail (by omega)
def cmpI(a b:Int):Int:=if a<b then -1 else if b<a then 1 else 0
def cmpL:List Int→List Int→Int
 | [],[]=>0
 | [],_::_=> -1
 |_::_,[]=>1
 |x::l,y::l'=>if cmpI x y=0 then cmpL l l' else cmpI x y
theorem cmpI_cases(a b:Int):(a<b∧cmpI a b= -1)∨(a=b∧cmpI a b=0)∨(b<a∧cmpI a b=1):=by
 unfold cmpI
 by_cases h:a<b
 ·exact .inl ⟨h,by rw[if_pos h]⟩
 ·by_cases h2:b<a
  ·exact .inr (.inr ⟨h2,by rw[if_neg h,if_pos h2]⟩)
  ·exact .inr (.inl ⟨by omega,by rw[if_neg h,if_neg h2]⟩)
theorem cmpL_lex:∀{l l':List Int} {a:Int},l.length=l'.length→Dig l→Dig l'→
 (cmpL l l'= -1∧lexv a l<lexv a l')∨(cmpL l l'=0∧l=l')∨(cmpL l l'=1∧lexv a l'<lexv a l)
 | [],[],_,_,_,_=>.inr (.inl ⟨rfl,rfl⟩)
 | [],_::_,_,h,_,_=>by simp at h
 |_::_,[],_,h,_,_=>by simp at h
 |d::l,e::l',a,h,h1,h2=>by
  rw[cmpL,lexv_cons,lexv_cons]
  rcases cmpI_cases d e with ⟨h3,h4⟩|⟨h3,h4⟩|⟨h3,h4⟩
  ·left;rw[h4,if_neg (by decide)];exact⟨rfl,lexv_lt (by simpa using h) h1.tail h2.tail (by omega)⟩
  ·subst h3
   rw[h4,if_pos rfl]
   rcases cmpL_lex (a:=a*16+d) (show l.length=l'.length by simpa using h) h1.tail h2.tail with h5|⟨h5,h6⟩|h5
   ·exact .inl h5
   ·exact .inr (.inl ⟨h5,by rw[h6]⟩)
   ·exact .inr (.inr h5)
  ·right;right;rw[h4,if_neg (by decide)];exact⟨rfl,lexv_lt (by simpa using h.symm) h2.tail h1.tail (by omega)⟩
structure Rt where
 st:List Int
 n:Int
instance:DecidableEq Rt:=fun a b=>decidable_of_iff (a.st=b.st∧a.n=b.n) ⟨fun h=>by cases a;cases b;simp_all,fun h=>by rw[h];exact⟨rfl,rfl⟩⟩
def ext(r:Rt)(x:Int×Int):Rt:=⟨r.st++ [x.1],r.n+x.2⟩
def rlt(a b:Rt):Prop:=a.n<b.n∨(a.n=b.n∧(a.st.length<b.st.length∨(a.st.length=b.st.length∧lexv 0 a.st<lexv 0 b.st)))
instance (a b:Rt):Decidable (rlt a b):=inferInstanceAs (Decidable (_∨_))
def rle(a b:Rt):Prop:=¬rlt b a
def rcmp(a b:Rt):Int:=if cmpI a.n b.n≠0 then cmpI a.n b.n else if cmpI a.st.length b.st.length≠0 then cmpI a.st.length b.st.length else cmpL a.st b.st
theorem rcmp_lt{a b:Rt}(ha:Dig a.st)(hb:Dig b.st):rcmp a b<0↔rlt a b:=by
 unfold rcmp rlt
 rcases cmpI_cases a.n b.n with ⟨h1,h2⟩|⟨h1,h2⟩|⟨h1,h2⟩
 ·rw[h2,if_pos (by decide)];exact⟨fun _=>.inl h1,fun _=>by decide⟩
 ·rw[h2,if_neg (by decide)]
  rcases cmpI_cases a.st.length b.st.length with ⟨h3,h4⟩|⟨h3,h4⟩|⟨h3,h4⟩
  ·rw[h4,if_pos (by decide)];exact⟨fun _=>.inr ⟨h1,.inl (by omega)⟩,fun _=>by decide⟩
  ·rw[h4,if_neg (by decide)]
   have h3':a.st.length=b.st.length:=by omega
   rcases cmpL_lex (a:=0) h3' ha hb with ⟨h5,h6⟩|⟨h5,h6⟩|⟨h5,h6⟩
   ·rw[h5];exact⟨fun _=>.inr ⟨h1,.inr ⟨h3',h6⟩⟩,fun _=>by decide⟩
   ·rw[h5,h6];constructor
    ·intro h;exact absurd h (by decide)
    ·omega
   ·rw[h5];constructor
    ·intro h;exact absurd h (by decide)
    ·omega
  ·rw[h4,if_pos (by decide)];constructor
   ·intro h;exact absurd h (by decide)
   ·omega
 ·rw[h2,if_pos (by decide)];constructor
  ·intro h;exact absurd h (by decide)
  ·omega
theorem rle_refl(a:Rt):rle a a:=by unfold rle rlt;omega
theorem rle_trans{a b c:Rt}(h1:rle a b)(h2:rle b c):rle a c:=by unfold rle rlt at *;omega
theorem rle_of_lt{a b:Rt}(h:rlt a b):rle a b:=by unfold rle rlt at *;omega
theorem rlt_of_lt_le{a b c:Rt}(h1:rlt a b)(h2:rle b c):rlt a c:=by unfold rle rlt at *;omega
theorem rlt_irrefl(a:Rt):¬rlt a a:=by unfold rlt;omega
theorem rle_antisymm{a b:Rt}(ha:Dig a.st)(hb:Dig b.st)(h1:rle a b)(h2:rle b a):a=b:=by
 unfold rle rlt at h1 h2
 have e1:a.n=b.n:=by omega
 have e2:a.st.length=b.st.length:=by omega
 have e3:lexv 0 a.st=lexv 0 b.st:=by omega
 rcases cmpL_lex (a:=0) e2 ha hb with ⟨_,h6⟩|⟨_,h6⟩|⟨_,h6⟩
 ·omega
 ·cases a;cases b;simp_all
 ·omega
theorem ext_n(r:Rt)(x:Int×Int):(ext r x).n=r.n+x.2:=rfl
theorem ext_len(r:Rt)(x:Int×Int):(ext r x).st.length=r.st.length+1:=by simp[ext]
theorem ext_lex(r:Rt)(x:Int×Int):lexv 0 (ext r x).st=lexv 0 r.st*16+x.1:=lexv_snoc _ _ _
theorem rle_ext{a b:Rt}{x:Int×Int}(h:rle a b):rle (ext a x) (ext b x):=by
 unfold rle rlt at *;rw[ext_n,ext_n,ext_len,ext_len,ext_lex,ext_lex];omega
theorem rlt_self_ext{a:Rt}{x:Int×Int}(h:1≤x.2):rlt a (ext a x):=by
 unfold rlt;rw[ext_n];omega
inductive Wk (g:Grd) (f:Int):Int→Rt→Prop
 |nil:Wk g f f ⟨[f],0⟩
 |snoc {a:Int} {r:Rt} (x:NB g):Wk g f a r→x∈nbrs g a g.mov→Wk g f x.1.1 (ext r x.1)
theorem Wk.rng{g:Grd}{f b:Int}{r:Rt}(hf:0≤f∧f<g.sta.length)(h:Wk g f b r):(0≤b∧b<g.sta.length)∧∀c∈r.st,0≤c∧c<g.sta.length:=by
 induction h with
 |nil=>exact⟨hf,fun c hc=>by simp at hc;subst hc;exact hf⟩
 |snoc x _ _ ih=>
  refine⟨x.2.1,fun c hc=>?_⟩
  rcases List.mem_append.1 hc with hc|hc
  ·exact ih.2 c hc
  ·simp at hc;subst hc;exact x.2.1
theorem Wk.steps{g:Grd}{f b:Int}{r:Rt}(h:Wk g f b r):(r.st.length:Int)≤r.n+1∧r.n+20≤20*(r.st.length:Int)∧1≤r.st.length:=by
 induction h with
 |nil=>simp
 |snoc x _ _ ih=>
  have:=x.2.2
  rw[ext_n,ext_len]
  omega
theorem Wk.dig{g:Grd}{f b:Int}{r:Rt}(hn:g.sta.length≤16)(hf:0≤f∧f<g.sta.length)(h:Wk g f b r):Dig r.st:=fun c hc=>by
 have:=(h.rng hf).2 c hc;omega
theorem nodup_len:∀(n:Nat) (l:List Int),l.Nodup→(∀c∈l,0≤c∧c<n)→l.length≤n
 |0,l,_,h=>by
  cases l with
  |nil=>simp
  |cons a l=>have:=h a (by simp);omega
 |n+1,l,hd,h=>by
  by_cases hm:(n:Int)∈l
  ·have h1:=nodup_len n (l.erase n) (hd.erase _) (fun c hc=>by
    have hc':=(List.Nodup.mem_erase_iff hd).1 hc
    have:=h c hc'.2
    have:=hc'.1
    omega)
   rw[List.length_erase_of_mem hm]at h1
   omega
  ·have h1:=nodup_len n l hd (fun c hc=>by
    have:=h c hc
    have:c≠n:=fun e=>hm (e▸hc)
    omega)
   omega
structure Inv(g:Grd)(f:Int)(D:Int→Option Rt):Prop where
 start:D f=some ⟨[f],0⟩
 wk:∀{b r},D b=some r→Wk g f b r
 nd:∀{b r},D b=some r→r.st.Nodup
 sup:∀{b r},D b=some r→∀c∈r.st,∃rc,D c=some rc∧rle rc r
def setD(D:Int→Option Rt)(k:Int)(r:Rt):Int→Option Rt:=fun b=>if b=k then some r else D b
def worse(D:Int→Option Rt)(b:Int)(x:Rt):Prop:=D b=none∨∃r,D b=some r∧rlt x r
theorem Inv.init(g:Grd)(f:Int):Inv g f (fun b=>if b=f then some ⟨[f],0⟩else none) where
 start:=by simp
 wk:=fun {b r} h=>by
  split at h
  ·rename_i e;subst e;cases h;exact Wk.nil
  ·cases h
 nd:=fun {b r} h=>by
  split at h
  ·cases h;simp
  ·cases h
 sup:=fun {b r} h c hc=>by
  split at h
  ·cases h;simp at hc;subst hc;exact⟨_,by simp,rle_refl _⟩
  ·cases h
theorem Inv.small{g:Grd}{f b:Int}{D:Int→Option Rt}{r:Rt}(h:Inv g f D)(hf:0≤f∧f<g.sta.length)(hb:D b=some r):r.st.length≤g.sta.length:=
 nodup_len _ _ (h.nd hb) ((h.wk hb).rng hf).2
theorem Inv.step{g:Grd}{f a:Int}{D:Int→Option Rt}{r:Rt}{x:NB g}(h:Inv g f D)(ha:D a=some r)(hx:x∈nbrs g a g.mov)(hw:worse D x.1.1 (ext r x.1)):
 Inv g f (setD D x.1.1 (ext r x.1)):=by
 have hlt:rlt r (ext r x.1):=rlt_self_ext x.2.2.1
 have hnot:x.1.1 ∉ r.st:=fun hm=>by
  obtain⟨rc,h1,h2⟩:=h.sup ha _ hm
  rcases hw with hw|⟨r',h3,h4⟩
  ·rw[h1]at hw;cases hw
  ·rw[h1]at h3;cases h3
   exact rlt_irrefl _ (rlt_of_lt_le h4 (rle_trans h2 (rle_of_lt hlt)))
 refine⟨?_,?_,?_,?_⟩
 ·unfold setD
  split
  ·rename_i e
   exfalso
   rcases hw with hw|⟨r',h3,h4⟩
   ·rw[←e,h.start]at hw;cases hw
   ·rw[←e,h.start]at h3;cases h3
    have h5:=(h.wk ha).steps
    have h6:=x.2.2.1
    unfold rlt at h4
    rw[ext_n]at h4
    simp only at h4
    omega
  ·exact h.start
 ·intro b r' hb
  unfold setD at hb
  split at hb
  ·rename_i e;cases hb;rw[e];exact Wk.snoc x (h.wk ha) hx
  ·exact h.wk hb
 ·intro b r' hb
  unfold setD at hb
  split at hb
  ·cases hb
   refine List.nodup_append.2 ⟨h.nd ha,by simp,fun c hc d hd=>?_⟩
   simp at hd;subst hd
   exact fun e=>hnot (e▸hc)
  ·exact h.nd hb
 ·intro b r' hb c hc
  have key:∀rr:Rt,(∃rc,D c=some rc∧rle rc rr)→∃rc,setD D x.1.1 (ext r x.1) c=some rc∧rle rc rr:=by
   rintro rr ⟨rc,h1,h2⟩
   unfold setD
   split
   ·rename_i e
    refine⟨_,rfl,?_⟩
    rcases hw with hw|⟨r3,h3,h4⟩
    ·rw[←e,h1]at hw;cases hw
    ·rw[←e,h1]at h3;cases h3;exact rle_trans (rle_of_lt h4) h2
   ·exact⟨rc,h1,h2⟩
  unfold setD at hb
  split at hb
  ·cases hb
   rcases List.mem_append.1 hc with hc|hc
   ·obtain⟨rc,h1,h2⟩:=h.sup ha c hc
    exact key _ ⟨rc,h1,rle_trans h2 (rle_of_lt hlt)⟩
   ·simp at hc;subst hc
    exact⟨_,by simp[setD],rle_refl _⟩
  ·exact key _ (h.sup hb c hc)
def Closed(g:Grd)(D:Int→Option Rt):Prop:=∀a r,D a=some r→∀x∈nbrs g a g.mov,¬worse D x.1.1 (ext r x.1)
theorem Closed.least{g:Grd}{f b:Int}{D:Int→Option Rt}{r:Rt}(hi:Inv g f D)(h:Closed g D)(hw:Wk g f b r):∃rb,D b=some rb∧rle rb r:=by
 induction hw with
 |nil=>exact⟨_,hi.start,rle_refl _⟩
 |snoc x _ hx ih=>
  obtain⟨ra,h1,h2⟩:=ih
  have h3:=h _ _ h1 x hx
  unfold worse at h3
  cases hD:D x.1.1 with
  |none=>exact absurd (.inl hD) h3
  |some rb=>
   refine⟨rb,rfl,rle_trans ?_ (rle_ext h2)⟩
   intro hlt
   exact h3 (.inr ⟨rb,hD,hlt⟩)
def Least(g:Grd)(f b:Int)(r:Rt):Prop:=Wk g f b r∧∀r',Wk g f b r'→rle r r'
theorem Least.unique{g:Grd}{f b:Int}{r r':Rt}(hn:g.sta.length≤16)(hf:0≤f∧f<g.sta.length)(h:Least g f b r)(h':Least g f b r'):r=r':=
 rle_antisymm (h.1.dig hn hf) (h'.1.dig hn hf) (h.2 _ h'.1) (h'.2 _ h.1)
theorem Closed.isLeast{g:Grd}{f b:Int}{D:Int→Option Rt}{r:Rt}(hi:Inv g f D)(h:Closed g D)(hb:D b=some r):Least g f b r:=
 ⟨hi.wk hb,fun r' hr'=>by obtain⟨rb,h1,h2⟩:=Closed.least hi h hr';rw[hb]at h1;cases h1;exact h2⟩
/-! ### A number that sinks with each better route -/
def rcode(r:Rt):Int:=(r.n*32+r.st.length)*16 ^ 17+lexv 0 r.st
def tops:Int:=1000000*16 ^ 17
theorem lexv_bound:∀{l:List Int} {a:Int},Dig l→0≤a→0≤lexv a l∧lexv a l<(a+1)*16 ^ l.length
 | [],a,_,h=>by simp[lexv_nil];omega
 |d::l,a,hd,h=>by
  rw[lexv_cons]
  have h1:=hd.head
  have h2:=lexv_bound (a:=a*16+d) hd.tail (by omega)
  refine⟨h2.1,Int.lt_of_lt_of_le h2.2 ?_⟩
  rw[List.length_cons,Int.pow_succ,Int.mul_comm (16 ^ l.length) 16,←Int.mul_assoc]
  exact Int.mul_le_mul_of_nonneg_right (by omega) (Int.pow_nonneg (by decide))
theorem lexv_small{l:List Int}(hd:Dig l)(hl:l.length≤17):0≤lexv 0 l∧lexv 0 l<16 ^ 17:=by
 have h:=lexv_bound (a:=0) hd (Int.le_refl _)
 refine⟨h.1,Int.lt_of_lt_of_le h.2 ?_⟩
 have:(16:Int) ^ l.length≤16 ^ 17:=by
  have:=Nat.pow_le_pow_right (n:=16) (by decide) hl
  exact_mod_cast this
 omega
structure RtS(r:Rt):Prop where
 len:r.st.length≤17
 n0:0≤r.n
 n1:r.n≤340
 dig:Dig r.st
theorem rcode_lt{a b:Rt}(ha:RtS a)(hb:RtS b)(h:rlt a b):rcode a<rcode b:=by
 have h1:=lexv_small ha.dig ha.len
 have h2:=lexv_small hb.dig hb.len
 have h3:=ha.len
 have h4:=hb.len
 unfold rlt at h
 unfold rcode
 generalize lexv 0 a.st=u at*
 generalize lexv 0 b.st=v at*
 omega
theorem rcode_bound{a:Rt}(ha:RtS a):0≤rcode a∧rcode a<tops:=by
 have h1:=lexv_small ha.dig ha.len
 have h3:=ha.len
 have h5:=ha.n0
 have h6:=ha.n1
 unfold rcode tops
 generalize lexv 0 a.st=u at*
 omega
def dcode(o:Option Rt):Nat:=match o with|some r=>(rcode r).toNat|none=>tops.toNat
def mu(n:Nat)(D:Int→Option Rt):Nat:=((List.range n).map fun b:Nat=>dcode (D (b:Int))).sum
theorem sum_le{f g:Nat→Nat}:∀{l:List Nat},(∀b∈l,f b≤g b)→(l.map f).sum≤(l.map g).sum
 | [],_=>by simp
 |a::l,h=>by
  have h1:=h a (by simp)
  have h2:=sum_le (l:=l) (fun b hb=>h b (by simp[hb]))
  simp only[List.map_cons,List.sum_cons];omega
theorem sum_lt{f g:Nat→Nat}{k:Nat}:∀{l:List Nat},(∀b∈l,f b≤g b)→k∈l→f k<g k→(l.map f).sum<(l.map g).sum
 | [],_,hk,_=>by simp at hk
 |a::l,h,hk,hlt=>by
  have h1:=h a (by simp)
  have h2:=sum_le (l:=l) (fun b hb=>h b (by simp[hb]))
  simp only[List.map_cons,List.sum_cons]
  rcases List.mem_cons.1 hk with e|hk
  ·subst e;omega
  ·have h3:=sum_lt (l:=l) (fun b hb=>h b (by simp[hb])) hk hlt
   omega
theorem mu_step{n:Nat}{D:Int→Option Rt}{k:Int}{x:Rt}(hk:0≤k∧k<n)(hx:RtS x)(hD:∀r,D k=some r→RtS r)(hw:worse D k x):mu n (setD D k x)<mu n D:=by
 have hle:dcode (some x)<dcode (D k):=by
  rcases hw with hw|⟨r,h1,h2⟩
  ·rw[hw];have:=rcode_bound hx;simp only[dcode];omega
  ·rw[h1];have:=rcode_bound hx;have:=rcode_lt hx (hD r h1) h2;simp only[dcode];omega
 obtain⟨j,hj⟩:=Int.eq_ofNat_of_zero_le hk.1
 refine sum_lt (f:=fun b:Nat=>dcode (setD D k x (b:Int))) (g:=fun b:Nat=>dcode (D (b:Int))) (k:=j) (fun b _=>?_) (by rw[List.mem_range];omega) ?_
 ·unfold setD
  split
  ·rename_i e;rw[e];exact Nat.le_of_lt hle
  ·exact Nat.le_refl _
 ·show dcode (setD D k x (j:Int))<dcode (D (j:Int))
  rw[show setD D k x (j:Int)=some x by simp[setD,hj],←hj];exact hle
theorem Inv.rts{g:Grd}{f b:Int}{D:Int→Option Rt}{r:Rt}(h:Inv g f D)(hn:g.sta.length≤16)(hf:0≤f∧f<g.sta.length)(hb:D b=some r):RtS r:=by
 have h1:=h.small hf hb
 have h2:=(h.wk hb).steps
 exact⟨by omega,by omega,by omega,(h.wk hb).dig hn hf⟩
theorem Inv.rtsx{g:Grd}{f b:Int}{D:Int→Option Rt}{r:Rt}(h:Inv g f D)(hn:g.sta.length≤16)(hf:0≤f∧f<g.sta.length)(hb:D b=some r)(x:NB g):RtS (ext r x.1):=by
 have h1:=h.small hf hb
 have h2:=(h.wk hb).steps
 have h3:=x.2
 refine⟨by rw[ext_len];omega,by rw[ext_n];omega,by rw[ext_n];omega,fun c hc=>?_⟩
 rcases List.mem_append.1 hc with hc|hc
 ·exact(h.wk hb).dig hn hf c hc
 ·simp at hc;subst hc;omega
end Go.Proofs.YtehnikhicnnnhaaGreatDoor
namespace Go.Proofs.YtehnikhicnnnhaaGreatDoor
open Go.RowKit Go.Shelf
attribute [local go_sem] Oper.semAt_some
theorem cell_heap{w w':World}{b:Nat}(h:w'.heap[b]? =w.heap[b]?)(o:Nat):w'.cell? ⟨b,o,none⟩=w.cell? ⟨b,o,none⟩:=by
 unfold World.cell?;simp only[h]
set_option maxRecDepth 100000 in
set_option maxHeartbeats 2000000 in
theorem next1_in(n:Nat)(hn:1≤n)(pS pM pZ:Option Addr)(cs cm cz:Nat)(g:Grd)(v:Int)(l Bg Bn n₀:Nat)(hok:okG g)(hv0:0≤v)(hv1:v<g.sta.length)(J Jx:List (NB g)→World→Prop)(W:World)
 (hY:∀pre x W1,x∈nbrs g v g.mov→J pre W1→pre.length<(nbrs g v g.mov).length→YieldAt Fence.wide (n-1) Tryz.prog l #[.int .i64 x.1.1,.int .i64 x.1.2] W1 fun e W'=>
   (e=.returned (.bool true)∧J (pre++ [x]) W'∧KpN n₀ Bg Bn W1 W')∨(e=.returned (.bool false)∧Jx (pre++ [x]) W'))
 (hJ:AbidesFrom W.heap.size J)
 (hg0:W.cell? ⟨Bg,0,none⟩=some (.int .i64 g.blur)) (hg1:W.cell? ⟨Bg,1,none⟩=some (.slice pS g.sta.length cs)) (hg2:W.cell? ⟨Bg,2,none⟩=some (.slice pM g.mov.length cm)) (hg3:W.cell? ⟨Bg,3,none⟩=some (.slice pZ g.zon.length cz))
 (hcn:W.cell? ⟨Bn,0,none⟩=some (.int .i64 v)) (hr:GridR W n₀ ⟨pS,pM,pZ,cs,cm,cz⟩ g) (hn₀:n₀≤W.heap.size) (h0:J [] W):
 CallsIn Fence.wide n Tryz.prog 163 #[.func (.yield l) #[] #[],.pointer (some ⟨Bg,0,none⟩),.pointer (some ⟨Bn,0,none⟩)] W fun e W'=>(∃v,e=.returned v)∧
  ((∃ys,ys=nbrs g v g.mov∧J ys W')∨(∃pre,pre <+: nbrs g v g.mov∧Jx pre W')):=by
 have hns:=hok.ns
 have hnm:=hok.nm
 have HR:=zh hr;clear hr
 refine callsIn_of_wp Tryz.func163 rfl trivial ?_ rfl
 simp only[Tryz.ntmps163,List.size_toArray,List.length_cons,List.length_nil,Nat.reduceAdd,Nat.reduceSub,Array.replicate_succ,Array.replicate_zero,List.push_toArray,List.append_toArray,List.nil_append,List.cons_append]
 gi_wp2
 gi_loopw [10] (fun i wr=>∃k:Nat,k≤g.mov.length∧i=.int .i64 k∧J (nbrs g v (g.mov.take k)) wr∧KpN n₀ Bg Bn W wr∧W.heap.size≤wr.heap.size) (fun i _=>g.mov.length-(intOf i).toNat)
 case atStart=>exact⟨0,Nat.zero_le _,rfl,h0,KpN.refl _ _ _ _,Nat.le_refl _⟩
 case round=>
  obtain⟨k,hk,rfl,hJs,hkp,hsz⟩:=hrel
  have d0:=(cell_heap hkp.2.1 0).trans hg0
  have d1:=(cell_heap hkp.2.1 1).trans hg1
  have d2:=(cell_heap hkp.2.1 2).trans hg2
  have d3:=(cell_heap hkp.2.1 3).trans hg3
  have dn:=(cell_heap hkp.2.2 0).trans hcn
  have hbg:=World.block_lt_of_cell? wr _ d0
  have hbn:=World.block_lt_of_cell? wr _ dn
  simp only at hbg hbn
  by_cases hlt:k<g.mov.length
  ·have HGW:=zh ((HR.out.keep fun b o h=>hkp.1.cell (p:=⟨b,o,none⟩) h).more (by omega:n₀≤wr.heap.size))
   obtain⟨b,off,hA,hbl,c0,c1,c2⟩:=HGW.out.mov.get3 (k:=k) (by simpa using hlt) (by rw[List.getElem_map];rfl)
   simp only at hA
   subst hA
   have hmo:=hok.mov _ (List.getElem_mem hlt)
   have hm0:=hmo.a0
   have hm1:=hmo.ab
   have hm2:=hmo.bn
   have hm3:=hmo.s0
   have hm4:=hmo.s1
   have HCL:=zh (show ∀W2,Below wr.heap.size wr W2→CallsIn Fence.wide (n-1) Tryz.prog 130 #[.agg #[.int .i64 g.blur,.slice pS g.sta.length cs,.slice (some ⟨b,off,none⟩) g.mov.length cm,.slice pZ g.zon.length cz],.int .i64 g.mov[k].a,.int .i64 g.mov[k].b] W2 fun e w'=>e=.returned (.bool (movFree g g.mov[k]))∧Below W2.heap.size W2 w' from
    fun W2 hW2=>callsIn_wide.2 (isFreeM_c _ _ _ _ _ _ g g.mov[k] _ hok hmo ((HGW.out.belowB hW2 (Nat.le_refl _)).more hW2.size)))
   have hn2:n₀≤wr.heap.size:=by omega
   by_cases hq:isNb g v g.mov[k]
   ·have hst:=zh (nbrs_yes hlt hq)
    have HYY:=zh (show ∀W2,Below wr.heap.size wr W2→YieldAt Fence.wide (n-1) Tryz.prog l #[.int .i64 (g.mov[k].a+g.mov[k].b-v),.int .i64 g.mov[k].s] W2 fun e W'=>
     (e=.returned (.bool true)∧J (nbrs g v (g.mov.take k)++ [⟨(g.mov[k].a+g.mov[k].b-v,g.mov[k].s),nb_ok hq⟩]) W'∧KpN n₀ Bg Bn W2 W')∨(e=.returned (.bool false)∧Jx (nbrs g v (g.mov.take k)++ [⟨(g.mov[k].a+g.mov[k].b-v,g.mov[k].s),nb_ok hq⟩]) W')from
     fun W2 h2=>hY _ ⟨(g.mov[k].a+g.mov[k].b-v,g.mov[k].s),nb_ok hq⟩ W2 ((nbrs_pre g v g.mov (k+1)).subset (by rw[nbrs_yes hlt hq];simp)) (hJ _ wr W2 none hJs (grown_of h2) (fun r e=>by cases e)) (nbrs_lt hlt hq))
    have hf:=hq.2.2
    have ha:=hq.2.1
    rw[hf]at HCL
    clear hf
    by_cases ha1:g.mov[k].a=v
    ·have ha1':(g.mov[k].a==v)=true:=by simp[ha1]
     clear ha ha1
     gi_wp2_with ((refine⟨trivial,?_⟩;gi_at_call 130;refine(HCL.out _ ?_).mono ?_;(focus((repeat first|(with_reducible first|assumption|exact Below.refl _ _|refine Bl.drew ?_|refine Bl.drewN ?_ _|refine Bl.alloc ?_ _|refine Bl.set ?_ _ ?_)|(with_reducible apply Bl.step';(focus(with_reducible assumption)))|omega|(focus(simp;done))|(focus(simp;omega)))));rintro e w2 ⟨rfl,hb2⟩;(have e2:w2.cell? ⟨wr.heap.size,2,none⟩=some (.int .i64 g.mov[k].s):=(hb2.cell (p:=⟨wr.heap.size,2,none⟩) (by simp)).trans (by simp));(obtain⟨fn,tmps,assign,body,hy,hR⟩:=HYY.out w2 (by exact zbl))))
     refine hR.mono ?_
     rintro e W3 (⟨rfl,hJ3,hk3⟩|⟨rfl,hJx3⟩)
     ·gi_wp2
      go_roundw
      case rel=>exact⟨k+1,by omega,by go_num,by rw[hst.out];exact hJ3,(hkp.t (KpN.of (by exact zbl) hn2 hbg hbn)).t hk3,by have:=hk3.1.size;have:=hb2.size;simp at this;omega⟩
      case measure=>simp[intOf];omega
     ·gi_wp2
      refine bodyPost_ret (results_none rfl _ _ _) rfl ?_
      exact⟨⟨_,rfl⟩,.inr ⟨_,by rw[←hst.out];exact nbrs_pre _ _ _ _,hJx3⟩⟩
    ·have ha1':(g.mov[k].a==v)=false:=by simp[ha1]
     have ha2':(g.mov[k].b==v)=true:=by simp[ha1]at ha;simp[ha]
     clear ha ha1
     gi_wp2_with ((refine⟨trivial,?_⟩;gi_at_call 130;refine(HCL.out _ ?_).mono ?_;(focus((repeat first|(with_reducible first|assumption|exact Below.refl _ _|refine Bl.drew ?_|refine Bl.drewN ?_ _|refine Bl.alloc ?_ _|refine Bl.set ?_ _ ?_)|(with_reducible apply Bl.step';(focus(with_reducible assumption)))|omega|(focus(simp;done))|(focus(simp;omega)))));rintro e w2 ⟨rfl,hb2⟩;(have e2:w2.cell? ⟨wr.heap.size,2,none⟩=some (.int .i64 g.mov[k].s):=(hb2.cell (p:=⟨wr.heap.size,2,none⟩) (by simp)).trans (by simp));(obtain⟨fn,tmps,assign,body,hy,hR⟩:=HYY.out w2 (by exact zbl))))
     refine hR.mono ?_
     rintro e W3 (⟨rfl,hJ3,hk3⟩|⟨rfl,hJx3⟩)
     ·gi_wp2
      go_roundw
      case rel=>exact⟨k+1,by omega,by go_num,by rw[hst.out];exact hJ3,(hkp.t (KpN.of (by exact zbl) hn2 hbg hbn)).t hk3,by have:=hk3.1.size;have:=hb2.size;simp at this;omega⟩
      case measure=>simp[intOf];omega
     ·gi_wp2
      refine bodyPost_ret (results_none rfl _ _ _) rfl ?_
      exact⟨⟨_,rfl⟩,.inr ⟨_,by rw[←hst.out];exact nbrs_pre _ _ _ _,hJx3⟩⟩
   ·have hst:=zh (nbrs_no hlt hq)
    by_cases ha:g.mov[k].a=v∨g.mov[k].b=v
    ·have hf:movFree g g.mov[k]=false:=by
      cases hf:movFree g g.mov[k]with
      |false=>rfl
      |true=>exact absurd ⟨hmo,ha,hf⟩ hq
     rw[hf]at HCL
     clear hf hq
     by_cases ha1:g.mov[k].a=v
     ·have ha1':(g.mov[k].a==v)=true:=by simp[ha1]
      clear ha ha1
      gi_wp2_with (first|(refine⟨trivial,?_⟩;gi_at_call 130;refine(HCL.out _ ?_).mono ?_;(focus((repeat first|(with_reducible first|assumption|exact Below.refl _ _|refine Bl.drew ?_|refine Bl.drewN ?_ _|refine Bl.alloc ?_ _|refine Bl.set ?_ _ ?_)|(with_reducible apply Bl.step';(focus(with_reducible assumption)))|omega|(focus(simp;done))|(focus(simp;omega)))));rintro e w2 ⟨rfl,hb2⟩)|(refine⟨trivial,?_⟩))
      refine⟨fun _ h=>(by cases h),?_⟩
      gi_wp2
      go_roundw
      case rel=>exact⟨k+1,by omega,by go_num,by rw[hst.out];exact hJ _ wr _ none hJs (grown_of (by exact zbl)) (fun r e=>by cases e),hkp.t (KpN.of (by exact zbl) hn2 hbg hbn),by have:=hb2.size;simp at this;omega⟩
      case measure=>simp[intOf];omega
     ·have ha1':(g.mov[k].a==v)=false:=by simp[ha1]
      have ha2':(g.mov[k].b==v)=true:=by simp[ha1]at ha;simp[ha]
      clear ha ha1
      gi_wp2_with (first|(refine⟨trivial,?_⟩;gi_at_call 130;refine(HCL.out _ ?_).mono ?_;(focus((repeat first|(with_reducible first|assumption|exact Below.refl _ _|refine Bl.drew ?_|refine Bl.drewN ?_ _|refine Bl.alloc ?_ _|refine Bl.set ?_ _ ?_)|(with_reducible apply Bl.step';(focus(with_reducible assumption)))|omega|(focus(simp;done))|(focus(simp;omega)))));rintro e w2 ⟨rfl,hb2⟩)|(refine⟨trivial,?_⟩))
      refine⟨fun _ h=>(by cases h),?_⟩
      gi_wp2
      go_roundw
      case rel=>exact⟨k+1,by omega,by go_num,by rw[hst.out];exact hJ _ wr _ none hJs (grown_of (by exact zbl)) (fun r e=>by cases e),hkp.t (KpN.of (by exact zbl) hn2 hbg hbn),by have:=hb2.size;simp at this;omega⟩
      case measure=>simp[intOf];omega
    ·have ha1:(g.mov[k].a==v)=false:=by simp only[not_or]at ha;simp[ha.1]
     have ha2:(g.mov[k].b==v)=false:=by simp only[not_or]at ha;simp[ha.2]
     clear hq ha
     gi_wp2_with (refine⟨trivial,?_⟩)
     refine⟨fun _ h=>(by cases h),?_⟩
     gi_wp2
     go_roundw
     case rel=>exact⟨k+1,by omega,by go_num,by rw[hst.out];exact hJ _ wr _ none hJs (grown_of (by exact zbl)) (fun r e=>by cases e),hkp.t (KpN.of (by exact zbl) hn2 hbg hbn),by simp;omega⟩
     case measure=>simp[intOf];omega
  ·have hkl:k=g.mov.length:=by omega
   subst hkl
   rw[List.take_length]at hJs
   gi_wp2
   go_end0
   exact⟨⟨_,rfl⟩,.inl ⟨_,rfl,hJs⟩⟩
theorem KpN.low{n₀ Bg Bn:Nat}{A B:World}(h:KpN n₀ Bg Bn A B):Below n₀ A B:=h.1
theorem kpN_b{n₀ Bg Bn:Nat}{w:World}(hn:n₀≤w.heap.size)(hg:Bg<w.heap.size)(hb:Bn<w.heap.size)(W:World)(l:Nat)(o o':Obj)(hl:w.heap.size≤l)(h:W.heap[l]? =some o)(h1:o.isCells=false)(h2:o.isWalk=false):
 KpN n₀ Bg Bn W (W.putObj l o'):=
 ⟨belowK_b (w:=w) hn W l o o' hl h h1 h2,World.putObj_heap_other (by omega),World.putObj_heap_other (by omega)⟩
theorem next_stops(n:Nat)(hn:1≤n)(pS pM pZ:Option Addr)(cs cm cz:Nat)(g:Grd)(v:Int)(Bg Bn n₀:Nat)(hok:okG g)(hv0:0≤v)(hv1:v<g.sta.length)(w:World)(hBg:Bg<w.heap.size)(hBn:Bn<w.heap.size)(hn₀:n₀≤w.heap.size)
 (hg0:w.cell? ⟨Bg,0,none⟩=some (.int .i64 g.blur)) (hg1:w.cell? ⟨Bg,1,none⟩=some (.slice pS g.sta.length cs)) (hg2:w.cell? ⟨Bg,2,none⟩=some (.slice pM g.mov.length cm)) (hg3:w.cell? ⟨Bg,3,none⟩=some (.slice pZ g.zon.length cz))
 (hcn:w.cell? ⟨Bn,0,none⟩=some (.int .i64 v)) (hr:GridR w n₀ ⟨pS,pM,pZ,cs,cm,cz⟩ g):
 SeqStopsK Fence.wide n Tryz.prog 163 #[.pointer (some ⟨Bg,0,none⟩),.pointer (some ⟨Bn,0,none⟩)] (fun x:NB g=> #[.int .i64 x.1.1,.int .i64 x.1.2]) (KpN n₀ Bg Bn) (fun ys=>ys=nbrs g v g.mov)
  (fun pre=>pre <+: nbrs g v g.mov) (nbrs g v g.mov).length w:=fun l J Jx W hW hJ _ hY h0=>
 next1_in n hn pS pM pZ cs cm cz g v l Bg Bn n₀ hok hv0 hv1 J Jx W (fun pre x W1 _=>hY pre x W1) hJ ((hW.cell (p:=⟨Bg,0,none⟩) hBg).trans hg0) ((hW.cell (p:=⟨Bg,1,none⟩) hBg).trans hg1) ((hW.cell (p:=⟨Bg,2,none⟩) hBg).trans hg2) ((hW.cell (p:=⟨Bg,3,none⟩) hBg).trans hg3)
  ((hW.cell (p:=⟨Bn,0,none⟩) hBn).trans hcn) (hr.keep fun b o h=>hW.cell (p:=⟨b,o,none⟩) (by show b<_;omega)) (Nat.le_trans hn₀ hW.size) h0
abbrev NA(g:Grd)(v:Int):= {x:NB g // x∈nbrs g v g.mov}
theorem yield_mono{F:Fence}{m:Nat}{P:Program}{l:Nat}{args:Array Value}{W:World}{R R':Ending→World→Prop}(h:YieldAt F m P l args W R)(hr:∀e w',R e w'→R' e w'):YieldAt F m P l args W R':=by
 obtain⟨fn,tmps,assign,body,hy,hR⟩:=h
 exact⟨fn,tmps,assign,body,hy,hR.mono hr⟩
theorem next_stopsA(n:Nat)(hn:1≤n)(pS pM pZ:Option Addr)(cs cm cz:Nat)(g:Grd)(v:Int)(Bg Bn n₀:Nat)(hok:okG g)(hv0:0≤v)(hv1:v<g.sta.length)(w:World)(hBg:Bg<w.heap.size)(hBn:Bn<w.heap.size)(hn₀:n₀≤w.heap.size)
 (hg0:w.cell? ⟨Bg,0,none⟩=some (.int .i64 g.blur)) (hg1:w.cell? ⟨Bg,1,none⟩=some (.slice pS g.sta.length cs)) (hg2:w.cell? ⟨Bg,2,none⟩=some (.slice pM g.mov.length cm)) (hg3:w.cell? ⟨Bg,3,none⟩=some (.slice pZ g.zon.length cz))
 (hcn:w.cell? ⟨Bn,0,none⟩=some (.int .i64 v)) (hr:GridR w n₀ ⟨pS,pM,pZ,cs,cm,cz⟩ g):
 SeqStopsK Fence.wide n Tryz.prog 163 #[.pointer (some ⟨Bg,0,none⟩),.pointer (some ⟨Bn,0,none⟩)] (fun x:NA g v=> #[.int .i64 x.1.1.1,.int .i64 x.1.1.2]) (KpN n₀ Bg Bn) (fun ys=>ys.map Subtype.val=nbrs g v g.mov)
  (fun pre=>pre.map Subtype.val <+: nbrs g v g.mov) (nbrs g v g.mov).length w:=fun l J Jx W hW hJ _ hY h0=>by
 refine(next1_in n hn pS pM pZ cs cm cz g v l Bg Bn n₀ hok hv0 hv1 (fun pre W=>∃p:List (NA g v),p.map Subtype.val=pre∧J p W) (fun pre W=>∃p:List (NA g v),p.map Subtype.val=pre∧Jx p W) W
  (fun pre x W1 hx hj hl=>?_) (fun s A B row hs hg hr=>?_) ((hW.cell (p:=⟨Bg,0,none⟩) hBg).trans hg0) ((hW.cell (p:=⟨Bg,1,none⟩) hBg).trans hg1) ((hW.cell (p:=⟨Bg,2,none⟩) hBg).trans hg2) ((hW.cell (p:=⟨Bg,3,none⟩) hBg).trans hg3)
  ((hW.cell (p:=⟨Bn,0,none⟩) hBn).trans hcn) (hr.keep fun b o h=>hW.cell (p:=⟨b,o,none⟩) (by show b<_;omega)) (Nat.le_trans hn₀ hW.size) ⟨[],rfl,h0⟩).mono ?_
 ·obtain⟨p,rfl,hj⟩:=hj
  refine yield_mono (hY p ⟨x,hx⟩ W1 hj (by rwa [List.length_map]at hl)) ?_
  rintro e W' (⟨rfl,h1,h2⟩|⟨rfl,h1⟩)
  ·exact .inl ⟨rfl,⟨p++ [⟨x,hx⟩],by simp,h1⟩,h2⟩
  ·exact .inr ⟨rfl,p++ [⟨x,hx⟩],by simp,h1⟩
 ·obtain⟨p,h1,h2⟩:=hs
  exact⟨p,h1,hJ _ _ _ _ h2 hg hr⟩
 ·rintro e W' ⟨he,(⟨ys,rfl,p,h1,h2⟩|⟨pre,h0,p,rfl,h2⟩)⟩
  ·exact⟨he,.inl ⟨p,h1,h2⟩⟩
  ·exact⟨he,.inr ⟨p,h0,h2⟩⟩
end Go.Proofs.YtehnikhicnnnhaaGreatDoor
namespace Go.Proofs.YtehnikhicnnnhaaGreatDoor
def Uniq(l:List Mov):Prop:=l.Pairwise fun m n=>¬(n.a=m.a∧n.b=m.b)
theorem chkM_uniq{g:Grd}{l:List Mov}:∀{pre:List Mov},chkM g pre l=0→(∀m∈pre,∀n∈l,¬(n.a=m.a∧n.b=m.b))∧Uniq l:=by
 induction l with
 |nil=>intro pre _;exact⟨fun _ _ n hn=>by simp at hn,List.Pairwise.nil⟩
 |cons a l ih=>
  intro pre h
  simp only[chkM]at h
  split at h
  ·rename_i he
   have h1:=whn_zero (n:=9) (firstErr_zero he (whn (pre.any (sameM a)) 9) (by simp)) (by decide)
   obtain⟨h2,h3⟩:=ih h
   have h4:∀m∈pre,¬(a.a=m.a∧a.b=m.b):=fun m hm e=>by
    have:=List.any_eq_false.1 h1 m hm
    simp[sameM,e.1,e.2]at this
   refine⟨fun m hm n hn=>?_,List.Pairwise.cons (fun n hn=>h2 a (by simp) n hn) h3⟩
   rcases List.mem_cons.1 hn with rfl|hn
   ·exact h4 m hm
   ·exact h2 m (by simp[hm]) n hn
  ·rename_i he;exact absurd h he
theorem gridC_uniq{g:Grd}(h:gridC g=0):Uniq g.mov:=by
 have h3:=firstErr_zero h (movesC g) (by simp)
 unfold movesC at h3
 split at h3
 ·cases h3
 ·exact(chkM_uniq h3).2
def joins(a b:Int)(m:Mov):Prop:=(m.a=a∧m.b=b)∨(m.a=b∧m.b=a)
instance (a b:Int) (m:Mov):Decidable (joins a b m):=inferInstanceAs (Decidable (_∨_))
def lnkL(g:Grd)(a b:Int):List Mov→Int
 | []=>0
 |m::l=>if joins a b m∧movFree g m=true then m.s else lnkL g a b l
def lnk(g:Grd)(a b:Int):Int:=lnkL g a b g.mov
theorem lnkL_mem{g:Grd}{a b:Int}:∀{l:List Mov},0<lnkL g a b l→∃m∈l,joins a b m∧movFree g m=true∧m.s=lnkL g a b l
 | [],h=>by simp[lnkL]at h
 |m::l,h=>by
  unfold lnkL at h ⊢
  split
  ·rename_i hj;exact⟨m,by simp,hj.1,hj.2,rfl⟩
  ·rename_i hj;rw[if_neg hj]at h
   obtain⟨m',h1,h2⟩:=lnkL_mem h
   exact⟨m',by simp[h1],h2⟩
theorem lnkL_of{g:Grd}{a b:Int}{m:Mov}(hn:∀m:Mov,joins a b m→m.a<m.b∨True):∀{l:List Mov},(∀m∈l,m.a<m.b)→Uniq l→m∈l→joins a b m→movFree g m=true→lnkL g a b l=m.s
 | [],_,_,h,_,_=>by simp at h
 |k::l,ho,hu,h,hj,hf=>by
  have hu':=List.pairwise_cons.1 hu
  rcases List.mem_cons.1 h with rfl|h
  ·rw[lnkL,if_pos ⟨hj,hf⟩]
  ·have h1:=hu'.1 m h
   have h2:=ho k (by simp)
   have h3:=ho m (by simp[h])
   rw[lnkL,if_neg,lnkL_of hn (fun m hm=>ho m (by simp[hm])) hu'.2 h hj hf]
   rintro⟨h4,_⟩
   unfold joins at h4 hj
   omega
theorem nb_mov{g:Grd}{v:Int}{x:NB g}(h:x∈nbrs g v g.mov):∃m∈g.mov,isNb g v m∧x.1=(m.a+m.b-v,m.s):=by
 obtain⟨m,hm,he⟩:=List.mem_filterMap.1 h
 unfold nbOf at he
 split at he
 ·rename_i hn;cases he;exact⟨m,hm,hn,rfl⟩
 ·cases he
theorem mov_nb{g:Grd}{v:Int}{m:Mov}(hm:m∈g.mov)(h:isNb g v m):∃x∈nbrs g v g.mov,x.1=(m.a+m.b-v,m.s):=
 ⟨_,List.mem_filterMap.2 ⟨m,hm,dif_pos h⟩,rfl⟩
theorem nb_lnk{g:Grd}{v:Int}{x:NB g}(hu:Uniq g.mov)(ho:okG g)(h:x∈nbrs g v g.mov):lnk g v x.1.1=x.1.2:=by
 obtain⟨m,hm,hn,e⟩:=nb_mov h
 rw[e]
 refine lnkL_of (fun _ _=>.inr trivial) (fun m hm=>(ho.mov m hm).ab) hu hm ?_ hn.2.2
 unfold joins
 have:=hn.2.1
 show(m.a=v∧m.b=m.a+m.b-v)∨(m.a=m.a+m.b-v∧m.b=v)
 omega
theorem lnk_nb{g:Grd}{a b:Int}(ho:okG g)(h:0<lnk g a b):∃x∈nbrs g a g.mov,x.1=(b,lnk g a b):=by
 obtain⟨m,hm,hj,hf,e⟩:=lnkL_mem h
 have hj':=hj
 unfold joins at hj'
 obtain⟨x,h1,h2⟩:=mov_nb hm (v:=a) ⟨ho.mov m hm,by omega,hf⟩
 refine⟨x,h1,h2.trans ?_⟩
 rw[show m.a+m.b-a=b by omega,e];rfl
theorem lnk_sym(g:Grd)(a b:Int):lnk g a b=lnk g b a:=by
 have:∀l:List Mov,lnkL g a b l=lnkL g b a l:=by
  intro l
  induction l with
  |nil=>rfl
  |cons m l ih=>
   rw[lnkL,lnkL,ih]
   have:joins a b m↔joins b a m:=by unfold joins;omega
   simp only[this]
 exact this _
/-! ### The table -/
def better(x:Rt)(o:Option Rt):Bool:=match o with|none=>true|some r=>decide (rlt x r)
def relax(lk:Int→Int→Int)(out:List (Option Rt))(a:Nat)(nx:List (Option Rt))(b:Nat):List (Option Rt):=
 if 0<lk a b then
  match out.getD a none with
  |none=>nx
  |some r=>if better (ext r (b,lk a b)) (nx.getD b none)then nx.set b (some (ext r (b,lk a b)))else nx
 else nx
def relaxRow(lk:Int→Int→Int)(out:List (Option Rt))(m:Nat)(nx:List (Option Rt))(a:Nat):List (Option Rt):=(List.range m).foldl (relax lk out a) nx
def roundT(lk:Int→Int→Int)(n:Nat)(out:List (Option Rt)):List (Option Rt):=(List.range n).foldl (relaxRow lk out n) out
def table(lk:Int→Int→Int)(n f:Nat):Nat→List (Option Rt)
 |0=>(List.replicate n none).set f (some ⟨[f],0⟩)
 |k+1=>roundT lk n (table lk n f k)
def wayG(g:Grd)(f b:Int):Option Rt:=if b<0 then none else(table (lnk g) g.sta.length f.toNat (g.sta.length-1)).getD b.toNat none
def ole(o p:Option Rt):Prop:=∀r,p=some r→∃r',o=some r'∧rle r' r
theorem ole.refl(o:Option Rt):ole o o:=fun r h=>⟨r,h,rle_refl _⟩
theorem ole.trans{o p q:Option Rt}(h:ole o p)(k:ole p q):ole o q:=fun r hr=>by
 obtain⟨r1,h1,h2⟩:=k r hr
 obtain⟨r2,h3,h4⟩:=h r1 h1
 exact⟨r2,h3,rle_trans h4 h2⟩
theorem getD_set{l:List (Option Rt)}{b c:Nat}{x:Option Rt}:(l.set b x).getD c none=if b=c∧c<l.length then x else l.getD c none:=by
 rw[List.getD_eq_getElem?_getD,List.getD_eq_getElem?_getD,List.getElem?_set]
 by_cases h:b=c
 ·subst h
  by_cases h2:b<l.length
  ·simp[h2]
  ·simp[h2]
 ·simp[h]
theorem relax_len(lk out a nx b):(relax lk out a nx b).length=nx.length:=by
 unfold relax
 split
 ·split
  ·rfl
  ·split
   ·simp
   ·rfl
 ·rfl
theorem relax_le(lk out a nx b c):ole ((relax lk out a nx b).getD c none) (nx.getD c none):=by
 unfold relax
 split
 ·split
  ·exact ole.refl _
  ·rename_i r _
   split
   ·rename_i hb
    rw[getD_set]
    split
    ·rename_i hc
     intro r' hr'
     rw[hc.1,hr',←hc.1]at hb
     refine⟨_,rfl,rle_of_lt ?_⟩
     exact of_decide_eq_true hb
    ·exact ole.refl _
   ·exact ole.refl _
 ·exact ole.refl _
theorem relax_hit{lk out a nx b r}(h:0<lk (a:Int) (b:Int))(hr:out.getD a none=some r)(hb:b<nx.length):∃r',(relax lk out a nx b).getD b none=some r'∧rle r' (ext r (b,lk a b)):=by
 unfold relax
 rw[if_pos h,hr]
 simp only
 split
 ·rw[getD_set,if_pos ⟨rfl,hb⟩];exact⟨_,rfl,rle_refl _⟩
 ·rename_i hn
  cases e:nx.getD b none with
  |none=>rw[e]at hn;exact absurd rfl hn
  |some r'=>
   rw[e]at hn
   refine⟨r',rfl,?_⟩
   unfold rle
   simpa [better]using hn
theorem relax_from{lk out a nx b c r}(h:(relax lk out a nx b).getD c none=some r):nx.getD c none=some r∨(c=b∧0<lk (a:Int) (b:Int)∧∃ra,out.getD a none=some ra∧r=ext ra (b,lk a b)):=by
 unfold relax at h
 split at h
 ·rename_i hl
  split at h
  ·exact .inl h
  ·rename_i ra hra
   split at h
   ·rw[getD_set]at h
    split at h
    ·rename_i hc;cases h;exact .inr ⟨hc.1.symm,hl,ra,hra,rfl⟩
    ·exact .inl h
   ·exact .inl h
 ·exact .inl h
theorem row_len(lk out m nx a):(relaxRow lk out m nx a).length=nx.length:=by
 unfold relaxRow
 induction m with
 |zero=>rfl
 |succ m ih=>rw[List.range_succ,List.foldl_append,List.foldl_cons,List.foldl_nil,relax_len,ih]
theorem row_succ(lk out m nx a):relaxRow lk out (m+1) nx a=relax lk out a (relaxRow lk out m nx a) m:=by
 unfold relaxRow
 rw[List.range_succ,List.foldl_append,List.foldl_cons,List.foldl_nil]
theorem row_le(lk out m nx a c):ole ((relaxRow lk out m nx a).getD c none) (nx.getD c none):=by
 induction m with
 |zero=>exact ole.refl _
 |succ m ih=>rw[row_succ];exact(relax_le _ _ _ _ _ _).trans ih
theorem row_hit{lk out a nx r}:∀{m b},b<m→0<lk (a:Int) (b:Int)→out.getD a none=some r→b<nx.length→∃r',(relaxRow lk out m nx a).getD b none=some r'∧rle r' (ext r (b,lk a b))
 |0,_,h,_,_,_=>by omega
 |m+1,b,h,hl,hr,hb=>by
  rw[row_succ]
  by_cases e:b=m
  ·subst e;exact relax_hit hl hr (by rw[row_len];exact hb)
  ·obtain⟨r1,h1,h2⟩:=row_hit (m:=m) (by omega) hl hr hb
   obtain⟨r2,h3,h4⟩:=relax_le lk out a (relaxRow lk out m nx a) m b r1 h1
   exact⟨r2,h3,rle_trans h4 h2⟩
theorem row_from{lk out a nx c r}:∀{m},(relaxRow lk out m nx a).getD c none=some r→nx.getD c none=some r∨(0<lk (a:Int) (c:Int)∧∃ra,out.getD a none=some ra∧r=ext ra (c,lk a c))
 |0,h=>.inl h
 |m+1,h=>by
  rw[row_succ]at h
  rcases relax_from h with h|⟨rfl,h1,h2⟩
  ·exact row_from h
  ·exact .inr ⟨h1,h2⟩
def rowsT(lk:Int→Int→Int)(n k:Nat)(out:List (Option Rt)):List (Option Rt):=(List.range k).foldl (relaxRow lk out n) out
theorem rows_succ(lk n k out):rowsT lk n (k+1) out=relaxRow lk out n (rowsT lk n k out) k:=by
 unfold rowsT
 rw[List.range_succ,List.foldl_append,List.foldl_cons,List.foldl_nil]
theorem rows_len(lk n k out):(rowsT lk n k out).length=out.length:=by
 induction k with
 |zero=>rfl
 |succ k ih=>rw[rows_succ,row_len,ih]
theorem rows_le(lk n k out c):ole ((rowsT lk n k out).getD c none) (out.getD c none):=by
 induction k with
 |zero=>exact ole.refl _
 |succ k ih=>rw[rows_succ];exact(row_le _ _ _ _ _ _).trans ih
theorem rows_hit{lk n out r}:∀{k a b},a<k→b<n→0<lk (a:Int) (b:Int)→out.getD a none=some r→b<out.length→∃r',(rowsT lk n k out).getD b none=some r'∧rle r' (ext r (b,lk a b))
 |0,_,_,h,_,_,_,_=>by omega
 |k+1,a,b,h,hn,hl,hr,hb=>by
  rw[rows_succ]
  by_cases e:a=k
  ·subst e;exact row_hit hn hl hr (by rw[rows_len];exact hb)
  ·obtain⟨r1,h1,h2⟩:=rows_hit (k:=k) (by omega) hn hl hr hb
   obtain⟨r2,h3,h4⟩:=row_le lk out n (rowsT lk n k out) k b r1 h1
   exact⟨r2,h3,rle_trans h4 h2⟩
theorem rows_from{lk n out c r}:∀{k},(rowsT lk n k out).getD c none=some r→out.getD c none=some r∨∃a:Nat,a<k∧0<lk (a:Int) (c:Int)∧∃ra,out.getD a none=some ra∧r=ext ra (c,lk a c)
 |0,h=>.inl h
 |k+1,h=>by
  rw[rows_succ]at h
  rcases row_from h with h|⟨h1,h2⟩
  ·rcases rows_from h with h|⟨a,h1,h2⟩
   ·exact .inl h
   ·exact .inr ⟨a,by omega,h2⟩
  ·exact .inr ⟨k,by omega,h1,h2⟩
theorem table_len(lk n f k):(table lk n f k).length=n:=by
 induction k with
 |zero=>simp[table]
 |succ k ih=>exact(rows_len lk n n _).trans ih
theorem table_walk{g:Grd}{f:Nat}(ho:okG g):∀{k b:Nat} {r:Rt},(table (lnk g) g.sta.length f k).getD b none=some r→Wk g f b r∧r.st.length≤k+1
 |0,b,r,h=>by
  unfold table at h
  rw[getD_set]at h
  split at h
  ·rename_i hc;cases h;rw[←hc.1];exact⟨Wk.nil,by simp⟩
  ·rw[List.getD_eq_getElem?_getD,List.getElem?_replicate]at h
   split at h<;>simp at h
 |k+1,b,r,h=>by
  rcases rows_from (show(rowsT (lnk g) g.sta.length g.sta.length (table (lnk g) g.sta.length f k)).getD b none=some r from h)with h|⟨a,_,h1,ra,h2,rfl⟩
  ·obtain⟨h1,h2⟩:=table_walk ho h;exact⟨h1,by omega⟩
  ·obtain⟨h3,h4⟩:=table_walk ho h2
   obtain⟨x,h5,h6⟩:=lnk_nb ho h1
   have:=Wk.snoc x h3 h5
   rw[h6]at this
   exact⟨this,by rw[ext_len];omega⟩
theorem table_least{g:Grd}{f:Nat}(ho:okG g)(hu:Uniq g.mov)(hf:f<g.sta.length):∀{k:Nat} {b:Int} {r:Rt},Wk g f b r→r.st.length≤k+1→
 ∃r',(table (lnk g) g.sta.length f k).getD b.toNat none=some r'∧rle r' r
 |0,b,r,h,hl=>by
  cases h with
  |nil=>refine⟨_,?_,rle_refl _⟩;unfold table;rw[getD_set];simp[hf]
  |snoc x h1 _=>have:=h1.steps;rw[ext_len]at hl;omega
 |k+1,b,r,h,hl=>by
  cases h with
  |nil=>
   obtain⟨r1,h1,h2⟩:=table_least (k:=k) ho hu hf Wk.nil (by simp)
   obtain⟨r2,h3,h4⟩:=rows_le (lnk g) g.sta.length g.sta.length (table (lnk g) g.sta.length f k) _ r1 h1
   exact⟨r2,h3,rle_trans h4 h2⟩
  | @snoc a r x h1 hx=>
    rw[ext_len]at hl
    obtain⟨r1,h2,h3⟩:=table_least (k:=k) ho hu hf h1 (by omega)
    have ha:=(h1.rng ⟨by omega,by omega⟩).1
    have hb:=x.2.1
    have hk:=nb_lnk hu ho hx
    have hs:=x.2.2
    obtain⟨i,hi⟩:=Int.eq_ofNat_of_zero_le ha.1
    obtain⟨j,hj⟩:=Int.eq_ofNat_of_zero_le hb.1
    rw[hi]at h2 hk
    rw[hj]at hk ⊢
    obtain⟨r2,h4,h5⟩:=rows_hit (lk:=lnk g) (n:=g.sta.length) (k:=g.sta.length) (a:=i) (b:=j) (by omega) (by omega) (by omega) h2 (by rw[table_len];omega)
    refine⟨r2,h4,rle_trans h5 ?_⟩
    have e:x.1=((j:Int),lnk g i j):=Prod.ext hj hk.symm
    rw[e]
    exact rle_ext h3
theorem wayG_eq{g:Grd}{f b:Int}{D:Int→Option Rt}(ho:okG g)(hu:Uniq g.mov)(hf:0≤f∧f<g.sta.length)(hi:Inv g f D)(hc:Closed g D):D b=wayG g f b:=by
 obtain⟨i,rfl⟩:=Int.eq_ofNat_of_zero_le hf.1
 have hns:=ho.ns
 unfold wayG
 split
 ·rename_i hb
  cases hD:D b with
  |none=>rfl
  |some r=>have:=((hi.wk hD).rng hf).1;omega
 ·rename_i hb
  obtain⟨j,rfl⟩:=Int.eq_ofNat_of_zero_le (show 0≤b by omega)
  rw[Int.toNat_natCast,Int.toNat_natCast]
  cases hD:D (j:Int)with
  |none=>
   cases hT:(table (lnk g) g.sta.length i (g.sta.length-1)).getD j none with
   |none=>rfl
   |some r=>
    obtain⟨rb,h1,_⟩:=Closed.least hi hc (table_walk ho hT).1
    rw[hD]at h1;cases h1
  |some r=>
   have hw:=hi.wk hD
   have hl:=hi.small hf hD
   obtain⟨r1,h1,h2⟩:=table_least ho hu (by omega) hw (k:=g.sta.length-1) (by omega)
   rw[Int.toNat_natCast]at h1
   rw[h1]
   have hw1:=(table_walk ho h1).1
   have:=(Closed.isLeast hi hc hD).2 r1 hw1
   rw[rle_antisymm (hw.dig hns hf) (hw1.dig hns hf) this h2]
end Go.Proofs.YtehnikhicnnnhaaGreatDoor
namespace Go.Proofs.YtehnikhicnnnhaaGreatDoor
open Go.RowKit
def encP(p:Int×Value):Value×Value:=(.int .i64 p.1,p.2)
def entP(e:MapEntry):Value×Value:=(e.key,e.val)
def MapI(w:World)(r:Nat)(l:List (Int×Value)):Prop:=∃es clock,w.heap[r]? =some (.map es clock)∧es.toList.map entP=l.map encP
def getV(k:Int):List (Int×Value)→Option Value
 | []=>none
 |p::l=>if k=p.1 then some p.2 else getV k l
def setV(k:Int)(v:Value):List (Int×Value)→List (Int×Value)
 | []=> [(k,v)]
 |p::l=>if k=p.1 then(k,v)::l else p::setV k v l
theorem getV_setV(k j:Int)(v:Value)(l:List (Int×Value)):getV j (setV k v l)=if j=k then some v else getV j l:=by
 induction l with
 |nil=>simp[setV,getV]
 |cons p l ih=>
  by_cases h:k=p.1
  ·rw[setV,if_pos h]
   simp only[getV]
   by_cases h2:j=k
   ·rw[if_pos h2,if_pos h2]
   ·rw[if_neg h2,if_neg h2,if_neg (fun e=>h2 (e.trans h.symm))]
  ·rw[setV,if_neg h]
   simp only[getV,ih]
   by_cases h2:j=p.1
   ·rw[if_pos h2,if_pos h2,if_neg (fun e=>h (e.symm.trans h2))]
   ·rw[if_neg h2,if_neg h2]
theorem findNow_int(k:Int):∀(es:List MapEntry) (l:List (Int×Value)) (i:Nat),es.map entP=l.map encP→
 (∃j v,getV k l=some v∧Instr.findNow (.int .i64) (.int .i64 k) es i=some (some (i+j,v))∧(∃e,es[j]? =some e∧e.key=.int .i64 k)∧
   ∀v':Value,(es.modify j fun e=> {e with key:=.int .i64 k,val:=v'}).map entP=(setV k v' l).map encP)∨
 (getV k l=none∧Instr.findNow (.int .i64) (.int .i64 k) es i=some none∧∀v',setV k v' l=l++ [(k,v')])
 | [],[],i,_=>.inr ⟨rfl,rfl,fun _=>rfl⟩
 | [],_::_,_,h=>by simp at h
 |_::_,[],_,h=>by simp at h
 |e::es,p::l,i,h=>by
  simp only[List.map_cons,List.cons.injEq]at h
  obtain⟨h1,h2⟩:=h
  have hk:e.key=.int .i64 p.1:=congrArg Prod.fst h1
  have hv:e.val=p.2:=congrArg Prod.snd h1
  by_cases hkp:k=p.1
  ·left
   refine⟨0,p.2,by rw[getV,if_pos hkp],?_,⟨e,rfl,by rw[hk,hkp]⟩,fun v'=>?_⟩
   ·rw[Instr.findNow,hk,←hkp,hv];simp[Instr.sameNow]
   ·rw[setV,if_pos hkp];simp[List.modify,entP,encP,h2]
  ·have hs:Instr.sameNow (.int .i64) (.int .i64 k) e.key=some false:=by rw[hk];simp[Instr.sameNow,hkp]
   rcases findNow_int k es l (i+1) h2 with ⟨j,v,h3,h4,h5,h6⟩|⟨h3,h4,h5⟩
   ·left
    refine⟨j+1,v,by rw[getV,if_neg hkp];exact h3,?_,by simpa using h5,fun v'=>?_⟩
    ·rw[Instr.findNow,hs];simp only;rw[h4,show i+1+j=i+(j+1) by omega]
    ·rw[setV,if_neg hkp];simp only[List.modify_succ_cons,List.map_cons,h6 v',h1]
   ·right
    refine⟨by rw[getV,if_neg hkp];exact h3,?_,fun v'=>by rw[setV,if_neg hkp,h5 v'];rfl⟩
    rw[Instr.findNow,hs];exact h4
theorem run_checkKey_int{P:Program}{w:World}{K:TypeId}(b:Bool)(k:Int)(hK:P.underlying K=some (.int .i64)):(Instr.checkKey b 10000 K (.int .i64 k)).run P w=.ok () w:=by
 rw[show(10000:Nat)=9999+1 from rfl,Instr.checkKey]
 simp[run_underlying hK]
theorem run_findKey_int{P:Program}{w:World}{K:TypeId}(k:Int)(es:List MapEntry)(x:Option (Nat×Value))(hK:P.underlying K=some (.int .i64))(h:Instr.findNow (.int .i64) (.int .i64 k) es 0=some x):
 (Instr.findKey K (.int .i64 k) es).run P w=.ok x w:=by
 simp[Instr.findKey,run_underlying hK,h]
theorem run_lookup_int{P:Program}{w:World}{T K E:TypeId}{r:Nat}{l:List (Int×Value)}{z:Value}(k:Int)(ok:Bool)(hT:P.underlying T=some (.map K E))(hK:P.underlying K=some (.int .i64))
 (hz:(zeroValue E).run P w=.ok z w) (h:MapI w r l):
 (Instr.lookup T (.map (some r)) (.int .i64 k) ok).run P w=.ok (if ok then .tuple #[(getV k l).getD z,.bool (getV k l).isSome]else(getV k l).getD z) w:=by
 obtain⟨es,clock,hb,hk⟩:=h
 rcases findNow_int k es.toList l 0 hk with ⟨j,v,h1,h2,_,_⟩|⟨h1,h2,_⟩
 ·simp[Instr.lookup,run_underlying hT,run_getObj_map hb,run_checkKey_int _ k hK,run_findKey_int k _ _ hK h2,h1]
 ·simp[Instr.lookup,run_underlying hT,run_getObj_map hb,run_checkKey_int _ k hK,run_findKey_int k _ _ hK h2,h1,hz]
theorem sameBits_int(k:Int):Instr.sameBits 10000 (.int .i64 k) (.int .i64 k)=true:=by
 rw[show(10000:Nat)=9999+1 from rfl,Instr.sameBits];simp
theorem run_update_int{P:Program}{w:World}{T K E:TypeId}{r:Nat}{l:List (Int×Value)}(k:Int)(v:Value)(hT:P.underlying T=some (.map K E))(hK:P.underlying K=some (.int .i64))
 (h:MapI w r l):∃w',(Instr.mapUpdate T (.map (some r)) (.int .i64 k) v).run P w=.ok () w'∧MapI w' r (setV k v l)∧w.grownBy w' (some r):=by
 obtain⟨es,clock,hb,hk⟩:=h
 have hlt:r<w.heap.size:=(Array.getElem?_eq_some_iff.1 hb).1
 rcases findNow_int k es.toList l 0 hk with ⟨j,v0,h1,h2,⟨e,h3,h4⟩,h5⟩|⟨h1,h2,h3⟩
 ·rw[Nat.zero_add]at h2
  refine⟨{w with heap:=w.heap.setIfInBounds r (.map (es.modify j fun e=> {e with key:=.int .i64 k,val:=v}) clock)},?_,?_,?_⟩
  ·have h6:es[j]? =some e:=by rw[←Array.getElem?_toList];exact h3
   simp[Instr.mapUpdate,run_underlying hT,run_getObj_map hb,run_checkKey_int _ k hK,run_findKey_int k _ _ hK h2,run_setObj_map _ hb,Instr.keyThatStays,h6,h4,sameBits_int]
  ·exact⟨_,_,by simp[hlt];exact⟨rfl,rfl⟩,by rw[Array.toList_modify];exact h5 v⟩
  ·exact⟨rfl,rfl,rfl,by simp,fun k hk' hne=>by simp;rw[Array.getElem?_setIfInBounds_ne (by intro e;exact hne (by rw[e]))]⟩
 ·refine⟨{w with heap:=w.heap.setIfInBounds r (.map (es.push {key:=.int .i64 k,val:=v,born:=clock}) (clock+1))},?_,?_,?_⟩
  ·simp[Instr.mapUpdate,run_underlying hT,run_getObj_map hb,run_checkKey_int _ k hK,run_findKey_int k _ _ hK h2,run_setObj_map _ hb]
  ·exact⟨_,_,by simp[hlt];exact⟨rfl,rfl⟩,by rw[h3 v];simp[hk,entP,encP]⟩
  ·exact⟨rfl,rfl,rfl,by simp,fun k hk' hne=>by simp;rw[Array.getElem?_setIfInBounds_ne (by intro e;exact hne (by rw[e]))]⟩
theorem MapI.new(w:World):MapI (w.alloc (.map #[] 0)) w.heap.size []:=⟨#[],0,heap_alloc_new w _,rfl⟩
theorem MapI.lt{w:World}{r:Nat}{l:List (Int×Value)}(h:MapI w r l):r<w.heap.size:=by
 obtain⟨es,clock,hb,_⟩:=h;exact(Array.getElem?_eq_some_iff.1 hb).1
theorem MapI.keep{w w':World}{r:Nat}{l:List (Int×Value)}(h:MapI w r l)(hb:w'.heap[r]? =w.heap[r]?):MapI w' r l:=by
 obtain⟨es,clock,h1,h2⟩:=h;exact⟨es,clock,hb.trans h1,h2⟩
theorem MapI.nocell{w:World}{r:Nat}{l:List (Int×Value)}(h:MapI w r l)(a:Addr)(ha:a.block=r):w.cell? a=none:=by
 obtain⟨es,clock,h1,_⟩:=h
 unfold World.cell?
 rw[ha,h1]
def IntsR(w:World)(B:Nat)(A:Option Addr)(l:List Int):Prop:=Rw w B 1 A (l.map fun x=> [Value.int .i64 x])
theorem IntsR.grown{w w':World}{B r:Nat}{A:Option Addr}{l:List Int}{m:List (Int×Value)}(h:IntsR w B A l)(hm:MapI w r m)(hg:w.grownBy w' (some r)):IntsR w' B A l:=fun hn=>by
 obtain⟨b,off,e,hb,hc⟩:=h hn
 refine⟨b,off,e,hb,fun k hk j v hv=>?_⟩
 have hc1:=hc k hk j v hv
 have hne:b≠r:=fun e=>by rw[hm.nocell _ e]at hc1;cases hc1
 exact(hg.cell hc1 (fun e=>hne (by cases e;rfl)))
def encRt(A:Option Addr)(c:Nat)(r:Rt):Value:=.agg #[.slice A r.st.length c,.int .i64 r.n]
def TabD(w:World)(r B:Nat)(D:Int→Option Rt):Prop:=
 ∃l,MapI w r l∧∀k,(getV k l=none∧D k=none)∨∃A c rt,getV k l=some (encRt A c rt)∧D k=some rt∧rt.st.length≤c∧IntsR w B A rt.st
theorem TabD.lt{w:World}{r B:Nat}{D:Int→Option Rt}(h:TabD w r B D):r<w.heap.size:=by obtain⟨l,h1,_⟩:=h;exact h1.lt
theorem TabD.keep{w w':World}{r B:Nat}{D:Int→Option Rt}(h:TabD w r B D)(hb:w'.heap[r]? =w.heap[r]?)(hk:∀b o,b<B→w'.cell? ⟨b,o,none⟩=w.cell? ⟨b,o,none⟩):TabD w' r B D:=by
 obtain⟨l,h1,h2⟩:=h
 refine⟨l,h1.keep hb,fun k=>?_⟩
 rcases h2 k with h3|⟨A,c,rt,h3,h4,h5,h6⟩
 ·exact .inl h3
 ·exact .inr ⟨A,c,rt,h3,h4,h5,Rw.keep h6 hk⟩
theorem TabD.more{w:World}{r B B':Nat}{D:Int→Option Rt}(h:TabD w r B D)(hB:B≤B'):TabD w r B' D:=by
 obtain⟨l,h1,h2⟩:=h
 refine⟨l,h1,fun k=>?_⟩
 rcases h2 k with h3|⟨A,c,rt,h3,h4,h5,h6⟩
 ·exact .inl h3
 ·exact .inr ⟨A,c,rt,h3,h4,h5,Rw.more h6 hB⟩
theorem TabD.update{P:Program}{w:World}{T K E:TypeId}{r B:Nat}{D:Int→Option Rt}(h:TabD w r B D)(k:Int){A:Option Addr}{c:Nat}{rt:Rt}(hT:P.underlying T=some (.map K E))(hK:P.underlying K=some (.int .i64))
 (hi:IntsR w B A rt.st) (hc:rt.st.length≤c):∃w',(Instr.mapUpdate T (.map (some r)) (.int .i64 k) (encRt A c rt)).run P w=.ok () w'∧TabD w' r B (setD D k rt)∧w.grownBy w' (some r):=by
 obtain⟨l,h1,h2⟩:=h
 obtain⟨w',h3,h4,h5⟩:=run_update_int (P:=P) (w:=w) k (encRt A c rt) hT hK h1
 refine⟨w',h3,⟨_,h4,fun j=>?_⟩,h5⟩
 rw[getV_setV]
 unfold setD
 by_cases e:j=k
 ·rw[if_pos e,if_pos e]
  exact .inr ⟨A,c,rt,rfl,rfl,hc,hi.grown h1 h5⟩
 ·rw[if_neg e,if_neg e]
  rcases h2 j with h6|⟨A',c',rt',h6,h7,h8,h9⟩
  ·exact .inl h6
  ·exact .inr ⟨A',c',rt',h6,h7,h8,IntsR.grown h9 h1 h5⟩
def zeroRt:Value:=.agg #[.slice none 0 0,.int .i64 0]
theorem TabD.look{P:Program}{w:World}{T K E:TypeId}{r B:Nat}{D:Int→Option Rt}(h:TabD w r B D)(k:Int)(hT:P.underlying T=some (.map K E))(hK:P.underlying K=some (.int .i64))
 (hz:∀w:World,(zeroValue E).run P w=.ok zeroRt w):
 (D k=none∧∀ok (W:World),W.heap[r]? =w.heap[r]? →(Instr.lookup T (.map (some r)) (.int .i64 k) ok).run P W=.ok (if ok then .tuple #[zeroRt,.bool false]else zeroRt) W)∨
 (∃A c rt,D k=some rt∧rt.st.length≤c∧IntsR w B A rt.st∧∀ok (W:World),W.heap[r]? =w.heap[r]? →(Instr.lookup T (.map (some r)) (.int .i64 k) ok).run P W=.ok (if ok then .tuple #[encRt A c rt,.bool true]else encRt A c rt) W):=by
 obtain⟨l,h1,h2⟩:=h
 rcases h2 k with ⟨h3,h4⟩|⟨A,c,rt,h3,h4,h5,h6⟩
 ·left
  refine⟨h4,fun ok W hW=>?_⟩
  rw[run_lookup_int k ok hT hK (hz W) (h1.keep hW),h3];rfl
 ·right
  refine⟨A,c,rt,h4,h5,h6,fun ok W hW=>?_⟩
  rw[run_lookup_int k ok hT hK (hz W) (h1.keep hW),h3];rfl
theorem cells_new(W:World)(b:Nat)(hb:b=W.heap.size)(o:Array Value)(t:TypeId)(k:Nat):(W.alloc (.cells o t)).cell? ⟨b,k,none⟩=o[k]? :=by
 subst hb
 have:=heap_alloc_new W (.cells o t)
 unfold World.cell?
 simp only[this]
 cases o[k]? <;>simp
theorem IntsR.get{w:World}{B:Nat}{A:Option Addr}{l:List Int}(h:IntsR w B A l){k:Nat}(hk:k<l.length):∃b off,A=some ⟨b,off,none⟩∧b<B∧w.cell? ⟨b,off+k,none⟩=some (.int .i64 l[k]):=
 Rw.get1 h (k:=k) (by simpa using hk) (by rw[List.getElem_map])
theorem IntsR.at{w:World}{B:Nat}{A:Option Addr}{l:List Int}(h:IntsR w B A l)(hl:l≠ []):∃b off,A=some ⟨b,off,none⟩∧b<B∧∀k (hk:k<l.length),w.cell? ⟨b,off+k,none⟩=some (.int .i64 l[k]):=by
 obtain⟨b,off,e,hb,hc⟩:=h (by simpa using hl)
 refine⟨b,off,e,hb,fun k hk=>?_⟩
 have:=hc k (by simpa using hk) 0 (.int .i64 l[k]) (by simp)
 simpa using this
set_option maxHeartbeats 2000000 in
set_option maxRecDepth 100000 in
theorem clone_c(B:Nat)(A:Option Addr)(c:Nat)(xs:List Int)(w:World)(hl:xs.length≤1000)(h:IntsR w B A xs):
 Calls Tryz.prog 158 #[.slice A xs.length c] w fun e w'=>∃v',e=.returned v'∧OwnI w' w.heap.size v' xs∧Below w.heap.size w w':=by
 have q:∀(w:World) (a:Option Addr) (n c n' c':Nat),(binOp .eql 30 (.slice a n c) (.slice none n' c')).run Tryz.prog w=.ok (.bool a.isNone) w:=fun w a n c n' c'=>Lib.run_eql_slice_nil w _ _ a n c n' c' Tryz.underlying30
 obtain⟨i0,hi,hz0,hz1,hz2⟩:=info_parts Tryz.infoInt
 cases A with
 |none=>
  have hx:xs= []:=by
   by_cases hx:xs= []
   ·exact hx
   ·obtain⟨b,off,e,_⟩:=h.at hx;cases e
  subst hx
  go_enter Tryz.func158,Tryz.ntmps158
  go_wp2
  go_ret
  exact⟨_,rfl,OwnI.nil_ _ _,Below.refl _ _⟩
 |some p=>
  have A:Hid (∀j u,(xs.map (Value.int .i64))[j]? =some u→w.cell? (p.add j)=some u):=zh (by
   intro j u hj
   have hj':j<xs.length:=by have:=(List.getElem?_eq_some_iff.1 hj).1;simpa using this
   obtain⟨b,off,e,_,hc⟩:=h.at (by intro e;subst e;simp at hj')
   cases e
   rw[Addr.add_lit,hc j hj']
   rw[List.getElem?_map,List.getElem?_eq_getElem hj']at hj
   exact hj)
  clear h
  go_enter Tryz.func158,Tryz.ntmps158
  go_wp2_with (at_builtin;refine wpList_append_own _ rfl _ _ 30 rfl w.heap.size 3 i0 (.int .i64 0) 1 8 Tryz.underlying30 hi hz0 hz1 hz2 rfl (by decide) _ _ _ rfl (World.ownsRow_made w #[] 0 (Nat.le_refl _) (Nat.zero_le _) rfl) p xs.length c (xs.map (Value.int .i64)) rfl ?qc1 ?qc2 ?qc3 ?qc4 ?qc5 ?qc6 ?_)
  case qc1=>simp
  case qc2=>
   intro j u hj
   exact Lib.cell?_alloc_some _ (A.out j u hj)
  case qc3=>intro u hu;obtain⟨x,_,rfl⟩:=List.mem_map.1 hu;rfl
  case qc4=>unfold maxLen;omega
  case qc5=>omega
  case qc6=>simp
  intro v' w1 hown hgrow hnil
  go_wp2
  go_ret
  exact⟨v',rfl,by simpa [OwnI]using hown,((Below.refl _ w).alloc (Nat.le_refl _) _).grown hgrow (by simp) (by intro k hk;simp[Value.ownBlock]at hk;omega)⟩
set_option maxHeartbeats 400000 in
theorem isNaN_c(a:Int)(w:World):Calls Tryz.prog 216 #[.int .i64 a] w fun e w'=>e=.returned (.bool false)∧w=w':=by
 go_enter Tryz.func216,Tryz.ntmps216
 go_wp2
 go_ret
 exact⟨rfl,rfl⟩
set_option maxHeartbeats 1000000 in
theorem cmpI_c(a b:Int)(w:World):Calls Tryz.prog 200 #[.int .i64 a,.int .i64 b] w fun e w'=>e=.returned (.int .i64 (cmpI a b))∧w=w':=by
 go_enter Tryz.func200,Tryz.ntmps200
 rcases cmpI_cases a b with ⟨h1,h2⟩|⟨h1,h2⟩|⟨h1,h2⟩
 ·have h3:¬b<a:=by omega
  rw[h2]
  clear h2
  go_wp2_with (go_at_call 216;refine(isNaN_c _ _).mono ?_;rintro e w' ⟨rfl,rfl⟩)
  go_ret
  exact⟨rfl,rfl⟩
 ·subst h1
  rw[h2]
  clear h2
  go_wp2_with (go_at_call 216;refine(isNaN_c _ _).mono ?_;rintro e w' ⟨rfl,rfl⟩)
  go_ret
  exact⟨rfl,rfl⟩
 ·have h3:¬a<b:=by omega
  rw[h2]
  clear h2
  go_wp2_with (go_at_call 216;refine(isNaN_c _ _).mono ?_;rintro e w' ⟨rfl,rfl⟩)
  go_ret
  exact⟨rfl,rfl⟩
set_option maxHeartbeats 400000 in
theorem or_c(b:Nat)(xs:List Int)(w:World)(hx:xs.length≤1000)(hb:CellsAt w b 0 xs):
 Calls Tryz.prog 199 #[.slice (some ⟨b,0,none⟩) xs.length xs.length] w fun e w'=>e=.returned (.int .i64 (firstErr xs))∧w=w':=by
 have hcell:∀k (h:k<xs.length),w.cell? ⟨b,k,none⟩=some (.int .i64 xs[k]):=by
  intro k h
  simpa using hb.get k h
 have HB:=zh hb;clear hb
 have HC:=zh hcell;clear hcell
 go_enter Tryz.func199,Tryz.ntmps199
 go_wp2
 go_loop [8] (fun i=>∃k:Nat,k≤xs.length∧i=.int .i64 k∧Hid (firstErr (xs.take k)=0)) (fun i=>xs.length-(intOf i).toNat)
 case atStart=>exact⟨0,Nat.zero_le _,rfl,zh (by simp[firstErr])⟩
 case round=>
  obtain⟨k,hk,rfl,hf⟩:=hrel
  by_cases hlt:k<xs.length
  ·have hc:=HC.out k hlt
   by_cases hz:xs[k]=0
   ·have hz':(xs[k]!=0)=false:=by simp[hz]
    go_wp2
    go_round
    case rel=>exact⟨k+1,by omega,by go_num,zh ((firstErr_take_succ xs k hlt hf.out).trans hz)⟩
    case measure=>simp[intOf];omega
   ·have hz':(xs[k]!=0)=true:=by simp[hz]
    have HF:=zh (firstErr_at xs k hlt hf.out hz)
    clear hz
    go_wp2
    go_ret
    exact⟨ret_int HF.out.symm,rfl⟩
  ·go_wp2
   go_ret
   have:=hf.out
   rw[List.take_of_length_le (by omega)]at this
   exact⟨ret_int this.symm,rfl⟩
theorem cmpL_drop{l l':List Int}{k:Nat}(h1:k<l.length)(h2:k<l'.length):cmpL (l.drop k) (l'.drop k)=if cmpI l[k] l'[k]=0 then cmpL (l.drop (k+1)) (l'.drop (k+1))else cmpI l[k] l'[k]:=by
 rw[List.drop_eq_getElem_cons h1,List.drop_eq_getElem_cons h2,cmpL]
theorem cmpL_end{l l':List Int}{k:Nat}(h1:l.length≤k)(h2:k≤l'.length):cmpL (l.drop k) (l'.drop k)=if l.length<l'.length∧k<l'.length then -1 else 0:=by
 rw[List.drop_of_length_le h1]
 by_cases h:k<l'.length
 ·rw[List.drop_eq_getElem_cons h,cmpL,if_pos ⟨by omega,h⟩]
 ·rw[List.drop_of_length_le (by omega),cmpL,if_neg (fun c=>h c.2)]
theorem cmpL_long{l l':List Int}{k:Nat}(h1:k<l.length)(h2:l'.length≤k):cmpL (l.drop k) (l'.drop k)=1:=by
 rw[List.drop_eq_getElem_cons h1,List.drop_of_length_le h2,cmpL]
set_option maxRecDepth 100000 in
set_option maxHeartbeats 2000000 in
theorem cmpS_c(B:Nat)(A A':Option Addr)(c c':Nat)(xs ys:List Int)(w:World)(hl:xs.length≤1000)(h:IntsR w B A xs)(h':IntsR w B A' ys):
 Calls Tryz.prog 201 #[.slice A xs.length c,.slice A' ys.length c'] w fun e w'=>e=.returned (.int .i64 (cmpL xs ys))∧w=w':=by
 have H:=zh h;clear h
 have H':=zh h';clear h'
 go_enter Tryz.func201,Tryz.ntmps201
 go_wp2
 go_loop [11] (fun i=>∃k:Nat,k≤xs.length∧k≤ys.length∧i=.int .i64 k∧Hid (cmpL xs ys=cmpL (xs.drop k) (ys.drop k))) (fun i=>xs.length-(intOf i).toNat)
 case atStart=>exact⟨0,Nat.zero_le _,Nat.zero_le _,rfl,zh (by simp)⟩
 case round=>
  obtain⟨k,hk,hk',rfl,hf⟩:=hrel
  by_cases hlt:k<xs.length
  ·obtain⟨b,off,rfl,_,c0⟩:=H.out.get hlt
   by_cases hlt':k<ys.length
   ·obtain⟨b',off',rfl,_,c1⟩:=H'.out.get hlt'
    have hd:=zh (cmpL_drop hlt hlt')
    by_cases hz:cmpI xs[k] ys[k]=0
    ·have hz':(cmpI xs[k] ys[k]!=0)=false:=by rw[bne_eq_false_iff_eq];exact hz
     have HZ:=zh hz;clear hz
     go_wp2_with (go_at_call 200;refine(cmpI_c _ _ _).mono ?_;rintro e w' ⟨rfl,rfl⟩)
     go_round
     case rel=>exact⟨k+1,by omega,by omega,by go_num,zh (by rw[hf.out,hd.out,if_pos HZ.out])⟩
     case measure=>simp[intOf];omega
    ·have hz':(cmpI xs[k] ys[k]!=0)=true:=by rw[bne_iff_ne];exact hz
     have HZ:=zh hz;clear hz
     go_wp2_with (go_at_call 200;refine(cmpI_c _ _ _).mono ?_;rintro e w' ⟨rfl,rfl⟩)
     go_ret
     exact⟨ret_int (by rw[hf.out,hd.out,if_neg HZ.out]),rfl⟩
   ·have hlong:=zh (cmpL_long (l:=xs) (l':=ys) hlt (by omega))
    have hge:ys.length≤k:=by omega
    go_wp2
    go_ret
    exact⟨ret_int (by rw[hf.out,hlong.out]),rfl⟩
  ·have he:=zh (cmpL_end (l:=xs) (l':=ys) (k:=k) (by omega) hk')
   by_cases hs:xs.length<ys.length
   ·go_wp2
    go_ret
    exact⟨ret_int (by rw[hf.out,he.out,if_pos ⟨hs,by omega⟩]),rfl⟩
   ·go_wp2
    go_ret
    exact⟨ret_int (by rw[hf.out,he.out,if_neg (fun c=>hs c.1)]),rfl⟩
theorem rcmp_or(a b:Rt):rcmp a b=firstErr [cmpI a.n b.n,cmpI a.st.length b.st.length,cmpL a.st b.st]:=by
 unfold rcmp
 simp only[firstErr]
 by_cases h1:cmpI a.n b.n=0
 ·rw[if_neg (by simpa using h1),if_pos h1]
  by_cases h2:cmpI a.st.length b.st.length=0
  ·rw[if_neg (by simpa using h2),if_pos h2]
   split
   ·rename_i h;exact h
   ·rfl
  ·rw[if_pos h2,if_neg h2]
 ·rw[if_pos h1,if_neg h1]
set_option maxRecDepth 100000 in
set_option maxHeartbeats 2000000 in
theorem compare_c(B:Nat)(A A':Option Addr)(c c':Nat)(ra rb:Rt)(w:World)(hl:ra.st.length≤1000)(h:IntsR w B A ra.st)(h':IntsR w B A' rb.st)(hB:B≤w.heap.size):
 Calls Tryz.prog 159 #[encRt A c ra,encRt A' c' rb] w fun e w'=>e=.returned (.int .i64 (rcmp ra rb))∧Below w.heap.size w w':=by
 have H:=zh (Rw.belowB (w0:=w) (w':=((w.alloc (.cells #[.slice A ra.st.length c,.int .i64 ra.n] 168)).alloc (.cells #[.slice A' rb.st.length c',.int .i64 rb.n] 168))) h (by exact zbl) hB);clear h
 have H':=zh (Rw.belowB (w0:=w) (w':=((w.alloc (.cells #[.slice A ra.st.length c,.int .i64 ra.n] 168)).alloc (.cells #[.slice A' rb.st.length c',.int .i64 rb.n] 168))) h' (by exact zbl) hB);clear h'
 have hw:=zh (rcmp_or ra rb)
 have HC:∀W,Sx ((w.alloc (.cells #[.slice A ra.st.length c,.int .i64 ra.n] 168)).alloc (.cells #[.slice A' rb.st.length c',.int .i64 rb.n] 168)) W→Calls Tryz.prog 201 #[.slice A ra.st.length c,.slice A' rb.st.length c'] W fun e w'=>e=.returned (.int .i64 (cmpL ra.st rb.st))∧W=w':=
  fun W hs=>cmpS_c _ A A' c c' ra.st rb.st W hl (Rw.sx H.out (by simp;omega) hs) (Rw.sx H'.out (by simp;omega) hs)
 unfold encRt
 go_enter Tryz.func159,Tryz.ntmps159
 go_wp2_with fail
 go_region_held3 (SSd ((w.alloc (.cells #[.slice A ra.st.length c,.int .i64 ra.n] 168)).alloc (.cells #[.slice A' rb.st.length c',.int .i64 rb.n] 168))) ((refine Sx.goal ?_;exact zsx)) (first|(go_at_call 200;refine(cmpI_c _ _ _).mono ?_;rintro e w' ⟨rfl,rfl⟩)|(go_at_call 201;refine(HC _ ?_).mono ?_;(focus((repeat first|(with_reducible first|assumption|exact Sx.refl _|refine Sx.drew ?_|refine Sx.alloc ?_ _|refine Sx.set ?_ _ ?_)|(with_reducible apply Sx.below';(focus(with_reducible assumption)))|omega|(focus(simp;done))|(focus(simp;omega)))));rintro e w' ⟨rfl,rfl⟩)|(go_at_call 199;refine(or_c _ [cmpI ra.n rb.n,cmpI ra.st.length rb.st.length,cmpL ra.st rb.st] _ ?_ ?_).mono ?_;(focus simp);(focus first|(simp[CellsAt];done)|(simp[CellsAt,cells_new]));rintro e w' ⟨rfl,rfl⟩))
 all_goals
  go_wp2
  go_ret
  exact⟨ret_int hw.out.symm,by exact zbl⟩
end Go.Proofs.YtehnikhicnnnhaaGreatDoor
namespace Go.Proofs.YtehnikhicnnnhaaGreatDoor
open Go.RowKit Go.Shelf
attribute [local go_sem] Oper.semAt_some
theorem ownFrom_cell{β:Type}(B:Nat)(a:Addr)(f:β→Value):OwnFrom B (fun s W=>W.cell? a=some (f s)):=fun _ _ _ _ hs hg hr=>cell_kept hs hg (fun r e=>(hr r e).2)
def lnkN{g:Grd}(t:Int):List (NB g)→Int
 | []=>0
 |x::l=>if x.1.1=t then x.1.2 else lnkN t l
theorem lnkN_cons{g:Grd}{t:Int}(x:NB g)(l:List (NB g)):lnkN t (x::l)=if x.1.1=t then x.1.2 else lnkN t l:=rfl
theorem lnkN_none{g:Grd}{t:Int}:∀{l:List (NB g)},(∀x∈l,x.1.1≠t)→lnkN t l=0
 | [],_=>rfl
 |x::l,h=>by rw[lnkN,if_neg (h x (by simp))];exact lnkN_none fun y hy=>h y (by simp[hy])
theorem lnkN_at{g:Grd}{t:Int}{x:NB g}:∀{l k:List (NB g)},(∀y∈l,y.1.1≠t)→x.1.1=t→lnkN t (l++ [x]++k)=x.1.2
 | [],k,_,hx=>by rw[List.nil_append,List.singleton_append,lnkN,if_pos hx]
 |y::l,k,h,hx=>by
  rw[List.cons_append,List.cons_append,lnkN,if_neg (h y (by simp))]
  exact lnkN_at (fun z hz=>h z (by simp[hz])) hx
theorem lnkN_last{g:Grd}{t:Int}{x:NB g}{l:List (NB g)}(h:∀y∈l,y.1.1≠t)(hx:x.1.1=t):lnkN t (l++ [x])=x.1.2:=by
 simpa using lnkN_at (k:= []) h hx
theorem lnkN_eq{g:Grd}{v t:Int}(ho:okG g):lnkN t (nbrs g v g.mov)=lnk g v t:=by
 have key:∀l:List Mov,(∀m∈l,okM g.sta.length m)→lnkN t (nbrs g v l)=lnkL g v t l:=by
  intro l
  induction l with
  |nil=>intro _;rfl
  |cons m l ih=>
   intro h
   have ih:=ih fun m hm=>h m (by simp[hm])
   have hm:=h m (by simp)
   unfold nbrs at ih ⊢
   by_cases hn:isNb g v m
   ·obtain⟨x,hx⟩:∃x:NB g,x=⟨(m.a+m.b-v,m.s),nb_ok hn⟩:=⟨_,rfl⟩
    have e1:nbOf g v m=some x:=by rw[hx];exact dif_pos hn
    have e2:x.1=(m.a+m.b-v,m.s):=by rw[hx]
    rw[List.filterMap_cons_some e1,lnkN_cons,lnkL,ih,e2]
    have:(m.a+m.b-v=t)↔(joins v t m∧movFree g m=true):=by
     have:=hn.2.1
     unfold joins
     constructor
     ·intro e;exact⟨by omega,hn.2.2⟩
     ·rintro⟨e,_⟩;omega
    simp only[this]
   ·rw[List.filterMap_cons_none (show nbOf g v m=none from dif_neg hn),lnkL,ih,if_neg]
    rintro⟨e,hf⟩
    unfold joins at e
    exact hn ⟨hm,by omega,hf⟩
 exact key _ ho.mov
set_option maxRecDepth 100000 in
set_option maxHeartbeats 2000000 in
theorem joined_c(pS pM pZ:Option Addr)(cs cm cz:Nat)(g:Grd)(v t:Int)(w:World)(hok:okG g)(hv0:0≤v)(hv1:v<g.sta.length)(hr:GridR w w.heap.size ⟨pS,pM,pZ,cs,cm,cz⟩ g):
 Calls Tryz.prog 109 #[.agg #[.int .i64 g.blur,.slice pS g.sta.length cs,.slice pM g.mov.length cm,.slice pZ g.zon.length cz],.int .i64 v,.int .i64 t] w fun e w'=>e=.returned (.int .i64 (lnk g v t))∧Below w.heap.size w w':=by
 refine callsIn_wide (n:=3) |>.1 ?_
 have hln:=zh (lnkN_eq (g:=g) (v:=v) (t:=t) hok)
 have HR:=zh hr;clear hr
 refine callsIn_of_wp_marks Tryz.func109 rfl trivial ?_ rfl
 simp only[Tryz.ntmps109,List.size_toArray,List.length_cons,List.length_nil,Nat.reduceAdd,Nat.reduceSub,Array.replicate_succ,Array.replicate_zero,List.push_toArray,List.append_toArray,List.nil_append,List.cons_append]
 gi_wp2
 refine wpIn_wide.2 (wp_scope_straight ((wpIn_wide (n:=3)).1 ?_))
 gi_wp2
 refine wpIn_label ?_
 gi_wp2_with (refine⟨trivial,?_⟩;gi_at_call 112;refine(callsIn_wide.2 (next_c _ _ _ _ _ _ g v _)).mono ?_;rintro e w' ⟨rfl,rfl⟩)
 obtain⟨W0,hW0⟩:∃W0,W0=((((w.alloc (.cells #[.int .i64 g.blur,.slice pS g.sta.length cs,.slice pM g.mov.length cm,.slice pZ g.zon.length cz] 38)).alloc (.cells #[.int .i64 t] 3)).alloc (.cells #[.int .i64 0] 3)).alloc (.cells #[.int .i64 g.blur,.slice pS g.sta.length cs,.slice pM g.mov.length cm,.slice pZ g.zon.length cz] 38)).alloc (.cells #[.int .i64 v] 3):=⟨_,rfl⟩
 have hB0:Below w.heap.size w W0:=by rw[hW0];exact zbl
 have hsz:W0.heap.size=w.heap.size+5:=by rw[hW0];simp
 have b1:W0.cell? ⟨w.heap.size+1,0,none⟩=some (.int .i64 t):=by rw[hW0];simp[World.cell?_alloc_lt,cells_new]
 have bS:=(((Boxed.new ((w.alloc (.cells #[.int .i64 g.blur,.slice pS g.sta.length cs,.slice pM g.mov.length cm,.slice pZ g.zon.length cz] 38)).alloc (.cells #[.int .i64 t] 3)) 3 (.int .i64 0)).alloc (.cells #[.int .i64 g.blur,.slice pS g.sta.length cs,.slice pM g.mov.length cm,.slice pZ g.zon.length cz] 38)).alloc (.cells #[.int .i64 v] 3))
 rw[World.size_alloc,World.size_alloc,←hW0]at bS
 have hst:=next_stops 2 (by decide) pS pM pZ cs cm cz g v (w.heap.size+1+1+1) (w.heap.size+1+1+1+1) w.heap.size hok hv0 hv1 W0 (by omega) (by omega) (by omega) (by rw[hW0];simp[World.cell?_alloc_lt,cells_new]) (by rw[hW0];simp[World.cell?_alloc_lt,cells_new]) (by rw[hW0];simp[World.cell?_alloc_lt,cells_new]) (by rw[hW0];simp[World.cell?_alloc_lt,cells_new]) (by rw[hW0];simp[cells_new]) (HR.out.belowB (w0:=w) hB0 (Nat.le_refl _))
 have o1:OwnFrom W0.heap.size (fun(_:List (NB g)) W=>W.cell? ⟨w.heap.size+1,0,none⟩=some (.int .i64 t)∧Boxed W (w.heap.size+1+1) 3 (.int .i64 0)):=OwnFrom.and (ownFrom_cell _ _ _) (Own.from (boxed_own _ _ _) _)
 have o2:OwnFrom W0.heap.size (fun(pre:List (NB g)) W=>W.cell? ⟨w.heap.size+1+1,0,none⟩=some (.int .i64 (lnkN t pre))):=ownFrom_cell _ _ _
 rw[←hW0]
 refine wpIn_rangeFunc_ownG rfl (by decide) (gf:=163) (lb:= #[.pointer (some ⟨w.heap.size+1+1+1,0,none⟩),.pointer (some ⟨w.heap.size+1+1+1+1,0,none⟩)]) rfl trivial (enters_of Tryz.func163 (by kernel_rfl) rfl)
  hst KpN.t (kpN_b (by omega) (by omega) (by omega)) (Below.refl _ _) (fun _=>rfl)
  (fun(pre:List (NB g)) W=>((W.cell? ⟨w.heap.size+1,0,none⟩=some (.int .i64 t)∧Boxed W (w.heap.size+1+1) 3 (.int .i64 0))∧Below w.heap.size w W)∧Hid (∀x∈pre,x.1.1≠t))
  (fun c (pre:List (NB g)) W=>(W.cell? ⟨w.heap.size+1+1,0,none⟩=some (.int .i64 (lnkN t pre))∧Below w.heap.size w W)∧(c=.exit 0∧Hid (∃ini last,pre=ini++ [last]∧(∀x∈ini,x.1.1≠t)∧last.1.1=t)))
  (OwnFrom.and (OwnFrom.and o1 (ownFrom_below (Nat.le_refl _) (by omega))) (ownFrom_pure _ _))
  (fun c=>OwnFrom.and (OwnFrom.and o2 (ownFrom_below (Nat.le_refl _) (by omega))) (ownFrom_pure _ _))
  ⟨⟨⟨b1,bS⟩,hB0⟩,zh (by simp)⟩
  ?a1 ?assign ?body ?done ?stop
 case assign=>
  intro l x W K hK
  gi_wp2
  exact hK
 case body=>
  rintro l pre x W ⟨⟨⟨hc1,hbx⟩,hB⟩,hno⟩ _
  have hc2:=hbx.cell
  have hf:=hbx.frozen
  by_cases hx:x.1.1=t
  ·have hx':(x.1.1==t)=true:=by simp[hx]
   have HX:=zh hx;clear hx
   gi_wp2
   exact⟨(KeepsOthers.setCell _ _ _).from _,⟨by rw[lnkN_last hno.out HX.out];exact World.cell?_setCell_same' _ _ _ (by rw[hc2];rfl),hB.setCell (p:=⟨w.heap.size+1+1,0,none⟩) (by simp) _⟩,rfl,zh ⟨pre,x,rfl,hno.out,HX.out⟩⟩
  ·have hx':(x.1.1==t)=false:=by simp[hx]
   have HX:=zh hx;clear hx
   gi_wp2
   refine⟨KeepsFrom.refl _ _,KpN.refl _ _ _ _,⟨⟨hc1,hbx⟩,hB⟩,zh fun y hy=>?_⟩
   rcases List.mem_append.1 hy with hy|hy
   ·exact hno.out y hy
   ·simp only[List.mem_singleton]at hy;subst hy;exact HX.out
 case done=>
  rintro D ys W hD rfl ⟨⟨⟨hc1,hbx⟩,hB⟩,hno⟩ hK
  have hc2:=hbx.cell
  gi_wp2
  rw[Exit.noGoto_ret]
  refine⟨by simp,.inl ⟨_,_,rfl,run_takeDeferred hK,?_⟩⟩
  exact⟨_,results_tmp rfl _ _ _,by rw[←hln.out,lnkN_none hno.out];rfl,hB.trans (belowK_b (w:=w) (Nat.le_refl _) W D _ _ (by omega) hK rfl rfl)⟩
 case stop=>
  rintro D c pre W hD hpre ⟨⟨hc,hB⟩,rfl,hp⟩ hK
  gi_wp2
  rw[Exit.noGoto_ret]
  refine⟨by simp,.inl ⟨_,_,rfl,run_takeDeferred hK,?_⟩⟩
  obtain⟨ini,last,rfl,h1,h2⟩:=hp.out
  obtain⟨rest,h3⟩:=hpre
  exact⟨_,results_tmp rfl _ _ _,by rw[←hln.out,←h3,lnkN_at h1 h2,lnkN_last h1 h2];rfl,hB.trans (belowK_b (w:=w) (Nat.le_refl _) W D _ _ (by omega) hK rfl rfl)⟩
end Go.Proofs.YtehnikhicnnnhaaGreatDoor
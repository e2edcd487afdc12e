/- The arguments of a law, opened; and the condition behind a law that answers true. | What the rows' list of variables gives: the table of powers of ten, and the three kinds. -/
import Derived.Test.YtehnikhicnnnhaaGreatDoorRows
import Derived.Test.YtehnikhicnnnhaaGreatDoorPa18
import Derived.Deep.Slices
namespace Go.Proofs.YtehnikhicnnnhaaGreatDoor
open Go Go.ChangeShapes Go.WideShapes Go.Deep Go.RowKit
section
variable {H:Type} {enc:TypeId×Value→H} {P:Program} {w:World} {base:Nat} {sp:Nat→Bool} {held:Bool}
theorem openRow{α:Type}(E:α→List Value)(Q:α→Prop){t e:TypeId}{sz fuel:Nat}{cs:List Value}{x:DataW H×List MemPlace}(ht:P.underlying t=some (.slice e))(hc:P.cellsOf e=sz)(h0:0<sz)
 (hE:∀(fuel:Nat) (cs:List Value) (x:DataW H×List MemPlace),DataW.trod enc P w base sp held fuel e cs=some x→∃z:α,cs=E z∧Q z)
 (h:DataW.trod enc P w base sp held fuel t cs=some x):
 ∃(A:Option Addr) (l:List α) (c:Nat),cs= [.slice A l.length c]∧l.length≤c∧c≤maxLen∧(A=none→c=0)∧Rw w w.heap.size sz A (l.map E)∧∀z∈l,Q z:=by
 rcases open_slice ht h with ⟨hcs,_⟩|⟨a,len,cap,m,n,D,Pl,hcs,_,hl,hm,hmm,_,hi⟩
 ·exact⟨none,[],0,hcs,Nat.le_refl _,Nat.zero_le _,fun _=>rfl,Rw.nil_,fun z hz=>by simp at hz⟩
 ·have hlm:len≤m:=by rw[hmm];split<;>omega
  have hz:∀i:Fin len,∃z:α,w.cells? base (a.add (i.1*sz)) sz=some (E z)∧Q z:=fun i=>by
   obtain⟨cs',h1,h2⟩:=hi i.1 (by omega)
   obtain⟨z,rfl,hq⟩:=hE _ _ _ h2
   rw[hc]at h1
   exact⟨z,h1,hq⟩
  obtain⟨F,hFQ⟩:∃F:Fin len→α,∀i,w.cells? base (a.add (i.1*sz)) sz=some (E (F i))∧Q (F i):=⟨fun i=>Classical.choose (hz i),fun i=>Classical.choose_spec (hz i)⟩
  have hF:=fun i=>(hFQ i).1
  have hQ:=fun i=>(hFQ i).2
  refine⟨some a,List.ofFn F,cap,by simpa using hcs,by simpa using hl,hm,(fun h=>nomatch h),?_,?_⟩
  ·intro hn
   have hpos:0<len:=by
    rcases Nat.eq_zero_or_pos len with e|e
    ·subst e;simp at hn
    ·exact e
   obtain⟨b,off,spot⟩:=a
   have hk:∀(k:Nat) (hk:k<len) (j:Nat) (v:Value),(E (F ⟨k,hk⟩))[j]? =some v→w.cell? ((Addr.mk b off spot).add (k*sz+j))=some v:=fun k hk j v hv=>by
    obtain⟨_,h2,h3⟩:=World.cells?_some (hF ⟨k,hk⟩)
    have hj:j<sz:=by rw[←h2];exact(List.getElem?_eq_some_iff.1 hv).1
    rw[←Go.Deep.add_add,h3 j hj,hv]
   have h00:∃v,(E (F ⟨0,hpos⟩))[0]? =some v:=by
    obtain⟨_,h2,_⟩:=World.cells?_some (hF ⟨0,hpos⟩)
    exact⟨_,List.getElem?_eq_getElem (by omega)⟩
   obtain⟨v0,hv0⟩:=h00
   have hc0:=hk 0 hpos 0 v0 hv0
   have hspot:spot=none:=by simpa [Addr.add]using World.cell?_spot hc0
   subst hspot
   refine⟨b,off,rfl,?_,fun k hk' j v hv=>?_⟩
   ·have:w.cell? ⟨b,off,none⟩=some v0:=by simpa [Addr.add]using hc0
    exact World.block_lt_of_cell? w _ this
   ·have hk2:k<len:=by simpa using hk'
    have:=hk k hk2 j v (by simpa using hv)
    rw[Go.WideShapes.add_plain]at this
    rw[Nat.add_assoc];exact this
  ·intro z hz
   obtain⟨i,rfl⟩:=(List.mem_ofFn).1 hz
   exact hQ i
theorem trodAll_below(hl:laidOutB P=true){W W':World}(hb:Below W.heap.size W W'){sp':Nat→Bool}:∀{ts:List TypeId} {vs:List Value} {ds:List (DataW H)} {ps:List MemPlace},(∀t∈ts,P.readableRec t=true∧t<P.types.size)→
 DataW.TrodAll enc P W 0 (fun _=>true) true ts vs ds ps→(∀x∈ps,x.block<W.heap.size)→(∀x∈ps,sp' x.block=true)→DataW.TrodAll enc P W' 0 sp' true ts vs ds ps
 | [],[],[],_,_,h,_,_=>h
 | [],_::_,_,_,_,h,_,_=>by simp[DataW.TrodAll]at h
 | [],[],_::_,_,_,h,_,_=>by simp[DataW.TrodAll]at h
 |_::_,[],_,_,_,h,_,_=>by simp[DataW.TrodAll]at h
 |_::_,_::_,[],_,_,h,_,_=>by simp[DataW.TrodAll]at h
 |t::ts,v::vs,d::ds,ps,ht,⟨p,q,h1,h2,e⟩,hlt,hs=>by
  subst e
  obtain⟨r1,r2⟩:=ht t (by simp)
  exact⟨p,q,WideElems.Trod_stays hl r1 r2 h1 (fun x hx=>hb.same (hlt x (by simp[hx]))) (fun x hx=>hs x (by simp[hx])),
   trodAll_below hl hb (fun t' h'=>ht t' (by simp[h'])) h2 (fun x hx=>hlt x (by simp[hx])) (fun x hx=>hs x (by simp[hx])),rfl⟩
theorem trodVars_below(hl:laidOutB P=true){W W':World}(hb:Below W.heap.size W W'){sp':Nat→Bool}:∀{ns:List String} {ds:List (DataW H)} {ps:List MemPlace},
 (∀n∈ns,∀g t,P.globalNamed n=some g→(P.globals[g]?).map (·.type)=some t→P.readableRec t=true∧t<P.types.size)→
 DataW.TrodVars enc P W (fun _=>true) ns ds ps→(∀x∈ps,x.block<W.heap.size)→(∀x∈ps,sp' x.block=true)→DataW.TrodVars enc P W' sp' ns ds ps
 | [],[],_,_,h,_,_=>h
 | [],_::_,_,_,h,_,_=>by simp[DataW.TrodVars]at h
 |_::_,[],_,_,h,_,_=>by simp[DataW.TrodVars]at h
 |n::ns,d::ds,ps,ht,⟨g,t,cs,fuel,p,q,h1,h2,h3,h4,h5,e⟩,hlt,hs=>by
  subst e
  obtain⟨r1,r2⟩:=ht n (by simp) g t h1 h2
  have hg:g<W.heap.size:=by
   have:=h3
   unfold World.var? at this
   simp only[h1,Option.bind_some]at this
   split at this
   ·rename_i he
    exact(Array.getElem?_eq_some_iff.1 he).1
   ·cases this
  have hv:W'.var? P n=some cs:=by
   unfold World.var? at h3 ⊢
   simp only[h1,Option.bind_some]at h3 ⊢
   rw[hb.block g hg];exact h3
  refine⟨g,t,cs,fuel,p,q,h1,h2,hv,DataW.trod_stays (kids_book hl r1) (book_sized r1) (fun h=>by cases h) ⟨r2,book_self t⟩ h4 (fun x hx=>hb.same (hlt x (by simp[hx]))) (fun x hx=>hs x (by simp[hx])),
   trodVars_below hl hb (fun n' h'=>ht n' (by simp[h'])) h5 (fun x hx=>hlt x (by simp[hx])) (fun x hx=>hs x (by simp[hx])),rfl⟩
theorem post_true{f:Func}{s:ChangeSpec}{apart again:Bool}{W W':World}{args:Array Value}{ds gs:List (DataW H)}{before:List MemPlace}{t:TypeId}(hl:laidOutB P=true)
 (hp:∀t∈f.params.toList,P.readableRec t=true∧t<P.types.size)
 (hv:∀n∈s.vars,∀g t,P.globalNamed n=some g→(P.globals[g]?).map (·.type)=some t→P.readableRec t=true∧t<P.types.size)
 (hW:DataW.Whole enc P f.params.toList s.vars apart W args.toList ds gs before) (hr:f.resultTypes= #[t]) (ht:P.underlying t=some .bool)
 (hfn:s.fn H (ds++gs)=⟨[.lit (.bool true)],ds,gs⟩) (hb:Below W.heap.size W W'):
 s.post enc P f apart true false again W args (.bool true) W':=by
 have hold:∀p∈before,(fun b=>decide (b<W.heap.size)) p.block=true:=fun p hp=>by simpa using hW.lt p hp
 have hlt:=hW.lt
 have hW':=hW
 obtain⟨pa,pv,hA,hV,rfl,hz,hn⟩:=hW
 have hres:∀(b:Nat) (sp:Nat→Bool) (hd:Bool),DataW.TrodAll enc P W' b sp hd f.resultTypes.toList ((Value.bool true).resultList f.resultTypes.size) (s.fn H (ds++gs)).results []:=by
  intro b sp hd
  rw[hr,hfn]
  exact trodAll_cons_mk (shut_bool ht _) trodAll_mk0
 have hargs:∀sp:Nat→Bool,(∀p∈pa++pv,sp p.block=true)→DataW.TrodAll enc P W' 0 sp true f.params.toList args.toList (s.fn H (ds++gs)).args pa:=by
  intro sp hs
  rw[hfn]
  exact trodAll_below hl hb hp hA (fun x hx=>hlt x (by simp[hx])) (fun x hx=>hs x (by simp[hx]))
 have hvars:∀sp:Nat→Bool,(∀p∈pa++pv,sp p.block=true)→DataW.TrodVars enc P W' sp s.vars (s.fn H (ds++gs)).vars pv:=by
  intro sp hs
  rw[hfn]
  exact trodVars_below hl hb hv hV (fun x hx=>hlt x (by simp[hx])) (fun x hx=>hs x (by simp[hx]))
 refine⟨ds,gs,pa++pv,[],pa,pv,hW',hres _ _ _,hargs _ hold,hvars _ hold,World.keptBut_mono (fun p hp=>⟨hp,?_⟩) (hb.frame (· ∈pa++pv)),fun _=>?_⟩
 ·rcases List.mem_append.1 hp with h|h
  ·exact Or.inr (Or.inl h)
  ·exact Or.inr (Or.inr h)
 ·refine⟨ok_one hr rfl (okWide_bool_mk ht true),_,_,([]++pa)++pv,⟨[]++pa,pv,trodAll_append (hargs _ (fun _ _=>rfl)) (hres _ _ _),hvars _ (fun _ _=>rfl),rfl,?_,?_⟩,?_⟩
  ·intro b off hp
   have hp':MemPlace.cell b off∈pa++pv:=by simpa using hp
   rw[hb.frozen (p:=⟨b,off,none⟩) (hlt _ hp')]
   exact hz b off hp'
  ·intro ha
   simpa using hn ha
  ·intro p hp _
   simpa using hp
end
theorem len2_{α:Type}{cs:List α}(h:cs.length=2):∃c0 c1,cs= [c0,c1]:=by
 match cs,h with
 | [c0,c1],_=>exact⟨_,_,rfl⟩
theorem len3_{α:Type}{cs:List α}(h:cs.length=3):∃c0 c1 c2,cs= [c0,c1,c2]:=by
 match cs,h with
 | [c0,c1,c2],_=>exact⟨_,_,_,rfl⟩
theorem len4_{α:Type}{cs:List α}(h:cs.length=4):∃c0 c1 c2 c3,cs= [c0,c1,c2,c3]:=by
 match cs,h with
 | [c0,c1,c2,c3],_=>exact⟨_,_,_,_,rfl⟩
theorem len5_{α:Type}{cs:List α}(h:cs.length=5):∃c0 c1 c2 c3 c4,cs= [c0,c1,c2,c3,c4]:=by
 match cs,h with
 | [c0,c1,c2,c3,c4],_=>exact⟨_,_,_,_,_,rfl⟩
theorem len6_{α:Type}{cs:List α}(h:cs.length=6):∃c0 c1 c2 c3 c4 c5,cs= [c0,c1,c2,c3,c4,c5]:=by
 match cs,h with
 | [c0,c1,c2,c3,c4,c5],_=>exact⟨_,_,_,_,_,_,rfl⟩
theorem trod_parts{H:Type}{enc:TypeId×Value→H}{P:Program}{w:World}{base:Nat}{sp:Nat→Bool}{held:Bool}{t:TypeId}{fuel:Nat}{cs:List Value}{x:DataW H×List MemPlace}{fs:Array Field}
 (ht:P.underlying t=some (.struct fs)) (h:DataW.trod enc P w base sp held fuel t cs=some x):
 cs.length=P.cellsOf t∧∀(i:Nat) (f:Field),fs[i]? =some f→∃(n:Nat) (y:DataW H×List MemPlace),DataW.trod enc P w base sp held n f.type ((cs.drop f.offset).take (P.cellsOf f.type))=some y:=by
 obtain⟨xs,n,_,_,hl,hx,hf⟩:=DataW.trod_struct ht h
 refine⟨hl,fun i f hi=>?_⟩
 have hlt:i<xs.length:=by rw[hx];exact(Array.getElem?_eq_some_iff.1 hi).1
 exact⟨n,xs[i],(hf i f hi).trans (List.getElem?_eq_getElem hlt)⟩
theorem Tryz.cInt:Tryz.prog.cellsOf 3=1:=by kernel_rfl
theorem Tryz.cStr:Tryz.prog.cellsOf 9=1:=by kernel_rfl
theorem Tryz.cPt:Tryz.prog.cellsOf 109=2:=by kernel_rfl
theorem Tryz.cA2:Tryz.prog.cellsOf 27=2:=by kernel_rfl
theorem Tryz.cA5:Tryz.prog.cellsOf 116=5:=by kernel_rfl
theorem Tryz.cSI:Tryz.prog.cellsOf 30=1:=by kernel_rfl
theorem Tryz.cSta:Tryz.prog.cellsOf 111=4:=by kernel_rfl
theorem Tryz.cMov:Tryz.prog.cellsOf 165=3:=by kernel_rfl
theorem Tryz.cZon:Tryz.prog.cellsOf 115=4:=by kernel_rfl
theorem Tryz.cGrd:Tryz.prog.cellsOf 26=4:=by kernel_rfl
theorem Tryz.cSS:Tryz.prog.cellsOf 22=1:=by kernel_rfl
theorem Tryz.cSM:Tryz.prog.cellsOf 23=1:=by kernel_rfl
theorem Tryz.cSZ:Tryz.prog.cellsOf 24=1:=by kernel_rfl
section
variable {H:Type} {enc:TypeId×Value→H} {w:World} {base:Nat} {sp:Nat→Bool} {held:Bool} {fuel:Nat} {cs:List Value} {x:DataW H×List MemPlace}
theorem elemPt(h:DataW.trod enc Tryz.prog w base sp held fuel 109 cs=some x):∃a b:Int,cs= [.int .i64 a,.int .i64 b]:=by
 obtain⟨hl,hf⟩:=trod_parts Tryz.underlying109 h
 rw[Tryz.cPt]at hl
 obtain⟨c0,c1,rfl⟩:=len2_ hl
 obtain⟨_,_,h0⟩:=hf 0 _ rfl
 obtain⟨_,_,h1⟩:=hf 1 _ rfl
 simp only[List.getElem_toArray,List.getElem_cons_zero,List.getElem_cons_succ,Tryz.cInt,List.drop_succ_cons,List.drop_zero,List.take_succ_cons,List.take_zero]at h0 h1
 obtain⟨a,ha,_⟩:=DataW.trod_int Tryz.underlying3 h0
 obtain⟨b,hb,_⟩:=DataW.trod_int Tryz.underlying3 h1
 cases ha;cases hb
 exact⟨a,b,rfl⟩
theorem elemSta(h:DataW.trod enc Tryz.prog w base sp held fuel 111 cs=some x):∃s:Sta,cs=encS s∧True:=by
 obtain⟨hl,hf⟩:=trod_parts Tryz.underlying111 h
 rw[Tryz.cSta]at hl
 obtain⟨c0,c1,c2,c3,rfl⟩:=len4_ hl
 obtain⟨_,_,h0⟩:=hf 0 _ rfl
 obtain⟨_,_,h1⟩:=hf 1 _ rfl
 obtain⟨_,_,h2⟩:=hf 2 _ rfl
 simp only[List.getElem_toArray,List.getElem_cons_zero,List.getElem_cons_succ,Tryz.cStr,Tryz.cPt,List.drop_succ_cons,List.drop_zero,List.take_succ_cons,List.take_zero]at h0 h1 h2
 obtain⟨a,ha,_⟩:=DataW.trod_string Tryz.underlying9 h0
 obtain⟨b,hb,_⟩:=DataW.trod_string Tryz.underlying9 h1
 obtain⟨c,d,hc⟩:=elemPt h2
 cases ha;cases hb;cases hc
 exact⟨⟨a,b,c,d⟩,rfl,trivial⟩
theorem elemMov(h:DataW.trod enc Tryz.prog w base sp held fuel 165 cs=some x):∃s:Mov,cs=encM s∧True:=by
 obtain⟨hl,hf⟩:=trod_parts Tryz.underlying165 h
 rw[Tryz.cMov]at hl
 obtain⟨c0,c1,c2,rfl⟩:=len3_ hl
 obtain⟨_,_,h0⟩:=hf 0 _ rfl
 obtain⟨_,_,h1⟩:=hf 1 _ rfl
 obtain⟨_,_,h2⟩:=hf 2 _ rfl
 simp only[List.getElem_toArray,List.getElem_cons_zero,List.getElem_cons_succ,Tryz.cInt,List.drop_succ_cons,List.drop_zero,List.take_succ_cons,List.take_zero]at h0 h1 h2
 obtain⟨a,ha,_⟩:=DataW.trod_int Tryz.underlying3 h0
 obtain⟨b,hb,_⟩:=DataW.trod_int Tryz.underlying3 h1
 obtain⟨c,hc,_⟩:=DataW.trod_int Tryz.underlying3 h2
 cases ha;cases hb;cases hc
 exact⟨⟨a,b,c⟩,rfl,trivial⟩
theorem elemZon(h:DataW.trod enc Tryz.prog w base sp held fuel 115 cs=some x):∃s:Zon,cs=encZ s∧True:=by
 obtain⟨hl,hf⟩:=trod_parts Tryz.underlying115 h
 rw[Tryz.cZon]at hl
 obtain⟨c0,c1,c2,c3,rfl⟩:=len4_ hl
 obtain⟨_,_,h0⟩:=hf 0 _ rfl
 obtain⟨_,_,h1⟩:=hf 1 _ rfl
 obtain⟨_,_,h2⟩:=hf 2 _ rfl
 simp only[List.getElem_toArray,List.getElem_cons_zero,List.getElem_cons_succ,Tryz.cStr,Tryz.cPt,Tryz.cInt,List.drop_succ_cons,List.drop_zero,List.take_succ_cons,List.take_zero]at h0 h1 h2
 obtain⟨a,ha,_⟩:=DataW.trod_string Tryz.underlying9 h0
 obtain⟨c,d,hc⟩:=elemPt h1
 obtain⟨b,hb,_⟩:=DataW.trod_int Tryz.underlying3 h2
 cases ha;cases hb;cases hc
 exact⟨⟨a,c,d,b⟩,rfl,trivial⟩
theorem open_agg{r:Reach}{b0:Nat}{P:Program}{t:TypeId}{v:Value}{d:DataW H}{p:List MemPlace}(ht:(∃fs,P.underlying t=some (.struct fs))∨∃n e,P.underlying t=some (.array n e))(hv:Value.okWide P w r b0 t v)(h:DataW.Trod enc P w base sp held t v d p):
 ∃(l:List Value) (fuel:Nat),v=.agg l.toArray∧DataW.trod enc P w base sp held fuel t l=some (d,p):=by
 obtain⟨fuel,h⟩:=h
 have hc:∃cs,v=.agg cs:=by
  unfold Value.okWide at hv
  rcases ht with ⟨fs,ht⟩|⟨n,e,ht⟩<;>(rw[ht]at hv;obtain⟨cs,h1,_⟩:=hv;exact⟨cs,h1⟩)
 obtain⟨⟨l⟩,rfl⟩:=hc
 exact⟨l,fuel,rfl,h⟩
set_option maxRecDepth 100000 in
theorem open_zone{r:Reach}{b0:Nat}{v:Value}{d:DataW H}{p:List MemPlace}(hv:Value.okWide Tryz.prog w r b0 115 v)(h:DataW.Trod enc Tryz.prog w base sp held 115 v d p):
 ∃z:Zon,v=.agg #[.string z.name,.int .i64 z.x,.int .i64 z.y,.int .i64 z.r]:=by
 obtain⟨l,fuel,rfl,h2⟩:=open_agg (P:=Tryz.prog) (t:=115) (Or.inl ⟨_,Tryz.underlying115⟩) (by with_reducible exact hv) (by with_reducible exact h)
 obtain⟨z,rfl,_⟩:=elemZon h2
 exact⟨z,rfl⟩
theorem open_arr{n:Nat}{t:TypeId}(ht:Tryz.prog.underlying t=some (.array n 3))(hc:Tryz.prog.cellsOf t=n)(h:DataW.trod enc Tryz.prog w base sp held fuel t cs=some x):∃zs:List Int,zs.length=n∧cs=zs.map (Value.int .i64)∧∀z∈zs,(Lit.int .i64 z).wf=true:=by
 obtain⟨xs,m,_,_,hl,hx,hi⟩:=DataW.trod_array ht h
 rw[hc]at hl
 simp only[Tryz.cInt,Nat.mul_one]at hi
 have hz:∀i:Fin n,∃z:Int,cs[i.1]? =some (Value.int .i64 z)∧(Lit.int .i64 z).wf=true:=fun i=>by
  have h1:(cs.drop i.1).take 1= [cs[i.1]'(by omega)]:=by rw[List.drop_eq_getElem_cons (by omega)];rfl
  have h2:=hi i.1 i.2
  rw[h1,List.getElem?_eq_getElem (by omega)]at h2
  obtain⟨z,h3,_,h4⟩:=DataW.trod_int Tryz.underlying3 h2
  refine⟨z,?_,h4⟩
  rw[List.getElem?_eq_getElem (by omega)]
  exact congrArg some (List.cons.inj h3).1
 obtain⟨F,hFQ⟩:∃F:Fin n→Int,∀i,cs[i.1]? =some (Value.int .i64 (F i))∧(Lit.int .i64 (F i)).wf=true:=⟨fun i=>Classical.choose (hz i),fun i=>Classical.choose_spec (hz i)⟩
 have hF:=fun i=>(hFQ i).1
 have hW:=fun i=>(hFQ i).2
 refine⟨List.ofFn F,by simp,?_,fun z hz=>?_⟩
 ·apply List.ext_getElem?
  intro i
  by_cases hi:i<n
  ·rw[hF ⟨i,hi⟩];simp[hi]
  ·rw[List.getElem?_eq_none (by omega),List.getElem?_eq_none (by simp;omega)]
 ·obtain⟨i,rfl⟩:=(List.mem_ofFn).1 hz
  exact hW i
set_option maxRecDepth 100000 in
theorem open_five{r:Reach}{b0:Nat}{v:Value}{d:DataW H}{p:List MemPlace}(hv:Value.okWide Tryz.prog w r b0 116 v)(h:DataW.Trod enc Tryz.prog w base sp held 116 v d p):
 ∃n0 n1 n2 n3 n4:Int,v=.agg #[.int .i64 n0,.int .i64 n1,.int .i64 n2,.int .i64 n3,.int .i64 n4]:=by
 obtain⟨l,fuel,rfl,h2⟩:=open_agg (P:=Tryz.prog) (t:=116) (Or.inr ⟨_,_,Tryz.underlying116⟩) (by with_reducible exact hv) (by with_reducible exact h)
 obtain⟨zs,hl,rfl,_⟩:=open_arr Tryz.underlying116 Tryz.cA5 h2
 obtain⟨n0,n1,n2,n3,n4,rfl⟩:=len5_ hl
 exact⟨n0,n1,n2,n3,n4,rfl⟩
set_option maxRecDepth 100000 in
theorem open_two{r:Reach}{b0:Nat}{v:Value}{d:DataW H}{p:List MemPlace}(hv:Value.okWide Tryz.prog w r b0 27 v)(h:DataW.Trod enc Tryz.prog w base sp held 27 v d p):
 ∃n0 n1:Int,v=.agg #[.int .i64 n0,.int .i64 n1]∧((Lit.int .i64 n0).wf=true∧(Lit.int .i64 n1).wf=true):=by
 obtain⟨l,fuel,rfl,h2⟩:=open_agg (P:=Tryz.prog) (t:=27) (Or.inr ⟨_,_,Tryz.underlying27⟩) (by with_reducible exact hv) (by with_reducible exact h)
 obtain⟨zs,hl,rfl,hw⟩:=open_arr Tryz.underlying27 Tryz.cA2 h2
 obtain⟨n0,n1,rfl⟩:=len2_ hl
 exact⟨n0,n1,rfl,hw _ (by simp),hw _ (by simp)⟩
theorem elemInt(h:DataW.trod enc Tryz.prog w base sp held fuel 3 cs=some x):∃z:Int,cs= [.int .i64 z]∧(Lit.int .i64 z).wf=true:=by
 obtain⟨a,ha,_,hw⟩:=DataW.trod_int Tryz.underlying3 h
 exact⟨a,ha,hw⟩
set_option maxRecDepth 100000 in
theorem open_grid{r:Reach}{b0:Nat}{v:Value}{d:DataW H}{p:List MemPlace}(hv:Value.okWide Tryz.prog w r b0 26 v)(h:DataW.Trod enc Tryz.prog w base sp held 26 v d p):
 ∃(a:GA) (g:Grd),v=(.agg #[.int .i64 g.blur,.slice a.pS g.sta.length a.cs,.slice a.pM g.mov.length a.cm,.slice a.pZ g.zon.length a.cz])∧GridR w w.heap.size a g:=by
 obtain⟨cs,rfl,hsz⟩:=okWide_struct Tryz.underlying26 hv
 obtain⟨fuel,h⟩:=h
 obtain⟨l⟩:=cs
 replace h:DataW.trod enc Tryz.prog w base sp held fuel 26 l=some (d,p):=h
 obtain⟨hl,hf⟩:=trod_parts Tryz.underlying26 h
 rw[Tryz.cGrd]at hl
 obtain⟨c0,c1,c2,c3,rfl⟩:=len4_ hl
 obtain⟨_,_,h0⟩:=hf 0 _ rfl
 obtain⟨_,_,h1⟩:=hf 1 _ rfl
 obtain⟨_,_,h2⟩:=hf 2 _ rfl
 obtain⟨_,_,h3⟩:=hf 3 _ rfl
 simp only[List.getElem_toArray,List.getElem_cons_zero,List.getElem_cons_succ,Tryz.cInt,Tryz.cSS,Tryz.cSM,Tryz.cSZ,List.drop_succ_cons,List.drop_zero,List.take_succ_cons,List.take_zero]at h0 h1 h2 h3
 obtain⟨a,ha,_⟩:=DataW.trod_int Tryz.underlying3 h0
 obtain⟨A1,l1,k1,e1,b1,_,_,r1,_⟩:=openRow encS (fun _=>True) Tryz.underlying22 Tryz.cSta (by decide) (fun _ _ _=>elemSta) h1
 obtain⟨A2,l2,k2,e2,b2,_,_,r2,_⟩:=openRow encM (fun _=>True) Tryz.underlying23 Tryz.cMov (by decide) (fun _ _ _=>elemMov) h2
 obtain⟨A3,l3,k3,e3,b3,_,_,r3,_⟩:=openRow encZ (fun _=>True) Tryz.underlying24 Tryz.cZon (by decide) (fun _ _ _=>elemZon) h3
 cases ha;cases e1;cases e2;cases e3
 exact⟨⟨A1,A2,A3,k1,k2,k3⟩,⟨a,l1,l2,l3⟩,rfl,⟨r1,r2,r3,b1,b2,b3⟩⟩
end
end Go.Proofs.YtehnikhicnnnhaaGreatDoor
namespace Go.Proofs.YtehnikhicnnnhaaGreatDoor
open Go Go.RowKit Go.ChangeShapes Go.WideShapes
theorem Tryz.gPow:Tryz.prog.globalNamed "internal/strconv.uint64pow10" =some 2:=by kernel_rfl
theorem Tryz.gPowT:(Tryz.prog.globals[2]?).map (·.type)=some 301:=by kernel_rfl
theorem Tryz.gKin:Tryz.prog.globalNamed "spillage/beam.kinds" =some 0:=by kernel_rfl
theorem Tryz.gKinT:(Tryz.prog.globals[0]?).map (·.type)=some 268:=by kernel_rfl
theorem Tryz.cU64:Tryz.prog.cellsOf 294=1:=by kernel_rfl
theorem Tryz.cU20:Tryz.prog.cellsOf 301=20:=by kernel_rfl
theorem Tryz.cStr1:Tryz.prog.cellsOf 9=1:=by kernel_rfl
theorem Tryz.cS3:Tryz.prog.cellsOf 268=3:=by kernel_rfl
theorem laidVar{P:Program}{W:World}{n:String}{d:DataW Unit}:∀{l:List (String×DataW Unit)} {ps:List MemPlace},DataW.LaidVars P W l ps→(n,d)∈l→
 ∃g t cs fuel p,P.globalNamed n=some g∧(P.globals[g]?).map (·.type)=some t∧W.var? P n=some cs∧DataW.trod (fun _=>()) P W 0 (fun _=>true) false fuel t cs.toList=some (d,p)
 | [],_,_,h=>by simp at h
 |(n',d')::l,ps,⟨g,t,cs,fuel,p,q,h1,h2,h3,h4,h5,_⟩,h=>by
  rcases List.mem_cons.1 h with e|h
  ·cases e;exact⟨g,t,cs,fuel,p,h1,h2,h3,h4⟩
  ·exact laidVar h5 h
theorem laid_pow{W:World}{l:List (String×DataW Unit)}(h:laidMet Tryz.prog l W)(hm: ("internal/strconv.uint64pow10", Rows.laid_internal_strconv_uint64pow10)∈l):PowAt W:=by
 obtain⟨ps,hl,_⟩:=h
 obtain⟨g,t,cs,fuel,p,h1,h2,h3,h4⟩:=laidVar hl hm
 obtain rfl:=Option.some.inj (Tryz.gPow.symm.trans h1)
 obtain rfl:=Option.some.inj (Tryz.gPowT.symm.trans h2)
 unfold PowAt Lib.TabIs
 rw[h3,←Lib.cells_of_tab (zs:=Lib.pow10Tab) Tryz.underlying301 Tryz.underlying294 Tryz.cU64 Tryz.cU20 h4]
theorem str_of{s:ByteArray}{l:List UInt8}(h:s.data.toList=l):s=⟨l.toArray⟩:=by
 obtain⟨⟨d⟩⟩:=s
 simp at h
 rw[h]
theorem laid_kinds{W:World}{l:List (String×DataW Unit)}(h:laidMet Tryz.prog l W)(hm: ("spillage/beam.kinds", Rows.laid_spillage_beam_kinds)∈l):KindsAt W:=by
 obtain⟨ps,hl,_⟩:=h
 obtain⟨g,t,cs,fuel,p,h1,h2,h3,h4⟩:=laidVar hl hm
 obtain rfl:=Option.some.inj (Tryz.gKin.symm.trans h1)
 obtain rfl:=Option.some.inj (Tryz.gKinT.symm.trans h2)
 obtain⟨xs,m,_,hx,hlen,hxl,hi⟩:=DataW.trod_array Tryz.underlying268 h4
 rw[Tryz.cS3]at hlen
 simp only[Tryz.cStr1]at hi
 obtain⟨l⟩:=cs
 match l,hlen with
 | [c0,c1,c2],_=>
   match xs,hxl with
   | [x0,x1,x2],_=>
     have i0:=hi 0 (by decide)
     have i1:=hi 1 (by decide)
     have i2:=hi 2 (by decide)
     simp at i0 i1 i2
     obtain⟨s0,e0,f0,_⟩:=DataW.trod_string Tryz.underlying9 i0
     obtain⟨s1,e1,f1,_⟩:=DataW.trod_string Tryz.underlying9 i1
     obtain⟨s2,e2,f2,_⟩:=DataW.trod_string Tryz.underlying9 i2
     subst f0 f1 f2
     simp[Rows.laid_spillage_beam_kinds]at hx
     obtain⟨⟨q0,q1,q2⟩,_⟩:=hx
     cases e0;cases e1;cases e2
     have k0:=World.var?_cell Tryz.gKin h3 0
     have k1:=World.var?_cell Tryz.gKin h3 1
     have k2:=World.var?_cell Tryz.gKin h3 2
     rw[str_of q0.symm]at k0
     rw[str_of q1.symm]at k1
     rw[str_of q2.symm]at k2
     exact⟨Nat.lt_of_le_of_lt (Nat.zero_le _) (World.block_lt_of_cell? W _ k0),k0,k1,k2⟩
end Go.Proofs.YtehnikhicnnnhaaGreatDoor
/- The reference's paths: the region 27, over a frame of letters. -/
import Derived.Test.YtehnikhicnnnhaaGreatDoorPa35
namespace Go.Proofs.YtehnikhicnnnhaaGreatDoor
open Go.RowKit Go.Shelf
def findL(n:Nat):Code→Option Code
 |.region k ops b=>if k=n then some (.region k ops b)else none
 |.seq a b=>(findL n a).or (findL n b)
 |.block _ c=>findL n c
 |.cond _ a b=>(findL n a).or (findL n b)
 |.scope c=>findL n c
 |.loop c=>findL n c
 |_=>none
noncomputable def ptR(n:Nat):Code:=(findL n (Tryz.f102.body.getD .skip)).getD .skip
theorem wpIn_append_ints{F:Fence}{n:Nat}(w:World){o:Oper}{a:Act}{K:Act→World→Prop}{Q:Exit→Act→World→Prop}(s x:Operand)
 (hop:o.op=Op.call {callee:=Callee.builtin Builtin.append,args:= #[s,x],argTypes:= #[30,30]}) (base:Nat) (v:Value) (xs ys:List Int) (hs:a.eval s=v) (hown:OwnI w base v xs) (b c:Nat)
 (hx:a.eval x=.slice (some ⟨b,0,none⟩) ys.length c) (hc:∀k (h:k<ys.length),w.cell? ⟨b,k,none⟩=some (.int .i64 ys[k])) (hl:xs.length≤1000) (hl2:ys.length≤1000) (b3:base≤w.heap.size)
 (hK:∀v' w',OwnI w' base v' (xs++ys)→w.grownBy w' v.ownBlock→(v'.ownBlock=v.ownBlock∨v'.ownBlock=some w.heap.size)→K (a.put o.dst v') w'):o.wpIn F n Tryz.prog a w K Q:=by
 obtain⟨i0,hi,hz0,hz1,hz2⟩:=info_parts Tryz.infoInt
 obtain⟨v',w',hrun,r1,r2,_,r4⟩:=run_append_own_at (P:=Tryz.prog) (w:=w) base 30 o.type 3 i0 (.int .i64 0) 1 8 Tryz.underlying30 hi hz0 hz1 hz2 rfl (by decide) v xs.length (xs.map (Value.int .i64)) hown ⟨b,0,none⟩ ys.length c (ys.map (Value.int .i64)) (by simp)
  (by
    intro j u hj
    rw[List.getElem?_map]at hj
    obtain⟨y,hy,rfl⟩:=Option.map_eq_some_iff.1 hj
    obtain⟨hj',rfl⟩:=List.getElem?_eq_some_iff.1 hy
    rw[add0];exact hc j hj') (by intro u hu;obtain⟨y,_,rfl⟩:=List.mem_map.1 hu;rfl) (by unfold maxLen;omega) (by omega) b3
 unfold Oper.wpIn
 refine⟨?_,?_⟩
 ·simp[Oper.about,hop,resolve,Target.leads,Sem.run_pure]
 ·rw[Oper.semAt_plain F _ _ (by rw[hop];intro c hc';cases hc')]
  simp[execOp,hop,resolve,invoke,builtin,hs,hx,hrun,Result.andThen]
  refine hK _ _ ?_ r2 r4
  unfold OwnI
  rw[List.length_append,List.map_append]
  exact r1
def upd(s:Nat→Value)(i:Nat)(v:Value):Nat→Value:=fun j=>if j=i then v else s j
def spec27(i:Nat):Bool:=i==0||i==6||i==8||i==9||i==23||i==24||i==25
def cst27(r:Rt)(l:Int)(n a b bL bO cO bR bA c:Nat):Nat→Value
 |1=>.slice (some ⟨bO,0,none⟩) n cO
 |2=>.int .i64 a
 |3=>.pointer (some ⟨bO,a*2,none⟩)
 |4=>.pointer (some ⟨bO,a*2,none⟩)
 |5=>.slice (some ⟨bA,0,none⟩) r.st.length c
 |7=>.int .i64 b
 |10=>.slice (some ⟨bO,0,none⟩) n cO
 |11=>.int .i64 a
 |12=>.pointer (some ⟨bO,a*2,none⟩)
 |13=>.pointer (some ⟨bO,a*2+1,none⟩)
 |14=>.int .i64 r.n
 |15=>.slice (some ⟨bL,0,none⟩) n n
 |16=>.int .i64 a
 |17=>.pointer (some ⟨bL,a,none⟩)
 |18=>.slice (some ⟨bR,0,none⟩) n n
 |19=>.int .i64 b
 |20=>.pointer (some ⟨bR,b,none⟩)
 |21=>.int .i64 l
 |22=>.int .i64 (r.n+l)
 |_=>.bool false
structure R27(X:World)(C:Nat→Value)(r:Rt)(l:Int)(b:Nat)(L:Nat→Bool)(s:Nat→Value)(w:World):Prop where
 low:Below X.heap.size X w
 k:∀i,spec27 i=false→L i=true→s i=C i
 f0:L 0=true→L 6=false→OwnI w X.heap.size (s 0) []
 f6:L 6=true→L 9=false→OwnI w X.heap.size (s 6) r.st
 f8:L 8=true→L 9=false→∃bT,s 8=.slice (some ⟨bT,0,none⟩) 1 1∧w.cell? ⟨bT,0,none⟩=some (.int .i64 b)∧X.heap.size≤bT∧bT<w.heap.size∧(L 0=true→L 6=false→some bT≠(s 0).ownBlock)∧(L 6=true→some bT≠(s 6).ownBlock)
 f9:L 9=true→OwnI w X.heap.size (s 9) (r.st++ [(b:Int)])
 f23:L 23=true→s 23=.agg #[s 9,.int .i64 (r.n+l)]
 f24:L 24=true→L 25=false→∃bX,s 24=.pointer (some ⟨bX,0,none⟩)∧X.heap.size≤bX∧w.heap[bX]? =some (.cells #[.slice none 0 0,.int .i64 0] 178 (0,0))
 f25:L 25=true→∃bX,s 24=.pointer (some ⟨bX,0,none⟩)∧X.heap.size≤bX∧w.heap[bX]? =some (.cells #[s 9,.int .i64 (r.n+l)] 178 (0,0))
theorem updL_ne{L:Nat→Bool}{i j:Nat}(h:j≠i):updL L i j=L j:=by unfold updL;rw[if_neg h]
theorem upd_ne{s:Nat→Value}{i j:Nat}{v:Value}(h:j≠i):upd s i v j=s j:=by unfold upd;rw[if_neg h]
theorem spec_ne{i j:Nat}(hi:spec27 i=false)(hj:spec27 j=true):j≠i:=fun e=>by rw[e,hi]at hj;cases hj
section
variable {X w w2:World} {C:Nat→Value} {r:Rt} {l:Int} {b:Nat} {L:Nat→Bool} {s:Nat→Value}
theorem R27.const(h:R27 X C r l b L s w)(i:Nat){v:Value}(hi:spec27 i=false)(hv:v=C i):R27 X C r l b (updL L i) (upd s i v) w:=by
 subst hv
 have n0:=spec_ne hi (j:=0) rfl
 have n6:=spec_ne hi (j:=6) rfl
 have n8:=spec_ne hi (j:=8) rfl
 have n9:=spec_ne hi (j:=9) rfl
 have n23:=spec_ne hi (j:=23) rfl
 have n24:=spec_ne hi (j:=24) rfl
 have n25:=spec_ne hi (j:=25) rfl
 refine⟨h.low,fun j hj hL=>?_,?_,?_,?_,?_,?_,?_,?_⟩
 ·by_cases e:j=i
  ·subst e;unfold upd;rw[if_pos rfl]
  ·rw[upd_ne e];rw[updL_ne e]at hL;exact h.k j hj hL
 ·rw[updL_ne n0,updL_ne n6,upd_ne n0];exact h.f0
 ·rw[updL_ne n6,updL_ne n9,upd_ne n6];exact h.f6
 ·rw[updL_ne n8,updL_ne n9,updL_ne n0,updL_ne n6,upd_ne n8,upd_ne n0,upd_ne n6];exact h.f8
 ·rw[updL_ne n9,upd_ne n9];exact h.f9
 ·rw[updL_ne n23,upd_ne n23,upd_ne n9];exact h.f23
 ·rw[updL_ne n24,updL_ne n25,upd_ne n24];exact h.f24
 ·rw[updL_ne n25,upd_ne n24,upd_ne n9];exact h.f25
theorem R27.below(h:R27 X C r l b L s w)(hb:Below w.heap.size w w2):R27 X C r l b L s w2:=by
 refine⟨h.low.trans (hb.mono h.low.size),h.k,fun h1 h2=>(h.f0 h1 h2).below hb,fun h1 h2=>(h.f6 h1 h2).below hb,fun h1 h2=>?_,fun h1=>(h.f9 h1).below hb,h.f23,fun h1 h2=>?_,fun h1=>?_⟩
 ·obtain⟨bT,e1,e2,e3,e4,e5⟩:=h.f8 h1 h2
  exact⟨bT,e1,(hb.cell (p:=⟨bT,0,none⟩) e4).trans e2,e3,Nat.lt_of_lt_of_le e4 hb.size,e5⟩
 ·obtain⟨bX,e1,e2,e3⟩:=h.f24 h1 h2
  exact⟨bX,e1,e2,(hb.block bX (blk_lt e3)).trans e3⟩
 ·obtain⟨bX,e1,e2,e3⟩:=h.f25 h1
  exact⟨bX,e1,e2,(hb.block bX (blk_lt e3)).trans e3⟩
theorem R27.op0(h:R27 X C r l b L s w)(h6:L 6=false)(h9:L 9=false):R27 X C r l b (updL L 0) (upd s 0 (.slice (some ⟨w.heap.size,0,none⟩) 0 0)) (w.alloc (.cells #[] 3)):=by
 have hb:Below w.heap.size w (w.alloc (.cells #[] 3)):=(Below.refl _ _).alloc (Nat.le_refl _) _
 have k:=h.below hb
 refine⟨k.low,fun j hj hL=>?_,fun _ _=>⟨by simp,.inr ⟨w.heap.size,0,#[],rfl,h.low.size,heap_alloc_new w _,Nat.le_refl _,Nat.zero_le _,rfl,rfl⟩⟩,fun h1=>?_,fun h1 h2=>?_,fun h1=>?_,fun h1=>?_,fun h1 h2=>?_,fun h1=>?_⟩
 ·have e:j≠0:=fun e=>by subst e;cases hj
  rw[upd_ne e];rw[updL_ne e]at hL;exact k.k j hj hL
 ·rw[updL_ne (by decide)]at h1;rw[h6]at h1;cases h1
 ·rw[updL_ne (by decide)]at h1
  obtain⟨bT,e1,e2,e3,e4,e5⟩:=h.f8 h1 h9
  refine⟨bT,by rw[upd_ne (by decide)];exact e1,(hb.cell (p:=⟨bT,0,none⟩) e4).trans e2,e3,Nat.lt_of_lt_of_le e4 hb.size,fun _ _ e=>?_,fun h3=>?_⟩
  ·simp[upd,Value.ownBlock]at e;omega
  ·rw[updL_ne (by decide)]at h3;rw[h6]at h3;cases h3
 ·rw[updL_ne (by decide)]at h1;rw[h9]at h1;cases h1
 ·rw[updL_ne (by decide)]at h1;rw[upd_ne (by decide),upd_ne (by decide)];exact k.f23 h1
 ·rw[updL_ne (by decide)]at h1 h2;rw[upd_ne (by decide)];exact k.f24 h1 h2
 ·rw[updL_ne (by decide)]at h1;rw[upd_ne (by decide),upd_ne (by decide)];exact k.f25 h1
theorem R27.op8(h:R27 X C r l b L s w)(h9:L 9=false):R27 X C r l b (updL L 8) (upd s 8 (.slice (some ⟨w.heap.size,0,none⟩) 1 1)) (w.alloc (.cells #[.int .i64 b] 3)):=by
 have hb:Below w.heap.size w (w.alloc (.cells #[.int .i64 b] 3)):=(Below.refl _ _).alloc (Nat.le_refl _) _
 have k:=h.below hb
 refine⟨k.low,fun j hj hL=>?_,fun h1 h2=>?_,fun h1 h2=>?_,fun h1 h2=>?_,fun h1=>?_,fun h1=>?_,fun h1 h2=>?_,fun h1=>?_⟩
 ·have e:j≠8:=fun e=>by subst e;cases hj
  rw[upd_ne e];rw[updL_ne e]at hL;exact k.k j hj hL
 ·rw[updL_ne (by decide)]at h1 h2;rw[upd_ne (by decide)];exact k.f0 h1 h2
 ·rw[updL_ne (by decide)]at h1 h2;rw[upd_ne (by decide)];exact k.f6 h1 h2
 ·refine⟨w.heap.size,rfl,(cell_of_row _ _ _ _ _ _ (heap_alloc_new w _)).trans rfl,h.low.size,by simp,fun h3 h4 e=>?_,fun h3 e=>?_⟩
  ·rw[updL_ne (by decide)]at h3 h4;rw[upd_ne (by decide)]at e
   have:=(World.ownsRow.lt (h.f0 h3 h4) _ e.symm).2;omega
  ·rw[updL_ne (by decide)]at h3;rw[upd_ne (by decide)]at e
   have:=(World.ownsRow.lt (h.f6 h3 h9) _ e.symm).2;omega
 ·rw[updL_ne (by decide)]at h1;rw[upd_ne (by decide)];exact k.f9 h1
 ·rw[updL_ne (by decide)]at h1;rw[upd_ne (by decide),upd_ne (by decide)];exact k.f23 h1
 ·rw[updL_ne (by decide)]at h1 h2;rw[upd_ne (by decide)];exact k.f24 h1 h2
 ·rw[updL_ne (by decide)]at h1;rw[upd_ne (by decide),upd_ne (by decide)];exact k.f25 h1
theorem R27.op24(h:R27 X C r l b L s w)(h25:L 25=false):R27 X C r l b (updL L 24) (upd s 24 (.pointer (some ⟨w.heap.size,0,none⟩))) (w.alloc (.cells #[.slice none 0 0,.int .i64 0] 178)):=by
 have hb:Below w.heap.size w (w.alloc (.cells #[.slice none 0 0,.int .i64 0] 178)):=(Below.refl _ _).alloc (Nat.le_refl _) _
 have k:=h.below hb
 refine⟨k.low,fun j hj hL=>?_,fun h1 h2=>?_,fun h1 h2=>?_,fun h1 h2=>?_,fun h1=>?_,fun h1=>?_,fun h1 h2=>?_,fun h1=>?_⟩
 ·have e:j≠24:=fun e=>by subst e;cases hj
  rw[upd_ne e];rw[updL_ne e]at hL;exact k.k j hj hL
 ·rw[updL_ne (by decide)]at h1 h2;rw[upd_ne (by decide)];exact k.f0 h1 h2
 ·rw[updL_ne (by decide)]at h1 h2;rw[upd_ne (by decide)];exact k.f6 h1 h2
 ·rw[updL_ne (by decide)]at h1 h2;rw[upd_ne (by decide),upd_ne (by decide),upd_ne (by decide),updL_ne (by decide),updL_ne (by decide)];exact k.f8 h1 h2
 ·rw[updL_ne (by decide)]at h1;rw[upd_ne (by decide)];exact k.f9 h1
 ·rw[updL_ne (by decide)]at h1;rw[upd_ne (by decide),upd_ne (by decide)];exact k.f23 h1
 ·exact⟨w.heap.size,rfl,h.low.size,heap_alloc_new w _⟩
 ·rw[updL_ne (by decide)]at h1;rw[h25]at h1;cases h1
theorem R27.op6(h:R27 X C r l b L s w)(h0:L 0=true)(h6:L 6=false)(h9:L 9=false)(h23:L 23=false){v:Value}(hown:OwnI w2 X.heap.size v ([]++r.st))(hg:w.grownBy w2 (s 0).ownBlock)(hat:v.ownBlock=(s 0).ownBlock∨v.ownBlock=some w.heap.size)(h25:L 25=false):R27 X C r l b (updL L 6) (upd s 6 v) w2:=by
 have hf0:=h.f0 h0 h6
 have hlow:Below X.heap.size X w2:=h.low.grown hg h.low.size (fun k e=>(World.ownsRow.lt hf0 k e).1)
 refine⟨hlow,fun j hj hL=>?_,fun h1 h2=>?_,fun h1 h2=>hown,fun h1 h2=>?_,fun h1=>?_,fun h1=>?_,fun h1 h2=>?_,fun h1=>?_⟩
 ·have e:j≠6:=fun e=>by subst e;cases hj
  rw[upd_ne e];rw[updL_ne e]at hL;exact h.k j hj hL
 ·simp[updL]at h2
 ·rw[updL_ne (by decide)]at h1
  obtain⟨bT,e1,e2,e3,e4,e5,_⟩:=h.f8 h1 h9
  refine⟨bT,by rw[upd_ne (by decide)];exact e1,hg.cell e2 (e5 h0 h6),e3,Nat.lt_of_lt_of_le e4 hg.size,fun _ h4=>by simp[updL]at h4,fun _ e=>?_⟩
  have e':some bT=v.ownBlock:=e
  rcases hat with ha|ha
  ·exact e5 h0 h6 (e'.trans ha)
  ·rw[ha]at e';cases e';omega
 ·rw[updL_ne (by decide)]at h1;rw[h9]at h1;cases h1
 ·rw[updL_ne (by decide)]at h1;rw[h23]at h1;cases h1
 ·rw[updL_ne (by decide)]at h1 h2
  obtain⟨bX,e1,e2,e3⟩:=h.f24 h1 h2
  exact⟨bX,by rw[upd_ne (by decide)];exact e1,e2,(hg.block bX (blk_lt e3) (hf0.notBlock e3 (by decide))).trans e3⟩
 ·rw[updL_ne (by decide)]at h1;rw[h25]at h1;cases h1
theorem R27.op9(h:R27 X C r l b L s w)(h6:L 6=true)(h9:L 9=false)(h23:L 23=false){v:Value}(hown:OwnI w2 X.heap.size v (r.st++ [(b:Int)]))(hg:w.grownBy w2 (s 6).ownBlock)(h25:L 25=false):R27 X C r l b (updL L 9) (upd s 9 v) w2:=by
 have hf6:=h.f6 h6 h9
 have hlow:Below X.heap.size X w2:=h.low.grown hg h.low.size (fun k e=>(World.ownsRow.lt hf6 k e).1)
 refine⟨hlow,fun j hj hL=>?_,fun h1 h2=>?_,fun h1 h2=>?_,fun h1 h2=>?_,fun h1=>hown,fun h1=>?_,fun h1 h2=>?_,fun h1=>?_⟩
 ·have e:j≠9:=fun e=>by subst e;cases hj
  rw[upd_ne e];rw[updL_ne e]at hL;exact h.k j hj hL
 ·rw[updL_ne (by decide)]at h2;rw[h6]at h2;cases h2
 ·simp[updL]at h2
 ·simp[updL]at h2
 ·rw[updL_ne (by decide)]at h1;rw[h23]at h1;cases h1
 ·rw[updL_ne (by decide)]at h1 h2
  obtain⟨bX,e1,e2,e3⟩:=h.f24 h1 h2
  exact⟨bX,by rw[upd_ne (by decide)];exact e1,e2,(hg.block bX (blk_lt e3) (hf6.notBlock e3 (by decide))).trans e3⟩
 ·rw[updL_ne (by decide)]at h1;rw[h25]at h1;cases h1
theorem R27.op23(h:R27 X C r l b L s w):R27 X C r l b (updL L 23) (upd s 23 (.agg #[s 9,.int .i64 (r.n+l)])) w:=by
 refine⟨h.low,fun j hj hL=>?_,fun h1 h2=>?_,fun h1 h2=>?_,fun h1 h2=>?_,fun h1=>?_,fun h1=>rfl,fun h1 h2=>?_,fun h1=>?_⟩
 ·have e:j≠23:=fun e=>by subst e;cases hj
  rw[upd_ne e];rw[updL_ne e]at hL;exact h.k j hj hL
 ·rw[updL_ne (by decide)]at h1 h2;rw[upd_ne (by decide)];exact h.f0 h1 h2
 ·rw[updL_ne (by decide)]at h1 h2;rw[upd_ne (by decide)];exact h.f6 h1 h2
 ·rw[updL_ne (by decide)]at h1 h2;rw[upd_ne (by decide),upd_ne (by decide),upd_ne (by decide),updL_ne (by decide),updL_ne (by decide)];exact h.f8 h1 h2
 ·rw[updL_ne (by decide)]at h1;rw[upd_ne (by decide)];exact h.f9 h1
 ·rw[updL_ne (by decide)]at h1 h2;rw[upd_ne (by decide)];exact h.f24 h1 h2
 ·rw[updL_ne (by decide)]at h1;rw[upd_ne (by decide),upd_ne (by decide)];exact h.f25 h1
theorem R27.op25(h:R27 X C r l b L s w)(hall:∀k,k<25→L k=true){bX:Nat}(hX:X.heap.size≤bX)(hs:s 24=.pointer (some ⟨bX,0,none⟩))(hw:w.heap[bX]? =some (.cells #[.slice none 0 0,.int .i64 0] 178 (0,0))):
 R27 X C r l b (updL L 25) s ((w.setCell ⟨bX,0,none⟩ (s 9)).setCell ⟨bX,1,none⟩ (.int .i64 (r.n+l))):=by
 have h9:=h.f9 (hall 9 (by decide))
 refine⟨(h.low.setCell (p:=⟨bX,0,none⟩) hX _).setCell (p:=⟨bX,1,none⟩) hX _,fun j hj hL=>?_,fun h1 h2=>?_,fun h1 h2=>?_,fun h1 h2=>?_,fun h1=>?_,fun h1=>?_,fun h1 h2=>?_,fun h1=>?_⟩
 ·have e:j≠25:=fun e=>by subst e;cases hj
  rw[updL_ne e]at hL;exact h.k j hj hL
 ·rw[updL_ne (by decide),hall 6 (by decide)]at h2;cases h2
 ·rw[updL_ne (by decide),hall 9 (by decide)]at h2;cases h2
 ·rw[updL_ne (by decide),hall 9 (by decide)]at h2;cases h2
 ·exact(h9.grown (grownBy_setCellO w bX 0 _) (fun r e=>by cases e;exact h9.notBlock hw (by decide))).grown (grownBy_setCellO _ bX 1 _) (fun r e=>by cases e;exact h9.notBlock hw (by decide))
 ·exact h.f23 (hall 23 (by decide))
 ·simp[updL]at h2
 ·exact⟨bX,hs,hX,heap_setCell_same _ _ _ _ _ _ (heap_setCell_same _ _ _ _ _ _ hw)⟩
end
set_option maxRecDepth 100000 in
set_option maxHeartbeats 16000000 in
theorem paths_r27(X:World)(r:Rt)(l:Int)(n a b bL bO cO bR bA c:Nat)(hst:0<r.st.length)(hst2:r.st.length≤900)(hn0:0≤r.n)(hn1:r.n≤1000000)(hl0:0≤l)(hl1:l≤1000)(ha:a<n)(hb:b<n)
 (hO0:X.cell? ⟨bO,a*2,none⟩=some (.slice (some ⟨bA,0,none⟩) r.st.length c)) (hO1:X.cell? ⟨bO,a*2+1,none⟩=some (.int .i64 r.n)) (hL0:X.cell? ⟨bL,a,none⟩=some (.slice (some ⟨bR,0,none⟩) n n)) (hL1:X.cell? ⟨bR,b,none⟩=some (.int .i64 l)) (hI:IntB X bA r.st)
 (u0 u1 u2 u3 u4 u5 u7 u8 u9 u11 u12 u15 u16 u17 u18 u19 u20 u21 u22 u23 u24 u25 u26 u27 u28 u29 u30 u31 u32 u33 u34 u35 u36 u37 u38 u39 u40 u41 u42 u43 u44 u45 u46 u47 u48 u49 u50 u51 u52 u53 u54 u55 u56 u57 u58 u59 u60 u61 u62 u63 u64 u65 u66 u67 u68 u69 u70 u71 u72 u73 u74 u75 u76 u77 u78 u79 u80 u81 u82 u83 u84 u85 u86 u87 u88 u89 u90 u91 u92 u93 u94 u95 u96 u97 u98 u99 u100 u101 u102 u103 u104 u105 u106 u107 u108 u109 u110 u111 u112 u113 u114 u115 u116 u117 u118 u119 u120 u121 u122 u123 u124 u125 u126 u127 u128 u129 u130 u131 u132 u133 u134 u135 u136 u137 u138 u139 u140 u141 u142 u143 u144 u145 u146 u147:Value) (K:Act→World→Prop) (Q:Exit→Act→World→Prop)
 (hK:∀(bX:Nat) (v:Value) (v112 v113 v114 v115 v116 v117 v118 v119 v120 v121 v122 v123 v124 v125 v126 v127 v128 v129 v130 v131 v132 v133 v134 v135:Value) (wx:World),X.heap.size≤bX→wx.heap[bX]? =some (.cells #[v,.int .i64 (r.n+l)] 178 (0,0))→OwnI wx X.heap.size v (r.st++ [(b:Int)])→Below X.heap.size X wx→K {tmps:= #[u0,u1,u2,u3,u4,u5,.slice (some ⟨bL,0,none⟩) n n,u7,u8,u9,.slice (some ⟨bO,0,none⟩) n cO,u11,u12,.int .i64 a,.int .i64 b,.pointer (some ⟨bX,0,none⟩),u16,u17,u18,u19,u20,u21,u22,u23,u24,u25,u26,u27,u28,u29,u30,u31,u32,u33,u34,u35,u36,u37,u38,u39,u40,u41,u42,u43,u44,u45,u46,u47,u48,u49,u50,u51,u52,u53,u54,u55,u56,u57,u58,u59,u60,u61,u62,u63,u64,u65,u66,u67,u68,u69,u70,u71,u72,u73,u74,u75,u76,u77,u78,u79,u80,u81,u82,u83,u84,u85,u86,u87,u88,u89,u90,u91,u92,u93,u94,u95,u96,u97,u98,u99,u100,u101,u102,u103,u104,u105,u106,u107,u108,u109,u110,u111,v112,v113,v114,v115,v116,v117,v118,v119,v120,v121,v122,v123,v124,v125,v126,v127,v128,v129,v130,v131,v132,v133,v134,v135,u136,u137,u138,u139,u140,u141,u142,u143,u144,u145,u146,u147],defers:= []} wx):
 Code.wp Tryz.prog (ptR 27) (Exit.then K Q) {tmps:= #[u0,u1,u2,u3,u4,u5,.slice (some ⟨bL,0,none⟩) n n,u7,u8,u9,.slice (some ⟨bO,0,none⟩) n cO,u11,u12,.int .i64 a,.int .i64 b,u15,u16,u17,u18,u19,u20,u21,u22,u23,u24,u25,u26,u27,u28,u29,u30,u31,u32,u33,u34,u35,u36,u37,u38,u39,u40,u41,u42,u43,u44,u45,u46,u47,u48,u49,u50,u51,u52,u53,u54,u55,u56,u57,u58,u59,u60,u61,u62,u63,u64,u65,u66,u67,u68,u69,u70,u71,u72,u73,u74,u75,u76,u77,u78,u79,u80,u81,u82,u83,u84,u85,u86,u87,u88,u89,u90,u91,u92,u93,u94,u95,u96,u97,u98,u99,u100,u101,u102,u103,u104,u105,u106,u107,u108,u109,u110,u111,u112,u113,u114,u115,u116,u117,u118,u119,u120,u121,u122,u123,u124,u125,u126,u127,u128,u129,u130,u131,u132,u133,u134,u135,u136,u137,u138,u139,u140,u141,u142,u143,u144,u145,u146,u147],defers:= []} X:=by
 obtain⟨i0,hi,hz0,hz1,hz2⟩:=info_parts Tryz.infoInt
 have yO:bO<X.heap.size:=World.block_lt_of_cell? X ⟨bO,a*2,none⟩ hO0
 have yL:bL<X.heap.size:=World.block_lt_of_cell? X ⟨bL,a,none⟩ hL0
 have yR:bR<X.heap.size:=World.block_lt_of_cell? X ⟨bR,b,none⟩ hL1
 have yA:bA<X.heap.size:=by obtain⟨_,h,_⟩:=hI;exact blk_lt h
 have HI:=zh (show ∀k (h:k<r.st.length),X.cell? ⟨bA,k,none⟩=some (.int .i64 r.st[k])from fun k hk=>by
  obtain⟨cs,h1,h2⟩:=hI
  rw[cell_of_row _ _ _ _ _ _ h1];exact h2 k hk)
 clear hI
 have hmo:Tryz.prog.follows .mixedOrders=true:=by kernel_rfl
 have HK:=zh hK
 clear hK
 conv=>arg 2;whnf
 refine(wpIn_wide (n:=3)).1 ?_
 refine wpIn_region_inv2 hmo (fun L a' w'=>∃s:Nat→Value,R27 X (cst27 r l n a b bL bO cO bR bA c) r l b L s w'∧a'= {tmps:= #[u0,u1,u2,u3,u4,u5,.slice (some ⟨bL,0,none⟩) n n,u7,u8,u9,.slice (some ⟨bO,0,none⟩) n cO,u11,u12,.int .i64 a,.int .i64 b,s 24,u16,u17,u18,u19,u20,u21,u22,u23,u24,u25,u26,u27,u28,u29,u30,u31,u32,u33,u34,u35,u36,u37,u38,u39,u40,u41,u42,u43,u44,u45,u46,u47,u48,u49,u50,u51,u52,u53,u54,u55,u56,u57,u58,u59,u60,u61,u62,u63,u64,u65,u66,u67,u68,u69,u70,u71,u72,u73,u74,u75,u76,u77,u78,u79,u80,u81,u82,u83,u84,u85,u86,u87,u88,u89,u90,u91,u92,u93,u94,u95,u96,u97,u98,u99,u100,u101,u102,u103,u104,u105,u106,u107,u108,u109,u110,u111,s 0,s 1,s 2,s 3,s 4,s 5,s 6,s 7,s 8,s 9,s 10,s 11,s 12,s 13,s 14,s 15,s 16,s 17,s 18,s 19,s 20,s 21,s 22,s 23,u136,u137,u138,u139,u140,u141,u142,u143,u144,u145,u146,u147],defers:= []}) ?acyc ?h0 ?step ?fin
 case acyc=>
  intro i o ho
  have hi:i<26:=by have:=(Array.getElem?_eq_some_iff.1 ho).1;simpa using this
  rcases(show i=0∨i=1∨i=2∨i=3∨i=4∨i=5∨i=6∨i=7∨i=8∨i=9∨i=10∨i=11∨i=12∨i=13∨i=14∨i=15∨i=16∨i=17∨i=18∨i=19∨i=20∨i=21∨i=22∨i=23∨i=24∨i=25 by omega)with rfl|rfl|rfl|rfl|rfl|rfl|rfl|rfl|rfl|rfl|rfl|rfl|rfl|rfl|rfl|rfl|rfl|rfl|rfl|rfl|rfl|rfl|rfl|rfl|rfl|rfl<;>(simp at ho;subst ho;simp)
 case h0=>
  refine⟨fun i=>match i with|0=>u112|1=>u113|2=>u114|3=>u115|4=>u116|5=>u117|6=>u118|7=>u119|8=>u120|9=>u121|10=>u122|11=>u123|12=>u124|13=>u125|14=>u126|15=>u127|16=>u128|17=>u129|18=>u130|19=>u131|20=>u132|21=>u133|22=>u134|23=>u135|24=>u15|_=>.bool false,⟨by exact zbl,fun _ _ h=>(by cases h),fun h=>(by cases h),fun h=>(by cases h),fun h=>(by cases h),fun h=>(by cases h),fun h=>(by cases h),fun h=>(by cases h),fun h=>(by cases h)⟩,rfl⟩
 case step=>
  intro i o ho L a' w' hI hLi hcl he K' hK
  obtain⟨s,hf,rfl⟩:=hI
  have hi:i<26:=by have:=(Array.getElem?_eq_some_iff.1 ho).1;simpa using this
  rcases(show i=0∨i=1∨i=2∨i=3∨i=4∨i=5∨i=6∨i=7∨i=8∨i=9∨i=10∨i=11∨i=12∨i=13∨i=14∨i=15∨i=16∨i=17∨i=18∨i=19∨i=20∨i=21∨i=22∨i=23∨i=24∨i=25 by omega)with rfl|rfl|rfl|rfl|rfl|rfl|rfl|rfl|rfl|rfl|rfl|rfl|rfl|rfl|rfl|rfl|rfl|rfl|rfl|rfl|rfl|rfl|rfl|rfl|rfl|rfl
  ·simp at ho
   subst ho
   have no6:L 6=false:=by
    cases h:L 6 with
    |false=>rfl
    |true=>have:=hcl 6 _ rfl h ⟨0,.data⟩ (by simp) rfl;rw[hLi]at this;cases this
   have no9:L 9=false:=by
    cases h:L 9 with
    |false=>rfl
    |true=>have:=hcl 9 _ rfl h ⟨6,.data⟩ (by simp) rfl;rw[no6]at this;cases this
   have no23:L 23=false:=by
    cases h:L 23 with
    |false=>rfl
    |true=>have:=hcl 23 _ rfl h ⟨9,.data⟩ (by simp) rfl;rw[no9]at this;cases this
   have no25:L 25=false:=by
    cases h:L 25 with
    |false=>rfl
    |true=>have:=hcl 25 _ rfl h ⟨0,.phase⟩ (by simp) rfl;rw[hLi]at this;cases this
   simp[Region.binds]at he
   simp[wpOpIn,Region.wanted]
   go_simp
   refine hK _ _ ⟨upd s 0 (.slice (some ⟨w'.heap.size,0,none⟩) 0 0),hf.op0 (no6) (no9),?_⟩
   simp[upd]
  ·simp at ho
   subst ho
   simp[Region.binds]at he
   simp[wpOpIn,Region.wanted]
   go_simp
   refine hK _ _ ⟨upd s 1 (.slice (some ⟨bO,0,none⟩) n cO),hf.const 1 rfl rfl,?_⟩
   simp[upd]
  ·simp at ho
   subst ho
   simp[Region.binds]at he
   simp[wpOpIn,Region.wanted]
   go_simp
   refine hK _ _ ⟨upd s 2 (.int .i64 a),hf.const 2 rfl rfl,?_⟩
   simp[upd]
  ·simp at ho
   subst ho
   simp[Region.binds]at he
   simp[wpOpIn,Region.wanted]
   have e1:s 1=.slice (some ⟨bO,0,none⟩) n cO:=hf.k 1 rfl (by simp[he])
   have e2:s 2=.int .i64 a:=hf.k 2 rfl (by simp[he])
   go_simp
   refine hK _ _ ⟨upd s 3 (.pointer (some ⟨bO,a*2,none⟩)),hf.const 3 rfl rfl,?_⟩
   simp[upd,e1,e2]
  ·simp at ho
   subst ho
   simp[Region.binds]at he
   simp[wpOpIn,Region.wanted]
   have e3:s 3=.pointer (some ⟨bO,a*2,none⟩):=hf.k 3 rfl (by simp[he])
   go_simp
   refine hK _ _ ⟨upd s 4 (.pointer (some ⟨bO,a*2,none⟩)),hf.const 4 rfl rfl,?_⟩
   simp[upd,e3]
  ·simp at ho
   subst ho
   simp[Region.binds]at he
   simp[wpOpIn,Region.wanted]
   have e4:s 4=.pointer (some ⟨bO,a*2,none⟩):=hf.k 4 rfl (by simp[he])
   have hcr:=(hf.low.cell (p:=⟨bO,a*2,none⟩) yO).trans hO0
   go_simp
   refine hK _ _ ⟨upd s 5 (.slice (some ⟨bA,0,none⟩) r.st.length c),hf.const 5 rfl rfl,?_⟩
   simp[upd,e4]
  ·simp at ho
   subst ho
   have no9:L 9=false:=by
    cases h:L 9 with
    |false=>rfl
    |true=>have:=hcl 9 _ rfl h ⟨6,.data⟩ (by simp) rfl;rw[hLi]at this;cases this
   have no23:L 23=false:=by
    cases h:L 23 with
    |false=>rfl
    |true=>have:=hcl 23 _ rfl h ⟨9,.data⟩ (by simp) rfl;rw[no9]at this;cases this
   have no25:L 25=false:=by
    cases h:L 25 with
    |false=>rfl
    |true=>have:=hcl 25 _ rfl h ⟨6,.phase⟩ (by simp) rfl;rw[hLi]at this;cases this
   simp[Region.binds]at he
   simp[wpOpIn,Region.wanted]
   have e5:s 5=.slice (some ⟨bA,0,none⟩) r.st.length c:=hf.k 5 rfl (by simp[he])
   have l0:L 0=true:=by simp[he]
   refine wpIn_append_ints w' _ _ rfl X.heap.size (s 0) [] r.st rfl (hf.f0 l0 hLi) bA c (by first|exact e5|simp[e5]) (fun k hk=>(hf.low.cell (p:=⟨bA,k,none⟩) yA).trans (HI.out k hk)) (by simp) (by omega) hf.low.size ?_
   intro v w2 hown hg hat
   refine hK _ _ ⟨upd s 6 v,hf.op6 l0 hLi (no9) (no23) hown hg hat (no25),?_⟩
   simp[upd,Act.put]
  ·simp at ho
   subst ho
   simp[Region.binds]at he
   simp[wpOpIn,Region.wanted]
   go_simp
   refine hK _ _ ⟨upd s 7 (.int .i64 b),hf.const 7 rfl rfl,?_⟩
   simp[upd]
  ·simp at ho
   subst ho
   have no9:L 9=false:=by
    cases h:L 9 with
    |false=>rfl
    |true=>have:=hcl 9 _ rfl h ⟨8,.data⟩ (by simp) rfl;rw[hLi]at this;cases this
   have no23:L 23=false:=by
    cases h:L 23 with
    |false=>rfl
    |true=>have:=hcl 23 _ rfl h ⟨9,.data⟩ (by simp) rfl;rw[no9]at this;cases this
   have no25:L 25=false:=by
    cases h:L 25 with
    |false=>rfl
    |true=>have:=hcl 25 _ rfl h ⟨8,.phase⟩ (by simp) rfl;rw[hLi]at this;cases this
   simp[Region.binds]at he
   simp[wpOpIn,Region.wanted]
   have e7:s 7=.int .i64 b:=hf.k 7 rfl (by simp[he])
   go_simp
   refine hK _ _ ⟨upd s 8 (.slice (some ⟨w'.heap.size,0,none⟩) 1 1),hf.op8 (no9),?_⟩
   simp[upd,e7]
  ·simp at ho
   subst ho
   have no23:L 23=false:=by
    cases h:L 23 with
    |false=>rfl
    |true=>have:=hcl 23 _ rfl h ⟨9,.data⟩ (by simp) rfl;rw[hLi]at this;cases this
   have no25:L 25=false:=by
    cases h:L 25 with
    |false=>rfl
    |true=>have:=hcl 25 _ rfl h ⟨9,.chain⟩ (by simp) rfl;rw[hLi]at this;cases this
   simp[Region.binds]at he
   simp[wpOpIn,Region.wanted]
   have l6:L 6=true:=by simp[he]
   have l8:L 8=true:=by simp[he]
   obtain⟨bT,e8,hcT,_,_,_⟩:=hf.f8 l8 hLi
   have hcq:∀k (h:k< [(b:Int)].length),w'.cell? ⟨bT,k,none⟩=some (.int .i64 [(b:Int)][k]):=fun k hk=>by
    obtain rfl:k=0:=by simpa using hk
    exact hcT
   refine wpIn_append_ints w' _ _ rfl X.heap.size (s 6) r.st [(b:Int)] rfl (hf.f6 l6 hLi) bT 1 (by first|exact e8|simp[e8]) hcq (by omega) (by simp) hf.low.size ?_
   intro v w2 hown hg hat
   refine hK _ _ ⟨upd s 9 v,hf.op9 l6 hLi (no23) hown hg (no25),?_⟩
   simp[upd,Act.put]
  ·simp at ho
   subst ho
   simp[Region.binds]at he
   simp[wpOpIn,Region.wanted]
   go_simp
   refine hK _ _ ⟨upd s 10 (.slice (some ⟨bO,0,none⟩) n cO),hf.const 10 rfl rfl,?_⟩
   simp[upd]
  ·simp at ho
   subst ho
   simp[Region.binds]at he
   simp[wpOpIn,Region.wanted]
   go_simp
   refine hK _ _ ⟨upd s 11 (.int .i64 a),hf.const 11 rfl rfl,?_⟩
   simp[upd]
  ·simp at ho
   subst ho
   simp[Region.binds]at he
   simp[wpOpIn,Region.wanted]
   have e10:s 10=.slice (some ⟨bO,0,none⟩) n cO:=hf.k 10 rfl (by simp[he])
   have e11:s 11=.int .i64 a:=hf.k 11 rfl (by simp[he])
   go_simp
   refine hK _ _ ⟨upd s 12 (.pointer (some ⟨bO,a*2,none⟩)),hf.const 12 rfl rfl,?_⟩
   simp[upd,e10,e11]
  ·simp at ho
   subst ho
   simp[Region.binds]at he
   simp[wpOpIn,Region.wanted]
   have e12:s 12=.pointer (some ⟨bO,a*2,none⟩):=hf.k 12 rfl (by simp[he])
   go_simp
   refine hK _ _ ⟨upd s 13 (.pointer (some ⟨bO,a*2+1,none⟩)),hf.const 13 rfl rfl,?_⟩
   simp[upd,e12]
  ·simp at ho
   subst ho
   simp[Region.binds]at he
   simp[wpOpIn,Region.wanted]
   have e13:s 13=.pointer (some ⟨bO,a*2+1,none⟩):=hf.k 13 rfl (by simp[he])
   have hcr:=(hf.low.cell (p:=⟨bO,a*2+1,none⟩) yO).trans hO1
   go_simp
   refine hK _ _ ⟨upd s 14 (.int .i64 r.n),hf.const 14 rfl rfl,?_⟩
   simp[upd,e13]
  ·simp at ho
   subst ho
   simp[Region.binds]at he
   simp[wpOpIn,Region.wanted]
   go_simp
   refine hK _ _ ⟨upd s 15 (.slice (some ⟨bL,0,none⟩) n n),hf.const 15 rfl rfl,?_⟩
   simp[upd]
  ·simp at ho
   subst ho
   simp[Region.binds]at he
   simp[wpOpIn,Region.wanted]
   go_simp
   refine hK _ _ ⟨upd s 16 (.int .i64 a),hf.const 16 rfl rfl,?_⟩
   simp[upd]
  ·simp at ho
   subst ho
   simp[Region.binds]at he
   simp[wpOpIn,Region.wanted]
   have e15:s 15=.slice (some ⟨bL,0,none⟩) n n:=hf.k 15 rfl (by simp[he])
   have e16:s 16=.int .i64 a:=hf.k 16 rfl (by simp[he])
   go_simp
   refine hK _ _ ⟨upd s 17 (.pointer (some ⟨bL,a,none⟩)),hf.const 17 rfl rfl,?_⟩
   simp[upd,e15,e16]
  ·simp at ho
   subst ho
   simp[Region.binds]at he
   simp[wpOpIn,Region.wanted]
   have e17:s 17=.pointer (some ⟨bL,a,none⟩):=hf.k 17 rfl (by simp[he])
   have hcr:=(hf.low.cell (p:=⟨bL,a,none⟩) yL).trans hL0
   go_simp
   refine hK _ _ ⟨upd s 18 (.slice (some ⟨bR,0,none⟩) n n),hf.const 18 rfl rfl,?_⟩
   simp[upd,e17]
  ·simp at ho
   subst ho
   simp[Region.binds]at he
   simp[wpOpIn,Region.wanted]
   go_simp
   refine hK _ _ ⟨upd s 19 (.int .i64 b),hf.const 19 rfl rfl,?_⟩
   simp[upd]
  ·simp at ho
   subst ho
   simp[Region.binds]at he
   simp[wpOpIn,Region.wanted]
   have e18:s 18=.slice (some ⟨bR,0,none⟩) n n:=hf.k 18 rfl (by simp[he])
   have e19:s 19=.int .i64 b:=hf.k 19 rfl (by simp[he])
   go_simp
   refine hK _ _ ⟨upd s 20 (.pointer (some ⟨bR,b,none⟩)),hf.const 20 rfl rfl,?_⟩
   simp[upd,e18,e19]
  ·simp at ho
   subst ho
   simp[Region.binds]at he
   simp[wpOpIn,Region.wanted]
   have e20:s 20=.pointer (some ⟨bR,b,none⟩):=hf.k 20 rfl (by simp[he])
   have hcr:=(hf.low.cell (p:=⟨bR,b,none⟩) yR).trans hL1
   go_simp
   refine hK _ _ ⟨upd s 21 (.int .i64 l),hf.const 21 rfl rfl,?_⟩
   simp[upd,e20]
  ·simp at ho
   subst ho
   simp[Region.binds]at he
   simp[wpOpIn,Region.wanted]
   have e14:s 14=.int .i64 r.n:=hf.k 14 rfl (by simp[he])
   have e21:s 21=.int .i64 l:=hf.k 21 rfl (by simp[he])
   have hwr:IntKind.i64.wrap (r.n+l)=r.n+l:=IntWalk.i64_in _ (by omega)
   go_simp
   refine hK _ _ ⟨upd s 22 (.int .i64 (r.n+l)),hf.const 22 rfl rfl,?_⟩
   simp[upd,e14,e21]
  ·simp at ho
   subst ho
   simp[Region.binds]at he
   simp[wpOpIn,Region.wanted]
   have e22:s 22=.int .i64 (r.n+l):=hf.k 22 rfl (by simp[he])
   obtain⟨g9,c9,e9,_⟩:=(hf.f9 (by simp[he])).slice (by simp)
   go_simp
   refine hK _ _ ⟨upd s 23 (.agg #[s 9,.int .i64 (r.n+l)]),hf.op23,?_⟩
   simp[upd,e22,e9]
  ·simp at ho
   subst ho
   have no25:L 25=false:=by
    cases h:L 25 with
    |false=>rfl
    |true=>have:=hcl 25 _ rfl h ⟨24,.data⟩ (by simp) rfl;rw[hLi]at this;cases this
   simp[Region.binds]at he
   simp[wpOpIn,Region.wanted]
   go_simp
   refine hK _ _ ⟨upd s 24 (.pointer (some ⟨w'.heap.size,0,none⟩)),hf.op24 (no25),?_⟩
   simp[upd]
  ·simp at ho
   subst ho
   simp[Region.binds]at he
   simp[wpOpIn,Region.wanted]
   have hall:∀k,k<25→L k=true:=by
    intro k hk
    rcases(show k=0∨k=1∨k=2∨k=3∨k=4∨k=5∨k=6∨k=7∨k=8∨k=9∨k=10∨k=11∨k=12∨k=13∨k=14∨k=15∨k=16∨k=17∨k=18∨k=19∨k=20∨k=21∨k=22∨k=23∨k=24 by omega)with rfl|rfl|rfl|rfl|rfl|rfl|rfl|rfl|rfl|rfl|rfl|rfl|rfl|rfl|rfl|rfl|rfl|rfl|rfl|rfl|rfl|rfl|rfl|rfl|rfl<;>simp[he]
   obtain⟨bX,e24,hX,hw⟩:=hf.f24 (hall 24 (by omega)) hLi
   have e23:=hf.f23 (hall 23 (by omega))
   obtain⟨g9,c9,e9,_⟩:=(hf.f9 (hall 9 (by omega))).slice (by simp)
   simp only[List.length_append,List.length_cons,List.length_nil,Nat.zero_add]at e9
   have hb0:w'.cell? ⟨bX,0,none⟩=some (.slice none 0 0):=by simp[World.cell?,hw]
   have hb1:w'.cell? ⟨bX,1,none⟩=some (.int .i64 0):=by simp[World.cell?,hw]
   have hq0:w'.frozen? ⟨bX,0,none⟩=false:=by simp[World.frozen?,hw]
   have hq1:w'.frozen? ⟨bX,1,none⟩=false:=by simp[World.frozen?,hw]
   have HF:=zh (hf.op25 hall hX e24 hw)
   rw[e9]at e23 HF
   clear hw
   go_simp
   refine hK _ _ ⟨s,HF.out,?_⟩
   simp[e24,e23,e9]
 case fin=>
  intro L a' w' hI hall
  obtain⟨s,hf,rfl⟩:=hI
  have h9:=hf.f9 (hall 9 (by simp))
  obtain⟨bX,h1,h2,h3⟩:=hf.f25 (hall 25 (by simp))
  rw[h1]
  exact HK.out bX (s 9) (s 0) (s 1) (s 2) (s 3) (s 4) (s 5) (s 6) (s 7) (s 8) (s 9) (s 10) (s 11) (s 12) (s 13) (s 14) (s 15) (s 16) (s 17) (s 18) (s 19) (s 20) (s 21) (s 22) (s 23) w' h2 h3 h9 hf.low
end Go.Proofs.YtehnikhicnnnhaaGreatDoor
/- The reference's Stepped: the region that leads a mirror home and lays it back into its box. | The reference's CheckField: the region that looks at the steps left, where it asks for the move. -/
import Derived.Test.YtehnikhicnnnhaaGreatDoorPa36
import Derived.Laws.AppendOwnNone
import Derived.Laws.CopyOwn
namespace Go.Proofs.YtehnikhicnnnhaaGreatDoor
open Go.RowKit Go.Shelf
theorem wpAnyIn_invB{F:Fence}{n:Nat}{P:Program}{ops:Array Oper}{Q:Exit→Act→World→Prop}(I:(Nat→Bool)→Act→World→Prop)
 (acyc:∀(i:Nat) (o:Oper),ops[i]? =some o→∀e∈o.after.toList,Region.binds .any e=true→e.on<i)
 (step:∀(i:Nat) (o:Oper),ops[i]? =some o→∀L a w,I L a w→L i=false→(∀e∈o.after.toList,Region.binds .any e=true→L e.on=true)→∀K:Act→World→Prop,(∀a' w',I (updL L i) a' w'→K a' w')→wpOpIn F n P ops Q i K a w)
 (fin:∀L a w,I L a w→(∀i,i<ops.size→L i=true)→Q .normal a w):
 ∀(fuel:Nat) (listed:Array Bool) (a:Act) (w:World),listed.size=ops.size→(listed.toList.filter (fun b=> !b)).length=fuel→I (listL listed) a w→wpAnyIn F n P .any ops Q fuel listed a w:=by
 have hall:∀(listed:Array Bool),listed.size=ops.size→Region.ready .any ops listed= []→∀i,i<ops.size→listL listed i=true:=by
  intro listed hs hr i
  induction i using Nat.strongRecOn with
  |_ i ih=>
   intro hi
   by_cases hl:listL listed i=true
   ·exact hl
   ·exfalso
    have hm:i∈Region.ready .any ops listed:=by
     refine mem_ready.2 ⟨hi,?_,fun o ho=>?_⟩
     ·have h2:i<listed.size:=by omega
      have h3:listL listed i=listed[i]:=by simp[listL,Array.getD,h2]
      rw[h3]at hl
      simp[Array.getD,h2]
      simpa using hl
     ·rw[Array.all_eq_true_iff_forall_mem]
      intro e he
      by_cases hb:Region.binds .any e=true
      ·have h4:=acyc i o ho e (by simpa using he) hb
       have h5:=ih e.on h4 (by omega)
       simp only[listL]at h5
       simp[h5]
      ·simp[hb]
    rw[hr]at hm
    simp at hm
 intro fuel
 induction fuel with
 |zero=>
  intro listed a w hs hf hI
  have hnone:∀i,i<ops.size→listL listed i=true:=fun i hi=>by
   have h2:i<listed.size:=by omega
   have h3:listL listed i=listed[i]:=by simp[listL,Array.getD,h2]
   rw[h3]
   have h4:=List.filter_eq_nil_iff.1 (List.length_eq_zero_iff.1 hf) listed[i] (by simp)
   simpa using h4
  refine⟨?_,fin _ _ _ hI hnone⟩
  cases hr:Region.ready .any ops listed with
  |nil=>rfl
  |cons i rest=>
   exfalso
   have hm:i∈Region.ready .any ops listed:=by rw[hr];simp
   have h1:=mem_ready.1 hm
   have h2:=hnone i h1.1
   have h3:i<listed.size:=by omega
   have h4:=h1.2.1
   simp[listL,Array.getD,h3]at h2 h4
   rw[h2]at h4;cases h4
 |succ fuel ih=>
  intro listed a w hs hf hI
  refine⟨fun hr=>fin _ _ _ hI (hall listed hs hr),fun i hi=>?_⟩
  have h1:=mem_ready.1 hi
  have h3:i<listed.size:=by omega
  have ho:=Array.getElem?_eq_getElem h1.1
  have h4:=h1.2.1
  have h5:listL listed i=false:=by simp[listL,Array.getD,h3]at h4 ⊢;exact h4
  refine step i _ ho (listL listed) a w hI h5 (fun e he hb=>?_) _ (fun a' w' hI'=>ih _ a' w' (by simp[hs]) ?_ (by rw[listL_upd h3];exact hI'))
  ·have h6:=Array.all_eq_true_iff_forall_mem.1 (h1.2.2 _ ho) e (by simpa using he)
   rw[hb]at h6
   simpa [listL]using h6
  ·have h7:listed[i]=false:=by simp[listL,Array.getD,h3]at h5;exact h5
   have h8:∀(l:List Bool) (k:Nat) (hk:k<l.length),l[k]=false→((l.set k true).filter fun b=> !b).length+1=(l.filter fun b=> !b).length:=by
    intro l
    induction l with
    |nil=>intro k hk;simp at hk
    |cons b l ihl=>
     intro k hk hb
     cases k with
     |zero=>simp at hb;subst hb;simp
     |succ k=>
      have:=ihl k (by simpa using hk) (by simpa using hb)
      cases b<;>simp<;>omega
   have:=h8 listed.toList i (by simpa using h3) (by simpa using h7)
   rw[Array.toList_setIfInBounds]
   omega
theorem wpIn_region_invB{F:Fence}{n:Nat}{P:Program}{ops:Array Oper}{Q:Exit→Act→World→Prop}{id:Nat}{a:Act}{w:World}(hm:P.follows .mixedOrders=true)(I:(Nat→Bool)→Act→World→Prop)
 (acyc:∀(i:Nat) (o:Oper),ops[i]? =some o→∀e∈o.after.toList,Region.binds .any e=true→e.on<i)
 (h0:I (fun _=>false) a w.drew)
 (step:∀(i:Nat) (o:Oper),ops[i]? =some o→∀L a w,I L a w→L i=false→(∀e∈o.after.toList,Region.binds .any e=true→L e.on=true)→∀K:Act→World→Prop,(∀a' w',I (updL L i) a' w'→K a' w')→wpOpIn F n P ops Q i K a w)
 (fin:∀L a w,I L a w→(∀i,i<ops.size→L i=true)→Q .normal a w):(Code.region id ops true).wpIn F n P Q a w:=by
 refine wpIn_region_any hm (wpAnyIn_invB I acyc step fin _ _ _ _ (by simp) ?_ ?_)
 ·simp
 ·have:listL (Array.replicate ops.size false)=fun _=>false:=by
   funext i;unfold listL;simp[Array.getD]
  rw[this]
  exact h0
theorem wpIn_region_inv2B{F:Fence}{n:Nat}{P:Program}{ops:Array Oper}{Q:Exit→Act→World→Prop}{id:Nat}{a:Act}{w:World}(hm:P.follows .mixedOrders=true)(I:(Nat→Bool)→Act→World→Prop)
 (acyc:∀(i:Nat) (o:Oper),ops[i]? =some o→∀e∈o.after.toList,Region.binds .any e=true→e.on<i)
 (h0:I (fun _=>false) a w.drew)
 (step:∀(i:Nat) (o:Oper),ops[i]? =some o→∀L a w,I L a w→L i=false→ClosedL ops L→(∀e∈o.after.toList,Region.binds .any e=true→L e.on=true)→∀K:Act→World→Prop,(∀a' w',I (updL L i) a' w'→K a' w')→wpOpIn F n P ops Q i K a w)
 (fin:∀L a w,I L a w→(∀i,i<ops.size→L i=true)→Q .normal a w):(Code.region id ops true).wpIn F n P Q a w:=by
 refine wpIn_region_invB hm (fun L a w=>I L a w∧ClosedL ops L) acyc ⟨h0,fun _ _ _ h=>by cases h⟩ ?_ (fun L a w h=>fin L a w h.1)
 intro i o ho L a w hI hLi he K hK
 refine step i o ho L a w hI.1 hLi hI.2 he K (fun a' w' h=>hK a' w' ⟨h,fun k ok hk hL e hee hb=>?_⟩)
 by_cases hki:k=i
 ·subst hki
  rw[ho]at hk;cases hk
  exact updL_le (he e hee hb)
 ·exact updL_le (hI.2 k ok hk (by simpa [updL,hki]using hL) e hee hb)
structure RJ(X:World)(C:Option Addr→Nat→Nat→Value)(P F:Option Addr→Nat→World→Prop)(L:Nat→Bool)(A7:Option Addr)(c7:Nat)(s:Nat→Value)(w:World):Prop where
 pre:L 10=false→Below X.heap.size X w
 led:L 6=true→L 10=false→P A7 c7 w
 post:L 10=true→F A7 c7 w
 k:∀i,i<10→L i=true→s i=C A7 c7 i
section
variable {X w w2:World} {C:Option Addr→Nat→Nat→Value} {P F:Option Addr→Nat→World→Prop} {L:Nat→Bool} {A7:Option Addr} {c7:Nat} {s:Nat→Value}
theorem RJ.const(h:RJ X C P F L A7 c7 s w)(i:Nat)(h6:6≠i)(h10:10≠i){v:Value}(hv:v=C A7 c7 i):RJ X C P F (updL L i) A7 c7 (updS s i v) w:=by
 subst hv
 refine⟨fun e=>h.pre (by rw[updL_ne h10]at e;exact e),fun e1 e2=>h.led (by rw[updL_ne h6]at e1;exact e1) (by rw[updL_ne h10]at e2;exact e2),fun e=>h.post (by rw[updL_ne h10]at e;exact e),fun j hj hL=>?_⟩
 unfold updS
 by_cases e:j=i
 ·subst e;rw[if_pos rfl]
 ·rw[if_neg e];rw[updL_ne e]at hL;exact h.k j hj hL
theorem RJ.world(h:RJ X C P F L A7 c7 s w)(h6:L 6=false)(h10:L 10=false)(hb:Below w.heap.size w w2):RJ X C P F L A7 c7 s w2:=
 ⟨fun e=>(h.pre e).trans (hb.mono (h.pre e).size),fun e=>(by rw[h6]at e;cases e),fun e=>(by rw[h10]at e;cases e),h.k⟩
end
noncomputable def stR_c:Code:=(findZ 8 (Tryz.f43.body.getD .skip)).getD .skip
def stR_v(a:GA)(g:Grd)(m m7:Mir)(A:Option Addr)(c:Nat)(t h:Int)(A7:Option Addr)(c7:Nat):Nat→Value
 |0=>.agg #[.int .i64 g.blur,.slice a.pS g.sta.length a.cs,.slice a.pM g.mov.length a.cm,.slice a.pZ g.zon.length a.cz]
 |1=>.agg #[.string m.name,.string m.sec,.int .i64 m.loc,.slice A m.way.length c,.int .i64 m.left,.int .i64 m.heard]
 |2=>.agg #[.int .i64 g.blur,.slice a.pS g.sta.length a.cs,.slice a.pM g.mov.length a.cm,.slice a.pZ g.zon.length a.cz]
 |3=>.agg #[.string m.name,.string m.sec,.int .i64 m.loc,.slice A m.way.length c,.int .i64 m.left,.int .i64 m.heard]
 |4=>.int .i64 t
 |5=>.int .i64 h
 |6=>.tuple #[.agg #[.string m7.name,.string m7.sec,.int .i64 m7.loc,.slice A7 m7.way.length c7,.int .i64 m7.left,.int .i64 m7.heard],.int .i64 0]
 |7=>.tuple #[.agg #[.string m7.name,.string m7.sec,.int .i64 m7.loc,.slice A7 m7.way.length c7,.int .i64 m7.left,.int .i64 m7.heard],.int .i64 0]
 |8=>.agg #[.string m7.name,.string m7.sec,.int .i64 m7.loc,.slice A7 m7.way.length c7,.int .i64 m7.left,.int .i64 m7.heard]
 |9=>.int .i64 0
 |_=>.bool false
set_option maxRecDepth 100000 in
set_option maxHeartbeats 16000000 in
theorem stR_r(X:World)(a:GA)(g:Grd)(m m7:Mir)(A:Option Addr)(c bG mb:Nat)(t h:Int)(P F:Option Addr→Nat→World→Prop)
 (hG0:X.cell? ⟨bG,0,none⟩=some (.int .i64 g.blur)) (hG1:X.cell? ⟨bG,1,none⟩=some (.slice a.pS g.sta.length a.cs)) (hG2:X.cell? ⟨bG,2,none⟩=some (.slice a.pM g.mov.length a.cm)) (hG3:X.cell? ⟨bG,3,none⟩=some (.slice a.pZ g.zon.length a.cz))
 (hM:X.heap[mb]? =some (.cells #[.string m.name,.string m.sec,.int .i64 m.loc,.slice A m.way.length c,.int .i64 m.left,.int .i64 m.heard] 107 (0,0)))
 (hTurn:∀W,Below X.heap.size X W→Calls Tryz.prog 119 #[.agg #[.string m.name,.string m.sec,.int .i64 m.loc,.slice A m.way.length c,.int .i64 m.left,.int .i64 m.heard]] W fun e w'=>e=.returned (.int .i64 t)∧Below W.heap.size W w')
 (hHome:∀W,Below X.heap.size X W→Calls Tryz.prog 101 #[.agg #[.int .i64 g.blur,.slice a.pS g.sta.length a.cs,.slice a.pM g.mov.length a.cm,.slice a.pZ g.zon.length a.cz],.int .i64 t] W fun e w'=>e=.returned (.int .i64 h)∧Below W.heap.size W w')
 (hLed:∀W,Below X.heap.size X W→Calls Tryz.prog 121 #[.agg #[.int .i64 g.blur,.slice a.pS g.sta.length a.cs,.slice a.pM g.mov.length a.cm,.slice a.pZ g.zon.length a.cz],.agg #[.string m.name,.string m.sec,.int .i64 m.loc,.slice A m.way.length c,.int .i64 m.left,.int .i64 m.heard],.int .i64 h] W fun e w'=>∃A7 c7,e=.returned (.tuple #[.agg #[.string m7.name,.string m7.sec,.int .i64 m7.loc,.slice A7 m7.way.length c7,.int .i64 m7.left,.int .i64 m7.heard],.int .i64 0])∧Below W.heap.size W w'∧P A7 c7 w')
 (hF:∀A7 c7 W,Below X.heap.size X W→P A7 c7 W→F A7 c7 ((((((W.setCell ⟨mb,0,none⟩ (.string m7.name)).setCell ⟨mb,1,none⟩ (.string m7.sec)).setCell ⟨mb,2,none⟩ (.int .i64 m7.loc)).setCell ⟨mb,3,none⟩ (.slice A7 m7.way.length c7)).setCell ⟨mb,4,none⟩ (.int .i64 m7.left)).setCell ⟨mb,5,none⟩ (.int .i64 m7.heard)))
 (u0 u1 u3 u4 u5 u6 u8 u9 u10 u11 u12 u13 u14 u15 u16 u17 u18 u19 u20 u21 u22 u23 u24 u25 u26 u27 u28 u29 u30 u31 u32 u33 u34 u35 u36 u37 u38 u39 u40 u41 u42 u43 u44 u45 u46 u47 u48 u49 u50 u51 u52 u53 u54 u55 u56 u57 u58 u59 u60 u61 u62 u63 u64 u65 u66 u67 u68 u69 u70 u71 u72 u73 u74 u75 u76 u77 u78 u79 u80 u81 u82 u83 u84 u85 u86 u87 u88 u89 u90 u91 u92 u93 u94:Value) (K:Act→World→Prop) (Q:Exit→Act→World→Prop)
 (hK:∀(v45 v46 v47 v48 v49 v50 v51 v44 v52 v53:Value) (wx:World) (A7:Option Addr) (c7:Nat),F A7 c7 wx→K {tmps:= #[u0,u1,.pointer (some ⟨bG,0,none⟩),u3,u4,u5,u6,.pointer (some ⟨mb,0,none⟩),u8,u9,u10,u11,u12,u13,u14,u15,u16,u17,u18,u19,u20,u21,u22,u23,u24,u25,u26,u27,u28,u29,u30,u31,u32,u33,u34,u35,u36,u37,u38,u39,u40,u41,u42,u43,v44,v45,v46,v47,v48,v49,v50,v51,v52,v53,u54,u55,u56,u57,u58,u59,u60,u61,u62,u63,u64,u65,u66,u67,u68,u69,u70,u71,u72,u73,u74,u75,u76,u77,u78,u79,u80,u81,u82,u83,u84,u85,u86,u87,u88,u89,u90,u91,u92,u93,u94],defers:= []} wx):
 Code.wp Tryz.prog stR_c (Exit.then K Q) {tmps:= #[u0,u1,.pointer (some ⟨bG,0,none⟩),u3,u4,u5,u6,.pointer (some ⟨mb,0,none⟩),u8,u9,u10,u11,u12,u13,u14,u15,u16,u17,u18,u19,u20,u21,u22,u23,u24,u25,u26,u27,u28,u29,u30,u31,u32,u33,u34,u35,u36,u37,u38,u39,u40,u41,u42,u43,u44,u45,u46,u47,u48,u49,u50,u51,u52,u53,u54,u55,u56,u57,u58,u59,u60,u61,u62,u63,u64,u65,u66,u67,u68,u69,u70,u71,u72,u73,u74,u75,u76,u77,u78,u79,u80,u81,u82,u83,u84,u85,u86,u87,u88,u89,u90,u91,u92,u93,u94],defers:= []} X:=by
 have yG:bG<X.heap.size:=World.block_lt_of_cell? X ⟨bG,0,none⟩ hG0
 have yM:mb<X.heap.size:=blk_lt hM
 have hmo:Tryz.prog.follows .mixedOrders=true:=by kernel_rfl
 have HK:=zh hK
 have HM:=zh hM
 have HF:=zh hF
 clear hK hM hF
 conv=>arg 2;whnf
 refine(wpIn_wide (n:=3)).1 ?_
 refine wpIn_region_inv2B hmo (fun L a' w'=>∃(A7:Option Addr) (c7:Nat) (s:Nat→Value),RJ X (stR_v a g m m7 A c t h) P F L A7 c7 s w'∧a'= {tmps:= #[u0,u1,.pointer (some ⟨bG,0,none⟩),u3,u4,u5,u6,.pointer (some ⟨mb,0,none⟩),u8,u9,u10,u11,u12,u13,u14,u15,u16,u17,u18,u19,u20,u21,u22,u23,u24,u25,u26,u27,u28,u29,u30,u31,u32,u33,u34,u35,u36,u37,u38,u39,u40,u41,u42,u43,s 7,s 0,s 1,s 2,s 3,s 4,s 5,s 6,s 8,s 9,u54,u55,u56,u57,u58,u59,u60,u61,u62,u63,u64,u65,u66,u67,u68,u69,u70,u71,u72,u73,u74,u75,u76,u77,u78,u79,u80,u81,u82,u83,u84,u85,u86,u87,u88,u89,u90,u91,u92,u93,u94],defers:= []}) ?acyc ?h0 ?step ?fin
 case acyc=>
  intro i o ho
  have hi:i<11:=by have:=(Array.getElem?_eq_some_iff.1 ho).1;simpa using this
  rcases(show i=0∨i=1∨i=2∨i=3∨i=4∨i=5∨i=6∨i=7∨i=8∨i=9∨i=10 by omega)with rfl|rfl|rfl|rfl|rfl|rfl|rfl|rfl|rfl|rfl|rfl<;>(simp at ho;subst ho;simp[Region.binds])
 case h0=>exact⟨none,0,fun i=>match i with|0=>u45|1=>u46|2=>u47|3=>u48|4=>u49|5=>u50|6=>u51|7=>u44|8=>u52|9=>u53|_=>.bool false,⟨fun _=>by exact zbl,fun h=>(by cases h),fun h=>(by cases h),fun _ _ h=>(by cases h)⟩,rfl⟩
 case step=>
  intro i o ho L a' w' hI hLi hcl he K' hK
  obtain⟨A7,c7,s,hf,rfl⟩:=hI
  have hi:i<11:=by have:=(Array.getElem?_eq_some_iff.1 ho).1;simpa using this
  have hno:i<9→L 10=false:=fun hlt=>by
   cases hL:L 10 with
   |false=>rfl
   |true=>
    have h1:=hcl 10 _ rfl hL
    exfalso
    rcases(show i=0∨i=1∨i=2∨i=3∨i=4∨i=5∨i=6∨i=7∨i=8 by omega)with rfl|rfl|rfl|rfl|rfl|rfl|rfl|rfl|rfl<;>simp[Region.binds,hLi]at h1
  have h65:L 6=true→L 5=true:=fun hL=>by have h1:=hcl 6 _ rfl hL;simp[Region.binds]at h1;simp[h1]
  have h54:L 5=true→L 4=true:=fun hL=>by have h1:=hcl 5 _ rfl hL;simp[Region.binds]at h1;simp[h1]
  have h76:L 7=true→L 6=true:=fun hL=>by have h1:=hcl 7 _ rfl hL;simp[Region.binds]at h1;simp[h1]
  have h87:L 8=true→L 7=true:=fun hL=>by have h1:=hcl 8 _ rfl hL;simp[Region.binds]at h1;simp[h1]
  have h97:L 9=true→L 7=true:=fun hL=>by have h1:=hcl 9 _ rfl hL;simp[Region.binds]at h1;simp[h1]
  rcases(show i=0∨i=1∨i=2∨i=3∨i=4∨i=5∨i=6∨i=7∨i=8∨i=9∨i=10 by omega)with rfl|rfl|rfl|rfl|rfl|rfl|rfl|rfl|rfl|rfl|rfl
  ·simp at ho
   subst ho
   simp[Region.binds]at he
   simp[wpOpIn,Region.wanted]
   have hb:=hf.pre (hno (by decide))
   have hc0:=(hb.cell (p:=⟨bG,0,none⟩) yG).trans hG0
   have hc1:=(hb.cell (p:=⟨bG,1,none⟩) yG).trans hG1
   have hc2:=(hb.cell (p:=⟨bG,2,none⟩) yG).trans hG2
   have hc3:=(hb.cell (p:=⟨bG,3,none⟩) yG).trans hG3
   go_simp
   refine hK _ _ ⟨A7,c7,updS s 0 (.agg #[.int .i64 g.blur,.slice a.pS g.sta.length a.cs,.slice a.pM g.mov.length a.cm,.slice a.pZ g.zon.length a.cz]),hf.const 0 (by decide) (by decide) rfl,?_⟩
   first|rfl|simp[updS]
  ·simp at ho
   subst ho
   simp[Region.binds]at he
   simp[wpOpIn,Region.wanted]
   have hb:=hf.pre (hno (by decide))
   have kM:=(hb.block mb yM).trans HM.out
   (obtain⟨p0,pf0,p1,pf1,p2,pf2,p3,pf3,p4,pf4,p5,pf5⟩:=cv6 kM)
   clear kM
   go_simp
   refine hK _ _ ⟨A7,c7,updS s 1 (.agg #[.string m.name,.string m.sec,.int .i64 m.loc,.slice A m.way.length c,.int .i64 m.left,.int .i64 m.heard]),hf.const 1 (by decide) (by decide) rfl,?_⟩
   first|rfl|simp[updS]
  ·simp at ho
   subst ho
   simp[Region.binds]at he
   simp[wpOpIn,Region.wanted]
   have hb:=hf.pre (hno (by decide))
   have hc0:=(hb.cell (p:=⟨bG,0,none⟩) yG).trans hG0
   have hc1:=(hb.cell (p:=⟨bG,1,none⟩) yG).trans hG1
   have hc2:=(hb.cell (p:=⟨bG,2,none⟩) yG).trans hG2
   have hc3:=(hb.cell (p:=⟨bG,3,none⟩) yG).trans hG3
   go_simp
   refine hK _ _ ⟨A7,c7,updS s 2 (.agg #[.int .i64 g.blur,.slice a.pS g.sta.length a.cs,.slice a.pM g.mov.length a.cm,.slice a.pZ g.zon.length a.cz]),hf.const 2 (by decide) (by decide) rfl,?_⟩
   first|rfl|simp[updS]
  ·simp at ho
   subst ho
   simp[Region.binds]at he
   simp[wpOpIn,Region.wanted]
   have hb:=hf.pre (hno (by decide))
   have kM:=(hb.block mb yM).trans HM.out
   (obtain⟨p0,pf0,p1,pf1,p2,pf2,p3,pf3,p4,pf4,p5,pf5⟩:=cv6 kM)
   clear kM
   go_simp
   refine hK _ _ ⟨A7,c7,updS s 3 (.agg #[.string m.name,.string m.sec,.int .i64 m.loc,.slice A m.way.length c,.int .i64 m.left,.int .i64 m.heard]),hf.const 3 (by decide) (by decide) rfl,?_⟩
   first|rfl|simp[updS]
  ·simp at ho
   subst ho
   simp[Region.binds]at he
   have e3:s 3=stR_v a g m m7 A c t h A7 c7 3:=hf.k 3 (by decide) (by simp[he])
   simp only[stR_v]at e3
   simp[wpOpIn,Region.wanted]
   have hb:=hf.pre (hno (by decide))
   have hn10:=hno (by decide)
   have hn6:L 6=false:=(by cases h6:L 6 with|false=>rfl|true=>exact absurd (h54 (h65 h6)) (by simp[hLi]))
   have HC:=zh ((callsIn_wide (n:=2)).2 (hTurn w' hb))
   go_simp
   refine⟨trivial,HC.out.mono ?_⟩
   rintro e wc ⟨rfl,hbc⟩
   simp only
   refine hK _ _ ⟨A7,c7,updS s 4 (.int .i64 t),(hf.world hn6 hn10 hbc).const 4 (by decide) (by decide) rfl,?_⟩
   first|rfl|simp[updS,e3]
  ·simp at ho
   subst ho
   simp[Region.binds]at he
   have e2:s 2=stR_v a g m m7 A c t h A7 c7 2:=hf.k 2 (by decide) (by simp[he])
   simp only[stR_v]at e2
   have e4:s 4=stR_v a g m m7 A c t h A7 c7 4:=hf.k 4 (by decide) (by simp[he])
   simp only[stR_v]at e4
   simp[wpOpIn,Region.wanted]
   have hb:=hf.pre (hno (by decide))
   have hn10:=hno (by decide)
   have hn6:L 6=false:=(by cases h6:L 6 with|false=>rfl|true=>exact absurd (h65 h6) (by simp[hLi]))
   have HC:=zh ((callsIn_wide (n:=2)).2 (hHome w' hb))
   go_simp
   refine⟨trivial,HC.out.mono ?_⟩
   rintro e wc ⟨rfl,hbc⟩
   simp only
   refine hK _ _ ⟨A7,c7,updS s 5 (.int .i64 h),(hf.world hn6 hn10 hbc).const 5 (by decide) (by decide) rfl,?_⟩
   first|rfl|simp[updS,e2,e4]
  ·simp at ho
   subst ho
   simp[Region.binds]at he
   have e0:s 0=stR_v a g m m7 A c t h A7 c7 0:=hf.k 0 (by decide) (by simp[he])
   simp only[stR_v]at e0
   have e1:s 1=stR_v a g m m7 A c t h A7 c7 1:=hf.k 1 (by decide) (by simp[he])
   simp only[stR_v]at e1
   have e5:s 5=stR_v a g m m7 A c t h A7 c7 5:=hf.k 5 (by decide) (by simp[he])
   simp only[stR_v]at e5
   simp[wpOpIn,Region.wanted]
   have hb:=hf.pre (hno (by decide))
   have hn10:=hno (by decide)
   have HC:=zh ((callsIn_wide (n:=2)).2 (hLed w' hb))
   go_simp
   refine⟨trivial,HC.out.mono ?_⟩
   rintro e wc ⟨A8,c8,rfl,hbc,hp⟩
   simp only
   refine hK _ _ ⟨A8,c8,updS s 6 (.tuple #[.agg #[.string m7.name,.string m7.sec,.int .i64 m7.loc,.slice A8 m7.way.length c8,.int .i64 m7.left,.int .i64 m7.heard],.int .i64 0]),⟨fun _=>hb.trans (hbc.mono hb.size),fun _ _=>hp,fun e=>?_,fun j hj hL=>?_⟩,?_⟩
   ·rw[updL_ne (by decide),hn10]at e;cases e
   ·unfold updS
    by_cases e:j=6
    ·subst e;rw[if_pos rfl];rfl
    ·rw[if_neg e]
     rw[updL_ne e]at hL
     have hk:=hf.k j hj hL
     rcases(show j=0∨j=1∨j=2∨j=3∨j=4∨j=5∨j=7∨j=8∨j=9 by omega)with rfl|rfl|rfl|rfl|rfl|rfl|rfl|rfl|rfl
     ·exact hk
     ·exact hk
     ·exact hk
     ·exact hk
     ·exact hk
     ·exact hk
     ·exact absurd (h76 hL) (by simp[hLi])
     ·exact absurd (h76 (h87 hL)) (by simp[hLi])
     ·exact absurd (h76 (h97 hL)) (by simp[hLi])
   first|rfl|simp[updS,e0,e1,e5]
  ·simp at ho
   subst ho
   simp[Region.binds]at he
   have e6:s 6=stR_v a g m m7 A c t h A7 c7 6:=hf.k 6 (by decide) (by simp[he])
   simp only[stR_v]at e6
   simp[wpOpIn,Region.wanted]
   go_simp
   refine hK _ _ ⟨A7,c7,updS s 7 (.tuple #[.agg #[.string m7.name,.string m7.sec,.int .i64 m7.loc,.slice A7 m7.way.length c7,.int .i64 m7.left,.int .i64 m7.heard],.int .i64 0]),hf.const 7 (by decide) (by decide) rfl,?_⟩
   first|rfl|simp[updS,e6]
  ·simp at ho
   subst ho
   simp[Region.binds]at he
   have e7:s 7=stR_v a g m m7 A c t h A7 c7 7:=hf.k 7 (by decide) (by simp[he])
   simp only[stR_v]at e7
   simp[wpOpIn,Region.wanted]
   go_simp
   refine hK _ _ ⟨A7,c7,updS s 8 (.agg #[.string m7.name,.string m7.sec,.int .i64 m7.loc,.slice A7 m7.way.length c7,.int .i64 m7.left,.int .i64 m7.heard]),hf.const 8 (by decide) (by decide) rfl,?_⟩
   first|rfl|simp[updS,e7]
  ·simp at ho
   subst ho
   simp[Region.binds]at he
   have e7:s 7=stR_v a g m m7 A c t h A7 c7 7:=hf.k 7 (by decide) (by simp[he])
   simp only[stR_v]at e7
   simp[wpOpIn,Region.wanted]
   go_simp
   refine hK _ _ ⟨A7,c7,updS s 9 (.int .i64 0),hf.const 9 (by decide) (by decide) rfl,?_⟩
   first|rfl|simp[updS,e7]
  ·simp at ho
   subst ho
   simp[Region.binds]at he
   have e8:s 8=stR_v a g m m7 A c t h A7 c7 8:=hf.k 8 (by decide) (by simp[he])
   simp only[stR_v]at e8
   have hb:=hf.pre hLi
   have hp:=hf.led (by simp[he]) hLi
   have hff:=HF.out A7 c7 w' hb hp
   have kM:=(hb.block mb yM).trans HM.out
   (obtain⟨p0,pf0,p1,pf1,p2,pf2,p3,pf3,p4,pf4,p5,pf5⟩:=cv6 kM)
   clear kM
   have yw:mb<w'.heap.size:=Nat.lt_of_lt_of_le yM hb.size
   simp[wpOpIn,Region.wanted,e8]
   go_simp
   refine hK _ _ ⟨A7,c7,s,⟨fun e=>?_,fun _ e=>?_,fun _=>hff,fun j hj hL=>?_⟩,?_⟩
   ·simp[updL]at e
   ·simp[updL]at e
   ·rw[updL_ne (by omega)]at hL;exact hf.k j hj hL
   first|rfl|simp[e8]
 case fin=>
  intro L a' w' hI hall
  obtain⟨A7,c7,s,hf,rfl⟩:=hI
  exact HK.out (s 0) (s 1) (s 2) (s 3) (s 4) (s 5) (s 6) (s 7) (s 8) (s 9) w' A7 c7 (hf.post (hall 10 (by simp)))
noncomputable def cfr_c:Code:=(findZ 28 (Tryz.f41.body.getD .skip)).getD .skip
def cfr_v(a:GA)(g:Grd)(n:Nat)(c:Nat)(_bG:Nat)(mb:Nat)(bA:Nat)(oA:Nat)(loc:Int)(left:Int)(q:Int)(LK:Int):Nat→Value
 |0=>.pointer (some ⟨mb,3,none⟩)
 |1=>.slice (some ⟨bA,oA,none⟩) n c
 |2=>.int .i64 (n:Int)
 |3=>.bool false
 |4=>.bool false
 |5=>.bool false
 |6=>.bool false
 |7=>.bool false
 |8=>.bool false
 |9=>.bool false
 |10=>.pointer (some ⟨mb,3,none⟩)
 |11=>.slice (some ⟨bA,oA,none⟩) n c
 |12=>.int .i64 (n:Int)
 |13=>.bool true
 |14=>.bool true
 |15=>.pointer (some ⟨mb,4,none⟩)
 |16=>.int .i64 left
 |17=>.bool false
 |18=>.bool false
 |19=>.pointer (some ⟨mb,4,none⟩)
 |20=>.int .i64 left
 |21=>.agg #[.int .i64 g.blur,.slice a.pS g.sta.length a.cs,.slice a.pM g.mov.length a.cm,.slice a.pZ g.zon.length a.cz]
 |22=>.pointer (some ⟨mb,2,none⟩)
 |23=>.int .i64 loc
 |24=>.pointer (some ⟨mb,3,none⟩)
 |25=>.slice (some ⟨bA,oA,none⟩) n c
 |26=>.pointer (some ⟨bA,oA,none⟩)
 |27=>.int .i64 q
 |28=>.int .i64 LK
 |29=>.bool (decide (LK<left))
 |30=>.bool (decide (LK<left))
 |31=>.bool (decide (LK<left))
 |32=>.bool (decide (LK<left))
 |_=>.bool false
def cfr_s(i:Nat):Bool:= !(i==5)&& !(i==6)&& !(i==7)
set_option maxRecDepth 100000 in
set_option maxHeartbeats 16000000 in
theorem cfr_r(X:World)(a:GA)(g:Grd)(n c bG mb bA oA:Nat)(loc left q LK:Int)(hG0:X.cell? ⟨bG,0,none⟩=some (.int .i64 g.blur))(hG1:X.cell? ⟨bG,1,none⟩=some (.slice a.pS g.sta.length a.cs))(hG2:X.cell? ⟨bG,2,none⟩=some (.slice a.pM g.mov.length a.cm))(hG3:X.cell? ⟨bG,3,none⟩=some (.slice a.pZ g.zon.length a.cz))(hM2:X.cell? ⟨mb,2,none⟩=some (.int .i64 loc))(hM3:X.cell? ⟨mb,3,none⟩=some (.slice (some ⟨bA,oA,none⟩) n c))(hM4:X.cell? ⟨mb,4,none⟩=some (.int .i64 left))(hQ:X.cell? ⟨bA,oA,none⟩=some (.int .i64 q))(hn0:((n:Int)==0)=false)(hn1:decide ((0:Int)<(n:Int))=true)(hn2:(0:Int)<(n:Int))(hn3:0<n)(hl1:decide (left<1)=false)(hLk:∀W,Below X.heap.size X W→Calls Tryz.prog 113 #[.agg #[.int .i64 g.blur,.slice a.pS g.sta.length a.cs,.slice a.pM g.mov.length a.cm,.slice a.pZ g.zon.length a.cz],.int .i64 loc,.int .i64 q] W fun e w'=>e=.returned (.int .i64 LK)∧Below W.heap.size W w')
 (u0 u1 u3 u4 u5 u6 u8 u9 u10 u11 u12 u13 u14 u15 u16 u17 u18 u19 u20 u21 u22 u23 u24 u25 u26 u27 u28 u29 u30 u31 u32 u33 u34 u35 u36 u37 u38 u39 u40 u41 u42 u43 u44 u45 u46 u47 u48 u49 u50 u51 u52 u53 u54 u55 u56 u57 u58 u59 u60 u61 u62 u63 u64 u65 u66 u67 u68 u69 u70 u71 u72 u73 u74 u75 u76 u77 u78 u79 u80 u81 u82 u83 u84 u85 u86 u87 u88 u89 u90 u91 u92 u93 u94 u95 u96 u97 u98 u99 u100 u101 u102 u103 u104 u105 u106 u107 u108 u109 u110 u111 u112 u113 u114 u115 u116 u117 u118 u119 u120 u121 u122 u123 u124 u125 u126 u127 u128 u129 u130 u131 u132 u133 u134 u135 u136 u137 u138 u139 u140 u141 u142 u143 u144 u145 u146:Value) (K:Act→World→Prop) (Q:Exit→Act→World→Prop)
 (hK:∀(v101 v102 v103 v104 v105 v106 v107 v108 v109 v110 v111 v112 v113 v114 v115 v116 v117 v118 v119 v120 v121 v122 v123 v124 v125 v126 v127 v128 v129 v130 v131 v132:Value) (wx:World),Below X.heap.size X wx→K {tmps:= #[u0,u1,.pointer (some ⟨bG,0,none⟩),u3,u4,u5,u6,.pointer (some ⟨mb,0,none⟩),u8,u9,u10,u11,u12,u13,u14,u15,u16,u17,u18,u19,u20,u21,u22,u23,u24,u25,u26,u27,u28,u29,u30,u31,u32,u33,u34,u35,u36,u37,u38,u39,u40,u41,u42,u43,u44,u45,u46,u47,u48,u49,u50,u51,u52,u53,u54,u55,u56,u57,u58,u59,u60,u61,u62,u63,u64,u65,u66,u67,u68,u69,u70,u71,u72,u73,u74,u75,u76,u77,u78,u79,u80,u81,u82,u83,u84,u85,u86,u87,u88,u89,u90,u91,u92,u93,u94,u95,u96,u97,u98,u99,u100,v101,v102,v103,v104,v105,v106,v107,v108,v109,v110,v111,v112,v113,v114,v115,v116,v117,v118,v119,v120,v121,v122,v123,v124,v125,v126,v127,v128,v129,v130,v131,v132,.bool (decide (LK<left)),u134,u135,u136,u137,u138,u139,u140,u141,u142,u143,u144,u145,u146],defers:= []} wx):
 Code.wp Tryz.prog cfr_c (Exit.then K Q) {tmps:= #[u0,u1,.pointer (some ⟨bG,0,none⟩),u3,u4,u5,u6,.pointer (some ⟨mb,0,none⟩),u8,u9,u10,u11,u12,u13,u14,u15,u16,u17,u18,u19,u20,u21,u22,u23,u24,u25,u26,u27,u28,u29,u30,u31,u32,u33,u34,u35,u36,u37,u38,u39,u40,u41,u42,u43,u44,u45,u46,u47,u48,u49,u50,u51,u52,u53,u54,u55,u56,u57,u58,u59,u60,u61,u62,u63,u64,u65,u66,u67,u68,u69,u70,u71,u72,u73,u74,u75,u76,u77,u78,u79,u80,u81,u82,u83,u84,u85,u86,u87,u88,u89,u90,u91,u92,u93,u94,u95,u96,u97,u98,u99,u100,u101,u102,u103,u104,u105,u106,u107,u108,u109,u110,u111,u112,u113,u114,u115,u116,u117,u118,u119,u120,u121,u122,u123,u124,u125,u126,u127,u128,u129,u130,u131,u132,u133,u134,u135,u136,u137,u138,u139,u140,u141,u142,u143,u144,u145,u146],defers:= []} X:=by
 have yG:bG<X.heap.size:=World.block_lt_of_cell? X ⟨bG,0,none⟩ hG0
 have yM:mb<X.heap.size:=World.block_lt_of_cell? X ⟨mb,2,none⟩ hM2
 have yA:bA<X.heap.size:=World.block_lt_of_cell? X ⟨bA,oA,none⟩ hQ
 have hmo:Tryz.prog.follows .mixedOrders=true:=by kernel_rfl
 have HK:=zh hK
 clear hK
 conv=>arg 2;whnf
 refine(wpIn_wide (n:=3)).1 ?_
 refine wpIn_region_inv2 hmo (fun L a' w'=>∃s:Nat→Value,RC X (cfr_v a g n c bG mb bA oA loc left q LK) cfr_s L s w'∧a'= {tmps:= #[u0,u1,.pointer (some ⟨bG,0,none⟩),u3,u4,u5,u6,.pointer (some ⟨mb,0,none⟩),u8,u9,u10,u11,u12,u13,u14,u15,u16,u17,u18,u19,u20,u21,u22,u23,u24,u25,u26,u27,u28,u29,u30,u31,u32,u33,u34,u35,u36,u37,u38,u39,u40,u41,u42,u43,u44,u45,u46,u47,u48,u49,u50,u51,u52,u53,u54,u55,u56,u57,u58,u59,u60,u61,u62,u63,u64,u65,u66,u67,u68,u69,u70,u71,u72,u73,u74,u75,u76,u77,u78,u79,u80,u81,u82,u83,u84,u85,u86,u87,u88,u89,u90,u91,u92,u93,u94,u95,u96,u97,u98,u99,u100,s 0,s 1,s 2,s 3,s 4,s 5,s 6,s 7,s 8,s 9,s 10,s 11,s 12,s 13,s 14,s 15,s 16,s 17,s 18,s 19,s 20,s 21,s 22,s 23,s 24,s 25,s 26,s 27,s 28,s 29,s 30,s 31,s 32,u134,u135,u136,u137,u138,u139,u140,u141,u142,u143,u144,u145,u146],defers:= []}) ?acyc ?h0 ?step ?fin
 case acyc=>
  intro i o ho
  have hi:i<33:=by have:=(Array.getElem?_eq_some_iff.1 ho).1;simpa using this
  rcases(show i=0∨i=1∨i=2∨i=3∨i=4∨i=5∨i=6∨i=7∨i=8∨i=9∨i=10∨i=11∨i=12∨i=13∨i=14∨i=15∨i=16∨i=17∨i=18∨i=19∨i=20∨i=21∨i=22∨i=23∨i=24∨i=25∨i=26∨i=27∨i=28∨i=29∨i=30∨i=31∨i=32 by omega)with rfl|rfl|rfl|rfl|rfl|rfl|rfl|rfl|rfl|rfl|rfl|rfl|rfl|rfl|rfl|rfl|rfl|rfl|rfl|rfl|rfl|rfl|rfl|rfl|rfl|rfl|rfl|rfl|rfl|rfl|rfl|rfl|rfl<;>(simp at ho;subst ho;simp)
 case h0=>exact⟨fun i=>match i with|0=>u101|1=>u102|2=>u103|3=>u104|4=>u105|5=>u106|6=>u107|7=>u108|8=>u109|9=>u110|10=>u111|11=>u112|12=>u113|13=>u114|14=>u115|15=>u116|16=>u117|17=>u118|18=>u119|19=>u120|20=>u121|21=>u122|22=>u123|23=>u124|24=>u125|25=>u126|26=>u127|27=>u128|28=>u129|29=>u130|30=>u131|31=>u132|32=>u133|_=>.bool false,⟨by exact zbl,fun _ _ h=>(by cases h)⟩,rfl⟩
 case step=>
  intro i o ho L a' w' hI hLi hcl he K' hK
  obtain⟨s,hf,rfl⟩:=hI
  have hi:i<33:=by have:=(Array.getElem?_eq_some_iff.1 ho).1;simpa using this
  rcases(show i=0∨i=1∨i=2∨i=3∨i=4∨i=5∨i=6∨i=7∨i=8∨i=9∨i=10∨i=11∨i=12∨i=13∨i=14∨i=15∨i=16∨i=17∨i=18∨i=19∨i=20∨i=21∨i=22∨i=23∨i=24∨i=25∨i=26∨i=27∨i=28∨i=29∨i=30∨i=31∨i=32 by omega)with rfl|rfl|rfl|rfl|rfl|rfl|rfl|rfl|rfl|rfl|rfl|rfl|rfl|rfl|rfl|rfl|rfl|rfl|rfl|rfl|rfl|rfl|rfl|rfl|rfl|rfl|rfl|rfl|rfl|rfl|rfl|rfl|rfl
  ·simp at ho
   subst ho
   simp[Region.binds]at he
   simp[wpOpIn,Region.wanted]
   go_simp
   refine hK _ _ ⟨updS s 0 (.pointer (some ⟨mb,3,none⟩)),hf.const 0 rfl,?_⟩
   simp[updS]
  ·simp at ho
   subst ho
   simp[Region.binds]at he
   have e0:s 0=.pointer (some ⟨mb,3,none⟩):=hf.k 0 rfl (by simp[he])
   simp[wpOpIn,Region.wanted]
   have hcx:=(hf.low.cell (p:=⟨mb,3,none⟩) yM).trans hM3
   go_simp
   refine hK _ _ ⟨updS s 1 (.slice (some ⟨bA,oA,none⟩) n c),hf.const 1 rfl,?_⟩
   simp[updS,e0]
  ·simp at ho
   subst ho
   simp[Region.binds]at he
   have e1:s 1=.slice (some ⟨bA,oA,none⟩) n c:=hf.k 1 rfl (by simp[he])
   simp[wpOpIn,Region.wanted]
   go_simp
   refine hK _ _ ⟨updS s 2 (.int .i64 (n:Int)),hf.const 2 rfl,?_⟩
   simp[updS,e1]
  ·simp at ho
   subst ho
   simp[Region.binds]at he
   have e2:s 2=.int .i64 (n:Int):=hf.k 2 rfl (by simp[he])
   simp[wpOpIn,Region.wanted]
   have hx0:=hn0
   go_simp
   refine hK _ _ ⟨updS s 3 (.bool false),hf.const 3 rfl,?_⟩
   simp[updS,e2]
  ·simp at ho
   subst ho
   simp[Region.binds]at he
   have e3:s 3=.bool false:=hf.k 3 rfl (by simp[he])
   simp[wpOpIn,Region.wanted]
   go_simp
   refine hK _ _ ⟨updS s 4 (.bool false),hf.const 4 rfl,?_⟩
   simp[updS,e3]
  ·simp at ho
   subst ho
   simp[Region.binds]at he
   have e4:s 4=.bool false:=hf.k 4 rfl (by simp[he])
   simp[wpOpIn,Region.wanted,e4]
   go_simp
   refine hK _ _ ⟨updS s 5 undef,hf.skip 5 undef rfl,?_⟩
   first|rfl|simp[updS,e4]
  ·simp at ho
   subst ho
   simp[Region.binds]at he
   have e4:s 4=.bool false:=hf.k 4 rfl (by simp[he])
   simp[wpOpIn,Region.wanted,e4]
   go_simp
   refine hK _ _ ⟨updS s 6 undef,hf.skip 6 undef rfl,?_⟩
   first|rfl|simp[updS,e4]
  ·simp at ho
   subst ho
   simp[Region.binds]at he
   have e4:s 4=.bool false:=hf.k 4 rfl (by simp[he])
   simp[wpOpIn,Region.wanted,e4]
   go_simp
   refine hK _ _ ⟨updS s 7 undef,hf.skip 7 undef rfl,?_⟩
   first|rfl|simp[updS,e4]
  ·simp at ho
   subst ho
   simp[Region.binds]at he
   have e4:s 4=.bool false:=hf.k 4 rfl (by simp[he])
   simp[wpOpIn,Region.wanted]
   go_simp
   refine hK _ _ ⟨updS s 8 (.bool false),hf.const 8 rfl,?_⟩
   simp[updS,e4]
  ·simp at ho
   subst ho
   simp[Region.binds]at he
   have e8:s 8=.bool false:=hf.k 8 rfl (by simp[he])
   simp[wpOpIn,Region.wanted]
   go_simp
   refine hK _ _ ⟨updS s 9 (.bool false),hf.const 9 rfl,?_⟩
   simp[updS,e8]
  ·simp at ho
   subst ho
   simp[Region.binds]at he
   have e9:s 9=.bool false:=hf.k 9 rfl (by simp[he])
   simp[wpOpIn,Region.wanted,e9]
   go_simp
   refine hK _ _ ⟨updS s 10 (.pointer (some ⟨mb,3,none⟩)),hf.const 10 rfl,?_⟩
   simp[updS,e9]
  ·simp at ho
   subst ho
   simp[Region.binds]at he
   have e9:s 9=.bool false:=hf.k 9 rfl (by simp[he])
   have e10:s 10=.pointer (some ⟨mb,3,none⟩):=hf.k 10 rfl (by simp[he])
   simp[wpOpIn,Region.wanted,e9,e10]
   have hcx:=(hf.low.cell (p:=⟨mb,3,none⟩) yM).trans hM3
   go_simp
   refine hK _ _ ⟨updS s 11 (.slice (some ⟨bA,oA,none⟩) n c),hf.const 11 rfl,?_⟩
   simp[updS,e9,e10]
  ·simp at ho
   subst ho
   simp[Region.binds]at he
   have e9:s 9=.bool false:=hf.k 9 rfl (by simp[he])
   have e11:s 11=.slice (some ⟨bA,oA,none⟩) n c:=hf.k 11 rfl (by simp[he])
   simp[wpOpIn,Region.wanted,e9,e11]
   go_simp
   refine hK _ _ ⟨updS s 12 (.int .i64 (n:Int)),hf.const 12 rfl,?_⟩
   simp[updS,e9,e11]
  ·simp at ho
   subst ho
   simp[Region.binds]at he
   have e9:s 9=.bool false:=hf.k 9 rfl (by simp[he])
   have e12:s 12=.int .i64 (n:Int):=hf.k 12 rfl (by simp[he])
   simp[wpOpIn,Region.wanted,e9,e12]
   have hx0:=hn1
   have hx1:=hn2
   go_simp
   refine hK _ _ ⟨updS s 13 (.bool true),hf.const 13 rfl,?_⟩
   simp[updS,e9,e12]
  ·simp at ho
   subst ho
   simp[Region.binds]at he
   have e9:s 9=.bool false:=hf.k 9 rfl (by simp[he])
   have e13:s 13=.bool true:=hf.k 13 rfl (by simp[he])
   simp[wpOpIn,Region.wanted,e9,e13]
   go_simp
   refine hK _ _ ⟨updS s 14 (.bool true),hf.const 14 rfl,?_⟩
   simp[updS,e9,e13]
  ·simp at ho
   subst ho
   simp[Region.binds]at he
   have e14:s 14=.bool true:=hf.k 14 rfl (by simp[he])
   simp[wpOpIn,Region.wanted,e14]
   go_simp
   refine hK _ _ ⟨updS s 15 (.pointer (some ⟨mb,4,none⟩)),hf.const 15 rfl,?_⟩
   simp[updS,e14]
  ·simp at ho
   subst ho
   simp[Region.binds]at he
   have e14:s 14=.bool true:=hf.k 14 rfl (by simp[he])
   have e15:s 15=.pointer (some ⟨mb,4,none⟩):=hf.k 15 rfl (by simp[he])
   simp[wpOpIn,Region.wanted,e14,e15]
   have hcx:=(hf.low.cell (p:=⟨mb,4,none⟩) yM).trans hM4
   go_simp
   refine hK _ _ ⟨updS s 16 (.int .i64 left),hf.const 16 rfl,?_⟩
   simp[updS,e14,e15]
  ·simp at ho
   subst ho
   simp[Region.binds]at he
   have e14:s 14=.bool true:=hf.k 14 rfl (by simp[he])
   have e16:s 16=.int .i64 left:=hf.k 16 rfl (by simp[he])
   simp[wpOpIn,Region.wanted,e14,e16]
   have hx0:=hl1
   go_simp
   refine hK _ _ ⟨updS s 17 (.bool false),hf.const 17 rfl,?_⟩
   simp[updS,e14,e16]
  ·simp at ho
   subst ho
   simp[Region.binds]at he
   have e14:s 14=.bool true:=hf.k 14 rfl (by simp[he])
   have e17:s 17=.bool false:=hf.k 17 rfl (by simp[he])
   simp[wpOpIn,Region.wanted,e14,e17]
   go_simp
   refine hK _ _ ⟨updS s 18 (.bool false),hf.const 18 rfl,?_⟩
   simp[updS,e14,e17]
  ·simp at ho
   subst ho
   simp[Region.binds]at he
   have e18:s 18=.bool false:=hf.k 18 rfl (by simp[he])
   simp[wpOpIn,Region.wanted,e18]
   go_simp
   refine hK _ _ ⟨updS s 19 (.pointer (some ⟨mb,4,none⟩)),hf.const 19 rfl,?_⟩
   simp[updS,e18]
  ·simp at ho
   subst ho
   simp[Region.binds]at he
   have e18:s 18=.bool false:=hf.k 18 rfl (by simp[he])
   have e19:s 19=.pointer (some ⟨mb,4,none⟩):=hf.k 19 rfl (by simp[he])
   simp[wpOpIn,Region.wanted,e18,e19]
   have hcx:=(hf.low.cell (p:=⟨mb,4,none⟩) yM).trans hM4
   go_simp
   refine hK _ _ ⟨updS s 20 (.int .i64 left),hf.const 20 rfl,?_⟩
   simp[updS,e18,e19]
  ·simp at ho
   subst ho
   simp[Region.binds]at he
   have e18:s 18=.bool false:=hf.k 18 rfl (by simp[he])
   simp[wpOpIn,Region.wanted,e18]
   have hc0:=(hf.low.cell (p:=⟨bG,0,none⟩) yG).trans hG0
   have hc1:=(hf.low.cell (p:=⟨bG,1,none⟩) yG).trans hG1
   have hc2:=(hf.low.cell (p:=⟨bG,2,none⟩) yG).trans hG2
   have hc3:=(hf.low.cell (p:=⟨bG,3,none⟩) yG).trans hG3
   go_simp
   refine hK _ _ ⟨updS s 21 (.agg #[.int .i64 g.blur,.slice a.pS g.sta.length a.cs,.slice a.pM g.mov.length a.cm,.slice a.pZ g.zon.length a.cz]),hf.const 21 rfl,?_⟩
   simp[updS,e18]
  ·simp at ho
   subst ho
   simp[Region.binds]at he
   have e18:s 18=.bool false:=hf.k 18 rfl (by simp[he])
   simp[wpOpIn,Region.wanted,e18]
   go_simp
   refine hK _ _ ⟨updS s 22 (.pointer (some ⟨mb,2,none⟩)),hf.const 22 rfl,?_⟩
   simp[updS,e18]
  ·simp at ho
   subst ho
   simp[Region.binds]at he
   have e18:s 18=.bool false:=hf.k 18 rfl (by simp[he])
   have e22:s 22=.pointer (some ⟨mb,2,none⟩):=hf.k 22 rfl (by simp[he])
   simp[wpOpIn,Region.wanted,e18,e22]
   have hcx:=(hf.low.cell (p:=⟨mb,2,none⟩) yM).trans hM2
   go_simp
   refine hK _ _ ⟨updS s 23 (.int .i64 loc),hf.const 23 rfl,?_⟩
   simp[updS,e18,e22]
  ·simp at ho
   subst ho
   simp[Region.binds]at he
   have e18:s 18=.bool false:=hf.k 18 rfl (by simp[he])
   simp[wpOpIn,Region.wanted,e18]
   go_simp
   refine hK _ _ ⟨updS s 24 (.pointer (some ⟨mb,3,none⟩)),hf.const 24 rfl,?_⟩
   simp[updS,e18]
  ·simp at ho
   subst ho
   simp[Region.binds]at he
   have e18:s 18=.bool false:=hf.k 18 rfl (by simp[he])
   have e24:s 24=.pointer (some ⟨mb,3,none⟩):=hf.k 24 rfl (by simp[he])
   simp[wpOpIn,Region.wanted,e18,e24]
   have hcx:=(hf.low.cell (p:=⟨mb,3,none⟩) yM).trans hM3
   go_simp
   refine hK _ _ ⟨updS s 25 (.slice (some ⟨bA,oA,none⟩) n c),hf.const 25 rfl,?_⟩
   simp[updS,e18,e24]
  ·simp at ho
   subst ho
   simp[Region.binds]at he
   have e18:s 18=.bool false:=hf.k 18 rfl (by simp[he])
   have e25:s 25=.slice (some ⟨bA,oA,none⟩) n c:=hf.k 25 rfl (by simp[he])
   simp[wpOpIn,Region.wanted,e18,e25]
   have hx0:=hn2
   have hx1:=hn3
   go_simp
   refine hK _ _ ⟨updS s 26 (.pointer (some ⟨bA,oA,none⟩)),hf.const 26 rfl,?_⟩
   simp[updS,e18,e25]
  ·simp at ho
   subst ho
   simp[Region.binds]at he
   have e18:s 18=.bool false:=hf.k 18 rfl (by simp[he])
   have e26:s 26=.pointer (some ⟨bA,oA,none⟩):=hf.k 26 rfl (by simp[he])
   simp[wpOpIn,Region.wanted,e18,e26]
   have hcx:=(hf.low.cell (p:=⟨bA,oA,none⟩) yA).trans hQ
   go_simp
   refine hK _ _ ⟨updS s 27 (.int .i64 q),hf.const 27 rfl,?_⟩
   simp[updS,e18,e26]
  ·simp at ho
   subst ho
   simp[Region.binds]at he
   have e18:s 18=.bool false:=hf.k 18 rfl (by simp[he])
   have e21:s 21=.agg #[.int .i64 g.blur,.slice a.pS g.sta.length a.cs,.slice a.pM g.mov.length a.cm,.slice a.pZ g.zon.length a.cz]:=hf.k 21 rfl (by simp[he])
   have e23:s 23=.int .i64 loc:=hf.k 23 rfl (by simp[he])
   have e27:s 27=.int .i64 q:=hf.k 27 rfl (by simp[he])
   simp[wpOpIn,Region.wanted,e18,e21,e23,e27]
   have HC:=zh ((callsIn_wide (n:=2)).2 (hLk w' hf.low))
   go_simp
   refine⟨trivial,HC.out.mono ?_⟩
   rintro e wc ⟨rfl,hbc⟩
   simp only
   refine hK _ _ ⟨updS s 28 (.int .i64 LK),(hf.world hbc).const 28 rfl,?_⟩
   simp[updS,e18,e21,e23,e27]
  ·simp at ho
   subst ho
   simp[Region.binds]at he
   have e18:s 18=.bool false:=hf.k 18 rfl (by simp[he])
   have e20:s 20=.int .i64 left:=hf.k 20 rfl (by simp[he])
   have e28:s 28=.int .i64 LK:=hf.k 28 rfl (by simp[he])
   simp[wpOpIn,Region.wanted,e18,e20,e28]
   go_simp
   refine hK _ _ ⟨updS s 29 (.bool (decide (LK<left))),hf.const 29 rfl,?_⟩
   simp[updS,e18,e20,e28]
  ·simp at ho
   subst ho
   simp[Region.binds]at he
   have e14:s 14=.bool true:=hf.k 14 rfl (by simp[he])
   have e18:s 18=.bool false:=hf.k 18 rfl (by simp[he])
   have e29:s 29=.bool (decide (LK<left)):=hf.k 29 rfl (by simp[he])
   simp[wpOpIn,Region.wanted,e14,e18,e29]
   go_simp
   refine hK _ _ ⟨updS s 30 (.bool (decide (LK<left))),hf.const 30 rfl,?_⟩
   simp[updS,e14,e18,e29]
  ·simp at ho
   subst ho
   simp[Region.binds]at he
   have e9:s 9=.bool false:=hf.k 9 rfl (by simp[he])
   have e14:s 14=.bool true:=hf.k 14 rfl (by simp[he])
   have e30:s 30=.bool (decide (LK<left)):=hf.k 30 rfl (by simp[he])
   simp[wpOpIn,Region.wanted,e9,e14,e30]
   go_simp
   refine hK _ _ ⟨updS s 31 (.bool (decide (LK<left))),hf.const 31 rfl,?_⟩
   simp[updS,e9,e14,e30]
  ·simp at ho
   subst ho
   simp[Region.binds]at he
   have e9:s 9=.bool false:=hf.k 9 rfl (by simp[he])
   have e31:s 31=.bool (decide (LK<left)):=hf.k 31 rfl (by simp[he])
   simp[wpOpIn,Region.wanted]
   go_simp
   refine hK _ _ ⟨updS s 32 (.bool (decide (LK<left))),hf.const 32 rfl,?_⟩
   simp[updS,e9,e31]
 case fin=>
  intro L a' w' hI hall
  obtain⟨s,hf,rfl⟩:=hI
  rw[hf.k 32 rfl (hall 32 (by simp))]
  exact HK.out (s 0) (s 1) (s 2) (s 3) (s 4) (s 5) (s 6) (s 7) (s 8) (s 9) (s 10) (s 11) (s 12) (s 13) (s 14) (s 15) (s 16) (s 17) (s 18) (s 19) (s 20) (s 21) (s 22) (s 23) (s 24) (s 25) (s 26) (s 27) (s 28) (s 29) (s 30) (s 31) w' hf.low
end Go.Proofs.YtehnikhicnnnhaaGreatDoor
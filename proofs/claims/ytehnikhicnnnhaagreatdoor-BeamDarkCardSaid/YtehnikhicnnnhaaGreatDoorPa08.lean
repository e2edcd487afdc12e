/- routes: one round over a neighbour. | routes: the least ways from a station. -/
import Derived.Test.YtehnikhicnnnhaaGreatDoorPa07
namespace Go.Proofs.YtehnikhicnnnhaaGreatDoor
open Go.RowKit Go.Shelf
attribute [local go_sem] Oper.semAt_some
structure R13(W:World)(A:Option Addr)(c:Nat)(r:Rt)(x1 x2:Int)(Br:Nat)(L:Nat→Bool)(s12 s41 s42 s43 s44 s45 s46 s47 s48 s49 s50 s51:Value)(w:World):Prop where
 low:Below W.heap.size W w
 f0:L 0=true→s41=.pointer (some ⟨Br,0,none⟩)
 f1:L 1=true→s42=.slice A r.st.length c
 f2:L 2=true→L 5=false→OwnI w W.heap.size s43 r.st
 f3:L 3=true→s44=.int .i64 x1
 f4:L 4=true→L 5=false→∃bT,s45=.slice (some ⟨bT,0,none⟩) 1 1∧w.cell? ⟨bT,0,none⟩=some (.int .i64 x1)∧W.heap.size≤bT∧bT<w.heap.size∧(L 2=true→some bT≠s43.ownBlock)
 f5:L 5=true→OwnI w W.heap.size s46 (r.st++ [x1])
 f6:L 6=true→s47=.pointer (some ⟨Br,1,none⟩)
 f7:L 7=true→s48=.int .i64 r.n
 f8:L 8=true→s49=.int .i64 x2
 f9:L 9=true→s50=.int .i64 (r.n+x2)
 f10:L 10=true→s51=.agg #[s46,.int .i64 (r.n+x2)]
 f11:L 11=true→L 12=false→∃bX,s12=.pointer (some ⟨bX,0,none⟩)∧W.heap.size≤bX∧w.heap[bX]? =some (.cells #[.slice none 0 0,.int .i64 0] 168 (0,0))
 f12:L 12=true→∃bX,s12=.pointer (some ⟨bX,0,none⟩)∧W.heap.size≤bX∧w.cell? ⟨bX,0,none⟩=some s46∧w.cell? ⟨bX,1,none⟩=some (.int .i64 (r.n+x2))
noncomputable def routesB:Code:=(rfBody (Tryz.f94.body.getD .skip)).getD .skip
set_option maxRecDepth 100000 in
set_option maxHeartbeats 2000000 in
theorem routes_body(w:World)(a:GA)(g:Grd)(f:Int)(hok:okG g)(hf0:0≤f)(hf1:f<g.sta.length)(m Bo Ba:Nat)(P0:Prop)(D0:Int→Option Rt)(j:Int)(r:Rt)(A:Option Addr)(c Br Bg Bn:Nat)(ds:List Deferred)(Ds:List Nat)(sz:Nat)
 (hBr:Ba<Br) (hBg:Br<Bg) (hBn:Bg<Bn) (hsz:Bn<sz) (l:Nat) (pre:List (NA g j)) (x:NA g j) (W:World) (hI:∃D b,RI w a g f m Bo Ba P0 D0 j r A c Br ds Ds sz pre D b W)
 (u0 u1 u2 u3 u4 u7 u9 u12 u13 u14 u15 u16 u17 u18 u19 u20 u21 u22 u23 u24 u25 u26 u27 u28 u29 u30 u31 u32 u33 u34 u35 u36 u37 u38 u39 u40 u41 u42 u43 u44 u45 u46 u47 u48 u49 u50 u51 u52 u53 u54 u55 u56 u57 u58 u59 u60 u61 u62 u63 u64 u65 u66 u67 u68 u69 u70 u71:Value):
 routesB.wpIn (Fence.wide.inRound l) 3 Tryz.prog (ownPostG sz (KpN w.heap.size Bg Bn) (fun pre W=>∃D b,RI w a g f m Bo Ba P0 D0 j r A c Br ds Ds sz pre D b W) (fun _ _ _=>False) (pre++ [x]) W) {tmps:= #[u0,u1,u2,u3,u4,.pointer (some ⟨Bo,0,none⟩),.pointer (some ⟨Ba,0,none⟩),u7,.pointer (some ⟨Br,0,none⟩),u9,.int .i64 x.1.1.1,.int .i64 x.1.1.2,u12,u13,u14,u15,u16,u17,u18,u19,u20,u21,u22,u23,u24,u25,u26,u27,u28,u29,u30,u31,u32,u33,u34,u35,u36,u37,u38,u39,u40,u41,u42,u43,u44,u45,u46,u47,u48,u49,u50,u51,u52,u53,u54,u55,u56,u57,u58,u59,u60,u61,u62,u63,u64,u65,u66,u67,u68,u69,u70,u71],defers:= []} W:=by
 obtain⟨D,b,hri⟩:=hI
 have hc0:=hri.r0
 have hc1:=hri.r1
 have hout:=hri.rs.out
 have hflag:=hri.rs.flag.cell
 have hfl2:=hri.rs.flag.frozen
 have hrs:=hri.rs.inv.rtsx hok.ns ⟨hf0,hf1⟩ hri.dj x.1
 have hsm:=hri.rs.inv.small ⟨hf0,hf1⟩ hri.dj
 have hst:=(hri.rs.inv.wk hri.dj).steps
 have hns:=hok.ns
 have hx1:=x.1.2.1
 have hx2:=x.1.2.2
 have HRI:=zh hri
 clear hri
 obtain⟨i0,hi,hz0,hz1,hz2⟩:=info_parts Tryz.infoInt
 simp only[routesB,Tryz.f94,rfBody,Option.getD,Option.or]
 have hmx:=HRI.out.ri
 have hbr:Br<W.heap.size:=World.block_lt_of_cell? W _ hc0
 have hmo:Tryz.prog.follows .mixedOrders=true:=by kernel_rfl
 gi_wp2
 refine wpIn_region_inv2 hmo (fun L a' w'=>∃s12 s41 s42 s43 s44 s45 s46 s47 s48 s49 s50 s51:Value,R13 W A c r x.1.1.1 x.1.1.2 Br L s12 s41 s42 s43 s44 s45 s46 s47 s48 s49 s50 s51 w'∧a'= {tmps:= #[u0,u1,u2,u3,u4,.pointer (some ⟨Bo,0,none⟩),.pointer (some ⟨Ba,0,none⟩),u7,.pointer (some ⟨Br,0,none⟩),u9,.int .i64 x.1.1.1,.int .i64 x.1.1.2,s12,u13,u14,u15,u16,u17,u18,u19,u20,u21,u22,u23,u24,u25,u26,u27,u28,u29,u30,u31,u32,u33,u34,u35,u36,u37,u38,u39,u40,s41,s42,s43,s44,s45,s46,s47,s48,s49,s50,s51,u52,u53,u54,u55,u56,u57,u58,u59,u60,u61,u62,u63,u64,u65,u66,u67,u68,u69,u70,u71],defers:= []}) ?acyc ?h0 ?step ?fin
 case acyc=>
  intro i o ho
  have hi:i<13:=by have:=(Array.getElem?_eq_some_iff.1 ho).1;simpa using this
  rcases(show i=0∨i=1∨i=2∨i=3∨i=4∨i=5∨i=6∨i=7∨i=8∨i=9∨i=10∨i=11∨i=12 by omega)with rfl|rfl|rfl|rfl|rfl|rfl|rfl|rfl|rfl|rfl|rfl|rfl|rfl<;>(simp at ho;subst ho;simp)
 case h0=>
  (repeat apply Exists.intro);refine⟨?_,rfl⟩
  exact⟨by exact zbl,by simp,by simp,by simp,by simp,by simp,by simp,by simp,by simp,by simp,by simp,by simp,by simp,by simp⟩
 case step=>
  intro i o ho L a' w' hI hLi hcl he K hK
  have h10n:L 5=false→L 10=false:=fun h=>by
   cases h10:L 10 with
   |false=>rfl
   |true=>have:=hcl 10 _ rfl h10 ⟨5,.data⟩ (by simp) rfl;rw[h]at this;cases this
  have h12n:∀k,k=5∨k=11→L k=false→L 12=false:=fun k hk h=>by
   cases h12:L 12 with
   |false=>rfl
   |true=>
    rcases hk with rfl|rfl
    ·have:=hcl 12 _ rfl h12 ⟨5,.chain⟩ (by simp) rfl;rw[h]at this;cases this
    ·have:=hcl 12 _ rfl h12 ⟨11,.data⟩ (by simp) rfl;rw[h]at this;cases this
  clear hcl
  obtain⟨s12,s41,s42,s43,s44,s45,s46,s47,s48,s49,s50,s51,hf,rfl⟩:=hI
  have hi:i<13:=by have:=(Array.getElem?_eq_some_iff.1 ho).1;simpa using this
  rcases(show i=0∨i=1∨i=2∨i=3∨i=4∨i=5∨i=6∨i=7∨i=8∨i=9∨i=10∨i=11∨i=12 by omega)with rfl|rfl|rfl|rfl|rfl|rfl|rfl|rfl|rfl|rfl|rfl|rfl|rfl
  ·simp at ho
   subst ho
   simp[Region.binds]at he
   simp[wpOpIn,Region.wanted]
   go_simp
   refine hK _ _ ?_
   (repeat apply Exists.intro);refine⟨?_,rfl⟩
   exact⟨hf.low,fun _=>rfl,fun h=>hf.f1 (by simpa [updL]using h),fun h h'=>hf.f2 (by simpa [updL]using h) (by simpa [updL]using h'),fun h=>hf.f3 (by simpa [updL]using h),fun h h'=>by have h3:=hf.f4 (by simpa [updL]using h) (by simpa [updL]using h');simpa [updL]using h3,fun h=>hf.f5 (by simpa [updL]using h),fun h=>hf.f6 (by simpa [updL]using h),fun h=>hf.f7 (by simpa [updL]using h),fun h=>hf.f8 (by simpa [updL]using h),fun h=>hf.f9 (by simpa [updL]using h),fun h=>hf.f10 (by simpa [updL]using h),fun h h'=>hf.f11 (by simpa [updL]using h) (by simpa [updL]using h'),fun h=>hf.f12 (by simpa [updL]using h)⟩
  ·simp at ho
   subst ho
   simp[Region.binds]at he
   simp[wpOpIn,Region.wanted]
   obtain rfl:=hf.f0 he
   have hcr:=(hf.low.cell (p:=⟨Br,0,none⟩) hbr).trans hc0
   go_simp
   refine hK _ _ ?_
   (repeat apply Exists.intro);refine⟨?_,rfl⟩
   exact⟨hf.low,fun h=>hf.f0 (by simpa [updL]using h),fun _=>rfl,fun h h'=>hf.f2 (by simpa [updL]using h) (by simpa [updL]using h'),fun h=>hf.f3 (by simpa [updL]using h),fun h h'=>by have h3:=hf.f4 (by simpa [updL]using h) (by simpa [updL]using h');simpa [updL]using h3,fun h=>hf.f5 (by simpa [updL]using h),fun h=>hf.f6 (by simpa [updL]using h),fun h=>hf.f7 (by simpa [updL]using h),fun h=>hf.f8 (by simpa [updL]using h),fun h=>hf.f9 (by simpa [updL]using h),fun h=>hf.f10 (by simpa [updL]using h),fun h h'=>hf.f11 (by simpa [updL]using h) (by simpa [updL]using h'),fun h=>hf.f12 (by simpa [updL]using h)⟩
  ·simp at ho
   subst ho
   simp[Region.binds]at he
   simp[wpOpIn,Region.wanted]
   obtain rfl:=hf.f1 he
   have HC:=zh (CallsIn.inRound l (callsIn_wide (n:=2).2 (clone_c W.heap.size A c r.st w' (by omega) (Rw.belowB (w0:=W) hmx hf.low (Nat.le_refl _)))))
   go_simp
   refine⟨trivial,HC.out.mono ?_⟩
   rintro e wc ⟨vc,rfl,hown,hbc⟩
   simp only
   refine hK _ _ ?_
   (repeat apply Exists.intro);refine⟨?_,rfl⟩
   exact⟨hf.low.trans (hbc.mono hf.low.size),fun h=>hf.f0 (by simpa [updL]using h),fun h=>hf.f1 (by simpa [updL]using h),fun _ _=>hown.mono hf.low.size,fun h=>hf.f3 (by simpa [updL]using h),fun h4 h5=>by obtain⟨bT,e1,e2,e3,e4,_⟩:=hf.f4 (by simpa [updL]using h4) (by simpa [updL]using h5);exact⟨bT,e1,(hbc.cell (p:=⟨bT,0,none⟩) e4).trans e2,e3,Nat.lt_of_lt_of_le e4 hbc.size,fun _=>hown.ne e4⟩,fun h5=>(hf.f5 (by simpa [updL]using h5)).below hbc,fun h=>hf.f6 (by simpa [updL]using h),fun h=>hf.f7 (by simpa [updL]using h),fun h=>hf.f8 (by simpa [updL]using h),fun h=>hf.f9 (by simpa [updL]using h),fun h=>hf.f10 (by simpa [updL]using h),fun h h2=>by obtain⟨bX,e1,e2,e3⟩:=hf.f11 (by simpa [updL]using h) (by simpa [updL]using h2);exact⟨bX,e1,e2,(hbc.block bX (Array.getElem?_eq_some_iff.1 e3).1).trans e3⟩,fun h=>by obtain⟨bX,e1,e2,e3,e4⟩:=hf.f12 (by simpa [updL]using h);have hlt:=World.block_lt_of_cell? w' _ e3;exact⟨bX,e1,e2,(hbc.cell (p:=⟨bX,0,none⟩) hlt).trans e3,(hbc.cell (p:=⟨bX,1,none⟩) hlt).trans e4⟩⟩
  ·simp at ho
   subst ho
   simp[Region.binds]at he
   simp[wpOpIn,Region.wanted]
   go_simp
   refine hK _ _ ?_
   (repeat apply Exists.intro);refine⟨?_,rfl⟩
   exact⟨hf.low,fun h=>hf.f0 (by simpa [updL]using h),fun h=>hf.f1 (by simpa [updL]using h),fun h h'=>hf.f2 (by simpa [updL]using h) (by simpa [updL]using h'),fun _=>rfl,fun h h'=>by have h3:=hf.f4 (by simpa [updL]using h) (by simpa [updL]using h');simpa [updL]using h3,fun h=>hf.f5 (by simpa [updL]using h),fun h=>hf.f6 (by simpa [updL]using h),fun h=>hf.f7 (by simpa [updL]using h),fun h=>hf.f8 (by simpa [updL]using h),fun h=>hf.f9 (by simpa [updL]using h),fun h=>hf.f10 (by simpa [updL]using h),fun h h'=>hf.f11 (by simpa [updL]using h) (by simpa [updL]using h'),fun h=>hf.f12 (by simpa [updL]using h)⟩
  ·simp at ho
   subst ho
   simp[Region.binds]at he
   simp[wpOpIn,Region.wanted]
   obtain rfl:=hf.f3 he
   go_simp
   refine hK _ _ ?_
   (repeat apply Exists.intro);refine⟨?_,rfl⟩
   exact⟨(hf.low.alloc hf.low.size _),fun h=>hf.f0 (by simpa [updL]using h),fun h=>hf.f1 (by simpa [updL]using h),fun h2 h5=>(hf.f2 (by simpa [updL]using h2) (by simpa [updL]using h5)).alloc _,fun h=>hf.f3 (by simpa [updL]using h),fun _ h5=>⟨w'.heap.size,rfl,by simp[cells_new],hf.low.size,by simp,fun h2 e=>by have:=(World.ownsRow.lt (hf.f2 (by simpa [updL]using h2) (by simpa [updL]using h5)) _ e.symm).2;omega⟩,fun h5=>(hf.f5 (by simpa [updL]using h5)).alloc _,fun h=>hf.f6 (by simpa [updL]using h),fun h=>hf.f7 (by simpa [updL]using h),fun h=>hf.f8 (by simpa [updL]using h),fun h=>hf.f9 (by simpa [updL]using h),fun h=>hf.f10 (by simpa [updL]using h),fun h h2=>by obtain⟨bX,e1,e2,e3⟩:=hf.f11 (by simpa [updL]using h) (by simpa [updL]using h2);exact⟨bX,e1,e2,(Below.heap_alloc _ _ _ (Array.getElem?_eq_some_iff.1 e3).1).trans e3⟩,fun h=>by obtain⟨bX,e1,e2,e3,e4⟩:=hf.f12 (by simpa [updL]using h);have hlt:=World.block_lt_of_cell? w' _ e3;exact⟨bX,e1,e2,(World.cell?_alloc_lt _ _ ⟨bX,0,none⟩ hlt).trans e3,(World.cell?_alloc_lt _ _ ⟨bX,1,none⟩ hlt).trans e4⟩⟩
  ·simp at ho
   subst ho
   simp[Region.binds]at he
   simp[wpOpIn,Region.wanted]
   have hl2:L 2=true:=he.1
   have hl4:L 4=true:=he.2.1
   have h2:=hf.f2 hl2 hLi
   obtain⟨bT,rfl,hcT,_,_,hneT⟩:=hf.f4 hl4 hLi
   refine wpIn_append_op w' _ _ rfl W.heap.size s43 r.st rfl h2 bT 1 x.1.1.1 rfl hcT (by omega) hf.low.size ?_
   intro v' w2 hown hgrow
   have hlo:∀k,v'.ownBlock=some k→True:=fun _ _=>trivial
   clear hlo
   have hlow:Below W.heap.size W w2:=hf.low.grown hgrow hf.low.size (fun k e=>(World.ownsRow.lt h2 k e).1)
   simp only[Act.put,List.setIfInBounds_toArray,List.set_cons_zero,List.set_cons_succ]
   refine hK _ _ ?_
   (repeat apply Exists.intro);refine⟨?_,rfl⟩
   exact⟨hlow,fun h=>hf.f0 (by simpa [updL]using h),fun h=>hf.f1 (by simpa [updL]using h),fun _ h5=>by simp[updL]at h5,fun h=>hf.f3 (by simpa [updL]using h),fun _ h5=>by simp[updL]at h5,fun _=>hown,fun h=>hf.f6 (by simpa [updL]using h),fun h=>hf.f7 (by simpa [updL]using h),fun h=>hf.f8 (by simpa [updL]using h),fun h=>hf.f9 (by simpa [updL]using h),fun h=>absurd (by simpa [updL]using h) (by rw[h10n hLi];simp),fun h h2'=>by obtain⟨bX,e1,e2,e3⟩:=hf.f11 (by simpa [updL]using h) (by simpa [updL]using h2');exact⟨bX,e1,e2,(hgrow.block bX (Array.getElem?_eq_some_iff.1 e3).1 (h2.notBlock e3 (by decide))).trans e3⟩,fun h=>absurd (by simpa [updL]using h) (by rw[h12n 5 (.inl rfl) hLi];simp)⟩
  ·simp at ho
   subst ho
   simp[Region.binds]at he
   simp[wpOpIn,Region.wanted]
   go_simp
   refine hK _ _ ?_
   (repeat apply Exists.intro);refine⟨?_,rfl⟩
   exact⟨hf.low,fun h=>hf.f0 (by simpa [updL]using h),fun h=>hf.f1 (by simpa [updL]using h),fun h h'=>hf.f2 (by simpa [updL]using h) (by simpa [updL]using h'),fun h=>hf.f3 (by simpa [updL]using h),fun h h'=>by have h3:=hf.f4 (by simpa [updL]using h) (by simpa [updL]using h');simpa [updL]using h3,fun h=>hf.f5 (by simpa [updL]using h),fun _=>rfl,fun h=>hf.f7 (by simpa [updL]using h),fun h=>hf.f8 (by simpa [updL]using h),fun h=>hf.f9 (by simpa [updL]using h),fun h=>hf.f10 (by simpa [updL]using h),fun h h'=>hf.f11 (by simpa [updL]using h) (by simpa [updL]using h'),fun h=>hf.f12 (by simpa [updL]using h)⟩
  ·simp at ho
   subst ho
   simp[Region.binds]at he
   simp[wpOpIn,Region.wanted]
   obtain rfl:=hf.f6 he
   have hcr:=(hf.low.cell (p:=⟨Br,1,none⟩) hbr).trans hc1
   go_simp
   refine hK _ _ ?_
   (repeat apply Exists.intro);refine⟨?_,rfl⟩
   exact⟨hf.low,fun h=>hf.f0 (by simpa [updL]using h),fun h=>hf.f1 (by simpa [updL]using h),fun h h'=>hf.f2 (by simpa [updL]using h) (by simpa [updL]using h'),fun h=>hf.f3 (by simpa [updL]using h),fun h h'=>by have h3:=hf.f4 (by simpa [updL]using h) (by simpa [updL]using h');simpa [updL]using h3,fun h=>hf.f5 (by simpa [updL]using h),fun h=>hf.f6 (by simpa [updL]using h),fun _=>rfl,fun h=>hf.f8 (by simpa [updL]using h),fun h=>hf.f9 (by simpa [updL]using h),fun h=>hf.f10 (by simpa [updL]using h),fun h h'=>hf.f11 (by simpa [updL]using h) (by simpa [updL]using h'),fun h=>hf.f12 (by simpa [updL]using h)⟩
  ·simp at ho
   subst ho
   simp[Region.binds]at he
   simp[wpOpIn,Region.wanted]
   go_simp
   refine hK _ _ ?_
   (repeat apply Exists.intro);refine⟨?_,rfl⟩
   exact⟨hf.low,fun h=>hf.f0 (by simpa [updL]using h),fun h=>hf.f1 (by simpa [updL]using h),fun h h'=>hf.f2 (by simpa [updL]using h) (by simpa [updL]using h'),fun h=>hf.f3 (by simpa [updL]using h),fun h h'=>by have h3:=hf.f4 (by simpa [updL]using h) (by simpa [updL]using h');simpa [updL]using h3,fun h=>hf.f5 (by simpa [updL]using h),fun h=>hf.f6 (by simpa [updL]using h),fun h=>hf.f7 (by simpa [updL]using h),fun _=>rfl,fun h=>hf.f9 (by simpa [updL]using h),fun h=>hf.f10 (by simpa [updL]using h),fun h h'=>hf.f11 (by simpa [updL]using h) (by simpa [updL]using h'),fun h=>hf.f12 (by simpa [updL]using h)⟩
  ·simp at ho
   subst ho
   simp[Region.binds]at he
   simp[wpOpIn,Region.wanted]
   obtain rfl:=hf.f7 he.1
   obtain rfl:=hf.f8 he.2
   go_simp
   refine hK _ _ ?_
   (repeat apply Exists.intro);refine⟨?_,rfl⟩
   exact⟨hf.low,fun h=>hf.f0 (by simpa [updL]using h),fun h=>hf.f1 (by simpa [updL]using h),fun h h'=>hf.f2 (by simpa [updL]using h) (by simpa [updL]using h'),fun h=>hf.f3 (by simpa [updL]using h),fun h h'=>by have h3:=hf.f4 (by simpa [updL]using h) (by simpa [updL]using h');simpa [updL]using h3,fun h=>hf.f5 (by simpa [updL]using h),fun h=>hf.f6 (by simpa [updL]using h),fun h=>hf.f7 (by simpa [updL]using h),fun h=>hf.f8 (by simpa [updL]using h),fun _=>by rw[IntWalk.i64_in _ (by omega)],fun h=>hf.f10 (by simpa [updL]using h),fun h h'=>hf.f11 (by simpa [updL]using h) (by simpa [updL]using h'),fun h=>hf.f12 (by simpa [updL]using h)⟩
  ·simp at ho
   subst ho
   simp[Region.binds]at he
   simp[wpOpIn,Region.wanted]
   obtain rfl:=hf.f9 he.2
   obtain⟨g5,c5,hs5,_⟩:=(hf.f5 he.1).slice (by simp)
   simp only[List.length_append,List.length_cons,List.length_nil,Nat.zero_add]at hs5
   subst hs5
   go_simp
   refine hK _ _ ?_
   (repeat apply Exists.intro);refine⟨?_,rfl⟩
   exact⟨hf.low,fun h=>hf.f0 (by simpa [updL]using h),fun h=>hf.f1 (by simpa [updL]using h),fun h h'=>hf.f2 (by simpa [updL]using h) (by simpa [updL]using h'),fun h=>hf.f3 (by simpa [updL]using h),fun h h'=>by have h3:=hf.f4 (by simpa [updL]using h) (by simpa [updL]using h');simpa [updL]using h3,fun h=>hf.f5 (by simpa [updL]using h),fun h=>hf.f6 (by simpa [updL]using h),fun h=>hf.f7 (by simpa [updL]using h),fun h=>hf.f8 (by simpa [updL]using h),fun h=>hf.f9 (by simpa [updL]using h),fun _=>rfl,fun h h'=>hf.f11 (by simpa [updL]using h) (by simpa [updL]using h'),fun h=>hf.f12 (by simpa [updL]using h)⟩
  ·simp at ho
   subst ho
   simp[Region.binds]at he
   simp[wpOpIn,Region.wanted]
   go_simp
   refine hK _ _ ?_
   (repeat apply Exists.intro);refine⟨?_,rfl⟩
   exact⟨(hf.low.alloc hf.low.size _),fun h=>hf.f0 (by simpa [updL]using h),fun h=>hf.f1 (by simpa [updL]using h),fun h2 h5=>(hf.f2 (by simpa [updL]using h2) (by simpa [updL]using h5)).alloc _,fun h=>hf.f3 (by simpa [updL]using h),fun h4 h5=>by obtain⟨bT,e1,e2,e3,e4,e5⟩:=hf.f4 (by simpa [updL]using h4) (by simpa [updL]using h5);exact⟨bT,e1,(World.cell?_alloc_lt _ _ ⟨bT,0,none⟩ e4).trans e2,e3,by simp;omega,fun h2=>e5 (by simpa [updL]using h2)⟩,fun h5=>(hf.f5 (by simpa [updL]using h5)).alloc _,fun h=>hf.f6 (by simpa [updL]using h),fun h=>hf.f7 (by simpa [updL]using h),fun h=>hf.f8 (by simpa [updL]using h),fun h=>hf.f9 (by simpa [updL]using h),fun h=>hf.f10 (by simpa [updL]using h),fun _ _=>⟨w'.heap.size,rfl,hf.low.size,heap_alloc_new w' _⟩,fun h=>absurd (by simpa [updL]using h) (by rw[h12n 11 (.inr rfl) hLi];simp)⟩
  ·simp at ho
   subst ho
   simp[Region.binds]at he
   simp[wpOpIn,Region.wanted]
   have hall:∀k,k<12→L k=true:=by
    intro k hk
    rcases(show k=0∨k=1∨k=2∨k=3∨k=4∨k=5∨k=6∨k=7∨k=8∨k=9∨k=10∨k=11 by omega)with rfl|rfl|rfl|rfl|rfl|rfl|rfl|rfl|rfl|rfl|rfl|rfl<;>simp[he]
   obtain⟨bX,rfl,e2,e3⟩:=hf.f11 (hall 11 (by omega)) hLi
   have h5:=hf.f5 (hall 5 (by omega))
   obtain rfl:=hf.f10 (hall 10 (by omega))
   obtain⟨g5,c5,hs5,_⟩:=h5.slice (by simp)
   simp only[List.length_append,List.length_cons,List.length_nil,Nat.zero_add]at hs5
   subst hs5
   have hb0:w'.cell? ⟨bX,0,none⟩=some (.slice none 0 0):=by simp[World.cell?,e3]
   have hb1:w'.cell? ⟨bX,1,none⟩=some (.int .i64 0):=by simp[World.cell?,e3]
   have hz0:w'.frozen? ⟨bX,0,none⟩=false:=by simp[World.frozen?,e3]
   have hz1:w'.frozen? ⟨bX,1,none⟩=false:=by simp[World.frozen?,e3]
   go_simp
   refine hK _ _ ?_
   (repeat apply Exists.intro);refine⟨?_,rfl⟩
   exact⟨(hf.low.setCell (p:=⟨bX,0,none⟩) e2 _).setCell (p:=⟨bX,1,none⟩) e2 _,fun h=>hf.f0 (by simpa [updL]using h),fun h=>hf.f1 (by simpa [updL]using h),fun _ h5=>absurd h5 (by simp[updL,hall 5 (by omega)]),fun h=>hf.f3 (by simpa [updL]using h),fun _ h5=>absurd h5 (by simp[updL,hall 5 (by omega)]),fun _=>(h5.grown (grownBy_setCellO w' bX 0 _) (fun r e=>by cases e;exact h5.notBlock e3 (by decide))).grown (grownBy_setCellO _ bX 1 _) (fun r e=>by cases e;exact h5.notBlock e3 (by decide)),fun h=>hf.f6 (by simpa [updL]using h),fun h=>hf.f7 (by simpa [updL]using h),fun h=>hf.f8 (by simpa [updL]using h),fun h=>hf.f9 (by simpa [updL]using h),fun _=>rfl,fun _ h=>by simp[updL]at h,fun _=>⟨bX,rfl,e2,by rw[World.cell?_setCell_other _ _ _ _ (by simp:(⟨bX,1,none⟩:Addr)≠⟨bX,0,none⟩)];exact World.cell?_setCell_same' _ _ _ (by rw[hb0];rfl),World.cell?_setCell_same' _ _ _ (by rw[World.cell?_setCell_other _ _ _ _ (by simp:(⟨bX,0,none⟩:Addr)≠⟨bX,1,none⟩),hb1];rfl)⟩⟩
 case fin=>
  intro L a' w' hI hall
  obtain⟨s12,s41,s42,s43,s44,s45,s46,s47,s48,s49,s50,s51,hf,rfl⟩:=hI
  have h5:=hf.f5 (hall 5 (by simp))
  obtain⟨bX,rfl,hX1,hX2,hX3⟩:=hf.f12 (hall 12 (by simp))
  have hlow:=hf.low
  obtain⟨A5,c5,hs5,hc5,hi5⟩:=h5.ints
  simp only[List.length_append,List.length_cons,List.length_nil,Nat.zero_add]at hs5 hc5
  subst hs5
  have HF:=zh hi5
  have HR2:=zh (HRI.out.below hlow)
  have hout2:=HR2.out.rs.out
  have hfl3:=HR2.out.rs.flag.cell
  have hfl4:=HR2.out.rs.flag.frozen
  have hbX:=World.block_lt_of_cell? w' _ hX2
  have hBo:=World.block_lt_of_cell? w' _ hout2
  have hBa:=World.block_lt_of_cell? w' _ hfl3
  simp only at hbX hBo hBa
  clear hf hi5 hall h5 hc0 hc1 hout hflag hfl2 hi hz0 hz1 hz2 hmx hmo
  dsimp only
  have hUP:=zh (show ∀w2,Below w'.heap.size w' w2→∃w3,(Instr.mapUpdate 170 (.map (some m)) (.int .i64 x.1.1.1) (.agg #[.slice A5 (r.st.length+1) c5,.int .i64 (r.n+x.1.1.2)])).run Tryz.prog w2=.ok () w3∧TabD w3 m w2.heap.size (setD D x.1.1.1 (ext r x.1.1))∧w2.grownBy w3 (some m)∧Boxed w3 Ba 4 (.bool b)from fun w2 hw2=>by
   have k2:=HR2.out.below hw2
   obtain⟨w3,h1,h2,h3⟩:=k2.rs.tab.update (P:=Tryz.prog) x.1.1.1 (A:=A5) (c:=c5) (rt:=ext r x.1.1) Tryz.underlying170 Tryz.underlying3 (Rw.more (Rw.belowB (w0:=w') HF.out hw2 (Nat.le_refl _)) hw2.size) (by rw[ext_len];exact hc5)
   rw[encRt,ext_len,ext_n]at h1
   exact⟨w3,h1,h2,h3,k2.rs.flag.kept h3 (fun e=>by have:=k2.rs.o2;have:=k2.rs.o3;cases e;omega)⟩)
  cases hD:D x.1.1.1 with
  |none=>
   have HD:=zh hD
   clear hD
   have hw2:Below w'.heap.size w' (w'.alloc (.cells #[.slice none 0 0,.int .i64 0] 168)):=by exact zbl
   obtain⟨w3,hup,ht3,hg3,hbx3⟩:=hUP.out _ hw2
   have hfl5:=hbx3.cell
   have hfl6:=hbx3.frozen
   have HT:=zh ht3
   clear ht3
   gi_wp2_with (first|(refine wpListIn_look_none rfl _ _ rfl m _ D x.1.1.1 rfl rfl HR2.out.rs.tab HD.out ?_)|(refine⟨trivial,?_⟩))
   exact RI.upd HRI.out hok ⟨hf0,hf1⟩ (hlow.trans (hw2.mono hlow.size)) x (.inl HD.out) hBr hBg hBn hsz HT.out hg3
  |some ro=>
   have hCM:=zh (show ∀A6 c6,IntsR w' w'.heap.size A6 ro.st→∀W4,Below w'.heap.size w' W4→CallsIn (Fence.wide.inRound l) (3-1) Tryz.prog 159 #[.agg #[.slice A5 (r.st.length+1) c5,.int .i64 (r.n+x.1.1.2)],.agg #[.slice A6 ro.st.length c6,.int .i64 ro.n]] W4 fun e w5=>e=.returned (.int .i64 (rcmp (ext r x.1.1) ro))∧Below W4.heap.size W4 w5 from fun A6 c6 hi6 W4 hW4=>by
    have h1:=compare_c W4.heap.size A5 A6 c5 c6 (ext r x.1.1) ro W4 (by rw[ext_len];omega) (Rw.more (Rw.belowB (w0:=w') HF.out hW4 (Nat.le_refl _)) hW4.size) (Rw.more (Rw.belowB (w0:=w') hi6 hW4 (Nat.le_refl _)) hW4.size) (Nat.le_refl _)
    unfold encRt at h1
    rw[ext_len,ext_n]at h1
    exact CallsIn.inRound l (callsIn_wide.2 h1))
   have hdro:=(HR2.out.rs.inv.wk hD).dig hok.ns ⟨hf0,hf1⟩
   have hrc:=rcmp_lt (a:=ext r x.1.1) (b:=ro) hrs.dig hdro
   have HD:=zh hD
   clear hD
   by_cases hlt:rlt (ext r x.1.1) ro
   ·have hneg:rcmp (ext r x.1.1) ro<0:=hrc.2 hlt
    have HLT:=zh hlt
    clear hlt hrc hdro
    gi_wp2_with (first|(refine wpListIn_look_some rfl _ _ rfl m _ D x.1.1.1 ro rfl rfl HR2.out.rs.tab HD.out ?_;intro A6 c6 hc6 hi6;(have HI6:=zh hi6);clear hi6)|(refine⟨trivial,?_⟩;gi_at_call 159;refine(hCM.out A6 c6 HI6.out _ ?_).mono ?_;(focus((repeat first|(with_reducible first|assumption|exact Below.refl _ _|refine Bl.drew ?_|refine Bl.drewN ?_ _|refine Bl.alloc ?_ _|refine Bl.set ?_ _ ?_)|(with_reducible apply Bl.step';(focus(with_reducible assumption)))|omega|(focus(simp;done))|(focus(simp;omega)))));rintro e w4 ⟨rfl,hb4⟩;(have hw2:Below w'.heap.size w' w4:=by exact zbl);(obtain⟨w3,hup,ht3,hg3,hbx3⟩:=hUP.out _ hw2);(have hfl5:=hbx3.cell);(have hfl6:=hbx3.frozen);(have HT:=zh ht3);clear ht3;(have hbX4:w4.cell? ⟨bX,0,none⟩=some (.slice A5 (r.st.length+1) c5):=(hw2.cell (p:=⟨bX,0,none⟩) hbX).trans hX2);(have hbX5:w4.cell? ⟨bX,1,none⟩=some (.int .i64 (r.n+x.1.1.2)):=(hw2.cell (p:=⟨bX,1,none⟩) hbX).trans hX3);(have hout4:w4.cell? ⟨Bo,0,none⟩=some (.map (some m)):=(hw2.cell (p:=⟨Bo,0,none⟩) hBo).trans hout2)))
    exact RI.upd HRI.out hok ⟨hf0,hf1⟩ (hlow.trans (hw2.mono hlow.size)) x (.inr ⟨ro,HD.out,HLT.out⟩) hBr hBg hBn hsz HT.out hg3
   ·have hneg:¬rcmp (ext r x.1.1) ro<0:=fun h=>hlt (hrc.1 h)
    have HLT:=zh hlt
    clear hlt hrc hdro
    gi_wp2_with (first|(refine wpListIn_look_some rfl _ _ rfl m _ D x.1.1.1 ro rfl rfl HR2.out.rs.tab HD.out ?_;intro A6 c6 hc6 hi6;(have HI6:=zh hi6);clear hi6)|(refine⟨trivial,?_⟩;gi_at_call 159;refine(hCM.out A6 c6 HI6.out _ ?_).mono ?_;(focus((repeat first|(with_reducible first|assumption|exact Below.refl _ _|refine Bl.drew ?_|refine Bl.drewN ?_ _|refine Bl.alloc ?_ _|refine Bl.set ?_ _ ?_)|(with_reducible apply Bl.step';(focus(with_reducible assumption)))|omega|(focus(simp;done))|(focus(simp;omega)))));rintro e w4 ⟨rfl,hb4⟩))
    have hw2:Below w'.heap.size w' w4:=by exact zbl
    exact RI.keep HRI.out (hlow.trans (hw2.mono hlow.size)) x (fun h=>by
     rcases h with h|⟨r',h1,h2⟩
     ·rw[HD.out]at h;cases h
     ·rw[HD.out]at h1;cases h1;exact HLT.out h2) hBn hsz
attribute [local go_sem] Oper.semAt_some
set_option maxRecDepth 100000 in
set_option maxHeartbeats 2000000 in
theorem routes_c(pS pM pZ:Option Addr)(cs cm cz:Nat)(g:Grd)(f:Int)(w:World)(hok:okG g)(hu:Uniq g.mov)(hf0:0≤f)(hf1:f<g.sta.length)(hr:GridR w w.heap.size ⟨pS,pM,pZ,cs,cm,cz⟩ g):
 Calls Tryz.prog 94 #[.agg #[.int .i64 g.blur,.slice pS g.sta.length cs,.slice pM g.mov.length cm,.slice pZ g.zon.length cz],.int .i64 f] w fun e w'=>
  ∃m,e=.returned (.map (some m))∧Below w.heap.size w w'∧w.heap.size≤m∧TabD w' m w'.heap.size (wayG g f):=by
 refine callsIn_wide (n:=5) |>.1 ?_
 have HR:=zh hr;clear hr
 have hns:=hok.ns
 have hmm:= @run_makeMap Tryz.prog
 obtain⟨w1,hins,hm1,hg1⟩:=run_update_int (P:=Tryz.prog) (w:=((w.alloc (.cells #[.int .i64 g.blur,.slice pS g.sta.length cs,.slice pM g.mov.length cm,.slice pZ g.zon.length cz] 38)).alloc (.map #[] 0)).alloc (.cells #[.int .i64 f] 3)) (r:=w.heap.size+1) (l:= []) f (.agg #[.slice (some ⟨w.heap.size+1+1,0,none⟩) 1 1,.int .i64 0]) Tryz.underlying170 Tryz.underlying3
  (MapI.keep (by have:=MapI.new (w.alloc (.cells #[.int .i64 g.blur,.slice pS g.sta.length cs,.slice pM g.mov.length cm,.slice pZ g.zon.length cz] 38));rwa [World.size_alloc]at this) (Below.heap_alloc _ _ _ (by simp)))
 refine callsIn_of_wp_marks Tryz.func94 rfl trivial ?_ rfl
 simp only[Tryz.ntmps94,List.size_toArray,List.length_cons,List.length_nil,Nat.reduceAdd,Nat.reduceSub,Array.replicate_succ,Array.replicate_zero,List.push_toArray,List.append_toArray,List.nil_append,List.cons_append]
 have e1:∀k,k≠w.heap.size+1→w1.heap[k]? =(((w.alloc (.cells #[.int .i64 g.blur,.slice pS g.sta.length cs,.slice pM g.mov.length cm,.slice pZ g.zon.length cz] 38)).alloc (.map #[] 0)).alloc (.cells #[.int .i64 f] 3)).heap[k]? →True:=fun _ _ _=>trivial
 clear e1
 have hs1:w.heap.size+3≤w1.heap.size:=by have:=hg1.size;simpa using this
 have hB1:Below w.heap.size w w1:=Below.grown (w:=((w.alloc (.cells #[.int .i64 g.blur,.slice pS g.sta.length cs,.slice pM g.mov.length cm,.slice pZ g.zon.length cz] 38)).alloc (.map #[] 0)).alloc (.cells #[.int .i64 f] 3)) (by exact zbl) hg1 (by simp[Nat.add_assoc]) (fun r e=>by cases e;omega)
 have hne:∀k,k≠w.heap.size+1→some k≠some (w.heap.size+1):=fun k hk e=>by cases e;exact hk rfl
 have q0:w1.cell? ⟨w.heap.size,0,none⟩=some (.int .i64 g.blur):=hg1.cell (by simp[World.cell?_alloc_lt,cells_new]) (hne w.heap.size (by omega))
 have q1:w1.cell? ⟨w.heap.size,1,none⟩=some (.slice pS g.sta.length cs):=hg1.cell (by simp[World.cell?_alloc_lt,cells_new]) (hne w.heap.size (by omega))
 have q2:w1.cell? ⟨w.heap.size,2,none⟩=some (.slice pM g.mov.length cm):=hg1.cell (by simp[World.cell?_alloc_lt,cells_new]) (hne w.heap.size (by omega))
 have q3:w1.cell? ⟨w.heap.size,3,none⟩=some (.slice pZ g.zon.length cz):=hg1.cell (by simp[World.cell?_alloc_lt,cells_new]) (hne w.heap.size (by omega))
 have q4:w1.cell? ⟨w.heap.size+1+1,0,none⟩=some (.int .i64 f):=hg1.cell (by simp[cells_new]) (hne (w.heap.size+1+1) (by omega))
 have hrs:RS w ⟨pS,pM,pZ,cs,cm,cz⟩ g f (w.heap.size+1) w1.heap.size (w1.heap.size+1) (fun b=>if b=f then some ⟨[f],0⟩else none) true ((w1.alloc (.cells #[.map (some (w.heap.size+1))] 170)).alloc (.cells #[.bool true] 4)):=by
  have hb2:Below w1.heap.size w1 ((w1.alloc (.cells #[.map (some (w.heap.size+1))] 170)).alloc (.cells #[.bool true] 4)):=by exact zbl
  refine⟨Inv.init g f,?_,(hb2.cell (p:=⟨w.heap.size,0,none⟩) (by show w.heap.size<_;omega)).trans q0,(hb2.cell (p:=⟨w.heap.size,1,none⟩) (by show w.heap.size<_;omega)).trans q1,(hb2.cell (p:=⟨w.heap.size,2,none⟩) (by show w.heap.size<_;omega)).trans q2,(hb2.cell (p:=⟨w.heap.size,3,none⟩) (by show w.heap.size<_;omega)).trans q3,by simp[World.cell?_alloc_lt,cells_new],by have:=Boxed.new (w1.alloc (.cells #[.map (some (w.heap.size+1))] 170)) 4 (.bool true);rwa [World.size_alloc]at this,hB1.trans (hb2.mono (by omega)),by omega,by omega,by omega⟩
  refine⟨_,hm1.keep (hb2.block _ (by omega)),fun k=>?_⟩
  by_cases hk:k=f
  ·right
   refine⟨some ⟨w.heap.size+1+1,0,none⟩,1,⟨[f],0⟩,by simp[setV,getV,hk,encRt],by simp[hk],by simp,fun _=>⟨w.heap.size+1+1,0,rfl,by simp;omega,fun i hi j v hv=>?_⟩⟩
   simp at hi
   subst hi
   cases j with
   |zero=>simp at hv;subst hv;exact(hb2.cell (p:=⟨w.heap.size+1+1,0,none⟩) (by show w.heap.size+1+1<_;omega)).trans q4
   |succ j=>simp at hv
  ·left
   exact⟨by simp[setV,getV,hk],by simp[hk]⟩
 have HRS:=zh hrs
 clear hrs hm1 hg1 q0 q1 q2 q3 q4 hne
 gi_wp2
 clear hins hmm
 refine wpIn_loop_ghost_k (fun(k:Nat) (a':Act) (wr:World)=>∃(ds:List Deferred) (u6 u7 u8 u9 u10 u11 u12 u13 u14 u21 u22 u23 u24 u25 u26 u27 u28 u29 u30 u31 u32 u33 u34 u35 u36 u37 u38 u39 u40 u41 u42 u43 u44 u45 u46 u47 u48 u49 u50 u51 u52 u53 u54 u55 u56 u57 u58 u59 u60 u61 u62 u63 u64 u65 u66 u67 u68 u69 u70:Value),(∃(b:Bool) (Ba:Nat) (D:Int→Option Rt) (Ds:List Nat),u6=.pointer (some ⟨Ba,0,none⟩)∧RS w ⟨pS,pM,pZ,cs,cm,cz⟩ g f (w.heap.size+1) w1.heap.size Ba D b wr∧Marks w.heap.size ds Ds wr∧Hid ((b=true∧k=mu g.sta.length D+1)∨(b=false∧Closed g D)))∧a'= {tmps:= #[.agg #[.int .i64 g.blur,.slice pS g.sta.length cs,.slice pM g.mov.length cm,.slice pZ g.zon.length cz],.int .i64 f,.pointer (some ⟨w.heap.size,0,none⟩),undef,.map none,.pointer (some ⟨w1.heap.size,0,none⟩),u6,u7,u8,u9,u10,u11,u12,u13,u14,.map (some (w.heap.size+1)),.int .i64 f,.int .i64 f,.slice (some ⟨w.heap.size+1+1,0,none⟩) 1 1,.agg #[.slice (some ⟨w.heap.size+1+1,0,none⟩) 1 1,.int .i64 0],.map (some (w.heap.size+1)),u21,u22,u23,u24,u25,u26,u27,u28,u29,u30,u31,u32,u33,u34,u35,u36,u37,u38,u39,u40,u41,u42,u43,u44,u45,u46,u47,u48,u49,u50,u51,u52,u53,u54,u55,u56,u57,u58,u59,u60,u61,u62,u63,u64,u65,u66,u67,u68,u69,u70,undef],defers:=ds}) (mu g.sta.length (fun b=>if b=f then some ⟨[f],0⟩else none)+1) ?_ ?_
 ·(repeat apply Exists.intro);refine⟨?_,rfl⟩
  exact⟨true,_,_,[],rfl,HRS.out,Marks.nil _ _,zh (.inl ⟨rfl,rfl⟩)⟩
 ·clear HRS hB1
  intro gk _ wr hinv
  obtain⟨ds,u6,u7,u8,u9,u10,u11,u12,u13,u14,u21,u22,u23,u24,u25,u26,u27,u28,u29,u30,u31,u32,u33,u34,u35,u36,u37,u38,u39,u40,u41,u42,u43,u44,u45,u46,u47,u48,u49,u50,u51,u52,u53,u54,u55,u56,u57,u58,u59,u60,u61,u62,u63,u64,u65,u66,u67,u68,u69,u70,⟨b,Ba,D,Ds,rfl,hrs,hmk,hh⟩,rfl⟩:=hinv
  try dsimp only
  intro J K hJ hK
  have HJ:=zh hJ
  clear hJ
  have hflag:=hrs.flag.cell
  have hfl2:=hrs.flag.frozen
  have hout:=hrs.out
  have HRS2:=zh hrs
  have HMK:=zh hmk
  have hg1:=hrs.g1
  clear hrs hmk
  cases b with
  |false=>
   gi_wp2
   have hcl:Closed g D:=by rcases hh.out with ⟨h1,_⟩|⟨_,h2⟩;exact(by cases h1);exact h2
   have hD:D=wayG g f:=funext fun b=>wayG_eq hok hu ⟨hf0,hf1⟩ HRS2.out.inv hcl
   refine leaves_marks HMK.out fun W' hl=>⟨_,results_tmp rfl _ _ _,w.heap.size+1,rfl,HRS2.out.low.trans (hl.grown fun D hD=>(HMK.out.at_ D hD).1),by omega,?_⟩
   rw[←hD]
   exact(HRS2.out.tab.left HMK.out hl).more (Nat.le_of_eq hl.size.symm)
  |true=>
   have hk0:gk=mu g.sta.length D+1:=by rcases hh.out with ⟨_,h1⟩|⟨h1,_⟩;exact h1;exact(by cases h1)
   have HK0:=zh hk0
   clear hk0 hh
   gi_wp2
   refine wpIn_loop_ghost_k (fun(k:Nat) (a':Act) (wr:World)=>∃(ds:List Deferred) (u7 u8 u9 u10 u11 u12 u13 u14 u25 u26 u27 u28 u29 u30 u31 u32 u33 u34 u35 u36 u37 u38 u39 u40 u41 u42 u43 u44 u45 u46 u47 u48 u49 u50 u51 u52 u53 u54 u55 u56 u57 u58 u59 u60 u61 u62 u63 u64 u65 u66 u67 u68 u69:Value),(∃(j:Nat) (b:Bool) (D':Int→Option Rt) (Ds:List Nat),u25=.int .i64 j∧j≤g.sta.length∧k=g.sta.length-j∧RS w ⟨pS,pM,pZ,cs,cm,cz⟩ g f (w.heap.size+1) w1.heap.size Ba D' b wr∧Marks w.heap.size ds Ds wr∧Hid ((b=false∧D'=D∧∀c:Int,c<j→∀r,D c=some r→∀x∈nbrs g c g.mov,¬worse D x.1.1 (ext r x))∨(b=true∧mu g.sta.length D'<mu g.sta.length D)))∧a'= {tmps:= #[.agg #[.int .i64 g.blur,.slice pS g.sta.length cs,.slice pM g.mov.length cm,.slice pZ g.zon.length cz],.int .i64 f,.pointer (some ⟨w.heap.size,0,none⟩),undef,.map none,.pointer (some ⟨w1.heap.size,0,none⟩),.pointer (some ⟨Ba,0,none⟩),u7,u8,u9,u10,u11,u12,u13,u14,.map (some (w.heap.size+1)),.int .i64 f,.int .i64 f,.slice (some ⟨w.heap.size+1+1,0,none⟩) 1 1,.agg #[.slice (some ⟨w.heap.size+1+1,0,none⟩) 1 1,.int .i64 0],.map (some (w.heap.size+1)),.bool true,.pointer (some ⟨w.heap.size,1,none⟩),.slice pS g.sta.length cs,.int .i64 g.sta.length,u25,u26,u27,u28,u29,u30,u31,u32,u33,u34,u35,u36,u37,u38,u39,u40,u41,u42,u43,u44,u45,u46,u47,u48,u49,u50,u51,u52,u53,u54,u55,u56,u57,u58,u59,u60,u61,u62,u63,u64,u65,u66,u67,u68,u69,u70,undef],defers:=ds}) g.sta.length ?_ ?_
   ·(repeat apply Exists.intro);refine⟨?_,rfl⟩
    exact⟨0,false,D,Ds,rfl,Nat.zero_le _,rfl,HRS2.out.setFlag false,HMK.out.grown (grownBy_setCell' wr Ba (.bool false)) (fun r e=>by cases e;exact HMK.out.notCells HRS2.out.flag),zh (.inl ⟨rfl,rfl,fun c hc r hr=>by have:=((HRS2.out.inv.wk hr).rng ⟨hf0,hf1⟩).1;omega⟩)⟩
   ·clear HRS2 HMK hflag hfl2 hout hg1
    intro gj _ wr2 hinv
    obtain⟨ds,u7,u8,u9,u10,u11,u12,u13,u14,u25,u26,u27,u28,u29,u30,u31,u32,u33,u34,u35,u36,u37,u38,u39,u40,u41,u42,u43,u44,u45,u46,u47,u48,u49,u50,u51,u52,u53,u54,u55,u56,u57,u58,u59,u60,u61,u62,u63,u64,u65,u66,u67,u68,u69,⟨j,b,D',Ds,rfl,hj,rfl,hrs,hmk,hh⟩,rfl⟩:=hinv
    try dsimp only
    intro J2 K2 hJ2 hK2
    have HJ2:=zh hJ2
    clear hJ2
    have hflag:=hrs.flag.cell
    have hfl2:=hrs.flag.frozen
    have hout:=hrs.out
    have HRS2:=zh hrs
    have HMK:=zh hmk
    clear hrs hmk
    by_cases hlt:j<g.sta.length
    ·rcases Tryz.look HRS2.out.tab (j:Int)with ⟨hD,hlk,_⟩|⟨A,c,r,hD,hlc,hints,hlk,_⟩
     ·have HD:=zh hD
      clear hD
      gi_wp2
      refine Handed.intro (g.sta.length-(j+1)) (by omega) (HJ2.out _ _ _ ?_)
      (repeat apply Exists.intro);refine⟨?_,rfl⟩
      refine⟨j+1,b,D',Ds,by go_num,by omega,rfl,HRS2.out.below (by exact zbl),HMK.out.below (by exact zbl),zh ?_⟩
      rcases hh.out with ⟨h1,rfl,hc⟩|h1
      ·refine .inl ⟨h1,rfl,fun c hcl r hr=>?_⟩
       by_cases e:c=j
       ·rw[e,HD.out]at hr;cases hr
       ·exact hc c (by omega) r hr
      ·exact .inr h1
     ·have HD:=zh hD
      have HI:=zh hints
      clear hD hints
      have hG0:=HRS2.out.g0
      have hG1:=HRS2.out.g1
      have hG2:=HRS2.out.g2
      have hG3:=HRS2.out.g3
      have hwl2:w.heap.size<wr2.heap.size:=World.block_lt_of_cell? wr2 _ hG0
      gi_wp2_with (refine⟨trivial,?_⟩;gi_at_call 112;refine(callsIn_wide.2 (next_c _ _ _ _ _ _ g (j:Int) _)).mono ?_;rintro e w' ⟨rfl,rfl⟩)
      obtain⟨W0,hW0⟩:∃W0,W0=((wr2.alloc (.cells #[.slice A r.st.length c,.int .i64 r.n] 168)).alloc (.cells #[.int .i64 g.blur,.slice pS g.sta.length cs,.slice pM g.mov.length cm,.slice pZ g.zon.length cz] 38)).alloc (.cells #[.int .i64 (j:Int)] 3):=⟨_,rfl⟩
      have hB0:Below wr2.heap.size wr2 W0:=by rw[hW0];exact zbl
      have hsz:W0.heap.size=wr2.heap.size+3:=by rw[hW0];simp
      have hba:=HRS2.out.flag.lt
      have hlow:=HRS2.out.low.size
      have hst:=next_stopsA 4 (by decide) pS pM pZ cs cm cz g (j:Int) (wr2.heap.size+1) (wr2.heap.size+1+1) w.heap.size hok (by omega) (by omega) W0 (by omega) (by omega) (by omega) (by rw[hW0];simp[World.cell?_alloc_lt,cells_new]) (by rw[hW0];simp[World.cell?_alloc_lt,cells_new]) (by rw[hW0];simp[World.cell?_alloc_lt,cells_new]) (by rw[hW0];simp[World.cell?_alloc_lt,cells_new]) (by rw[hW0];simp[cells_new])
       (HR.out.belowB (w0:=w) (HRS2.out.low.trans (hB0.mono hlow)) (Nat.le_refl _))
      have hRI:RI w ⟨pS,pM,pZ,cs,cm,cz⟩ g f (w.heap.size+1) w1.heap.size Ba (∀c:Int,c<j→∀r,D c=some r→∀x∈nbrs g c g.mov,¬worse D x.1.1 (ext r x)) D j r A c wr2.heap.size ds Ds W0.heap.size [] D' b W0:=by
       refine⟨HRS2.out.below hB0,HD.out,by rw[hW0];simp[World.cell?_alloc_lt,cells_new],by rw[hW0];simp[World.cell?_alloc_lt,cells_new],Rw.more (Rw.belowB (w0:=wr2) HI.out hB0 (Nat.le_refl _)) hB0.size,HMK.out.below hB0,Nat.le_refl _,?_⟩
       rcases hh.out with ⟨h1,h2,h3⟩|h1
       ·exact .inl ⟨h1,h3,h2,by simp⟩
       ·exact .inr h1
      have hDs:∀D∈Ds,D<W0.heap.size:=fun D hD=>by have:=HMK.out.lt hD;omega
      rw[←hW0]
      refine wpIn_rangeFunc_ownG rfl (by decide) (gf:=163) (lb:= #[.pointer (some ⟨wr2.heap.size+1,0,none⟩),.pointer (some ⟨wr2.heap.size+1+1,0,none⟩)]) rfl trivial (enters_of Tryz.func163 (by kernel_rfl) rfl)
       hst KpN.t (kpN_b (by omega) (by omega) (by omega)) (Below.refl _ _) (fun _=>rfl)
       (fun pre W=>∃D2 b2,RI w ⟨pS,pM,pZ,cs,cm,cz⟩ g f (w.heap.size+1) w1.heap.size Ba (∀c:Int,c<j→∀r,D c=some r→∀x∈nbrs g c g.mov,¬worse D x.1.1 (ext r x)) D j r A c wr2.heap.size ds Ds W0.heap.size pre D2 b2 W) (fun _ _ _=>False)
       (RI.ownFrom hDs hba (by omega)) (fun _ _ _ _ _ hs _ _=>hs) ⟨D',b,hRI⟩ ?a1 ?assign ?body ?done ?stop
      case assign=>
       intro l x W K hK
       gi_wp2
       exact hK
      case body=>
       intro l pre x W hI _
       exact routes_body w ⟨pS,pM,pZ,cs,cm,cz⟩ g f hok hf0 hf1 (w.heap.size+1) w1.heap.size Ba (∀c:Int,c<j→∀r,D c=some r→∀x∈nbrs g c g.mov,¬worse D x.1.1 (ext r x)) D j r A c wr2.heap.size (wr2.heap.size+1) (wr2.heap.size+1+1) ds Ds W0.heap.size hba (by omega) (by omega) (by omega) l pre x W hI _ _ _ _ _ _ _ _ _ _ _ _ _ _ _ _ _ _ _ _ _ _ _ _ _ _ _ _ _ _ _ _ _ _ _ _ _ _ _ _ _ _ _ _ _ _ _ _ _ _ _ _ _ _ _ _ _ _ _ _ _ _ _ _ _ _ _
      case done=>
       rintro D3 ys W hD3 hys ⟨D2,b2,hri⟩ hK3
       have HRI:=zh hri
       clear hri
       gi_wp2
       refine Handed.intro (g.sta.length-(j+1)) (by omega) (HJ2.out _ _ _ ?_)
       (repeat apply Exists.intro);refine⟨?_,rfl⟩
       refine⟨j+1,b2,D2,D3::Ds,by go_num,by omega,rfl,HRI.out.rs,HRI.out.mks.cons (fun hm=>by have:=hDs _ hm;omega) (by omega) hK3,zh ?_⟩
       rcases HRI.out.pr with ⟨h1,h6,h2,h3⟩|h1
       ·refine .inl ⟨h1,h2,fun c hcl r' hr' x hx=>?_⟩
        by_cases e:c=j
        ·subst e
         have hdj:=HRI.out.dj
         rw[h2,hr']at hdj
         cases hdj
         rw[←hys]at hx
         obtain⟨y,hy,rfl⟩:=List.mem_map.1 hx
         exact h3 y hy
        ·exact h6 c (by omega) r' hr' x hx
       ·exact .inr h1
      case stop=>
       rintro D3 c3 pre W _ _ h _
       exact h.elim
    ·have hjn:j=g.sta.length:=by omega
     subst hjn
     gi_wp2
     rcases hh.out with ⟨rfl,rfl,hc⟩|⟨rfl,h2⟩
     ·refine Handed.intro 0 (by rw[HK0.out];omega) (HJ.out _ _ _ ?_)
      (repeat apply Exists.intro);refine⟨?_,rfl⟩
      exact⟨false,wr2.heap.size,D',Ds,rfl,HRS2.out.newFlag false,HMK.out.below (by exact zbl),zh (.inr ⟨rfl,fun a r hr x hx=>hc a ((HRS2.out.inv.wk hr).rng ⟨hf0,hf1⟩).1.2 r hr x hx⟩)⟩
     ·refine Handed.intro (mu g.sta.length D'+1) (by rw[HK0.out];omega) (HJ.out _ _ _ ?_)
      (repeat apply Exists.intro);refine⟨?_,rfl⟩
      exact⟨true,wr2.heap.size,D',Ds,rfl,HRS2.out.newFlag true,HMK.out.below (by exact zbl),zh (.inl ⟨rfl,rfl⟩)⟩
end Go.Proofs.YtehnikhicnnnhaaGreatDoor
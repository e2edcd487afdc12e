/- routes: one round over a neighbour. -/
import Derived.Test.YtehnikhicnnnhaaGreatDoorPa07
namespace Go.Proofs.YtehnikhicnnnhaaGreatDoor
open Go.RowKit Go.Shelf
attribute [local go_sem] Oper.semAt_some
structure R13(W:World)(A:Option Addr)(c:Nat)(r:Rt)(x1 x2:Int)(Br:Nat)(L:Nat→Bool)(s12 s41 s42 s43 s44 s45 s46 s47 s48 s49 s50 s51:Value)(w:World):Prop where
 low:Below W.heap.size W w
 f0:L 0=true→s41=.pointer (some ⟨Br,0,none⟩)
 f1:L 1=true→s42=.slice A r.st.length c
 f2:L 2=true→L 5=false→OwnI w W.heap.size s43 r.st
 f3:L 3=true→s44=.int .i64 x1
 f4:L 4=true→L 5=false→∃bT,s45=.slice (some ⟨bT,0,none⟩) 1 1∧w.cell? ⟨bT,0,none⟩=some (.int .i64 x1)∧W.heap.size≤bT∧bT<w.heap.size∧(L 2=true→some bT≠s43.ownBlock)
 f5:L 5=true→OwnI w W.heap.size s46 (r.st++ [x1])
 f6:L 6=true→s47=.pointer (some ⟨Br,1,none⟩)
 f7:L 7=true→s48=.int .i64 r.n
 f8:L 8=true→s49=.int .i64 x2
 f9:L 9=true→s50=.int .i64 (r.n+x2)
 f10:L 10=true→s51=.agg #[s46,.int .i64 (r.n+x2)]
 f11:L 11=true→L 12=false→∃bX,s12=.pointer (some ⟨bX,0,none⟩)∧W.heap.size≤bX∧w.heap[bX]? =some (.cells #[.slice none 0 0,.int .i64 0] 168 (0,0))
 f12:L 12=true→∃bX,s12=.pointer (some ⟨bX,0,none⟩)∧W.heap.size≤bX∧w.cell? ⟨bX,0,none⟩=some s46∧w.cell? ⟨bX,1,none⟩=some (.int .i64 (r.n+x2))
noncomputable def routesB:Code:=(rfBody (Tryz.f94.body.getD .skip)).getD .skip
set_option maxRecDepth 100000 in
set_option maxHeartbeats 2000000 in
theorem routes_body(w:World)(a:GA)(g:Grd)(f:Int)(hok:okG g)(hf0:0≤f)(hf1:f<g.sta.length)(m Bo Ba:Nat)(P0:Prop)(D0:Int→Option Rt)(j:Int)(r:Rt)(A:Option Addr)(c Br Bg Bn:Nat)(ds:List Deferred)(Ds:List Nat)(sz:Nat)
 (hBr:Ba<Br) (hBg:Br<Bg) (hBn:Bg<Bn) (hsz:Bn<sz) (l:Nat) (pre:List (NA g j)) (x:NA g j) (W:World) (hI:∃D b,RI w a g f m Bo Ba P0 D0 j r A c Br ds Ds sz pre D b W)
 (u0 u1 u2 u3 u4 u7 u9 u12 u13 u14 u15 u16 u17 u18 u19 u20 u21 u22 u23 u24 u25 u26 u27 u28 u29 u30 u31 u32 u33 u34 u35 u36 u37 u38 u39 u40 u41 u42 u43 u44 u45 u46 u47 u48 u49 u50 u51 u52 u53 u54 u55 u56 u57 u58 u59 u60 u61 u62 u63 u64 u65 u66 u67 u68 u69 u70 u71:Value):
 routesB.wpIn (Fence.wide.inRound l) 3 Tryz.prog (ownPostG sz (KpN w.heap.size Bg Bn) (fun pre W=>∃D b,RI w a g f m Bo Ba P0 D0 j r A c Br ds Ds sz pre D b W) (fun _ _ _=>False) (pre++ [x]) W) {tmps:= #[u0,u1,u2,u3,u4,.pointer (some ⟨Bo,0,none⟩),.pointer (some ⟨Ba,0,none⟩),u7,.pointer (some ⟨Br,0,none⟩),u9,.int .i64 x.1.1.1,.int .i64 x.1.1.2,u12,u13,u14,u15,u16,u17,u18,u19,u20,u21,u22,u23,u24,u25,u26,u27,u28,u29,u30,u31,u32,u33,u34,u35,u36,u37,u38,u39,u40,u41,u42,u43,u44,u45,u46,u47,u48,u49,u50,u51,u52,u53,u54,u55,u56,u57,u58,u59,u60,u61,u62,u63,u64,u65,u66,u67,u68,u69,u70,u71],defers:= []} W:=by
 obtain⟨D,b,hri⟩:=hI
 have hc0:=hri.r0
 have hc1:=hri.r1
 have hout:=hri.rs.out
 have hflag:=hri.rs.flag.cell
 have hfl2:=hri.rs.flag.frozen
 have hrs:=hri.rs.inv.rtsx hok.ns ⟨hf0,hf1⟩ hri.dj x.1
 have hsm:=hri.rs.inv.small ⟨hf0,hf1⟩ hri.dj
 have hst:=(hri.rs.inv.wk hri.dj).steps
 have hns:=hok.ns
 have hx1:=x.1.2.1
 have hx2:=x.1.2.2
 have HRI:=zh hri
 clear hri
 obtain⟨i0,hi,hz0,hz1,hz2⟩:=info_parts Tryz.infoInt
 simp only[routesB,Tryz.f94,rfBody,Option.getD,Option.or]
 have hmx:=HRI.out.ri
 have hbr:Br<W.heap.size:=World.block_lt_of_cell? W _ hc0
 have hmo:Tryz.prog.follows .mixedOrders=true:=by kernel_rfl
 gi_wp2
 refine wpIn_region_inv2 hmo (fun L a' w'=>∃s12 s41 s42 s43 s44 s45 s46 s47 s48 s49 s50 s51:Value,R13 W A c r x.1.1.1 x.1.1.2 Br L s12 s41 s42 s43 s44 s45 s46 s47 s48 s49 s50 s51 w'∧a'= {tmps:= #[u0,u1,u2,u3,u4,.pointer (some ⟨Bo,0,none⟩),.pointer (some ⟨Ba,0,none⟩),u7,.pointer (some ⟨Br,0,none⟩),u9,.int .i64 x.1.1.1,.int .i64 x.1.1.2,s12,u13,u14,u15,u16,u17,u18,u19,u20,u21,u22,u23,u24,u25,u26,u27,u28,u29,u30,u31,u32,u33,u34,u35,u36,u37,u38,u39,u40,s41,s42,s43,s44,s45,s46,s47,s48,s49,s50,s51,u52,u53,u54,u55,u56,u57,u58,u59,u60,u61,u62,u63,u64,u65,u66,u67,u68,u69,u70,u71],defers:= []}) ?acyc ?h0 ?step ?fin
 case acyc=>
  intro i o ho
  have hi:i<13:=by have:=(Array.getElem?_eq_some_iff.1 ho).1;simpa using this
  rcases(show i=0∨i=1∨i=2∨i=3∨i=4∨i=5∨i=6∨i=7∨i=8∨i=9∨i=10∨i=11∨i=12 by omega)with rfl|rfl|rfl|rfl|rfl|rfl|rfl|rfl|rfl|rfl|rfl|rfl|rfl<;>(simp at ho;subst ho;simp)
 case h0=>
  (repeat apply Exists.intro);refine⟨?_,rfl⟩
  exact⟨by exact zbl,by simp,by simp,by simp,by simp,by simp,by simp,by simp,by simp,by simp,by simp,by simp,by simp,by simp⟩
 case step=>
  intro i o ho L a' w' hI hLi hcl he K hK
  have h10n:L 5=false→L 10=false:=fun h=>by
   cases h10:L 10 with
   |false=>rfl
   |true=>have:=hcl 10 _ rfl h10 ⟨5,.data⟩ (by simp) rfl;rw[h]at this;cases this
  have h12n:∀k,k=5∨k=11→L k=false→L 12=false:=fun k hk h=>by
   cases h12:L 12 with
   |false=>rfl
   |true=>
    rcases hk with rfl|rfl
    ·have:=hcl 12 _ rfl h12 ⟨5,.chain⟩ (by simp) rfl;rw[h]at this;cases this
    ·have:=hcl 12 _ rfl h12 ⟨11,.data⟩ (by simp) rfl;rw[h]at this;cases this
  clear hcl
  obtain⟨s12,s41,s42,s43,s44,s45,s46,s47,s48,s49,s50,s51,hf,rfl⟩:=hI
  have hi:i<13:=by have:=(Array.getElem?_eq_some_iff.1 ho).1;simpa using this
  rcases(show i=0∨i=1∨i=2∨i=3∨i=4∨i=5∨i=6∨i=7∨i=8∨i=9∨i=10∨i=11∨i=12 by omega)with rfl|rfl|rfl|rfl|rfl|rfl|rfl|rfl|rfl|rfl|rfl|rfl|rfl
  ·simp at ho
   subst ho
   simp[Region.binds]at he
   simp[wpOpIn,Region.wanted]
   go_simp
   refine hK _ _ ?_
   (repeat apply Exists.intro);refine⟨?_,rfl⟩
   exact⟨hf.low,fun _=>rfl,fun h=>hf.f1 (by simpa [updL]using h),fun h h'=>hf.f2 (by simpa [updL]using h) (by simpa [updL]using h'),fun h=>hf.f3 (by simpa [updL]using h),fun h h'=>by have h3:=hf.f4 (by simpa [updL]using h) (by simpa [updL]using h');simpa [updL]using h3,fun h=>hf.f5 (by simpa [updL]using h),fun h=>hf.f6 (by simpa [updL]using h),fun h=>hf.f7 (by simpa [updL]using h),fun h=>hf.f8 (by simpa [updL]using h),fun h=>hf.f9 (by simpa [updL]using h),fun h=>hf.f10 (by simpa [updL]using h),fun h h'=>hf.f11 (by simpa [updL]using h) (by simpa [updL]using h'),fun h=>hf.f12 (by simpa [updL]using h)⟩
  ·simp at ho
   subst ho
   simp[Region.binds]at he
   simp[wpOpIn,Region.wanted]
   obtain rfl:=hf.f0 he
   have hcr:=(hf.low.cell (p:=⟨Br,0,none⟩) hbr).trans hc0
   go_simp
   refine hK _ _ ?_
   (repeat apply Exists.intro);refine⟨?_,rfl⟩
   exact⟨hf.low,fun h=>hf.f0 (by simpa [updL]using h),fun _=>rfl,fun h h'=>hf.f2 (by simpa [updL]using h) (by simpa [updL]using h'),fun h=>hf.f3 (by simpa [updL]using h),fun h h'=>by have h3:=hf.f4 (by simpa [updL]using h) (by simpa [updL]using h');simpa [updL]using h3,fun h=>hf.f5 (by simpa [updL]using h),fun h=>hf.f6 (by simpa [updL]using h),fun h=>hf.f7 (by simpa [updL]using h),fun h=>hf.f8 (by simpa [updL]using h),fun h=>hf.f9 (by simpa [updL]using h),fun h=>hf.f10 (by simpa [updL]using h),fun h h'=>hf.f11 (by simpa [updL]using h) (by simpa [updL]using h'),fun h=>hf.f12 (by simpa [updL]using h)⟩
  ·simp at ho
   subst ho
   simp[Region.binds]at he
   simp[wpOpIn,Region.wanted]
   obtain rfl:=hf.f1 he
   have HC:=zh (CallsIn.inRound l (callsIn_wide (n:=2).2 (clone_c W.heap.size A c r.st w' (by omega) (Rw.belowB (w0:=W) hmx hf.low (Nat.le_refl _)))))
   go_simp
   refine⟨trivial,HC.out.mono ?_⟩
   rintro e wc ⟨vc,rfl,hown,hbc⟩
   simp only
   refine hK _ _ ?_
   (repeat apply Exists.intro);refine⟨?_,rfl⟩
   exact⟨hf.low.trans (hbc.mono hf.low.size),fun h=>hf.f0 (by simpa [updL]using h),fun h=>hf.f1 (by simpa [updL]using h),fun _ _=>hown.mono hf.low.size,fun h=>hf.f3 (by simpa [updL]using h),fun h4 h5=>by obtain⟨bT,e1,e2,e3,e4,_⟩:=hf.f4 (by simpa [updL]using h4) (by simpa [updL]using h5);exact⟨bT,e1,(hbc.cell (p:=⟨bT,0,none⟩) e4).trans e2,e3,Nat.lt_of_lt_of_le e4 hbc.size,fun _=>hown.ne e4⟩,fun h5=>(hf.f5 (by simpa [updL]using h5)).below hbc,fun h=>hf.f6 (by simpa [updL]using h),fun h=>hf.f7 (by simpa [updL]using h),fun h=>hf.f8 (by simpa [updL]using h),fun h=>hf.f9 (by simpa [updL]using h),fun h=>hf.f10 (by simpa [updL]using h),fun h h2=>by obtain⟨bX,e1,e2,e3⟩:=hf.f11 (by simpa [updL]using h) (by simpa [updL]using h2);exact⟨bX,e1,e2,(hbc.block bX (Array.getElem?_eq_some_iff.1 e3).1).trans e3⟩,fun h=>by obtain⟨bX,e1,e2,e3,e4⟩:=hf.f12 (by simpa [updL]using h);have hlt:=World.block_lt_of_cell? w' _ e3;exact⟨bX,e1,e2,(hbc.cell (p:=⟨bX,0,none⟩) hlt).trans e3,(hbc.cell (p:=⟨bX,1,none⟩) hlt).trans e4⟩⟩
  ·simp at ho
   subst ho
   simp[Region.binds]at he
   simp[wpOpIn,Region.wanted]
   go_simp
   refine hK _ _ ?_
   (repeat apply Exists.intro);refine⟨?_,rfl⟩
   exact⟨hf.low,fun h=>hf.f0 (by simpa [updL]using h),fun h=>hf.f1 (by simpa [updL]using h),fun h h'=>hf.f2 (by simpa [updL]using h) (by simpa [updL]using h'),fun _=>rfl,fun h h'=>by have h3:=hf.f4 (by simpa [updL]using h) (by simpa [updL]using h');simpa [updL]using h3,fun h=>hf.f5 (by simpa [updL]using h),fun h=>hf.f6 (by simpa [updL]using h),fun h=>hf.f7 (by simpa [updL]using h),fun h=>hf.f8 (by simpa [updL]using h),fun h=>hf.f9 (by simpa [updL]using h),fun h=>hf.f10 (by simpa [updL]using h),fun h h'=>hf.f11 (by simpa [updL]using h) (by simpa [updL]using h'),fun h=>hf.f12 (by simpa [updL]using h)⟩
  ·simp at ho
   subst ho
   simp[Region.binds]at he
   simp[wpOpIn,Region.wanted]
   obtain rfl:=hf.f3 he
   go_simp
   refine hK _ _ ?_
   (repeat apply Exists.intro);refine⟨?_,rfl⟩
   exact⟨(hf.low.alloc hf.low.size _),fun h=>hf.f0 (by simpa [updL]using h),fun h=>hf.f1 (by simpa [updL]using h),fun h2 h5=>(hf.f2 (by simpa [updL]using h2) (by simpa [updL]using h5)).alloc _,fun h=>hf.f3 (by simpa [updL]using h),fun _ h5=>⟨w'.heap.size,rfl,by simp[cells_new],hf.low.size,by simp,fun h2 e=>by have:=(World.ownsRow.lt (hf.f2 (by simpa [updL]using h2) (by simpa [updL]using h5)) _ e.symm).2;omega⟩,fun h5=>(hf.f5 (by simpa [updL]using h5)).alloc _,fun h=>hf.f6 (by simpa [updL]using h),fun h=>hf.f7 (by simpa [updL]using h),fun h=>hf.f8 (by simpa [updL]using h),fun h=>hf.f9 (by simpa [updL]using h),fun h=>hf.f10 (by simpa [updL]using h),fun h h2=>by obtain⟨bX,e1,e2,e3⟩:=hf.f11 (by simpa [updL]using h) (by simpa [updL]using h2);exact⟨bX,e1,e2,(Below.heap_alloc _ _ _ (Array.getElem?_eq_some_iff.1 e3).1).trans e3⟩,fun h=>by obtain⟨bX,e1,e2,e3,e4⟩:=hf.f12 (by simpa [updL]using h);have hlt:=World.block_lt_of_cell? w' _ e3;exact⟨bX,e1,e2,(World.cell?_alloc_lt _ _ ⟨bX,0,none⟩ hlt).trans e3,(World.cell?_alloc_lt _ _ ⟨bX,1,none⟩ hlt).trans e4⟩⟩
  ·simp at ho
   subst ho
   simp[Region.binds]at he
   simp[wpOpIn,Region.wanted]
   have hl2:L 2=true:=he.1
   have hl4:L 4=true:=he.2.1
   have h2:=hf.f2 hl2 hLi
   obtain⟨bT,rfl,hcT,_,_,hneT⟩:=hf.f4 hl4 hLi
   refine wpIn_append_op w' _ _ rfl W.heap.size s43 r.st rfl h2 bT 1 x.1.1.1 rfl hcT (by omega) hf.low.size ?_
   intro v' w2 hown hgrow
   have hlo:∀k,v'.ownBlock=some k→True:=fun _ _=>trivial
   clear hlo
   have hlow:Below W.heap.size W w2:=hf.low.grown hgrow hf.low.size (fun k e=>(World.ownsRow.lt h2 k e).1)
   simp only[Act.put,List.setIfInBounds_toArray,List.set_cons_zero,List.set_cons_succ]
   refine hK _ _ ?_
   (repeat apply Exists.intro);refine⟨?_,rfl⟩
   exact⟨hlow,fun h=>hf.f0 (by simpa [updL]using h),fun h=>hf.f1 (by simpa [updL]using h),fun _ h5=>by simp[updL]at h5,fun h=>hf.f3 (by simpa [updL]using h),fun _ h5=>by simp[updL]at h5,fun _=>hown,fun h=>hf.f6 (by simpa [updL]using h),fun h=>hf.f7 (by simpa [updL]using h),fun h=>hf.f8 (by simpa [updL]using h),fun h=>hf.f9 (by simpa [updL]using h),fun h=>absurd (by simpa [updL]using h) (by rw[h10n hLi];simp),fun h h2'=>by obtain⟨bX,e1,e2,e3⟩:=hf.f11 (by simpa [updL]using h) (by simpa [updL]using h2');exact⟨bX,e1,e2,(hgrow.block bX (Array.getElem?_eq_some_iff.1 e3).1 (h2.notBlock e3 (by decide))).trans e3⟩,fun h=>absurd (by simpa [updL]using h) (by rw[h12n 5 (.inl rfl) hLi];simp)⟩
  ·simp at ho
   subst ho
   simp[Region.binds]at he
   simp[wpOpIn,Region.wanted]
   go_simp
   refine hK _ _ ?_
   (repeat apply Exists.intro);refine⟨?_,rfl⟩
   exact⟨hf.low,fun h=>hf.f0 (by simpa [updL]using h),fun h=>hf.f1 (by simpa [updL]using h),fun h h'=>hf.f2 (by simpa [updL]using h) (by simpa [updL]using h'),fun h=>hf.f3 (by simpa [updL]using h),fun h h'=>by have h3:=hf.f4 (by simpa [updL]using h) (by simpa [updL]using h');simpa [updL]using h3,fun h=>hf.f5 (by simpa [updL]using h),fun _=>rfl,fun h=>hf.f7 (by simpa [updL]using h),fun h=>hf.f8 (by simpa [updL]using h),fun h=>hf.f9 (by simpa [updL]using h),fun h=>hf.f10 (by simpa [updL]using h),fun h h'=>hf.f11 (by simpa [updL]using h) (by simpa [updL]using h'),fun h=>hf.f12 (by simpa [updL]using h)⟩
  ·simp at ho
   subst ho
   simp[Region.binds]at he
   simp[wpOpIn,Region.wanted]
   obtain rfl:=hf.f6 he
   have hcr:=(hf.low.cell (p:=⟨Br,1,none⟩) hbr).trans hc1
   go_simp
   refine hK _ _ ?_
   (repeat apply Exists.intro);refine⟨?_,rfl⟩
   exact⟨hf.low,fun h=>hf.f0 (by simpa [updL]using h),fun h=>hf.f1 (by simpa [updL]using h),fun h h'=>hf.f2 (by simpa [updL]using h) (by simpa [updL]using h'),fun h=>hf.f3 (by simpa [updL]using h),fun h h'=>by have h3:=hf.f4 (by simpa [updL]using h) (by simpa [updL]using h');simpa [updL]using h3,fun h=>hf.f5 (by simpa [updL]using h),fun h=>hf.f6 (by simpa [updL]using h),fun _=>rfl,fun h=>hf.f8 (by simpa [updL]using h),fun h=>hf.f9 (by simpa [updL]using h),fun h=>hf.f10 (by simpa [updL]using h),fun h h'=>hf.f11 (by simpa [updL]using h) (by simpa [updL]using h'),fun h=>hf.f12 (by simpa [updL]using h)⟩
  ·simp at ho
   subst ho
   simp[Region.binds]at he
   simp[wpOpIn,Region.wanted]
   go_simp
   refine hK _ _ ?_
   (repeat apply Exists.intro);refine⟨?_,rfl⟩
   exact⟨hf.low,fun h=>hf.f0 (by simpa [updL]using h),fun h=>hf.f1 (by simpa [updL]using h),fun h h'=>hf.f2 (by simpa [updL]using h) (by simpa [updL]using h'),fun h=>hf.f3 (by simpa [updL]using h),fun h h'=>by have h3:=hf.f4 (by simpa [updL]using h) (by simpa [updL]using h');simpa [updL]using h3,fun h=>hf.f5 (by simpa [updL]using h),fun h=>hf.f6 (by simpa [updL]using h),fun h=>hf.f7 (by simpa [updL]using h),fun _=>rfl,fun h=>hf.f9 (by simpa [updL]using h),fun h=>hf.f10 (by simpa [updL]using h),fun h h'=>hf.f11 (by simpa [updL]using h) (by simpa [updL]using h'),fun h=>hf.f12 (by simpa [updL]using h)⟩
  ·simp at ho
   subst ho
   simp[Region.binds]at he
   simp[wpOpIn,Region.wanted]
   obtain rfl:=hf.f7 he.1
   obtain rfl:=hf.f8 he.2
   go_simp
   refine hK _ _ ?_
   (repeat apply Exists.intro);refine⟨?_,rfl⟩
   exact⟨hf.low,fun h=>hf.f0 (by simpa [updL]using h),fun h=>hf.f1 (by simpa [updL]using h),fun h h'=>hf.f2 (by simpa [updL]using h) (by simpa [updL]using h'),fun h=>hf.f3 (by simpa [updL]using h),fun h h'=>by have h3:=hf.f4 (by simpa [updL]using h) (by simpa [updL]using h');simpa [updL]using h3,fun h=>hf.f5 (by simpa [updL]using h),fun h=>hf.f6 (by simpa [updL]using h),fun h=>hf.f7 (by simpa [updL]using h),fun h=>hf.f8 (by simpa [updL]using h),fun _=>by rw[IntWalk.i64_in _ (by omega)],fun h=>hf.f10 (by simpa [updL]using h),fun h h'=>hf.f11 (by simpa [updL]using h) (by simpa [updL]using h'),fun h=>hf.f12 (by simpa [updL]using h)⟩
  ·simp at ho
   subst ho
   simp[Region.binds]at he
   simp[wpOpIn,Region.wanted]
   obtain rfl:=hf.f9 he.2
   obtain⟨g5,c5,hs5,_⟩:=(hf.f5 he.1).slice (by simp)
   simp only[List.length_append,List.length_cons,List.length_nil,Nat.zero_add]at hs5
   subst hs5
   go_simp
   refine hK _ _ ?_
   (repeat apply Exists.intro);refine⟨?_,rfl⟩
   exact⟨hf.low,fun h=>hf.f0 (by simpa [updL]using h),fun h=>hf.f1 (by simpa [updL]using h),fun h h'=>hf.f2 (by simpa [updL]using h) (by simpa [updL]using h'),fun h=>hf.f3 (by simpa [updL]using h),fun h h'=>by have h3:=hf.f4 (by simpa [updL]using h) (by simpa [updL]using h');simpa [updL]using h3,fun h=>hf.f5 (by simpa [updL]using h),fun h=>hf.f6 (by simpa [updL]using h),fun h=>hf.f7 (by simpa [updL]using h),fun h=>hf.f8 (by simpa [updL]using h),fun h=>hf.f9 (by simpa [updL]using h),fun _=>rfl,fun h h'=>hf.f11 (by simpa [updL]using h) (by simpa [updL]using h'),fun h=>hf.f12 (by simpa [updL]using h)⟩
  ·simp at ho
   subst ho
   simp[Region.binds]at he
   simp[wpOpIn,Region.wanted]
   go_simp
   refine hK _ _ ?_
   (repeat apply Exists.intro);refine⟨?_,rfl⟩
   exact⟨(hf.low.alloc hf.low.size _),fun h=>hf.f0 (by simpa [updL]using h),fun h=>hf.f1 (by simpa [updL]using h),fun h2 h5=>(hf.f2 (by simpa [updL]using h2) (by simpa [updL]using h5)).alloc _,fun h=>hf.f3 (by simpa [updL]using h),fun h4 h5=>by obtain⟨bT,e1,e2,e3,e4,e5⟩:=hf.f4 (by simpa [updL]using h4) (by simpa [updL]using h5);exact⟨bT,e1,(World.cell?_alloc_lt _ _ ⟨bT,0,none⟩ e4).trans e2,e3,by simp;omega,fun h2=>e5 (by simpa [updL]using h2)⟩,fun h5=>(hf.f5 (by simpa [updL]using h5)).alloc _,fun h=>hf.f6 (by simpa [updL]using h),fun h=>hf.f7 (by simpa [updL]using h),fun h=>hf.f8 (by simpa [updL]using h),fun h=>hf.f9 (by simpa [updL]using h),fun h=>hf.f10 (by simpa [updL]using h),fun _ _=>⟨w'.heap.size,rfl,hf.low.size,heap_alloc_new w' _⟩,fun h=>absurd (by simpa [updL]using h) (by rw[h12n 11 (.inr rfl) hLi];simp)⟩
  ·simp at ho
   subst ho
   simp[Region.binds]at he
   simp[wpOpIn,Region.wanted]
   have hall:∀k,k<12→L k=true:=by
    intro k hk
    rcases(show k=0∨k=1∨k=2∨k=3∨k=4∨k=5∨k=6∨k=7∨k=8∨k=9∨k=10∨k=11 by omega)with rfl|rfl|rfl|rfl|rfl|rfl|rfl|rfl|rfl|rfl|rfl|rfl<;>simp[he]
   obtain⟨bX,rfl,e2,e3⟩:=hf.f11 (hall 11 (by omega)) hLi
   have h5:=hf.f5 (hall 5 (by omega))
   obtain rfl:=hf.f10 (hall 10 (by omega))
   obtain⟨g5,c5,hs5,_⟩:=h5.slice (by simp)
   simp only[List.length_append,List.length_cons,List.length_nil,Nat.zero_add]at hs5
   subst hs5
   have hb0:w'.cell? ⟨bX,0,none⟩=some (.slice none 0 0):=by simp[World.cell?,e3]
   have hb1:w'.cell? ⟨bX,1,none⟩=some (.int .i64 0):=by simp[World.cell?,e3]
   have hz0:w'.frozen? ⟨bX,0,none⟩=false:=by simp[World.frozen?,e3]
   have hz1:w'.frozen? ⟨bX,1,none⟩=false:=by simp[World.frozen?,e3]
   go_simp
   refine hK _ _ ?_
   (repeat apply Exists.intro);refine⟨?_,rfl⟩
   exact⟨(hf.low.setCell (p:=⟨bX,0,none⟩) e2 _).setCell (p:=⟨bX,1,none⟩) e2 _,fun h=>hf.f0 (by simpa [updL]using h),fun h=>hf.f1 (by simpa [updL]using h),fun _ h5=>absurd h5 (by simp[updL,hall 5 (by omega)]),fun h=>hf.f3 (by simpa [updL]using h),fun _ h5=>absurd h5 (by simp[updL,hall 5 (by omega)]),fun _=>(h5.grown (grownBy_setCellO w' bX 0 _) (fun r e=>by cases e;exact h5.notBlock e3 (by decide))).grown (grownBy_setCellO _ bX 1 _) (fun r e=>by cases e;exact h5.notBlock e3 (by decide)),fun h=>hf.f6 (by simpa [updL]using h),fun h=>hf.f7 (by simpa [updL]using h),fun h=>hf.f8 (by simpa [updL]using h),fun h=>hf.f9 (by simpa [updL]using h),fun _=>rfl,fun _ h=>by simp[updL]at h,fun _=>⟨bX,rfl,e2,by rw[World.cell?_setCell_other _ _ _ _ (by simp:(⟨bX,1,none⟩:Addr)≠⟨bX,0,none⟩)];exact World.cell?_setCell_same' _ _ _ (by rw[hb0];rfl),World.cell?_setCell_same' _ _ _ (by rw[World.cell?_setCell_other _ _ _ _ (by simp:(⟨bX,0,none⟩:Addr)≠⟨bX,1,none⟩),hb1];rfl)⟩⟩
 case fin=>
  intro L a' w' hI hall
  obtain⟨s12,s41,s42,s43,s44,s45,s46,s47,s48,s49,s50,s51,hf,rfl⟩:=hI
  have h5:=hf.f5 (hall 5 (by simp))
  obtain⟨bX,rfl,hX1,hX2,hX3⟩:=hf.f12 (hall 12 (by simp))
  have hlow:=hf.low
  obtain⟨A5,c5,hs5,hc5,hi5⟩:=h5.ints
  simp only[List.length_append,List.length_cons,List.length_nil,Nat.zero_add]at hs5 hc5
  subst hs5
  have HF:=zh hi5
  have HR2:=zh (HRI.out.below hlow)
  have hout2:=HR2.out.rs.out
  have hfl3:=HR2.out.rs.flag.cell
  have hfl4:=HR2.out.rs.flag.frozen
  have hbX:=World.block_lt_of_cell? w' _ hX2
  have hBo:=World.block_lt_of_cell? w' _ hout2
  have hBa:=World.block_lt_of_cell? w' _ hfl3
  simp only at hbX hBo hBa
  clear hf hi5 hall h5 hc0 hc1 hout hflag hfl2 hi hz0 hz1 hz2 hmx hmo
  dsimp only
  have hUP:=zh (show ∀w2,Below w'.heap.size w' w2→∃w3,(Instr.mapUpdate 170 (.map (some m)) (.int .i64 x.1.1.1) (.agg #[.slice A5 (r.st.length+1) c5,.int .i64 (r.n+x.1.1.2)])).run Tryz.prog w2=.ok () w3∧TabD w3 m w2.heap.size (setD D x.1.1.1 (ext r x.1.1))∧w2.grownBy w3 (some m)∧Boxed w3 Ba 4 (.bool b)from fun w2 hw2=>by
   have k2:=HR2.out.below hw2
   obtain⟨w3,h1,h2,h3⟩:=k2.rs.tab.update (P:=Tryz.prog) x.1.1.1 (A:=A5) (c:=c5) (rt:=ext r x.1.1) Tryz.underlying170 Tryz.underlying3 (Rw.more (Rw.belowB (w0:=w') HF.out hw2 (Nat.le_refl _)) hw2.size) (by rw[ext_len];exact hc5)
   rw[encRt,ext_len,ext_n]at h1
   exact⟨w3,h1,h2,h3,k2.rs.flag.kept h3 (fun e=>by have:=k2.rs.o2;have:=k2.rs.o3;cases e;omega)⟩)
  cases hD:D x.1.1.1 with
  |none=>
   have HD:=zh hD
   clear hD
   have hw2:Below w'.heap.size w' (w'.alloc (.cells #[.slice none 0 0,.int .i64 0] 168)):=by exact zbl
   obtain⟨w3,hup,ht3,hg3,hbx3⟩:=hUP.out _ hw2
   have hfl5:=hbx3.cell
   have hfl6:=hbx3.frozen
   have HT:=zh ht3
   clear ht3
   gi_wp2_with (first|(refine wpListIn_look_none rfl _ _ rfl m _ D x.1.1.1 rfl rfl HR2.out.rs.tab HD.out ?_)|(refine⟨trivial,?_⟩))
   exact RI.upd HRI.out hok ⟨hf0,hf1⟩ (hlow.trans (hw2.mono hlow.size)) x (.inl HD.out) hBr hBg hBn hsz HT.out hg3
  |some ro=>
   have hCM:=zh (show ∀A6 c6,IntsR w' w'.heap.size A6 ro.st→∀W4,Below w'.heap.size w' W4→CallsIn (Fence.wide.inRound l) (3-1) Tryz.prog 159 #[.agg #[.slice A5 (r.st.length+1) c5,.int .i64 (r.n+x.1.1.2)],.agg #[.slice A6 ro.st.length c6,.int .i64 ro.n]] W4 fun e w5=>e=.returned (.int .i64 (rcmp (ext r x.1.1) ro))∧Below W4.heap.size W4 w5 from fun A6 c6 hi6 W4 hW4=>by
    have h1:=compare_c W4.heap.size A5 A6 c5 c6 (ext r x.1.1) ro W4 (by rw[ext_len];omega) (Rw.more (Rw.belowB (w0:=w') HF.out hW4 (Nat.le_refl _)) hW4.size) (Rw.more (Rw.belowB (w0:=w') hi6 hW4 (Nat.le_refl _)) hW4.size) (Nat.le_refl _)
    unfold encRt at h1
    rw[ext_len,ext_n]at h1
    exact CallsIn.inRound l (callsIn_wide.2 h1))
   have hdro:=(HR2.out.rs.inv.wk hD).dig hok.ns ⟨hf0,hf1⟩
   have hrc:=rcmp_lt (a:=ext r x.1.1) (b:=ro) hrs.dig hdro
   have HD:=zh hD
   clear hD
   by_cases hlt:rlt (ext r x.1.1) ro
   ·have hneg:rcmp (ext r x.1.1) ro<0:=hrc.2 hlt
    have HLT:=zh hlt
    clear hlt hrc hdro
    gi_wp2_with (first|(refine wpListIn_look_some rfl _ _ rfl m _ D x.1.1.1 ro rfl rfl HR2.out.rs.tab HD.out ?_;intro A6 c6 hc6 hi6;(have HI6:=zh hi6);clear hi6)|(refine⟨trivial,?_⟩;gi_at_call 159;refine(hCM.out A6 c6 HI6.out _ ?_).mono ?_;(focus((repeat first|(with_reducible first|assumption|exact Below.refl _ _|refine Bl.drew ?_|refine Bl.drewN ?_ _|refine Bl.alloc ?_ _|refine Bl.set ?_ _ ?_)|(with_reducible apply Bl.step';(focus(with_reducible assumption)))|omega|(focus(simp;done))|(focus(simp;omega)))));rintro e w4 ⟨rfl,hb4⟩;(have hw2:Below w'.heap.size w' w4:=by exact zbl);(obtain⟨w3,hup,ht3,hg3,hbx3⟩:=hUP.out _ hw2);(have hfl5:=hbx3.cell);(have hfl6:=hbx3.frozen);(have HT:=zh ht3);clear ht3;(have hbX4:w4.cell? ⟨bX,0,none⟩=some (.slice A5 (r.st.length+1) c5):=(hw2.cell (p:=⟨bX,0,none⟩) hbX).trans hX2);(have hbX5:w4.cell? ⟨bX,1,none⟩=some (.int .i64 (r.n+x.1.1.2)):=(hw2.cell (p:=⟨bX,1,none⟩) hbX).trans hX3);(have hout4:w4.cell? ⟨Bo,0,none⟩=some (.map (some m)):=(hw2.cell (p:=⟨Bo,0,none⟩) hBo).trans hout2)))
    exact RI.upd HRI.out hok ⟨hf0,hf1⟩ (hlow.trans (hw2.mono hlow.size)) x (.inr ⟨ro,HD.out,HLT.out⟩) hBr hBg hBn hsz HT.out hg3
   ·have hneg:¬rcmp (ext r x.1.1) ro<0:=fun h=>hlt (hrc.1 h)
    have HLT:=zh hlt
    clear hlt hrc hdro
    gi_wp2_with (first|(refine wpListIn_look_some rfl _ _ rfl m _ D x.1.1.1 ro rfl rfl HR2.out.rs.tab HD.out ?_;intro A6 c6 hc6 hi6;(have HI6:=zh hi6);clear hi6)|(refine⟨trivial,?_⟩;gi_at_call 159;refine(hCM.out A6 c6 HI6.out _ ?_).mono ?_;(focus((repeat first|(with_reducible first|assumption|exact Below.refl _ _|refine Bl.drew ?_|refine Bl.drewN ?_ _|refine Bl.alloc ?_ _|refine Bl.set ?_ _ ?_)|(with_reducible apply Bl.step';(focus(with_reducible assumption)))|omega|(focus(simp;done))|(focus(simp;omega)))));rintro e w4 ⟨rfl,hb4⟩))
    have hw2:Below w'.heap.size w' w4:=by exact zbl
    exact RI.keep HRI.out (hlow.trans (hw2.mono hlow.size)) x (fun h=>by
     rcases h with h|⟨r',h1,h2⟩
     ·rw[HD.out]at h;cases h
     ·rw[HD.out]at h1;cases h1;exact HLT.out h2) hBn hsz
end Go.Proofs.YtehnikhicnnnhaaGreatDoor
/- routes: the least ways from a station. -/
import Derived.Test.YtehnikhicnnnhaaGreatDoorPa08
namespace Go.Proofs.YtehnikhicnnnhaaGreatDoor
open Go.RowKit Go.Shelf
attribute [local go_sem] Oper.semAt_some
set_option maxRecDepth 100000 in
set_option maxHeartbeats 2000000 in
theorem routes_c(pS pM pZ:Option Addr)(cs cm cz:Nat)(g:Grd)(f:Int)(w:World)(hok:okG g)(hu:Uniq g.mov)(hf0:0≤f)(hf1:f<g.sta.length)(hr:GridR w w.heap.size ⟨pS,pM,pZ,cs,cm,cz⟩ g):
 Calls Tryz.prog 94 #[.agg #[.int .i64 g.blur,.slice pS g.sta.length cs,.slice pM g.mov.length cm,.slice pZ g.zon.length cz],.int .i64 f] w fun e w'=>
  ∃m,e=.returned (.map (some m))∧Below w.heap.size w w'∧w.heap.size≤m∧TabD w' m w'.heap.size (wayG g f):=by
 refine callsIn_wide (n:=5) |>.1 ?_
 have HR:=zh hr;clear hr
 have hns:=hok.ns
 have hmm:= @run_makeMap Tryz.prog
 obtain⟨w1,hins,hm1,hg1⟩:=run_update_int (P:=Tryz.prog) (w:=((w.alloc (.cells #[.int .i64 g.blur,.slice pS g.sta.length cs,.slice pM g.mov.length cm,.slice pZ g.zon.length cz] 38)).alloc (.map #[] 0)).alloc (.cells #[.int .i64 f] 3)) (r:=w.heap.size+1) (l:= []) f (.agg #[.slice (some ⟨w.heap.size+1+1,0,none⟩) 1 1,.int .i64 0]) Tryz.underlying170 Tryz.underlying3
  (MapI.keep (by have:=MapI.new (w.alloc (.cells #[.int .i64 g.blur,.slice pS g.sta.length cs,.slice pM g.mov.length cm,.slice pZ g.zon.length cz] 38));rwa [World.size_alloc]at this) (Below.heap_alloc _ _ _ (by simp)))
 refine callsIn_of_wp_marks Tryz.func94 rfl trivial ?_ rfl
 simp only[Tryz.ntmps94,List.size_toArray,List.length_cons,List.length_nil,Nat.reduceAdd,Nat.reduceSub,Array.replicate_succ,Array.replicate_zero,List.push_toArray,List.append_toArray,List.nil_append,List.cons_append]
 have e1:∀k,k≠w.heap.size+1→w1.heap[k]? =(((w.alloc (.cells #[.int .i64 g.blur,.slice pS g.sta.length cs,.slice pM g.mov.length cm,.slice pZ g.zon.length cz] 38)).alloc (.map #[] 0)).alloc (.cells #[.int .i64 f] 3)).heap[k]? →True:=fun _ _ _=>trivial
 clear e1
 have hs1:w.heap.size+3≤w1.heap.size:=by have:=hg1.size;simpa using this
 have hB1:Below w.heap.size w w1:=Below.grown (w:=((w.alloc (.cells #[.int .i64 g.blur,.slice pS g.sta.length cs,.slice pM g.mov.length cm,.slice pZ g.zon.length cz] 38)).alloc (.map #[] 0)).alloc (.cells #[.int .i64 f] 3)) (by exact zbl) hg1 (by simp[Nat.add_assoc]) (fun r e=>by cases e;omega)
 have hne:∀k,k≠w.heap.size+1→some k≠some (w.heap.size+1):=fun k hk e=>by cases e;exact hk rfl
 have q0:w1.cell? ⟨w.heap.size,0,none⟩=some (.int .i64 g.blur):=hg1.cell (by simp[World.cell?_alloc_lt,cells_new]) (hne w.heap.size (by omega))
 have q1:w1.cell? ⟨w.heap.size,1,none⟩=some (.slice pS g.sta.length cs):=hg1.cell (by simp[World.cell?_alloc_lt,cells_new]) (hne w.heap.size (by omega))
 have q2:w1.cell? ⟨w.heap.size,2,none⟩=some (.slice pM g.mov.length cm):=hg1.cell (by simp[World.cell?_alloc_lt,cells_new]) (hne w.heap.size (by omega))
 have q3:w1.cell? ⟨w.heap.size,3,none⟩=some (.slice pZ g.zon.length cz):=hg1.cell (by simp[World.cell?_alloc_lt,cells_new]) (hne w.heap.size (by omega))
 have q4:w1.cell? ⟨w.heap.size+1+1,0,none⟩=some (.int .i64 f):=hg1.cell (by simp[cells_new]) (hne (w.heap.size+1+1) (by omega))
 have hrs:RS w ⟨pS,pM,pZ,cs,cm,cz⟩ g f (w.heap.size+1) w1.heap.size (w1.heap.size+1) (fun b=>if b=f then some ⟨[f],0⟩else none) true ((w1.alloc (.cells #[.map (some (w.heap.size+1))] 170)).alloc (.cells #[.bool true] 4)):=by
  have hb2:Below w1.heap.size w1 ((w1.alloc (.cells #[.map (some (w.heap.size+1))] 170)).alloc (.cells #[.bool true] 4)):=by exact zbl
  refine⟨Inv.init g f,?_,(hb2.cell (p:=⟨w.heap.size,0,none⟩) (by show w.heap.size<_;omega)).trans q0,(hb2.cell (p:=⟨w.heap.size,1,none⟩) (by show w.heap.size<_;omega)).trans q1,(hb2.cell (p:=⟨w.heap.size,2,none⟩) (by show w.heap.size<_;omega)).trans q2,(hb2.cell (p:=⟨w.heap.size,3,none⟩) (by show w.heap.size<_;omega)).trans q3,by simp[World.cell?_alloc_lt,cells_new],by have:=Boxed.new (w1.alloc (.cells #[.map (some (w.heap.size+1))] 170)) 4 (.bool true);rwa [World.size_alloc]at this,hB1.trans (hb2.mono (by omega)),by omega,by omega,by omega⟩
  refine⟨_,hm1.keep (hb2.block _ (by omega)),fun k=>?_⟩
  by_cases hk:k=f
  ·right
   refine⟨some ⟨w.heap.size+1+1,0,none⟩,1,⟨[f],0⟩,by simp[setV,getV,hk,encRt],by simp[hk],by simp,fun _=>⟨w.heap.size+1+1,0,rfl,by simp;omega,fun i hi j v hv=>?_⟩⟩
   simp at hi
   subst hi
   cases j with
   |zero=>simp at hv;subst hv;exact(hb2.cell (p:=⟨w.heap.size+1+1,0,none⟩) (by show w.heap.size+1+1<_;omega)).trans q4
   |succ j=>simp at hv
  ·left
   exact⟨by simp[setV,getV,hk],by simp[hk]⟩
 have HRS:=zh hrs
 clear hrs hm1 hg1 q0 q1 q2 q3 q4 hne
 gi_wp2
 clear hins hmm
 refine wpIn_loop_ghost_k (fun(k:Nat) (a':Act) (wr:World)=>∃(ds:List Deferred) (u6 u7 u8 u9 u10 u11 u12 u13 u14 u21 u22 u23 u24 u25 u26 u27 u28 u29 u30 u31 u32 u33 u34 u35 u36 u37 u38 u39 u40 u41 u42 u43 u44 u45 u46 u47 u48 u49 u50 u51 u52 u53 u54 u55 u56 u57 u58 u59 u60 u61 u62 u63 u64 u65 u66 u67 u68 u69 u70:Value),(∃(b:Bool) (Ba:Nat) (D:Int→Option Rt) (Ds:List Nat),u6=.pointer (some ⟨Ba,0,none⟩)∧RS w ⟨pS,pM,pZ,cs,cm,cz⟩ g f (w.heap.size+1) w1.heap.size Ba D b wr∧Marks w.heap.size ds Ds wr∧Hid ((b=true∧k=mu g.sta.length D+1)∨(b=false∧Closed g D)))∧a'= {tmps:= #[.agg #[.int .i64 g.blur,.slice pS g.sta.length cs,.slice pM g.mov.length cm,.slice pZ g.zon.length cz],.int .i64 f,.pointer (some ⟨w.heap.size,0,none⟩),undef,.map none,.pointer (some ⟨w1.heap.size,0,none⟩),u6,u7,u8,u9,u10,u11,u12,u13,u14,.map (some (w.heap.size+1)),.int .i64 f,.int .i64 f,.slice (some ⟨w.heap.size+1+1,0,none⟩) 1 1,.agg #[.slice (some ⟨w.heap.size+1+1,0,none⟩) 1 1,.int .i64 0],.map (some (w.heap.size+1)),u21,u22,u23,u24,u25,u26,u27,u28,u29,u30,u31,u32,u33,u34,u35,u36,u37,u38,u39,u40,u41,u42,u43,u44,u45,u46,u47,u48,u49,u50,u51,u52,u53,u54,u55,u56,u57,u58,u59,u60,u61,u62,u63,u64,u65,u66,u67,u68,u69,u70,undef],defers:=ds}) (mu g.sta.length (fun b=>if b=f then some ⟨[f],0⟩else none)+1) ?_ ?_
 ·(repeat apply Exists.intro);refine⟨?_,rfl⟩
  exact⟨true,_,_,[],rfl,HRS.out,Marks.nil _ _,zh (.inl ⟨rfl,rfl⟩)⟩
 ·clear HRS hB1
  intro gk _ wr hinv
  obtain⟨ds,u6,u7,u8,u9,u10,u11,u12,u13,u14,u21,u22,u23,u24,u25,u26,u27,u28,u29,u30,u31,u32,u33,u34,u35,u36,u37,u38,u39,u40,u41,u42,u43,u44,u45,u46,u47,u48,u49,u50,u51,u52,u53,u54,u55,u56,u57,u58,u59,u60,u61,u62,u63,u64,u65,u66,u67,u68,u69,u70,⟨b,Ba,D,Ds,rfl,hrs,hmk,hh⟩,rfl⟩:=hinv
  try dsimp only
  intro J K hJ hK
  have HJ:=zh hJ
  clear hJ
  have hflag:=hrs.flag.cell
  have hfl2:=hrs.flag.frozen
  have hout:=hrs.out
  have HRS2:=zh hrs
  have HMK:=zh hmk
  have hg1:=hrs.g1
  clear hrs hmk
  cases b with
  |false=>
   gi_wp2
   have hcl:Closed g D:=by rcases hh.out with ⟨h1,_⟩|⟨_,h2⟩;exact(by cases h1);exact h2
   have hD:D=wayG g f:=funext fun b=>wayG_eq hok hu ⟨hf0,hf1⟩ HRS2.out.inv hcl
   refine leaves_marks HMK.out fun W' hl=>⟨_,results_tmp rfl _ _ _,w.heap.size+1,rfl,HRS2.out.low.trans (hl.grown fun D hD=>(HMK.out.at_ D hD).1),by omega,?_⟩
   rw[←hD]
   exact(HRS2.out.tab.left HMK.out hl).more (Nat.le_of_eq hl.size.symm)
  |true=>
   have hk0:gk=mu g.sta.length D+1:=by rcases hh.out with ⟨_,h1⟩|⟨h1,_⟩;exact h1;exact(by cases h1)
   have HK0:=zh hk0
   clear hk0 hh
   gi_wp2
   refine wpIn_loop_ghost_k (fun(k:Nat) (a':Act) (wr:World)=>∃(ds:List Deferred) (u7 u8 u9 u10 u11 u12 u13 u14 u25 u26 u27 u28 u29 u30 u31 u32 u33 u34 u35 u36 u37 u38 u39 u40 u41 u42 u43 u44 u45 u46 u47 u48 u49 u50 u51 u52 u53 u54 u55 u56 u57 u58 u59 u60 u61 u62 u63 u64 u65 u66 u67 u68 u69:Value),(∃(j:Nat) (b:Bool) (D':Int→Option Rt) (Ds:List Nat),u25=.int .i64 j∧j≤g.sta.length∧k=g.sta.length-j∧RS w ⟨pS,pM,pZ,cs,cm,cz⟩ g f (w.heap.size+1) w1.heap.size Ba D' b wr∧Marks w.heap.size ds Ds wr∧Hid ((b=false∧D'=D∧∀c:Int,c<j→∀r,D c=some r→∀x∈nbrs g c g.mov,¬worse D x.1.1 (ext r x))∨(b=true∧mu g.sta.length D'<mu g.sta.length D)))∧a'= {tmps:= #[.agg #[.int .i64 g.blur,.slice pS g.sta.length cs,.slice pM g.mov.length cm,.slice pZ g.zon.length cz],.int .i64 f,.pointer (some ⟨w.heap.size,0,none⟩),undef,.map none,.pointer (some ⟨w1.heap.size,0,none⟩),.pointer (some ⟨Ba,0,none⟩),u7,u8,u9,u10,u11,u12,u13,u14,.map (some (w.heap.size+1)),.int .i64 f,.int .i64 f,.slice (some ⟨w.heap.size+1+1,0,none⟩) 1 1,.agg #[.slice (some ⟨w.heap.size+1+1,0,none⟩) 1 1,.int .i64 0],.map (some (w.heap.size+1)),.bool true,.pointer (some ⟨w.heap.size,1,none⟩),.slice pS g.sta.length cs,.int .i64 g.sta.length,u25,u26,u27,u28,u29,u30,u31,u32,u33,u34,u35,u36,u37,u38,u39,u40,u41,u42,u43,u44,u45,u46,u47,u48,u49,u50,u51,u52,u53,u54,u55,u56,u57,u58,u59,u60,u61,u62,u63,u64,u65,u66,u67,u68,u69,u70,undef],defers:=ds}) g.sta.length ?_ ?_
   ·(repeat apply Exists.intro);refine⟨?_,rfl⟩
    exact⟨0,false,D,Ds,rfl,Nat.zero_le _,rfl,HRS2.out.setFlag false,HMK.out.grown (grownBy_setCell' wr Ba (.bool false)) (fun r e=>by cases e;exact HMK.out.notCells HRS2.out.flag),zh (.inl ⟨rfl,rfl,fun c hc r hr=>by have:=((HRS2.out.inv.wk hr).rng ⟨hf0,hf1⟩).1;omega⟩)⟩
   ·clear HRS2 HMK hflag hfl2 hout hg1
    intro gj _ wr2 hinv
    obtain⟨ds,u7,u8,u9,u10,u11,u12,u13,u14,u25,u26,u27,u28,u29,u30,u31,u32,u33,u34,u35,u36,u37,u38,u39,u40,u41,u42,u43,u44,u45,u46,u47,u48,u49,u50,u51,u52,u53,u54,u55,u56,u57,u58,u59,u60,u61,u62,u63,u64,u65,u66,u67,u68,u69,⟨j,b,D',Ds,rfl,hj,rfl,hrs,hmk,hh⟩,rfl⟩:=hinv
    try dsimp only
    intro J2 K2 hJ2 hK2
    have HJ2:=zh hJ2
    clear hJ2
    have hflag:=hrs.flag.cell
    have hfl2:=hrs.flag.frozen
    have hout:=hrs.out
    have HRS2:=zh hrs
    have HMK:=zh hmk
    clear hrs hmk
    by_cases hlt:j<g.sta.length
    ·rcases Tryz.look HRS2.out.tab (j:Int)with ⟨hD,hlk,_⟩|⟨A,c,r,hD,hlc,hints,hlk,_⟩
     ·have HD:=zh hD
      clear hD
      gi_wp2
      refine Handed.intro (g.sta.length-(j+1)) (by omega) (HJ2.out _ _ _ ?_)
      (repeat apply Exists.intro);refine⟨?_,rfl⟩
      refine⟨j+1,b,D',Ds,by go_num,by omega,rfl,HRS2.out.below (by exact zbl),HMK.out.below (by exact zbl),zh ?_⟩
      rcases hh.out with ⟨h1,rfl,hc⟩|h1
      ·refine .inl ⟨h1,rfl,fun c hcl r hr=>?_⟩
       by_cases e:c=j
       ·rw[e,HD.out]at hr;cases hr
       ·exact hc c (by omega) r hr
      ·exact .inr h1
     ·have HD:=zh hD
      have HI:=zh hints
      clear hD hints
      have hG0:=HRS2.out.g0
      have hG1:=HRS2.out.g1
      have hG2:=HRS2.out.g2
      have hG3:=HRS2.out.g3
      have hwl2:w.heap.size<wr2.heap.size:=World.block_lt_of_cell? wr2 _ hG0
      gi_wp2_with (refine⟨trivial,?_⟩;gi_at_call 112;refine(callsIn_wide.2 (next_c _ _ _ _ _ _ g (j:Int) _)).mono ?_;rintro e w' ⟨rfl,rfl⟩)
      obtain⟨W0,hW0⟩:∃W0,W0=((wr2.alloc (.cells #[.slice A r.st.length c,.int .i64 r.n] 168)).alloc (.cells #[.int .i64 g.blur,.slice pS g.sta.length cs,.slice pM g.mov.length cm,.slice pZ g.zon.length cz] 38)).alloc (.cells #[.int .i64 (j:Int)] 3):=⟨_,rfl⟩
      have hB0:Below wr2.heap.size wr2 W0:=by rw[hW0];(repeat first|(with_reducible first|assumption|exact Below.refl _ _|refine Bl.drew ?_|refine Bl.drewN ?_ _|refine Bl.alloc ?_ _|refine Bl.set ?_ _ ?_)|(with_reducible apply Bl.step';(focus(with_reducible assumption)))|omega|(focus(simp;done))|(focus(simp;omega)))
      have hsz:W0.heap.size=wr2.heap.size+3:=by rw[hW0];simp
      have hba:=HRS2.out.flag.lt
      have hlow:=HRS2.out.low.size
      have hst:=next_stopsA 4 (by decide) pS pM pZ cs cm cz g (j:Int) (wr2.heap.size+1) (wr2.heap.size+1+1) w.heap.size hok (by omega) (by omega) W0 (by omega) (by omega) (by omega) (by rw[hW0];simp[World.cell?_alloc_lt,cells_new]) (by rw[hW0];simp[World.cell?_alloc_lt,cells_new]) (by rw[hW0];simp[World.cell?_alloc_lt,cells_new]) (by rw[hW0];simp[World.cell?_alloc_lt,cells_new]) (by rw[hW0];simp[cells_new])
       (HR.out.belowB (w0:=w) (HRS2.out.low.trans (hB0.mono hlow)) (Nat.le_refl _))
      have hRI:RI w ⟨pS,pM,pZ,cs,cm,cz⟩ g f (w.heap.size+1) w1.heap.size Ba (∀c:Int,c<j→∀r,D c=some r→∀x∈nbrs g c g.mov,¬worse D x.1.1 (ext r x)) D j r A c wr2.heap.size ds Ds W0.heap.size [] D' b W0:=by
       refine⟨HRS2.out.below hB0,HD.out,by rw[hW0];simp[World.cell?_alloc_lt,cells_new],by rw[hW0];simp[World.cell?_alloc_lt,cells_new],Rw.more (Rw.belowB (w0:=wr2) HI.out hB0 (Nat.le_refl _)) hB0.size,HMK.out.below hB0,Nat.le_refl _,?_⟩
       rcases hh.out with ⟨h1,h2,h3⟩|h1
       ·exact .inl ⟨h1,h3,h2,by simp⟩
       ·exact .inr h1
      have hDs:∀D∈Ds,D<W0.heap.size:=fun D hD=>by have:=HMK.out.lt hD;omega
      rw[←hW0]
      refine wpIn_rangeFunc_ownG rfl (by decide) (gf:=163) (lb:= #[.pointer (some ⟨wr2.heap.size+1,0,none⟩),.pointer (some ⟨wr2.heap.size+1+1,0,none⟩)]) rfl trivial (enters_of Tryz.func163 (by kernel_rfl) rfl)
       hst KpN.t (kpN_b (by omega) (by omega) (by omega)) (Below.refl _ _) (fun _=>rfl)
       (fun pre W=>∃D2 b2,RI w ⟨pS,pM,pZ,cs,cm,cz⟩ g f (w.heap.size+1) w1.heap.size Ba (∀c:Int,c<j→∀r,D c=some r→∀x∈nbrs g c g.mov,¬worse D x.1.1 (ext r x)) D j r A c wr2.heap.size ds Ds W0.heap.size pre D2 b2 W) (fun _ _ _=>False)
       (RI.ownFrom hDs hba (by omega)) (fun _ _ _ _ _ hs _ _=>hs) ⟨D',b,hRI⟩ ?a1 ?assign ?body ?done ?stop
      case assign=>
       intro l x W K hK
       gi_wp2
       exact hK
      case body=>
       intro l pre x W hI _
       exact routes_body w ⟨pS,pM,pZ,cs,cm,cz⟩ g f hok hf0 hf1 (w.heap.size+1) w1.heap.size Ba (∀c:Int,c<j→∀r,D c=some r→∀x∈nbrs g c g.mov,¬worse D x.1.1 (ext r x)) D j r A c wr2.heap.size (wr2.heap.size+1) (wr2.heap.size+1+1) ds Ds W0.heap.size hba (by omega) (by omega) (by omega) l pre x W hI _ _ _ _ _ _ _ _ _ _ _ _ _ _ _ _ _ _ _ _ _ _ _ _ _ _ _ _ _ _ _ _ _ _ _ _ _ _ _ _ _ _ _ _ _ _ _ _ _ _ _ _ _ _ _ _ _ _ _ _ _ _ _ _ _ _ _
      case done=>
       rintro D3 ys W hD3 hys ⟨D2,b2,hri⟩ hK3
       have HRI:=zh hri
       clear hri
       gi_wp2
       refine Handed.intro (g.sta.length-(j+1)) (by omega) (HJ2.out _ _ _ ?_)
       (repeat apply Exists.intro);refine⟨?_,rfl⟩
       refine⟨j+1,b2,D2,D3::Ds,by go_num,by omega,rfl,HRI.out.rs,HRI.out.mks.cons (fun hm=>by have:=hDs _ hm;omega) (by omega) hK3,zh ?_⟩
       rcases HRI.out.pr with ⟨h1,h6,h2,h3⟩|h1
       ·refine .inl ⟨h1,h2,fun c hcl r' hr' x hx=>?_⟩
        by_cases e:c=j
        ·subst e
         have hdj:=HRI.out.dj
         rw[h2,hr']at hdj
         cases hdj
         rw[←hys]at hx
         obtain⟨y,hy,rfl⟩:=List.mem_map.1 hx
         exact h3 y hy
        ·exact h6 c (by omega) r' hr' x hx
       ·exact .inr h1
      case stop=>
       rintro D3 c3 pre W _ _ h _
       exact h.elim
    ·have hjn:j=g.sta.length:=by omega
     subst hjn
     gi_wp2
     rcases hh.out with ⟨rfl,rfl,hc⟩|⟨rfl,h2⟩
     ·refine Handed.intro 0 (by rw[HK0.out];omega) (HJ.out _ _ _ ?_)
      (repeat apply Exists.intro);refine⟨?_,rfl⟩
      exact⟨false,wr2.heap.size,D',Ds,rfl,HRS2.out.newFlag false,HMK.out.below (by exact zbl),zh (.inr ⟨rfl,fun a r hr x hx=>hc a ((HRS2.out.inv.wk hr).rng ⟨hf0,hf1⟩).1.2 r hr x hx⟩)⟩
     ·refine Handed.intro (mu g.sta.length D'+1) (by rw[HK0.out];omega) (HJ.out _ _ _ ?_)
      (repeat apply Exists.intro);refine⟨?_,rfl⟩
      exact⟨true,wr2.heap.size,D',Ds,rfl,HRS2.out.newFlag true,HMK.out.below (by exact zbl),zh (.inl ⟨rfl,rfl⟩)⟩
end Go.Proofs.YtehnikhicnnnhaaGreatDoor
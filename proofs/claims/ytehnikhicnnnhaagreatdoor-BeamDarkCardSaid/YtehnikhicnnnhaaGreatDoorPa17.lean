/- The blocks in which a field's lists lie. | stepped. | names, Lit. | Dark, Stepped, Deadline. | A mirror stored into a list of mirrors that the call owns. -/
import Derived.Test.YtehnikhicnnnhaaGreatDoorPa16
import Derived.Test.YtehnikhicnnnhaaGreatDoorPa58
import Derived.Laws.EntriesVeiled
namespace Go.Proofs.YtehnikhicnnnhaaGreatDoor
open Go.RowKit
structure Blks(P:Nat→Prop)(A:Option Addr)(xs:List MA):Prop where
 row:xs≠ []→∀a,A=some a→P a.block
 way:∀x∈xs,x.m.way≠ []→∀a,x.A=some a→P a.block
abbrev Fresh(B:Nat)(A:Option Addr)(xs:List MA):Prop:=Blks (fun b=>B≤b) A xs
theorem Blks.imp{P Q:Nat→Prop}{A:Option Addr}{xs:List MA}(h:Blks P A xs)(hb:∀b,P b→Q b):Blks Q A xs:=
 ⟨fun hn a ha=>hb _ (h.row hn a ha),fun x hx hn a ha=>hb _ (h.way x hx hn a ha)⟩
theorem Blks.and{P Q:Nat→Prop}{A:Option Addr}{xs:List MA}(h:Blks P A xs)(k:Blks Q A xs):Blks (fun b=>P b∧Q b) A xs:=
 ⟨fun hn a ha=>⟨h.row hn a ha,k.row hn a ha⟩,fun x hx hn a ha=>⟨h.way x hx hn a ha,k.way x hx hn a ha⟩⟩
theorem FldR.blks{w:World}{B c:Nat}{A:Option Addr}{xs:List MA}(h:FldR w B A c xs):Blks (fun b=>b<B) A xs:=
 ⟨fun hn a ha=>by
   obtain⟨b,off,e,hb,_⟩:=h.rw_ (by simpa using hn)
   rw[ha]at e;cases e;exact hb,fun x hx hn a ha=>by
   obtain⟨b,off,e,hb,_⟩:=(h.each x hx).way.at hn
   rw[ha]at e;cases e;exact hb⟩
theorem FldR.setc{w:World}{B c:Nat}{A:Option Addr}{xs:List MA}(h:FldR w B A c xs){p:Addr}(v:Value)(hf:Blks (fun b=>b≠p.block) A xs):FldR (w.setCell p v) B A c xs:=by
 refine⟨fun hn=>?_,fun x hx=>⟨fun hn=>?_,(h.each x hx).cap⟩,h.cap⟩
 ·obtain⟨b,off,e,hb,hc⟩:=h.rw_ hn
  refine⟨b,off,e,hb,fun k hk j u hj=>(World.cell?_setCell_other w p _ v (fun e2=>?_)).trans (hc k hk j u hj)⟩
  exact hf.row (by simpa using hn) _ e (by rw[e2])
 ·obtain⟨b,off,e,hb,hc⟩:=(h.each x hx).way hn
  refine⟨b,off,e,hb,fun k hk j u hj=>(World.cell?_setCell_other w p _ v (fun e2=>?_)).trans (hc k hk j u hj)⟩
  exact hf.way x hx (by simpa using hn) _ e (by rw[e2])
theorem FldR.set3{w:World}{B c b:Nat}{A:Option Addr}{xs:List MA}(h:FldR w B A c xs)(v0 v1 v2:Value)(hf:Blks (fun d=>d≠b) A xs):FldR (((w.setCell ⟨b,0,none⟩ v0).setCell ⟨b,1,none⟩ v1).setCell ⟨b,2,none⟩ v2) B A c xs:=
 ((h.setc (p:=⟨b,0,none⟩) v0 hf).setc (p:=⟨b,1,none⟩) v1 hf).setc (p:=⟨b,2,none⟩) v2 hf
theorem OwnM.fresh{w:World}{base c:Nat}{A:Option Addr}{ys:List MA}(h:OwnM w base A c ys)(hs:∀y∈ys,∀a,y.A=some a→base≤a.block):Fresh base A ys:=
 ⟨fun hn a ha=>by
   subst ha
   obtain⟨g,cap,hv,hb,hlt⟩:=h.row.form (by cases ys with|nil=>exact absurd rfl hn|cons a l=>simp)
   cases hv
   exact hb,fun y hy _ a ha=>hs y hy a ha⟩
theorem heap_two(w:World)(x y:Obj):((w.alloc x).alloc y).heap[w.heap.size+1]? =some y:=by
 have:=heap_alloc_new (w.alloc x) y
 rwa [World.size_alloc]at this
set_option maxRecDepth 100000 in
set_option maxHeartbeats 2000000 in
theorem stepped_c(a:GA)(g:Grd)(tk ls:Int)(A:Option Addr)(c:Nat)(xs:List MA)(w:World)(hok:okG g)(hu:Uniq g.mov)(hf0:okFld g (fldOf tk ls xs))(htk:tk<20000000)(hr:GridR w w.heap.size a g)(hf:FldR w w.heap.size A c xs):
 Calls Tryz.prog 118 #[(.agg #[.int .i64 g.blur,.slice a.pS g.sta.length a.cs,.slice a.pM g.mov.length a.cm,.slice a.pZ g.zon.length a.cz]),(.agg #[.int .i64 tk,.int .i64 ls,.slice A xs.length c])] w fun e w'=>∃A' c' ys,e=.returned (.agg #[.int .i64 (tk+1),.int .i64 ls,.slice A' ys.length c'])∧fldOf (tk+1) ls ys=stepG g (fldOf tk ls xs)∧FldR w' w'.heap.size A' c' ys∧Fresh w.heap.size A' ys∧Below w.heap.size w w':=by
 have hn:xs.length≤16:=by have:=hf0.n;simpa [fldOf]using this
 have hm0:∀x∈xs,okMir g x.m:=fun x hx=>hf0.mir x.m (List.mem_map_of_mem hx)
 have hh0:∀x∈xs,0≤x.m.heard∧x.m.heard≤tk:=fun x hx=>hf0.heard x.m (List.mem_map_of_mem hx)
 have ht0:0≤tk:=hf0.tick0
 have htw:IntKind.i64.wrap (tk+1)=tk+1:=IntWalk.i64_in _ (by omega)
 obtain⟨W0,hW0⟩:∃W0,W0=((w.alloc (.cells #[.int .i64 g.blur,.slice a.pS g.sta.length a.cs,.slice a.pM g.mov.length a.cm,.slice a.pZ g.zon.length a.cz] 38)).alloc (.cells #[.int .i64 tk,.int .i64 ls,.slice A xs.length c] 72)).alloc (.cells #[.int .i64 0,.int .i64 0,.slice none 0 0] 72):=⟨_,rfl⟩
 have hB0:Below w.heap.size w W0:=by rw[hW0];exact zbl
 have hsz:W0.heap.size=w.heap.size+3:=by rw[hW0];simp
 have kg:W0.heap[w.heap.size]? =some (.cells #[.int .i64 g.blur,.slice a.pS g.sta.length a.cs,.slice a.pM g.mov.length a.cm,.slice a.pZ g.zon.length a.cz] 38 (0,0)):=by rw[hW0];exact heap_fst _ _ _ _
 have k0:W0.heap[w.heap.size+1]? =some (.cells #[.int .i64 tk,.int .i64 ls,.slice A xs.length c] 72 (0,0)):=by rw[hW0];exact heap_mid _ _ _ _
 have k1:W0.heap[w.heap.size+1+1]? =some (.cells #[.int .i64 0,.int .i64 0,.slice none 0 0] 72 (0,0)):=by rw[hW0];exact heap_lst _ _ _ _
 have HG0:=zh hr
 have HFW:=zh ((hf.belowB (w0:=w) hB0 (Nat.le_refl _)).more hB0.size)
 have hw1000:∀x∈xs,x.m.way.length≤1000:=fun x hx=>by have:=(hm0 x hx).len;omega
 have HW1:=zh hw1000
 have HM0:=zh hm0
 have HH0:=zh hh0
 (obtain⟨q0,qf0,q1,qf1,q2,qf2⟩:=cv3 k0)
 have HKG:=zh kg
 have HK1:=zh k1
 have HSZ:=zh hsz
 have HOF:=zh hf0
 have hn1:xs.length≤1000:=by omega
 clear hr hf kg k0 k1 hw1000 hm0 hh0 hf0
 go_enter Tryz.func118,Tryz.ntmps118
 go_wp2_with (rw[←hW0];go_at_call 116;refine(own_c tk ls A c xs _ hn1 HW1.out HFW.out).mono ?_;rintro e w1 ⟨A1,c1,ys,rfl,hys,hown,hsp,hb1⟩;(have HYS:=zh hys);(have HOW:=zh hown);(have HSP:=zh hsp);clear hys hown hsp)
 have hyl:ys.length=xs.length:=by have:=congrArg List.length HYS.out;simpa using this
 have hws1:=hb1.size
 obtain⟨W2,hW2⟩:∃W2,W2=(w1.alloc (.cells #[.int .i64 (tk+1),.int .i64 ls,.slice A1 ys.length c1] 72)).alloc (.cells #[.func (.func 139) #[] #[]] 262):=⟨_,rfl⟩
 rw[←hW2]
 have hB2:Below w1.heap.size w1 W2:=by rw[hW2];exact zbl
 have hsz2:W2.heap.size=w1.heap.size+2:=by rw[hW2];simp
 have hbW2:Below w.heap.size w W2:=hB0.trans ((hb1.trans (hB2.mono hws1)).mono (by omega))
 have o2:W2.heap[w1.heap.size]? =some (.cells #[.int .i64 (tk+1),.int .i64 ls,.slice A1 ys.length c1] 72 (0,0)):=by rw[hW2];exact(Below.heap_alloc _ _ _ (by simp)).trans (heap_alloc_new w1 _)
 have s2:W2.heap[w1.heap.size+1]? =some (.cells #[.func (.func 139) #[] #[]] 262 (0,0)):=by
  rw[hW2]
  have:=heap_alloc_new (w1.alloc (.cells #[.int .i64 (tk+1),.int .i64 ls,.slice A1 ys.length c1] 72)) (.cells #[.func (.func 139) #[] #[]] 262)
  rwa [World.size_alloc]at this
 have g2:W2.heap[w.heap.size]? =some (.cells #[.int .i64 g.blur,.slice a.pS g.sta.length a.cs,.slice a.pM g.mov.length a.cm,.slice a.pZ g.zon.length a.cz] 38 (0,0)):=((hB2.block w.heap.size (by omega)).trans (hb1.block w.heap.size (by omega))).trans HKG.out
 have r2:W2.heap[w.heap.size+1+1]? =some (.cells #[.int .i64 0,.int .i64 0,.slice none 0 0] 72 (0,0)):=((hB2.block _ (by omega)).trans (hb1.block _ (by omega))).trans HK1.out
 have HFY:=zh ((HOW.out.fld.belowB (w0:=w1) hB2 (Nat.le_refl _)).more hB2.size)
 have hG2:GridR W2 W2.heap.size a g:=(HG0.out.belowB (w0:=w) hbW2 (Nat.le_refl _)).more hbW2.size
 have hyx:∀y∈ys,∃x∈xs,y.m=x.m:=fun y hy=>by
  have:y.m∈ys.map MA.m:=List.mem_map_of_mem hy
  rw[HYS.out]at this
  obtain⟨x,hx,e⟩:=List.mem_map.1 this
  exact⟨x,hx,e.symm⟩
 (obtain⟨e0,e1,e2,e3⟩:=cg4 g2)
 have p0:W2.cell? ⟨w1.heap.size,0,none⟩=some (.int .i64 (tk+1)):=by rw[cell_of_row W2 _ 0 _ _ _ o2];rfl
 have p1:W2.cell? ⟨w1.heap.size,1,none⟩=some (.int .i64 ls):=by rw[cell_of_row W2 _ 1 _ _ _ o2];rfl
 have p2:W2.cell? ⟨w1.heap.size,2,none⟩=some (.slice A1 ys.length c1):=by rw[cell_of_row W2 _ 2 _ _ _ o2];rfl
 have p3:W2.cell? ⟨w1.heap.size+1,0,none⟩=some (.func (.func 139) #[] #[]):=by rw[cell_of_row W2 _ 0 _ _ _ s2];rfl
 have HMP:=zh (mappedM_c (fun m A=>m.way≠ []→∀a,A=some a→a.block≠w1.heap.size∧a.block≠w.heap.size+1+1∧w.heap.size≤a.block) (stepM g (fldOf tk ls xs)) 168 #[] #[.pointer (some ⟨w1.heap.size,0,none⟩),.pointer (some ⟨w.heap.size,0,none⟩),.pointer (some ⟨w1.heap.size+1,0,none⟩)] A1 c1 ys W2 (by omega) enters_stp1 HFY.out (fun y hy W hW=>by
  obtain⟨x,hx,ex⟩:=hyx y hy
  have hmy:=HFY.out.each y hy
  refine(stp1_c a g (fldOf tk ls xs) y.m y.A y.c w1.heap.size w.heap.size (w1.heap.size+1) W hok hu (by rw[ex];exact HM0.out x hx) ((hG2.belowB (w0:=W2) hW (Nat.le_refl _)).more hW.size) ((hmy.belowB (w0:=W2) hW (Nat.le_refl _)).more hW.size) ht0 (by show tk≤_;omega) (by rw[ex];exact HH0.out x hx)
   ((hW.cell (p:=⟨w.heap.size,0,none⟩) (by show w.heap.size<_;omega)).trans e0) ((hW.cell (p:=⟨w.heap.size,1,none⟩) (by show w.heap.size<_;omega)).trans e1) ((hW.cell (p:=⟨w.heap.size,2,none⟩) (by show w.heap.size<_;omega)).trans e2) ((hW.cell (p:=⟨w.heap.size,3,none⟩) (by show w.heap.size<_;omega)).trans e3)
   ((hW.cell (p:=⟨w1.heap.size,0,none⟩) (by show w1.heap.size<_;omega)).trans p0) ((hW.cell (p:=⟨w1.heap.size,1,none⟩) (by show w1.heap.size<_;omega)).trans p1) ((hW.cell (p:=⟨w1.heap.size+1,0,none⟩) (by show w1.heap.size+1<_;omega)).trans p3)).mono ?_
  rintro e w' ⟨A',c',rfl,h1,h2,h3⟩
  have hmy1:=HOW.out.each y hy
  refine⟨A',c',rfl,h1,fun hne b hb=>?_,fun hne b hb=>?_,h3⟩
  ·rcases h2 with ⟨h4,h5⟩|h4
   ·left
    obtain⟨b',off',e',hb',_⟩:=hmy.way.at (by rw[←h5];exact hne)
    rw[h4,e']at hb
    cases hb
    exact hb'
   ·exact .inr (h4 b hb)
  ·rcases h2 with ⟨h4,h5⟩|h4
   ·obtain⟨b',off',e',hb',_⟩:=hmy1.way.at (by rw[←h5];exact hne)
    have h6:=HSP.out y hy b (by rw[←h4];exact hb)
    rw[h4,e']at hb
    cases hb
    simp only at h6 ⊢
    refine⟨?_,?_,?_⟩<;>omega
   ·have h6:=h4 b hb
    have h7:=hW.size
    refine⟨?_,?_,?_⟩<;>omega))
 have HO2:=zh o2
 have HR2:=zh r2
 clear hW2 o2 s2 g2 r2 hyx hG2 q0 q1 q2 qf0 qf1 qf2
 go_wp2_with (refine HMP.out.mono ?_;rintro e w3 ⟨A',c',zs,rfl,hzs,hown,hss,hb3⟩;(have HSS:=zh hss);clear hss;(have HZS:=zh hzs);(have HOZ:=zh hown);clear hzs hown;(have j0:=(hb3.block w1.heap.size (by omega)).trans HO2.out);(have j1:=(hb3.block (w.heap.size+1+1) (by omega)).trans HR2.out);(obtain⟨r0,rf0,r1,rf1,r2,rf2⟩:=cv3 j0);(obtain⟨d0,df0,d1,df1,d2,df2⟩:=cv3 j1);(have HJ1:=zh j1);(have HJ0:=zh j0);clear j0 j1)
 refine bodyPost_ret (Tryz.res_fld rfl _ _ rfl (set3_block ((heap_setCell_other _ _ _ _ (by first|(simp;done)|(simp;omega))).trans HJ1.out))) rfl ?_
 have hbw3:Below w.heap.size w w3:=hbW2.trans (hb3.mono (by omega))
 have hfin:Below w.heap.size w (((((w3.setCell ⟨w1.heap.size,2,none⟩ (.slice A' zs.length c')).setCell ⟨w.heap.size+1+1,0,none⟩ (.int .i64 (tk+1))).setCell ⟨w.heap.size+1+1,1,none⟩ (.int .i64 ls)).setCell ⟨w.heap.size+1+1,2,none⟩ (.slice A' zs.length c'))):=
  Below.setCell (Below.setCell (Below.setCell (Below.setCell hbw3 (p:=⟨w1.heap.size,2,none⟩) (by show w.heap.size≤w1.heap.size;omega) _) (p:=⟨w.heap.size+1+1,0,none⟩) (by show w.heap.size≤w.heap.size+1+1;omega) _) (p:=⟨w.heap.size+1+1,1,none⟩) (by show w.heap.size≤w.heap.size+1+1;omega) _) (p:=⟨w.heap.size+1+1,2,none⟩) (by show w.heap.size≤w.heap.size+1+1;omega) _
 refine⟨A',c',zs,rfl,?_,?_,?_,hfin⟩
 ·unfold fldOf stepG
  simp only
  rw[HZS.out,HYS.out]
  rfl
 ·have hk:∀(W:World) (b o:Nat) (v:Value),(b=w1.heap.size∨b=w.heap.size+1+1)→OwnM W W2.heap.size A' c' zs→OwnM (W.setCell ⟨b,o,none⟩ v) W2.heap.size A' c' zs:=fun W b o v hb h=>
   h.kept (grownBy_setCellO _ _ _ _) (fun d hd e=>by
    cases hd
    have:=(World.ownsRow.lt h.row d.block rfl).1
    cases e;omega) (fun y hy hne a ha e=>by have:=HSS.out y hy hne a ha;cases e;omega)
  exact(hk _ _ _ _ (.inr rfl) (hk _ _ _ _ (.inr rfl) (hk _ _ _ _ (.inr rfl) (hk _ _ _ _ (.inl rfl) HOZ.out)))).fld
 ·refine⟨fun hn a ha=>?_,fun y hy hne a ha=>(HSS.out y hy hne a ha).2.2⟩
  subst ha
  obtain⟨gb,cap,hv,hgb,hglt⟩:=HOZ.out.row.form (by cases zs with|nil=>exact absurd rfl hn|cons a l=>simp)
  cases hv
  have:W2.heap.size≤gb:=hgb
  show w.heap.size≤gb
  omega
theorem Tryz.infoStr:(Tryz.prog.info? 9).map (fun i=>(i.zero,i.size,i.bytes))=some (some (.string ⟨#[]⟩),1,16):=by kernel_rfl
def OwnS(w:World)(base:Nat)(v:Value)(xs:List ByteArray):Prop:=w.ownsRow base 9 1 v xs.length (xs.map Value.string)
theorem OwnS.nil_(w:World)(base:Nat):OwnS w base (.slice none 0 0) []:=World.ownsRow_nil _ _ _ _
theorem OwnS.alloc{w:World}{base:Nat}{v:Value}{xs:List ByteArray}(h:OwnS w base v xs)(o:Obj):OwnS (w.alloc o) base v xs:=World.ownsRow.alloc h o
theorem OwnS.below{w w':World}{base:Nat}{v:Value}{xs:List ByteArray}(h:OwnS w base v xs)(hb:Below w.heap.size w w'):OwnS w' base v xs:=
 World.ownsRow.kept h (row:=none) (grown_of hb) (by cases v.ownBlock<;>simp)
theorem OwnS.mono{w:World}{base base':Nat}{v:Value}{xs:List ByteArray}(h:OwnS w base v xs)(hb:base'≤base):OwnS w base' v xs:=ownsRow_mono h hb
theorem OwnS.app{w:World}{base:Nat}{v:Value}{xs:List ByteArray}{k:ByteArray}(h:w.ownsRow base 9 1 v (xs.length+1) (xs.map Value.string++ [.string k])):OwnS w base v (xs++ [k]):=by
 unfold OwnS;simpa using h
theorem OwnS.sl{w:World}{base:Nat}{v:Value}{xs:List ByteArray}(h:OwnS w base v xs):∃A c,v=.slice A xs.length c∧xs.length≤c∧StrsR w w.heap.size A xs∧∀a,A=some a→base≤a.block∧a.block<w.heap.size:=by
 rcases h.2 with ⟨hv,hn⟩|⟨g,cap,cur,hv,hb,hg,hc,_⟩
 ·exact⟨none,0,by rw[hv,hn],by omega,fun hne=>absurd (List.eq_nil_of_length_eq_zero hn) (by intro e;rw[e]at hne;exact hne rfl),fun a ha=>by cases ha⟩
 ·subst hv
  have hlt:g<w.heap.size:=(Array.getElem?_eq_some_iff.1 hg).1
  refine⟨some ⟨g,0,none⟩,cap,rfl,hc,fun hne=>⟨g,0,rfl,hlt,fun k hk j v hj=>?_⟩,fun a ha=>by cases ha;exact⟨hb,hlt⟩⟩
  rw[List.length_map]at hk
  rw[List.getElem_map]at hj
  cases j with
  |succ j=>simp at hj
  |zero=>
   simp only[List.getElem?_cons_zero,Option.some.injEq]at hj
   subst hj
   have:=h.cells (g:=g) rfl k (.string xs[k]) (by simp[hk])
   rw[add0]at this
   simpa using this
def nmsP(p:MA→Bool)(xs:List MA):List ByteArray:=(xs.filter p).map fun x=>x.m.name
theorem nmsP_succ{p:MA→Bool}{xs:List MA}{k:Nat}(hk:k<xs.length):nmsP p (xs.take (k+1))=nmsP p (xs.take k)++(if p xs[k]then [xs[k].m.name]else []):=by
 unfold nmsP
 rw[List.take_succ_eq_append_getElem hk,List.filter_append,List.map_append]
 congr 1
 cases h:p xs[k]<;>simp[h]
theorem nmsP_len(p:MA→Bool)(xs:List MA):(nmsP p xs).length≤xs.length:=by
 unfold nmsP;rw[List.length_map];exact List.length_filter_le _ _
set_option maxRecDepth 100000 in
set_option maxHeartbeats 2000000 in
theorem names_c(p:MA→Bool)(gf:Nat)(cap:Array Value)(tk ls:Int)(A:Option Addr)(c:Nat)(xs:List MA)(w:World)(hl:xs.length≤1000)(hen:∀args w,(callFunc gf args).run Tryz.prog w=.ok (.enter gf args) w)(hf:FldR w w.heap.size A c xs)
 (hcall:∀x∈xs,∀W,Below w.heap.size w W→Calls Tryz.prog gf (#[(.agg #[.string x.m.name,.string x.m.sec,.int .i64 x.m.loc,.slice x.A x.m.way.length x.c,.int .i64 x.m.left,.int .i64 x.m.heard])]++cap) W fun e W'=>e=.returned (.bool (p x))∧Below W.heap.size W W'):
 Calls Tryz.prog 126 #[(.agg #[.int .i64 tk,.int .i64 ls,.slice A xs.length c]),.func (.func gf) #[] cap] w fun e w'=>∃v,e=.returned v∧OwnS w' w.heap.size v (nmsP p xs)∧Below w.heap.size w w':=by
 obtain⟨i0,hi,hz0,hz1,hz2⟩:=info_parts Tryz.infoStr
 have HR:=zh hf;clear hf
 have HC:=zh hcall;clear hcall
 go_enter Tryz.func126,Tryz.ntmps126
 go_wp2_with fail
 go_loopw [5,11] (fun v i wr=>∃k:Nat,k≤xs.length∧i=.int .i64 k∧OwnS wr w.heap.size v (nmsP p (xs.take k))∧Below w.heap.size w wr) (fun _ i _=>xs.length-(intOf i).toNat)
 case atStart=>exact⟨0,Nat.zero_le _,rfl,OwnS.nil_ _ _,by exact zbl⟩
 case round=>
  obtain⟨k,hk,rfl,hown,hb⟩:=hrel
  have hbs:=hb.size
  by_cases hlt:k<xs.length
  ·obtain⟨x,hx⟩:∃x,x=xs[k]:=⟨_,rfl⟩
   have hxm:x∈xs:=by rw[hx];exact List.getElem_mem hlt
   have HF:=zh (HR.out.belowB (w0:=w) hb (Nat.le_refl _))
   obtain⟨b,off,rfl,hbl,c0,c1,c2,c3,c4,c5⟩:=HF.out.rw_.get6 (k:=k) (by simpa using hlt) (by rw[List.getElem_map,←hx];rfl)
   have HQ:=zh (HC.out x hxm)
   obtain⟨nl,hnl⟩:∃nl,nl=nmsP p (xs.take k):=⟨_,rfl⟩
   have hnn:nl.length≤1000:=by rw[hnl];have:=nmsP_len p (xs.take k);rw[List.length_take]at this;omega
   have hst:nmsP p (xs.take (k+1))=nl++(if p x then [x.m.name]else []):=by rw[nmsP_succ hlt,←hnl,hx]
   rw[←hnl]at hown
   have HST:=zh hst
   clear hx hxm hnl hst
   obtain⟨m,mA,mc⟩:=x
   simp only at c0 c1 c2 c3 c4 c5 HQ HST
   cases hp:p ⟨m,mA,mc⟩with
   |false=>
    rw[hp]at HST HQ
    go_wp2_with (refine(HQ.out _ (by exact zbl)).mono ?_;rintro e w2 ⟨rfl,hb2⟩)
    go_roundw
    case rel=>exact⟨k+1,by omega,by go_num,by rw[HST.out];simpa using(hown.alloc _).below hb2,by exact zbl⟩
    case measure=>simp[intOf];omega
   |true=>
    rw[hp]at HST HQ
    go_wp2_with (first|(refine(HQ.out _ (by exact zbl)).mono ?_;rintro e w2 ⟨rfl,hb2⟩;(have y0:w2.cell? ⟨wr.heap.size,0,none⟩=some (.string m.name):=(hb2.cell (p:=⟨wr.heap.size,0,none⟩) (by simp)).trans (by simp[cells_new])))|(at_builtin;refine wpList_append_own _ rfl _ _ 90 rfl w.heap.size 9 i0 (.string ⟨#[]⟩) 1 16 Tryz.underlying90 hi hz0 hz1 hz2 rfl (by decide) _ _ _ rfl (((hown.alloc _).below hb2).alloc _) ⟨w2.heap.size,0,none⟩ 1 1 [.string m.name] rfl rfl ?c1 ?c2 ?c3 ?c4 ?c5 ?_))
    case c1=>
     intro j u hj
     match j,hj with
     |0,hj=>simp at hj;subst hj;simp[Addr.add,cells_new]
    case c2=>intro u hu;simp at hu;subst hu;rfl
    case c3=>unfold maxLen;omega
    case c4=>omega
    case c5=>have:=hb2.size;simp at this ⊢;omega
    intro v' w4 hown' hgrow _
    go_wp2_with fail
    go_roundw
    case rel=>exact⟨k+1,by omega,by go_num,by rw[HST.out];exact OwnS.app hown',Below.grown (by exact zbl) hgrow (by have:=hb2.size;simp at this ⊢;omega) (fun j e=>(World.ownsRow.lt hown j e).1)⟩
    case measure=>simp[intOf];omega
  ·go_wp2_with fail
   go_ret
   have hkl:k=xs.length:=by omega
   subst hkl
   rw[List.take_length]at hown
   exact⟨_,rfl,hown,hb⟩
theorem enters_lit1(args:Array Value)(w:World):(callFunc 127 args).run Tryz.prog w=.ok (.enter 127 args) w:=
 enters_of Tryz.func127 (by kernel_rfl) rfl args w
theorem enters_sec1(args:Array Value)(w:World):(callFunc 182 args).run Tryz.prog w=.ok (.enter 182 args) w:=
 enters_of Tryz.func182 (by kernel_rfl) rfl args w
def litM(g:Grd)(m:Mir):Bool:=decide (m.way= [])&&sEq (kindG g m.loc) kFocus
set_option maxHeartbeats 1000000 in
theorem lit1_c(a:GA)(g:Grd)(m:Mir)(A:Option Addr)(c gb:Nat)(w:World)(hok:okG g)(hl:0≤m.loc∧m.loc<g.sta.length)(hr:GridR w w.heap.size a g)
 (g1:w.cell? ⟨gb,1,none⟩=some (.slice a.pS g.sta.length a.cs)):
 Calls Tryz.prog 127 #[(.agg #[.string m.name,.string m.sec,.int .i64 m.loc,.slice A m.way.length c,.int .i64 m.left,.int .i64 m.heard]),.pointer (some ⟨gb,0,none⟩)] w fun e w'=>e=.returned (.bool (litM g m))∧Below w.heap.size w w':=by
 have hgb:=World.block_lt_of_cell? w ⟨gb,1,none⟩ g1
 simp only at hgb
 have hns:=hok.ns
 by_cases hw:m.way= []
 ·obtain⟨k,hk⟩:∃k:Nat,m.loc=k:=⟨m.loc.toNat,by omega⟩
  have hkl:k<g.sta.length:=by omega
  have hwl:m.way.length=0:=by rw[hw];rfl
  obtain⟨b,off,hA,hbl,d0,d1,d2,d3⟩:=hr.sta.get4 (k:=k) (by simpa using hkl) (by rw[List.getElem_map];rfl)
  have hkd:=kind_at hkl
  rw[←hk]at hkd
  rw[←hkd]at d1
  have hst:=zh (show litM g m=sEq (kindG g m.loc) kFocus by unfold litM;rw[decide_eq_true hw];rfl)
  rw[hk,hwl]
  clear hr hw hkd d0 d2 d3
  go_enter Tryz.func127,Tryz.ntmps127
  go_wp2_with fail
  go_ret
  exact⟨ret_bool (by rw[hst.out,hk];exact kFo_eq _),by exact zbl⟩
 ·obtain⟨v,tl,hv⟩:∃v tl,m.way=v::tl:=by
   cases hw2:m.way with
   |nil=>exact absurd hw2 hw
   |cons v tl=>exact⟨v,tl,rfl⟩
  have hwl:m.way.length=tl.length+1:=by rw[hv];rfl
  have hst:=zh (show litM g m=false by unfold litM;rw[decide_eq_false hw];rfl)
  clear hw hv hr
  go_enter Tryz.func127,Tryz.ntmps127
  go_wp2_with fail
  go_ret
  exact⟨ret_bool hst.out.symm,by exact zbl⟩
set_option maxHeartbeats 1000000 in
theorem sec1_c(m:Mir)(A:Option Addr)(c nb:Nat)(n:ByteArray)(w:World)(g0:w.cell? ⟨nb,0,none⟩=some (.string n)):
 Calls Tryz.prog 182 #[(.agg #[.string m.name,.string m.sec,.int .i64 m.loc,.slice A m.way.length c,.int .i64 m.left,.int .i64 m.heard]),.pointer (some ⟨nb,0,none⟩)] w fun e w'=>e=.returned (.bool (sEq m.sec n))∧Below w.heap.size w w':=by
 have hgb:=World.block_lt_of_cell? w ⟨nb,0,none⟩ g0
 simp only at hgb
 have hq:=sEqL m.sec n
 go_enter Tryz.func182,Tryz.ntmps182
 go_wp2_with fail
 go_ret
 exact⟨rfl,by exact zbl⟩
theorem fldOk{g:Grd}{tk ls:Int}{xs:List MA}(h:fieldC g (fldOf tk ls xs)=0):okG g∧Uniq g.mov∧okFld g (fldOf tk ls xs):=
 ⟨gridC_ok (fieldC_grid h),gridC_uniq (fieldC_grid h),fieldC_fld h⟩
theorem okFld.loc{g:Grd}{tk ls:Int}{xs:List MA}(h:okFld g (fldOf tk ls xs)):∀x∈xs,0≤x.m.loc∧x.m.loc<g.sta.length:=fun x hx=>(h.mir x.m (List.mem_map_of_mem hx)).loc
theorem darkG_eq(g:Grd)(tk ls:Int)(xs:List MA):darkG g (fldOf tk ls xs)=xs.all fun x=>standsG g x.m:=by
 unfold darkG fldOf;rw[List.all_map];rfl
set_option maxRecDepth 100000 in
set_option maxHeartbeats 2000000 in
theorem Dark_c(a:GA)(g:Grd)(tk ls:Int)(A:Option Addr)(c:Nat)(xs:List MA)(w:World)(hs:SmallG g)(hsf:SmallF xs)(hr:GridR w w.heap.size a g)(hkd:KindsAt w)(hf:FldR w w.heap.size A c xs):
 Calls Tryz.prog 49 #[(.agg #[.int .i64 g.blur,.slice a.pS g.sta.length a.cs,.slice a.pM g.mov.length a.cm,.slice a.pZ g.zon.length a.cz]),(.agg #[.int .i64 tk,.int .i64 ls,.slice A xs.length c])] w fun e w'=>e=.returned (.tuple #[.bool (decide (fieldC g (fldOf tk ls xs)=0)&&darkG g (fldOf tk ls xs)),.int .i64 (fieldC g (fldOf tk ls xs))])∧Below w.heap.size w w':=by
 obtain⟨W0,hW0⟩:∃W0,W0=(w.alloc (.cells #[.int .i64 g.blur,.slice a.pS g.sta.length a.cs,.slice a.pM g.mov.length a.cm,.slice a.pZ g.zon.length a.cz] 38)).alloc (.cells #[.int .i64 tk,.int .i64 ls,.slice A xs.length c] 72):=⟨_,rfl⟩
 have hsx:Sx w W0:=by rw[hW0];exact((Sx.refl w).alloc _).alloc _
 have HG:=zh (hr.sx (Nat.le_refl _) hsx)
 have HK:=zh (hkd.sx hsx)
 have HF:=zh (hf.sx (Nat.le_refl _) hsx)
 have kg:W0.heap[w.heap.size]? =some (.cells #[.int .i64 g.blur,.slice a.pS g.sta.length a.cs,.slice a.pM g.mov.length a.cm,.slice a.pZ g.zon.length a.cz] 38 (0,0)):=by rw[hW0];exact(Below.heap_alloc _ _ _ (by simp)).trans (heap_alloc_new w _)
 have k1:W0.heap[w.heap.size+1]? =some (.cells #[.int .i64 tk,.int .i64 ls,.slice A xs.length c] 72 (0,0)):=by
  rw[hW0]
  have:=heap_alloc_new (w.alloc (.cells #[.int .i64 g.blur,.slice a.pS g.sta.length a.cs,.slice a.pM g.mov.length a.cm,.slice a.pZ g.zon.length a.cz] 38)) (.cells #[.int .i64 tk,.int .i64 ls,.slice A xs.length c] 72)
  rwa [World.size_alloc]at this
 have hsz:W0.heap.size=w.heap.size+2:=by rw[hW0];simp
 have hB0:Below w.heap.size w W0:=by rw[hW0];exact zbl
 have HKG:=zh kg
 have HK1:=zh k1
 have hl:=hsf.n
 have HS:=zh hs
 have HSF:=zh hsf
 have l0:w.heap.size<W0.heap.size:=by omega
 have l1:w.heap.size+1<W0.heap.size:=by omega
 (obtain⟨g0,g1,g2,g3⟩:=cg4 kg)
 (obtain⟨q0,qf0,q1,qf1,q2,qf2⟩:=cv3 k1)
 clear hr hkd hf hsx kg k1 hs hsf hsz
 by_cases he:fieldC g (fldOf tk ls xs)=0
 ·have hz:(fieldC g (fldOf tk ls xs)!=0)=false:=by rw[bne_eq_false_iff_eq];exact he
  obtain⟨hok,hu,hof⟩:=fldOk he
  have HE:=zh he
  have HOF:=zh hof
  clear he hof
  go_enter Tryz.func49,Tryz.ntmps49
  go_wp2_with (first|(rw[←hW0];go_at_call 44;refine(CheckField_c a g tk ls A c xs _ HS.out HSF.out HG.out HK.out HF.out).mono ?_;rintro e w1 ⟨rfl,hb1⟩;(have jg:=(hb1.block w.heap.size l0).trans HKG.out);(have j1:=(hb1.block (w.heap.size+1) l1).trans HK1.out);clear g0 g1 g2 g3 q0 q1 q2 qf0 qf1 qf2;(obtain⟨g0,g1,g2,g3⟩:=cg4 jg);(obtain⟨q0,qf0,q1,qf1,q2,qf2⟩:=cv3 j1);clear jg j1)|(go_at_call 128;refine(isDark_c a g tk ls A c xs _ hok hl HOF.out.loc ((HG.out.belowB (w0:=W0) hb1 (Nat.le_refl _)).more hb1.size) ((HF.out.belowB (w0:=W0) hb1 (Nat.le_refl _)).more hb1.size)).mono ?_;rintro e w2 ⟨rfl,hb2⟩))
  go_ret2
  exact⟨by rw[HE.out,darkG_eq];rfl,hB0.trans ((hb1.trans (hb2.mono hb1.size)).mono (by omega))⟩
 ·have hz:(fieldC g (fldOf tk ls xs)!=0)=true:=by rw[bne_iff_ne];exact he
  have HE:=zh he
  clear he
  go_enter Tryz.func49,Tryz.ntmps49
  go_wp2_with (rw[←hW0];go_at_call 44;refine(CheckField_c a g tk ls A c xs _ HS.out HSF.out HG.out HK.out HF.out).mono ?_;rintro e w1 ⟨rfl,hb1⟩)
  go_ret2
  exact⟨by rw[decide_eq_false HE.out];rfl,hB0.trans (hb1.mono (by omega))⟩
theorem flat_set6{α:Type}(v0 v1 v2 v3 v4 v5:α):∀(l:List (List α)) (k:Nat),(∀x∈l,x.length=6)→k<l.length→
 ((((((l.flatten.set (k*6) v0).set (k*6+1) v1).set (k*6+2) v2).set (k*6+3) v3).set (k*6+4) v4).set (k*6+5) v5)=(l.set k [v0,v1,v2,v3,v4,v5]).flatten
 | [],k,_,hk=>absurd hk (by simp)
 |x::l,0,h,_=>by
  have hx:=h x (by simp)
  match x,hx with
  | [a,b,c,d,e,f],_=>simp[List.set]
 |x::l,k+1,h,hk=>by
  have hx:=h x (by simp)
  have s:∀(t:List α) (j:Nat) (v:α),(x++t).set ((k+1)*6+j) v=x++t.set (k*6+j) v:=fun t j v=>by
   rw[List.set_append_right _ _ (by omega),show(k+1)*6+j-x.length=k*6+j by omega]
  have ih:=flat_set6 v0 v1 v2 v3 v4 v5 l k (fun y hy=>h y (by simp[hy])) (by simpa using hk)
  have s0:=s l.flatten 0 v0
  simp only[Nat.add_zero]at s0
  rw[List.flatten_cons,s0,s,s,s,s,s,ih,List.set_cons_succ,List.flatten_cons]
theorem MirR.setc{w:World}{B:Nat}{m:Mir}{A:Option Addr}{c:Nat}(h:MirR w B m A c){p:Addr}(v:Value)(hne:m.way≠ []→∀a,A=some a→a.block≠p.block):MirR (w.setCell p v) B m A c:=
 ⟨fun hn=>IntsR.setc h.way v (hne (by simpa using hn)) hn,h.cap⟩
theorem OwnM.set{w:World}{base c gb k:Nat}{ys:List MA}(h:OwnM w base (some ⟨gb,0,none⟩) c ys)(hk:k<ys.length)(y:MA)(hy:MirR w w.heap.size y.m y.A y.c)(hn:y.m.way≠ []→∀a,y.A=some a→a.block≠gb):
 OwnM ((((((w.setCell ⟨gb,k*6,none⟩ (.string y.m.name)).setCell ⟨gb,k*6+1,none⟩ (.string y.m.sec)).setCell ⟨gb,k*6+2,none⟩ (.int .i64 y.m.loc)).setCell ⟨gb,k*6+3,none⟩ (.slice y.A y.m.way.length y.c)).setCell ⟨gb,k*6+4,none⟩ (.int .i64 y.m.left)).setCell ⟨gb,k*6+5,none⟩ (.int .i64 y.m.heard))
  base (some ⟨gb,0,none⟩) c (ys.set k y):=by
 have hset:ys.set k y=ys.set k y:=rfl
 refine⟨?_,?_,?_⟩
 ·have e:=flat_set6 (.string y.m.name) (.string y.m.sec) (.int .i64 y.m.loc) (.slice y.A y.m.way.length y.c) (.int .i64 y.m.left) (.int .i64 y.m.heard) (ys.map encMA) k encMA_len (by simpa using hk)
  rw[List.length_set,List.map_set]
  rw[show encMA y= [.string y.m.name,.string y.m.sec,.int .i64 y.m.loc,.slice y.A y.m.way.length y.c,.int .i64 y.m.left,.int .i64 y.m.heard]from rfl,←e]
  exact((((((h.row.stored _ _).1.stored _ _).1.stored _ _).1.stored _ _).1.stored _ _).1.stored _ _).1
 ·intro x hx
  have key:∀x:MA,MirR w w.heap.size x.m x.A x.c→(x.m.way≠ []→∀a,x.A=some a→a.block≠gb)→MirR ((((((w.setCell ⟨gb,k*6,none⟩ (.string y.m.name)).setCell ⟨gb,k*6+1,none⟩ (.string y.m.sec)).setCell ⟨gb,k*6+2,none⟩ (.int .i64 y.m.loc)).setCell ⟨gb,k*6+3,none⟩ (.slice y.A y.m.way.length y.c)).setCell ⟨gb,k*6+4,none⟩ (.int .i64 y.m.left)).setCell ⟨gb,k*6+5,none⟩ (.int .i64 y.m.heard)) w.heap.size x.m x.A x.c:=fun x h1 h2=>
   (((((h1.setc (p:=⟨gb,k*6,none⟩) _ h2).setc (p:=⟨gb,k*6+1,none⟩) _ h2).setc (p:=⟨gb,k*6+2,none⟩) _ h2).setc (p:=⟨gb,k*6+3,none⟩) _ h2).setc (p:=⟨gb,k*6+4,none⟩) _ h2).setc (p:=⟨gb,k*6+5,none⟩) _ h2
  have hz:((((((w.setCell ⟨gb,k*6,none⟩ (.string y.m.name)).setCell ⟨gb,k*6+1,none⟩ (.string y.m.sec)).setCell ⟨gb,k*6+2,none⟩ (.int .i64 y.m.loc)).setCell ⟨gb,k*6+3,none⟩ (.slice y.A y.m.way.length y.c)).setCell ⟨gb,k*6+4,none⟩ (.int .i64 y.m.left)).setCell ⟨gb,k*6+5,none⟩ (.int .i64 y.m.heard)).heap.size=w.heap.size:=by simp
  rw[hz]
  rcases List.mem_or_eq_of_mem_set hx with hx|rfl
  ·exact key x (h.each x hx) (fun hne a ha=>h.apart x hx hne a ha _ rfl)
  ·exact key _ hy hn
 ·intro x hx hne a ha d hd
  cases hd
  rcases List.mem_or_eq_of_mem_set hx with hx|rfl
  ·exact h.apart x hx hne a ha _ rfl
  ·exact hn hne a ha
end Go.Proofs.YtehnikhicnnnhaaGreatDoor
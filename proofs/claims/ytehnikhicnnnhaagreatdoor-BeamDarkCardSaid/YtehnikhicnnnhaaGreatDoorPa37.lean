/- The reference: paths, its table of least ways. | The reference: paths. -/
import Derived.Test.YtehnikhicnnnhaaGreatDoorPa31
import Derived.Test.YtehnikhicnnnhaaGreatDoorPa36
namespace Go.Proofs.YtehnikhicnnnhaaGreatDoor
open Go.RowKit
theorem Tryz.infoSl:(Tryz.prog.info? 30).map (fun i=>(i.zero,i.size,i.bytes))=some (some (.slice none 0 0),1,24):=by kernel_rfl
def zeroPath:Value:=.agg #[.slice none 0 0,.int .i64 0]
theorem Tryz.infoPt:(Tryz.prog.info? 178).map (fun i=>(i.zero,i.size,i.bytes))=some (some zeroPath,2,32):=by kernel_rfl
theorem mkSl(n:Nat)(hn:n≤1000)(W:World):(Instr.makeSlice 254 (.int .i64 n) (.int .i64 n)).run Tryz.prog W=.ok (.slice (some ⟨W.heap.size,0,none⟩) n n) (W.alloc (.cells (madeCells #[.slice none 0 0] n) 30)):=by
 obtain⟨i0,hi,hz0,hz1,hz2⟩:=info_parts Tryz.infoSl
 have:=run_make (P:=Tryz.prog) W 254 30 i0 (.slice none 0 0) Tryz.underlying254 hi hz0 .i64 .i64 (n:Int) (n:Int) (by omega) (Int.le_refl _) (by rw[hz2];omega) (by omega)
 rw[hz1]at this
 simp only[Int.toNat_natCast,Nat.mul_one]at this
 exact this
theorem mkIn(n:Nat)(hn:n≤1000)(W:World):(Instr.makeSlice 30 (.int .i64 n) (.int .i64 n)).run Tryz.prog W=.ok (.slice (some ⟨W.heap.size,0,none⟩) n n) (W.alloc (.cells (madeCells #[.int .i64 0] n) 3)):=by
 obtain⟨i0,hi,hz0,hz1,hz2⟩:=info_parts Tryz.infoInt
 have:=run_make (P:=Tryz.prog) W 30 3 i0 (.int .i64 0) Tryz.underlying30 hi hz0 .i64 .i64 (n:Int) (n:Int) (by omega) (Int.le_refl _) (by rw[hz2];omega) (by omega)
 rw[hz1]at this
 simp only[Int.toNat_natCast,Nat.mul_one]at this
 exact this
theorem mkPt(n:Nat)(hn:n≤1000)(W:World):(Instr.makeSlice 175 (.int .i64 n) (.int .i64 n)).run Tryz.prog W=.ok (.slice (some ⟨W.heap.size,0,none⟩) n n) (W.alloc (.cells (madeCells #[.slice none 0 0,.int .i64 0] (n*2)) 178)):=by
 obtain⟨i0,hi,hz0,hz1,hz2⟩:=info_parts Tryz.infoPt
 have:=run_make (P:=Tryz.prog) W 175 178 i0 zeroPath Tryz.underlying175 hi hz0 .i64 .i64 (n:Int) (n:Int) (by omega) (Int.le_refl _) (by rw[hz2];omega) (by omega)
 rw[hz1]at this
 simp only[Int.toNat_natCast]at this
 exact this
theorem made_at1(v:Value)(n i:Nat)(h:i<n):(madeCells #[v] n)[i]? =some v:=by
 unfold madeCells
 rw[Array.getElem?_map,Array.getElem?_range,if_pos h]
 simp[Nat.mod_one]
theorem made_at2(u v:Value)(n i:Nat)(h:i<n):(madeCells #[u,v] (n*2))[i*2]? =some u∧(madeCells #[u,v] (n*2))[i*2+1]? =some v:=by
 unfold madeCells
 rw[Array.getElem?_map,Array.getElem?_map,Array.getElem?_range,Array.getElem?_range,if_pos (by omega),if_pos (by omega)]
 have h1:i*2 % 2=0:=by omega
 have h2:(i*2+1) % 2=1:=by omega
 simp[h1,h2]
structure LnkR(w:World)(bL s0 n k:Nat)(M:Nat→Nat→Int):Prop where
 hd:∃arr:Array Value,w.heap[bL]? =some (.cells arr 30 (0,0))∧arr.size=n∧∀j<k,arr[j]? =some (.slice (some ⟨s0+j,0,none⟩) n n)
 row:∀j<k,∃row:Array Value,w.heap[s0+j]? =some (.cells row 3 (0,0))∧row.size=n∧∀i<n,row[i]? =some (.int .i64 (M j i))
section
variable {w w':World} {bL s0 n k:Nat} {M:Nat→Nat→Int}
theorem LnkR.keep{p:Nat}{cp:Array Value}{Tp:TypeId}(h:LnkR w bL s0 n k M)(hk:Ke p w w')(hp:w.heap[p]? =some (.cells cp Tp (0,0)))(h1:Tp≠3)(h2:Tp≠30):LnkR w' bL s0 n k M:=by
 refine⟨?_,fun j hj=>?_⟩
 ·obtain⟨arr,e1,e2,e3⟩:=h.hd
  refine⟨arr,(hk.2 bL (blk_lt e1) ?_).trans e1,e2,e3⟩
  rintro rfl
  rw[hp]at e1;cases e1;exact h2 rfl
 ·obtain⟨row,e1,e2,e3⟩:=h.row j hj
  refine⟨row,(hk.2 _ (blk_lt e1) ?_).trans e1,e2,e3⟩
  rintro rfl
  rw[hp]at e1;cases e1;exact h1 rfl
theorem LnkR.below(h:LnkR w bL s0 n k M)(hb:Below w.heap.size w w'):LnkR w' bL s0 n k M:=by
 refine⟨?_,fun j hj=>?_⟩
 ·obtain⟨arr,e1,e2,e3⟩:=h.hd
  exact⟨arr,(hb.block bL (blk_lt e1)).trans e1,e2,e3⟩
 ·obtain⟨row,e1,e2,e3⟩:=h.row j hj
  exact⟨row,(hb.block _ (blk_lt e1)).trans e1,e2,e3⟩
theorem LnkR.at_(h:LnkR w bL s0 n k M){a b:Nat}(ha:a<k)(hb:b<n):w.cell? ⟨bL,a,none⟩=some (.slice (some ⟨s0+a,0,none⟩) n n)∧w.cell? ⟨s0+a,b,none⟩=some (.int .i64 (M a b))∧w.frozen? ⟨s0+a,b,none⟩=false∧s0+a<w.heap.size:=by
 obtain⟨arr,e1,e2,e3⟩:=h.hd
 obtain⟨row,e4,e5,e6⟩:=h.row a ha
 refine⟨?_,?_,frozen_of_row _ _ _ _ _ e4,blk_lt e4⟩
 ·rw[cell_of_row _ _ _ _ _ _ e1];exact e3 a ha
 ·rw[cell_of_row _ _ _ _ _ _ e4];exact e6 b hb
theorem LnkR.hd_lt(h:LnkR w bL s0 n k M):bL<w.heap.size:=by
 obtain⟨arr,e1,_⟩:=h.hd;exact blk_lt e1
theorem LnkR.hd_fz(h:LnkR w bL s0 n k M)(i:Nat):w.frozen? ⟨bL,i,none⟩=false:=by
 obtain⟨arr,e1,_⟩:=h.hd;exact frozen_of_row _ _ _ _ _ e1
theorem LnkR.hd_at(h:LnkR w bL s0 n k M){i:Nat}(hi:i<n):∃v,w.cell? ⟨bL,i,none⟩=some v:=by
 obtain⟨arr,e1,e2,_⟩:=h.hd
 exact⟨_,(cell_of_row _ _ _ _ _ _ e1).trans (Array.getElem?_eq_getElem (by omega))⟩
theorem LnkR.mk_(h:LnkR w bL s0 n k (fun _ _=>0))(hs:w.heap.size=s0+k)(hk:k<n)(hbL:bL<s0):
 LnkR ((w.setCell ⟨bL,k,none⟩ (.slice (some ⟨s0+k,0,none⟩) n n)).alloc (.cells (madeCells #[.int .i64 0] n) 3)) bL s0 n (k+1) (fun _ _=>0):=by
 refine⟨?_,fun j hj=>?_⟩
 ·obtain⟨arr,e1,e2,e3⟩:=h.hd
  refine⟨arr.setIfInBounds k (.slice (some ⟨s0+k,0,none⟩) n n),blk_alloc (heap_setCell_same _ _ _ _ _ _ e1),by simpa using e2,fun j hj=>?_⟩
  by_cases e:j=k
  ·subst e;rw[Array.getElem?_setIfInBounds_self,if_pos (by omega)]
  ·rw[Array.getElem?_setIfInBounds_ne (by omega)];exact e3 j (by omega)
 ·by_cases e:j=k
  ·subst e
   refine⟨madeCells #[.int .i64 0] n,blk_new (by simp;omega),by simp[size_madeCells],fun i hi=>made_at1 _ _ _ hi⟩
  ·obtain⟨row,e4,e5,e6⟩:=h.row j (by omega)
   exact⟨row,blk_alloc ((heap_setCell_other _ _ _ _ (by show s0+j≠bL;omega)).trans e4),e5,e6⟩
def updM(M:Nat→Nat→Int)(a b:Nat)(v:Int):Nat→Nat→Int:=fun i j=>if i=a∧j=b then v else M i j
theorem LnkR.set(h:LnkR w bL s0 n k M)(hbL:bL<s0){a b:Nat}(ha:a<k)(hb:b<n)(v:Int):LnkR (w.setCell ⟨s0+a,b,none⟩ (.int .i64 v)) bL s0 n k (updM M a b v):=by
 refine⟨?_,fun j hj=>?_⟩
 ·obtain⟨arr,e1,e2,e3⟩:=h.hd
  exact⟨arr,(heap_setCell_other _ _ _ _ (by show bL≠s0+a;omega)).trans e1,e2,e3⟩
 ·obtain⟨row,e4,e5,e6⟩:=h.row j hj
  by_cases e:j=a
  ·subst e
   refine⟨row.setIfInBounds b (.int .i64 v),heap_setCell_same _ _ _ _ _ _ e4,by simpa using e5,fun i hi=>?_⟩
   unfold updM
   by_cases e2:i=b
   ·subst e2;rw[Array.getElem?_setIfInBounds_self,if_pos (by omega),if_pos ⟨rfl,rfl⟩]
   ·rw[Array.getElem?_setIfInBounds_ne (by omega),if_neg (by omega)];exact e6 i hi
  ·refine⟨row,(heap_setCell_other _ _ _ _ (by show s0+j≠s0+a;omega)).trans e4,e5,fun i hi=>?_⟩
   unfold updM
   rw[if_neg (by omega)];exact e6 i hi
theorem LnkR.to(h:LnkR w bL s0 n k M){M':Nat→Nat→Int}(he:∀j<k,∀i<n,M j i=M' j i):LnkR w bL s0 n k M':=
 ⟨h.hd,fun j hj=>by
   obtain⟨row,e4,e5,e6⟩:=h.row j hj
   exact⟨row,e4,e5,fun i hi=>by rw[←he j hj i hi];exact e6 i hi⟩⟩
end
theorem lnkL_snoc{g:Grd}{a b:Int}{m:Mov}:∀{l:List Mov},(∀x∈l,1≤x.s)→lnkL g a b (l++ [m])=if lnkL g a b l=0 then(if joins a b m∧movFree g m=true then m.s else 0)else lnkL g a b l
 | [],_=>by simp[lnkL]
 |x::l,h=>by
  rw[List.cons_append,lnkL,lnkL]
  by_cases hj:joins a b x∧movFree g x=true
  ·rw[if_pos hj,if_pos hj,if_neg (by have:=h x (by simp);omega)]
  ·rw[if_neg hj,if_neg hj]
   exact lnkL_snoc (fun y hy=>h y (by simp[hy]))
theorem lnkL_ne{g:Grd}{a b:Int}{l:List Mov}(h:lnkL g a b l≠0)(hs:∀x∈l,1≤x.s):∃m∈l,joins a b m:=by
 have h0:0<lnkL g a b l:=by
  have key:∀l:List Mov,(∀x∈l,1≤x.s)→0≤lnkL g a b l:=by
   intro l
   induction l with
   |nil=>intro _;exact Int.le_refl _
   |cons x l ih=>
    intro hx
    unfold lnkL
    split
    ·have:=hx x (by simp);omega
    ·exact ih (fun y hy=>hx y (by simp[hy]))
  have:=key l hs
  omega
 obtain⟨m,h1,h2,_⟩:=lnkL_mem h0
 exact⟨m,h1,h2⟩
theorem lnk_take{g:Grd}(ho:okG g)(hu:Uniq g.mov){k:Nat}(hk:k<g.mov.length)(a b:Int):
 lnkL g a b (g.mov.take (k+1))=if joins a b g.mov[k]∧movFree g g.mov[k]=true then g.mov[k].s else lnkL g a b (g.mov.take k):=by
 have hs:∀x∈g.mov.take k,1≤x.s:=fun x hx=>(ho.mov x (List.mem_of_mem_take hx)).s0
 rw[List.take_succ_eq_append_getElem hk,lnkL_snoc hs]
 by_cases h0:lnkL g a b (g.mov.take k)=0
 ·rw[if_pos h0,h0]
 ·rw[if_neg h0]
  obtain⟨m,h1,h2⟩:=lnkL_ne h0 hs
  rw[if_neg]
  rintro⟨h3,_⟩
  obtain⟨i,hi,rfl⟩:=List.getElem_of_mem h1
  rw[List.length_take]at hi
  rw[List.getElem_take]at h2
  have h4:=(List.pairwise_iff_getElem.1 hu) i k (by omega) hk (by omega)
  have h5:=(ho.mov _ (List.getElem_mem (show i<g.mov.length by omega))).ab
  have h6:=(ho.mov _ (List.getElem_mem hk)).ab
  unfold joins at h2 h3
  omega
theorem TabP.copy{w:World}{bQ:Nat}{T:List (Option Rt)}(h:TabP w bQ T):∃news:List Value,news.length=T.length*2∧(∀j u,news[j]? =some u→w.cell? ((⟨bQ,0,none⟩:Addr).add j)=some u)∧(∀u∈news,u.oneCell'=true)∧
 ∀(w':World) (cur:Array Value) (bN:Nat),Below w.heap.size w w'→w'.heap[bN]? =some (.cells cur 178 (0,0))→cur.toList.take (T.length*2)=news→T.length*2≤cur.size→TabP w' bN T:=by
 obtain⟨arr,hq1,hq2,hq3⟩:=h
 have hat:∀j,j<T.length*2→∃v,arr[j]? =some v∧v.oneCell'=true:=by
  intro j hj
  have key:∀(i:Nat) (o:Option Rt),EntP w arr i o→(∃v,arr[i*2]? =some v∧v.oneCell'=true)∧∃v,arr[i*2+1]? =some v∧v.oneCell'=true:=by
   intro i o ho
   cases o with
   |none=>exact⟨⟨_,ho.1,rfl⟩,_,ho.2,rfl⟩
   |some r=>obtain⟨bs,c,h4,h5,_⟩:=ho;exact⟨⟨_,h4,rfl⟩,_,h5,rfl⟩
  have h3:=key _ _ (hq3 (j / 2) (by omega))
  rcases(show j=j / 2*2∨j=j / 2*2+1 by omega)with e|e
  ·rw[e];exact h3.1
  ·rw[e];exact h3.2
 refine⟨arr.toList.take (T.length*2),by simp;omega,fun j u hj=>?_,fun u hu=>?_,fun w' cur bN hb hc ht hs=>?_⟩
 ·rw[add0,cell_of_row _ _ _ _ _ _ hq1]
  rw[List.getElem?_take]at hj
  split at hj
  ·simpa using hj
  ·cases hj
 ·obtain⟨j,hj,rfl⟩:=List.getElem_of_mem hu
  rw[List.length_take]at hj
  obtain⟨v,h1,h2⟩:=hat j (by omega)
  rw[List.getElem_take]
  have h3:arr.toList[j]? =some v:=by simpa using h1
  rw[List.getElem?_eq_getElem (by omega)]at h3
  cases h3
  exact h2
 ·have he:∀j,j<T.length*2→cur[j]? =arr[j]? :=fun j hj=>by
   have h1:=congrArg (fun l:List Value=>l[j]?) ht
   simp only[List.getElem?_take,if_pos hj]at h1
   simpa using h1
  refine⟨cur,hc,hs,fun k hk=>?_⟩
  have h3:=hq3 k hk
  cases e:T[k]with
  |none=>rw[e]at h3;exact⟨(he _ (by omega)).trans h3.1,(he _ (by omega)).trans h3.2⟩
  |some r=>
   rw[e]at h3
   obtain⟨bs,c,h4,h5,h6,h7⟩:=h3
   refine⟨bs,c,(he _ (by omega)).trans h4,(he _ (by omega)).trans h5,h6,h7.of (hb.block bs ?_)⟩
   obtain⟨_,h8,_⟩:=h7;exact blk_lt h8
structure PB(w:World)(a:GA)(g:Grd)(wr:World):Prop where
 low:Below w.heap.size w wr
 box:wr.heap[w.heap.size]? =some (.cells #[.int .i64 g.blur,.slice a.pS g.sta.length a.cs,.slice a.pM g.mov.length a.cm,.slice a.pZ g.zon.length a.cz] 26 (0,0))
section
variable {w wr w':World} {a:GA} {g:Grd}
theorem PB.step(h:PB w a g wr)(hb:Below wr.heap.size wr w'):PB w a g w':=⟨h.low.trans (hb.mono h.low.size),blk_step hb h.box⟩
theorem PB.set(h:PB w a g wr){p:Addr}(v:Value)(hp:w.heap.size<p.block):PB w a g (wr.setCell p v):=
 ⟨h.low.setCell (Nat.le_of_lt hp) _,(heap_setCell_other _ _ _ _ (by omega)).trans h.box⟩
theorem PB.grown(h:PB w a g wr){row:Option Nat}(hg:wr.grownBy w' row)(hr:∀k,row=some k→w.heap.size<k):PB w a g w':=
 ⟨h.low.grown hg h.low.size (fun k e=>Nat.le_of_lt (hr k e)),(gr_block hg (blk_lt h.box) (fun e=>by have:=hr _ e;omega)).trans h.box⟩
end
theorem drewc{W:World}{q:Addr}{u:Value}(h:W.cell? q=some u):W.drew.cell? q=some u:=h
theorem keepc{W:World}{b o p i:Nat}{v u:Value}(h:W.cell? ⟨b,o,none⟩=some u)(hne:b≠p):(W.setCell ⟨p,i,none⟩ v).cell? ⟨b,o,none⟩=some u:=
 (World.cell?_setCell_other W ⟨p,i,none⟩ ⟨b,o,none⟩ v (fun e=>hne (by injection e with e1 _ _;exact e1.symm))).trans h
set_option maxRecDepth 100000 in
set_option maxHeartbeats 16000000 in
theorem rPaths_c(a:GA)(g:Grd)(f:Nat)(w:World)(hg:okG g)(hu:Uniq g.mov)(hf:f<g.sta.length)(hr:GridR w w.heap.size a g):
 Calls Tryz.prog 102 #[(.agg #[.int .i64 g.blur,.slice a.pS g.sta.length a.cs,.slice a.pM g.mov.length a.cm,.slice a.pZ g.zon.length a.cz]),.int .i64 f] w fun e w'=>∃b c,e=.returned (.slice (some ⟨b,0,none⟩) g.sta.length c)∧g.sta.length≤c∧TabP w' b (table (lnk g) g.sta.length f (g.sta.length-1))∧Below w.heap.size w w':=by
 obtain⟨iP,hiP,hzP0,hzP1,hzP2⟩:=info_parts Tryz.infoPt
 have hns:=hg.ns
 have hnm:=hg.nm
 obtain⟨W1,hW1⟩:∃W1,W1=w.alloc (.cells #[.int .i64 g.blur,.slice a.pS g.sta.length a.cs,.slice a.pM g.mov.length a.cm,.slice a.pZ g.zon.length a.cz] 26):=⟨_,rfl⟩
 have hsz:W1.heap.size=w.heap.size+1:=by rw[hW1];simp
 have k0:W1.heap[w.heap.size]? =some (.cells #[.int .i64 g.blur,.slice a.pS g.sta.length a.cs,.slice a.pM g.mov.length a.cm,.slice a.pZ g.zon.length a.cz] 26 (0,0)):=by rw[hW1];exact heap_alloc_new w _
 have HPB:=zh (show PB w a g W1 from⟨by rw[hW1];exact zbl,k0⟩)
 have HR:=zh hr
 have hm1:=mkSl g.sta.length (by omega)
 have hm2:=mkIn g.sta.length (by omega)
 have hm3:=mkPt g.sta.length (by omega)
 (obtain⟨g0,g1,g2,g3⟩:=cg4 k0)
 clear hr k0
 go_enter Tryz.func102,Tryz.ntmps102
 go_upto_region 1 with fail
 rw[←hW1]
 clear hW1
 go_upto_region 3 with fail
 obtain⟨bL,hbL⟩:∃b,b=w.heap.size+1:=⟨_,rfl⟩
 obtain⟨W2,hW2⟩:∃W,W=W1.alloc (.cells (madeCells #[.slice none 0 0] g.sta.length) 30):=⟨_,rfl⟩
 rw[←hW2,←hbL]
 have hs2:W2.heap.size=bL+1:=by rw[hW2,hbL];simp;omega
 have HS2:=zh hs2
 have HBL:=zh hbL
 have HPB2:=zh (HPB.out.step (show Below W1.heap.size W1 W2 by rw[hW2];exact zbl))
 have HLK:=zh (show LnkR W2 bL (bL+1) g.sta.length 0 (fun _ _=>0)from⟨⟨madeCells #[.slice none 0 0] g.sta.length,by rw[hW2,hbL,←hsz];exact heap_alloc_new _ _,by simp[size_madeCells],fun j hj=>by omega⟩,fun j hj=>by omega⟩)
 clear hW2 hbL hs2 HPB hsz g0 g1 g2 g3 hm1
 go_wp2_with fail
 go_loopw [7] (fun i wr=>∃k:Nat,k≤g.sta.length∧i=.int .i64 k∧Hid (wr.heap.size=bL+1+k)∧Hid (LnkR wr bL (bL+1) g.sta.length k (fun _ _=>0))∧Hid (PB w a g wr)) (fun i _=>g.sta.length-(intOf i).toNat)
 case atStart=>exact⟨0,Nat.zero_le _,rfl,HS2,HLK,HPB2⟩
 case round=>
  clear HS2 HLK HPB2
  obtain⟨k,hk,rfl,HS,HL,HP⟩:=hrel
  by_cases hlt:k<g.sta.length
  ·obtain⟨v,hv⟩:=HL.out.hd_at hlt
   have hfz:=HL.out.hd_fz k
   have hbl:=HL.out.hd_lt
   go_wp2_with fail
   go_roundw
   case rel=>
    refine⟨k+1,by omega,by go_num,zh ?_,zh ?_,zh ?_⟩
    ·simp;have:=HS.out;omega
    ·have:=HL.out.mk_ HS.out hlt (by omega)
     rw[←HS.out]at this
     exact this
    ·exact(HP.out.set (p:=⟨bL,k,none⟩) _ (by show w.heap.size<bL;have:=HBL.out;omega)).step (Below.alloc (Below.refl _ _) (Nat.le_refl _) _)
   case measure=>simp[intOf];omega
  ·have hkn:k=g.sta.length:=by omega
   have HL2:=zh (show LnkR wr bL (bL+1) g.sta.length g.sta.length (fun _ _=>0) by have:=HL.out;rwa [hkn]at this)
   clear hkn HL
   go_wp2_with fail
   obtain⟨s0,hs0⟩:∃s,s=bL+1:=⟨_,rfl⟩
   rw[←hs0]at HL2
   have HS0:=zh hs0
   have HP0:=HP
   clear hs0 HP HS hk hm2
   go_loopw [8] (fun i wv=>∃k:Nat,k≤g.mov.length∧i=.int .i64 k∧Hid (LnkR wv bL s0 g.sta.length g.sta.length (fun p q=>lnkL g p q (g.mov.take k)))∧Hid (PB w a g wv)) (fun i _=>g.mov.length-(intOf i).toNat)
   case atStart=>exact⟨0,Nat.zero_le _,rfl,HL2,HP0⟩
   case round=>
    clear HL2 HP0
    obtain⟨wo,hwo⟩:∃W,W=wr:=⟨_,rfl⟩
    obtain⟨k,hk,rfl,HL,HP⟩:=hrel
    have kk:=HP.out.box
    have y0:=blk_lt kk
    (obtain⟨d0,d1,d2,d3⟩:=cg4 kk)
    clear kk hwo
    by_cases hlt:k<g.mov.length
    ·obtain⟨x,hx⟩:∃x,x=g.mov[k]:=⟨_,rfl⟩
     have hgw:=(HR.out.belowB (w0:=w) HP.out.low (Nat.le_refl _))
     obtain⟨b,off,ea,hbl,c0,c1,c2⟩:=hgw.mov.get3 (k:=k) (by simpa using hlt) (by rw[List.getElem_map,←hx];rfl)
     have hmo:okM g.sta.length x:=by rw[hx];exact hg.mov _ (List.getElem_mem hlt)
     have HT:=zh (lnk_take hg hu hlt)
     rw[←hx]at HT
     clear hx
     have HGW:=zh (hgw.more HP.out.low.size)
     have yb:b<wr.heap.size:=by have:=HP.out.low.size;omega
     rw[ea]at d2
     have hN:=fun W (h:GridR W W.heap.size a g)=>rFreeM_c a g x W hg hmo h
     rw[ea]at hN
     clear ea hgw
     obtain⟨ja,hja⟩:=Int.eq_ofNat_of_zero_le hmo.a0
     obtain⟨jb,hjb⟩:=Int.eq_ofNat_of_zero_le (show 0≤x.b by have:=hmo.a0;have:=hmo.ab;omega)
     have hbn:jb<g.sta.length:=by have:=hmo.bn;omega
     have han:ja<g.sta.length:=by have:=hmo.ab;omega
     have HX:=zh (show x.a=ja∧x.b=jb from⟨hja,hjb⟩)
     rw[hja]at c0
     rw[hjb]at c1
     simp only[hja,hjb]at hN
     have HMO:=zh hmo
     clear hja hjb hmo
     cases hp:movFree g x
     ·simp only[hp]at hN
      have HN:=zh hN
      have HQ:=zh (show ∀p q:Int,lnkL g p q (g.mov.take k)=lnkL g p q (g.mov.take (k+1))from fun p q=>by
       have:=HT.out p q
       rw[if_neg (fun h=>by rw[hp]at h;cases h.2)]at this
       exact this.symm)
      clear hN hp
      go_wp2_with (go_at_call 114;refine(HN.out _ (HGW.out.sx (Nat.le_refl _) (by exact zsx))).mono ?_;rintro e w2 ⟨rfl,hb2⟩)
      go_roundw
      case rel=>exact⟨k+1,by omega,by go_num,zh (((HL.out.below (show Below wr.heap.size wr _ from Below.alloc (Below.refl _ _) (Nat.le_refl _) _)).below hb2).to (fun j _ i _=>HQ.out j i)),zh ((HP.out.step (Below.alloc (Below.refl _ _) (Nat.le_refl _) _)).step hb2)⟩
      case measure=>simp[intOf];omega
     ·simp only[hp]at hN
      have HN:=zh hN
      have HMF:=zh hp
      clear hN hp
      go_upto_region 12 with (go_at_call 114;refine(HN.out _ (HGW.out.sx (Nat.le_refl _) (by exact zsx))).mono ?_;rintro e w2 ⟨rfl,hb2⟩)
      have hbx:Below wr.heap.size wr (wr.alloc (.cells #[.int .i64 ja,.int .i64 jb,.int .i64 x.s] 165)):=Below.alloc (Below.refl _ _) (Nat.le_refl _) _
      have HL2:=zh ((HL.out.below hbx).below hb2)
      have HP2:=zh ((HP.out.step hbx).step hb2)
      have hrow:=(HL.out.at_ han hbn).2.2.2
      have hcol:=(HL.out.at_ hbn han).2.2.2
      have hrb:bL<s0:=by have:=HS0.out;omega
      have hw0:w.heap.size<bL:=by have:=HBL.out;omega
      have e0:w2.cell? ⟨wr.heap.size,0,none⟩=some (.int .i64 ja):=(hb2.cell (p:=⟨wr.heap.size,0,none⟩) (by simp)).trans (by simp)
      have e1:w2.cell? ⟨wr.heap.size,1,none⟩=some (.int .i64 jb):=(hb2.cell (p:=⟨wr.heap.size,1,none⟩) (by simp)).trans (by simp)
      have e2:w2.cell? ⟨wr.heap.size,2,none⟩=some (.int .i64 x.s):=(hb2.cell (p:=⟨wr.heap.size,2,none⟩) (by simp)).trans (by simp)
      obtain⟨l0,l1,l2,l3⟩:=HL2.out.at_ han hbn
      have l4:=HL2.out.hd_lt
      have yw:wr.heap.size<w2.heap.size:=World.block_lt_of_cell? w2 ⟨wr.heap.size,0,none⟩ e0
      clear hbx hb2 c0 c1 c2 d0 d1 d2 d3
      have n1:wr.heap.size≠s0+ja:=by omega
      have n2:bL≠s0+ja:=by omega
      go_region_held3 (fun W=>W.cell? ⟨wr.heap.size,0,none⟩=some (.int .i64 ja)∧W.cell? ⟨wr.heap.size,1,none⟩=some (.int .i64 jb)∧W.cell? ⟨wr.heap.size,2,none⟩=some (.int .i64 x.s)∧W.cell? ⟨bL,ja,none⟩=some (.slice (some ⟨s0+ja,0,none⟩) g.sta.length g.sta.length)) (refine⟨?_,?_,?_,?_⟩<;>(repeat first|(with_reducible assumption)|refine drewc ?_|refine keepc ?_ (by first|exact n1|exact n2))) (fail)
      go_upto_region 13 with fail
      obtain⟨W3,hW3⟩:∃W,W=(w2.setCell ⟨s0+ja,jb,none⟩ (.int .i64 x.s)).drew:=⟨_,rfl⟩
      rw[←hW3]
      have HL3:=zh (show LnkR W3 bL s0 g.sta.length g.sta.length _ by rw[hW3];exact(HL2.out.set hrb han hbn x.s).below (Bl.drew (Below.refl _ _)))
      have HP3:=zh (show PB w a g W3 by rw[hW3];exact(HP2.out.set (p:=⟨s0+ja,jb,none⟩) _ (by show w.heap.size<s0+ja;omega)).step (Bl.drew (Below.refl _ _)))
      have f0:W3.cell? ⟨wr.heap.size,0,none⟩=some (.int .i64 ja):=by rw[hW3];exact keepc e0 n1
      have f1:W3.cell? ⟨wr.heap.size,1,none⟩=some (.int .i64 jb):=by rw[hW3];exact keepc e1 n1
      have f2:W3.cell? ⟨wr.heap.size,2,none⟩=some (.int .i64 x.s):=by rw[hW3];exact keepc e2 n1
      obtain⟨m0,m1,m2,m3⟩:=HL3.out.at_ hbn han
      have m4:=HL3.out.hd_lt
      have yw3:wr.heap.size<W3.heap.size:=World.block_lt_of_cell? W3 ⟨wr.heap.size,0,none⟩ f0
      have n3:wr.heap.size≠s0+jb:=by omega
      have n4:bL≠s0+jb:=by omega
      clear hW3 e0 e1 e2 l0 l1 l2 l3 l4 n1 n2
      go_region_held3 (fun W=>W.cell? ⟨wr.heap.size,0,none⟩=some (.int .i64 ja)∧W.cell? ⟨wr.heap.size,1,none⟩=some (.int .i64 jb)∧W.cell? ⟨wr.heap.size,2,none⟩=some (.int .i64 x.s)∧W.cell? ⟨bL,jb,none⟩=some (.slice (some ⟨s0+jb,0,none⟩) g.sta.length g.sta.length)) (refine⟨?_,?_,?_,?_⟩<;>(repeat first|(with_reducible assumption)|refine drewc ?_|refine keepc ?_ (by first|exact n3|exact n4))) (fail)
      go_wp2_with fail
      go_roundw
      case rel=>
       refine⟨k+1,by omega,by go_num,zh (((HL3.out.set hrb hbn han x.s).below (Bl.drew (Below.refl _ _))).to fun j hj i hi=>?_),zh ((HP3.out.set (p:=⟨s0+jb,ja,none⟩) _ (by show w.heap.size<s0+jb;omega)).step (Bl.drew (Below.refl _ _)))⟩
       rw[HT.out j i]
       have hx1:=HX.out.1
       have hx2:=HX.out.2
       have hab:=HMO.out.ab
       unfold updM joins
       by_cases h1:j=jb∧i=ja
       ·rw[if_pos h1,if_pos ⟨.inr (by omega),HMF.out⟩]
       ·rw[if_neg h1]
        by_cases h2:j=ja∧i=jb
        ·rw[if_pos h2,if_pos ⟨.inl (by omega),HMF.out⟩]
        ·rw[if_neg h2,if_neg (by rintro⟨h3,_⟩;omega)]
      case measure=>simp[intOf];omega
    ·have hkn:k=g.mov.length:=by omega
     have HL5:=zh (show LnkR wr bL s0 g.sta.length g.sta.length (fun p q=>lnk g p q) by have:=HL.out;rw[hkn,List.take_length]at this;exact this)
     have HP5:=HP
     clear hkn HL HP hk
     go_upto_region 15 with fail
     obtain⟨W5,hW5⟩:∃W,W=wr.alloc (.cells (madeCells #[.slice none 0 0,.int .i64 0] (g.sta.length*2)) 178):=⟨_,rfl⟩
     obtain⟨bO,hbO⟩:∃b,b=wr.heap.size:=⟨_,rfl⟩
     rw[←hW5,←hbO]
     have kO:W5.heap[bO]? =some (.cells (madeCells #[.slice none 0 0,.int .i64 0] (g.sta.length*2)) 178 (0,0)):=by rw[hW5,hbO];exact heap_alloc_new _ _
     have hB5:Below wr.heap.size wr W5:=by rw[hW5];exact Below.alloc (Below.refl _ _) (Nat.le_refl _) _
     have HL6:=zh (HL5.out.below hB5)
     have HP6:=zh (HP5.out.step hB5)
     have hOw:w.heap.size<bO:=by rw[hbO];exact blk_lt HP5.out.box
     have hma:=made_at2 (.slice none 0 0) (.int .i64 0) g.sta.length f hf
     have o0:W5.cell? ⟨bO,f*2,none⟩=some (.slice none 0 0):=(cell_of_row _ _ _ _ _ _ kO).trans hma.1
     have o1:W5.cell? ⟨bO,f*2+1,none⟩=some (.int .i64 0):=(cell_of_row _ _ _ _ _ _ kO).trans hma.2
     have z0:=frozen_of_row W5 bO (f*2) _ _ kO
     have z1:=frozen_of_row W5 bO (f*2+1) _ _ kO
     have yO:=blk_lt kO
     have KO:=zh kO
     have HBO:=zh hbO
     clear hma kO hW5 hB5 hbO HL5 HP5 d0 d1 d2 d3 y0 hm3
     go_upto_region 16 with fail
     obtain⟨W6,hW6⟩:∃W,W=(((W5.setCell ⟨bO,f*2,none⟩ (.slice (some ⟨W5.heap.size,0,none⟩) 1 1)).setCell ⟨bO,f*2+1,none⟩ (.int .i64 0)).alloc (.cells #[.int .i64 f] 3)):=⟨_,rfl⟩
     rw[←hW6]
     have hB6:PB w a g W6:=by
      rw[hW6]
      exact((HP6.out.set (p:=⟨bO,f*2,none⟩) _ hOw).set (p:=⟨bO,f*2+1,none⟩) _ hOw).step (Below.alloc (Below.refl _ _) (Nat.le_refl _) _)
     have hke:Ke bO W5 W6:=by
      rw[hW6]
      exact(Ke.set2 (p:=bO) (i:=f*2) (j:=f*2+1) W5 _ _).trans (Ke.of (Below.alloc (Below.refl _ _) (Nat.le_refl _) _))
     have hl6:=HL6.out.keep hke KO.out (by decide) (by decide)
     have ht6:TabP W6 bO (table (lnk g) g.sta.length f 0):=by
      refine⟨((madeCells #[.slice none 0 0,.int .i64 0] (g.sta.length*2)).setIfInBounds (f*2) (.slice (some ⟨W5.heap.size,0,none⟩) 1 1)).setIfInBounds (f*2+1) (.int .i64 0),?_,?_,?_⟩
      ·rw[hW6];exact blk_alloc (heap_setCell_same _ _ _ _ _ _ (heap_setCell_same _ _ _ _ _ _ KO.out))
      ·simp[size_madeCells,table]
      ·intro j hj
       have hj':j<g.sta.length:=by simpa [table]using hj
       have hmj:=made_at2 (.slice none 0 0) (.int .i64 0) g.sta.length j hj'
       by_cases e:f=j
       ·subst e
        simp only[table,List.getElem_set_self]
        refine⟨W5.heap.size,1,?_,?_,by simp,#[.int .i64 f],?_,?_⟩
        ·rw[Array.getElem?_setIfInBounds_ne (by omega),Array.getElem?_setIfInBounds_self,if_pos (by simp[size_madeCells];omega)];rfl
        ·rw[Array.getElem?_setIfInBounds_self,if_pos (by simp[size_madeCells];omega)]
        ·rw[hW6];exact blk_new (by simp)
        ·intro i hi
         obtain rfl:i=0:=by simpa using hi
         rfl
       ·simp only[table]
        rw[List.getElem_set_ne e]
        simp only[List.getElem_replicate]
        exact⟨by rw[Array.getElem?_setIfInBounds_ne (by omega),Array.getElem?_setIfInBounds_ne (by omega)];exact hmj.1,by rw[Array.getElem?_setIfInBounds_ne (by omega),Array.getElem?_setIfInBounds_ne (by omega)];exact hmj.2⟩
     have HL7:=zh hl6
     have HP7:=zh hB6
     have HT7:=zh ht6
     clear hl6 hB6 ht6 hke hW6 o0 o1 z0 z1 yO HL6 HP6 KO HBO
     go_wp2_with fail
     go_loopw [10,11] (fun v i wv=>∃(k bQ cQ:Nat),k+1≤g.sta.length∧i=.int .i64 ((k:Int)+1)∧v=.slice (some ⟨bQ,0,none⟩) g.sta.length cQ∧g.sta.length≤cQ∧Hid (LnkR wv bL s0 g.sta.length g.sta.length (fun p q=>lnk g p q))∧Hid (PB w a g wv)∧Hid (TabP wv bQ (table (lnk g) g.sta.length f k))) (fun _ i _=>g.sta.length-(intOf i).toNat)
     case atStart=>exact⟨0,bO,g.sta.length,by omega,by go_num,rfl,Nat.le_refl _,HL7,HP7,HT7⟩
     case round=>
      clear HL7 HP7 HT7 hOw
      obtain⟨k,bQ,cQ,hk,rfl,rfl,hcQ,HL,HP,HT⟩:=hrel
      by_cases hlt:k+1<g.sta.length
      ·obtain⟨news,hnl,hnc,hone,hcp⟩:=HT.out.copy
       rw[table_len]at hnl
       have HNC:=zh hnc
       have HON:=zh hone
       have HNL:=zh hnl
       have HCP:=zh hcp
       clear hnc hone hnl hcp
       go_wp2_with (at_builtin;refine wpList_append_own _ rfl _ _ 175 rfl wr.heap.size 178 iP zeroPath 2 32 Tryz.underlying175 hiP hzP0 hzP1 hzP2 rfl (by decide) (.slice (some ⟨wr.heap.size,0,none⟩) 0 0) 0 [] rfl ?c0 ⟨bQ,0,none⟩ g.sta.length cQ news rfl ?cl ?c1 ?c2 ?c3 ?c4 ?c5 ?_)
       case c0=>exact⟨by simp,.inr ⟨wr.heap.size,0,#[],rfl,Nat.le_refl _,heap_alloc_new _ _,Nat.le_refl _,Nat.zero_le _,rfl,rfl⟩⟩
       case cl=>exact HNL.out
       case c1=>
        intro j u hj
        have h1:=HNC.out j u hj
        exact(World.cell?_alloc_lt _ _ _ (World.block_lt_of_cell? _ _ h1)).trans h1
       case c2=>exact HON.out
       case c3=>unfold maxLen;omega
       case c4=>omega
       case c5=>simp
       intro v' w6 hown' hgrow hnil
       have hbU:Below wr.heap.size wr w6:=Below.grown (Below.alloc (Below.refl _ _) (Nat.le_refl _) _) hgrow (by simp) (fun j e=>by cases e;exact Nat.le_refl _)
       obtain⟨bN,cN,cur,rfl,hbN,hgN,hcN,_,hcs,hct⟩:∃bN cN cur,v'=.slice (some ⟨bN,0,none⟩) g.sta.length cN∧wr.heap.size≤bN∧w6.heap[bN]? =some (.cells cur 178 (0,0))∧g.sta.length≤cN∧cN≤maxLen∧cur.size=cN*2∧cur.toList.take (g.sta.length*2)=news:=by
        rcases hown'.2 with ⟨_,h0⟩|h
        ·omega
        ·exact h
       obtain⟨T,hT⟩:∃T,T=table (lnk g) g.sta.length f k:=⟨_,rfl⟩
       have hTl:T.length=g.sta.length:=by rw[hT];exact table_len _ _ _ _
       have HG:=zh (show GTab (k+1) T by rw[hT];exact GTab.table hg hf k)
       have HTN:=zh (show TabP w6 bN T by
        have:=HCP.out w6 cur bN hbU hgN (by rw[table_len];exact hct) (by rw[table_len,hcs];omega)
        rwa [←hT]at this)
       have HTO:=zh (show TabP w6 bQ T by rw[hT];exact HT.out.below hbU)
       have HLU:=zh (HL.out.below hbU)
       have HPU:=zh (HP.out.step hbU)
       have hneq:bQ≠bN:=by have:=HT.out.lt;omega
       have hwN:w.heap.size<bN:=by have:=blk_lt HP.out.box;omega
       have HGN:=zh hgN
       have HTT:=zh hT
       have HTL:=zh hTl
       clear hT hTl hgN hgrow hown' hnil hct hcs hbN hbU HNC HON HNL HCP HL HP HT
       obtain⟨U,hU⟩:∃U,U=w6:=⟨_,rfl⟩
       rw[←hU]at HTN HTO HLU HPU HGN
       rw[←hU]
       clear hU
       go_wp2_with fail
       go_loopw [13] (fun i wv=>∃p:Nat,p≤g.sta.length∧i=.int .i64 p∧Hid (Ke bN U wv)∧Hid (TabP wv bN (rowsT (lnk g) g.sta.length p T))∧Hid (PB w a g wv)) (fun i _=>g.sta.length-(intOf i).toNat)
       case atStart=>exact⟨0,Nat.zero_le _,rfl,zh (Ke.refl _ _),HTN,HPU⟩
       case round=>
        clear HPU HTN
        obtain⟨p,hp,rfl,HK,HTN,HP⟩:=hrel
        by_cases hlp:p<g.sta.length
        ·go_wp2_with fail
         obtain⟨wq,hwq⟩:∃W,W=wr:=⟨_,rfl⟩
         rw[←hwq]at HK HTN HP
         rw[←hwq]
         clear hwq
         go_loopw [14] (fun i wv=>∃q:Nat,q≤g.sta.length∧i=.int .i64 q∧Hid (Ke bN U wv)∧Hid (TabP wv bN (relaxRow (lnk g) T q (rowsT (lnk g) g.sta.length p T) p))∧Hid (PB w a g wv)) (fun i _=>g.sta.length-(intOf i).toNat)
         case atStart=>exact⟨0,Nat.zero_le _,rfl,HK,HTN,HP⟩
         case round=>
          clear HK HTN HP
          obtain⟨q,hq,rfl,HK,HTN,HP⟩:=hrel
          by_cases hlq:q<g.sta.length
          ·have HLr:=zh (HLU.out.keep HK.out HGN.out (by decide) (by decide))
           have HTr:=zh (HTO.out.keep HK.out HGN.out (by decide) hneq)
           obtain⟨l0,l1,_,_⟩:=HLr.out.at_ hlp hlq
           have hpT:p<T.length:=by rw[HTL.out];exact hlp
           have hrow:=row_succ (lnk g) T q (rowsT (lnk g) g.sta.length p T) p
           obtain⟨N,hN⟩:∃N,N=relaxRow (lnk g) T q (rowsT (lnk g) g.sta.length p T) p:=⟨_,rfl⟩
           have HGT:=zh (show GTab (k+2) N by rw[hN];exact GTab.row hg HG.out (GTab.rows hg HG.out))
           have hNl:q<N.length:=by rw[hN,row_len,rows_len,HTL.out];exact hlq
           rw[←hN]at HTN hrow
           have HROW:=zh hrow
           clear hN hrow
           by_cases hl:0<lnk g p q
           ·have hlb:decide (0<lnk g p q)=true:=decide_eq_true hl
            obtain⟨⟨hq0,hq16⟩,hl0,hl20⟩:=lnk_20 hg hl
            obtain⟨l,hle⟩:∃l,l=lnk g p q:=⟨_,rfl⟩
            rw[←hle]at l1 hlb hl0 hl20
            have HLE:=zh hle
            have HLP:=zh hl
            clear hle hl
            cases e:T[p]with
            |none=>
             have HE:=zh (show relaxRow (lnk g) T (q+1) (rowsT (lnk g) g.sta.length p T) p=N by rw[HROW.out];exact relax_none (by rw[List.getD_eq_getElem?_getD,List.getElem?_eq_getElem hpT,e];rfl))
             obtain⟨t0,_⟩:=HTr.out.none_ hpT e
             clear e
             go_wp2_with fail
             go_roundw
             case rel=>exact⟨q+1,by omega,by go_num,HK,zh (by rw[HE.out];exact HTN.out),HP⟩
             case measure=>simp[intOf];omega
            |some r=>
             have heD:T.getD p none=some r:=by rw[List.getD_eq_getElem?_getD,List.getElem?_eq_getElem hpT,e];rfl
             have HE:=zh (show relaxRow (lnk g) T (q+1) (rowsT (lnk g) g.sta.length p T) p=if better (ext r (q,l)) (N.getD q none)then N.set q (some (ext r (q,l)))else N by rw[HROW.out,HLE.out];exact relax_some HLP.out heD)
             have hgr:=HG.out p r heD
             have hr1:=hgr.pos
             have hr2:=hgr.len
             have hr3:=hgr.n0
             have hr4:=hgr.n1
             have hgx:=hgr.ext ⟨hq0,hq16⟩ ⟨hl0,hl20⟩
             obtain⟨bs,c,t0,t1,hrc,hIr,_⟩:=HTr.out.some_ hpT e
             have HIR:=zh hIr
             have hrp:decide ((0:Int)<(r.st.length:Int))=true:=decide_eq_true (by omega)
             clear e heD hgr hIr
             go_upto_region 27 with fail
             refine paths_r27 wr r l g.sta.length p q bL bQ cQ (s0+p) bs c hr1 (by omega) hr3 (by omega) hl0 (by omega) hlp hlq t0 t1 l0 l1 HIR.out _ _ _ _ _ _ _ _ _ _ _ _ _ _ _ _ _ _ _ _ _ _ _ _ _ _ _ _ _ _ _ _ _ _ _ _ _ _ _ _ _ _ _ _ _ _ _ _ _ _ _ _ _ _ _ _ _ _ _ _ _ _ _ _ _ _ _ _ _ _ _ _ _ _ _ _ _ _ _ _ _ _ _ _ _ _ _ _ _ _ _ _ _ _ _ _ _ _ _ _ _ _ _ _ _ _ _ _ _ _ _ _ _ _ _ _ _ _ _ _ _ _ _ _ _ _ _ _ _ _ _ _ _ _ _ _ _ _ _ _ _ _ _ _ _ _ ?_
             intro bX v v112 v113 v114 v115 v116 v117 v118 v119 v120 v121 v122 v123 v124 v125 v126 v127 v128 v129 v130 v131 v132 v133 v134 v135 wx hX hkX hown hbX
             dsimp only
             obtain⟨g1,c1,rfl,hc1,_,hIB⟩:=hown.intB (by simp)
             obtain⟨x,hx⟩:∃x,x=ext r (q,l):=⟨_,rfl⟩
             rw[←hx]at HE hgx
             have hxs:x.st=r.st++ [(q:Int)]:=by rw[hx];rfl
             have hxn:x.n=r.n+l:=by rw[hx];rfl
             rw[←hxs]at hkX hc1 hIB
             rw[←hxn]at hkX
             have hxp:=hgx.pos
             have hxl:=hgx.len
             have HDX:=zh hgx.dig
             have HIB:=zh hIB
             have HKX:=zh hkX
             have HBX:=zh hbX
             have HTX:=zh (HTN.out.below hbX)
             have x0:wx.cell? ⟨bX,0,none⟩=some (.slice (some ⟨g1,0,none⟩) x.st.length c1):=by rw[cell_of_row _ _ _ _ _ _ hkX];rfl
             have x1:wx.cell? ⟨bX,1,none⟩=some (.int .i64 x.n):=by rw[cell_of_row _ _ _ _ _ _ hkX];rfl
             have yX:=blk_lt hkX
             have yNX:=HTX.out.lt
             clear hx hxs hxn hgx hIB hkX hown hbX l0 l1 t0 t1
             go_upto_region 28 with fail
             cases e:N[q]with
             |none=>
              obtain⟨n0,n1⟩:=HTX.out.none_ hNl e
              have HBT:=zh (show(if better x (N.getD q none)then N.set q (some x)else N)=N.set q (some x) by rw[List.getD_eq_getElem?_getD,List.getElem?_eq_getElem hNl,e];rfl)
              clear e
              go_region_held3 (SHd wx) ((refine Sh.goal ?_;exact zsh)) (first|(go_at_call 160;(with_reducible refine Calls.mono (better_none x _ _ _ hxp) ?_);rintro e w2' ⟨rfl,hb2'⟩))
              all_goals
               obtain⟨w2,hw2⟩:∃W,W=w2':=⟨_,rfl⟩
               have hb2:Below wx.heap.size wx w2:=by rw[hw2];exact zbl
               rw[←hw2]
               clear hw2 hb2'
               have hB2:=HBX.out.trans (hb2.mono HBX.out.size)
               have HT2:=zh (HTX.out.below hb2)
               have k2:=blk_step hb2 HKX.out
               have y0:w2.cell? ⟨bX,0,none⟩=some (.slice (some ⟨g1,0,none⟩) x.st.length c1):=by rw[cell_of_row _ _ _ _ _ _ k2];rfl
               have y1:w2.cell? ⟨bX,1,none⟩=some (.int .i64 x.n):=by rw[cell_of_row _ _ _ _ _ _ k2];rfl
               obtain⟨ar2,hz1,hz2,_⟩:=HT2.out
               have v0:=(cell_of_row w2 bN (q*2) _ _ _ hz1).trans (Array.getElem?_eq_getElem (by omega))
               have v1:=(cell_of_row w2 bN (q*2+1) _ _ _ hz1).trans (Array.getElem?_eq_getElem (by omega))
               have z0:=frozen_of_row w2 bN (q*2) _ _ hz1
               have z1:=frozen_of_row w2 bN (q*2+1) _ _ hz1
               have yN:=blk_lt hz1
               have yX2:=blk_lt k2
               have HIB2:=zh (HIB.out.of (hb2.block g1 (by obtain⟨_,h,_⟩:=HIB.out;exact blk_lt h)))
               clear hz1 k2 x0 x1
               go_wp2_with fail
               go_roundw
               case rel=>
                refine⟨q+1,by omega,by go_num,zh ((HK.out.trans (Ke.of hB2)).trans (Ke.set2 w2 _ _)),zh ?_,zh (((HP.out.step hB2).set (p:=⟨bN,q*2,none⟩) _ hwN).set (p:=⟨bN,q*2+1,none⟩) _ hwN)⟩
                rw[HE.out,HBT.out]
                exact HT2.out.set hNl hc1 HIB2.out
               case measure=>simp[intOf];omega
             |some r2=>
              obtain⟨bs2,cc2,n0,n1,_,hI2,_⟩:=HTX.out.some_ hNl e
              have heN:N.getD q none=some r2:=by rw[List.getD_eq_getElem?_getD,List.getElem?_eq_getElem hNl,e];rfl
              have hg2:=HGT.out q r2 heN
              have hp2:=hg2.pos
              have hrl:=rcmp_lt HDX.out hg2.dig
              have HI2:=zh hI2.ints
              clear e hI2 hg2
              have hCB:=zh (show ∀W,Below wx.heap.size wx W→Calls Tryz.prog 160 #[.agg #[.slice (some ⟨g1,0,none⟩) x.st.length c1,.int .i64 x.n],.agg #[.slice (some ⟨bs2,0,none⟩) r2.st.length cc2,.int .i64 r2.n]] W fun e w'=>e=.returned (.bool (decide (rcmp x r2<0)))∧Below W.heap.size W w' from fun W hW=>better_some x r2 _ _ _ _ W hxp hp2 (by omega) (HIB.out.ints.to hW) (HI2.out.to hW))
              cases hcmp:decide (rcmp x r2<0)with
              |false=>
               rw[hcmp]at hCB
               have HBT:=zh (show(if better x (N.getD q none)then N.set q (some x)else N)=N by
                rw[heN,if_neg]
                show ¬decide (rlt x r2)=true
                rw[decide_eq_true_iff,←hrl]
                exact of_decide_eq_false hcmp)
               clear heN hrl hcmp
               go_region_held3 (SHd wx) ((refine Sh.goal ?_;exact zsh)) (first|(go_at_call 160;(with_reducible refine Calls.mono (hCB.out _ (by exact zbl)) ?_);rintro e w2' ⟨rfl,hb2'⟩))
               all_goals
                obtain⟨w2,hw2⟩:∃W,W=w2':=⟨_,rfl⟩
                have hb2:Below wx.heap.size wx w2:=by rw[hw2];exact zbl
                rw[←hw2]
                clear hw2 hb2' x0 x1 n0 n1
                have hB2:=HBX.out.trans (hb2.mono HBX.out.size)
                go_wp2_with fail
                go_roundw
                case rel=>exact⟨q+1,by omega,by go_num,zh (HK.out.trans (Ke.of hB2)),zh (by rw[HE.out,HBT.out];exact HTX.out.below hb2),zh (HP.out.step hB2)⟩
                case measure=>simp[intOf];omega
              |true=>
               rw[hcmp]at hCB
               have HBT:=zh (show(if better x (N.getD q none)then N.set q (some x)else N)=N.set q (some x) by
                rw[heN,if_pos]
                show decide (rlt x r2)=true
                rw[decide_eq_true_iff,←hrl]
                exact of_decide_eq_true hcmp)
               clear heN hrl hcmp
               go_region_held3 (SHd wx) ((refine Sh.goal ?_;exact zsh)) (first|(go_at_call 160;(with_reducible refine Calls.mono (hCB.out _ (by exact zbl)) ?_);rintro e w2' ⟨rfl,hb2'⟩))
               all_goals
                obtain⟨w2,hw2⟩:∃W,W=w2':=⟨_,rfl⟩
                have hb2:Below wx.heap.size wx w2:=by rw[hw2];exact zbl
                rw[←hw2]
                clear hw2 hb2' n0 n1
                have hB2:=HBX.out.trans (hb2.mono HBX.out.size)
                have HT2:=zh (HTX.out.below hb2)
                have k2:=blk_step hb2 HKX.out
                have y0:w2.cell? ⟨bX,0,none⟩=some (.slice (some ⟨g1,0,none⟩) x.st.length c1):=by rw[cell_of_row _ _ _ _ _ _ k2];rfl
                have y1:w2.cell? ⟨bX,1,none⟩=some (.int .i64 x.n):=by rw[cell_of_row _ _ _ _ _ _ k2];rfl
                obtain⟨ar2,hz1,hz2,_⟩:=HT2.out
                have v0:=(cell_of_row w2 bN (q*2) _ _ _ hz1).trans (Array.getElem?_eq_getElem (by omega))
                have v1:=(cell_of_row w2 bN (q*2+1) _ _ _ hz1).trans (Array.getElem?_eq_getElem (by omega))
                have z0:=frozen_of_row w2 bN (q*2) _ _ hz1
                have z1:=frozen_of_row w2 bN (q*2+1) _ _ hz1
                have yN:=blk_lt hz1
                have yX2:=blk_lt k2
                have HIB2:=zh (HIB.out.of (hb2.block g1 (by obtain⟨_,h,_⟩:=HIB.out;exact blk_lt h)))
                clear hz1 k2 x0 x1
                go_wp2_with fail
                go_roundw
                case rel=>
                 refine⟨q+1,by omega,by go_num,zh ((HK.out.trans (Ke.of hB2)).trans (Ke.set2 w2 _ _)),zh ?_,zh (((HP.out.step hB2).set (p:=⟨bN,q*2,none⟩) _ hwN).set (p:=⟨bN,q*2+1,none⟩) _ hwN)⟩
                 rw[HE.out,HBT.out]
                 exact HT2.out.set hNl hc1 HIB2.out
                case measure=>simp[intOf];omega
           ·have hlb:decide (0<lnk g p q)=false:=decide_eq_false hl
            have HE:=zh (show relaxRow (lnk g) T (q+1) (rowsT (lnk g) g.sta.length p T) p=N by rw[HROW.out];exact relax_no hl)
            obtain⟨l,hle⟩:∃l,l=lnk g p q:=⟨_,rfl⟩
            rw[←hle]at l1 hlb
            clear hle hl
            go_wp2_with fail
            go_roundw
            case rel=>exact⟨q+1,by omega,by go_num,HK,zh (by rw[HE.out];exact HTN.out),HP⟩
            case measure=>simp[intOf];omega
          ·have hqn:q=g.sta.length:=by omega
           have HT2:=zh (show TabP wr bN (rowsT (lnk g) g.sta.length (p+1) T) by have:=HTN.out;rw[hqn]at this;rw[rows_succ];exact this)
           clear hqn HTN
           go_wp2_with fail
           go_roundw
           case rel=>exact⟨p+1,by omega,by go_num,HK,HT2,HP⟩
           case measure=>simp[intOf];omega
        ·have hpn:p=g.sta.length:=by omega
         have HT2:=zh (show TabP wr bN (table (lnk g) g.sta.length f (k+1)) by have:=HTN.out;rw[hpn,HTT.out]at this;exact this)
         clear hpn HTN
         go_wp2_with fail
         go_roundw
         case rel=>exact⟨k+1,bN,cN,by omega,by go_num,rfl,hcN,zh (HLU.out.keep HK.out HGN.out (by decide) (by decide)),HP,HT2⟩
         case measure=>simp[intOf];omega
      ·have hkn:k=g.sta.length-1:=by omega
       have HTF:=zh (show TabP wr bQ (table (lnk g) g.sta.length f (g.sta.length-1)) by have:=HT.out;rwa [hkn]at this)
       clear hkn HT
       go_wp2_with fail
       go_ret
       exact⟨bQ,cQ,rfl,hcQ,HTF.out,HP.out.low⟩
end Go.Proofs.YtehnikhicnnnhaaGreatDoor
/- The reference: Own, a field with lists of its own. -/
import Derived.Test.YtehnikhicnnnhaaGreatDoorPa46
import Derived.Laws.AppendOwnNone
namespace Go.Proofs.YtehnikhicnnnhaaGreatDoor
open Go.RowKit
theorem Tryz.infoRM:(Tryz.prog.info? 107).map (fun i=>(i.zero,i.size,i.bytes))=some (some zeroMir,6,80):=by kernel_rfl
theorem Tryz.rres_fld{fn:Func}{t:Tmp}(h:fn.results= #[.cell t 66])(tmps:Array Value)(w:World){b:Nat}{T:TypeId}{v0 v1 v2:Value}(ht:tmps.getD t undef=.pointer (some ⟨b,0,none⟩))(hb:w.heap[b]? =some (.cells #[v0,v1,v2] T (0,0))):
 (results fn tmps).run Tryz.prog w=.ok (.agg #[v0,v1,v2]) w:=by
 have c0:w.cell? ⟨b,0,none⟩=some v0:=by rw[cell_of_row w _ 0 _ _ _ hb];rfl
 have c1:w.cell? ⟨b,1,none⟩=some v1:=by rw[cell_of_row w _ 1 _ _ _ hb];rfl
 have c2:w.cell? ⟨b,2,none⟩=some v2:=by rw[cell_of_row w _ 2 _ _ _ hb];rfl
 rw[Array.getD_eq_getD_getElem?]at ht
 simp only[results,h]
 simp[go_sem,ht,c0,c1,c2]
theorem OwnT.setc{T:TypeId}{w:World}{base c:Nat}{A:Option Addr}{ys:List MA}(h:OwnT T w base A c ys)(hf:∀y∈ys,∀a,y.A=some a→base≤a.block){b o:Nat}(v:Value)(hb:b<base):OwnT T (w.setCell ⟨b,o,none⟩ v) base A c ys:=
 h.kept (grownBy_setCellO w b o v) (fun d hd e=>by
  subst hd
  have:=(World.ownsRow.lt h.row d.block rfl).1
  injection e with e
  omega) (fun y hy _ a ha e=>by
  have:=hf y hy a ha
  injection e with e
  omega)
def NilW(xs:List MA):Prop:=∀x∈xs,x.A=none→x.c=0
theorem ints_at{w:World}{B:Nat}{A:Option Addr}{l:List Int}{ad:Addr}(h:IntsR w B A l)(e:A=some ad):∀j u,(l.map (Value.int .i64))[j]? =some u→w.cell? (ad.add j)=some u:=by
 intro j u hj
 rw[List.getElem?_map]at hj
 obtain⟨x,hx,rfl⟩:=Option.map_eq_some_iff.1 hj
 obtain⟨hj',rfl⟩:=List.getElem?_eq_some_iff.1 hx
 obtain⟨b,off,e2,hb,hc⟩:=h.at (by intro e;rw[e]at hj';simp at hj')
 rw[e]at e2
 cases e2
 rw[Addr.add_lit]
 exact hc j hj'
theorem wpList_append_own_nil{P:Program}{w:World}{ops:Array Oper}{rest:List Oper}{o:Oper}{a:Act}{Q:Exit→Act→World→Prop}(hgd:o.guard=none)(s x:Operand)(t:TypeId)
 (ho:o.op=.call {callee:=.builtin .append,args:= #[s,x],argTypes:= #[t,t]})
 (base:Nat) (e:TypeId) (i:TypeInfo) (size:Nat) (ht:P.underlying t=some (.slice e)) (hi:P.info? e=some i)
 (v:Value) (n:Nat) (xs:List Value) (hs:a.eval s=v) (hown:w.ownsRow base e size v n xs) (c:Nat) (hx:a.eval x=.slice none 0 c)
 (h:wpList P ops Q rest (a.put o.dst v) w):wpList P ops Q (o::rest) a w:=by
 refine wpList_plain hgd fun K hK=>?_
 have hrun:(Builtin.append_ #[t,t] o.type #[v,.slice none 0 c]).run P w=.ok v w:=by
  rcases hown.2 with ⟨rfl,rfl⟩|⟨g,cap,cur,rfl,_,_,hnc,_⟩
  ·simp[Builtin.append_,run_underlying ht,sizeOf,typeInfo,hi,Builtin.lenOf,Builtin.firstCells]
  ·simp[Builtin.append_,run_underlying ht,sizeOf,typeInfo,hi,Builtin.lenOf,Builtin.firstCells,hnc,storeCells]
 unfold Oper.wp
 simp[execOp,ho,resolve,invoke,builtin,hs,hx,hrun,Result.andThen]
 exact hK _ _ h
set_option maxRecDepth 100000 in
set_option maxHeartbeats 8000000 in
theorem rOwn0_c(tk ls:Int)(A:Option Addr)(c:Nat)(xs:List MA)(w:World)(hl:xs.length≤1000)(hw:∀x∈xs,x.m.way.length≤1000)(hf:FldR w w.heap.size A c xs):
 Calls Tryz.prog 117 #[(.agg #[.int .i64 tk,.int .i64 ls,.slice A xs.length c])] w fun e w'=>∃A' c' ys,e=.returned (.agg #[.int .i64 tk,.int .i64 ls,.slice A' ys.length c'])∧ys.map MA.m=xs.map MA.m∧OwnT 107 w' w.heap.size A' c' ys∧(∀y∈ys,∀a,y.A=some a→w.heap.size≤a.block)∧NilW ys∧Below w.heap.size w w':=by
 obtain⟨i0,hi,hz0,hz1,hz2⟩:=info_parts Tryz.infoInt
 obtain⟨iM,hiM,hzM0,hzM1,hzM2⟩:=info_parts Tryz.infoRM
 obtain⟨W0,hW0⟩:∃W0,W0=(w.alloc (.cells #[.int .i64 tk,.int .i64 ls,.slice A xs.length c] 66)).alloc (.cells #[.int .i64 0,.int .i64 0,.slice none 0 0] 66):=⟨_,rfl⟩
 have hB0:Below w.heap.size w W0:=by rw[hW0];exact zbl
 have hs0:W0.heap.size=w.heap.size+2:=by rw[hW0];simp
 have k0:W0.heap[w.heap.size]? =some (.cells #[.int .i64 tk,.int .i64 ls,.slice A xs.length c] 66 (0,0)):=by rw[hW0];exact(Below.heap_alloc _ _ _ (by simp)).trans (heap_alloc_new w _)
 have k1:W0.heap[w.heap.size+1]? =some (.cells #[.int .i64 0,.int .i64 0,.slice none 0 0] 66 (0,0)):=by rw[hW0];exact heap_two w _ _
 have HB0:=zh hB0
 have HF:=zh (show FldR W0 W0.heap.size A c xs from⟨(hf.rw_.belowB (w0:=w) hB0 (Nat.le_refl _)).more hB0.size,fun x hx=>((hf.each x hx).belowB (w0:=w) hB0 (Nat.le_refl _)).more hB0.size,hf.cap⟩)
 have HS0:=zh hs0
 have K0:=zh k0
 have K1:=zh k1
 have z0:=bk_lt k0
 (obtain⟨g0,gf0,g1,gf1,g2,gf2⟩:=cv3 k0)
 clear hf k0 k1 hB0 hs0
 go_enter Tryz.func117,Tryz.ntmps117
 go_upto_region 1 with fail
 rw[←hW0]
 clear hW0
 go_wp2_with fail
 go_loopw [3,4] (fun v i wr=>∃(k:Nat) (A':Option Addr) (c':Nat) (ys:List MA),k≤xs.length∧i=.int .i64 k∧v=.slice A' k c'∧ys.length=k∧Hid (ys.map MA.m=(xs.take k).map MA.m)∧Hid (OwnT 107 wr W0.heap.size A' c' ys)∧Hid (∀y∈ys,∀a,y.A=some a→W0.heap.size≤a.block)∧Hid (NilW ys)∧Below W0.heap.size W0 wr) (fun _ i _=>xs.length-(intOf i).toNat)
 case atStart=>exact⟨0,none,0,[],Nat.zero_le _,rfl,rfl,rfl,zh rfl,zh (OwnT.nil_ _ _ _),zh (by simp),zh (by intro x hx;simp at hx),Below.refl _ _⟩
 case round=>
  obtain⟨k,A',c',ys,hk,rfl,rfl,hyl,HYM,HOW,HYF,HYN,hb⟩:=hrel
  have hc1:=(bcell hb).1
  have hf1:=(bcell hb).2
  have y0:w.heap.size<wr.heap.size:=Nat.lt_of_lt_of_le z0 hb.size
  by_cases hlt:k<xs.length
  ·obtain⟨x,hx⟩:∃x,x=xs[k]:=⟨_,rfl⟩
   obtain⟨b,off,ea,hbl,c0,c1,c2,c3,c4,c5⟩:=HF.out.rw_.get6 (k:=k) (by simpa using hlt) (by rw[List.getElem_map,←hx];rfl)
   have hxw:=hw x (by rw[hx];exact List.getElem_mem hlt)
   have HXM:=zh (HF.out.each x (by rw[hx];exact List.getElem_mem hlt))
   have yb:b<wr.heap.size:=Nat.lt_of_lt_of_le hbl hb.size
   have HX:=zh hx
   rw[ea]at g2
   clear hx ea
   go_upto_region 6 with fail
   obtain⟨WB,hWB⟩:∃W,W=wr.alloc (.cells #[.string x.m.name,.string x.m.sec,.int .i64 x.m.loc,.slice x.A x.m.way.length x.c,.int .i64 x.m.left,.int .i64 x.m.heard] 107):=⟨_,rfl⟩
   obtain⟨bX,hbX⟩:∃b,b=wr.heap.size:=⟨_,rfl⟩
   have kB:WB.heap[bX]? =some (.cells #[.string x.m.name,.string x.m.sec,.int .i64 x.m.loc,.slice x.A x.m.way.length x.c,.int .i64 x.m.left,.int .i64 x.m.heard] 107 (0,0)):=by rw[hWB,hbX];exact heap_alloc_new wr _
   have hbB:Below wr.heap.size wr WB:=by rw[hWB];exact zbl
   rw[←hWB,←hbX]
   have HBB:=zh hbB
   have KB:=zh kB
   have hbx:=blk_lt kB
   (obtain⟨e0,ef0,e1,ef1,e2,ef2,e3,ef3,e4,ef4,e5,ef5⟩:=cv6 kB)
   have HWI:=zh (show IntsR WB WB.heap.size x.A x.m.way from((HXM.out.way.to hb).to hbB))
   have hzb:W0.heap.size≤bX:=by rw[hbX];exact hb.size
   have HBX:=zh hbX
   clear hWB hbX kB hbB c0 c1 c2 c3 c4 c5
   have hemp:OwnI (WB.alloc (.cells #[] 3)) WB.heap.size (.slice (some ⟨WB.heap.size,0,none⟩) 0 0) []:=⟨by simp,.inr ⟨WB.heap.size,0,#[],rfl,Nat.le_refl _,heap_alloc_new WB _,Nat.le_refl _,Nat.zero_le _,rfl,rfl⟩⟩
   have HE:=zh hemp
   clear hemp
   cases hxa:x.A with
   |none=>
    have hnil:x.m.way= []:=by have:=HWI.out;rw[hxa]at this;cases hm:x.m.way with
     |nil=>rfl
     |cons y l=>rw[hm]at this;obtain⟨b,off,e,_⟩:=this.at (by simp);cases e
    have hln:x.m.way.length=0:=by rw[hnil];rfl
    rw[hxa,hln]at e3
    have HNIL:=zh hnil
    have HLN:=zh hln
    rw[hxa]at KB
    clear hxa hnil hln
    go_upto_region 7 with (at_builtin;refine wpList_append_own_nil rfl _ _ 30 rfl WB.heap.size 3 i0 1 Tryz.underlying30 hi _ 0 [] rfl ?c1 x.c rfl ?_)
    case c1=>exact HE.out
    obtain⟨w7,hw7⟩:∃W,W=((WB.setCell ⟨bX,3,none⟩ (.slice (some ⟨WB.heap.size,0,none⟩) 0 0)).alloc (.cells #[] 3)):=⟨_,rfl⟩
    rw[←hw7]
    obtain⟨A7,hA7⟩:∃A,A=some (⟨WB.heap.size,0,none⟩:Addr):=⟨_,rfl⟩
    obtain⟨c7,hc7⟩:∃n:Nat,n=0:=⟨_,rfl⟩
    have hb7:Below wr.heap.size wr w7:=by
     rw[hw7]
     exact(HBB.out.setCell (p:=⟨bX,3,none⟩) (by show wr.heap.size≤bX;rw[HBX.out];exact Nat.le_refl _) _).alloc (by simp;exact HBB.out.size) _
    have k7:w7.heap[bX]? =some (.cells #[.string x.m.name,.string x.m.sec,.int .i64 x.m.loc,.slice A7 x.m.way.length c7,.int .i64 x.m.left,.int .i64 x.m.heard] 107 (0,0)):=by
     rw[hw7,hA7,hc7]
     refine blk_alloc ((heap_setCell_same _ _ _ _ _ _ KB.out).trans ?_)
     rw[HLN.out];rfl
    have hm7:MirR w7 w7.heap.size x.m A7 c7:=⟨by rw[HNIL.out];exact Rw.nil_,by rw[HLN.out];exact Nat.zero_le _⟩
    have hf7:∀a,A7=some a→wr.heap.size≤a.block:=fun a ha=>by rw[hA7]at ha;cases ha;exact HBB.out.size
    have HN7:Hid (A7=none→c7=0):=zh fun h=>by rw[hA7]at h;cases h
    clear hw7 hA7 hc7 e0 e1 e2 e3 e4 e5 ef0 ef1 ef2 ef3 ef4 ef5
    have hs7:=hb7.size
    have HOW7:=zh (HOW.out.below hb7)
    have HB7:=zh hb7
    have HM7:=zh hm7
    have HF7:=zh hf7
    have hbx7:=blk_lt k7
    (obtain⟨q0,qf0,q1,qf1,q2,qf2,q3,qf3,q4,qf4,q5,qf5⟩:=cv6 k7)
    clear hb7 hm7 k7 hf7
    go_wp2_with (at_builtin;refine wpList_append_own_at _ rfl _ _ 64 rfl W0.heap.size 107 iM zeroMir 6 80 Tryz.underlying64 hiM hzM0 hzM1 hzM2 rfl (by decide) (.slice A' k c') k (ys.map encMA).flatten rfl ?d0 ⟨w7.heap.size,0,none⟩ 1 1 (encMA ⟨x.m,A7,c7⟩) rfl ?dl ?d1 ?d2 ?d3 ?d4 ?d5 ?_)
    case d0=>
     have:=HOW7.out.row
     rw[hyl]at this
     exact World.ownsRow.alloc this _
    case dl=>rfl
    case d1=>
     intro j u hj
     rw[add0,cell_of_row _ _ _ _ _ _ (heap_alloc_new w7 _)]
     match j,hj with
     |0,hj=>simpa [encMA]using hj
     |1,hj=>simpa [encMA]using hj
     |2,hj=>simpa [encMA]using hj
     |3,hj=>simpa [encMA]using hj
     |4,hj=>simpa [encMA]using hj
     |5,hj=>simpa [encMA]using hj
     |j+6,hj=>simp[encMA]at hj
    case d2=>intro u hu;simp[encMA]at hu;rcases hu with rfl|rfl|rfl|rfl|rfl|rfl<;>rfl
    case d3=>unfold maxLen;omega
    case d4=>omega
    case d5=>have:=hb.size;simp;omega
    intro v8 w8 hown8 hgrow8 _ hat8
    obtain⟨A8,c8,hv8⟩:=own_form hown8
    subst hv8
    go_wp2_with fail
    go_roundw
    case rel=>
     have hg8:Below wr.heap.size wr w8→True:=fun _=>trivial
     have hrow8:∀b,b<w7.heap.size→(∀d,A'=some d→b≠d.block)→w8.heap[b]? =w7.heap[b]? :=fun b hb hne=>(gr_block hgrow8 (by simp;omega) (fun e=>by
      cases A' with
      |none=>cases e
      |some d=>cases e;exact hne d rfl rfl)).trans (Below.heap_alloc _ _ _ hb)
     have hap:∀y∈ys,y.m.way≠ []→∀a,y.A=some a→∀d,A'=some d→a.block≠d.block:=HOW7.out.apart
     have hnew:∀d,A'=some d→d.block<wr.heap.size:=fun d hd=>by
      have:=(World.ownsRow.lt HOW.out.row d.block (by rw[hd];rfl)).2
      exact this
     have hfl:((ys++ [(⟨x.m,A7,c7⟩:MA)]).map encMA).flatten=(ys.map encMA).flatten++encMA ⟨x.m,A7,c7⟩:=by simp
     have h8:∀y∈ys++ [(⟨x.m,A7,c7⟩:MA)],MirR w8 w8.heap.size y.m y.A y.c:=fun y hy=>by
      have h1:MirR w7 w7.heap.size y.m y.A y.c:=by
       rcases List.mem_append.1 hy with hy|hy
       ·exact HOW7.out.each y hy
       ·rw[List.mem_singleton.1 hy];exact HM7.out
      have h2:y.m.way≠ []→∀a,y.A=some a→∀d,A'=some d→a.block≠d.block:=by
       rcases List.mem_append.1 hy with hy|hy
       ·exact hap y hy
       ·intro hne a ha d hd e
        rw[List.mem_singleton.1 hy]at ha hne
        have h3:=hnew d hd
        have h4:=HF7.out a ha
        omega
      refine⟨fun hn=>?_,h1.cap⟩
      obtain⟨b',off',e,hb',hc'⟩:=h1.way hn
      have hn':y.m.way≠ []:=fun h=>hn (by rw[h];rfl)
      refine⟨b',off',e,Nat.lt_of_lt_of_le hb' (by have:=hgrow8.size;simp at this;omega),fun k' hk' j v hv=>?_⟩
      rw[←hc' k' hk' j v hv]
      exact World.cell?_of_block (a:=⟨b',off'+k'*1+j,none⟩) (hrow8 b' hb' (fun d hd=>h2 hn' _ e d hd))
     refine⟨k+1,A8,c8,ys++ [⟨x.m,A7,c7⟩],by omega,by go_num,rfl,by simp[hyl],zh ?_,zh ⟨?_,h8,?_⟩,zh ?_,zh ?_,?_⟩
     ·rw[List.map_append,HYM.out,List.take_succ_eq_append_getElem hlt,List.map_append,←HX.out];rfl
     ·rw[hfl,List.length_append,List.length_singleton,hyl];exact hown8
     ·intro y hy hne a ha d hd
      have hab:a.block<w7.heap.size:=by
       have h1:MirR w7 w7.heap.size y.m y.A y.c:=by
        rcases List.mem_append.1 hy with hy|hy
        ·exact HOW7.out.each y hy
        ·rw[List.mem_singleton.1 hy];exact HM7.out
       obtain⟨b',off',e,hb',_⟩:=h1.way (by simpa using hne)
       rw[ha]at e;cases e;exact hb'
      have h2:∀d,A'=some d→a.block≠d.block:=by
       rcases List.mem_append.1 hy with hy|hy
       ·exact hap y hy hne a ha
       ·intro d hd e
        rw[List.mem_singleton.1 hy]at ha
        have h3:=hnew d hd
        have h4:=HF7.out a ha
        omega
      subst hd
      rcases hat8 with h5|h5
      ·simp only[Value.ownBlock]at h5
       cases A' with
       |none=>cases h5
       |some d'=>
        have h6:d.block=d'.block:=by injection h5
        rw[h6];exact h2 d' rfl
      ·simp only[Value.ownBlock,Option.some.injEq]at h5
       (try simp at h5)
       omega
     ·intro y hy a ha
      rcases List.mem_append.1 hy with hy|hy
      ·exact HYF.out y hy a ha
      ·rw[List.mem_singleton.1 hy]at ha
       have h4:=HF7.out a ha
       have h5:=hb.size
       omega
     ·intro y hy ha
      rcases List.mem_append.1 hy with hy|hy
      ·exact HYN.out y hy ha
      ·rw[List.mem_singleton.1 hy]at ha ⊢
       exact HN7.out ha
     ·exact Below.grown ((hb.trans (HB7.out.mono hb.size)).alloc (by have:=hb.size;omega) _) hgrow8 (by have:=hb.size;simp;omega) (fun j e=>(World.ownsRow.lt HOW.out.row j (by rw[hyl];exact e)).1)
    case measure=>simp[intOf];omega
   |some ad=>
    have HNC:=zh (ints_at HWI.out hxa)
    rw[hxa]at e3 KB
    clear hxa
    go_upto_region 7 with (at_builtin;refine wpList_append_own _ rfl _ _ 30 rfl WB.heap.size 3 i0 (.int .i64 0) 1 8 Tryz.underlying30 hi hz0 hz1 hz2 rfl (by decide) (.slice (some ⟨WB.heap.size,0,none⟩) 0 0) 0 [] rfl ?c0 ad x.m.way.length x.c (x.m.way.map (Value.int .i64)) rfl ?cl ?c1 ?c2 ?c3 ?c4 ?c5 ?_)
    case c0=>exact HE.out
    case cl=>simp
    case c1=>intro j u hj;exact(World.cell?_alloc_lt _ _ _ (World.block_lt_of_cell? _ _ (HNC.out j u hj))).trans (HNC.out j u hj)
    case c2=>intro u hu;obtain⟨y,_,rfl⟩:=List.mem_map.1 hu;rfl
    case c3=>unfold maxLen;omega
    case c4=>omega
    case c5=>simp
    intro v6 w6 hown6 hgrow6 _
    have hb6:Below WB.heap.size WB w6:=Below.grown (Below.alloc (Below.refl _ _) (Nat.le_refl _) _) hgrow6 (by simp) (fun j e=>by cases e;exact Nat.le_refl _)
    have ho6:OwnI w6 WB.heap.size v6 x.m.way:=by unfold OwnI;simpa using hown6
    obtain⟨A7,c7,rfl,hc7,hi7,hf7⟩:=ho6.sl
    have k6:=blk_step hb6 KB.out
    have HON:=zh ho6
    clear hown6 hgrow6 ho6 e0 e1 e2 e3 e4 e5 ef0 ef1 ef2 ef3 ef4 ef5
    (obtain⟨e0,ef0,e1,ef1,e2,ef2,e3,ef3,e4,ef4,e5,ef5⟩:=cv6 k6)
    go_upto_region 7 with fail
    obtain⟨w7,hw7⟩:∃W,W=w6.setCell ⟨bX,3,none⟩ (.slice A7 x.m.way.length c7):=⟨_,rfl⟩
    rw[←hw7]
    have hb7:Below wr.heap.size wr w7:=by
     rw[hw7]
     exact(HBB.out.trans (hb6.mono HBB.out.size)).setCell (p:=⟨bX,3,none⟩) (by show wr.heap.size≤bX;rw[HBX.out];exact Nat.le_refl _) _
    have k7:w7.heap[bX]? =some (.cells #[.string x.m.name,.string x.m.sec,.int .i64 x.m.loc,.slice A7 x.m.way.length c7,.int .i64 x.m.left,.int .i64 x.m.heard] 107 (0,0)):=by
     rw[hw7]
     exact(heap_setCell_same _ _ _ _ _ _ k6).trans rfl
    have hf6:∀a,A7=some a→WB.heap.size≤a.block:=fun a ha=>(hf7 a ha).1
    have hm7:MirR w7 w7.heap.size x.m A7 c7:=⟨by
     rw[hw7]
     have:=IntsR.setc hi7 (p:=⟨bX,3,none⟩) (.slice A7 x.m.way.length c7) (fun a ha=>by have:=hf6 a ha;show a.block≠bX;omega)
     simpa using this,hc7⟩
    clear hf7
    have hf7:∀a,A7=some a→wr.heap.size≤a.block:=fun a ha=>by have:=hf6 a ha;have:=HBB.out.size;omega
    have HN7:Hid (A7=none→c7=0):=zh fun h=>by
     rcases HON.out.2 with ⟨e,_⟩|⟨g,cap,cur,e,_⟩
     ·injection e with _ _ e3
     ·rw[h]at e;cases e
    clear hw7 hi7 hc7 hf6 k6 hb6 e0 e1 e2 e3 e4 e5 ef0 ef1 ef2 ef3 ef4 ef5
    have hs7:=hb7.size
    have HOW7:=zh (HOW.out.below hb7)
    have HB7:=zh hb7
    have HM7:=zh hm7
    have HF7:=zh hf7
    have hbx7:=blk_lt k7
    (obtain⟨q0,qf0,q1,qf1,q2,qf2,q3,qf3,q4,qf4,q5,qf5⟩:=cv6 k7)
    clear hb7 hm7 k7 hf7
    go_wp2_with (at_builtin;refine wpList_append_own_at _ rfl _ _ 64 rfl W0.heap.size 107 iM zeroMir 6 80 Tryz.underlying64 hiM hzM0 hzM1 hzM2 rfl (by decide) (.slice A' k c') k (ys.map encMA).flatten rfl ?d0 ⟨w7.heap.size,0,none⟩ 1 1 (encMA ⟨x.m,A7,c7⟩) rfl ?dl ?d1 ?d2 ?d3 ?d4 ?d5 ?_)
    case d0=>
     have:=HOW7.out.row
     rw[hyl]at this
     exact World.ownsRow.alloc this _
    case dl=>rfl
    case d1=>
     intro j u hj
     rw[add0,cell_of_row _ _ _ _ _ _ (heap_alloc_new w7 _)]
     match j,hj with
     |0,hj=>simpa [encMA]using hj
     |1,hj=>simpa [encMA]using hj
     |2,hj=>simpa [encMA]using hj
     |3,hj=>simpa [encMA]using hj
     |4,hj=>simpa [encMA]using hj
     |5,hj=>simpa [encMA]using hj
     |j+6,hj=>simp[encMA]at hj
    case d2=>intro u hu;simp[encMA]at hu;rcases hu with rfl|rfl|rfl|rfl|rfl|rfl<;>rfl
    case d3=>unfold maxLen;omega
    case d4=>omega
    case d5=>have:=hb.size;simp;omega
    intro v8 w8 hown8 hgrow8 _ hat8
    obtain⟨A8,c8,hv8⟩:=own_form hown8
    subst hv8
    go_wp2_with fail
    go_roundw
    case rel=>
     have hg8:Below wr.heap.size wr w8→True:=fun _=>trivial
     have hrow8:∀b,b<w7.heap.size→(∀d,A'=some d→b≠d.block)→w8.heap[b]? =w7.heap[b]? :=fun b hb hne=>(gr_block hgrow8 (by simp;omega) (fun e=>by
      cases A' with
      |none=>cases e
      |some d=>cases e;exact hne d rfl rfl)).trans (Below.heap_alloc _ _ _ hb)
     have hap:∀y∈ys,y.m.way≠ []→∀a,y.A=some a→∀d,A'=some d→a.block≠d.block:=HOW7.out.apart
     have hnew:∀d,A'=some d→d.block<wr.heap.size:=fun d hd=>by
      have:=(World.ownsRow.lt HOW.out.row d.block (by rw[hd];rfl)).2
      exact this
     have hfl:((ys++ [(⟨x.m,A7,c7⟩:MA)]).map encMA).flatten=(ys.map encMA).flatten++encMA ⟨x.m,A7,c7⟩:=by simp
     have h8:∀y∈ys++ [(⟨x.m,A7,c7⟩:MA)],MirR w8 w8.heap.size y.m y.A y.c:=fun y hy=>by
      have h1:MirR w7 w7.heap.size y.m y.A y.c:=by
       rcases List.mem_append.1 hy with hy|hy
       ·exact HOW7.out.each y hy
       ·rw[List.mem_singleton.1 hy];exact HM7.out
      have h2:y.m.way≠ []→∀a,y.A=some a→∀d,A'=some d→a.block≠d.block:=by
       rcases List.mem_append.1 hy with hy|hy
       ·exact hap y hy
       ·intro hne a ha d hd e
        rw[List.mem_singleton.1 hy]at ha hne
        have h3:=hnew d hd
        have h4:=HF7.out a ha
        omega
      refine⟨fun hn=>?_,h1.cap⟩
      obtain⟨b',off',e,hb',hc'⟩:=h1.way hn
      have hn':y.m.way≠ []:=fun h=>hn (by rw[h];rfl)
      refine⟨b',off',e,Nat.lt_of_lt_of_le hb' (by have:=hgrow8.size;simp at this;omega),fun k' hk' j v hv=>?_⟩
      rw[←hc' k' hk' j v hv]
      exact World.cell?_of_block (a:=⟨b',off'+k'*1+j,none⟩) (hrow8 b' hb' (fun d hd=>h2 hn' _ e d hd))
     refine⟨k+1,A8,c8,ys++ [⟨x.m,A7,c7⟩],by omega,by go_num,rfl,by simp[hyl],zh ?_,zh ⟨?_,h8,?_⟩,zh ?_,zh ?_,?_⟩
     ·rw[List.map_append,HYM.out,List.take_succ_eq_append_getElem hlt,List.map_append,←HX.out];rfl
     ·rw[hfl,List.length_append,List.length_singleton,hyl];exact hown8
     ·intro y hy hne a ha d hd
      have hab:a.block<w7.heap.size:=by
       have h1:MirR w7 w7.heap.size y.m y.A y.c:=by
        rcases List.mem_append.1 hy with hy|hy
        ·exact HOW7.out.each y hy
        ·rw[List.mem_singleton.1 hy];exact HM7.out
       obtain⟨b',off',e,hb',_⟩:=h1.way (by simpa using hne)
       rw[ha]at e;cases e;exact hb'
      have h2:∀d,A'=some d→a.block≠d.block:=by
       rcases List.mem_append.1 hy with hy|hy
       ·exact hap y hy hne a ha
       ·intro d hd e
        rw[List.mem_singleton.1 hy]at ha
        have h3:=hnew d hd
        have h4:=HF7.out a ha
        omega
      subst hd
      rcases hat8 with h5|h5
      ·simp only[Value.ownBlock]at h5
       cases A' with
       |none=>cases h5
       |some d'=>
        have h6:d.block=d'.block:=by injection h5
        rw[h6];exact h2 d' rfl
      ·simp only[Value.ownBlock,Option.some.injEq]at h5
       (try simp at h5)
       omega
     ·intro y hy a ha
      rcases List.mem_append.1 hy with hy|hy
      ·exact HYF.out y hy a ha
      ·rw[List.mem_singleton.1 hy]at ha
       have h4:=HF7.out a ha
       have h5:=hb.size
       omega
     ·intro y hy ha
      rcases List.mem_append.1 hy with hy|hy
      ·exact HYN.out y hy ha
      ·rw[List.mem_singleton.1 hy]at ha ⊢
       exact HN7.out ha
     ·exact Below.grown ((hb.trans (HB7.out.mono hb.size)).alloc (by have:=hb.size;omega) _) hgrow8 (by have:=hb.size;simp;omega) (fun j e=>(World.ownsRow.lt HOW.out.row j (by rw[hyl];exact e)).1)
    case measure=>simp[intOf];omega
  ·have hkn:k=xs.length:=by omega
   have HYM2:=zh (show ys.map MA.m=xs.map MA.m by have:=HYM.out;rwa [hkn,List.take_length]at this)
   have HYL:=zh (show xs.length=ys.length by omega)
   obtain⟨wo,hwo⟩:∃W,W=wr:=⟨_,rfl⟩
   have kk0:=blk_step hb K0.out
   have kk1:=blk_step hb K1.out
   (obtain⟨p0,pf0,p1,pf1,p2,pf2⟩:=cv3 kk0)
   (obtain⟨q0,qf0,q1,qf1,q2,qf2⟩:=cv3 kk1)
   have KK0:=zh kk0
   have KK1:=zh kk1
   have y1:=bk_lt kk1
   have HBR:=zh hb
   clear hwo kk0 kk1 hc1 hf1 hb
   go_wp2_with fail
   refine bodyPost_ret (Tryz.rres_fld rfl _ _ rfl (set3_block ((heap_setCell_other _ _ _ _ (by simp)).trans KK1.out))) rfl ?_
   have hys:ys.length=k:=hyl
   refine⟨A',c',ys,by rw[hys,hkn],HYM2.out,?_,?_,HYN.out,?_⟩
   ·have h1:w.heap.size<W0.heap.size:=by have:=HS0.out;omega
    have h2:w.heap.size+1<W0.heap.size:=by have:=HS0.out;omega
    have h3:=(((HOW.out.setc (b:=w.heap.size) (o:=2) HYF.out (.slice A' xs.length c') h1).setc (b:=w.heap.size+1) (o:=0) HYF.out (.int .i64 tk) h2).setc (b:=w.heap.size+1) (o:=1) HYF.out (.int .i64 ls) h2).setc (b:=w.heap.size+1) (o:=2) HYF.out (.slice A' xs.length c') h2
    exact h3.mono (by omega)
   ·intro y hy a ha
    have:=HYF.out y hy a ha
    have:=HS0.out
    omega
   ·exact((((HB0.out.trans (HBR.out.mono HB0.out.size)).setCell (p:=⟨w.heap.size,2,none⟩) (Nat.le_refl _) _).setCell (p:=⟨w.heap.size+1,0,none⟩) (Nat.le_succ _) _).setCell (p:=⟨w.heap.size+1,1,none⟩) (Nat.le_succ _) _).setCell (p:=⟨w.heap.size+1,2,none⟩) (Nat.le_succ _) _
end Go.Proofs.YtehnikhicnnnhaaGreatDoor
/- The reference: Turn, Bound, IsDark, Named, At. | Lists of mirrors that a call made, of either type of mirrors. | The reference: ShortMirror, ShortField. -/
import Derived.Test.YtehnikhicnnnhaaGreatDoorPa17
import Derived.Test.YtehnikhicnnnhaaGreatDoorPa61
namespace Go.Proofs.YtehnikhicnnnhaaGreatDoor
open Go.RowKit
set_option maxHeartbeats 1000000 in
theorem rTurn_c(m:Mir)(A:Option Addr)(c:Nat)(w:World)(hr:MirR w w.heap.size m A c):
 Calls Tryz.prog 119 #[(.agg #[.string m.name,.string m.sec,.int .i64 m.loc,.slice A m.way.length c,.int .i64 m.left,.int .i64 m.heard])] w fun e w'=>e=.returned (.int .i64 (turnM m))∧Below w.heap.size w w':=by
 cases hw:m.way with
 |nil=>
  have ht:=zh (show turnM m=m.loc by unfold turnM;rw[hw];rfl)
  have hl:m.way.length=0:=by rw[hw];rfl
  rw[←hw]
  clear hr hw
  go_enter Tryz.func119,Tryz.ntmps119
  go_wp2_with fail
  go_ret
  exact⟨ret_int ht.out.symm,by exact zbl⟩
 |cons v tl=>
  have ht:=zh (show turnM m=v by unfold turnM;rw[hw];rfl)
  have hl:0<m.way.length:=by rw[hw];simp
  obtain⟨b,off,rfl,hb,hc⟩:=hr.way.at (by rw[hw];simp)
  have x0:w.cell? ⟨b,off,none⟩=some (.int .i64 v):=(hc 0 hl).trans (by simp[hw])
  rw[←hw]
  clear hr hc hw
  go_enter Tryz.func119,Tryz.ntmps119
  go_wp2_with fail
  go_ret
  exact⟨ret_int ht.out.symm,by exact zbl⟩
set_option maxHeartbeats 1000000 in
theorem rBound_c(m:Mir)(A:Option Addr)(c:Nat)(w:World)(hl1:m.way.length≤1000)(hr:MirR w w.heap.size m A c):
 Calls Tryz.prog 59 #[(.agg #[.string m.name,.string m.sec,.int .i64 m.loc,.slice A m.way.length c,.int .i64 m.left,.int .i64 m.heard])] w fun e w'=>e=.returned (.int .i64 (boundM m))∧Below w.heap.size w w':=by
 by_cases hl:m.way.length=0
 ·have ht:=zh (show boundM m=m.loc by unfold boundM;rw[List.length_eq_zero_iff.1 hl];rfl)
  clear hr
  go_enter Tryz.func59,Tryz.ntmps59
  go_wp2_with fail
  go_ret
  exact⟨ret_int ht.out.symm,by exact zbl⟩
 ·obtain⟨n,hn⟩:∃n,m.way.length=n+1:=⟨m.way.length-1,by omega⟩
  obtain⟨b,off,rfl,hb,hc⟩:=hr.way.at (by intro h;rw[h]at hl;exact hl rfl)
  have x0:w.cell? ⟨b,off+n,none⟩=some (.int .i64 m.way[n]):=hc n (by omega)
  have ht:=zh (show boundM m=m.way[n] by
   unfold boundM
   rw[List.getLastD_eq_getLast?,List.getLast?_eq_getElem?,show m.way.length-1=n by omega,List.getElem?_eq_getElem (show n<m.way.length by omega)]
   rfl)
  have hn0:n≤1000:=by omega
  clear hr hc hl hl1
  rw[hn]
  obtain⟨v,hv⟩:∃v,v=m.way[n]:=⟨_,rfl⟩
  rw[←hv]at x0 ht
  clear hv hn
  have j0:(0:Int)<(n:Int)+1:=by omega
  go_enter Tryz.func59,Tryz.ntmps59
  go_wp2_with fail
  go_ret
  exact⟨ret_int ht.out.symm,by exact zbl⟩
theorem sEq_list(x y:ByteArray):(x.toList==y.toList)=sEq x y:=by
 rw[ByteArray.toList_eq,ByteArray.toList_eq];rfl
theorem idx_step{α:Type}{p:α→Bool}{l:List α}{k:Nat}(hk:k<l.length)(h:∀x∈l.take k,p x=false)(hp:p l[k]=false):∀x∈l.take (k+1),p x=false:=take_all hk h hp
set_option maxRecDepth 100000 in
set_option maxHeartbeats 2000000 in
theorem rAt_c(tk ls:Int)(A:Option Addr)(c:Nat)(xs:List MA)(n:ByteArray)(w:World)(hl:xs.length≤100000)(hr:FldR w w.heap.size A c xs):
 Calls Tryz.prog 76 #[(.agg #[.int .i64 tk,.int .i64 ls,.slice A xs.length c]),.string n] w fun e w'=>e=.returned (.int .i64 (idxF (fun x:MA=>sEq x.m.name n) xs))∧Below w.heap.size w w':=by
 obtain⟨W1,hW1⟩:∃W1,W1=w.alloc (.cells #[.int .i64 tk,.int .i64 ls,.slice A xs.length c] 66):=⟨_,rfl⟩
 have k0:W1.heap[w.heap.size]? =some (.cells #[.int .i64 tk,.int .i64 ls,.slice A xs.length c] 66 (0,0)):=by rw[hW1];exact heap_alloc_new w _
 have hB0:Below w.heap.size w W1:=by rw[hW1];exact zbl
 have HB0:=zh hB0
 have HF:=zh ((hr.rw_.belowB (w0:=w) hB0 (Nat.le_refl _)).more hB0.size)
 have z0:=bk_lt k0
 (obtain⟨g0,gf0,g1,gf1,g2,gf2⟩:=cv3 k0)
 clear hr k0 hB0 gf0 gf1 gf2
 go_enter Tryz.func76,Tryz.ntmps76
 go_upto_region 1 with fail
 rw[←hW1]
 clear hW1
 go_wp2_with fail
 go_loop [5] (fun i=>∃k:Nat,k≤xs.length∧i=.int .i64 k∧Hid (∀x∈xs.take k,sEq x.m.name n=false)) (fun i=>xs.length-(intOf i).toNat)
 case atStart=>exact⟨0,Nat.zero_le _,rfl,zh (by simp)⟩
 case round=>
  obtain⟨k,hk,rfl,hf⟩:=hrel
  by_cases hlt:k<xs.length
  ·obtain⟨b,off,ea,hbl,c0,_⟩:=HF.out.get6 (k:=k) (by simpa using hlt) (by rw[List.getElem_map];rfl)
   obtain⟨s,hs⟩:∃s,s=xs[k].m.name:=⟨_,rfl⟩
   rw[←hs]at c0
   rw[ea]at g2
   have hq:=sEq_list s n
   have HS:=zh hs
   clear hs ea
   cases hp:sEq s n with
   |false=>
    rw[hp]at hq
    have HP:=zh (show sEq xs[k].m.name n=false by rw[←HS.out];exact hp)
    clear hp
    go_wp2_with fail
    go_round
    case rel=>exact⟨k+1,by omega,by go_num,zh (idx_step (p:=fun x:MA=>sEq x.m.name n) hlt hf.out HP.out)⟩
    case measure=>simp[intOf];omega
   |true=>
    rw[hp]at hq
    have HP:=zh (show sEq xs[k].m.name n=true by rw[←HS.out];exact hp)
    have HQ:=zh (idxF_at (fun x:MA=>sEq x.m.name n) _ k hlt hf.out HP.out)
    clear hp
    go_wp2_with fail
    go_ret
    exact⟨ret_int HQ.out.symm,HB0.out⟩
  ·have hkl:k=xs.length:=by omega
   have hal:=hf.out
   rw[hkl,List.take_length]at hal
   have HQ:=zh (idxF_none (fun x:MA=>sEq x.m.name n) _ hal)
   clear hal
   go_wp2_with fail
   go_ret
   exact⟨ret_int HQ.out.symm,HB0.out⟩
structure OwnT(T:TypeId)(w:World)(base:Nat)(A:Option Addr)(c:Nat)(ys:List MA):Prop where
 row:w.ownsRow base T 6 (.slice A ys.length c) ys.length (ys.map encMA).flatten
 each:∀x∈ys,MirR w w.heap.size x.m x.A x.c
 apart:∀x∈ys,x.m.way≠ []→∀a,x.A=some a→∀d,A=some d→a.block≠d.block
theorem OwnT.nil_(T:TypeId)(w:World)(base:Nat):OwnT T w base none 0 []:=⟨World.ownsRow_nil _ _ _ _,by simp,by simp⟩
theorem OwnT.below{T:TypeId}{w w':World}{base c:Nat}{A:Option Addr}{ys:List MA}(h:OwnT T w base A c ys)(hb:Below w.heap.size w w'):OwnT T w' base A c ys:=
 ⟨World.ownsRow.kept h.row (row:=none) (grown_of hb) (by cases(Value.slice A ys.length c).ownBlock<;>simp),fun x hx=>((h.each x hx).belowB (w0:=w) hb (Nat.le_refl _)).more hb.size,h.apart⟩
theorem OwnT.mono{T:TypeId}{w:World}{base base' c:Nat}{A:Option Addr}{ys:List MA}(h:OwnT T w base A c ys)(hb:base'≤base):OwnT T w base' A c ys:=
 ⟨ownsRow_mono h.row hb,h.each,h.apart⟩
theorem OwnT.fld{T:TypeId}{w:World}{base c:Nat}{A:Option Addr}{ys:List MA}(h:OwnT T w base A c ys):FldR w w.heap.size A c ys:=by
 refine⟨fun hn=>?_,h.each,?_⟩
 ·have hpos:0<ys.length:=by cases ys with|nil=>simp at hn|cons a l=>simp
  obtain⟨g,cap,hv,hb,hlt⟩:=h.row.form hpos
  cases hv
  refine⟨g,0,rfl,hlt,fun k hk j v hv=>?_⟩
  rw[List.getElem?_eq_some_iff]at hv
  obtain⟨hj,rfl⟩:=hv
  have h6:=encMA_len _ (List.getElem_mem hk)
  have:=h.row.cells (g:=g) rfl (k*6+j) ((ys.map encMA)[k][j]) (by rw[flat_at encMA_len hk (by omega)];exact List.getElem?_eq_getElem hj)
  rw[add0]at this
  simpa using this
 ·rcases h.row.2 with ⟨hv,hn⟩|⟨g,cap,cur,hv,_,_,hc,_⟩
  ·simp at hv;omega
  ·simp at hv;omega
theorem OwnT.kept{T:TypeId}{w w':World}{base c:Nat}{A:Option Addr}{ys:List MA}(h:OwnT T w base A c ys){row:Option Nat}(hg:w.grownBy w' row)(hA:∀d,A=some d→row≠some d.block)
 (hr:∀x∈ys,x.m.way≠ []→∀a,x.A=some a→row≠some a.block):OwnT T w' base A c ys:=
 ⟨World.ownsRow.kept h.row hg (by
   cases A with
   |none=>exact .inl rfl
   |some d=>right;simp only[Value.ownBlock];exact fun e=>hA d rfl e.symm),
   fun x hx=>⟨fun hn=>by
    obtain⟨b,off,e,hb,hc⟩:=(h.each x hx).way hn
    exact⟨b,off,e,Nat.lt_of_lt_of_le hb hg.size,fun k hk j v hv=>hg.cell (hc k hk j v hv) (fun e2=>hr x hx (fun h=>hn (by rw[h];rfl)) _ e e2.symm)⟩,(h.each x hx).cap⟩,h.apart⟩
theorem OwnT.set{T:TypeId}{w:World}{base c gb k:Nat}{ys:List MA}(h:OwnT T w base (some ⟨gb,0,none⟩) c ys)(hk:k<ys.length)(y:MA)(hy:MirR w w.heap.size y.m y.A y.c)(hn:y.m.way≠ []→∀a,y.A=some a→a.block≠gb):
 OwnT T ((((((w.setCell ⟨gb,k*6,none⟩ (.string y.m.name)).setCell ⟨gb,k*6+1,none⟩ (.string y.m.sec)).setCell ⟨gb,k*6+2,none⟩ (.int .i64 y.m.loc)).setCell ⟨gb,k*6+3,none⟩ (.slice y.A y.m.way.length y.c)).setCell ⟨gb,k*6+4,none⟩ (.int .i64 y.m.left)).setCell ⟨gb,k*6+5,none⟩ (.int .i64 y.m.heard))
  base (some ⟨gb,0,none⟩) c (ys.set k y):=by
 have hset:ys.set k y=ys.set k y:=rfl
 refine⟨?_,?_,?_⟩
 ·have e:=flat_set6 (.string y.m.name) (.string y.m.sec) (.int .i64 y.m.loc) (.slice y.A y.m.way.length y.c) (.int .i64 y.m.left) (.int .i64 y.m.heard) (ys.map encMA) k encMA_len (by simpa using hk)
  rw[List.length_set,List.map_set]
  rw[show encMA y= [.string y.m.name,.string y.m.sec,.int .i64 y.m.loc,.slice y.A y.m.way.length y.c,.int .i64 y.m.left,.int .i64 y.m.heard]from rfl,←e]
  exact((((((h.row.stored _ _).1.stored _ _).1.stored _ _).1.stored _ _).1.stored _ _).1.stored _ _).1
 ·intro x hx
  have key:∀x:MA,MirR w w.heap.size x.m x.A x.c→(x.m.way≠ []→∀a,x.A=some a→a.block≠gb)→MirR ((((((w.setCell ⟨gb,k*6,none⟩ (.string y.m.name)).setCell ⟨gb,k*6+1,none⟩ (.string y.m.sec)).setCell ⟨gb,k*6+2,none⟩ (.int .i64 y.m.loc)).setCell ⟨gb,k*6+3,none⟩ (.slice y.A y.m.way.length y.c)).setCell ⟨gb,k*6+4,none⟩ (.int .i64 y.m.left)).setCell ⟨gb,k*6+5,none⟩ (.int .i64 y.m.heard)) w.heap.size x.m x.A x.c:=fun x h1 h2=>
   (((((h1.setc (p:=⟨gb,k*6,none⟩) _ h2).setc (p:=⟨gb,k*6+1,none⟩) _ h2).setc (p:=⟨gb,k*6+2,none⟩) _ h2).setc (p:=⟨gb,k*6+3,none⟩) _ h2).setc (p:=⟨gb,k*6+4,none⟩) _ h2).setc (p:=⟨gb,k*6+5,none⟩) _ h2
  have hz:((((((w.setCell ⟨gb,k*6,none⟩ (.string y.m.name)).setCell ⟨gb,k*6+1,none⟩ (.string y.m.sec)).setCell ⟨gb,k*6+2,none⟩ (.int .i64 y.m.loc)).setCell ⟨gb,k*6+3,none⟩ (.slice y.A y.m.way.length y.c)).setCell ⟨gb,k*6+4,none⟩ (.int .i64 y.m.left)).setCell ⟨gb,k*6+5,none⟩ (.int .i64 y.m.heard)).heap.size=w.heap.size:=by simp
  rw[hz]
  rcases List.mem_or_eq_of_mem_set hx with hx|rfl
  ·exact key x (h.each x hx) (fun hne a ha=>h.apart x hx hne a ha _ rfl)
  ·exact key _ hy hn
 ·intro x hx hne a ha d hd
  cases hd
  rcases List.mem_or_eq_of_mem_set hx with hx|rfl
  ·exact h.apart x hx hne a ha _ rfl
  ·exact hn hne a ha
def shortM(m:Mir):Bool:=decide ((m.name.size:Int)≤40)&&(decide ((m.sec.size:Int)≤40)&&(decide ((m.way.length:Int)≤12)||((m.way.length:Int)==41)))
set_option maxRecDepth 100000 in
set_option maxHeartbeats 4000000 in
theorem rShortM_c(m:Mir)(A:Option Addr)(c:Nat)(w:World):
 Calls Tryz.prog 77 #[(.agg #[.string m.name,.string m.sec,.int .i64 m.loc,.slice A m.way.length c,.int .i64 m.left,.int .i64 m.heard])] w fun e w'=>e=.returned (.bool (shortM m))∧Below w.heap.size w w':=by
 obtain⟨W1,hW1⟩:∃W1,W1=w.alloc (.cells #[.string m.name,.string m.sec,.int .i64 m.loc,.slice A m.way.length c,.int .i64 m.left,.int .i64 m.heard] 107):=⟨_,rfl⟩
 have k0:W1.heap[w.heap.size]? =some (.cells #[.string m.name,.string m.sec,.int .i64 m.loc,.slice A m.way.length c,.int .i64 m.left,.int .i64 m.heard] 107 (0,0)):=by rw[hW1];exact heap_alloc_new w _
 have hB0:Below w.heap.size w W1:=by rw[hW1];exact zbl
 have HB0:=zh hB0
 (obtain⟨g0,gf0,g1,gf1,g2,gf2,g3,gf3,g4,gf4,g5,gf5⟩:=cv6 k0)
 clear k0 hB0 gf0 gf1 gf2 gf3 gf4 gf5
 cases h1:decide ((m.name.size:Int)≤40)
 ·have HR:=zh (show shortM m=false by unfold shortM;rw[h1];rfl)
  go_enter Tryz.func77,Tryz.ntmps77
  go_upto_region 1 with fail
  rw[←hW1]
  clear hW1
  go_wp2_with fail
  go_ret
  exact⟨ret_bool (by rw[HR.out]),HB0.out⟩
 ·cases h2:decide ((m.sec.size:Int)≤40)
  ·have HR:=zh (show shortM m=false by unfold shortM;rw[h1,h2];rfl)
   go_enter Tryz.func77,Tryz.ntmps77
   go_upto_region 1 with fail
   rw[←hW1]
   clear hW1
   go_wp2_with fail
   go_ret
   exact⟨ret_bool (by rw[HR.out]),HB0.out⟩
  ·cases h3:decide ((m.way.length:Int)≤12)
   ·have HR:=zh (show shortM m=((m.way.length:Int)==41) by unfold shortM;rw[h1,h2,h3];rfl)
    go_enter Tryz.func77,Tryz.ntmps77
    go_upto_region 1 with fail
    rw[←hW1]
    clear hW1
    go_wp2_with fail
    go_ret
    exact⟨ret_bool (by rw[HR.out]),HB0.out⟩
   ·have HR:=zh (show shortM m=true by unfold shortM;rw[h1,h2,h3];rfl)
    go_enter Tryz.func77,Tryz.ntmps77
    go_upto_region 1 with fail
    rw[←hW1]
    clear hW1
    go_wp2_with fail
    go_ret
    exact⟨ret_bool (by rw[HR.out]),HB0.out⟩
def shortF(xs:List MA):Bool:= !(decide ((5:Int)<(xs.length:Int))&&((xs.length:Int)!=17))&&xs.all fun x=>shortM x.m
set_option maxRecDepth 100000 in
set_option maxHeartbeats 4000000 in
theorem rShortF_c(tk ls:Int)(A:Option Addr)(c:Nat)(xs:List MA)(w:World)(hf:FldR w w.heap.size A c xs):
 Calls Tryz.prog 37 #[(.agg #[.int .i64 tk,.int .i64 ls,.slice A xs.length c])] w fun e w'=>e=.returned (.bool (shortF xs))∧Below w.heap.size w w':=by
 obtain⟨W1,hW1⟩:∃W1,W1=w.alloc (.cells #[.int .i64 tk,.int .i64 ls,.slice A xs.length c] 66):=⟨_,rfl⟩
 have k0:W1.heap[w.heap.size]? =some (.cells #[.int .i64 tk,.int .i64 ls,.slice A xs.length c] 66 (0,0)):=by rw[hW1];exact heap_alloc_new w _
 have hB0:Below w.heap.size w W1:=by rw[hW1];exact zbl
 have HB0:=zh hB0
 have HF1:=zh (FldR.to hf hB0)
 have z0:=blk_lt k0
 (obtain⟨g0,gf0,g1,gf1,g2,gf2⟩:=cv3 k0)
 clear hf k0 hB0 gf0 gf1 gf2
 cases h1:decide ((5:Int)<(xs.length:Int))&&((xs.length:Int)!=17)
 case true=>
  have HR:=zh (show shortF xs=false by unfold shortF;rw[h1];rfl)
  have h2:decide ((5:Int)<(xs.length:Int))=true:=(Bool.and_eq_true _ _▸h1).1
  have h3:((xs.length:Int)!=17)=true:=(Bool.and_eq_true _ _▸h1).2
  clear h1
  go_enter Tryz.func37,Tryz.ntmps37
  go_upto_region 1 with fail
  rw[←hW1]
  clear hW1
  go_wp2_with fail
  go_ret
  exact⟨ret_bool (by rw[HR.out]),HB0.out⟩
 case false=>
  have HS:=zh (show shortF xs=xs.all (fun x=>shortM x.m) by unfold shortF;rw[h1];rfl)
  have hn:xs.length≤17:=by
   cases h2:decide ((5:Int)<(xs.length:Int))with
   |false=>have:=of_decide_eq_false h2;omega
   |true=>rw[h2,Bool.true_and,bne_eq_false_iff_eq]at h1;omega
  cases h2:decide ((5:Int)<(xs.length:Int))
  ·clear h1
   go_enter Tryz.func37,Tryz.ntmps37
   go_upto_region 1 with fail
   rw[←hW1]
   clear hW1
   go_upto_region 4 with fail
   go_wp2_with fail
   go_loopw [3] (fun i wr=>∃k:Nat,k≤xs.length∧i=.int .i64 k∧Hid (∀x∈xs.take k,shortM x.m=true)∧Below W1.heap.size W1 wr) (fun i _=>xs.length-(intOf i).toNat)
   case atStart=>exact⟨0,Nat.zero_le _,rfl,zh (by simp),Below.refl _ _⟩
   case round=>
    obtain⟨k,hk,rfl,hal,hb⟩:=hrel
    have hc1:=(bcell hb).1
    have y0:w.heap.size<wr.heap.size:=Nat.lt_of_lt_of_le z0 hb.size
    by_cases hlt:k<xs.length
    ·obtain⟨b,off,rfl,hbl,x0,x1,x2,x3,x4,x5⟩:=(HF1.out.to hb).rw_.get6 (k:=k) (by simpa using hlt) (by rw[List.getElem_map];rfl)
     have HS2:=zh (fun W=>rShortM_c xs[k].m xs[k].A xs[k].c W)
     obtain⟨p,hp⟩:∃p,p=shortM xs[k].m:=⟨_,rfl⟩
     rw[←hp]at HS2
     cases p
     ·have HR:=zh (show shortF xs=false by rw[HS.out];exact all_hit hlt hp.symm)
      clear hp
      go_wp2_with (go_at_call 77;(with_reducible refine Calls.mono (HS2.out _) ?_);rintro e w2 ⟨rfl,hb2⟩)
      go_ret
      exact⟨ret_bool (by rw[HR.out]),HB0.out.trans ((hb.trans ((show Below wr.heap.size wr _ by exact zbl).mono hb.size)).mono HB0.out.size)⟩
     ·have HP:=zh hp
      clear hp
      go_wp2_with (go_at_call 77;(with_reducible refine Calls.mono (HS2.out _) ?_);rintro e w2 ⟨rfl,hb2⟩)
      go_roundw
      case rel=>exact⟨k+1,by omega,by go_num,zh (take_allT hlt hal.out HP.out.symm),hb.trans ((show Below wr.heap.size wr _ by exact zbl).mono hb.size)⟩
      case measure=>simp[intOf];omega
    ·have HR:=zh (show shortF xs=true by rw[HS.out];exact all_end hlt hal.out)
     go_wp2_with fail
     go_ret
     exact⟨ret_bool (by rw[HR.out]),HB0.out.trans (hb.mono HB0.out.size)⟩
  ·have h3:((xs.length:Int)!=17)=false:=by rw[h2,Bool.true_and]at h1;exact h1
   clear h1
   go_enter Tryz.func37,Tryz.ntmps37
   go_upto_region 1 with fail
   rw[←hW1]
   clear hW1
   go_upto_region 4 with fail
   go_wp2_with fail
   go_loopw [3] (fun i wr=>∃k:Nat,k≤xs.length∧i=.int .i64 k∧Hid (∀x∈xs.take k,shortM x.m=true)∧Below W1.heap.size W1 wr) (fun i _=>xs.length-(intOf i).toNat)
   case atStart=>exact⟨0,Nat.zero_le _,rfl,zh (by simp),Below.refl _ _⟩
   case round=>
    obtain⟨k,hk,rfl,hal,hb⟩:=hrel
    have hc1:=(bcell hb).1
    have y0:w.heap.size<wr.heap.size:=Nat.lt_of_lt_of_le z0 hb.size
    by_cases hlt:k<xs.length
    ·obtain⟨b,off,rfl,hbl,x0,x1,x2,x3,x4,x5⟩:=(HF1.out.to hb).rw_.get6 (k:=k) (by simpa using hlt) (by rw[List.getElem_map];rfl)
     have HS2:=zh (fun W=>rShortM_c xs[k].m xs[k].A xs[k].c W)
     obtain⟨p,hp⟩:∃p,p=shortM xs[k].m:=⟨_,rfl⟩
     rw[←hp]at HS2
     cases p
     ·have HR:=zh (show shortF xs=false by rw[HS.out];exact all_hit hlt hp.symm)
      clear hp
      go_wp2_with (go_at_call 77;(with_reducible refine Calls.mono (HS2.out _) ?_);rintro e w2 ⟨rfl,hb2⟩)
      go_ret
      exact⟨ret_bool (by rw[HR.out]),HB0.out.trans ((hb.trans ((show Below wr.heap.size wr _ by exact zbl).mono hb.size)).mono HB0.out.size)⟩
     ·have HP:=zh hp
      clear hp
      go_wp2_with (go_at_call 77;(with_reducible refine Calls.mono (HS2.out _) ?_);rintro e w2 ⟨rfl,hb2⟩)
      go_roundw
      case rel=>exact⟨k+1,by omega,by go_num,zh (take_allT hlt hal.out HP.out.symm),hb.trans ((show Below wr.heap.size wr _ by exact zbl).mono hb.size)⟩
      case measure=>simp[intOf];omega
    ·have HR:=zh (show shortF xs=true by rw[HS.out];exact all_end hlt hal.out)
     go_wp2_with fail
     go_ret
     exact⟨ret_bool (by rw[HR.out]),HB0.out.trans (hb.mono HB0.out.size)⟩
end Go.Proofs.YtehnikhicnnnhaaGreatDoor
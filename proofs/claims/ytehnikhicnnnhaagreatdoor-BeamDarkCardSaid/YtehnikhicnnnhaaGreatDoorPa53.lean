/- Small helpers: fields in worlds where one block changed; blocks of own lists. | The statements' field and told: a field of the reference as one of the program, and back. | Boxes of the laws that hold fields. -/
import Derived.Test.YtehnikhicnnnhaaGreatDoorPa47
namespace Go.Proofs.YtehnikhicnnnhaaGreatDoor
open Go.RowKit
theorem Ke.set3{p:Nat}(W:World)(v0 v1 v2:Value):Ke p W (((W.setCell ⟨p,0,none⟩ v0).setCell ⟨p,1,none⟩ v1).setCell ⟨p,2,none⟩ v2):=
 ⟨by simp,fun b _ hne=>by rw[heap_setCell_other _ _ _ _ hne,heap_setCell_other _ _ _ _ hne,heap_setCell_other _ _ _ _ hne]⟩
theorem Ke.rwN{p B sz:Nat}{U W:World}{A:Option Addr}{l:List (List Value)}(h:Rw U B sz A l)(hk:Ke p U W)(hB:B≤U.heap.size)(hp:l≠ []→∀a,A=some a→a.block≠p):Rw W B sz A l:=fun hn=>Ke.rw_ h hk hB (hp hn) hn
theorem Ke.fld{p c:Nat}{U W:World}{A:Option Addr}{xs:List MA}(h:FldR U U.heap.size A c xs)(hk:Ke p U W)(hp:Blks (fun b=>b≠p) A xs):FldR W W.heap.size A c xs:=
 ⟨Rw.more (Ke.rwN h.rw_ hk (Nat.le_refl _) (fun hn=>hp.row (by simpa using hn))) hk.1,fun x hx=>⟨Rw.more (Ke.rwN (h.each x hx).way hk (Nat.le_refl _) (fun hn=>hp.way x hx (by simpa using hn))) hk.1,(h.each x hx).cap⟩,h.cap⟩
theorem own_block{T:TypeId}{w:World}{base:Nat}{A:Option Addr}{c:Nat}{ys:List MA}(h:OwnT T w base A c ys):∀a,A=some a→base≤a.block:=by
 intro a ha
 rcases h.row.2 with ⟨hv,_⟩|⟨g,cap,cur,hv,hb,_⟩
 ·rw[ha]at hv;cases hv
 ·rw[ha]at hv
  cases hv
  exact hb
theorem Tryz.fldM(v0 v1 v2:Value)(W:World):(Instr.field 66 (.agg #[v0,v1,v2]) 2).run Tryz.prog W=.ok v2 W:=by kernel_rfl
set_option maxRecDepth 100000 in
set_option maxHeartbeats 8000000 in
theorem field0_c(tk ls:Int)(A:Option Addr)(c:Nat)(xs:List MA)(w:World)(hl:xs.length≤1000)(hw:∀x∈xs,x.m.way.length≤1000)(hf:FldR w w.heap.size A c xs):
 Calls Tryz.prog 39 #[(.agg #[.int .i64 tk,.int .i64 ls,.slice A xs.length c])] w fun e w'=>∃A' c' ys,e=.returned (.agg #[.int .i64 tk,.int .i64 ls,.slice A' ys.length c'])∧ys.map MA.m=xs.map MA.m∧FldR w' w'.heap.size A' c' ys∧NilW ys∧Below w.heap.size w w':=by
 obtain⟨iM,hiM,hzM0,hzM1,hzM2⟩:=info_parts Tryz.infoMir
 obtain⟨W1,hW1⟩:∃W1,W1=((w.alloc (.cells #[.int .i64 tk,.int .i64 ls,.slice A xs.length c] 66)).alloc (.cells #[.int .i64 0,.int .i64 0,.slice none 0 0] 72)).alloc (.cells #[.int .i64 tk,.int .i64 ls,.slice none 0 0] 72):=⟨_,rfl⟩
 have hsz:W1.heap.size=w.heap.size+3:=by rw[hW1];simp
 have k0:W1.heap[w.heap.size]? =some (.cells #[.int .i64 tk,.int .i64 ls,.slice A xs.length c] 66 (0,0)):=by rw[hW1];exact heap_fst _ _ _ _
 have k1:W1.heap[w.heap.size+1]? =some (.cells #[.int .i64 0,.int .i64 0,.slice none 0 0] 72 (0,0)):=by rw[hW1];exact heap_mid _ _ _ _
 have k2:W1.heap[w.heap.size+1+1]? =some (.cells #[.int .i64 tk,.int .i64 ls,.slice none 0 0] 72 (0,0)):=by rw[hW1];exact heap_lst _ _ _ _
 have hB0:Below w.heap.size w W1:=by rw[hW1];exact zbl
 have HB0:=zh hB0
 have HF0:=zh (FldR.to hf hB0)
 have K0:=zh k0
 have K1:=zh k1
 have K2:=zh k2
 (obtain⟨d0,df0,d1,df1,d2,df2⟩:=cv3 k0)
 have HOWN:=zh (fun W (h:FldR W W.heap.size A c xs)=>rOwn0_c tk ls A c xs W hl hw h)
 clear hf k0 k1 k2 hB0 df0 df1 df2 hw
 have hfl:=Tryz.fldM
 go_enter Tryz.func39,Tryz.ntmps39
 go_upto_region 2 with fail
 rw[←hW1]
 clear hW1
 go_wp2_with (go_at_call 117;(with_reducible refine Calls.mono (HOWN.out _ HF0.out) ?_);rintro e w1 ⟨A1,c1,ys,rfl,hm1,ho1,hf1,hn1,hb1⟩)
 have hyl:ys.length=xs.length:=by simpa using congrArg List.length hm1
 have HM1:=zh hm1
 have HN1:=zh hn1
 have HFY:=zh ho1.fld
 have HFB:=zh hf1
 have HOB:=zh (own_block ho1)
 have HNE:=zh (show Blks (fun b=>b≠w.heap.size+1+1) A1 ys from⟨fun _ a ha e=>by have:=HOB.out a ha;omega,fun x hx _ a ha e=>by have:=HFB.out x hx a ha;omega⟩)
 have HNX:=zh (show Blks (fun b=>b≠w.heap.size+1) A1 ys from⟨fun _ a ha e=>by have:=HOB.out a ha;omega,fun x hx _ a ha e=>by have:=HFB.out x hx a ha;omega⟩)
 have hs1:=hb1.size
 have hb:Below w.heap.size w w1:=HB0.out.trans (hb1.mono (by omega))
 have k0:=(hb1.block w.heap.size (by omega)).trans K0.out
 have k1:=(hb1.block (w.heap.size+1) (by omega)).trans K1.out
 have k2:=(hb1.block (w.heap.size+1+1) (by omega)).trans K2.out
 have J1:=zh k1
 have hk2:=zh k2
 have hnl:ys.length≤1000:=by omega
 clear hm1 ho1 hf1 hn1 hb1 k0 k1 k2 d0 d1 d2 hyl
 have hsw:W1.heap.size≤w1.heap.size:=hs1
 go_loopw [15] (fun i wv=>∃(k:Nat) (v:Value),k≤ys.length∧i=.int .i64 k∧Hid (wv.heap[w.heap.size+1+1]? =some (.cells #[.int .i64 tk,.int .i64 ls,v] 72 (0,0)))∧wv.ownsRow w1.heap.size 106 6 v k ((ys.take k).map encMA).flatten∧Hid (Ke (w.heap.size+1+1) w1 wv)∧Below w.heap.size w wv) (fun i _=>ys.length-(intOf i).toNat)
 case atStart=>exact⟨0,.slice none 0 0,Nat.zero_le _,rfl,hk2,by simpa using World.ownsRow_nil _ _ _ _,zh (Ke.refl _ _),hb⟩
 case round=>
  clear hb hk2
  obtain⟨k,v,hk,rfl,hk2,hown,HKe,hb⟩:=hrel
  have hke:=HKe.out.1
  have hbs:=hb.size
  by_cases hlt:k<ys.length
  ·obtain⟨x,hx⟩:∃x,x=ys[k]:=⟨_,rfl⟩
   have hxm:x∈ys:=by rw[hx];exact List.getElem_mem hlt
   obtain⟨b,off,ea,hbl,c0,c1,c2,c3,c4,c5⟩:=(Ke.fld HFY.out HKe.out HNE.out).rw_.get6 (k:=k) (by simpa using hlt) (by rw[List.getElem_map,←hx];rfl)
   rw[ea]
   have yb:b<wr.heap.size:=by omega
   have HA:=zh ea
   have HX:=zh hx
   clear ea hx hxm
   have kk:=hk2.out
   (obtain⟨q0,qf0,q1,qf1,q2,qf2⟩:=cv3 kk)
   clear kk
   have y2:w.heap.size+1+1<wr.heap.size:=by omega
   have hne:v.ownBlock≠some (w.heap.size+1+1):=fun e=>by have:=(World.ownsRow.lt hown _ e).1;omega
   go_wp2_with (at_builtin;refine wpList_append_own _ rfl _ _ 70 rfl w1.heap.size 106 iM zeroMir 6 80 Tryz.underlying70 hiM hzM0 hzM1 hzM2 rfl (by decide) _ _ _ rfl (World.ownsRow.alloc (World.ownsRow.alloc hown _) _) ⟨wr.heap.size+1,0,none⟩ 1 1 [.string x.m.name,.string x.m.sec,.int .i64 x.m.loc,.slice x.A x.m.way.length x.c,.int .i64 x.m.left,.int .i64 x.m.heard] rfl rfl ?c1 ?c2 ?c3 ?c4 ?c5 ?_)
   case c1=>
    intro j u hj
    rw[add0,cell_of_row _ _ _ _ _ _ (heap_two wr _ _)]
    match j,hj with
    |0,hj=>simpa using hj
    |1,hj=>simpa using hj
    |2,hj=>simpa using hj
    |3,hj=>simpa using hj
    |4,hj=>simpa using hj
    |5,hj=>simpa using hj
    |j+6,hj=>simp at hj
   case c2=>intro u hu;simp at hu;rcases hu with rfl|rfl|rfl|rfl|rfl|rfl<;>rfl
   case c3=>unfold maxLen;omega
   case c4=>omega
   case c5=>simp;omega
   intro v' w6 hown' hgrow _
   obtain⟨A',c',hv'⟩:=own_form hown'
   subst hv'
   have h6:w6.heap[w.heap.size+1+1]? =some (.cells #[.int .i64 tk,.int .i64 ls,v] 72 (0,0)):=(gr_block hgrow (by simp;omega) (fun e=>hne e)).trans (bk_alloc (bk_alloc hk2.out))
   clear q0 qf0 q1 qf1 q2 qf2 c0 c1 c2 c3 c4 c5
   (obtain⟨q0,qf0,q1,qf1,q2,qf2⟩:=cv3 h6)
   have H6:=zh h6
   clear h6
   have hg6:=hgrow.size
   simp only[World.size_alloc]at hg6
   have y6:w.heap.size+1+1<w6.heap.size:=by omega
   go_wp2_with fail
   go_roundw
   case rel=>
    first|refine⟨k+1,.slice A' (k+1) c',by omega,by go_num,zh (heap_setCell_same w6 _ 2 _ _ (.slice A' (k+1) c') H6.out),?_,zh ?_,?_⟩|((repeat apply Exists.intro);refine⟨?_,rfl⟩;refine⟨k+1,.slice A' (k+1) c',by omega,by go_num,zh (heap_setCell_same w6 _ 2 _ _ (.slice A' (k+1) c') H6.out),?_,zh ?_,?_⟩)
    ·refine ownsRow_setCell_below ?_ (show w.heap.size+1+1<w1.heap.size by omega) _
     rw[List.take_succ_eq_append_getElem hlt,List.map_append,List.flatten_append,←HX.out]
     first|(simpa [encMA]using hown';done)|(rw[hsz];simpa [encMA]using hown')
    ·refine⟨by simp;omega,fun b' hb' hne'=>?_⟩
     rw[heap_setCell_other _ _ _ _ hne',gr_block hgrow (by simp;omega) (fun e=>by have:=(World.ownsRow.lt hown _ e).1;omega)]
     exact((Below.heap_alloc _ _ _ (by simp;omega)).trans (Below.heap_alloc _ _ _ (by omega))).trans (HKe.out.2 b' hb' hne')
    ·exact Bl.set (Below.grown (by exact zbl) hgrow (by simp;omega) (fun j e=>by have:=(World.ownsRow.lt hown j e).1;omega)) _ (by show w.heap.size≤w.heap.size+1+1;omega)
   case measure=>simp[intOf];omega
  ·have hkl:k=ys.length:=by omega
   rw[hkl,List.take_length]at hown
   obtain⟨AS,cS,rfl,hcS,hrow,hfr⟩:=own_rw hown (by first|(simp;done)|(simp;omega)) (by intro y hy;obtain⟨z,_,rfl⟩:=List.mem_map.1 hy;rfl)
   have HRS:=zh hrow
   have HFS:Hid (∀a,AS=some a→w1.heap.size≤a.block):=zh hfr
   clear hrow hfr hown hkl hk
   have kk:=hk2.out
   (obtain⟨q0,qf0,q1,qf1,q2,qf2⟩:=cv3 kk)
   clear kk
   have kz:=(HKe.out.2 (w.heap.size+1) (by omega) (by omega)).trans J1.out
   have J2:=zh kz
   (obtain⟨z0,zf0,z1,zf1,z2,zf2⟩:=cv3 kz)
   clear kz
   have y1:w.heap.size+1<wr.heap.size:=by omega
   have y2:w.heap.size+1+1<wr.heap.size:=by omega
   go_wp2_with fail
   refine bodyPost_ret (Tryz.res_fld rfl _ _ rfl (set3_block J2.out)) rfl ?_
   have hfw:FldR wr wr.heap.size AS cS ys:=⟨HRS.out,fun x hx=>⟨Rw.more (Ke.rwN (HFY.out.each x hx).way HKe.out (Nat.le_refl _) (fun hn=>HNE.out.way x hx (by simpa using hn))) HKe.out.1,(HFY.out.each x hx).cap⟩,hcS⟩
   have hfe:=Ke.fld hfw (Ke.set3 (p:=w.heap.size+1) wr (.int .i64 tk) (.int .i64 ls) (.slice AS ys.length cS)) ⟨fun _ a ha=>by have:=HFS.out a ha;omega,HNX.out.way⟩
   exact⟨AS,cS,ys,rfl,HM1.out,hfe,HN1.out,Bl.set (Bl.set (Bl.set hb _ (Nat.le_succ _)) _ (Nat.le_succ _)) _ (Nat.le_succ _)⟩
set_option maxRecDepth 100000 in
set_option maxHeartbeats 8000000 in
theorem told_c(tk ls:Int)(A:Option Addr)(c:Nat)(xs:List MA)(w:World)(hl:xs.length≤1000)(hf:FldR w w.heap.size A c xs):
 Calls Tryz.prog 58 #[(.agg #[.int .i64 tk,.int .i64 ls,.slice A xs.length c])] w fun e w'=>∃A' c',e=.returned (.agg #[.int .i64 tk,.int .i64 ls,.slice A' xs.length c'])∧FldR w' w'.heap.size A' c' xs∧Below w.heap.size w w':=by
 obtain⟨iM,hiM,hzM0,hzM1,hzM2⟩:=info_parts Tryz.infoRM
 obtain⟨W1,hW1⟩:∃W1,W1=((w.alloc (.cells #[.int .i64 tk,.int .i64 ls,.slice A xs.length c] 72)).alloc (.cells #[.int .i64 0,.int .i64 0,.slice none 0 0] 66)).alloc (.cells #[.int .i64 tk,.int .i64 ls,.slice none 0 0] 66):=⟨_,rfl⟩
 have hsz:W1.heap.size=w.heap.size+3:=by rw[hW1];simp
 have k0:W1.heap[w.heap.size]? =some (.cells #[.int .i64 tk,.int .i64 ls,.slice A xs.length c] 72 (0,0)):=by rw[hW1];exact heap_fst _ _ _ _
 have k1:W1.heap[w.heap.size+1]? =some (.cells #[.int .i64 0,.int .i64 0,.slice none 0 0] 66 (0,0)):=by rw[hW1];exact heap_mid _ _ _ _
 have k2:W1.heap[w.heap.size+1+1]? =some (.cells #[.int .i64 tk,.int .i64 ls,.slice none 0 0] 66 (0,0)):=by rw[hW1];exact heap_lst _ _ _ _
 have hB0:Below w.heap.size w W1:=by rw[hW1];exact zbl
 have HB0:=zh hB0
 have HF0:=zh (FldR.to hf hB0)
 have HNE:=zh (hf.blks.imp (Q:=fun b=>b≠w.heap.size+1+1) (fun b h=>by omega))
 have HNX:=zh (hf.blks.imp (Q:=fun b=>b≠w.heap.size+1) (fun b h=>by omega))
 have K0:=zh k0
 have K1:=zh k1
 have K2:=zh k2
 (obtain⟨d0,df0,d1,df1,d2,df2⟩:=cv3 k0)
 clear hf k0 k1 k2 hB0 df0 df1 df2
 have HFY:=HF0
 have hb:=HB0.out
 have J1:=K1
 have hk2:=K2
 have hnl:=hl
 have hsw:W1.heap.size≤W1.heap.size:=Nat.le_refl _
 go_enter Tryz.func58,Tryz.ntmps58
 go_upto_region 2 with fail
 rw[←hW1]
 clear hW1
 go_wp2_with fail
 go_loopw [14] (fun i wv=>∃(k:Nat) (v:Value),k≤xs.length∧i=.int .i64 k∧Hid (wv.heap[w.heap.size+1+1]? =some (.cells #[.int .i64 tk,.int .i64 ls,v] 66 (0,0)))∧wv.ownsRow W1.heap.size 107 6 v k ((xs.take k).map encMA).flatten∧Hid (Ke (w.heap.size+1+1) W1 wv)∧Below w.heap.size w wv) (fun i _=>xs.length-(intOf i).toNat)
 case atStart=>exact⟨0,.slice none 0 0,Nat.zero_le _,rfl,hk2,by simpa using World.ownsRow_nil _ _ _ _,zh (Ke.refl _ _),hb⟩
 case round=>
  clear hb hk2
  obtain⟨k,v,hk,rfl,hk2,hown,HKe,hb⟩:=hrel
  have hke:=HKe.out.1
  have hbs:=hb.size
  by_cases hlt:k<xs.length
  ·obtain⟨x,hx⟩:∃x,x=xs[k]:=⟨_,rfl⟩
   have hxm:x∈xs:=by rw[hx];exact List.getElem_mem hlt
   obtain⟨b,off,ea,hbl,c0,c1,c2,c3,c4,c5⟩:=(Ke.fld HFY.out HKe.out HNE.out).rw_.get6 (k:=k) (by simpa using hlt) (by rw[List.getElem_map,←hx];rfl)
   rw[ea]
   have yb:b<wr.heap.size:=by omega
   have HA:=zh ea
   have HX:=zh hx
   clear ea hx hxm
   have kk:=hk2.out
   (obtain⟨q0,qf0,q1,qf1,q2,qf2⟩:=cv3 kk)
   clear kk
   have y2:w.heap.size+1+1<wr.heap.size:=by omega
   have hne:v.ownBlock≠some (w.heap.size+1+1):=fun e=>by have:=(World.ownsRow.lt hown _ e).1;omega
   go_wp2_with (at_builtin;refine wpList_append_own _ rfl _ _ 64 rfl W1.heap.size 107 iM zeroMir 6 80 Tryz.underlying64 hiM hzM0 hzM1 hzM2 rfl (by decide) _ _ _ rfl (World.ownsRow.alloc (World.ownsRow.alloc hown _) _) ⟨wr.heap.size+1,0,none⟩ 1 1 [.string x.m.name,.string x.m.sec,.int .i64 x.m.loc,.slice x.A x.m.way.length x.c,.int .i64 x.m.left,.int .i64 x.m.heard] rfl rfl ?c1 ?c2 ?c3 ?c4 ?c5 ?_)
   case c1=>
    intro j u hj
    rw[add0,cell_of_row _ _ _ _ _ _ (heap_two wr _ _)]
    match j,hj with
    |0,hj=>simpa using hj
    |1,hj=>simpa using hj
    |2,hj=>simpa using hj
    |3,hj=>simpa using hj
    |4,hj=>simpa using hj
    |5,hj=>simpa using hj
    |j+6,hj=>simp at hj
   case c2=>intro u hu;simp at hu;rcases hu with rfl|rfl|rfl|rfl|rfl|rfl<;>rfl
   case c3=>unfold maxLen;omega
   case c4=>omega
   case c5=>simp;omega
   intro v' w6 hown' hgrow _
   obtain⟨A',c',hv'⟩:=own_form hown'
   subst hv'
   have h6:w6.heap[w.heap.size+1+1]? =some (.cells #[.int .i64 tk,.int .i64 ls,v] 66 (0,0)):=(gr_block hgrow (by simp;omega) (fun e=>hne e)).trans (bk_alloc (bk_alloc hk2.out))
   clear q0 qf0 q1 qf1 q2 qf2 c0 c1 c2 c3 c4 c5
   (obtain⟨q0,qf0,q1,qf1,q2,qf2⟩:=cv3 h6)
   have H6:=zh h6
   clear h6
   have hg6:=hgrow.size
   simp only[World.size_alloc]at hg6
   have y6:w.heap.size+1+1<w6.heap.size:=by omega
   go_wp2_with fail
   go_roundw
   case rel=>
    first|refine⟨k+1,.slice A' (k+1) c',by omega,by go_num,zh (heap_setCell_same w6 _ 2 _ _ (.slice A' (k+1) c') H6.out),?_,zh ?_,?_⟩|((repeat apply Exists.intro);refine⟨?_,rfl⟩;refine⟨k+1,.slice A' (k+1) c',by omega,by go_num,zh (heap_setCell_same w6 _ 2 _ _ (.slice A' (k+1) c') H6.out),?_,zh ?_,?_⟩)
    ·refine ownsRow_setCell_below ?_ (show w.heap.size+1+1<W1.heap.size by omega) _
     rw[List.take_succ_eq_append_getElem hlt,List.map_append,List.flatten_append,←HX.out]
     first|(simpa [encMA]using hown';done)|(rw[hsz];simpa [encMA]using hown')
    ·refine⟨by simp;omega,fun b' hb' hne'=>?_⟩
     rw[heap_setCell_other _ _ _ _ hne',gr_block hgrow (by simp;omega) (fun e=>by have:=(World.ownsRow.lt hown _ e).1;omega)]
     exact((Below.heap_alloc _ _ _ (by simp;omega)).trans (Below.heap_alloc _ _ _ (by omega))).trans (HKe.out.2 b' hb' hne')
    ·exact Bl.set (Below.grown (by exact zbl) hgrow (by simp;omega) (fun j e=>by have:=(World.ownsRow.lt hown j e).1;omega)) _ (by show w.heap.size≤w.heap.size+1+1;omega)
   case measure=>simp[intOf];omega
  ·have hkl:k=xs.length:=by omega
   rw[hkl,List.take_length]at hown
   obtain⟨AS,cS,rfl,hcS,hrow,hfr⟩:=own_rw hown (by first|(simp;done)|(simp;omega)) (by intro y hy;obtain⟨z,_,rfl⟩:=List.mem_map.1 hy;rfl)
   have HRS:=zh hrow
   have HFS:Hid (∀a,AS=some a→W1.heap.size≤a.block):=zh hfr
   clear hrow hfr hown hkl hk
   have kk:=hk2.out
   (obtain⟨q0,qf0,q1,qf1,q2,qf2⟩:=cv3 kk)
   clear kk
   have kz:=(HKe.out.2 (w.heap.size+1) (by omega) (by omega)).trans J1.out
   have J2:=zh kz
   (obtain⟨z0,zf0,z1,zf1,z2,zf2⟩:=cv3 kz)
   clear kz
   have y1:w.heap.size+1<wr.heap.size:=by omega
   have y2:w.heap.size+1+1<wr.heap.size:=by omega
   go_wp2_with fail
   refine bodyPost_ret (Tryz.rres_fld rfl _ _ rfl (set3_block J2.out)) rfl ?_
   have hfw:FldR wr wr.heap.size AS cS xs:=⟨HRS.out,fun x hx=>⟨Rw.more (Ke.rwN (HFY.out.each x hx).way HKe.out (Nat.le_refl _) (fun hn=>HNE.out.way x hx (by simpa using hn))) HKe.out.1,(HFY.out.each x hx).cap⟩,hcS⟩
   have hfe:=Ke.fld hfw (Ke.set3 (p:=w.heap.size+1) wr (.int .i64 tk) (.int .i64 ls) (.slice AS xs.length cS)) ⟨fun _ a ha=>by have:=HFS.out a ha;omega,HNX.out.way⟩
   exact⟨AS,cS,rfl,hfe,Bl.set (Bl.set (Bl.set hb _ (Nat.le_succ _)) _ (Nat.le_succ _)) _ (Nat.le_succ _)⟩
structure FBox(T:TypeId)(W0:World)(f:Fld)(b:Nat)(W:World):Prop where
 ex:∃tk ls A c xs,W.heap[b]? =some (.cells #[.int .i64 tk,.int .i64 ls,.slice A (List.length xs) c] T (0,0))∧fldOf tk ls xs=f∧FldR W W.heap.size A c xs
 lo:W0.heap.size≤b
 low:Below W0.heap.size W0 W
theorem FBox.next{T:TypeId}{W0 W W':World}{f:Fld}{b:Nat}(h:FBox T W0 f b W)(hb:Below W.heap.size W W'):FBox T W0 f b W':=by
 obtain⟨tk,ls,A,c,xs,h1,h2,h3⟩:=h.ex
 exact⟨⟨tk,ls,A,c,xs,(hb.block b (blk_lt h1)).trans h1,h2,FldR.to h3 hb⟩,h.lo,h.low.trans (hb.mono h.low.size)⟩
structure FB2(T:TypeId)(W0:World)(f:Fld)(b p:Nat)(W:World):Prop where
 ex:∃tk ls A c xs,W.heap[b]? =some (.cells #[.int .i64 tk,.int .i64 ls,.slice A (List.length xs) c] T (0,0))∧fldOf tk ls xs=f∧FldR W W.heap.size A c xs∧Blks (fun d=>d≠p) A xs
 lo:W0.heap.size≤b
 low:Below W0.heap.size W0 W
theorem FB2.box{T:TypeId}{W0 W:World}{f:Fld}{b p:Nat}(h:FB2 T W0 f b p W):FBox T W0 f b W:=by
 obtain⟨tk,ls,A,c,xs,h1,h2,h3,_⟩:=h.ex
 exact⟨⟨tk,ls,A,c,xs,h1,h2,h3⟩,h.lo,h.low⟩
theorem FB2.next{T:TypeId}{W0 W W':World}{f:Fld}{b p:Nat}(h:FB2 T W0 f b p W)(hb:Below W.heap.size W W'):FB2 T W0 f b p W':=by
 obtain⟨tk,ls,A,c,xs,h1,h2,h3,h4⟩:=h.ex
 exact⟨⟨tk,ls,A,c,xs,(hb.block b (blk_lt h1)).trans h1,h2,FldR.to h3 hb,h4⟩,h.lo,h.low.trans (hb.mono h.low.size)⟩
theorem set3_other{W:World}{b d:Nat}{v0 v1 v2:Value}{x:Option Obj}(hne:d≠b)(h:W.heap[d]? =x):(((W.setCell ⟨b,0,none⟩ v0).setCell ⟨b,1,none⟩ v1).setCell ⟨b,2,none⟩ v2).heap[d]? =x:=by
 rw[heap_setCell_other _ _ _ _ hne,heap_setCell_other _ _ _ _ hne,heap_setCell_other _ _ _ _ hne,h]
theorem FB2.set{T:TypeId}{W0 W:World}{f:Fld}{b p:Nat}(h:FB2 T W0 f b p W)(v0 v1 v2:Value)(hp:b≠p)(hl:W0.heap.size≤p):FBox T W0 f b (((W.setCell ⟨p,0,none⟩ v0).setCell ⟨p,1,none⟩ v1).setCell ⟨p,2,none⟩ v2):=by
 obtain⟨tk,ls,A,c,xs,h1,h2,h3,h4⟩:=h.ex
 exact⟨⟨tk,ls,A,c,xs,set3_other hp h1,h2,(h3.set3 _ _ _ h4).more (by simp)⟩,h.lo,Below.set3 h.low hl _ _ _⟩
theorem short_fld{xs:List MA}(h:shortF xs=true):SmallF xs∧xs.length≤17:=by
 unfold shortF at h
 simp only[Bool.and_eq_true,Bool.not_eq_true',List.all_eq_true]at h
 have hm:∀x∈xs,x.m.name.size≤40∧x.m.sec.size≤40∧x.m.way.length≤41:=fun x hx=>by
  have h1:=h.2 x hx
  unfold shortM at h1
  simp only[Bool.and_eq_true,Bool.or_eq_true,decide_eq_true_eq,beq_iff_eq]at h1
  omega
 have hn:xs.length≤17:=by
  have h1:=h.1
  cases h2:decide ((5:Int)<(xs.length:Int))with
  |false=>have:=of_decide_eq_false h2;omega
  |true=>rw[h2,Bool.true_and,bne_eq_false_iff_eq]at h1;omega
 exact⟨⟨by omega,fun x hx=>by have:=hm x hx;omega,fun x hx=>by have:=hm x hx;omega,fun x hx=>by have:=hm x hx;omega⟩,hn⟩
end Go.Proofs.YtehnikhicnnnhaaGreatDoor
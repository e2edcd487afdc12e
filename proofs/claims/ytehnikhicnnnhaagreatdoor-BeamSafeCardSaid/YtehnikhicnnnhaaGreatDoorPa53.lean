/- Small helpers: fields in worlds where one block changed; blocks of own lists. | The reference: Dark, Lit, Sector. | The statements' rounds: rounds of orders of the reference as those of the program. | The reference: Same, at two fields with the same contents. | The statements' field and told: a field of the reference as one of the program, and back. | The statements' after. | Boxes of the laws that hold fields. -/
import Derived.Test.YtehnikhicnnnhaaGreatDoorProg
import Derived.Test.YtehnikhicnnnhaaGreatDoorPa23
import Derived.Test.YtehnikhicnnnhaaGreatDoorPa47
import Derived.Lib.AppendIntMem
import Derived.Lib.ItoaLen
import Derived.Shelf.Slices.Clone
import Derived.Shelf.Slices.SearchI
import Derived.Shelf.Slices.Turned
import Derived.Shelf.SlicesE.Clone
import Derived.Shelf.Small.Strs
import Derived.Shelf.Small.Wraps
import Derived.Shelf.Strconv.Itoa3
import Derived.Shelf.Strings.BuilderCap
import Derived.Shelf.Strings.Explode
import Derived.Shelf.Strings.OnBuilder
import Derived.Shelf.Strings.Shaped
import Derived.Shelf.Strings.SplitShaped
import Derived.Shelf.Unicode.DecodeAny
import Derived.Shelf.Utf8.RuneCount
namespace Go.Proofs.YtehnikhicnnnhaaGreatDoor
open Go.RowKit
theorem Ke.set3{p:Nat}(W:World)(v0 v1 v2:Value):Ke p W (((W.setCell ⟨p,0,none⟩ v0).setCell ⟨p,1,none⟩ v1).setCell ⟨p,2,none⟩ v2):=
 ⟨by simp,fun b _ hne=>by rw[heap_setCell_other _ _ _ _ hne,heap_setCell_other _ _ _ _ hne,heap_setCell_other _ _ _ _ hne]⟩
theorem Ke.rwN{p B sz:Nat}{U W:World}{A:Option Addr}{l:List (List Value)}(h:Rw U B sz A l)(hk:Ke p U W)(hB:B≤U.heap.size)(hp:l≠ []→∀a,A=some a→a.block≠p):Rw W B sz A l:=fun hn=>Ke.rw_ h hk hB (hp hn) hn
theorem Ke.fld{p c:Nat}{U W:World}{A:Option Addr}{xs:List MA}(h:FldR U U.heap.size A c xs)(hk:Ke p U W)(hp:Blks (fun b=>b≠p) A xs):FldR W W.heap.size A c xs:=
 ⟨Rw.more (Ke.rwN h.rw_ hk (Nat.le_refl _) (fun hn=>hp.row (by simpa using hn))) hk.1,fun x hx=>⟨Rw.more (Ke.rwN (h.each x hx).way hk (Nat.le_refl _) (fun hn=>hp.way x hx (by simpa using hn))) hk.1,(h.each x hx).cap⟩,h.cap⟩
theorem own_block{T:TypeId}{w:World}{base:Nat}{A:Option Addr}{c:Nat}{ys:List MA}(h:OwnT T w base A c ys):∀a,A=some a→base≤a.block:=by
 intro a ha
 rcases h.row.2 with ⟨hv,_⟩|⟨g,cap,cur,hv,hb,_⟩
 ·rw[ha]at hv;cases hv
 ·rw[ha]at hv
  cases hv
  exact hb
set_option maxRecDepth 100000 in
set_option maxHeartbeats 4000000 in
theorem rDark_c(a:GA)(g:Grd)(tk ls:Int)(A:Option Addr)(c:Nat)(xs:List MA)(w:World)(hl:xs.length≤1000)(hloc:∀x∈xs,0≤x.m.loc∧x.m.loc<g.sta.length)(hr:GridR w w.heap.size a g)(hf:FldR w w.heap.size A c xs):
 Calls Tryz.prog 53 #[(.agg #[.int .i64 g.blur,.slice a.pS g.sta.length a.cs,.slice a.pM g.mov.length a.cm,.slice a.pZ g.zon.length a.cz]),(.agg #[.int .i64 tk,.int .i64 ls,.slice A xs.length c])] w fun e w'=>e=.returned (.bool (darkG g (fldOf tk ls xs)))∧Below w.heap.size w w':=by
 obtain⟨W1,hW1⟩:∃W1,W1=(w.alloc (.cells #[.int .i64 g.blur,.slice a.pS g.sta.length a.cs,.slice a.pM g.mov.length a.cm,.slice a.pZ g.zon.length a.cz] 26)).alloc (.cells #[.int .i64 tk,.int .i64 ls,.slice A xs.length c] 66):=⟨_,rfl⟩
 have k0:W1.heap[w.heap.size]? =some (.cells #[.int .i64 g.blur,.slice a.pS g.sta.length a.cs,.slice a.pM g.mov.length a.cm,.slice a.pZ g.zon.length a.cz] 26 (0,0)):=by rw[hW1];exact(Below.heap_alloc _ _ _ (by simp)).trans (heap_alloc_new w _)
 have k1:W1.heap[w.heap.size+1]? =some (.cells #[.int .i64 tk,.int .i64 ls,.slice A xs.length c] 66 (0,0)):=by rw[hW1];exact heap_two w _ _
 have hB0:Below w.heap.size w W1:=by rw[hW1];(repeat first|(with_reducible first|assumption|exact Below.refl _ _|refine Bl.drew ?_|refine Bl.drewN ?_ _|refine Bl.alloc ?_ _|refine Bl.set ?_ _ ?_)|(with_reducible apply Bl.step';(focus(with_reducible assumption)))|omega|(focus(simp;done))|(focus(simp;omega)))
 have HB0:=zh hB0
 have HG:=zh (hr.to hB0)
 have HF:=zh (FldR.to hf hB0)
 have HL:=zh hloc
 have z0:=blk_lt k0
 have z1:=blk_lt k1
 have HD:=zh (darkG_eq g tk ls xs)
 (obtain⟨g0,g1,g2,g3⟩:=cg4 k0)
 (obtain⟨d0,df0,d1,df1,d2,df2⟩:=cv3 k1)
 clear hr hf k0 k1 hB0 df0 df1 df2 hloc
 go_enter Tryz.func53,Tryz.ntmps53
 go_upto_region 1 with fail
 rw[←hW1]
 clear hW1
 go_wp2_with fail
 go_loopw [5] (fun i wr=>∃k:Nat,k≤xs.length∧i=.int .i64 k∧Hid (∀x∈xs.take k,standsG g x.m=true)∧Below W1.heap.size W1 wr) (fun i _=>xs.length-(intOf i).toNat)
 case atStart=>exact⟨0,Nat.zero_le _,rfl,zh (by simp),Below.refl _ _⟩
 case round=>
  obtain⟨k,hk,rfl,hal,hb⟩:=hrel
  have hbs:=hb.size
  have hc:=(bcell hb).1
  have y0:w.heap.size<wr.heap.size:=by omega
  have y1:w.heap.size+1<wr.heap.size:=by omega
  by_cases hlt:k<xs.length
  ·obtain⟨x,hx⟩:∃x,x=xs[k]:=⟨_,rfl⟩
   have hxm:x∈xs:=by rw[hx];exact List.getElem_mem hlt
   obtain⟨b,off,ea,hbl,c0,c1,c2,c3,c4,c5⟩:=HF.out.rw_.get6 (k:=k) (by simpa using hlt) (by rw[List.getElem_map,←hx];rfl)
   rw[ea]at d2
   have yb:b<wr.heap.size:=by omega
   have HX:=zh hx
   have HLX:=zh (HL.out x hxm)
   have HEA:=zh ea
   have HBW:=zh hb
   clear hx hxm ea
   obtain⟨m,mA,mc⟩:=x
   simp only at c0 c1 c2 c3 c4 c5 HLX
   cases hp:standsG g m with
   |false=>
    have HP:=zh hp
    have hq:=zh (show darkG g (fldOf tk ls xs)=false by
     rw[HD.out,List.all_eq_false]
     exact⟨xs[k],List.getElem_mem hlt,by rw[←HX.out];simp[hp]⟩)
    clear hp
    go_wp2_with fail
    go_region_held3 (SHd wr) ((refine Sh.goal ?_;exact zsh)) (first|(go_at_call 129;(with_reducible refine Calls.mono (rIsDark_c a g m mA mc _ HLX.out (HG.out.to (HBW.out.trans ((show Below wr.heap.size wr _ by exact zbl).mono HBW.out.size)))) ?_);rintro e w2 ⟨rfl,hb2⟩;rw[HP.out]))
    all_goals
     go_wp2_with fail
     go_ret
     exact⟨ret_bool hq.out.symm,HB0.out.trans ((HBW.out.trans ((show Below wr.heap.size wr _ by exact zbl).mono HBW.out.size)).mono HB0.out.size)⟩
   |true=>
    have HP:=zh hp
    clear hp
    go_wp2_with fail
    go_region_held3 (SHd wr) ((refine Sh.goal ?_;exact zsh)) (first|(go_at_call 129;(with_reducible refine Calls.mono (rIsDark_c a g m mA mc _ HLX.out (HG.out.to (HBW.out.trans ((show Below wr.heap.size wr _ by exact zbl).mono HBW.out.size)))) ?_);rintro e w2 ⟨rfl,hb2⟩;rw[HP.out]))
    all_goals
     go_wp2_with fail
     go_roundw
     case rel=>exact⟨k+1,by omega,by go_num,zh (take_allT (p:=fun x:MA=>standsG g x.m) hlt hal.out (by rw[←HX.out];exact HP.out)),HBW.out.trans ((show Below wr.heap.size wr _ by exact zbl).mono HBW.out.size)⟩
     case measure=>simp[intOf];omega
  ·have hkl:k=xs.length:=by omega
   have hq:=zh (show darkG g (fldOf tk ls xs)=true by
    rw[HD.out,List.all_eq_true]
    have:=hal.out
    rw[hkl,List.take_length]at this
    exact this)
   go_wp2_with fail
   go_ret
   exact⟨ret_bool hq.out.symm,HB0.out.trans (hb.mono HB0.out.size)⟩
theorem litG_eqn(g:Grd)(tk ls:Int)(xs:List MA):litG g (fldOf tk ls xs)=nmsP (fun x=>litM g x.m) xs:=by
 unfold litG nmsP fldOf
 rw[List.filter_map,List.map_map]
 rfl
set_option maxRecDepth 100000 in
set_option maxHeartbeats 4000000 in
theorem rLit_c(a:GA)(g:Grd)(tk ls:Int)(A:Option Addr)(c:Nat)(xs:List MA)(w:World)(hl:xs.length≤1000)(hloc:∀x∈xs,0≤x.m.loc∧x.m.loc<g.sta.length)(hr:GridR w w.heap.size a g)(hf:FldR w w.heap.size A c xs):
 Calls Tryz.prog 51 #[(.agg #[.int .i64 g.blur,.slice a.pS g.sta.length a.cs,.slice a.pM g.mov.length a.cm,.slice a.pZ g.zon.length a.cz]),(.agg #[.int .i64 tk,.int .i64 ls,.slice A xs.length c])] w fun e w'=>∃v,e=.returned v∧OwnS w' w.heap.size v (litG g (fldOf tk ls xs))∧Below w.heap.size w w':=by
 rw[litG_eqn]
 obtain⟨i0,hi,hi0,hi1,hi2⟩:=info_parts Tryz.infoStr
 obtain⟨W1,hW1⟩:∃W1,W1=(w.alloc (.cells #[.int .i64 g.blur,.slice a.pS g.sta.length a.cs,.slice a.pM g.mov.length a.cm,.slice a.pZ g.zon.length a.cz] 26)).alloc (.cells #[.int .i64 tk,.int .i64 ls,.slice A xs.length c] 66):=⟨_,rfl⟩
 have k0:W1.heap[w.heap.size]? =some (.cells #[.int .i64 g.blur,.slice a.pS g.sta.length a.cs,.slice a.pM g.mov.length a.cm,.slice a.pZ g.zon.length a.cz] 26 (0,0)):=by rw[hW1];exact(Below.heap_alloc _ _ _ (by simp)).trans (heap_alloc_new w _)
 have k1:W1.heap[w.heap.size+1]? =some (.cells #[.int .i64 tk,.int .i64 ls,.slice A xs.length c] 66 (0,0)):=by rw[hW1];exact heap_two w _ _
 have hB0:Below w.heap.size w W1:=by rw[hW1];(repeat first|(with_reducible first|assumption|exact Below.refl _ _|refine Bl.drew ?_|refine Bl.drewN ?_ _|refine Bl.alloc ?_ _|refine Bl.set ?_ _ ?_)|(with_reducible apply Bl.step';(focus(with_reducible assumption)))|omega|(focus(simp;done))|(focus(simp;omega)))
 have HB0:=zh hB0
 have HG:=zh (hr.to hB0)
 have HF:=zh (FldR.to hf hB0)
 have HL:=zh hloc
 have z0:=blk_lt k0
 have z1:=blk_lt k1
 (obtain⟨g0,g1,g2,g3⟩:=cg4 k0)
 (obtain⟨d0,df0,d1,df1,d2,df2⟩:=cv3 k1)
 clear hr hf k0 k1 hB0 df0 df1 df2 hloc
 go_enter Tryz.func51,Tryz.ntmps51
 go_upto_region 1 with fail
 rw[←hW1]
 clear hW1
 go_wp2_with fail
 go_loopw [5,6] (fun v i wr=>∃k:Nat,k≤xs.length∧i=.int .i64 k∧OwnS wr W1.heap.size v (nmsP (fun x=>litM g x.m) (xs.take k))∧Below W1.heap.size W1 wr) (fun _ i _=>xs.length-(intOf i).toNat)
 case atStart=>exact⟨0,Nat.zero_le _,rfl,OwnS.nil_ _ _,Below.refl _ _⟩
 case round=>
  obtain⟨k,hk,rfl,hown,hb⟩:=hrel
  have hbs:=hb.size
  have hc:=(bcell hb).1
  have y0:w.heap.size<wr.heap.size:=by omega
  have y1:w.heap.size+1<wr.heap.size:=by omega
  by_cases hlt:k<xs.length
  ·obtain⟨x,hx⟩:∃x,x=xs[k]:=⟨_,rfl⟩
   have hxm:x∈xs:=by rw[hx];exact List.getElem_mem hlt
   obtain⟨b,off,ea,hbl,c0,c1,c2,c3,c4,c5⟩:=HF.out.rw_.get6 (k:=k) (by simpa using hlt) (by rw[List.getElem_map,←hx];rfl)
   rw[ea]at d2
   have yb:b<wr.heap.size:=by omega
   have HEA:=zh ea
   have hlx:=HL.out x hxm
   obtain⟨nl,hnl⟩:∃nl,nl=nmsP (fun x=>litM g x.m) (xs.take k):=⟨_,rfl⟩
   have hnn:nl.length≤1000:=by rw[hnl];have:=nmsP_len (fun x=>litM g x.m) (xs.take k);rw[List.length_take]at this;omega
   have hst:nmsP (fun x=>litM g x.m) (xs.take (k+1))=nl++(if litM g x.m then [x.m.name]else []):=by rw[nmsP_succ hlt,←hnl,hx]
   rw[←hnl]at hown
   have HST:=zh hst
   have HBW:=zh hb
   clear hx hxm hnl hst ea
   obtain⟨m,mA,mc⟩:=x
   simp only at c0 c1 c2 c3 c4 c5 HST hlx
   obtain⟨j,hj⟩:=Int.eq_ofNat_of_zero_le hlx.1
   have hjn:j<g.sta.length:=by omega
   obtain⟨sb,so,es,hsb,s0,s1,s2,s3⟩:=HG.out.sta.get4 (k:=j) (by simpa using hjn) (by rw[List.getElem_map];rfl)
   obtain⟨s,hs⟩:∃s,s=g.sta[j].kind:=⟨_,rfl⟩
   have hkd:kindG g m.loc=s:=by
    unfold kindG;rw[hj,Int.toNat_natCast,List.getD_eq_getElem?_getD,List.getElem?_eq_getElem hjn,hs];rfl
   rw[←hs]at s1
   rw[es]at g1
   rw[hj]at c2
   have ysb:sb<wr.heap.size:=by omega
   have HLM:=zh (show litM g m=(decide (m.way= [])&&sEq s kFocus) by unfold litM;rw[hkd])
   have HES:=zh es
   have HJ:=zh hj
   clear hs hkd hlx es s0 s2 s3 hj
   by_cases hw:m.way.length=0
   ·have HW:=zh (show m.way= []from List.length_eq_zero_iff.1 hw)
    have hl':((m.way.length:Int)==0)=true:=by rw[beq_iff_eq];omega
    have hq:(s.toList== [102,111,99,117,115])=sEq s kFocus:=by rw[ByteArray.toList_eq];rfl
    cases hf:sEq s kFocus with
    |true=>
     have HT:=zh (show litM g m=true by rw[HLM.out,HW.out,hf];rfl)
     rw[hf]at hq
     have hq2:s.toList= [102,111,99,117,115]:=by simpa using hq
     clear hf hw
     rw[HT.out]at HST
     go_wp2_with (at_builtin;refine wpList_append_own _ rfl _ _ 90 rfl W1.heap.size 9 i0 (.string ⟨#[]⟩) 1 16 Tryz.underlying90 hi hi0 hi1 hi2 rfl (by decide) _ _ _ rfl (World.ownsRow.alloc (World.ownsRow.alloc hown _) _) ⟨wr.heap.size+1,0,none⟩ 1 1 [.string m.name] rfl rfl ?c1 ?c2 ?c3 ?c4 ?c5 ?_)
     case c2=>first|rfl|(intro u hu;simp at hu;subst hu;rfl)
     case c3=>unfold maxLen;omega
     case c4=>omega
     case c5=>first|omega|(simp;omega)
     intro v' w4 hown' hgrow _
     go_wp2_with fail
     go_roundw
     case rel=>exact⟨k+1,by omega,by go_num,by rw[HST.out];exact OwnS.app hown',Below.grown (by exact zbl) hgrow (by simp;omega) (fun j e=>(World.ownsRow.lt hown j e).1)⟩
     case measure=>simp[intOf];omega
    |false=>
     have HT:=zh (show litM g m=false by rw[HLM.out,hf];simp)
     rw[hf]at hq
     have hs2:s.toList≠ [102,111,99,117,115]:=by simpa using hq
     clear hf hw
     rw[HT.out]at HST
     go_wp2_with fail
     go_roundw
     case rel=>exact⟨k+1,by omega,by go_num,by rw[HST.out];simpa using hown.alloc _,by exact zbl⟩
     case measure=>simp[intOf];omega
   ·have hl':((m.way.length:Int)==0)=false:=by rw[beq_eq_false_iff_ne];omega
    have HT:=zh (show litM g m=false by rw[HLM.out,decide_eq_false (fun h=>hw (by rw[h];rfl))];rfl)
    clear hw
    rw[HT.out]at HST
    go_wp2_with fail
    go_roundw
    case rel=>exact⟨k+1,by omega,by go_num,by rw[HST.out];simpa using hown.alloc _,by exact zbl⟩
    case measure=>simp[intOf];omega
  ·have hkl:k=xs.length:=by omega
   rw[hkl,List.take_length]at hown
   have HO:=zh hown
   clear hown hkl
   go_wp2_with fail
   go_ret
   exact⟨_,rfl,HO.out.mono HB0.out.size,HB0.out.trans (hb.mono HB0.out.size)⟩
def rrE(tk:Int)(n:Nat):Int:=if(256:Int)<n then 5 else if 10000000<tk+n then 3 else 0
def rrF(g:Grd)(f:Fld)(rs:List (List Ord)):Fld:=if rrE f.tick rs.length=0 then runG g f rs else fld0
theorem runE_ok{g:Grd}{f:Fld}{n:Nat}(h:fieldC g f=0):runE g f n=rrE f.tick n:=by
 unfold runE rrE
 rw[h]
 by_cases h1:(256:Int)<n
 ·rw[if_pos h1,decide_eq_true h1];rfl
 ·rw[if_neg h1,decide_eq_false h1]
  by_cases h2:(10000000:Int)<f.tick+n
  ·rw[if_pos h2,decide_eq_true (by omega)];rfl
  ·rw[if_neg h2,decide_eq_false (by omega)];rfl
def zeroOrd:Value:=.agg #[.string ⟨#[]⟩,.string ⟨#[]⟩,.bool false]
theorem Tryz.infoBO:(Tryz.prog.info? 76).map (fun i=>(i.zero,i.size,i.bytes))=some (some zeroOrd,3,40):=by kernel_rfl
theorem Tryz.infoSO:(Tryz.prog.info? 200).map (fun i=>(i.zero,i.size,i.bytes))=some (some (.slice none 0 0),1,24):=by kernel_rfl
theorem encR_len{ys:List RA}:∀x∈ys.map encR,x.length=1:=by
 intro x hx;obtain⟨y,_,rfl⟩:=List.mem_map.1 hx;rfl
structure OwnR(w:World)(base:Nat)(A:Option Addr)(c:Nat)(ys:List RA):Prop where
 row:w.ownsRow base 200 1 (.slice A ys.length c) ys.length (ys.map encR).flatten
 each:∀x∈ys,Rw w w.heap.size 3 x.A (x.os.map encO)
 apart:∀x∈ys,x.os≠ []→∀a,x.A=some a→∀d,A=some d→a.block≠d.block
theorem OwnR.nil_(w:World)(base:Nat):OwnR w base none 0 []:=⟨World.ownsRow_nil _ _ _ _,by simp,by simp⟩
theorem OwnR.below{w w':World}{base c:Nat}{A:Option Addr}{ys:List RA}(h:OwnR w base A c ys)(hb:Below w.heap.size w w'):OwnR w' base A c ys:=
 ⟨World.ownsRow.kept h.row (row:=none) (grown_of hb) (by cases(Value.slice A ys.length c).ownBlock<;>simp),fun x hx=>Rw.more (Rw.belowB (w0:=w) (h.each x hx) hb (Nat.le_refl _)) hb.size,h.apart⟩
theorem OwnR.rnd{w:World}{base c:Nat}{A:Option Addr}{ys:List RA}(h:OwnR w base A c ys):RndR w w.heap.size A ys:=by
 refine⟨?_,h.each⟩
 obtain⟨A',c',e,_,hr,_⟩:=own_rw h.row (by simp) encR_len
 cases e
 exact hr
theorem rw_at{w:World}{B sz:Nat}{A:Option Addr}{l:List (List Value)}(h:Rw w B sz A l)(hn:l≠ []):∃b off,A=some ⟨b,off,none⟩∧b<B:=by
 obtain⟨b,off,e,hb,_⟩:=h hn
 exact⟨b,off,e,hb⟩
set_option maxRecDepth 100000 in
set_option maxHeartbeats 8000000 in
theorem rounds_c(A:Option Addr)(c:Nat)(rs:List RA)(w:World)(hl:rs.length≤1000)(hon:∀x∈rs,x.os.length≤1000)(hr:RndR w w.heap.size A rs):
 Calls Tryz.prog 47 #[.slice A rs.length c] w fun e w'=>∃A' c' ys,e=.returned (.slice A' ys.length c')∧ys.map RA.os=rs.map RA.os∧RndR w' w'.heap.size A' ys∧Below w.heap.size w w':=by
 obtain⟨iO,hiO,hzO0,hzO1,hzO2⟩:=info_parts Tryz.infoBO
 obtain⟨iL,hiL,hzL0,hzL1,hzL2⟩:=info_parts Tryz.infoSO
 have HR:=zh hr;clear hr
 have HON:=zh hon;clear hon
 go_enter Tryz.func47,Tryz.ntmps47
 go_wp2_with fail
 go_loopw [3,11] (fun v i wr=>∃(k:Nat) (A':Option Addr) (c':Nat) (ys:List RA),k≤rs.length∧v=.slice A' ys.length c'∧i=.int .i64 k∧OwnR wr w.heap.size A' c' ys∧Hid (ys.map RA.os=(rs.take k).map RA.os)∧Below w.heap.size w wr) (fun _ i _=>rs.length-(intOf i).toNat)
 case atStart=>exact⟨0,none,0,[],Nat.zero_le _,rfl,rfl,OwnR.nil_ _ _,zh (by simp),Below.refl _ _⟩
 case round=>
  obtain⟨k,A',c',ys,hk,rfl,rfl,hown,hys,hb⟩:=hrel
  have hyl:ys.length=k:=by have:=congrArg List.length hys.out;simpa [Nat.min_eq_left hk]using this
  have hyb:ys.length≤1000:=by omega
  have HYL:=zh hyl
  clear hyl
  have HOW:=zh hown
  clear hown
  by_cases hlt:k<rs.length
  ·obtain⟨x,hx⟩:∃x,x=rs[k]:=⟨_,rfl⟩
   have hxm:x∈rs:=by rw[hx];exact List.getElem_mem hlt
   have hrr:=HR.out.belowB (w0:=w) hb (Nat.le_refl _)
   obtain⟨b,off,ea,hbl,x0⟩:=hrr.row.get1 (k:=k) (by simpa using hlt) (by rw[List.getElem_map,←hx];rfl)
   have HXO:=zh (hrr.each x hxm)
   have hxo:=HON.out x hxm
   have HX:=zh hx
   rw[ea]
   have HEA:=zh ea
   clear hx hxm hrr ea
   obtain⟨os,oA,oc⟩:=x
   simp only at x0 HXO hxo
   obtain⟨U,hU⟩:∃U,U=wr:=⟨_,rfl⟩
   subst hU
   have hbU:=hb.size
   have yb:b<U.heap.size:=by omega
   go_wp2_with fail
   go_loopw [6,17] (fun u j wv=>∃n:Nat,n≤os.length∧j=.int .i64 n∧wv.ownsRow U.heap.size 76 3 u n ((os.take n).map encO).flatten∧Below U.heap.size U wv) (fun _ j _=>os.length-(intOf j).toNat)
   case atStart=>exact⟨0,Nat.zero_le _,rfl,by simpa using World.ownsRow_nil _ _ _ _,Below.refl _ _⟩
   case round=>
    obtain⟨n,hn,rfl,hou,hbu⟩:=hrel
    have hbs:=hbu.size
    by_cases hlu:n<os.length
    ·obtain⟨o,ho⟩:∃o,o=os[n]:=⟨_,rfl⟩
     obtain⟨ob,ooff,eo,hobl,z0,z1,z2⟩:=(Rw.belowB (w0:=U) HXO.out hbu (by omega)).get3 (k:=n) (by simpa using hlu) (by rw[List.getElem_map,←ho];rfl)
     rw[eo]
     have yo:ob<wr.heap.size:=by omega
     have HO:=zh ho
     have HEO:=zh eo
     clear ho eo
     go_wp2_with (at_builtin;refine wpList_append_own _ rfl _ _ 200 rfl U.heap.size 76 iO zeroOrd 3 40 Tryz.underlying200 hiO hzO0 hzO1 hzO2 rfl (by decide) _ _ _ rfl (World.ownsRow.alloc (World.ownsRow.alloc hou _) _) ⟨wr.heap.size+1,0,none⟩ 1 1 [.string o.mir,.string o.sta,.bool o.lost] rfl rfl ?c1 ?c2 ?c3 ?c4 ?c5 ?_)
     case c1=>
      intro j u hj
      rw[add0,cell_of_row _ _ _ _ _ _ (heap_two wr _ _)]
      match j,hj with
      |0,hj=>simpa using hj
      |1,hj=>simpa using hj
      |2,hj=>simpa using hj
      |j+3,hj=>simp at hj
     case c2=>intro u hu;simp at hu;rcases hu with rfl|rfl|rfl<;>rfl
     case c3=>unfold maxLen;omega
     case c4=>omega
     case c5=>simp;omega
     intro v' w6 hou' hgrow _
     go_wp2_with fail
     go_roundw
     case rel=>
      refine⟨n+1,by omega,by go_num,?_,Below.grown (by exact zbl) hgrow (by simp;omega) (fun j e=>(World.ownsRow.lt hou j e).1)⟩
      rw[List.take_succ_eq_append_getElem hlu,List.map_append,List.flatten_append,←HO.out]
      simpa [encO]using hou'
     case measure=>simp[intOf];omega
    ·have hnl:n=os.length:=by omega
     rw[hnl,List.take_length]at hou
     obtain⟨A1,c1,rfl,hcS,hrow,hfr⟩:=own_rw hou (by simp) (by intro y hy;obtain⟨z,_,rfl⟩:=List.mem_map.1 hy;rfl)
     have HRW:=zh hrow
     have HFR:=zh hfr
     have HO2:=OwnR.below HOW.out hbu
     have HBU:=zh hbu
     clear hrow hfr hou hnl
     go_wp2_with (at_builtin;go_loud (refine wpList_append_lies _ rfl _ _ 88 rfl w.heap.size 200 iL (.slice none 0 0) 1 24 Tryz.underlying88 hiL hzL0 hzL1 hzL2 rfl (by decide) _ _ _ rfl (World.ownsRow.alloc HO2.row _) ⟨wr.heap.size,0,none⟩ 1 1 (encR ⟨os,A1,c1⟩) rfl rfl ?c1 ?c2 (by decide) ?c3 ?c4 ?c5 _ rfl ?_))
     case c1=>
      intro j u hj
      rw[add0,cells_new _ _ rfl]
      match j,hj with
      |0,hj=>simpa [encR]using hj
      |j+1,hj=>simp[encR]at hj
     case c2=>intro u hu;simp[encR]at hu;subst hu;rfl
     case c3=>unfold maxLen;omega
     case c4=>omega
     case c5=>have h1:=hb.size;rw[World.size_alloc];omega
     intro g1 cap1 w4 hown' hgrow hat hlt4
     go_wp2_with fail
     go_roundw
     case rel=>
      have hBz:=hgrow.size
      rw[World.size_alloc]at hBz
      refine⟨k+1,some ⟨g1,0,none⟩,cap1,ys++ [⟨os,A1,c1⟩],by omega,by simp,by go_num,⟨by simpa using hown',?_,?_⟩,zh ?_,Below.grown (by exact zbl) hgrow (by simp;omega) (fun j e=>(World.ownsRow.lt HO2.row j e).1)⟩
      ·intro z hz
       rcases List.mem_append.1 hz with hz|hz
       ·intro hn
        obtain⟨b',off',e,hb',hc'⟩:=HO2.each z hz hn
        refine⟨b',off',e,by omega,fun i hi j v hv=>hgrow.cell ((World.cell?_alloc_lt _ _ ⟨b',off'+i*3+j,none⟩ hb').trans (hc' i hi j v hv)) ?_⟩
        intro e2
        cases A' with
        |none=>cases e2
        |some d=>exact HO2.apart z hz (fun h=>hn (by rw[h];rfl)) _ e d rfl (by simpa [Value.ownBlock]using e2)
       ·simp only[List.mem_singleton]at hz;subst hz
        intro hn
        obtain⟨b',off',e,hb',hc'⟩:=HRW.out hn
        refine⟨b',off',e,by omega,fun i hi j v hv=>hgrow.cell ((World.cell?_alloc_lt _ _ ⟨b',off'+i*3+j,none⟩ hb').trans (hc' i hi j v hv)) ?_⟩
        intro e2
        cases A' with
        |none=>cases e2
        |some d=>
         simp only[Value.ownBlock,Option.some.injEq]at e2
         have h1:=World.ownsRow.lt HOW.out.row d.block rfl
         have h2:=HFR.out _ e
         have:b'=d.block:=e2
         simp only at h2;omega
      ·intro z hz hne a ha d hd
       cases hd
       show a.block≠g1
       have hg1:(∃d',A'=some d'∧d'.block=g1)∨g1=wr.heap.size+1:=by
        rcases hat with h|h
        ·left
         cases A' with
         |none=>cases h
         |some d'=>exact⟨d',rfl,by simpa [Value.ownBlock]using h⟩
        ·right;exact h
       rcases List.mem_append.1 hz with hz|hz
       ·rcases hg1 with ⟨d',e1,e2⟩|e1
        ·rw[←e2];exact HO2.apart z hz hne a ha d' e1
        ·obtain⟨b',off',e,hb'⟩:=rw_at (HO2.each z hz) (by simpa using hne)
         rw[ha]at e
         cases e
         show b'≠g1
         omega
       ·simp only[List.mem_singleton]at hz;subst hz
        rcases hg1 with ⟨d',e1,e2⟩|e1
        ·have h1:=World.ownsRow.lt HOW.out.row d'.block (by rw[e1];rfl)
         have h2:=HFR.out a ha
         omega
        ·obtain⟨b',off',e,hb'⟩:=rw_at HRW.out (by simpa using hne)
         rw[show A1=some a from ha]at e
         cases e
         show b'≠g1
         omega
      ·rw[List.map_append,hys.out,List.take_succ_eq_append_getElem hlt,List.map_append,←HX.out]
       rfl
     case measure=>simp[intOf];omega
  ·have hkl:k=rs.length:=by omega
   subst hkl
   go_wp2_with fail
   go_ret
   exact⟨A',c',ys,rfl,by rw[hys.out,List.take_length],HOW.out.rnd,hb⟩
structure TwoBox(w:World)(m:Mir)(A A':Option Addr)(c c':Nat)(p q:Nat)(wx:World):Prop where
 lo:w.heap.size≤p
 lo':w.heap.size≤q
 box:wx.heap[p]? =some (.cells #[.string m.name,.string m.sec,.int .i64 m.loc,.slice A m.way.length c,.int .i64 m.left,.int .i64 m.heard] 107 (0,0))
 box':wx.heap[q]? =some (.cells #[.string m.name,.string m.sec,.int .i64 m.loc,.slice A' m.way.length c',.int .i64 m.left,.int .i64 m.heard] 107 (0,0))
 sh:Sh w wx
 low:Below w.heap.size w wx
theorem twoBox1(w:World)(m:Mir)(A A':Option Addr)(c c':Nat):TwoBox w m A A' c c' w.heap.size (w.heap.size+1) ((w.alloc (.cells #[.string m.name,.string m.sec,.int .i64 m.loc,.slice A m.way.length c,.int .i64 m.left,.int .i64 m.heard] 107)).alloc (.cells #[.string m.name,.string m.sec,.int .i64 m.loc,.slice A' m.way.length c',.int .i64 m.left,.int .i64 m.heard] 107)).drew:=
 ⟨Nat.le_refl _,by omega,(Below.heap_alloc _ _ _ (by simp)).trans (heap_alloc_new w _),heap_two w _ _,by exact zsh,by exact zbl⟩
theorem twoBox2(w:World)(m:Mir)(A A':Option Addr)(c c':Nat):TwoBox w m A A' c c' (w.heap.size+1) w.heap.size ((w.alloc (.cells #[.string m.name,.string m.sec,.int .i64 m.loc,.slice A' m.way.length c',.int .i64 m.left,.int .i64 m.heard] 107)).alloc (.cells #[.string m.name,.string m.sec,.int .i64 m.loc,.slice A m.way.length c,.int .i64 m.left,.int .i64 m.heard] 107)).drew:=
 ⟨by omega,Nat.le_refl _,heap_two w _ _,(Below.heap_alloc _ _ _ (by simp)).trans (heap_alloc_new w _),by exact zsh,by exact zbl⟩
set_option maxRecDepth 100000 in
set_option maxHeartbeats 8000000 in
theorem rSame_c(tk ls:Int)(A A':Option Addr)(c c':Nat)(xs ys:List MA)(w:World)(hl:xs.length≤1000)(hw:∀x∈xs,x.m.way.length≤1000)(he:xs.map MA.m=ys.map MA.m)(hf:FldR w w.heap.size A c xs)(hf':FldR w w.heap.size A' c' ys):
 Calls Tryz.prog 60 #[(.agg #[.int .i64 tk,.int .i64 ls,.slice A xs.length c]),(.agg #[.int .i64 tk,.int .i64 ls,.slice A' ys.length c'])] w fun e w'=>e=.returned (.bool true)∧Below w.heap.size w w':=by
 obtain⟨W1,hW1⟩:∃W1,W1=(w.alloc (.cells #[.int .i64 tk,.int .i64 ls,.slice A xs.length c] 66)).alloc (.cells #[.int .i64 tk,.int .i64 ls,.slice A' ys.length c'] 66):=⟨_,rfl⟩
 have k0:W1.heap[w.heap.size]? =some (.cells #[.int .i64 tk,.int .i64 ls,.slice A xs.length c] 66 (0,0)):=by rw[hW1];exact(Below.heap_alloc _ _ _ (by simp)).trans (heap_alloc_new w _)
 have k1:W1.heap[w.heap.size+1]? =some (.cells #[.int .i64 tk,.int .i64 ls,.slice A' ys.length c'] 66 (0,0)):=by rw[hW1];exact heap_two w _ _
 have hB0:Below w.heap.size w W1:=by rw[hW1];(repeat first|(with_reducible first|assumption|exact Below.refl _ _|refine Bl.drew ?_|refine Bl.drewN ?_ _|refine Bl.alloc ?_ _|refine Bl.set ?_ _ ?_)|(with_reducible apply Bl.step';(focus(with_reducible assumption)))|omega|(focus(simp;done))|(focus(simp;omega)))
 have HB0:=zh hB0
 have HF1:=zh (FldR.to hf hB0)
 have HF2:=zh (FldR.to hf' hB0)
 have z0:=blk_lt k0
 have z1:=blk_lt k1
 have hyl:ys.length=xs.length:=by simpa using(congrArg List.length he).symm
 have hnn:((xs.length:Int)!=(ys.length:Int))=false:=by rw[bne_eq_false_iff_eq,hyl]
 have HYL:=zh hyl
 (obtain⟨g0,gf0,g1,gf1,g2,gf2⟩:=cv3 k0)
 (obtain⟨d0,df0,d1,df1,d2,df2⟩:=cv3 k1)
 have HE:=zh he
 have HW:=zh hw
 clear hf hf' k0 k1 hB0 gf0 gf1 gf2 df0 df1 df2 he hw hyl
 go_enter Tryz.func60,Tryz.ntmps60
 go_upto_region 1 with fail
 rw[←hW1]
 clear hW1
 go_upto_region 4 with fail
 go_wp2_with fail
 go_loopw [5] (fun i wr=>∃k:Nat,k≤xs.length∧i=.int .i64 k∧Below W1.heap.size W1 wr) (fun i _=>xs.length-(intOf i).toNat)
 case atStart=>exact⟨0,Nat.zero_le _,rfl,Below.refl _ _⟩
 case round=>
  obtain⟨k,hk,rfl,hb⟩:=hrel
  have hc1:=(bcell hb).1
  have y0:w.heap.size<wr.heap.size:=Nat.lt_of_lt_of_le z0 hb.size
  have y1:w.heap.size+1<wr.heap.size:=Nat.lt_of_lt_of_le z1 hb.size
  by_cases hlt:k<xs.length
  ·have hlt':k<ys.length:=by rw[HYL.out];exact hlt
   obtain⟨x,hx⟩:∃x,x=xs[k]:=⟨_,rfl⟩
   obtain⟨y,hy⟩:∃y,y=ys[k]:=⟨_,rfl⟩
   have hm:y.m=x.m:=by
    have h1:(ys.map MA.m)[k]? =(xs.map MA.m)[k]? :=by rw[HE.out]
    rw[List.getElem?_map,List.getElem?_map,List.getElem?_eq_getElem hlt,List.getElem?_eq_getElem hlt',←hx,←hy]at h1
    simpa using h1
   have hxm:x∈xs:=by rw[hx];exact List.getElem_mem hlt
   have hym:y∈ys:=by rw[hy];exact List.getElem_mem hlt'
   have HRX:=zh ((HF1.out.to hb).each x hxm)
   have HRY:=zh ((HF2.out.to hb).each y hym)
   have hwl:=HW.out x hxm
   obtain⟨b,off,ea,hbl,x0,x1,x2,x3,x4,x5⟩:=(HF1.out.to hb).rw_.get6 (k:=k) (by simpa using hlt) (by rw[List.getElem_map,←hx];rfl)
   obtain⟨b',off',ea',hbl',y0',y1',y2',y3',y4',y5'⟩:=(HF2.out.to hb).rw_.get6 (k:=k) (by simpa using hlt') (by rw[List.getElem_map,←hy];rfl)
   subst ea
   subst ea'
   rw[hm]at y0' y1' y2' y3' y4' y5'
   have HM:=zh hm
   clear hx hy hm hxm hym
   obtain⟨m,hmx⟩:∃m,m=x.m:=⟨_,rfl⟩
   have HMX:=zh hmx
   rw[←hmx]at x0 x1 x2 x3 x4 x5 y0' y1' y2' y3' y4' y5' hwl
   have HSI:=zh (show ∀W,Below wr.heap.size wr W→Calls Tryz.prog 56 #[.slice x.A m.way.length x.c,.slice y.A m.way.length y.c] W fun e w'=>e=.returned (.bool true)∧Below W.heap.size W w' from fun W h=>by
    have h1:IntsR W W.heap.size x.A m.way:=by rw[HMX.out];exact HRX.out.way.to h
    have h2:IntsR W W.heap.size y.A m.way:=by rw[HMX.out,←HM.out];exact HRY.out.way.to h
    have h3:=sameInts_c x.A y.A x.c y.c m.way m.way W (by omega) h1 h2
    rw[show decide (m.way=m.way)=true by simp]at h3
    exact h3)
   clear hmx
   go_upto_region 6 with fail
   go_cut [6,7] (fun s6 s7 wx=>∃p q:Nat,s6=.pointer (some ⟨p,0,none⟩)∧s7=.pointer (some ⟨q,0,none⟩)∧TwoBox wr m x.A y.A x.c y.c p q wx)
   case first=>
    go_region_held3 (SHd wr) ((refine Sh.goal ?_;exact zsh)) (first|fail)
    all_goals
     go_wp2_with fail
     go_meet
    all_goals first
     |exact⟨wr.heap.size,wr.heap.size+1,rfl,rfl,twoBox1 ..⟩
     |exact⟨wr.heap.size+1,wr.heap.size,rfl,rfl,twoBox2 ..⟩
   case rest=>
    obtain⟨p,q,rfl,rfl,⟨hp,hq,hkp,hkq,hsh,hbx⟩⟩:=hcut
    have hqx:=hb.trans (hbx.mono hb.size)
    have hcx:=(bcell hqx).1
    have yc0:w.heap.size<wc.heap.size:=Nat.lt_of_lt_of_le z0 hqx.size
    have yc1:w.heap.size+1<wc.heap.size:=Nat.lt_of_lt_of_le z1 hqx.size
    have yp:=blk_lt hkp
    have yq:=blk_lt hkq
    (obtain⟨u0,uf0,u1,uf1,u2,uf2,u3,uf3,u4,uf4,u5,uf5⟩:=cv6 hkp)
    (obtain⟨v0,vf0,v1,vf1,v2,vf2,v3,vf3,v4,vf4,v5,vf5⟩:=cv6 hkq)
    clear hkp hkq uf0 uf1 uf2 uf3 uf4 uf5 vf0 vf1 vf2 vf3 vf4 vf5 x0 x1 x2 x3 x4 x5 y0' y1' y2' y3' y4' y5'
    go_wp2_with (go_at_call 56;(with_reducible refine Calls.mono (HSI.out _ hbx) ?_);rintro e w2 ⟨rfl,hb2⟩;(have hc2:=(bcell hb2).1))
    go_roundw
    case rel=>first|exact⟨k+1,by omega,by go_num,hqx.trans ((show Below wc.heap.size wc _ by exact zbl).mono hqx.size)⟩|((repeat apply Exists.intro);refine⟨?_,rfl⟩;exact⟨k+1,by omega,by go_num,hqx.trans ((show Below wc.heap.size wc _ by exact zbl).mono hqx.size)⟩)
    case measure=>simp[intOf];omega
  ·go_wp2_with fail
   go_ret
   exact⟨rfl,HB0.out.trans (hb.mono HB0.out.size)⟩
theorem Tryz.fldM(v0 v1 v2:Value)(W:World):(Instr.field 66 (.agg #[v0,v1,v2]) 2).run Tryz.prog W=.ok v2 W:=by kernel_rfl
set_option maxRecDepth 100000 in
set_option maxHeartbeats 8000000 in
theorem field0_c(tk ls:Int)(A:Option Addr)(c:Nat)(xs:List MA)(w:World)(hl:xs.length≤1000)(hw:∀x∈xs,x.m.way.length≤1000)(hf:FldR w w.heap.size A c xs):
 Calls Tryz.prog 39 #[(.agg #[.int .i64 tk,.int .i64 ls,.slice A xs.length c])] w fun e w'=>∃A' c' ys,e=.returned (.agg #[.int .i64 tk,.int .i64 ls,.slice A' ys.length c'])∧ys.map MA.m=xs.map MA.m∧FldR w' w'.heap.size A' c' ys∧NilW ys∧Below w.heap.size w w':=by
 obtain⟨iM,hiM,hzM0,hzM1,hzM2⟩:=info_parts Tryz.infoMir
 obtain⟨W1,hW1⟩:∃W1,W1=((w.alloc (.cells #[.int .i64 tk,.int .i64 ls,.slice A xs.length c] 66)).alloc (.cells #[.int .i64 0,.int .i64 0,.slice none 0 0] 72)).alloc (.cells #[.int .i64 tk,.int .i64 ls,.slice none 0 0] 72):=⟨_,rfl⟩
 have hsz:W1.heap.size=w.heap.size+3:=by rw[hW1];simp
 have k0:W1.heap[w.heap.size]? =some (.cells #[.int .i64 tk,.int .i64 ls,.slice A xs.length c] 66 (0,0)):=by rw[hW1];exact heap_fst _ _ _ _
 have k1:W1.heap[w.heap.size+1]? =some (.cells #[.int .i64 0,.int .i64 0,.slice none 0 0] 72 (0,0)):=by rw[hW1];exact heap_mid _ _ _ _
 have k2:W1.heap[w.heap.size+1+1]? =some (.cells #[.int .i64 tk,.int .i64 ls,.slice none 0 0] 72 (0,0)):=by rw[hW1];exact heap_lst _ _ _ _
 have hB0:Below w.heap.size w W1:=by rw[hW1];(repeat first|(with_reducible first|assumption|exact Below.refl _ _|refine Bl.drew ?_|refine Bl.drewN ?_ _|refine Bl.alloc ?_ _|refine Bl.set ?_ _ ?_)|(with_reducible apply Bl.step';(focus(with_reducible assumption)))|omega|(focus(simp;done))|(focus(simp;omega)))
 have HB0:=zh hB0
 have HF0:=zh (FldR.to hf hB0)
 have K0:=zh k0
 have K1:=zh k1
 have K2:=zh k2
 (obtain⟨d0,df0,d1,df1,d2,df2⟩:=cv3 k0)
 have HOWN:=zh (fun W (h:FldR W W.heap.size A c xs)=>rOwn0_c tk ls A c xs W hl hw h)
 clear hf k0 k1 k2 hB0 df0 df1 df2 hw
 have hfl:=Tryz.fldM
 go_enter Tryz.func39,Tryz.ntmps39
 go_upto_region 2 with fail
 rw[←hW1]
 clear hW1
 go_wp2_with (go_at_call 117;(with_reducible refine Calls.mono (HOWN.out _ HF0.out) ?_);rintro e w1 ⟨A1,c1,ys,rfl,hm1,ho1,hf1,hn1,hb1⟩)
 have hyl:ys.length=xs.length:=by simpa using congrArg List.length hm1
 have HM1:=zh hm1
 have HN1:=zh hn1
 have HFY:=zh ho1.fld
 have HFB:=zh hf1
 have HOB:=zh (own_block ho1)
 have HNE:=zh (show Blks (fun b=>b≠w.heap.size+1+1) A1 ys from⟨fun _ a ha e=>by have:=HOB.out a ha;omega,fun x hx _ a ha e=>by have:=HFB.out x hx a ha;omega⟩)
 have HNX:=zh (show Blks (fun b=>b≠w.heap.size+1) A1 ys from⟨fun _ a ha e=>by have:=HOB.out a ha;omega,fun x hx _ a ha e=>by have:=HFB.out x hx a ha;omega⟩)
 have hs1:=hb1.size
 have hb:Below w.heap.size w w1:=HB0.out.trans (hb1.mono (by omega))
 have k0:=(hb1.block w.heap.size (by omega)).trans K0.out
 have k1:=(hb1.block (w.heap.size+1) (by omega)).trans K1.out
 have k2:=(hb1.block (w.heap.size+1+1) (by omega)).trans K2.out
 have J1:=zh k1
 have hk2:=zh k2
 have hnl:ys.length≤1000:=by omega
 clear hm1 ho1 hf1 hn1 hb1 k0 k1 k2 d0 d1 d2 hyl
 have hsw:W1.heap.size≤w1.heap.size:=hs1
 go_loopw [15] (fun i wv=>∃(k:Nat) (v:Value),k≤ys.length∧i=.int .i64 k∧Hid (wv.heap[w.heap.size+1+1]? =some (.cells #[.int .i64 tk,.int .i64 ls,v] 72 (0,0)))∧wv.ownsRow w1.heap.size 106 6 v k ((ys.take k).map encMA).flatten∧Hid (Ke (w.heap.size+1+1) w1 wv)∧Below w.heap.size w wv) (fun i _=>ys.length-(intOf i).toNat)
 case atStart=>exact⟨0,.slice none 0 0,Nat.zero_le _,rfl,hk2,by simpa using World.ownsRow_nil _ _ _ _,zh (Ke.refl _ _),hb⟩
 case round=>
  clear hb hk2
  obtain⟨k,v,hk,rfl,hk2,hown,HKe,hb⟩:=hrel
  have hke:=HKe.out.1
  have hbs:=hb.size
  by_cases hlt:k<ys.length
  ·obtain⟨x,hx⟩:∃x,x=ys[k]:=⟨_,rfl⟩
   have hxm:x∈ys:=by rw[hx];exact List.getElem_mem hlt
   obtain⟨b,off,ea,hbl,c0,c1,c2,c3,c4,c5⟩:=(Ke.fld HFY.out HKe.out HNE.out).rw_.get6 (k:=k) (by simpa using hlt) (by rw[List.getElem_map,←hx];rfl)
   rw[ea]
   have yb:b<wr.heap.size:=by omega
   have HA:=zh ea
   have HX:=zh hx
   clear ea hx hxm
   have kk:=hk2.out
   (obtain⟨q0,qf0,q1,qf1,q2,qf2⟩:=cv3 kk)
   clear kk
   have y2:w.heap.size+1+1<wr.heap.size:=by omega
   have hne:v.ownBlock≠some (w.heap.size+1+1):=fun e=>by have:=(World.ownsRow.lt hown _ e).1;omega
   go_wp2_with (at_builtin;refine wpList_append_own _ rfl _ _ 70 rfl w1.heap.size 106 iM zeroMir 6 80 Tryz.underlying70 hiM hzM0 hzM1 hzM2 rfl (by decide) _ _ _ rfl (World.ownsRow.alloc (World.ownsRow.alloc hown _) _) ⟨wr.heap.size+1,0,none⟩ 1 1 [.string x.m.name,.string x.m.sec,.int .i64 x.m.loc,.slice x.A x.m.way.length x.c,.int .i64 x.m.left,.int .i64 x.m.heard] rfl rfl ?c1 ?c2 ?c3 ?c4 ?c5 ?_)
   case c1=>
    intro j u hj
    rw[add0,cell_of_row _ _ _ _ _ _ (heap_two wr _ _)]
    match j,hj with
    |0,hj=>simpa using hj
    |1,hj=>simpa using hj
    |2,hj=>simpa using hj
    |3,hj=>simpa using hj
    |4,hj=>simpa using hj
    |5,hj=>simpa using hj
    |j+6,hj=>simp at hj
   case c2=>intro u hu;simp at hu;rcases hu with rfl|rfl|rfl|rfl|rfl|rfl<;>rfl
   case c3=>unfold maxLen;omega
   case c4=>omega
   case c5=>simp;omega
   intro v' w6 hown' hgrow _
   obtain⟨A',c',hv'⟩:=own_form hown'
   subst hv'
   have h6:w6.heap[w.heap.size+1+1]? =some (.cells #[.int .i64 tk,.int .i64 ls,v] 72 (0,0)):=(gr_block hgrow (by simp;omega) (fun e=>hne e)).trans (bk_alloc (bk_alloc hk2.out))
   clear q0 qf0 q1 qf1 q2 qf2 c0 c1 c2 c3 c4 c5
   (obtain⟨q0,qf0,q1,qf1,q2,qf2⟩:=cv3 h6)
   have H6:=zh h6
   clear h6
   have hg6:=hgrow.size
   simp only[World.size_alloc]at hg6
   have y6:w.heap.size+1+1<w6.heap.size:=by omega
   go_wp2_with fail
   go_roundw
   case rel=>
    first|refine⟨k+1,.slice A' (k+1) c',by omega,by go_num,zh (heap_setCell_same w6 _ 2 _ _ (.slice A' (k+1) c') H6.out),?_,zh ?_,?_⟩|((repeat apply Exists.intro);refine⟨?_,rfl⟩;refine⟨k+1,.slice A' (k+1) c',by omega,by go_num,zh (heap_setCell_same w6 _ 2 _ _ (.slice A' (k+1) c') H6.out),?_,zh ?_,?_⟩)
    ·refine ownsRow_setCell_below ?_ (show w.heap.size+1+1<w1.heap.size by omega) _
     rw[List.take_succ_eq_append_getElem hlt,List.map_append,List.flatten_append,←HX.out]
     first|(simpa [encMA]using hown';done)|(rw[hsz];simpa [encMA]using hown')
    ·refine⟨by simp;omega,fun b' hb' hne'=>?_⟩
     rw[heap_setCell_other _ _ _ _ hne',gr_block hgrow (by simp;omega) (fun e=>by have:=(World.ownsRow.lt hown _ e).1;omega)]
     exact((Below.heap_alloc _ _ _ (by simp;omega)).trans (Below.heap_alloc _ _ _ (by omega))).trans (HKe.out.2 b' hb' hne')
    ·exact Bl.set (Below.grown (by exact zbl) hgrow (by simp;omega) (fun j e=>by have:=(World.ownsRow.lt hown j e).1;omega)) _ (by show w.heap.size≤w.heap.size+1+1;omega)
   case measure=>simp[intOf];omega
  ·have hkl:k=ys.length:=by omega
   rw[hkl,List.take_length]at hown
   obtain⟨AS,cS,rfl,hcS,hrow,hfr⟩:=own_rw hown (by first|(simp;done)|(simp;omega)) (by intro y hy;obtain⟨z,_,rfl⟩:=List.mem_map.1 hy;rfl)
   have HRS:=zh hrow
   have HFS:Hid (∀a,AS=some a→w1.heap.size≤a.block):=zh hfr
   clear hrow hfr hown hkl hk
   have kk:=hk2.out
   (obtain⟨q0,qf0,q1,qf1,q2,qf2⟩:=cv3 kk)
   clear kk
   have kz:=(HKe.out.2 (w.heap.size+1) (by omega) (by omega)).trans J1.out
   have J2:=zh kz
   (obtain⟨z0,zf0,z1,zf1,z2,zf2⟩:=cv3 kz)
   clear kz
   have y1:w.heap.size+1<wr.heap.size:=by omega
   have y2:w.heap.size+1+1<wr.heap.size:=by omega
   go_wp2_with fail
   refine bodyPost_ret (Tryz.res_fld rfl _ _ rfl (set3_block J2.out)) rfl ?_
   have hfw:FldR wr wr.heap.size AS cS ys:=⟨HRS.out,fun x hx=>⟨Rw.more (Ke.rwN (HFY.out.each x hx).way HKe.out (Nat.le_refl _) (fun hn=>HNE.out.way x hx (by simpa using hn))) HKe.out.1,(HFY.out.each x hx).cap⟩,hcS⟩
   have hfe:=Ke.fld hfw (Ke.set3 (p:=w.heap.size+1) wr (.int .i64 tk) (.int .i64 ls) (.slice AS ys.length cS)) ⟨fun _ a ha=>by have:=HFS.out a ha;omega,HNX.out.way⟩
   exact⟨AS,cS,ys,rfl,HM1.out,hfe,HN1.out,Bl.set (Bl.set (Bl.set hb _ (Nat.le_succ _)) _ (Nat.le_succ _)) _ (Nat.le_succ _)⟩
theorem field_c(tk ls:Int)(A:Option Addr)(c:Nat)(xs:List MA)(w:World)(hl:xs.length≤1000)(hw:∀x∈xs,x.m.way.length≤1000)(_hz:NilW xs)(hf:FldR w w.heap.size A c xs):
 Calls Tryz.prog 39 #[(.agg #[.int .i64 tk,.int .i64 ls,.slice A xs.length c])] w fun e w'=>∃A' c' ys,e=.returned (.agg #[.int .i64 tk,.int .i64 ls,.slice A' ys.length c'])∧ys.map MA.m=xs.map MA.m∧FldR w' w'.heap.size A' c' ys∧NilW ys∧Below w.heap.size w w':=
 field0_c tk ls A c xs w hl hw hf
set_option maxRecDepth 100000 in
set_option maxHeartbeats 8000000 in
theorem told_c(tk ls:Int)(A:Option Addr)(c:Nat)(xs:List MA)(w:World)(hl:xs.length≤1000)(hf:FldR w w.heap.size A c xs):
 Calls Tryz.prog 58 #[(.agg #[.int .i64 tk,.int .i64 ls,.slice A xs.length c])] w fun e w'=>∃A' c',e=.returned (.agg #[.int .i64 tk,.int .i64 ls,.slice A' xs.length c'])∧FldR w' w'.heap.size A' c' xs∧Below w.heap.size w w':=by
 obtain⟨iM,hiM,hzM0,hzM1,hzM2⟩:=info_parts Tryz.infoRM
 obtain⟨W1,hW1⟩:∃W1,W1=((w.alloc (.cells #[.int .i64 tk,.int .i64 ls,.slice A xs.length c] 72)).alloc (.cells #[.int .i64 0,.int .i64 0,.slice none 0 0] 66)).alloc (.cells #[.int .i64 tk,.int .i64 ls,.slice none 0 0] 66):=⟨_,rfl⟩
 have hsz:W1.heap.size=w.heap.size+3:=by rw[hW1];simp
 have k0:W1.heap[w.heap.size]? =some (.cells #[.int .i64 tk,.int .i64 ls,.slice A xs.length c] 72 (0,0)):=by rw[hW1];exact heap_fst _ _ _ _
 have k1:W1.heap[w.heap.size+1]? =some (.cells #[.int .i64 0,.int .i64 0,.slice none 0 0] 66 (0,0)):=by rw[hW1];exact heap_mid _ _ _ _
 have k2:W1.heap[w.heap.size+1+1]? =some (.cells #[.int .i64 tk,.int .i64 ls,.slice none 0 0] 66 (0,0)):=by rw[hW1];exact heap_lst _ _ _ _
 have hB0:Below w.heap.size w W1:=by rw[hW1];(repeat first|(with_reducible first|assumption|exact Below.refl _ _|refine Bl.drew ?_|refine Bl.drewN ?_ _|refine Bl.alloc ?_ _|refine Bl.set ?_ _ ?_)|(with_reducible apply Bl.step';(focus(with_reducible assumption)))|omega|(focus(simp;done))|(focus(simp;omega)))
 have HB0:=zh hB0
 have HF0:=zh (FldR.to hf hB0)
 have HNE:=zh (hf.blks.imp (Q:=fun b=>b≠w.heap.size+1+1) (fun b h=>by omega))
 have HNX:=zh (hf.blks.imp (Q:=fun b=>b≠w.heap.size+1) (fun b h=>by omega))
 have K0:=zh k0
 have K1:=zh k1
 have K2:=zh k2
 (obtain⟨d0,df0,d1,df1,d2,df2⟩:=cv3 k0)
 clear hf k0 k1 k2 hB0 df0 df1 df2
 have HFY:=HF0
 have hb:=HB0.out
 have J1:=K1
 have hk2:=K2
 have hnl:=hl
 have hsw:W1.heap.size≤W1.heap.size:=Nat.le_refl _
 go_enter Tryz.func58,Tryz.ntmps58
 go_upto_region 2 with fail
 rw[←hW1]
 clear hW1
 go_wp2_with fail
 go_loopw [14] (fun i wv=>∃(k:Nat) (v:Value),k≤xs.length∧i=.int .i64 k∧Hid (wv.heap[w.heap.size+1+1]? =some (.cells #[.int .i64 tk,.int .i64 ls,v] 66 (0,0)))∧wv.ownsRow W1.heap.size 107 6 v k ((xs.take k).map encMA).flatten∧Hid (Ke (w.heap.size+1+1) W1 wv)∧Below w.heap.size w wv) (fun i _=>xs.length-(intOf i).toNat)
 case atStart=>exact⟨0,.slice none 0 0,Nat.zero_le _,rfl,hk2,by simpa using World.ownsRow_nil _ _ _ _,zh (Ke.refl _ _),hb⟩
 case round=>
  clear hb hk2
  obtain⟨k,v,hk,rfl,hk2,hown,HKe,hb⟩:=hrel
  have hke:=HKe.out.1
  have hbs:=hb.size
  by_cases hlt:k<xs.length
  ·obtain⟨x,hx⟩:∃x,x=xs[k]:=⟨_,rfl⟩
   have hxm:x∈xs:=by rw[hx];exact List.getElem_mem hlt
   obtain⟨b,off,ea,hbl,c0,c1,c2,c3,c4,c5⟩:=(Ke.fld HFY.out HKe.out HNE.out).rw_.get6 (k:=k) (by simpa using hlt) (by rw[List.getElem_map,←hx];rfl)
   rw[ea]
   have yb:b<wr.heap.size:=by omega
   have HA:=zh ea
   have HX:=zh hx
   clear ea hx hxm
   have kk:=hk2.out
   (obtain⟨q0,qf0,q1,qf1,q2,qf2⟩:=cv3 kk)
   clear kk
   have y2:w.heap.size+1+1<wr.heap.size:=by omega
   have hne:v.ownBlock≠some (w.heap.size+1+1):=fun e=>by have:=(World.ownsRow.lt hown _ e).1;omega
   go_wp2_with (at_builtin;refine wpList_append_own _ rfl _ _ 64 rfl W1.heap.size 107 iM zeroMir 6 80 Tryz.underlying64 hiM hzM0 hzM1 hzM2 rfl (by decide) _ _ _ rfl (World.ownsRow.alloc (World.ownsRow.alloc hown _) _) ⟨wr.heap.size+1,0,none⟩ 1 1 [.string x.m.name,.string x.m.sec,.int .i64 x.m.loc,.slice x.A x.m.way.length x.c,.int .i64 x.m.left,.int .i64 x.m.heard] rfl rfl ?c1 ?c2 ?c3 ?c4 ?c5 ?_)
   case c1=>
    intro j u hj
    rw[add0,cell_of_row _ _ _ _ _ _ (heap_two wr _ _)]
    match j,hj with
    |0,hj=>simpa using hj
    |1,hj=>simpa using hj
    |2,hj=>simpa using hj
    |3,hj=>simpa using hj
    |4,hj=>simpa using hj
    |5,hj=>simpa using hj
    |j+6,hj=>simp at hj
   case c2=>intro u hu;simp at hu;rcases hu with rfl|rfl|rfl|rfl|rfl|rfl<;>rfl
   case c3=>unfold maxLen;omega
   case c4=>omega
   case c5=>simp;omega
   intro v' w6 hown' hgrow _
   obtain⟨A',c',hv'⟩:=own_form hown'
   subst hv'
   have h6:w6.heap[w.heap.size+1+1]? =some (.cells #[.int .i64 tk,.int .i64 ls,v] 66 (0,0)):=(gr_block hgrow (by simp;omega) (fun e=>hne e)).trans (bk_alloc (bk_alloc hk2.out))
   clear q0 qf0 q1 qf1 q2 qf2 c0 c1 c2 c3 c4 c5
   (obtain⟨q0,qf0,q1,qf1,q2,qf2⟩:=cv3 h6)
   have H6:=zh h6
   clear h6
   have hg6:=hgrow.size
   simp only[World.size_alloc]at hg6
   have y6:w.heap.size+1+1<w6.heap.size:=by omega
   go_wp2_with fail
   go_roundw
   case rel=>
    first|refine⟨k+1,.slice A' (k+1) c',by omega,by go_num,zh (heap_setCell_same w6 _ 2 _ _ (.slice A' (k+1) c') H6.out),?_,zh ?_,?_⟩|((repeat apply Exists.intro);refine⟨?_,rfl⟩;refine⟨k+1,.slice A' (k+1) c',by omega,by go_num,zh (heap_setCell_same w6 _ 2 _ _ (.slice A' (k+1) c') H6.out),?_,zh ?_,?_⟩)
    ·refine ownsRow_setCell_below ?_ (show w.heap.size+1+1<W1.heap.size by omega) _
     rw[List.take_succ_eq_append_getElem hlt,List.map_append,List.flatten_append,←HX.out]
     first|(simpa [encMA]using hown';done)|(rw[hsz];simpa [encMA]using hown')
    ·refine⟨by simp;omega,fun b' hb' hne'=>?_⟩
     rw[heap_setCell_other _ _ _ _ hne',gr_block hgrow (by simp;omega) (fun e=>by have:=(World.ownsRow.lt hown _ e).1;omega)]
     exact((Below.heap_alloc _ _ _ (by simp;omega)).trans (Below.heap_alloc _ _ _ (by omega))).trans (HKe.out.2 b' hb' hne')
    ·exact Bl.set (Below.grown (by exact zbl) hgrow (by simp;omega) (fun j e=>by have:=(World.ownsRow.lt hown j e).1;omega)) _ (by show w.heap.size≤w.heap.size+1+1;omega)
   case measure=>simp[intOf];omega
  ·have hkl:k=xs.length:=by omega
   rw[hkl,List.take_length]at hown
   obtain⟨AS,cS,rfl,hcS,hrow,hfr⟩:=own_rw hown (by first|(simp;done)|(simp;omega)) (by intro y hy;obtain⟨z,_,rfl⟩:=List.mem_map.1 hy;rfl)
   have HRS:=zh hrow
   have HFS:Hid (∀a,AS=some a→W1.heap.size≤a.block):=zh hfr
   clear hrow hfr hown hkl hk
   have kk:=hk2.out
   (obtain⟨q0,qf0,q1,qf1,q2,qf2⟩:=cv3 kk)
   clear kk
   have kz:=(HKe.out.2 (w.heap.size+1) (by omega) (by omega)).trans J1.out
   have J2:=zh kz
   (obtain⟨z0,zf0,z1,zf1,z2,zf2⟩:=cv3 kz)
   clear kz
   have y1:w.heap.size+1<wr.heap.size:=by omega
   have y2:w.heap.size+1+1<wr.heap.size:=by omega
   go_wp2_with fail
   refine bodyPost_ret (Tryz.rres_fld rfl _ _ rfl (set3_block J2.out)) rfl ?_
   have hfw:FldR wr wr.heap.size AS cS xs:=⟨HRS.out,fun x hx=>⟨Rw.more (Ke.rwN (HFY.out.each x hx).way HKe.out (Nat.le_refl _) (fun hn=>HNE.out.way x hx (by simpa using hn))) HKe.out.1,(HFY.out.each x hx).cap⟩,hcS⟩
   have hfe:=Ke.fld hfw (Ke.set3 (p:=w.heap.size+1) wr (.int .i64 tk) (.int .i64 ls) (.slice AS xs.length cS)) ⟨fun _ a ha=>by have:=HFS.out a ha;omega,HNX.out.way⟩
   exact⟨AS,cS,rfl,hfe,Bl.set (Bl.set (Bl.set hb _ (Nat.le_succ _)) _ (Nat.le_succ _)) _ (Nat.le_succ _)⟩
set_option maxRecDepth 100000 in
set_option maxHeartbeats 4000000 in
theorem after_t(tk ls:Int)(A A':Option Addr)(c c':Nat)(er:Int)(xs ys:List MA)(w:World)(hl:xs.length≤1000)(hw:∀x∈xs,x.m.way.length≤1000)(he:xs.map MA.m=ys.map MA.m)(hf:FldR w w.heap.size A c xs)(hf':FldR w w.heap.size A' c' ys)(hz:er=0):
 Calls Tryz.prog 45 #[(.agg #[.int .i64 tk,.int .i64 ls,.slice A xs.length c]),.int .i64 er,.int .i64 er,(.agg #[.int .i64 tk,.int .i64 ls,.slice A' ys.length c'])] w fun e w'=>e=.returned (.bool true)∧Below w.heap.size w w':=by
 subst hz
 obtain⟨W1,hW1⟩:∃W1,W1=(w.alloc (.cells #[.int .i64 tk,.int .i64 ls,.slice A xs.length c] 72)).alloc (.cells #[.int .i64 tk,.int .i64 ls,.slice A' ys.length c'] 66):=⟨_,rfl⟩
 have k0:W1.heap[w.heap.size]? =some (.cells #[.int .i64 tk,.int .i64 ls,.slice A xs.length c] 72 (0,0)):=by rw[hW1];exact(Below.heap_alloc _ _ _ (by simp)).trans (heap_alloc_new w _)
 have k1:W1.heap[w.heap.size+1]? =some (.cells #[.int .i64 tk,.int .i64 ls,.slice A' ys.length c'] 66 (0,0)):=by rw[hW1];exact heap_two w _ _
 have hB0:Below w.heap.size w W1:=by rw[hW1];(repeat first|(with_reducible first|assumption|exact Below.refl _ _|refine Bl.drew ?_|refine Bl.drewN ?_ _|refine Bl.alloc ?_ _|refine Bl.set ?_ _ ?_)|(with_reducible apply Bl.step';(focus(with_reducible assumption)))|omega|(focus(simp;done))|(focus(simp;omega)))
 have HB0:=zh hB0
 have HF1:=zh (FldR.to hf hB0)
 have HF2:=zh (FldR.to hf' hB0)
 have z0:=blk_lt k0
 have z1:=blk_lt k1
 (obtain⟨g0,gf0,g1,gf1,g2,gf2⟩:=cv3 k0)
 (obtain⟨d0,df0,d1,df1,d2,df2⟩:=cv3 k1)
 have HE:=zh he
 have HW:=zh hw
 clear hf hf' k0 k1 hB0 gf0 gf1 gf2 df0 df1 df2 he hw
 go_enter Tryz.func45,Tryz.ntmps45
 go_upto_region 1 with fail
 rw[←hW1]
 clear hW1
 go_upto_region 3 with fail
 go_region_held3 (SHd W1) ((refine Sh.goal ?_;exact zsh)) (first|(go_at_call 58;(with_reducible refine Calls.mono (told_c tk ls A c xs _ hl (HF1.out.to (by exact zbl))) ?_);rintro e w2 ⟨A2,c2,rfl,hf2,hb2⟩)|(go_at_call 60;(with_reducible refine Calls.mono (rSame_c tk ls A2 A' c2 c' xs ys _ hl HW.out HE.out (hf2.to (by exact zbl)) (HF2.out.to (by exact zbl))) ?_);rintro e w3 ⟨rfl,hb3⟩))
 all_goals
  go_wp2_with fail
  go_ret
  exact⟨rfl,HB0.out.trans ((show Below W1.heap.size W1 _ by exact zbl).mono HB0.out.size)⟩
theorem after_n(tk ls:Int)(A:Option Addr)(c:Nat)(A':Option Addr)(c':Nat)(er:Int)(ys:List MA)(w:World)(hz:er≠0):
 Calls Tryz.prog 45 #[.agg #[.int .i64 0,.int .i64 0,.slice A 0 c],.int .i64 er,.int .i64 er,(.agg #[.int .i64 tk,.int .i64 ls,.slice A' ys.length c'])] w fun e w'=>e=.returned (.bool true)∧Below w.heap.size w w':=by
 obtain⟨W1,hW1⟩:∃W1,W1=(w.alloc (.cells #[.int .i64 0,.int .i64 0,.slice A 0 c] 72)).alloc (.cells #[.int .i64 tk,.int .i64 ls,.slice A' ys.length c'] 66):=⟨_,rfl⟩
 have k0:W1.heap[w.heap.size]? =some (.cells #[.int .i64 0,.int .i64 0,.slice A 0 c] 72 (0,0)):=by rw[hW1];exact(Below.heap_alloc _ _ _ (by simp)).trans (heap_alloc_new w _)
 have k1:W1.heap[w.heap.size+1]? =some (.cells #[.int .i64 tk,.int .i64 ls,.slice A' ys.length c'] 66 (0,0)):=by rw[hW1];exact heap_two w _ _
 have hB0:Below w.heap.size w W1:=by rw[hW1];(repeat first|(with_reducible first|assumption|exact Below.refl _ _|refine Bl.drew ?_|refine Bl.drewN ?_ _|refine Bl.alloc ?_ _|refine Bl.set ?_ _ ?_)|(with_reducible apply Bl.step';(focus(with_reducible assumption)))|omega|(focus(simp;done))|(focus(simp;omega)))
 have HB0:=zh hB0
 have z0:=blk_lt k0
 have z1:=blk_lt k1
 have hz1:(er !=0)=true:=by simpa using hz
 (obtain⟨g0,gf0,g1,gf1,g2,gf2⟩:=cv3 k0)
 (obtain⟨d0,df0,d1,df1,d2,df2⟩:=cv3 k1)
 have K0:=zh k0
 have K1:=zh k1
 clear k0 k1 hB0 hz
 go_enter Tryz.func45,Tryz.ntmps45
 go_upto_region 1 with fail
 rw[←hW1]
 clear hW1
 go_upto_region 3 with fail
 obtain⟨W2,hW2⟩:∃W,W=((W1.setCell ⟨w.heap.size+1,0,none⟩ (.int .i64 0)).setCell ⟨w.heap.size+1,1,none⟩ (.int .i64 0)).setCell ⟨w.heap.size+1,2,none⟩ (.slice none 0 0):=⟨_,rfl⟩
 rw[←hW2]
 have k1:W2.heap[w.heap.size+1]? =some (.cells #[.int .i64 0,.int .i64 0,.slice none 0 0] 66 (0,0)):=by rw[hW2];exact set3_block K1.out
 have k0:W2.heap[w.heap.size]? =some (.cells #[.int .i64 0,.int .i64 0,.slice A 0 c] 72 (0,0)):=by
  rw[hW2,heap_setCell_other _ _ _ _ (by show ¬w.heap.size=w.heap.size+1;omega),heap_setCell_other _ _ _ _ (by show ¬w.heap.size=w.heap.size+1;omega),heap_setCell_other _ _ _ _ (by show ¬w.heap.size=w.heap.size+1;omega)]
  exact K0.out
 have hb2:Below w.heap.size w W2:=by rw[hW2];exact Below.set3 HB0.out (by omega) _ _ _
 have HB2:=zh hb2
 have y0:=blk_lt k0
 have y1:=blk_lt k1
 clear hW2 hb2 g0 g1 g2 gf0 gf1 gf2 d0 d1 d2 df0 df1 df2
 (obtain⟨g0,gf0,g1,gf1,g2,gf2⟩:=cv3 k0)
 (obtain⟨d0,df0,d1,df1,d2,df2⟩:=cv3 k1)
 clear k0 k1 gf0 gf1 gf2 df0 df1 df2
 have hnil:∀(W:World) (A:Option Addr) (c:Nat),FldR W W.heap.size A c []:=fun W A c=>⟨fun h=>absurd rfl h,fun x hx=>(by cases hx),by simp⟩
 have HNL:=zh hnil
 clear hnil
 go_region_held3 (SHd W2) ((refine Sh.goal ?_;exact zsh)) (first|(go_at_call 58;(with_reducible refine Calls.mono (told_c 0 0 A c [] _ (by simp) (HNL.out _ _ _)) ?_);rintro e w2 ⟨A2,c2,rfl,hf2,hb2⟩)|(go_at_call 60;(with_reducible refine Calls.mono (rSame_c 0 0 A2 none c2 0 [] [] _ (by simp) (by simp) rfl (hf2.to (by exact zbl)) (HNL.out _ _ _)) ?_);rintro e w3 ⟨rfl,hb3⟩))
 all_goals
  go_wp2_with fail
  go_ret
  exact⟨rfl,HB2.out.trans ((show Below W2.heap.size W2 _ by exact zbl).mono HB2.out.size)⟩
def FldB(f:Fld):Prop:=f.mir.length≤1000∧∀m∈f.mir,m.way.length≤1000
theorem FldB.zero:FldB fld0:=⟨by simp[fld0],by simp[fld0]⟩
theorem FldB.ok{g:Grd}{f:Fld}(h:okFld g f):FldB f:=⟨Nat.le_trans h.n (by decide),fun m hm=>Nat.le_trans (h.mir m hm).len (by decide)⟩
theorem after_f(f:Fld)(tk ls tk' ls':Int)(A A':Option Addr)(c c':Nat)(er:Int)(xs ys:List MA)(w:World)(he:fldOf tk ls xs=f)(he':fldOf tk' ls' ys=f)(hz:er≠0→f=fld0)(hb:FldB f)(hf:FldR w w.heap.size A c xs)(hf':FldR w w.heap.size A' c' ys):
 Calls Tryz.prog 45 #[(.agg #[.int .i64 tk,.int .i64 ls,.slice A xs.length c]),.int .i64 er,.int .i64 er,(.agg #[.int .i64 tk',.int .i64 ls',.slice A' ys.length c'])] w fun e w'=>e=.returned (.bool true)∧Below w.heap.size w w':=by
 subst he
 unfold fldOf at he'
 injection he' with h1 h2 h3
 subst h1 h2
 by_cases h:er=0
 ·exact after_t _ _ A A' c c' er xs ys w (by simpa [fldOf]using hb.1) (fun x hx=>hb.2 x.m (List.mem_map_of_mem hx)) h3.symm hf hf' h
 ·have h4:=hz h
  unfold fldOf fld0 at h4
  injection h4 with h5 h6 h7
  have h8:xs= []:=by simpa using h7
  subst h5 h6 h8
  exact after_n _ _ A c A' c' er ys w h
structure FBox(T:TypeId)(W0:World)(f:Fld)(b:Nat)(W:World):Prop where
 ex:∃tk ls A c xs,W.heap[b]? =some (.cells #[.int .i64 tk,.int .i64 ls,.slice A (List.length xs) c] T (0,0))∧fldOf tk ls xs=f∧FldR W W.heap.size A c xs
 lo:W0.heap.size≤b
 low:Below W0.heap.size W0 W
theorem fBox1{T:TypeId}{W0 W7:World}{f:Fld}{tk ls:Int}{A:Option Addr}{c:Nat}{zs:List MA}(h:Below W0.heap.size W0 W7)(hf:fldOf tk ls zs=f)(hr:FldR W7 W7.heap.size A c zs):
 FBox T W0 f W7.heap.size (W7.alloc (.cells #[.int .i64 tk,.int .i64 ls,.slice A zs.length c] T)):=
 ⟨⟨tk,ls,A,c,zs,heap_alloc_new _ _,hf,FldR.to hr (Below.alloc (Below.refl _ _) (Nat.le_refl _) _)⟩,h.size,h.alloc h.size _⟩
theorem fBox2{T:TypeId}{W0 W W7:World}{f:Fld}{b:Nat}{tk ls:Int}{A:Option Addr}{c:Nat}{zs:List MA}{u0 u1 u2:Value}(h0:Below W0.heap.size W0 W)(hb:Below W.heap.size W W7)(hl:W0.heap.size≤b)(hk:W.heap[b]? =some (.cells #[u0,u1,u2] T (0,0)))(hf:fldOf tk ls zs=f)(hr:FldR W7 W7.heap.size A c zs)(hfr:Fresh W.heap.size A zs):
 FBox T W0 f b (((W7.setCell ⟨b,0,none⟩ (.int .i64 tk)).setCell ⟨b,1,none⟩ (.int .i64 ls)).setCell ⟨b,2,none⟩ (.slice A zs.length c)):=by
 have hlt:=blk_lt hk
 have hz:=h0.size
 refine⟨⟨tk,ls,A,c,zs,set3_block ((hb.block b hlt).trans hk),hf,?_⟩,hl,Below.set3 (h0.trans (hb.mono hz)) hl _ _ _⟩
 exact(hr.set3 _ _ _ (hfr.imp fun d hd=>by omega)).more (by simp)
theorem FBox.next{T:TypeId}{W0 W W':World}{f:Fld}{b:Nat}(h:FBox T W0 f b W)(hb:Below W.heap.size W W'):FBox T W0 f b W':=by
 obtain⟨tk,ls,A,c,xs,h1,h2,h3⟩:=h.ex
 exact⟨⟨tk,ls,A,c,xs,(hb.block b (blk_lt h1)).trans h1,h2,FldR.to h3 hb⟩,h.lo,h.low.trans (hb.mono h.low.size)⟩
structure FB2(T:TypeId)(W0:World)(f:Fld)(b p:Nat)(W:World):Prop where
 ex:∃tk ls A c xs,W.heap[b]? =some (.cells #[.int .i64 tk,.int .i64 ls,.slice A (List.length xs) c] T (0,0))∧fldOf tk ls xs=f∧FldR W W.heap.size A c xs∧Blks (fun d=>d≠p) A xs
 lo:W0.heap.size≤b
 low:Below W0.heap.size W0 W
theorem FB2.box{T:TypeId}{W0 W:World}{f:Fld}{b p:Nat}(h:FB2 T W0 f b p W):FBox T W0 f b W:=by
 obtain⟨tk,ls,A,c,xs,h1,h2,h3,_⟩:=h.ex
 exact⟨⟨tk,ls,A,c,xs,h1,h2,h3⟩,h.lo,h.low⟩
theorem FB2.next{T:TypeId}{W0 W W':World}{f:Fld}{b p:Nat}(h:FB2 T W0 f b p W)(hb:Below W.heap.size W W'):FB2 T W0 f b p W':=by
 obtain⟨tk,ls,A,c,xs,h1,h2,h3,h4⟩:=h.ex
 exact⟨⟨tk,ls,A,c,xs,(hb.block b (blk_lt h1)).trans h1,h2,FldR.to h3 hb,h4⟩,h.lo,h.low.trans (hb.mono h.low.size)⟩
theorem set3_other{W:World}{b d:Nat}{v0 v1 v2:Value}{x:Option Obj}(hne:d≠b)(h:W.heap[d]? =x):(((W.setCell ⟨b,0,none⟩ v0).setCell ⟨b,1,none⟩ v1).setCell ⟨b,2,none⟩ v2).heap[d]? =x:=by
 rw[heap_setCell_other _ _ _ _ hne,heap_setCell_other _ _ _ _ hne,heap_setCell_other _ _ _ _ hne,h]
theorem FB2.set{T:TypeId}{W0 W:World}{f:Fld}{b p:Nat}(h:FB2 T W0 f b p W)(v0 v1 v2:Value)(hp:b≠p)(hl:W0.heap.size≤p):FBox T W0 f b (((W.setCell ⟨p,0,none⟩ v0).setCell ⟨p,1,none⟩ v1).setCell ⟨p,2,none⟩ v2):=by
 obtain⟨tk,ls,A,c,xs,h1,h2,h3,h4⟩:=h.ex
 exact⟨⟨tk,ls,A,c,xs,set3_other hp h1,h2,(h3.set3 _ _ _ h4).more (by simp)⟩,h.lo,Below.set3 h.low hl _ _ _⟩
theorem fb2_set{T:TypeId}{W0 W W7:World}{f:Fld}{b p:Nat}{tk ls:Int}{A:Option Addr}{c:Nat}{zs:List MA}{u0 u1 u2:Value}(h0:Below W0.heap.size W0 W)(hb:Below W.heap.size W W7)(hl:W0.heap.size≤b)(hk:W.heap[b]? =some (.cells #[u0,u1,u2] T (0,0)))(hf:fldOf tk ls zs=f)(hr:FldR W7 W7.heap.size A c zs)(hfr:Blks (fun d=>d≠b∧d≠p) A zs):
 FB2 T W0 f b p (((W7.setCell ⟨b,0,none⟩ (.int .i64 tk)).setCell ⟨b,1,none⟩ (.int .i64 ls)).setCell ⟨b,2,none⟩ (.slice A zs.length c)):=by
 have hlt:=blk_lt hk
 have hz:=h0.size
 refine⟨⟨tk,ls,A,c,zs,set3_block ((hb.block b hlt).trans hk),hf,?_,hfr.imp fun d hd=>hd.2⟩,hl,Below.set3 (h0.trans (hb.mono hz)) hl _ _ _⟩
 exact(hr.set3 _ _ _ (hfr.imp fun d hd=>hd.1)).more (by simp)
theorem short_fld{xs:List MA}(h:shortF xs=true):SmallF xs∧xs.length≤17:=by
 unfold shortF at h
 simp only[Bool.and_eq_true,Bool.not_eq_true',List.all_eq_true]at h
 have hm:∀x∈xs,x.m.name.size≤40∧x.m.sec.size≤40∧x.m.way.length≤41:=fun x hx=>by
  have h1:=h.2 x hx
  unfold shortM at h1
  simp only[Bool.and_eq_true,Bool.or_eq_true,decide_eq_true_eq,beq_iff_eq]at h1
  omega
 have hn:xs.length≤17:=by
  have h1:=h.1
  cases h2:decide ((5:Int)<(xs.length:Int))with
  |false=>have:=of_decide_eq_false h2;omega
  |true=>rw[h2,Bool.true_and,bne_eq_false_iff_eq]at h1;omega
 exact⟨⟨by omega,fun x hx=>by have:=hm x hx;omega,fun x hx=>by have:=hm x hx;omega,fun x hx=>by have:=hm x hx;omega⟩,hn⟩
end Go.Proofs.YtehnikhicnnnhaaGreatDoor
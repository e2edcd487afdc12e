/- Small helpers: fields in worlds where one block changed; blocks of own lists. | The reference: Dark, Lit, Sector. | The statements' rounds: rounds of orders of the reference as those of the program. -/
import Derived.Test.YtehnikhicnnnhaaGreatDoorPa60
import Derived.Test.YtehnikhicnnnhaaGreatDoorPa46
import Derived.Test.YtehnikhicnnnhaaGreatDoorPa01
import Derived.Test.YtehnikhicnnnhaaGreatDoorPa17
import Derived.Test.YtehnikhicnnnhaaGreatDoorPa61
import Derived.Test.YtehnikhicnnnhaaGreatDoorPa03
import Derived.Test.YtehnikhicnnnhaaGreatDoorPa23
namespace Go.Proofs.YtehnikhicnnnhaaGreatDoor
open Go.RowKit
theorem Ke.set3{p:Nat}(W:World)(v0 v1 v2:Value):Ke p W (((W.setCell ⟨p,0,none⟩ v0).setCell ⟨p,1,none⟩ v1).setCell ⟨p,2,none⟩ v2):=
 ⟨by simp,fun b _ hne=>by rw[heap_setCell_other _ _ _ _ hne,heap_setCell_other _ _ _ _ hne,heap_setCell_other _ _ _ _ hne]⟩
theorem Ke.rwN{p B sz:Nat}{U W:World}{A:Option Addr}{l:List (List Value)}(h:Rw U B sz A l)(hk:Ke p U W)(hB:B≤U.heap.size)(hp:l≠ []→∀a,A=some a→a.block≠p):Rw W B sz A l:=fun hn=>Ke.rw_ h hk hB (hp hn) hn
theorem Ke.fld{p c:Nat}{U W:World}{A:Option Addr}{xs:List MA}(h:FldR U U.heap.size A c xs)(hk:Ke p U W)(hp:Blks (fun b=>b≠p) A xs):FldR W W.heap.size A c xs:=
 ⟨Rw.more (Ke.rwN h.rw_ hk (Nat.le_refl _) (fun hn=>hp.row (by simpa using hn))) hk.1,fun x hx=>⟨Rw.more (Ke.rwN (h.each x hx).way hk (Nat.le_refl _) (fun hn=>hp.way x hx (by simpa using hn))) hk.1,(h.each x hx).cap⟩,h.cap⟩
theorem own_block{T:TypeId}{w:World}{base:Nat}{A:Option Addr}{c:Nat}{ys:List MA}(h:OwnT T w base A c ys):∀a,A=some a→base≤a.block:=by
 intro a ha
 rcases h.row.2 with ⟨hv,_⟩|⟨g,cap,cur,hv,hb,_⟩
 ·rw[ha]at hv;cases hv
 ·rw[ha]at hv
  cases hv
  exact hb
set_option maxRecDepth 100000 in
set_option maxHeartbeats 4000000 in
theorem rDark_c(a:GA)(g:Grd)(tk ls:Int)(A:Option Addr)(c:Nat)(xs:List MA)(w:World)(hl:xs.length≤1000)(hloc:∀x∈xs,0≤x.m.loc∧x.m.loc<g.sta.length)(hr:GridR w w.heap.size a g)(hf:FldR w w.heap.size A c xs):
 Calls Tryz.prog 53 #[(.agg #[.int .i64 g.blur,.slice a.pS g.sta.length a.cs,.slice a.pM g.mov.length a.cm,.slice a.pZ g.zon.length a.cz]),(.agg #[.int .i64 tk,.int .i64 ls,.slice A xs.length c])] w fun e w'=>e=.returned (.bool (darkG g (fldOf tk ls xs)))∧Below w.heap.size w w':=by
 obtain⟨W1,hW1⟩:∃W1,W1=(w.alloc (.cells #[.int .i64 g.blur,.slice a.pS g.sta.length a.cs,.slice a.pM g.mov.length a.cm,.slice a.pZ g.zon.length a.cz] 26)).alloc (.cells #[.int .i64 tk,.int .i64 ls,.slice A xs.length c] 66):=⟨_,rfl⟩
 have k0:W1.heap[w.heap.size]? =some (.cells #[.int .i64 g.blur,.slice a.pS g.sta.length a.cs,.slice a.pM g.mov.length a.cm,.slice a.pZ g.zon.length a.cz] 26 (0,0)):=by rw[hW1];exact(Below.heap_alloc _ _ _ (by simp)).trans (heap_alloc_new w _)
 have k1:W1.heap[w.heap.size+1]? =some (.cells #[.int .i64 tk,.int .i64 ls,.slice A xs.length c] 66 (0,0)):=by rw[hW1];exact heap_two w _ _
 have hB0:Below w.heap.size w W1:=by rw[hW1];(repeat first|(with_reducible first|assumption|exact Below.refl _ _|refine Bl.drew ?_|refine Bl.drewN ?_ _|refine Bl.alloc ?_ _|refine Bl.set ?_ _ ?_)|(with_reducible apply Bl.step';(focus(with_reducible assumption)))|omega|(focus(simp;done))|(focus(simp;omega)))
 have HB0:=zh hB0
 have HG:=zh (hr.to hB0)
 have HF:=zh (FldR.to hf hB0)
 have HL:=zh hloc
 have z0:=blk_lt k0
 have z1:=blk_lt k1
 have HD:=zh (darkG_eq g tk ls xs)
 (obtain⟨g0,g1,g2,g3⟩:=cg4 k0)
 (obtain⟨d0,df0,d1,df1,d2,df2⟩:=cv3 k1)
 clear hr hf k0 k1 hB0 df0 df1 df2 hloc
 go_enter Tryz.func53,Tryz.ntmps53
 go_upto_region 1 with fail
 rw[←hW1]
 clear hW1
 go_wp2_with fail
 go_loopw [5] (fun i wr=>∃k:Nat,k≤xs.length∧i=.int .i64 k∧Hid (∀x∈xs.take k,standsG g x.m=true)∧Below W1.heap.size W1 wr) (fun i _=>xs.length-(intOf i).toNat)
 case atStart=>exact⟨0,Nat.zero_le _,rfl,zh (by simp),Below.refl _ _⟩
 case round=>
  obtain⟨k,hk,rfl,hal,hb⟩:=hrel
  have hbs:=hb.size
  have hc:=(bcell hb).1
  have y0:w.heap.size<wr.heap.size:=by omega
  have y1:w.heap.size+1<wr.heap.size:=by omega
  by_cases hlt:k<xs.length
  ·obtain⟨x,hx⟩:∃x,x=xs[k]:=⟨_,rfl⟩
   have hxm:x∈xs:=by rw[hx];exact List.getElem_mem hlt
   obtain⟨b,off,ea,hbl,c0,c1,c2,c3,c4,c5⟩:=HF.out.rw_.get6 (k:=k) (by simpa using hlt) (by rw[List.getElem_map,←hx];rfl)
   rw[ea]at d2
   have yb:b<wr.heap.size:=by omega
   have HX:=zh hx
   have HLX:=zh (HL.out x hxm)
   have HEA:=zh ea
   have HBW:=zh hb
   clear hx hxm ea
   obtain⟨m,mA,mc⟩:=x
   simp only at c0 c1 c2 c3 c4 c5 HLX
   cases hp:standsG g m with
   |false=>
    have HP:=zh hp
    have hq:=zh (show darkG g (fldOf tk ls xs)=false by
     rw[HD.out,List.all_eq_false]
     exact⟨xs[k],List.getElem_mem hlt,by rw[←HX.out];simp[hp]⟩)
    clear hp
    go_wp2_with fail
    go_region_held3 (SHd wr) ((refine Sh.goal ?_;exact zsh)) (first|(go_at_call 129;(with_reducible refine Calls.mono (rIsDark_c a g m mA mc _ HLX.out (HG.out.to (HBW.out.trans ((show Below wr.heap.size wr _ by exact zbl).mono HBW.out.size)))) ?_);rintro e w2 ⟨rfl,hb2⟩;rw[HP.out]))
    all_goals
     go_wp2_with fail
     go_ret
     exact⟨ret_bool hq.out.symm,HB0.out.trans ((HBW.out.trans ((show Below wr.heap.size wr _ by exact zbl).mono HBW.out.size)).mono HB0.out.size)⟩
   |true=>
    have HP:=zh hp
    clear hp
    go_wp2_with fail
    go_region_held3 (SHd wr) ((refine Sh.goal ?_;exact zsh)) (first|(go_at_call 129;(with_reducible refine Calls.mono (rIsDark_c a g m mA mc _ HLX.out (HG.out.to (HBW.out.trans ((show Below wr.heap.size wr _ by exact zbl).mono HBW.out.size)))) ?_);rintro e w2 ⟨rfl,hb2⟩;rw[HP.out]))
    all_goals
     go_wp2_with fail
     go_roundw
     case rel=>exact⟨k+1,by omega,by go_num,zh (take_allT (p:=fun x:MA=>standsG g x.m) hlt hal.out (by rw[←HX.out];exact HP.out)),HBW.out.trans ((show Below wr.heap.size wr _ by exact zbl).mono HBW.out.size)⟩
     case measure=>simp[intOf];omega
  ·have hkl:k=xs.length:=by omega
   have hq:=zh (show darkG g (fldOf tk ls xs)=true by
    rw[HD.out,List.all_eq_true]
    have:=hal.out
    rw[hkl,List.take_length]at this
    exact this)
   go_wp2_with fail
   go_ret
   exact⟨ret_bool hq.out.symm,HB0.out.trans (hb.mono HB0.out.size)⟩
theorem litG_eqn(g:Grd)(tk ls:Int)(xs:List MA):litG g (fldOf tk ls xs)=nmsP (fun x=>litM g x.m) xs:=by
 unfold litG nmsP fldOf
 rw[List.filter_map,List.map_map]
 rfl
set_option maxRecDepth 100000 in
set_option maxHeartbeats 4000000 in
theorem rLit_c(a:GA)(g:Grd)(tk ls:Int)(A:Option Addr)(c:Nat)(xs:List MA)(w:World)(hl:xs.length≤1000)(hloc:∀x∈xs,0≤x.m.loc∧x.m.loc<g.sta.length)(hr:GridR w w.heap.size a g)(hf:FldR w w.heap.size A c xs):
 Calls Tryz.prog 51 #[(.agg #[.int .i64 g.blur,.slice a.pS g.sta.length a.cs,.slice a.pM g.mov.length a.cm,.slice a.pZ g.zon.length a.cz]),(.agg #[.int .i64 tk,.int .i64 ls,.slice A xs.length c])] w fun e w'=>∃v,e=.returned v∧OwnS w' w.heap.size v (litG g (fldOf tk ls xs))∧Below w.heap.size w w':=by
 rw[litG_eqn]
 obtain⟨i0,hi,hi0,hi1,hi2⟩:=info_parts Tryz.infoStr
 obtain⟨W1,hW1⟩:∃W1,W1=(w.alloc (.cells #[.int .i64 g.blur,.slice a.pS g.sta.length a.cs,.slice a.pM g.mov.length a.cm,.slice a.pZ g.zon.length a.cz] 26)).alloc (.cells #[.int .i64 tk,.int .i64 ls,.slice A xs.length c] 66):=⟨_,rfl⟩
 have k0:W1.heap[w.heap.size]? =some (.cells #[.int .i64 g.blur,.slice a.pS g.sta.length a.cs,.slice a.pM g.mov.length a.cm,.slice a.pZ g.zon.length a.cz] 26 (0,0)):=by rw[hW1];exact(Below.heap_alloc _ _ _ (by simp)).trans (heap_alloc_new w _)
 have k1:W1.heap[w.heap.size+1]? =some (.cells #[.int .i64 tk,.int .i64 ls,.slice A xs.length c] 66 (0,0)):=by rw[hW1];exact heap_two w _ _
 have hB0:Below w.heap.size w W1:=by rw[hW1];(repeat first|(with_reducible first|assumption|exact Below.refl _ _|refine Bl.drew ?_|refine Bl.drewN ?_ _|refine Bl.alloc ?_ _|refine Bl.set ?_ _ ?_)|(with_reducible apply Bl.step';(focus(with_reducible assumption)))|omega|(focus(simp;done))|(focus(simp;omega)))
 have HB0:=zh hB0
 have HG:=zh (hr.to hB0)
 have HF:=zh (FldR.to hf hB0)
 have HL:=zh hloc
 have z0:=blk_lt k0
 have z1:=blk_lt k1
 (obtain⟨g0,g1,g2,g3⟩:=cg4 k0)
 (obtain⟨d0,df0,d1,df1,d2,df2⟩:=cv3 k1)
 clear hr hf k0 k1 hB0 df0 df1 df2 hloc
 go_enter Tryz.func51,Tryz.ntmps51
 go_upto_region 1 with fail
 rw[←hW1]
 clear hW1
 go_wp2_with fail
 go_loopw [5,6] (fun v i wr=>∃k:Nat,k≤xs.length∧i=.int .i64 k∧OwnS wr W1.heap.size v (nmsP (fun x=>litM g x.m) (xs.take k))∧Below W1.heap.size W1 wr) (fun _ i _=>xs.length-(intOf i).toNat)
 case atStart=>exact⟨0,Nat.zero_le _,rfl,OwnS.nil_ _ _,Below.refl _ _⟩
 case round=>
  obtain⟨k,hk,rfl,hown,hb⟩:=hrel
  have hbs:=hb.size
  have hc:=(bcell hb).1
  have y0:w.heap.size<wr.heap.size:=by omega
  have y1:w.heap.size+1<wr.heap.size:=by omega
  by_cases hlt:k<xs.length
  ·obtain⟨x,hx⟩:∃x,x=xs[k]:=⟨_,rfl⟩
   have hxm:x∈xs:=by rw[hx];exact List.getElem_mem hlt
   obtain⟨b,off,ea,hbl,c0,c1,c2,c3,c4,c5⟩:=HF.out.rw_.get6 (k:=k) (by simpa using hlt) (by rw[List.getElem_map,←hx];rfl)
   rw[ea]at d2
   have yb:b<wr.heap.size:=by omega
   have HEA:=zh ea
   have hlx:=HL.out x hxm
   obtain⟨nl,hnl⟩:∃nl,nl=nmsP (fun x=>litM g x.m) (xs.take k):=⟨_,rfl⟩
   have hnn:nl.length≤1000:=by rw[hnl];have:=nmsP_len (fun x=>litM g x.m) (xs.take k);rw[List.length_take]at this;omega
   have hst:nmsP (fun x=>litM g x.m) (xs.take (k+1))=nl++(if litM g x.m then [x.m.name]else []):=by rw[nmsP_succ hlt,←hnl,hx]
   rw[←hnl]at hown
   have HST:=zh hst
   have HBW:=zh hb
   clear hx hxm hnl hst ea
   obtain⟨m,mA,mc⟩:=x
   simp only at c0 c1 c2 c3 c4 c5 HST hlx
   obtain⟨j,hj⟩:=Int.eq_ofNat_of_zero_le hlx.1
   have hjn:j<g.sta.length:=by omega
   obtain⟨sb,so,es,hsb,s0,s1,s2,s3⟩:=HG.out.sta.get4 (k:=j) (by simpa using hjn) (by rw[List.getElem_map];rfl)
   obtain⟨s,hs⟩:∃s,s=g.sta[j].kind:=⟨_,rfl⟩
   have hkd:kindG g m.loc=s:=by
    unfold kindG;rw[hj,Int.toNat_natCast,List.getD_eq_getElem?_getD,List.getElem?_eq_getElem hjn,hs];rfl
   rw[←hs]at s1
   rw[es]at g1
   rw[hj]at c2
   have ysb:sb<wr.heap.size:=by omega
   have HLM:=zh (show litM g m=(decide (m.way= [])&&sEq s kFocus) by unfold litM;rw[hkd])
   have HES:=zh es
   have HJ:=zh hj
   clear hs hkd hlx es s0 s2 s3 hj
   by_cases hw:m.way.length=0
   ·have HW:=zh (show m.way= []from List.length_eq_zero_iff.1 hw)
    have hl':((m.way.length:Int)==0)=true:=by rw[beq_iff_eq];omega
    have hq:(s.toList== [102,111,99,117,115])=sEq s kFocus:=by rw[ByteArray.toList_eq];rfl
    cases hf:sEq s kFocus with
    |true=>
     have HT:=zh (show litM g m=true by rw[HLM.out,HW.out,hf];rfl)
     rw[hf]at hq
     have hq2:s.toList= [102,111,99,117,115]:=by simpa using hq
     clear hf hw
     rw[HT.out]at HST
     go_wp2_with (at_builtin;refine wpList_append_own _ rfl _ _ 90 rfl W1.heap.size 9 i0 (.string ⟨#[]⟩) 1 16 Tryz.underlying90 hi hi0 hi1 hi2 rfl (by decide) _ _ _ rfl (World.ownsRow.alloc (World.ownsRow.alloc hown _) _) ⟨wr.heap.size+1,0,none⟩ 1 1 [.string m.name] rfl rfl ?c1 ?c2 ?c3 ?c4 ?c5 ?_)
     case c2=>first|rfl|(intro u hu;simp at hu;subst hu;rfl)
     case c3=>unfold maxLen;omega
     case c4=>omega
     case c5=>first|omega|(simp;omega)
     intro v' w4 hown' hgrow _
     go_wp2_with fail
     go_roundw
     case rel=>exact⟨k+1,by omega,by go_num,by rw[HST.out];exact OwnS.app hown',Below.grown (by exact zbl) hgrow (by simp;omega) (fun j e=>(World.ownsRow.lt hown j e).1)⟩
     case measure=>simp[intOf];omega
    |false=>
     have HT:=zh (show litM g m=false by rw[HLM.out,hf];simp)
     rw[hf]at hq
     have hs2:s.toList≠ [102,111,99,117,115]:=by simpa using hq
     clear hf hw
     rw[HT.out]at HST
     go_wp2_with fail
     go_roundw
     case rel=>exact⟨k+1,by omega,by go_num,by rw[HST.out];simpa using hown.alloc _,by exact zbl⟩
     case measure=>simp[intOf];omega
   ·have hl':((m.way.length:Int)==0)=false:=by rw[beq_eq_false_iff_ne];omega
    have HT:=zh (show litM g m=false by rw[HLM.out,decide_eq_false (fun h=>hw (by rw[h];rfl))];rfl)
    clear hw
    rw[HT.out]at HST
    go_wp2_with fail
    go_roundw
    case rel=>exact⟨k+1,by omega,by go_num,by rw[HST.out];simpa using hown.alloc _,by exact zbl⟩
    case measure=>simp[intOf];omega
  ·have hkl:k=xs.length:=by omega
   rw[hkl,List.take_length]at hown
   have HO:=zh hown
   clear hown hkl
   go_wp2_with fail
   go_ret
   exact⟨_,rfl,HO.out.mono HB0.out.size,HB0.out.trans (hb.mono HB0.out.size)⟩
def zeroOrd:Value:=.agg #[.string ⟨#[]⟩,.string ⟨#[]⟩,.bool false]
theorem Tryz.infoBO:(Tryz.prog.info? 76).map (fun i=>(i.zero,i.size,i.bytes))=some (some zeroOrd,3,40):=by kernel_rfl
theorem Tryz.infoSO:(Tryz.prog.info? 200).map (fun i=>(i.zero,i.size,i.bytes))=some (some (.slice none 0 0),1,24):=by kernel_rfl
theorem encR_len{ys:List RA}:∀x∈ys.map encR,x.length=1:=by
 intro x hx;obtain⟨y,_,rfl⟩:=List.mem_map.1 hx;rfl
structure OwnR(w:World)(base:Nat)(A:Option Addr)(c:Nat)(ys:List RA):Prop where
 row:w.ownsRow base 200 1 (.slice A ys.length c) ys.length (ys.map encR).flatten
 each:∀x∈ys,Rw w w.heap.size 3 x.A (x.os.map encO)
 apart:∀x∈ys,x.os≠ []→∀a,x.A=some a→∀d,A=some d→a.block≠d.block
theorem OwnR.nil_(w:World)(base:Nat):OwnR w base none 0 []:=⟨World.ownsRow_nil _ _ _ _,by simp,by simp⟩
theorem OwnR.below{w w':World}{base c:Nat}{A:Option Addr}{ys:List RA}(h:OwnR w base A c ys)(hb:Below w.heap.size w w'):OwnR w' base A c ys:=
 ⟨World.ownsRow.kept h.row (row:=none) (grown_of hb) (by cases(Value.slice A ys.length c).ownBlock<;>simp),fun x hx=>Rw.more (Rw.belowB (w0:=w) (h.each x hx) hb (Nat.le_refl _)) hb.size,h.apart⟩
theorem OwnR.rnd{w:World}{base c:Nat}{A:Option Addr}{ys:List RA}(h:OwnR w base A c ys):RndR w w.heap.size A ys:=by
 refine⟨?_,h.each⟩
 obtain⟨A',c',e,_,hr,_⟩:=own_rw h.row (by simp) encR_len
 cases e
 exact hr
theorem rw_at{w:World}{B sz:Nat}{A:Option Addr}{l:List (List Value)}(h:Rw w B sz A l)(hn:l≠ []):∃b off,A=some ⟨b,off,none⟩∧b<B:=by
 obtain⟨b,off,e,hb,_⟩:=h hn
 exact⟨b,off,e,hb⟩
set_option maxRecDepth 100000 in
set_option maxHeartbeats 8000000 in
theorem rounds_c(A:Option Addr)(c:Nat)(rs:List RA)(w:World)(hl:rs.length≤1000)(hon:∀x∈rs,x.os.length≤1000)(hr:RndR w w.heap.size A rs):
 Calls Tryz.prog 47 #[.slice A rs.length c] w fun e w'=>∃A' c' ys,e=.returned (.slice A' ys.length c')∧ys.map RA.os=rs.map RA.os∧RndR w' w'.heap.size A' ys∧Below w.heap.size w w':=by
 obtain⟨iO,hiO,hzO0,hzO1,hzO2⟩:=info_parts Tryz.infoBO
 obtain⟨iL,hiL,hzL0,hzL1,hzL2⟩:=info_parts Tryz.infoSO
 have HR:=zh hr;clear hr
 have HON:=zh hon;clear hon
 go_enter Tryz.func47,Tryz.ntmps47
 go_wp2_with fail
 go_loopw [3,11] (fun v i wr=>∃(k:Nat) (A':Option Addr) (c':Nat) (ys:List RA),k≤rs.length∧v=.slice A' ys.length c'∧i=.int .i64 k∧OwnR wr w.heap.size A' c' ys∧Hid (ys.map RA.os=(rs.take k).map RA.os)∧Below w.heap.size w wr) (fun _ i _=>rs.length-(intOf i).toNat)
 case atStart=>exact⟨0,none,0,[],Nat.zero_le _,rfl,rfl,OwnR.nil_ _ _,zh (by simp),Below.refl _ _⟩
 case round=>
  obtain⟨k,A',c',ys,hk,rfl,rfl,hown,hys,hb⟩:=hrel
  have hyl:ys.length=k:=by have:=congrArg List.length hys.out;simpa [Nat.min_eq_left hk]using this
  have hyb:ys.length≤1000:=by omega
  have HYL:=zh hyl
  clear hyl
  have HOW:=zh hown
  clear hown
  by_cases hlt:k<rs.length
  ·obtain⟨x,hx⟩:∃x,x=rs[k]:=⟨_,rfl⟩
   have hxm:x∈rs:=by rw[hx];exact List.getElem_mem hlt
   have hrr:=HR.out.belowB (w0:=w) hb (Nat.le_refl _)
   obtain⟨b,off,ea,hbl,x0⟩:=hrr.row.get1 (k:=k) (by simpa using hlt) (by rw[List.getElem_map,←hx];rfl)
   have HXO:=zh (hrr.each x hxm)
   have hxo:=HON.out x hxm
   have HX:=zh hx
   rw[ea]
   have HEA:=zh ea
   clear hx hxm hrr ea
   obtain⟨os,oA,oc⟩:=x
   simp only at x0 HXO hxo
   obtain⟨U,hU⟩:∃U,U=wr:=⟨_,rfl⟩
   subst hU
   have hbU:=hb.size
   have yb:b<U.heap.size:=by omega
   go_wp2_with fail
   go_loopw [6,17] (fun u j wv=>∃n:Nat,n≤os.length∧j=.int .i64 n∧wv.ownsRow U.heap.size 76 3 u n ((os.take n).map encO).flatten∧Below U.heap.size U wv) (fun _ j _=>os.length-(intOf j).toNat)
   case atStart=>exact⟨0,Nat.zero_le _,rfl,by simpa using World.ownsRow_nil _ _ _ _,Below.refl _ _⟩
   case round=>
    obtain⟨n,hn,rfl,hou,hbu⟩:=hrel
    have hbs:=hbu.size
    by_cases hlu:n<os.length
    ·obtain⟨o,ho⟩:∃o,o=os[n]:=⟨_,rfl⟩
     obtain⟨ob,ooff,eo,hobl,z0,z1,z2⟩:=(Rw.belowB (w0:=U) HXO.out hbu (by omega)).get3 (k:=n) (by simpa using hlu) (by rw[List.getElem_map,←ho];rfl)
     rw[eo]
     have yo:ob<wr.heap.size:=by omega
     have HO:=zh ho
     have HEO:=zh eo
     clear ho eo
     go_wp2_with (at_builtin;refine wpList_append_own _ rfl _ _ 200 rfl U.heap.size 76 iO zeroOrd 3 40 Tryz.underlying200 hiO hzO0 hzO1 hzO2 rfl (by decide) _ _ _ rfl (World.ownsRow.alloc (World.ownsRow.alloc hou _) _) ⟨wr.heap.size+1,0,none⟩ 1 1 [.string o.mir,.string o.sta,.bool o.lost] rfl rfl ?c1 ?c2 ?c3 ?c4 ?c5 ?_)
     case c1=>
      intro j u hj
      rw[add0,cell_of_row _ _ _ _ _ _ (heap_two wr _ _)]
      match j,hj with
      |0,hj=>simpa using hj
      |1,hj=>simpa using hj
      |2,hj=>simpa using hj
      |j+3,hj=>simp at hj
     case c2=>intro u hu;simp at hu;rcases hu with rfl|rfl|rfl<;>rfl
     case c3=>unfold maxLen;omega
     case c4=>omega
     case c5=>simp;omega
     intro v' w6 hou' hgrow _
     go_wp2_with fail
     go_roundw
     case rel=>
      refine⟨n+1,by omega,by go_num,?_,Below.grown (by exact zbl) hgrow (by simp;omega) (fun j e=>(World.ownsRow.lt hou j e).1)⟩
      rw[List.take_succ_eq_append_getElem hlu,List.map_append,List.flatten_append,←HO.out]
      simpa [encO]using hou'
     case measure=>simp[intOf];omega
    ·have hnl:n=os.length:=by omega
     rw[hnl,List.take_length]at hou
     obtain⟨A1,c1,rfl,hcS,hrow,hfr⟩:=own_rw hou (by simp) (by intro y hy;obtain⟨z,_,rfl⟩:=List.mem_map.1 hy;rfl)
     have HRW:=zh hrow
     have HFR:=zh hfr
     have HO2:=OwnR.below HOW.out hbu
     have HBU:=zh hbu
     clear hrow hfr hou hnl
     go_wp2_with (at_builtin;go_loud (refine wpList_append_lies _ rfl _ _ 88 rfl w.heap.size 200 iL (.slice none 0 0) 1 24 Tryz.underlying88 hiL hzL0 hzL1 hzL2 rfl (by decide) _ _ _ rfl (World.ownsRow.alloc HO2.row _) ⟨wr.heap.size,0,none⟩ 1 1 (encR ⟨os,A1,c1⟩) rfl rfl ?c1 ?c2 (by decide) ?c3 ?c4 ?c5 _ rfl ?_))
     case c1=>
      intro j u hj
      rw[add0,cells_new _ _ rfl]
      match j,hj with
      |0,hj=>simpa [encR]using hj
      |j+1,hj=>simp[encR]at hj
     case c2=>intro u hu;simp[encR]at hu;subst hu;rfl
     case c3=>unfold maxLen;omega
     case c4=>omega
     case c5=>have h1:=hb.size;rw[World.size_alloc];omega
     intro g1 cap1 w4 hown' hgrow hat hlt4
     go_wp2_with fail
     go_roundw
     case rel=>
      have hBz:=hgrow.size
      rw[World.size_alloc]at hBz
      refine⟨k+1,some ⟨g1,0,none⟩,cap1,ys++ [⟨os,A1,c1⟩],by omega,by simp,by go_num,⟨by simpa using hown',?_,?_⟩,zh ?_,Below.grown (by exact zbl) hgrow (by simp;omega) (fun j e=>(World.ownsRow.lt HO2.row j e).1)⟩
      ·intro z hz
       rcases List.mem_append.1 hz with hz|hz
       ·intro hn
        obtain⟨b',off',e,hb',hc'⟩:=HO2.each z hz hn
        refine⟨b',off',e,by omega,fun i hi j v hv=>hgrow.cell ((World.cell?_alloc_lt _ _ ⟨b',off'+i*3+j,none⟩ hb').trans (hc' i hi j v hv)) ?_⟩
        intro e2
        cases A' with
        |none=>cases e2
        |some d=>exact HO2.apart z hz (fun h=>hn (by rw[h];rfl)) _ e d rfl (by simpa [Value.ownBlock]using e2)
       ·simp only[List.mem_singleton]at hz;subst hz
        intro hn
        obtain⟨b',off',e,hb',hc'⟩:=HRW.out hn
        refine⟨b',off',e,by omega,fun i hi j v hv=>hgrow.cell ((World.cell?_alloc_lt _ _ ⟨b',off'+i*3+j,none⟩ hb').trans (hc' i hi j v hv)) ?_⟩
        intro e2
        cases A' with
        |none=>cases e2
        |some d=>
         simp only[Value.ownBlock,Option.some.injEq]at e2
         have h1:=World.ownsRow.lt HOW.out.row d.block rfl
         have h2:=HFR.out _ e
         have:b'=d.block:=e2
         simp only at h2;omega
      ·intro z hz hne a ha d hd
       cases hd
       show a.block≠g1
       have hg1:(∃d',A'=some d'∧d'.block=g1)∨g1=wr.heap.size+1:=by
        rcases hat with h|h
        ·left
         cases A' with
         |none=>cases h
         |some d'=>exact⟨d',rfl,by simpa [Value.ownBlock]using h⟩
        ·right;exact h
       rcases List.mem_append.1 hz with hz|hz
       ·rcases hg1 with ⟨d',e1,e2⟩|e1
        ·rw[←e2];exact HO2.apart z hz hne a ha d' e1
        ·obtain⟨b',off',e,hb'⟩:=rw_at (HO2.each z hz) (by simpa using hne)
         rw[ha]at e
         cases e
         show b'≠g1
         omega
       ·simp only[List.mem_singleton]at hz;subst hz
        rcases hg1 with ⟨d',e1,e2⟩|e1
        ·have h1:=World.ownsRow.lt HOW.out.row d'.block (by rw[e1];rfl)
         have h2:=HFR.out a ha
         omega
        ·obtain⟨b',off',e,hb'⟩:=rw_at HRW.out (by simpa using hne)
         rw[show A1=some a from ha]at e
         cases e
         show b'≠g1
         omega
      ·rw[List.map_append,hys.out,List.take_succ_eq_append_getElem hlt,List.map_append,←HX.out]
       rfl
     case measure=>simp[intOf];omega
  ·have hkl:k=rs.length:=by omega
   subst hkl
   go_wp2_with fail
   go_ret
   exact⟨A',c',ys,rfl,by rw[hys.out,List.take_length],HOW.out.rnd,hb⟩
end Go.Proofs.YtehnikhicnnnhaaGreatDoor
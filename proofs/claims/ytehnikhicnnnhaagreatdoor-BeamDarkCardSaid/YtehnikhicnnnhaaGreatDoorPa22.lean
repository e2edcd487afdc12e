/- Stepped, Lit, Heard. | Joined and Taken in plain words. | Deadline. -/
import Derived.Test.YtehnikhicnnnhaaGreatDoorPa17
import Derived.Test.YtehnikhicnnnhaaGreatDoorPa60
namespace Go.Proofs.YtehnikhicnnnhaaGreatDoor
open Go.RowKit
def fld0:Fld:=⟨0,0,[]⟩
def RetF(f:Fld)(err:Int)(w:World)(e:Ending)(w':World):Prop:=∃tk ls A c xs,e=.returned (.tuple #[(.agg #[.int .i64 tk,.int .i64 ls,.slice A xs.length c]),.int .i64 err])∧fldOf tk ls xs=f∧FldR w' w'.heap.size A c xs∧Below w.heap.size w w'∧Fresh w.heap.size A xs
theorem blks_nil{P:Nat→Prop}{A:Option Addr}:Blks P A []:=⟨fun h=>absurd rfl h,fun x hx=>by cases hx⟩
theorem fieldC_tick{g:Grd}{f:Fld}(h:fieldC g f=0):f.tick≤10000000:=by
 unfold fieldC at h
 split at h
 ·rename_i he;exact absurd h he
 ·rename_i he
  exact(rng_zero (firstErr_zero (Classical.not_not.1 he) (rng f.tick 0 10000000) (by simp))).2
theorem FldR.nil_(w:World)(B:Nat):FldR w B none 0 []:=⟨fun h=>absurd rfl h,by simp,Nat.le_refl _⟩
def stpE(g:Grd)(f:Fld):Int:=firstErr [fieldC g f,whn (f.tick==10000000) 3]
set_option maxRecDepth 100000 in
set_option maxHeartbeats 2000000 in
theorem Stepped_c(a:GA)(g:Grd)(tk ls:Int)(A:Option Addr)(c:Nat)(xs:List MA)(w:World)(hs:SmallG g)(hsf:SmallF xs)(hr:GridR w w.heap.size a g)(hkd:KindsAt w)(hf:FldR w w.heap.size A c xs):
 Calls Tryz.prog 40 #[(.agg #[.int .i64 g.blur,.slice a.pS g.sta.length a.cs,.slice a.pM g.mov.length a.cm,.slice a.pZ g.zon.length a.cz]),(.agg #[.int .i64 tk,.int .i64 ls,.slice A xs.length c])] w fun e w'=>RetF (if stpE g (fldOf tk ls xs)=0 then stepG g (fldOf tk ls xs)else fld0) (stpE g (fldOf tk ls xs)) w e w':=by
 obtain⟨W0,hW0⟩:∃W0,W0=(((w.alloc (.cells #[.int .i64 g.blur,.slice a.pS g.sta.length a.cs,.slice a.pM g.mov.length a.cm,.slice a.pZ g.zon.length a.cz] 38)).alloc (.cells #[.int .i64 tk,.int .i64 ls,.slice A xs.length c] 72)).alloc (.cells #[.int .i64 0,.int .i64 0,.slice none 0 0] 72)):=⟨_,rfl⟩
 have hsx:Sx w W0:=by rw[hW0];exact((((Sx.refl w).alloc _).alloc _).alloc _)
 have hB0:Below w.heap.size w W0:=by rw[hW0];exact zbl
 have hsz:W0.heap.size=w.heap.size+3:=by rw[hW0];simp
 have k0:W0.heap[w.heap.size]? =some (.cells #[.int .i64 g.blur,.slice a.pS g.sta.length a.cs,.slice a.pM g.mov.length a.cm,.slice a.pZ g.zon.length a.cz] 38 (0,0)):=by rw[hW0];exact heap_fst _ _ _ _
 have k1:W0.heap[w.heap.size+1]? =some (.cells #[.int .i64 tk,.int .i64 ls,.slice A xs.length c] 72 (0,0)):=by rw[hW0];exact heap_mid _ _ _ _
 have k2:W0.heap[w.heap.size+1+1]? =some (.cells #[.int .i64 0,.int .i64 0,.slice none 0 0] 72 (0,0)):=by rw[hW0];exact heap_lst _ _ _ _
 have HG:=zh (hr.sx (Nat.le_refl _) hsx)
 have HK:=zh (hkd.sx hsx)
 have HF:=zh (hf.sx (Nat.le_refl _) hsx)
 have HG0:=zh hr
 have HF0:=zh hf
 have hl:=hsf.n
 have HS:=zh hs
 have HSF:=zh hsf
 have K0:=zh k0
 have K1:=zh k1
 have K2:=zh k2
 have l0:w.heap.size<W0.heap.size:=by omega
 have l1:w.heap.size+1<W0.heap.size:=by omega
 have l2:w.heap.size+1+1<W0.heap.size:=by omega
 clear hr hkd hf hsx hs hsf
 (obtain⟨g0,g1,g2,g3⟩:=cg4 k0)
 (obtain⟨q0,qf0,q1,qf1,q2,qf2⟩:=cv3 k1)
 (obtain⟨d0,df0,d1,df1,d2,df2⟩:=cv3 k2)
 clear k0 k1 k2
 have hEq:stpE g (fldOf tk ls xs)=firstErr [fieldC g (fldOf tk ls xs),whn (tk==10000000) 3]:=rfl
 have HEQ:=zh hEq
 clear hEq
 go_enter Tryz.func40,Tryz.ntmps40
 go_wp2_with fail
 rw[←hW0]
 clear hW0 hsz
 go_cut [6] (fun s wx=>s=.int .i64 (firstErr [fieldC g (fldOf tk ls xs),whn (tk==10000000) 3])∧Sh W0 wx∧Below W0.heap.size W0 wx)
 case first=>
  go_region_held3 (SHd W0) ((refine Sh.goal ?_;exact zsh)) (first|(go_at_call 44;refine(CheckField_c a g tk ls A c xs _ HS.out HSF.out (HG.out.sx (Nat.le_refl _) (Sh.sx (by exact zsh))) (HK.out.sx (Sh.sx (by exact zsh))) (HF.out.sx (Nat.le_refl _) (Sh.sx (by exact zsh)))).mono ?_;rintro e w1 ⟨rfl,hb1⟩)|(go_at_call 104;refine(when_c _ _ _).mono ?_;rintro e w' ⟨rfl,rfl⟩)|(go_at_call 103;refine(first_c _ [fieldC g (fldOf tk ls xs),whn (tk==10000000) 3] _ ?_ ?_).mono ?_;(focus simp);(focus first|(simp[CellsAt];done)|(simp[CellsAt,cells_new]));rintro e w' ⟨rfl,rfl⟩))
  all_goals
   go_wp2_with fail
   go_meet
   exact⟨rfl,by exact zsh,by exact zbl⟩
 case rest=>
  obtain⟨rfl,hsh,hbw⟩:=hcut
  have hbc:Below w.heap.size w wc:=hB0.trans (hbw.mono (by omega))
  clear g0 g1 g2 g3 q0 q1 q2 qf0 qf1 qf2 d0 d1 d2 df0 df1 df2
  (have j0:=(hsh.2.2 (w.heap.size) l0).trans K0.out);(obtain⟨g0,g1,g2,g3⟩:=cg4 j0);(have j1:=(hsh.2.2 (w.heap.size+1) l1).trans K1.out);(obtain⟨q0,qf0,q1,qf1,q2,qf2⟩:=cv3 j1);(have j2:=(hsh.2.2 (w.heap.size+1+1) l2).trans K2.out);(obtain⟨d0,df0,d1,df1,d2,df2⟩:=cv3 j2);(have J2:=zh j2);clear j0 j1 j2
  have hs2:=hsh.1
  by_cases he:firstErr [fieldC g (fldOf tk ls xs),whn (tk==10000000) 3]=0
  ·have hz:(firstErr [fieldC g (fldOf tk ls xs),whn (tk==10000000) 3]!=0)=false:=by rw[bne_eq_false_iff_eq];exact he
   have hfc:fieldC g (fldOf tk ls xs)=0:=firstErr_zero he _ (by simp)
   have htk:whn (tk==10000000) 3=0:=firstErr_zero he _ (by simp)
   obtain⟨hok,hu,hof⟩:=fldOk hfc
   have HOF:=zh hof
   have htk2:tk<20000000:=by
    have h4:tk≤10000000:=fieldC_tick hfc
    omega
   have HE:=zh he
   clear he hof hfc htk
   go_wp2_with (go_at_call 118;refine(stepped_c a g tk ls A c xs _ hok hu HOF.out htk2 ((HG0.out.belowB (w0:=w) hbc (Nat.le_refl _)).more hbc.size) ((HF0.out.belowB (w0:=w) hbc (Nat.le_refl _)).more hbc.size)).mono ?_;rintro e w3 ⟨A3,c3,ys,rfl,hys,hf3,hfr3,hb3⟩;(have HYS:=zh hys);(have HF3:=zh hf3);(have HFR:=zh hfr3);clear hys hf3 hfr3;(have j2:=(hb3.block (w.heap.size+1+1) (by omega)).trans J2.out);clear d0 d1 d2 df0 df1 df2;(obtain⟨d0,df0,d1,df1,d2,df2⟩:=cv3 j2);(have HJ:=zh j2);clear j2)
   refine bodyPost_ret (Tryz.res_fld2 rfl _ _ rfl (set3_block HJ.out)) rfl ?_
   have hbw3:Below w.heap.size w w3:=hbc.trans (hb3.mono (by omega))
   refine⟨tk+1,ls,A3,c3,ys,by first|rfl|(rw[HEQ.out,HE.out];rfl),by first|exact HYS.out|(rw[HEQ.out,HE.out,if_pos rfl];exact HYS.out),?_,Below.set3 hbw3 (by omega) _ _ _,HFR.out.imp fun d hd=>by omega⟩
   exact(HF3.out.set3 _ _ _ (HFR.out.imp fun d hd e=>by omega)).more (by simp)
  ·have hz:(firstErr [fieldC g (fldOf tk ls xs),whn (tk==10000000) 3]!=0)=true:=by rw[bne_iff_ne];exact he
   have HE:=zh he
   clear he
   go_wp2_with fail
   refine bodyPost_ret (Tryz.res_fld2 rfl _ _ rfl (set3_block J2.out)) rfl ?_
   exact⟨0,0,none,0,[],by first|rfl|(rw[HEQ.out];rfl),by first|rfl|(rw[HEQ.out,if_neg HE.out];rfl),FldR.nil_ _ _,Below.set3 hbc (by omega) _ _ _,blks_nil⟩
theorem litG_eq(g:Grd)(tk ls:Int)(xs:List MA):nmsP (fun x=>litM g x.m) xs=litG g (fldOf tk ls xs):=by
 unfold nmsP litG fldOf
 rw[List.filter_map,List.map_map]
 rfl
set_option maxRecDepth 100000 in
set_option maxHeartbeats 2000000 in
theorem Lit_c(a:GA)(g:Grd)(tk ls:Int)(A:Option Addr)(c:Nat)(xs:List MA)(w:World)(hs:SmallG g)(hsf:SmallF xs)(hr:GridR w w.heap.size a g)(hkd:KindsAt w)(hf:FldR w w.heap.size A c xs):
 Calls Tryz.prog 48 #[(.agg #[.int .i64 g.blur,.slice a.pS g.sta.length a.cs,.slice a.pM g.mov.length a.cm,.slice a.pZ g.zon.length a.cz]),(.agg #[.int .i64 tk,.int .i64 ls,.slice A xs.length c])] w fun e w'=>∃v,e=.returned (.tuple #[v,.int .i64 (fieldC g (fldOf tk ls xs))])∧OwnS w' w.heap.size v (if fieldC g (fldOf tk ls xs)=0 then litG g (fldOf tk ls xs)else [])∧Below w.heap.size w w':=by
 obtain⟨W0,hW0⟩:∃W0,W0=((w.alloc (.cells #[.int .i64 g.blur,.slice a.pS g.sta.length a.cs,.slice a.pM g.mov.length a.cm,.slice a.pZ g.zon.length a.cz] 38)).alloc (.cells #[.int .i64 tk,.int .i64 ls,.slice A xs.length c] 72)):=⟨_,rfl⟩
 have hsx:Sx w W0:=by rw[hW0];exact(((Sx.refl w).alloc _).alloc _)
 have hB0:Below w.heap.size w W0:=by rw[hW0];exact zbl
 have hsz:W0.heap.size=w.heap.size+2:=by rw[hW0];simp
 have k0:W0.heap[w.heap.size]? =some (.cells #[.int .i64 g.blur,.slice a.pS g.sta.length a.cs,.slice a.pM g.mov.length a.cm,.slice a.pZ g.zon.length a.cz] 38 (0,0)):=by rw[hW0];exact(Below.heap_alloc _ _ _ (by simp)).trans (heap_alloc_new w _)
 have k1:W0.heap[w.heap.size+1]? =some (.cells #[.int .i64 tk,.int .i64 ls,.slice A xs.length c] 72 (0,0)):=by rw[hW0];exact heap_two w _ _
 have HG:=zh (hr.sx (Nat.le_refl _) hsx)
 have HK:=zh (hkd.sx hsx)
 have HF:=zh (hf.sx (Nat.le_refl _) hsx)
 have HG0:=zh hr
 have HF0:=zh hf
 have hl:=hsf.n
 have HS:=zh hs
 have HSF:=zh hsf
 have K0:=zh k0
 have K1:=zh k1
 have l0:w.heap.size<W0.heap.size:=by omega
 have l1:w.heap.size+1<W0.heap.size:=by omega
 clear hr hkd hf hsx hs hsf
 (obtain⟨g0,g1,g2,g3⟩:=cg4 k0)
 (obtain⟨q0,qf0,q1,qf1,q2,qf2⟩:=cv3 k1)
 clear k0 k1
 by_cases he:fieldC g (fldOf tk ls xs)=0
 ·have hz:(fieldC g (fldOf tk ls xs)!=0)=false:=by rw[bne_eq_false_iff_eq];exact he
  obtain⟨hok,hu,hof⟩:=fldOk he
  have HTK:=zh (fieldC_tick he)
  have HE:=zh he
  have HOF:=zh hof
  clear he hof
  have HN:=fun w1 (hb1:Below W0.heap.size W0 w1)=>names_c (fun x=>litM g x.m) 127 #[.pointer (some ⟨w.heap.size,0,none⟩)] tk ls A c xs w1 hl enters_lit1 ((HF.out.belowB (w0:=W0) hb1 (Nat.le_refl _)).more hb1.size) (fun x hx W hW=>lit1_c a g x.m x.A x.c w.heap.size W hok (HOF.out.loc x hx) ((HG.out.belowB (w0:=W0) (hb1.trans (hW.mono hb1.size)) (Nat.le_refl _)).more (Nat.le_trans hb1.size hW.size)) ((hW.cell (p:=⟨w.heap.size,1,none⟩) (Nat.lt_of_lt_of_le l0 hb1.size)).trans ((hb1.cell (p:=⟨w.heap.size,1,none⟩) l0).trans g1)))
  have HNN:=zh HN
  clear HN
  go_enter Tryz.func48,Tryz.ntmps48
  go_wp2_with (first|(rw[←hW0];go_at_call 44;refine(CheckField_c a g tk ls A c xs _ HS.out HSF.out (HG.out.sx (Nat.le_refl _) (Sh.sx (by exact zsh))) (HK.out.sx (Sh.sx (by exact zsh))) (HF.out.sx (Nat.le_refl _) (Sh.sx (by exact zsh)))).mono ?_;rintro e w1 ⟨rfl,hb1⟩;(have hs1:Sh W0 w1:=by exact zsh);clear g0 g1 g2 g3 q0 q1 q2 qf0 qf1 qf2;(have j0:=(hs1.2.2 (w.heap.size) l0).trans K0.out);(obtain⟨g0,g1,g2,g3⟩:=cg4 j0);(have j1:=(hs1.2.2 (w.heap.size+1) l1).trans K1.out);(obtain⟨q0,qf0,q1,qf1,q2,qf2⟩:=cv3 j1);(have J1:=zh j1);clear j0 j1)|(go_at_call 126;refine(HNN.out w1 hb1).mono ?_;rintro e w2 ⟨v,rfl,hown,hb2⟩;rw[litG_eq g tk ls xs]at hown))
  go_ret2
  have:=hb1.size
  exact⟨v,by first|rfl|(rw[HE.out];rfl),by first|exact hown.mono (by omega)|(rw[HE.out,if_pos rfl];exact hown.mono (by omega)),hB0.trans ((hb1.trans (hb2.mono hb1.size)).mono (by omega))⟩
 ·have hz:(fieldC g (fldOf tk ls xs)!=0)=true:=by rw[bne_iff_ne];exact he
  have HE:=zh he
  clear he
  go_enter Tryz.func48,Tryz.ntmps48
  go_wp2_with (rw[←hW0];go_at_call 44;refine(CheckField_c a g tk ls A c xs _ HS.out HSF.out (HG.out.sx (Nat.le_refl _) (Sh.sx (by exact zsh))) (HK.out.sx (Sh.sx (by exact zsh))) (HF.out.sx (Nat.le_refl _) (Sh.sx (by exact zsh)))).mono ?_;rintro e w1 ⟨rfl,hb1⟩;(have hs1:Sh W0 w1:=by exact zsh);clear g0 g1 g2 g3 q0 q1 q2 qf0 qf1 qf2;(have j0:=(hs1.2.2 (w.heap.size) l0).trans K0.out);(obtain⟨g0,g1,g2,g3⟩:=cg4 j0);(have j1:=(hs1.2.2 (w.heap.size+1) l1).trans K1.out);(obtain⟨q0,qf0,q1,qf1,q2,qf2⟩:=cv3 j1);(have J1:=zh j1);clear j0 j1)
  go_ret2
  exact⟨_,rfl,by first|exact OwnS.nil_ _ _|(rw[if_neg HE.out];exact OwnS.nil_ _ _),hB0.trans (hb1.mono (by omega))⟩
end Go.Proofs.YtehnikhicnnnhaaGreatDoor
namespace Go.Proofs.YtehnikhicnnnhaaGreatDoor
def takE(g:Grd)(f:Fld)(n:ByteArray):Int:=if fieldC g f=0 then(if findG f n<0 then 10 else if standsG g (f.mir.getD (findG f n).toNat default)then 0 else 22)else fieldC g f
def delM(f:Fld)(i:Nat):Fld:= {f with mir:=f.mir.eraseIdx i}
def takF(g:Grd)(f:Fld)(n:ByteArray):Fld:=if takE g f n=0 then delM f (findG f n).toNat else fld0
theorem del_of(tk ls:Int)(xs ys:List MA)(i:Nat)(h:ys.map MA.m=xs.map MA.m):fldOf tk ls (ys.eraseIdx i)=delM (fldOf tk ls xs) i:=by
 unfold fldOf delM;simp only;rw[←h,List.eraseIdx_eq_take_drop_succ,List.eraseIdx_eq_take_drop_succ,List.map_append,List.map_take,List.map_drop]
end Go.Proofs.YtehnikhicnnnhaaGreatDoor
namespace Go.Proofs.YtehnikhicnnnhaaGreatDoor
open Go.RowKit
def dlN(g:Grd)(f:Fld)(n:Nat):Int:=if fieldC g f=0 then(n:Int)else 0
set_option maxRecDepth 100000 in
set_option maxHeartbeats 2000000 in
theorem Deadline_c(a:GA)(g:Grd)(tk ls:Int)(A:Option Addr)(c:Nat)(xs:List MA)(w:World)(hs:SmallG g)(hsf:SmallF xs)(hr:GridR w w.heap.size a g)(hkd:KindsAt w)(hf:FldR w w.heap.size A c xs)(n:Nat)(hn:fieldC g (fldOf tk ls xs)=0→n≤1000000∧darkG g (stepN g (fldOf tk ls xs) n)=true∧∀k<n,darkG g (stepN g (fldOf tk ls xs) k)=false):
 Calls Tryz.prog 68 #[(.agg #[.int .i64 g.blur,.slice a.pS g.sta.length a.cs,.slice a.pM g.mov.length a.cm,.slice a.pZ g.zon.length a.cz]),(.agg #[.int .i64 tk,.int .i64 ls,.slice A xs.length c])] w fun e w'=>e=.returned (.tuple #[.int .i64 (dlN g (fldOf tk ls xs) n),.int .i64 (fieldC g (fldOf tk ls xs))])∧Below w.heap.size w w':=by
 obtain⟨W0,hW0⟩:∃W0,W0=((w.alloc (.cells #[.int .i64 g.blur,.slice a.pS g.sta.length a.cs,.slice a.pM g.mov.length a.cm,.slice a.pZ g.zon.length a.cz] 38)).alloc (.cells #[.int .i64 tk,.int .i64 ls,.slice A xs.length c] 72)):=⟨_,rfl⟩
 have hsx:Sx w W0:=by rw[hW0];exact(((Sx.refl w).alloc _).alloc _)
 have hB0:Below w.heap.size w W0:=by rw[hW0];exact zbl
 have hsz:W0.heap.size=w.heap.size+2:=by rw[hW0];simp
 have k0:W0.heap[w.heap.size]? =some (.cells #[.int .i64 g.blur,.slice a.pS g.sta.length a.cs,.slice a.pM g.mov.length a.cm,.slice a.pZ g.zon.length a.cz] 38 (0,0)):=by rw[hW0];exact(Below.heap_alloc _ _ _ (by simp)).trans (heap_alloc_new w _)
 have k1:W0.heap[w.heap.size+1]? =some (.cells #[.int .i64 tk,.int .i64 ls,.slice A xs.length c] 72 (0,0)):=by rw[hW0];exact heap_two w _ _
 have HG:=zh (hr.sx (Nat.le_refl _) hsx)
 have HK:=zh (hkd.sx hsx)
 have HF:=zh (hf.sx (Nat.le_refl _) hsx)
 have HG0:=zh hr
 have HF0:=zh hf
 have hl:=hsf.n
 have HS:=zh hs
 have HSF:=zh hsf
 have K0:=zh k0
 have K1:=zh k1
 have l0:w.heap.size<W0.heap.size:=by omega
 have l1:w.heap.size+1<W0.heap.size:=by omega
 clear hr hkd hf hsx hs hsf
 (obtain⟨g0,g1,g2,g3⟩:=cg4 k0)
 (obtain⟨q0,qf0,q1,qf1,q2,qf2⟩:=cv3 k1)
 clear k0 k1
 have HN:=zh hn
 clear hn
 by_cases he:fieldC g (fldOf tk ls xs)=0
 ·have hz:(fieldC g (fldOf tk ls xs)!=0)=false:=by rw[bne_eq_false_iff_eq];exact he
  obtain⟨hok,hu,hof⟩:=fldOk he
  have HTK:=zh (fieldC_tick he)
  have HE:=zh he
  have HOF:=zh hof
  clear he hof
  obtain⟨hn1,hn2,hn3⟩:=HN.out HE.out
  have HN2:=zh hn2
  have HN3:=zh hn3
  have HTK2:=zh (show tk≤10000000 from HTK.out)
  have HST:=zh (fun k hk=>stepN_ok hok hu HOF.out k hk)
  clear hn2 hn3 HN
  go_enter Tryz.func68,Tryz.ntmps68
  go_wp2_with (first|(rw[←hW0];go_at_call 44;refine(CheckField_c a g tk ls A c xs _ HS.out HSF.out (HG.out.sx (Nat.le_refl _) (Sh.sx (by exact zsh))) (HK.out.sx (Sh.sx (by exact zsh))) (HF.out.sx (Nat.le_refl _) (Sh.sx (by exact zsh)))).mono ?_;rintro e w1 ⟨rfl,hb1⟩;(have hs1:Sh W0 w1:=by exact zsh);clear g0 g1 g2 g3 q0 q1 q2 qf0 qf1 qf2;(have j0:=(hs1.2.2 (w.heap.size) l0).trans K0.out);(obtain⟨g0,g1,g2,g3⟩:=cg4 j0);(have j1:=(hs1.2.2 (w.heap.size+1) l1).trans K1.out);(obtain⟨q0,qf0,q1,qf1,q2,qf2⟩:=cv3 j1);(have J1:=zh j1);clear j0 j1)|(go_at_call 116;refine(own_c tk ls A c xs _ hl HSF.out.way ((HF.out.belowB (w0:=W0) hb1 (Nat.le_refl _)).more hb1.size)).mono ?_;rintro e w2 ⟨A2,c2,ys,rfl,hys,hown,hsp,hb2⟩;(have HYS:=zh hys);(have HF2:=zh hown.fld);clear hys hown hsp;(have hB2:Below W0.heap.size W0 w2:=hb1.trans (hb2.mono hb1.size));(have hs2:Sh W0 w2:=⟨hB2.size,fun b o hlt=>hB2.cell (p:=⟨b,o,none⟩) hlt,fun b hlt=>hB2.block b hlt⟩);clear g0 g1 g2 g3 q0 q1 q2 qf0 qf1 qf2;(have j0:=(hs2.2.2 (w.heap.size) l0).trans K0.out);(obtain⟨g0,g1,g2,g3⟩:=cg4 j0);(have j1:=(hs2.2.2 (w.heap.size+1) l1).trans K1.out);(obtain⟨q0,qf0,q1,qf1,q2,qf2⟩:=cv3 j1);(have J2:=zh j1);clear j0 j1))
  have hws2:=hB2.size
  obtain⟨Wb,hWb⟩:∃Wb,Wb=w2.alloc (.cells #[.int .i64 tk,.int .i64 ls,.slice A2 ys.length c2] 72):=⟨_,rfl⟩
  rw[←hWb]
  have hBb:Below w2.heap.size w2 Wb:=by rw[hWb];exact zbl
  have yb:Wb.heap[w2.heap.size]? =some (.cells #[.int .i64 tk,.int .i64 ls,.slice A2 ys.length c2] 72 (0,0)):=by rw[hWb];exact heap_alloc_new _ _
  have hFb:FldR Wb Wb.heap.size A2 c2 ys:=(HF2.out.belowB (w0:=w2) hBb (Nat.le_refl _)).more hBb.size
  have HYB:=zh yb
  have HFB:=zh hFb
  have hzb:Wb.heap.size=w2.heap.size+1:=by rw[hWb];simp
  have hGb:GridR Wb Wb.heap.size a g:=(HG.out.belowB (w0:=W0) (hB2.trans (hBb.mono hws2)) (Nat.le_refl _)).more (by omega)
  have HGB:=zh hGb
  have ql0:w.heap.size<w2.heap.size:=by omega
  have i0:=(hBb.cell (p:=⟨w.heap.size,0,none⟩) ql0).trans g0
  have i1:=(hBb.cell (p:=⟨w.heap.size,1,none⟩) ql0).trans g1
  have i2:=(hBb.cell (p:=⟨w.heap.size,2,none⟩) ql0).trans g2
  have i3:=(hBb.cell (p:=⟨w.heap.size,3,none⟩) ql0).trans g3
  have hbwb:Below w.heap.size w Wb:=hB0.trans ((hB2.trans (hBb.mono hws2)).mono (by omega))
  have ql1:w.heap.size<Wb.heap.size:=by omega
  clear hWb yb hFb hGb g0 g1 g2 g3 q0 q1 q2 qf0 qf1 qf2
  go_loopw [7,8] (fun v p wr=>∃(k xb ck:Nat) (Ak:Option Addr) (zs:List MA),k≤n∧v=.int .i64 k∧p=.pointer (some ⟨xb,0,none⟩)∧w2.heap.size≤xb∧xb<wr.heap.size∧Hid (wr.heap[xb]? =some (.cells #[.int .i64 (tk+k),.int .i64 ls,.slice Ak zs.length ck] 72 (0,0)))∧Hid (fldOf (tk+k) ls zs=stepN g (fldOf tk ls xs) k)∧Hid (FldR wr wr.heap.size Ak ck zs)∧Below w2.heap.size Wb wr) (fun v _ _=>n-(intOf v).toNat)
  case atStart=>exact⟨0,w2.heap.size,c2,A2,ys,Nat.zero_le _,rfl,rfl,Nat.le_refl _,by omega,zh (by simpa using HYB.out),zh (by unfold fldOf stepN;simp[HYS.out]),HFB,Below.refl _ _⟩
  case round=>
   obtain⟨k,xb,ck,Ak,zs,hk,rfl,rfl,hxb,hxl,hxk,hzf,hzr,hb⟩:=hrel
   have hbs:=hb.size
   have hst:=HST.out k (by have:=HTK2.out;show tk+(k:Int)≤_;omega)
   rw[←hzf.out]at hst
   have HSK:=zh hst.1
   have hzl:zs.length≤1000:=by have:=hst.1.n;simp[fldOf]at this;omega
   have hdk:(zs.all fun x=>standsG g x.m)=darkG g (stepN g (fldOf tk ls xs) k):=by rw[←hzf.out,darkG_eq]
   have kx:=hxk.out
   (obtain⟨q0,qf0,q1,qf1,q2,qf2⟩:=cv3 kx)
   have e0:=(hb.cell (p:=⟨w.heap.size,0,none⟩) ql0).trans i0
   have e1:=(hb.cell (p:=⟨w.heap.size,1,none⟩) ql0).trans i1
   have e2:=(hb.cell (p:=⟨w.heap.size,2,none⟩) ql0).trans i2
   have e3:=(hb.cell (p:=⟨w.heap.size,3,none⟩) ql0).trans i3
   have HGK:=zh (show GridR wr wr.heap.size a g from(HG0.out.belowB (w0:=w) (hbwb.trans (hb.mono (by omega))) (Nat.le_refl _)).more (by omega))
   have hwl:w.heap.size<wr.heap.size:=by omega
   clear i0 i1 i2 i3 kx hst
   by_cases hkn:k<n
   ·have hd:(zs.all fun x=>standsG g x.m)=false:=hdk.trans (HN3.out k hkn)
    have HD:=zh hd
    have htk3:tk+(k:Int)<20000000:=by have:=HTK2.out;omega
    have hw1:IntKind.i64.wrap ((k:Int)+1)=(k:Int)+1:=IntWalk.i64_in _ (by omega)
    clear hd hdk
    go_wp2_with (first|(go_at_call 128;refine(isDark_c a g (tk+k) ls Ak ck zs _ hok hzl HSK.out.loc HGK.out hzr.out).mono ?_;rintro e w3 ⟨rfl,hb3⟩;rw[HD.out];(have kx:=(hb3.block xb hxl).trans hxk.out);clear q0 q1 q2 qf0 qf1 qf2;(obtain⟨q0,qf0,q1,qf1,q2,qf2⟩:=cv3 kx);clear kx;(have i0:=(hb3.cell (p:=⟨w.heap.size,0,none⟩) hwl).trans e0);(have i1:=(hb3.cell (p:=⟨w.heap.size,1,none⟩) hwl).trans e1);(have i2:=(hb3.cell (p:=⟨w.heap.size,2,none⟩) hwl).trans e2);(have i3:=(hb3.cell (p:=⟨w.heap.size,3,none⟩) hwl).trans e3);clear e0 e1 e2 e3;(have hbs3:=hb3.size);(have hwl3:w.heap.size<w3.heap.size:=by omega);(have hB3:Below wr.heap.size wr (w3.alloc (.cells #[.int .i64 (tk+k),.int .i64 ls,.slice Ak zs.length ck] 72)):=by exact zbl))|(go_at_call 118;refine(stepped_c a g (tk+k) ls Ak ck zs _ hok hu HSK.out htk3 ((HGK.out.belowB (w0:=wr) hB3 (Nat.le_refl _)).more hB3.size) ((hzr.out.belowB (w0:=wr) hB3 (Nat.le_refl _)).more hB3.size)).mono ?_;rintro e w4 ⟨A4,c4,us,rfl,hus,hf4,hfr4,hb4⟩;(have HUS:=zh hus);(have HF4:=zh hf4);(have HFR4:=zh hfr4);clear hus hf4 hfr4;(have k4:=(hb4.block w3.heap.size (by simp)).trans (heap_alloc_new w3 _));(obtain⟨r0,rf0,r1,rf1,r2,rf2⟩:=cv3 k4);(have HK4:=zh k4);clear k4))
    go_roundw
    case rel=>
     have hbs4:=hb4.size
     simp at hbs4
     refine⟨k+1,w3.heap.size,c4,A4,us,by omega,by go_num,rfl,by omega,by simp;omega,zh ?_,zh ?_,zh ?_,?_⟩
     ·rw[set3_block HK4.out]
      simp[Int.add_assoc]
     ·show fldOf (tk+((k+1:Nat):Int)) ls us=stepG g (stepN g (fldOf tk ls xs) k)
      rw[←hzf.out,←HUS.out]
      simp[Int.add_assoc]
     ·exact(HF4.out.set3 _ _ _ (HFR4.out.imp fun d hd e=>by simp at hd;omega)).more (by simp)
     ·exact Below.set3 ((hb.trans ((hB3.trans (hb4.mono hB3.size)).mono (by omega))).mono (by omega)) (by omega) _ _ _
    case measure=>simp[intOf];omega
   ·have hkn2:k=n:=by omega
    have hd:(zs.all fun x=>standsG g x.m)=true:=hdk.trans (by rw[hkn2];exact HN2.out)
    have HD:=zh hd
    have HKN:=zh hkn2
    clear hd hdk hkn2 hkn
    go_wp2_with (go_at_call 128;refine(isDark_c a g (tk+k) ls Ak ck zs _ hok hzl HSK.out.loc HGK.out hzr.out).mono ?_;rintro e w3 ⟨rfl,hb3⟩;rw[HD.out])
    go_ret2
    exact⟨by rw[HE.out,HKN.out];unfold dlN;rw[if_pos HE.out];rfl,hbwb.trans ((hb.trans (hb3.mono (by omega))).mono (by omega))⟩
 ·have hz:(fieldC g (fldOf tk ls xs)!=0)=true:=by rw[bne_iff_ne];exact he
  have HE:=zh he
  clear he
  go_enter Tryz.func68,Tryz.ntmps68
  go_wp2_with (rw[←hW0];go_at_call 44;refine(CheckField_c a g tk ls A c xs _ HS.out HSF.out (HG.out.sx (Nat.le_refl _) (Sh.sx (by exact zsh))) (HK.out.sx (Sh.sx (by exact zsh))) (HF.out.sx (Nat.le_refl _) (Sh.sx (by exact zsh)))).mono ?_;rintro e w1 ⟨rfl,hb1⟩;(have hs1:Sh W0 w1:=by exact zsh);clear g0 g1 g2 g3 q0 q1 q2 qf0 qf1 qf2;(have j0:=(hs1.2.2 (w.heap.size) l0).trans K0.out);(obtain⟨g0,g1,g2,g3⟩:=cg4 j0);(have j1:=(hs1.2.2 (w.heap.size+1) l1).trans K1.out);(obtain⟨q0,qf0,q1,qf1,q2,qf2⟩:=cv3 j1);(have J1:=zh j1);clear j0 j1)
  go_ret2
  exact⟨by unfold dlN;rw[if_neg HE.out];rfl,hB0.trans (hb1.mono (by omega))⟩
end Go.Proofs.YtehnikhicnnnhaaGreatDoor
/- Heard. | Run. -/
import Derived.Test.YtehnikhicnnnhaaGreatDoorPa21
import Derived.Test.YtehnikhicnnnhaaGreatDoorPa22
namespace Go.Proofs.YtehnikhicnnnhaaGreatDoor
open Go.RowKit
def hrdE(g:Grd)(f:Fld)(o:Ord):Int:=if fieldC g f=0 then heardE g f o else fieldC g f
def hrdF(g:Grd)(f:Fld)(o:Ord):Fld:=if hrdE g f o=0 then heardG g f o else fld0
set_option maxRecDepth 100000 in
set_option maxHeartbeats 4000000 in
theorem Heard_c(a:GA)(g:Grd)(tk ls:Int)(A:Option Addr)(c:Nat)(xs:List MA)(o:Ord)(w:World)(hs:SmallG g)(hsf:SmallF xs)(hr:GridR w w.heap.size a g)(hkd:KindsAt w)(hf:FldR w w.heap.size A c xs):
 Calls Tryz.prog 38 #[(.agg #[.int .i64 g.blur,.slice a.pS g.sta.length a.cs,.slice a.pM g.mov.length a.cm,.slice a.pZ g.zon.length a.cz]),(.agg #[.int .i64 tk,.int .i64 ls,.slice A xs.length c]),.agg #[.string o.mir,.string o.sta,.bool o.lost]] w fun e w'=>RetF (hrdF g (fldOf tk ls xs) o) (hrdE g (fldOf tk ls xs) o) w e w':=by
 obtain⟨W0,hW0⟩:∃W0,W0=((((w.alloc (.cells #[.int .i64 g.blur,.slice a.pS g.sta.length a.cs,.slice a.pM g.mov.length a.cm,.slice a.pZ g.zon.length a.cz] 38)).alloc (.cells #[.int .i64 tk,.int .i64 ls,.slice A xs.length c] 72)).alloc (.cells #[.string o.mir,.string o.sta,.bool o.lost] 76)).alloc (.cells #[.int .i64 0,.int .i64 0,.slice none 0 0] 72)):=⟨_,rfl⟩
 have hsx:Sx w W0:=by rw[hW0];exact(((((Sx.refl w).alloc _).alloc _).alloc _).alloc _)
 have hB0:Below w.heap.size w W0:=by rw[hW0];exact zbl
 have hsz:W0.heap.size=w.heap.size+4:=by rw[hW0];simp
 have k0:W0.heap[w.heap.size]? =some (.cells #[.int .i64 g.blur,.slice a.pS g.sta.length a.cs,.slice a.pM g.mov.length a.cm,.slice a.pZ g.zon.length a.cz] 38 (0,0)):=by rw[hW0];exact heap4_0 _ _ _ _ _
 have k1:W0.heap[w.heap.size+1]? =some (.cells #[.int .i64 tk,.int .i64 ls,.slice A xs.length c] 72 (0,0)):=by rw[hW0];exact heap4_1 _ _ _ _ _
 have k2:W0.heap[w.heap.size+1+1]? =some (.cells #[.string o.mir,.string o.sta,.bool o.lost] 76 (0,0)):=by rw[hW0];exact heap4_2 _ _ _ _ _
 have k3:W0.heap[w.heap.size+1+1+1]? =some (.cells #[.int .i64 0,.int .i64 0,.slice none 0 0] 72 (0,0)):=by rw[hW0];exact heap4_3 _ _ _ _ _
 have HG:=zh (hr.sx (Nat.le_refl _) hsx)
 have HK:=zh (hkd.sx hsx)
 have HF:=zh (hf.sx (Nat.le_refl _) hsx)
 have HG0:=zh hr
 have HF0:=zh hf
 have hl:=hsf.n
 have HS:=zh hs
 have HSF:=zh hsf
 have K0:=zh k0
 have K1:=zh k1
 have K2:=zh k2
 have K3:=zh k3
 have l0:w.heap.size<W0.heap.size:=by omega
 have l1:w.heap.size+1<W0.heap.size:=by omega
 have l2:w.heap.size+1+1<W0.heap.size:=by omega
 have l3:w.heap.size+1+1+1<W0.heap.size:=by omega
 clear hr hkd hf hsx hs hsf
 (obtain⟨g0,g1,g2,g3⟩:=cg4 k0)
 (obtain⟨q0,qf0,q1,qf1,q2,qf2⟩:=cv3 k1)
 (obtain⟨o0,of0,o1,of1,o2,of2⟩:=cv3 k2)
 (obtain⟨d0,df0,d1,df1,d2,df2⟩:=cv3 k3)
 clear k0 k1 k2 k3
 by_cases he:fieldC g (fldOf tk ls xs)=0
 ·have hz:(fieldC g (fldOf tk ls xs)!=0)=false:=by rw[bne_eq_false_iff_eq];exact he
  obtain⟨hok,hu,hof⟩:=fldOk he
  have HTK:=zh (fieldC_tick he)
  have HE:=zh he
  have HOF:=zh hof
  clear he hof
  go_enter Tryz.func38,Tryz.ntmps38
  go_wp2_with (first|(rw[←hW0];go_at_call 44;refine(CheckField_c a g tk ls A c xs _ HS.out HSF.out (HG.out.sx (Nat.le_refl _) (Sh.sx (by exact zsh))) (HK.out.sx (Sh.sx (by exact zsh))) (HF.out.sx (Nat.le_refl _) (Sh.sx (by exact zsh)))).mono ?_;rintro e w1 ⟨rfl,hb1⟩;(have hs1:Sh W0 w1:=by exact zsh);clear g0 g1 g2 g3 q0 q1 q2 qf0 qf1 qf2 o0 o1 o2 of0 of1 of2 d0 d1 d2 df0 df1 df2;(have j0:=(hs1.2.2 (w.heap.size) l0).trans K0.out);(obtain⟨g0,g1,g2,g3⟩:=cg4 j0);(have j1:=(hs1.2.2 (w.heap.size+1) l1).trans K1.out);(obtain⟨q0,qf0,q1,qf1,q2,qf2⟩:=cv3 j1);(have j2:=(hs1.2.2 (w.heap.size+1+1) l2).trans K2.out);(obtain⟨o0,of0,o1,of1,o2,of2⟩:=cv3 j2);(have j3:=(hs1.2.2 (w.heap.size+1+1+1) l3).trans K3.out);(obtain⟨d0,df0,d1,df1,d2,df2⟩:=cv3 j3);(have J1:=zh j3);clear j0 j1 j2 j3))
  have HW1:=zh hs1
  have hB1:Below W0.heap.size W0 w1:=⟨hb1.os,hb1.tape,hb1.output,hb1.size,hb1.block⟩
  have hw01:W0.heap.size≤w1.heap.size:=hs1.1
  clear g0 g1 g2 g3 q0 q1 q2 qf0 qf1 qf2 o0 o1 o2 of0 of1 of2 d0 d1 d2 df0 df1 df2
  (have j0:=((Sh.refl W0).2.2 (w.heap.size) l0).trans K0.out);(obtain⟨g0,g1,g2,g3⟩:=cg4 j0);(have j1:=((Sh.refl W0).2.2 (w.heap.size+1) l1).trans K1.out);(obtain⟨q0,qf0,q1,qf1,q2,qf2⟩:=cv3 j1);(have j2:=((Sh.refl W0).2.2 (w.heap.size+1+1) l2).trans K2.out);(obtain⟨o0,of0,o1,of1,o2,of2⟩:=cv3 j2);(have j3:=((Sh.refl W0).2.2 (w.heap.size+1+1+1) l3).trans K3.out);(obtain⟨d0,df0,d1,df1,d2,df2⟩:=cv3 j3);clear j0 j1 j2 j3
  go_cut [9,10] (fun s9 s10 wx=>∃(hb:Nat) (A5:Option Addr) (c5:Nat) (zs:List MA),s9=.pointer (some ⟨hb,0,none⟩)∧s10=.int .i64 (heardE g (fldOf tk ls xs) o)∧W0.heap.size≤hb∧hb<wx.heap.size∧wx.heap[hb]? =some (.cells #[.int .i64 tk,.int .i64 ls,.slice A5 zs.length c5] 72 (0,0))∧fldOf tk ls zs=heardG g (fldOf tk ls xs) o∧FldR wx wx.heap.size A5 c5 zs∧Fresh W0.heap.size A5 zs∧Sh W0 wx∧Below W0.heap.size W0 wx)
  case first=>
   go_region_held3 (SHd W0) ((refine Sh.goal ?_;exact zsh)) (first|(go_at_call 116;refine(own_c tk ls A c xs _ hl HSF.out.way (HF.out.sx (Nat.le_refl _) (Sh.sx (by exact zsh)))).mono ?_;rintro e w2 ⟨A2,c2,ys,rfl,hys,hown,hsp,hb⟩;(obtain⟨hcc,hff⟩:=bcell hb;have hzz:=hb.size;(try simp at hzz);(try have z1:W0.heap.size+1<w2.heap.size:=by omega);(try have z2:W0.heap.size+2<w2.heap.size:=by omega);(try have z3:W0.heap.size+3<w2.heap.size:=by omega);(try have z4:W0.heap.size+4<w2.heap.size:=by omega);(try have z5:W0.heap.size+5<w2.heap.size:=by omega);(try have z0:W0.heap.size<w2.heap.size:=by omega);(try(have zy1:=Nat.lt_of_succ_le hzz;(try(have zy2:=Nat.lt_of_succ_lt zy1;(try have zy3:=Nat.lt_of_succ_lt zy2))))));(have hb2:=hb);clear hb;(have hfr2:=hown.fresh hsp);(have HFR2:=zh hfr2);(have HYE:=zh (show fldOf tk ls ys=fldOf tk ls xs by unfold fldOf;rw[hys]));(have HF2:=zh hown.fld);clear hys hown hsp hfr2)|(go_at_call 115;refine(heard_c a g tk ls A2 c2 ys o _ hok hu (by rw[HYE.out];exact HOF.out) (HG.out.sx (Nat.le_refl _) (Sh.sx (by exact zsh))) ((HF2.out.belowB (w0:=w2) (by exact zbl) (Nat.le_refl _)).more (Bl.lt (by exact zbl)))).mono ?_;rintro e w3 ⟨A3,c3,zs,rfl,hzf,hf3,hbk,hb⟩;rw[HYE.out]at hzf;rw[HYE.out];(have HZF:=zh hzf);(have HF3:=zh hf3);(have HBK:=zh hbk);clear hzf hf3 hbk;(obtain⟨hcc,hff⟩:=bcell hb;have hzz:=hb.size;(try simp at hzz);(try have z1:W0.heap.size+1<w3.heap.size:=by omega);(try have z2:W0.heap.size+2<w3.heap.size:=by omega);(try have z3:W0.heap.size+3<w3.heap.size:=by omega);(try have z4:W0.heap.size+4<w3.heap.size:=by omega);(try have z5:W0.heap.size+5<w3.heap.size:=by omega);(try have z0:W0.heap.size<w3.heap.size:=by omega);(try(have zy1:=Nat.lt_of_succ_le hzz;(try(have zy2:=Nat.lt_of_succ_lt zy1;(try have zy3:=Nat.lt_of_succ_lt zy2))))));(have hb3:=hb);clear hb))
   all_goals
    go_wp2_with fail
    go_meet
   all_goals first
    |(refine⟨w3.heap.size,A3,c3,zs,rfl,rfl,?_⟩
      have hbl:Blks (fun d=>W0.heap.size≤d) A3 zs:=HBK.out _ (fun d hd=>by first|omega|(simp at hd;omega)) (HFR2.out.imp fun d hd=>by first|omega|(simp at hd;omega))
      exact⟨by omega,by simp,heap_alloc_new _ _,HZF.out,(HF3.out.belowB (w0:=w3) (by exact zbl) (Nat.le_refl _)).more (by simp),hbl,by exact zsh,by exact zbl⟩)
    |(refine⟨w2.heap.size,A3,c3,zs,rfl,rfl,?_⟩
      have hblk:w3.heap[w2.heap.size]? =some (.cells #[.int .i64 0,.int .i64 0,.slice none 0 0] 72 (0,0)):=(hb3.block w2.heap.size (by first|assumption|omega|(simp;done)|(simp;omega))).trans (heap_alloc_new _ _)
      have hbl:Blks (fun d=>d≠w2.heap.size∧W0.heap.size≤d) A3 zs:=HBK.out _ (fun d hd=>by first|(constructor<;>omega)|(simp at hd;constructor<;>omega)) ((HFR2.out.and HF2.out.blks).imp fun d hd=>by(have h1:=hd.1);(have h2:=hd.2);simp at h1 h2;constructor<;>omega)
      exact⟨by omega,by first|omega|(simp;omega),set3_block hblk,HZF.out,(HF3.out.set3 _ _ _ (hbl.imp fun d hd=>hd.1)).more (by simp),hbl.imp fun d hd=>hd.2,by exact zsh,by exact zbl⟩)
    |(refine⟨w1.heap.size,A3,c3,zs,rfl,rfl,?_⟩
      have hblk:w3.heap[w1.heap.size]? =some (.cells #[.int .i64 0,.int .i64 0,.slice none 0 0] 72 (0,0)):=(hb3.block w1.heap.size (by first|assumption|omega|(simp;done)|(simp;omega))).trans ((hb2.block w1.heap.size (by first|assumption|omega|(simp;done)|(simp;omega))).trans (heap_alloc_new _ _))
      have hbl:Blks (fun d=>d≠w1.heap.size∧W0.heap.size≤d) A3 zs:=HBK.out _ (fun d hd=>by first|(constructor<;>omega)|(simp at hd;constructor<;>omega)) (HFR2.out.imp fun d hd=>by simp at hd;constructor<;>omega)
      exact⟨by omega,by first|omega|(simp;omega),set3_block hblk,HZF.out,(HF3.out.set3 _ _ _ (hbl.imp fun d hd=>hd.1)).more (by simp),hbl.imp fun d hd=>hd.2,by exact zsh,by exact zbl⟩)
   all_goals trace_state
  case rest=>
   obtain⟨hb,A5,c5,zs,rfl,rfl,hhb,hhl,hbk,hzf,hf5,hfr5,hs5,hbw5⟩:=hcut
   have HF5:=zh hf5
   have HFR5:=zh hfr5
   have HZF:=zh hzf
   clear hf5 hfr5 hzf g0 g1 g2 g3 q0 q1 q2 qf0 qf1 qf2 o0 o1 o2 of0 of1 of2 d0 d1 d2 df0 df1 df2
   (have j0:=(hs5.2.2 (w.heap.size) l0).trans K0.out);(obtain⟨g0,g1,g2,g3⟩:=cg4 j0);(have j1:=(hs5.2.2 (w.heap.size+1) l1).trans K1.out);(obtain⟨q0,qf0,q1,qf1,q2,qf2⟩:=cv3 j1);(have j2:=(hs5.2.2 (w.heap.size+1+1) l2).trans K2.out);(obtain⟨o0,of0,o1,of1,o2,of2⟩:=cv3 j2);(have j3:=(hs5.2.2 (w.heap.size+1+1+1) l3).trans K3.out);(obtain⟨d0,df0,d1,df1,d2,df2⟩:=cv3 j3);(have J5:=zh j3);clear j0 j1 j2 j3
   (obtain⟨z0,zf0,z1,zf1,z2,zf2⟩:=cv3 hbk)
   clear hbk
   have hbc:Below w.heap.size w wc:=hB0.trans (hbw5.mono (by omega))
   have hw0c:=hs5.1
   have hheq:hrdE g (fldOf tk ls xs) o=heardE g (fldOf tk ls xs) o:=by unfold hrdE;rw[if_pos HE.out]
   by_cases hx:heardE g (fldOf tk ls xs) o=0
   ·have hz2:(heardE g (fldOf tk ls xs) o !=0)=false:=by rw[bne_eq_false_iff_eq];exact hx
    have HEE:=zh (hheq.trans hx)
    clear hheq hx
    go_wp2_with fail
    refine bodyPost_ret (Tryz.res_fld2 rfl _ _ rfl (set3_block J5.out)) rfl ?_
    refine⟨tk,ls,A5,c5,zs,by rw[HEE.out];rfl,by unfold hrdF;rw[if_pos HEE.out];exact HZF.out,?_,Below.set3 hbc (by omega) _ _ _,HFR5.out.imp fun d hd=>by omega⟩
    exact(HF5.out.set3 _ _ _ (HFR5.out.imp fun d hd e=>by omega)).more (by simp)
   ·have hz2:(heardE g (fldOf tk ls xs) o !=0)=true:=by rw[bne_iff_ne];exact hx
    have HEE:=zh hheq
    have HX:=zh hx
    clear hheq hx
    go_wp2_with fail
    refine bodyPost_ret (Tryz.res_fld2 rfl _ _ rfl (set3_block J5.out)) rfl ?_
    exact⟨0,0,none,0,[],by rw[HEE.out];rfl,by unfold hrdF;rw[if_neg (by rw[HEE.out];exact HX.out)];rfl,FldR.nil_ _ _,Below.set3 hbc (by omega) _ _ _,blks_nil⟩
 ·have hz:(fieldC g (fldOf tk ls xs)!=0)=true:=by rw[bne_iff_ne];exact he
  have HE:=zh he
  clear he
  go_enter Tryz.func38,Tryz.ntmps38
  go_wp2_with (rw[←hW0];go_at_call 44;refine(CheckField_c a g tk ls A c xs _ HS.out HSF.out (HG.out.sx (Nat.le_refl _) (Sh.sx (by exact zsh))) (HK.out.sx (Sh.sx (by exact zsh))) (HF.out.sx (Nat.le_refl _) (Sh.sx (by exact zsh)))).mono ?_;rintro e w1 ⟨rfl,hb1⟩;(have hs1:Sh W0 w1:=by exact zsh);clear g0 g1 g2 g3 q0 q1 q2 qf0 qf1 qf2 o0 o1 o2 of0 of1 of2 d0 d1 d2 df0 df1 df2;(have j0:=(hs1.2.2 (w.heap.size) l0).trans K0.out);(obtain⟨g0,g1,g2,g3⟩:=cg4 j0);(have j1:=(hs1.2.2 (w.heap.size+1) l1).trans K1.out);(obtain⟨q0,qf0,q1,qf1,q2,qf2⟩:=cv3 j1);(have j2:=(hs1.2.2 (w.heap.size+1+1) l2).trans K2.out);(obtain⟨o0,of0,o1,of1,o2,of2⟩:=cv3 j2);(have j3:=(hs1.2.2 (w.heap.size+1+1+1) l3).trans K3.out);(obtain⟨d0,df0,d1,df1,d2,df2⟩:=cv3 j3);(have J1:=zh j3);clear j0 j1 j2 j3)
  have hheq:=zh (show hrdE g (fldOf tk ls xs) o=fieldC g (fldOf tk ls xs) by unfold hrdE;rw[if_neg HE.out])
  refine bodyPost_ret (Tryz.res_fld2 rfl _ _ rfl (set3_block J1.out)) rfl ?_
  exact⟨0,0,none,0,[],by first|rfl|(rw[hheq.out];rfl),by first|rfl|(rw[hrdF,hheq.out,if_neg HE.out];rfl),FldR.nil_ _ _,Below.set3 (hB0.trans (hb1.mono (by omega))) (by omega) _ _ _,blks_nil⟩
structure RA where
 os:List Ord
 A:Option Addr
 c:Nat
def encR(x:RA):List Value:= [.slice x.A x.os.length x.c]
def encO(o:Ord):List Value:= [.string o.mir,.string o.sta,.bool o.lost]
structure RndR(w:World)(B:Nat)(A:Option Addr)(rs:List RA):Prop where
 row:Rw w B 1 A (rs.map encR)
 each:∀x∈rs,Rw w B 3 x.A (x.os.map encO)
theorem RndR.belowB{w w' w0:World}{B:Nat}{A:Option Addr}{rs:List RA}(h:RndR w B A rs)(hb:Below w0.heap.size w w')(hB:B≤w0.heap.size):RndR w' B A rs:=⟨Rw.belowB h.row hb hB,fun x hx=>Rw.belowB (h.each x hx) hb hB⟩
def runE(g:Grd)(f:Fld)(n:Nat):Int:=firstErr [fieldC g f,whn (decide ((256:Int)<n)) 5,whn (decide (10000000-(n:Int)<f.tick)) 3]
def runF(g:Grd)(f:Fld)(rs:List (List Ord)):Fld:=if runE g f rs.length=0 then runG g f rs else fld0
set_option maxRecDepth 100000 in
set_option maxHeartbeats 4000000 in
theorem Run_c(a:GA)(g:Grd)(tk ls:Int)(A:Option Addr)(c:Nat)(xs:List MA)(RA_:Option Addr)(rc:Nat)(rs:List RA)(w:World)(hs:SmallG g)(hsf:SmallF xs)(hr:GridR w w.heap.size a g)(hkd:KindsAt w)(hf:FldR w w.heap.size A c xs)(hrn:rs.length≤1000)(hon:∀x∈rs,x.os.length≤1000)(hrr:RndR w w.heap.size RA_ rs):
 Calls Tryz.prog 46 #[(.agg #[.int .i64 g.blur,.slice a.pS g.sta.length a.cs,.slice a.pM g.mov.length a.cm,.slice a.pZ g.zon.length a.cz]),(.agg #[.int .i64 tk,.int .i64 ls,.slice A xs.length c]),.slice RA_ rs.length rc] w fun e w'=>RetF (runF g (fldOf tk ls xs) (rs.map RA.os)) (runE g (fldOf tk ls xs) rs.length) w e w':=by
 obtain⟨W0,hW0⟩:∃W0,W0=(((w.alloc (.cells #[.int .i64 g.blur,.slice a.pS g.sta.length a.cs,.slice a.pM g.mov.length a.cm,.slice a.pZ g.zon.length a.cz] 38)).alloc (.cells #[.int .i64 tk,.int .i64 ls,.slice A xs.length c] 72)).alloc (.cells #[.int .i64 0,.int .i64 0,.slice none 0 0] 72)):=⟨_,rfl⟩
 have hsx:Sx w W0:=by rw[hW0];exact((((Sx.refl w).alloc _).alloc _).alloc _)
 have hB0:Below w.heap.size w W0:=by rw[hW0];exact zbl
 have hsz:W0.heap.size=w.heap.size+3:=by rw[hW0];simp
 have k0:W0.heap[w.heap.size]? =some (.cells #[.int .i64 g.blur,.slice a.pS g.sta.length a.cs,.slice a.pM g.mov.length a.cm,.slice a.pZ g.zon.length a.cz] 38 (0,0)):=by rw[hW0];exact heap_fst _ _ _ _
 have k1:W0.heap[w.heap.size+1]? =some (.cells #[.int .i64 tk,.int .i64 ls,.slice A xs.length c] 72 (0,0)):=by rw[hW0];exact heap_mid _ _ _ _
 have k2:W0.heap[w.heap.size+1+1]? =some (.cells #[.int .i64 0,.int .i64 0,.slice none 0 0] 72 (0,0)):=by rw[hW0];exact heap_lst _ _ _ _
 have HG:=zh (hr.sx (Nat.le_refl _) hsx)
 have HK:=zh (hkd.sx hsx)
 have HF:=zh (hf.sx (Nat.le_refl _) hsx)
 have HG0:=zh hr
 have HF0:=zh hf
 have hl:=hsf.n
 have HS:=zh hs
 have HSF:=zh hsf
 have K0:=zh k0
 have K1:=zh k1
 have K2:=zh k2
 have l0:w.heap.size<W0.heap.size:=by omega
 have l1:w.heap.size+1<W0.heap.size:=by omega
 have l2:w.heap.size+1+1<W0.heap.size:=by omega
 clear hr hkd hf hsx hs hsf
 (obtain⟨g0,g1,g2,g3⟩:=cg4 k0)
 (obtain⟨q0,qf0,q1,qf1,q2,qf2⟩:=cv3 k1)
 (obtain⟨d0,df0,d1,df1,d2,df2⟩:=cv3 k2)
 clear k0 k1 k2
 have HRR:=zh hrr
 have HON:=zh hon
 have HEQ:=zh (show runE g (fldOf tk ls xs) rs.length=firstErr [fieldC g (fldOf tk ls xs),whn (decide ((256:Int)<rs.length)) 5,whn (decide (10000000-(rs.length:Int)<tk)) 3]from rfl)
 have hwr:IntKind.i64.wrap (10000000-(rs.length:Int))=10000000-(rs.length:Int):=IntWalk.i64_in _ (by omega)
 clear hrr hon
 go_enter Tryz.func46,Tryz.ntmps46
 go_wp2_with fail
 rw[←hW0]
 clear hW0 hsz
 go_cut [8] (fun s wx=>s=.int .i64 (firstErr [fieldC g (fldOf tk ls xs),whn (decide ((256:Int)<rs.length)) 5,whn (decide (10000000-(rs.length:Int)<tk)) 3])∧Sh W0 wx∧Below W0.heap.size W0 wx)
 case first=>
  go_region_held3 (SHd W0) ((refine Sh.goal ?_;exact zsh)) (first|(go_at_call 44;refine(CheckField_c a g tk ls A c xs _ HS.out HSF.out (HG.out.sx (Nat.le_refl _) (Sh.sx (by exact zsh))) (HK.out.sx (Sh.sx (by exact zsh))) (HF.out.sx (Nat.le_refl _) (Sh.sx (by exact zsh)))).mono ?_;rintro e w1 ⟨rfl,hb1⟩)|(go_at_call 104;refine(when_c _ _ _).mono ?_;rintro e w' ⟨rfl,rfl⟩)|(go_at_call 103;refine(first_c _ [fieldC g (fldOf tk ls xs),whn (decide ((256:Int)<rs.length)) 5,whn (decide (10000000-(rs.length:Int)<tk)) 3] _ ?_ ?_).mono ?_;(focus simp);(focus first|(simp[CellsAt];done)|(simp[CellsAt,cells_new]));rintro e w' ⟨rfl,rfl⟩))
  all_goals
   go_wp2_with fail
   go_meet
   exact⟨rfl,by exact zsh,by exact zbl⟩
 case rest=>
  obtain⟨rfl,hsh,hbw⟩:=hcut
  have hbc:Below w.heap.size w wc:=hB0.trans (hbw.mono (by omega))
  clear g0 g1 g2 g3 q0 q1 q2 qf0 qf1 qf2 d0 d1 d2 df0 df1 df2
  (have j0:=(hsh.2.2 (w.heap.size) l0).trans K0.out);(obtain⟨g0,g1,g2,g3⟩:=cg4 j0);(have j1:=(hsh.2.2 (w.heap.size+1) l1).trans K1.out);(obtain⟨q0,qf0,q1,qf1,q2,qf2⟩:=cv3 j1);(have j2:=(hsh.2.2 (w.heap.size+1+1) l2).trans K2.out);(obtain⟨d0,df0,d1,df1,d2,df2⟩:=cv3 j2);(have J2:=zh j2);clear j0 j1 j2
  have hs2:=hsh.1
  by_cases he:firstErr [fieldC g (fldOf tk ls xs),whn (decide ((256:Int)<rs.length)) 5,whn (decide (10000000-(rs.length:Int)<tk)) 3]=0
  ·have hz:(firstErr [fieldC g (fldOf tk ls xs),whn (decide ((256:Int)<rs.length)) 5,whn (decide (10000000-(rs.length:Int)<tk)) 3]!=0)=false:=by rw[bne_eq_false_iff_eq];exact he
   have hfc:fieldC g (fldOf tk ls xs)=0:=firstErr_zero he _ (by simp)
   have htk:whn (decide (10000000-(rs.length:Int)<tk)) 3=0:=firstErr_zero he _ (by simp)
   obtain⟨hok,hu,hof⟩:=fldOk hfc
   have HOF:=zh hof
   have htk2:tk+(rs.length:Int)≤10000000:=by
    have h2:decide (10000000-(rs.length:Int)<tk)=false:=whn_zero (n:=3) htk (by decide)
    have h3:¬(10000000-(rs.length:Int)<tk):=by simpa using h2
    omega
   have HTK:=zh htk2
   have HRE:=zh (show runE g (fldOf tk ls xs) rs.length=0 from HEQ.out.trans he)
   clear he hof hfc htk htk2
   have l0c:w.heap.size<wc.heap.size:=by omega
   have l2c:w.heap.size+1+1<wc.heap.size:=by omega
   go_wp2_with (go_at_call 116;refine(own_c tk ls A c xs _ hl HSF.out.way ((HF0.out.belowB (w0:=w) hbc (Nat.le_refl _)).more hbc.size)).mono ?_;rintro e w2 ⟨A2,c2,ys,rfl,hys,hown,hsp,hb2⟩;(have HYS:=zh hys);(have HF2:=zh hown.fld);(have HFR2:=zh (hown.fresh hsp));clear hys hown hsp)
   obtain⟨Wb,hWb⟩:∃Wb,Wb=w2.alloc (.cells #[.int .i64 tk,.int .i64 ls,.slice A2 ys.length c2] 72):=⟨_,rfl⟩
   rw[←hWb]
   have hws2:=hb2.size
   have hBb:Below w2.heap.size w2 Wb:=by rw[hWb];exact zbl
   have yb:Wb.heap[w2.heap.size]? =some (.cells #[.int .i64 (tk),.int .i64 ls,.slice A2 ys.length c2] 72 (0,0)):=by rw[hWb];exact heap_alloc_new _ _
   have HYB:=zh yb
   have HFB:=zh ((HF2.out.belowB (w0:=w2) hBb (Nat.le_refl _)).more hBb.size)
   have hbb:Blks (fun d=>wc.heap.size≤d∧d≠w2.heap.size) A2 ys:=(HFR2.out.and HF2.out.blks).imp fun d hd=>⟨hd.1,Nat.ne_of_lt hd.2⟩
   have HBB:=zh hbb
   have hzb:Wb.heap.size=w2.heap.size+1:=by rw[hWb];simp
   have hBW:Below wc.heap.size wc Wb:=hb2.trans (hBb.mono hws2)
   clear hWb yb hbb d0 d1 d2 df0 df1 df2 q0 q1 q2 qf0 qf1 qf2
   go_loopw [38] (fun i wr=>∃(k ck:Nat) (Ak:Option Addr) (zs:List MA),k≤rs.length∧i=.int .i64 k∧Hid (wr.heap[w2.heap.size]? =some (.cells #[.int .i64 (tk+k),.int .i64 ls,.slice Ak zs.length ck] 72 (0,0)))∧Hid (fldOf (tk+k) ls zs=runG g (fldOf tk ls xs) ((rs.take k).map RA.os))∧Hid (FldR wr wr.heap.size Ak ck zs)∧Hid (Blks (fun d=>wc.heap.size≤d∧d≠w2.heap.size) Ak zs)∧Below wc.heap.size wc wr∧w2.heap.size<wr.heap.size) (fun i _=>rs.length-(intOf i).toNat)
   case atStart=>exact⟨0,c2,A2,ys,Nat.zero_le _,rfl,zh (by simpa using HYB.out),zh (by unfold fldOf runG;simp[HYS.out]),HFB,HBB,hBW,by omega⟩
   case round=>
    obtain⟨k,ck,Ak,zs,hk,rfl,hxk,hzf,hzr,hzb2,hb,hl2r⟩:=hrel
    have hbs:=hb.size
    have hrun:=run_ok hok hu ((rs.take k).map RA.os) HOF.out (by have:=HTK.out;show tk+_≤_;simp[Nat.min_eq_left hk];omega)
    by_cases hlt:k<rs.length
    ·obtain⟨x,hx⟩:∃x,x=rs[k]:=⟨_,rfl⟩
     have hxm:x∈rs:=by rw[hx];exact List.getElem_mem hlt
     have hrrk:=HRR.out.belowB (w0:=w) (hbc.trans (hb.mono (by omega))) (Nat.le_refl _)
     obtain⟨b,off,rfl,hbl,x0⟩:=hrrk.row.get1 (k:=k) (by simpa using hlt) (by rw[List.getElem_map,←hx];rfl)
     have HXO:=zh (HRR.out.each x hxm)
     have hxo:=HON.out x hxm
     have HX:=zh hx
     have HRUN:=zh hrun
     clear hx hxm hrrk hrun
     have e0:=(hb.cell (p:=⟨w.heap.size,0,none⟩) l0c).trans g0
     have e1:=(hb.cell (p:=⟨w.heap.size,1,none⟩) l0c).trans g1
     have e2:=(hb.cell (p:=⟨w.heap.size,2,none⟩) l0c).trans g2
     have e3:=(hb.cell (p:=⟨w.heap.size,3,none⟩) l0c).trans g3
     obtain⟨os,oA,oc⟩:=x
     simp only at x0 HXO hxo
     go_wp2_with fail
     go_loopw [44] (fun i wv=>∃(j cj:Nat) (Aj:Option Addr) (us:List MA),j≤os.length∧i=.int .i64 j∧Hid (wv.heap[w2.heap.size]? =some (.cells #[.int .i64 (tk+k),.int .i64 ls,.slice Aj us.length cj] 72 (0,0)))∧Hid (fldOf (tk+k) ls us=rndG g (runG g (fldOf tk ls xs) ((rs.take k).map RA.os)) (os.take j))∧Hid (FldR wv wv.heap.size Aj cj us)∧Hid (Blks (fun d=>wc.heap.size≤d∧d≠w2.heap.size) Aj us)∧Below wc.heap.size wc wv∧w2.heap.size<wv.heap.size) (fun i _=>os.length-(intOf i).toNat)
     case atStart=>exact⟨0,ck,Ak,zs,Nat.zero_le _,rfl,hxk,zh (by rw[hzf.out];simp[rndG]),hzr,hzb2,hb,hl2r⟩
     case round=>
      obtain⟨j,cj,Aj,us,hj,rfl,hxj,huf,hur,hub,hbj,hl2j⟩:=hrel
      have hbsj:=hbj.size
      have hokj:=rnd_ok hok hu (os.take j) HRUN.out.1
      rw[←huf.out]at hokj
      have HOKJ:=zh hokj
      have hbwj:Below w.heap.size w wr:=hbc.trans (hbj.mono (by omega))
      have kx:=hxj.out
      (obtain⟨q0,qf0,q1,qf1,q2,qf2⟩:=cv3 kx)
      have f0:=(hbj.cell (p:=⟨w.heap.size,0,none⟩) l0c).trans g0
      have f1:=(hbj.cell (p:=⟨w.heap.size,1,none⟩) l0c).trans g1
      have f2:=(hbj.cell (p:=⟨w.heap.size,2,none⟩) l0c).trans g2
      have f3:=(hbj.cell (p:=⟨w.heap.size,3,none⟩) l0c).trans g3
      have hwl:w.heap.size<wr.heap.size:=by omega
      clear e0 e1 e2 e3 kx hokj x0
      by_cases hlj:j<os.length
      ·obtain⟨o,ho⟩:∃o,o=os[j]:=⟨_,rfl⟩
       have hxoj:=Rw.belowB HXO.out (w0:=w) hbwj (Nat.le_refl _)
       obtain⟨ob,ooff,rfl,hobl,z0,z1,z2⟩:=hxoj.get3 (k:=j) (by simpa using hlj) (by rw[List.getElem_map,←ho];rfl)
       have HO:=zh ho
       have hB3:Below wr.heap.size wr (wr.alloc (.cells #[.string o.mir,.string o.sta,.bool o.lost] 76)):=by exact zbl
       have hobl2:ob<wr.heap.size:=by omega
       clear ho hxoj
       go_wp2_with (go_at_call 115;refine(heard_c a g (tk+k) ls Aj cj us o _ hok hu HOKJ.out ((HG0.out.belowB (w0:=w) (hbwj.trans (hB3.mono (by omega))) (Nat.le_refl _)).more (by simp;omega)) ((hur.out.belowB (w0:=wr) hB3 (Nat.le_refl _)).more hB3.size)).mono ?_;rintro e w3 ⟨A3,c3,vs,rfl,hvf,hf3,hbk3,hb3⟩;(have HVF:=zh hvf);(have HF3:=zh hf3);(have HBK3:=zh hbk3);clear hvf hf3 hbk3;(have hbs3:=hb3.size);simp at hbs3;(have k3:=(hb3.block w2.heap.size (by simp;omega)).trans ((Below.heap_alloc _ _ _ hl2j).trans hxj.out));(obtain⟨r0,rf0,r1,rf1,r2,rf2⟩:=cv3 k3);(have HK3:=zh k3);clear k3)
       go_roundw
       case rel=>
        have hblk:Blks (fun d=>wc.heap.size≤d∧d≠w2.heap.size) A3 vs:=HBK3.out _ (fun d hd=>by simp at hd;constructor<;>omega) hub.out
        refine⟨j+1,c3,A3,vs,by omega,by go_num,zh (set3_block HK3.out),zh ?_,zh ((HF3.out.set3 _ _ _ (hblk.imp fun d hd=>hd.2)).more (by simp)),zh hblk,Below.set3 (hbj.trans ((hB3.trans (hb3.mono hB3.size)).mono (by omega))) (by omega) _ _ _,by simp;omega⟩
        rw[HVF.out,huf.out,List.take_succ_eq_append_getElem hlj,←HO.out,rnd_snoc]
       case measure=>simp[intOf];omega
      ·have hjl:j=os.length:=by omega
       have HJL:=zh hjl
       have htk3:tk+(k:Int)<20000000:=by have:=HTK.out;omega
       have HBJ:=zh hbwj
       clear hjl
       go_wp2_with (go_at_call 118;refine(stepped_c a g (tk+k) ls Aj cj us _ hok hu HOKJ.out htk3 ((HG0.out.belowB (w0:=w) HBJ.out (Nat.le_refl _)).more HBJ.out.size) hur.out).mono ?_;rintro e w3 ⟨A3,c3,vs,rfl,hvf,hf3,hfr3,hb3⟩;(have HVF:=zh hvf);(have HF3:=zh hf3);(have HFR3:=zh hfr3);clear hvf hf3 hfr3;(have hbs3:=hb3.size);(have k3:=(hb3.block w2.heap.size hl2j).trans hxj.out);(obtain⟨r0,rf0,r1,rf1,r2,rf2⟩:=cv3 k3);(have HK3:=zh k3);clear k3)
       go_roundw
       case rel=>
        have hblk:Blks (fun d=>wc.heap.size≤d∧d≠w2.heap.size) A3 vs:=HFR3.out.imp fun d hd=>by constructor<;>omega
        refine⟨k+1,c3,A3,vs,by omega,by go_num,zh ?_,zh ?_,zh ((HF3.out.set3 _ _ _ (hblk.imp fun d hd=>hd.2)).more (by simp)),zh hblk,Below.set3 (hbj.trans (hb3.mono (by omega))) (by omega) _ _ _,by simp;omega⟩
        ·rw[set3_block HK3.out]
         simp[Int.add_assoc]
        ·have e1:fldOf (tk+((k+1:Nat):Int)) ls vs=fldOf (tk+k+1) ls vs:=by simp[Int.add_assoc]
         rw[e1,HVF.out,huf.out,HJL.out,List.take_length,List.take_succ_eq_append_getElem hlt,List.map_append,←HX.out,List.map_cons,List.map_nil,run_snoc]
       case measure=>simp[intOf];omega
    ·have hkl:k=rs.length:=by omega
     have HKL:=zh hkl
     have kx:=hxk.out
     (obtain⟨q0,qf0,q1,qf1,q2,qf2⟩:=cv3 kx)
     have k2:=(hb.block (w.heap.size+1+1) l2c).trans J2.out
     (obtain⟨d0,df0,d1,df1,d2,df2⟩:=cv3 k2)
     have HK2:=zh k2
     clear hkl k2 kx hrun
     go_wp2_with fail
     refine bodyPost_ret (Tryz.res_fld2 rfl _ _ rfl (set3_block HK2.out)) rfl ?_
     refine⟨tk+k,ls,Ak,ck,zs,by rw[HRE.out];rfl,?_,?_,Below.set3 (hbc.trans (hb.mono (by omega))) (by omega) _ _ _,hzb2.out.imp fun d hd=>by have:=hd.1;omega⟩
     ·unfold runF
      rw[List.length_map,if_pos HRE.out,hzf.out,HKL.out,List.take_length]
     ·exact(hzr.out.set3 _ _ _ (hzb2.out.imp fun d hd e=>by have:=hd.1;omega)).more (by simp)
  ·have hz:(firstErr [fieldC g (fldOf tk ls xs),whn (decide ((256:Int)<rs.length)) 5,whn (decide (10000000-(rs.length:Int)<tk)) 3]!=0)=true:=by rw[bne_iff_ne];exact he
   have HE:=zh he
   clear he
   go_wp2_with fail
   refine bodyPost_ret (Tryz.res_fld2 rfl _ _ rfl (set3_block J2.out)) rfl ?_
   exact⟨0,0,none,0,[],by rw[HEQ.out];rfl,by unfold runF;rw[List.length_map,HEQ.out,if_neg HE.out];rfl,FldR.nil_ _ _,Below.set3 hbc (by omega) _ _ _,blks_nil⟩
end Go.Proofs.YtehnikhicnnnhaaGreatDoor
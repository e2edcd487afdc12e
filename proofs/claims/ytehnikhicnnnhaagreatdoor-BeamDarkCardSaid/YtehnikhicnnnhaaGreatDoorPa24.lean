/- sector, Defocused. -/
import Derived.Test.YtehnikhicnnnhaaGreatDoorPa22
namespace Go.Proofs.YtehnikhicnnnhaaGreatDoor
open Go.RowKit
def secL(f:Fld)(s:ByteArray):List ByteArray:=(f.mir.filter fun m=>sEq m.sec s).map (·.name)
def secE(f:Fld)(s:ByteArray):Int:=firstErr [nmC s,whn (((secL f s).length:Int)==0) 10]
theorem secL_eq(tk ls:Int)(xs:List MA)(s:ByteArray):nmsP (fun x=>sEq x.m.sec s) xs=secL (fldOf tk ls xs) s:=by
 unfold nmsP secL fldOf
 rw[List.filter_map,List.map_map]
 rfl
set_option maxRecDepth 100000 in
set_option maxHeartbeats 2000000 in
theorem sector_c(tk ls:Int)(A:Option Addr)(c:Nat)(xs:List MA)(s:ByteArray)(w:World)(hl:xs.length≤1000)(hss:s.size≤100000)(hf:FldR w w.heap.size A c xs):
 Calls Tryz.prog 138 #[(.agg #[.int .i64 tk,.int .i64 ls,.slice A xs.length c]),.string s] w fun e w'=>∃v,e=.returned (.tuple #[v,.int .i64 (secE (fldOf tk ls xs) s)])∧OwnS w' w.heap.size v (secL (fldOf tk ls xs) s)∧Below w.heap.size w w':=by
 obtain⟨W0,hW0⟩:∃W0,W0=(w.alloc (.cells #[.int .i64 tk,.int .i64 ls,.slice A xs.length c] 72)).alloc (.cells #[.string s] 9):=⟨_,rfl⟩
 have hsx:Sx w W0:=by rw[hW0];exact((Sx.refl w).alloc _).alloc _
 have hB0:Below w.heap.size w W0:=by rw[hW0];exact zbl
 have hsz:W0.heap.size=w.heap.size+2:=by rw[hW0];simp
 have hF:=hf.sx (Nat.le_refl _) hsx
 have k1:W0.heap[w.heap.size+1]? =some (.cells #[.string s] 9 (0,0)):=by rw[hW0];exact heap_two w _ _
 have e0:W0.cell? ⟨w.heap.size+1,0,none⟩=some (.string s):=by rw[cell_of_row W0 _ 0 _ _ _ k1];rfl
 have l1:w.heap.size+1<W0.heap.size:=by omega
 have HN:=zh (names_c (fun x=>sEq x.m.sec s) 182 #[.pointer (some ⟨w.heap.size+1,0,none⟩)] tk ls A c xs W0 hl enters_sec1 hF (fun x hx W hW=>sec1_c x.m x.A x.c (w.heap.size+1) s W ((hW.cell (p:=⟨w.heap.size+1,0,none⟩) l1).trans e0)))
 have HEQ:=zh (show secE (fldOf tk ls xs) s=firstErr [nmC s,whn (((secL (fldOf tk ls xs) s).length:Int)==0) 10]from rfl)
 obtain⟨sl,hsl⟩:∃sl,sl=secL (fldOf tk ls xs) s:=⟨_,rfl⟩
 rw[←hsl]at HEQ
 have HSL:=zh hsl
 have hnl:sl.length≤1000:=by rw[hsl,←secL_eq];exact Nat.le_trans (nmsP_len _ _) hl
 clear hf hsx hF k1 hsl
 go_enter Tryz.func138,Tryz.ntmps138
 go_wp2_with (first|(rw[←hW0];go_at_call 126;refine HN.out.mono ?_;rintro e w1 ⟨v,rfl,hown,hb1⟩;rw[secL_eq tk ls,←HSL.out]at hown;(obtain⟨Av,cv,rfl,hcv,_,_⟩:=hown.sl);(have HOW:=zh hown);clear hown;(have e1:w1.cell? ⟨w.heap.size+1,0,none⟩=some (.string s):=(hb1.cell (p:=⟨w.heap.size+1,0,none⟩) l1).trans e0))|(go_at_call 123;refine(checkName_c s _ hss).mono ?_;rintro e w3 ⟨rfl,hb3⟩)|(go_at_call 104;refine(when_c _ _ _).mono ?_;rintro e w' ⟨rfl,rfl⟩)|(go_at_call 103;refine(first_c _ [nmC s,whn ((sl.length:Int)==0) 10] _ ?_ ?_).mono ?_;(focus simp);(focus first|(simp[CellsAt];done)|(simp[CellsAt,cells_new]));rintro e w' ⟨rfl,rfl⟩))
 go_ret2
 have:=hb1.size
 refine⟨.slice Av sl.length cv,by rw[HEQ.out];rfl,?_,Bl.step (W:=W0) hB0 ?_⟩
 ·have hm:w.heap.size≤W0.heap.size:=by omega
  rw[←HSL.out]
  first|exact((HOW.out.below hb3).alloc _).mono hm|exact(HOW.out.below hb3).mono hm
 ·(repeat first|(with_reducible first|assumption|exact Below.refl _ _|refine Bl.drew ?_|refine Bl.drewN ?_ _|refine Bl.alloc ?_ _|refine Bl.set ?_ _ ?_)|(with_reducible apply Bl.step';(focus(with_reducible assumption)))|omega|(focus(simp;done))|(focus(simp;omega)))
def defM(g:Grd)(f:Fld)(s:ByteArray)(m:Mir):Mir:=if sEq m.sec s then {sentG g m with heard:=f.tick}else m
def defG(g:Grd)(f:Fld)(s:ByteArray):Fld:= {f with mir:=f.mir.map (defM g f s)}
def defE(g:Grd)(f:Fld)(s:ByteArray):Int:=if fieldC g f=0 then secE f s else fieldC g f
def defF(g:Grd)(f:Fld)(s:ByteArray):Fld:=if defE g f s=0 then defG g f s else fld0
theorem set_mid{α:Type}{a b:List α}{x y:α}{k:Nat}(h:a.length=k):(a++x::b).set k y=a++y::b:=by subst h;simp
set_option maxRecDepth 100000 in
set_option maxHeartbeats 4000000 in
theorem Defocused_c(a:GA)(g:Grd)(tk ls:Int)(A:Option Addr)(c:Nat)(xs:List MA)(s:ByteArray)(w:World)(hs:SmallG g)(hsf:SmallF xs)(hr:GridR w w.heap.size a g)(hkd:KindsAt w)(hf:FldR w w.heap.size A c xs)(hss:s.size≤100000):
 Calls Tryz.prog 70 #[(.agg #[.int .i64 g.blur,.slice a.pS g.sta.length a.cs,.slice a.pM g.mov.length a.cm,.slice a.pZ g.zon.length a.cz]),(.agg #[.int .i64 tk,.int .i64 ls,.slice A xs.length c]),.string s] w fun e w'=>RetF (defF g (fldOf tk ls xs) s) (defE g (fldOf tk ls xs) s) w e w':=by
 obtain⟨W0,hW0⟩:∃W0,W0=(((w.alloc (.cells #[.int .i64 g.blur,.slice a.pS g.sta.length a.cs,.slice a.pM g.mov.length a.cm,.slice a.pZ g.zon.length a.cz] 38)).alloc (.cells #[.int .i64 tk,.int .i64 ls,.slice A xs.length c] 72)).alloc (.cells #[.int .i64 0,.int .i64 0,.slice none 0 0] 72)):=⟨_,rfl⟩
 have hsx:Sx w W0:=by rw[hW0];exact((((Sx.refl w).alloc _).alloc _).alloc _)
 have hB0:Below w.heap.size w W0:=by rw[hW0];exact zbl
 have hsz:W0.heap.size=w.heap.size+3:=by rw[hW0];simp
 have k0:W0.heap[w.heap.size]? =some (.cells #[.int .i64 g.blur,.slice a.pS g.sta.length a.cs,.slice a.pM g.mov.length a.cm,.slice a.pZ g.zon.length a.cz] 38 (0,0)):=by rw[hW0];exact heap_fst _ _ _ _
 have k1:W0.heap[w.heap.size+1]? =some (.cells #[.int .i64 tk,.int .i64 ls,.slice A xs.length c] 72 (0,0)):=by rw[hW0];exact heap_mid _ _ _ _
 have k2:W0.heap[w.heap.size+1+1]? =some (.cells #[.int .i64 0,.int .i64 0,.slice none 0 0] 72 (0,0)):=by rw[hW0];exact heap_lst _ _ _ _
 have HG:=zh (hr.sx (Nat.le_refl _) hsx)
 have HK:=zh (hkd.sx hsx)
 have HF:=zh (hf.sx (Nat.le_refl _) hsx)
 have HG0:=zh hr
 have HF0:=zh hf
 have hl:=hsf.n
 have HS:=zh hs
 have HSF:=zh hsf
 have K0:=zh k0
 have K1:=zh k1
 have K2:=zh k2
 have l0:w.heap.size<W0.heap.size:=by omega
 have l1:w.heap.size+1<W0.heap.size:=by omega
 have l2:w.heap.size+1+1<W0.heap.size:=by omega
 clear hr hkd hf hsx hs hsf
 (obtain⟨g0,g1,g2,g3⟩:=cg4 k0)
 (obtain⟨q0,qf0,q1,qf1,q2,qf2⟩:=cv3 k1)
 (obtain⟨d0,df0,d1,df1,d2,df2⟩:=cv3 k2)
 clear k0 k1 k2
 by_cases he:fieldC g (fldOf tk ls xs)=0
 ·have hz:(fieldC g (fldOf tk ls xs)!=0)=false:=by rw[bne_eq_false_iff_eq];exact he
  obtain⟨hok,hu,hof⟩:=fldOk he
  have HTK:=zh (fieldC_tick he)
  have HE:=zh he
  have HOF:=zh hof
  clear he hof
  have hde:=zh (show defE g (fldOf tk ls xs) s=secE (fldOf tk ls xs) s by unfold defE;rw[if_pos HE.out])
  go_enter Tryz.func70,Tryz.ntmps70
  go_upto_region 5 with (first|(rw[←hW0];go_at_call 44;refine(CheckField_c a g tk ls A c xs _ HS.out HSF.out (HG.out.sx (Nat.le_refl _) (Sh.sx (by exact zsh))) (HK.out.sx (Sh.sx (by exact zsh))) (HF.out.sx (Nat.le_refl _) (Sh.sx (by exact zsh)))).mono ?_;rintro e w1 ⟨rfl,hb1⟩;(have hs1:Sh W0 w1:=by exact zsh);clear g0 g1 g2 g3 q0 q1 q2 qf0 qf1 qf2 d0 d1 d2 df0 df1 df2;(have j0:=(hs1.2.2 (w.heap.size) l0).trans K0.out);(obtain⟨g0,g1,g2,g3⟩:=cg4 j0);(have j1:=(hs1.2.2 (w.heap.size+1) l1).trans K1.out);(obtain⟨q0,qf0,q1,qf1,q2,qf2⟩:=cv3 j1);(have j2:=(hs1.2.2 (w.heap.size+1+1) l2).trans K2.out);(obtain⟨d0,df0,d1,df1,d2,df2⟩:=cv3 j2);(have J1:=zh j2);clear j0 j1 j2)|(go_at_call 138;refine(sector_c tk ls A c xs s _ hl hss ((HF.out.belowB (w0:=W0) hb1 (Nat.le_refl _)).more hb1.size)).mono ?_;rintro e w2 ⟨v,rfl,hown,hb2⟩;clear hown;(have hB2:Below W0.heap.size W0 w2:=hb1.trans (hb2.mono hb1.size));(have hs2:Sh W0 w2:=⟨hB2.size,fun b o hlt=>hB2.cell (p:=⟨b,o,none⟩) hlt,fun b hlt=>hB2.block b hlt⟩);clear g0 g1 g2 g3 q0 q1 q2 qf0 qf1 qf2 d0 d1 d2 df0 df1 df2;(have j0:=(hs2.2.2 (w.heap.size) l0).trans K0.out);(obtain⟨g0,g1,g2,g3⟩:=cg4 j0);(have j1:=(hs2.2.2 (w.heap.size+1) l1).trans K1.out);(obtain⟨q0,qf0,q1,qf1,q2,qf2⟩:=cv3 j1);(have j2:=(hs2.2.2 (w.heap.size+1+1) l2).trans K2.out);(obtain⟨d0,df0,d1,df1,d2,df2⟩:=cv3 j2);(have J2:=zh j2);clear j0 j1 j2;(have he2:secE (fldOf tk ls xs) s=secE (fldOf tk ls xs) s:=rfl)))
  by_cases hx:secE (fldOf tk ls xs) s=0
  ·have hz2:(secE (fldOf tk ls xs) s !=0)=false:=by rw[bne_eq_false_iff_eq];exact hx
   have HX:=zh hx
   clear hx
   have hw02:=hs2.1
   have l02:w.heap.size<w2.heap.size:=by omega
   have l12:w.heap.size+1<w2.heap.size:=by omega
   have l22:w.heap.size+1+1<w2.heap.size:=by omega
   go_wp2_with (go_at_call 116;refine(own_c tk ls A c xs _ hl HSF.out.way ((HF.out.belowB (w0:=W0) hB2 (Nat.le_refl _)).more hB2.size)).mono ?_;rintro e w3 ⟨A3,c3,ys,rfl,hys,hown,hsp,hb3⟩;(have HYS:=zh hys);(have HOW:=zh hown);(have HSP:=zh hsp);clear hys hown hsp)
   obtain⟨Wb,hWb⟩:∃Wb,Wb=w3.alloc (.cells #[.int .i64 tk,.int .i64 ls,.slice A3 ys.length c3] 72):=⟨_,rfl⟩
   rw[←hWb]
   have hws3:=hb3.size
   have hBb:Below w3.heap.size w3 Wb:=by rw[hWb];exact zbl
   have yb:Wb.heap[w3.heap.size]? =some (.cells #[.int .i64 tk,.int .i64 ls,.slice A3 ys.length c3] 72 (0,0)):=by rw[hWb];exact heap_alloc_new _ _
   have hzb:Wb.heap.size=w3.heap.size+1:=by rw[hWb];simp
   have HYB:=zh yb
   have HOB:=zh (HOW.out.below hBb)
   have hBW:Below w2.heap.size w2 Wb:=hb3.trans (hBb.mono hws3)
   have hyl:ys.length=xs.length:=by have h1:=congrArg List.length HYS.out;simpa using h1
   have HYL:=zh hyl
   have yo0:Wb.cell? ⟨w3.heap.size,2,none⟩=some (.slice A3 ys.length c3):=by rw[cell_of_row Wb _ 2 _ _ _ yb];rfl
   have hyn:ys.length≤1000:=by omega
   clear hWb yb d0 d1 d2 df0 df1 df2 hyl
   go_wp2_with fail
   go_loopw [37] (fun i wr=>∃(k:Nat) (zs:List MA),k≤ys.length∧i=.int .i64 k∧Hid (wr.heap[w3.heap.size]? =some (.cells #[.int .i64 tk,.int .i64 ls,.slice A3 ys.length c3] 72 (0,0)))∧Hid (zs.map MA.m=((xs.take k).map fun x=>defM g (fldOf tk ls xs) s x.m)++(xs.drop k).map MA.m)∧Hid (zs.length=ys.length)∧Hid (OwnM wr w2.heap.size A3 c3 zs)∧Hid (∀z∈zs,z.m.way≠ []→∀a,z.A=some a→w2.heap.size≤a.block)∧Below w2.heap.size w2 wr∧w3.heap.size<wr.heap.size) (fun i _=>ys.length-(intOf i).toNat)
   case atStart=>exact⟨0,ys,Nat.zero_le _,rfl,HYB,zh (by simp[HYS.out]),zh rfl,HOB,zh (fun z hz _ a ha=>HSP.out z hz a ha),hBW,by omega⟩
   case round=>
    obtain⟨k,zs,hk,rfl,hxk,hzm,hzl,hzo,hzw,hb,hlr⟩:=hrel
    have hbs:=hb.size
    have hbw:Below w.heap.size w wr:=hB0.trans ((hB2.trans (hb.mono hw02)).mono (by omega))
    have ko:=hxk.out
    (obtain⟨u0,uf0,u1,uf1,u2,uf2⟩:=cv3 ko)
    have e0:=(hb.cell (p:=⟨w.heap.size,0,none⟩) l02).trans g0
    have e1:=(hb.cell (p:=⟨w.heap.size,1,none⟩) l02).trans g1
    have e2:=(hb.cell (p:=⟨w.heap.size,2,none⟩) l02).trans g2
    have e3:=(hb.cell (p:=⟨w.heap.size,3,none⟩) l02).trans g3
    have p0:=(hb.cell (p:=⟨w.heap.size+1,0,none⟩) l12).trans q0
    have lwr:w.heap.size<wr.heap.size:=by omega
    have lwr1:w.heap.size+1<wr.heap.size:=by omega
    clear ko yo0
    by_cases hlt:k<ys.length
    ·have hzk:k<zs.length:=by rw[hzl.out];exact hlt
     have hxk2:k<xs.length:=by rw[←HYL.out];exact hlt
     obtain⟨gb,cap,hv,hgb,hglt⟩:=hzo.out.row.form (by omega)
     cases hv
     obtain⟨y,hy⟩:∃y,y=zs[k]:=⟨_,rfl⟩
     have hym:y∈zs:=by rw[hy];exact List.getElem_mem hzk
     obtain⟨b6,off6,e6,_,z0,z1,z2,z3,z4,z5⟩:=hzo.out.fld.rw_.get6 (k:=k) (by simpa using hzk) (by rw[List.getElem_map,←hy];rfl)
     cases e6
     simp only[Nat.zero_add]at z0 z1 z2 z3 z4 z5
     have hmx:y.m=xs[k].m:=by
      have h1:(zs.map MA.m)[k]? =some y.m:=by rw[List.getElem?_map,List.getElem?_eq_getElem hzk,←hy];rfl
      rw[hzm.out,List.getElem?_append_right (by simp[Nat.min_eq_left (Nat.le_of_lt hxk2)])]at h1
      simp only[List.length_map,List.length_take,Nat.min_eq_left (Nat.le_of_lt hxk2),Nat.sub_self,List.getElem?_map,List.getElem?_drop,Nat.add_zero,List.getElem?_eq_getElem hxk2,Option.map_some,Option.some.injEq]at h1
      exact h1.symm
     have hmok:okMir g y.m:=by rw[hmx];exact HOF.out.mir _ (List.mem_map_of_mem (List.getElem_mem hxk2))
     have HMX:=zh hmx
     have hmr:=hzo.out.each y hym
     have HAP:=zh (hzo.out.apart y hym)
     clear hy hmx
     obtain⟨m,mA,mc⟩:=y
     simp only at z0 z1 z2 z3 z4 z5 hmok hmr HMX HAP
     have hq:=sEqL m.sec s
     have hl40:=hmok.len
     have HMR:=zh hmr
     clear hmr
     cases hsec:sEq m.sec s with
     |false=>
      clear hym
      have hdm:defM g (fldOf tk ls xs) s m=m:=by unfold defM;rw[hsec];rfl
      have HDM:=zh hdm
      rw[hsec]at hq
      clear hdm hsec
      go_wp2_with fail
      go_roundw
      case rel=>
       refine⟨k+1,zs,by omega,by go_num,zh ((Below.heap_alloc _ _ _ hlr).trans hxk.out),zh ?_,hzl,zh (hzo.out.below (Below.alloc (Below.refl _ _) (Nat.le_refl _) _)),hzw,hb.trans (Below.alloc (Below.refl _ _) (by omega) _),by simp;omega⟩
       rw[hzm.out,List.take_succ_eq_append_getElem hxk2,List.drop_eq_getElem_cons hxk2,List.map_append,List.map_cons,List.map_cons,List.map_nil,←HMX.out,HDM.out]
       simp
      case measure=>simp[intOf];omega
     |true=>
      rw[hsec]at hq
      have hB4:Below wr.heap.size wr (wr.alloc (.cells #[.string m.name,.string m.sec,.int .i64 m.loc,.slice mA m.way.length mc,.int .i64 m.left,.int .i64 m.heard] 106)):=by exact zbl
      have HSEC:=zh hsec
      have HWY:=zh (hzw.out ⟨m,mA,mc⟩ hym)
      obtain⟨sm,hsm⟩:∃sm,sm=sentG g m:=⟨_,rfl⟩
      have HSM:=zh hsm
      clear hsec hsm
      go_upto_region 14 with (refine(sent_c a g m mA mc _ hok hu hmok ((HG0.out.belowB (w0:=w) (hbw.trans (hB4.mono (by omega))) (Nat.le_refl _)).more (by simp;omega)) ((HMR.out.belowB (w0:=wr) hB4 (Nat.le_refl _)).more hB4.size)).mono ?_;rintro e w5 ⟨A5,c5,rfl,hr5,hf5,hb5⟩;rw[←HSM.out]at hr5 hf5;rw[←HSM.out];(have HR5:=zh hr5);(have HF5:=zh hf5);clear hr5 hf5;(have hbs5:=hb5.size);simp at hbs5;(have r0:=(hb5.cell (p:=⟨w.heap.size+1,0,none⟩) (by simp;omega)).trans ((World.cell?_alloc_lt _ _ ⟨w.heap.size+1,0,none⟩ lwr1).trans p0));(have lw5:w.heap.size+1<w5.heap.size:=by omega))
      obtain⟨W6,hW6⟩:∃W6,W6=w5.alloc (.cells #[.string sm.name,.string sm.sec,.int .i64 sm.loc,.slice A5 sm.way.length c5,.int .i64 sm.left,.int .i64 tk] 106):=⟨_,rfl⟩
      rw[←hW6]
      have hB56:Below w5.heap.size w5 W6:=by rw[hW6];exact zbl
      have hz6:W6.heap.size=w5.heap.size+1:=by rw[hW6];simp
      have hB46:Below wr.heap.size wr W6:=hB4.trans ((hb5.trans (hB56.mono hb5.size)).mono (by simp))
      have y0:W6.heap[w5.heap.size]? =some (.cells #[.string sm.name,.string sm.sec,.int .i64 sm.loc,.slice A5 sm.way.length c5,.int .i64 sm.left,.int .i64 tk] 106 (0,0)):=by rw[hW6];exact heap_alloc_new _ _
      have yo:=(hB46.block w3.heap.size hlr).trans hxk.out
      have HO6:=zh (hzo.out.below hB46)
      have HMR6:=zh (show MirR W6 W6.heap.size {sm with heard:=tk} A5 c5 from⟨Rw.more (Rw.belowB (w0:=w5) HR5.out.way hB56 (Nat.le_refl _)) hB56.size,HR5.out.cap⟩)
      have hnb:sm.way≠ []→∀a,A5=some a→a.block≠gb∧w2.heap.size≤a.block:=fun hne a ha=>by
       rcases HF5.out with ⟨h1,h2⟩|h1
       ·have h3:m.way≠ []:=by rw[←h2];exact hne
        exact⟨HAP.out h3 a (by show mA=some a;rw[←h1];exact ha) _ rfl,HWY.out h3 a (by show mA=some a;rw[←h1];exact ha)⟩
       ·have h3:=h1 a ha
        simp at h3
        constructor<;>omega
      have HNB:=zh hnb
      have z0':=(hB46.cell (p:=⟨gb,k*6,none⟩) hglt).trans z0
      have z1':=(hB46.cell (p:=⟨gb,k*6+1,none⟩) hglt).trans z1
      have z2':=(hB46.cell (p:=⟨gb,k*6+2,none⟩) hglt).trans z2
      have z3':=(hB46.cell (p:=⟨gb,k*6+3,none⟩) hglt).trans z3
      have z4':=(hB46.cell (p:=⟨gb,k*6+4,none⟩) hglt).trans z4
      have z5':=(hB46.cell (p:=⟨gb,k*6+5,none⟩) hglt).trans z5
      have zf0:=HO6.out.row.frozenAt (k*6)
      have zf1:=HO6.out.row.frozenAt (k*6+1)
      have zf2:=HO6.out.row.frozenAt (k*6+2)
      have zf3:=HO6.out.row.frozenAt (k*6+3)
      have zf4:=HO6.out.row.frozenAt (k*6+4)
      have zf5:=HO6.out.row.frozenAt (k*6+5)
      have HYO:=zh yo
      have HZK:=zh hzk
      have hgo:gb≠w3.heap.size:=fun e=>by
       have h1:=World.ownsRow.lt HOW.out.row gb rfl
       omega
      have HGO:=zh hgo
      clear hW6 hym hnb z0 z1 z2 z3 z4 z5 e0 e1 e2 e3 p0 u0 u1 u2 uf0 uf1 uf2 r0 hgo g0 g1 g2 g3 q0 q1 q2 qf0 qf1 qf2
      (obtain⟨e0,ef0,e1,ef1,e2,ef2,e3,ef3,e4,ef4,e5,ef5⟩:=cv6 y0)
      (obtain⟨u0,uf0,u1,uf1,u2,uf2⟩:=cv3 yo)
      clear y0 yo
      go_upto_region 15 with fail
      obtain⟨W7,hW7⟩:∃W7,W7=(((((W6.setCell ⟨gb,k*6,none⟩ (.string sm.name)).setCell ⟨gb,k*6+1,none⟩ (.string sm.sec)).setCell ⟨gb,k*6+2,none⟩ (.int .i64 sm.loc)).setCell ⟨gb,k*6+3,none⟩ (.slice A5 sm.way.length c5)).setCell ⟨gb,k*6+4,none⟩ (.int .i64 sm.left)).setCell ⟨gb,k*6+5,none⟩ (.int .i64 tk):=⟨_,rfl⟩
      rw[←hW7]
      have hoth:∀b',b'≠gb→W7.heap[b']? =W6.heap[b']? :=fun b' hb'=>by
       have e:∀(W:World) (o:Nat) (v:Value),(W.setCell ⟨gb,o,none⟩ v).heap[b']? =W.heap[b']? :=fun W o v=>heap_setCell_other W _ _ _ hb'
       rw[hW7,e,e,e,e,e,e]
      have HY7:=zh ((hoth w3.heap.size (fun h=>HGO.out h.symm)).trans HYO.out)
      have hz7:W7.heap.size=W6.heap.size:=by rw[hW7];simp
      have hB7:Below w2.heap.size w2 W7:=by
       rw[hW7]
       have hB26:Below w2.heap.size w2 W6:=hb.trans (hB46.mono (by omega))
       exact Below.setCell (Below.setCell (Below.setCell (Below.setCell (Below.setCell (Below.setCell hB26 (p:=⟨gb,k*6,none⟩) hgb _) (p:=⟨gb,k*6+1,none⟩) hgb _) (p:=⟨gb,k*6+2,none⟩) hgb _) (p:=⟨gb,k*6+3,none⟩) hgb _) (p:=⟨gb,k*6+4,none⟩) hgb _) (p:=⟨gb,k*6+5,none⟩) hgb _
      have HO7:=zh (show OwnM W7 w2.heap.size (some ⟨gb,0,none⟩) c3 (zs.set k ⟨{sm with heard:=tk},A5,c5⟩) by
       rw[hW7]
       exact HO6.out.set HZK.out ⟨{sm with heard:=tk},A5,c5⟩ HMR6.out (fun hne a ha=>(HNB.out hne a ha).1))
      clear hW7 hoth e0 e1 e2 e3 e4 e5 ef0 ef1 ef2 ef3 ef4 ef5 u0 u1 u2 uf0 uf1 uf2 z0' z1' z2' z3' z4' z5' zf0 zf1 zf2 zf3 zf4 zf5
      go_wp2_with fail
      go_roundw
      case rel=>
       refine⟨k+1,zs.set k ⟨{sm with heard:=tk},A5,c5⟩,by omega,by go_num,HY7,zh ?_,zh (by rw[List.length_set];exact hzl.out),HO7,zh ?_,hB7,by omega⟩
       ·have hdm:defM g (fldOf tk ls xs) s m= {sm with heard:=tk}:=by unfold defM;rw[HSEC.out,if_pos rfl,←HSM.out];rfl
        rw[List.map_set,hzm.out,List.take_succ_eq_append_getElem hxk2,List.drop_eq_getElem_cons hxk2,List.map_append,List.map_cons,List.map_cons,List.map_nil,←HMX.out,hdm]
        have hlk:((xs.take k).map fun x=>defM g (fldOf tk ls xs) s x.m).length=k:=by simp;omega
        rw[set_mid hlk]
        simp
       ·intro z hz hne a ha
        rcases List.mem_or_eq_of_mem_set hz with hz|rfl
        ·exact hzw.out z hz hne a ha
        ·exact(HNB.out hne a ha).2
      case measure=>simp[intOf];omega
    ·have hkl:k=ys.length:=by omega
     have HKL:=zh hkl
     have k2:=(hb.block (w.heap.size+1+1) l22).trans J2.out
     (obtain⟨d0,df0,d1,df1,d2,df2⟩:=cv3 k2)
     have HK2:=zh k2
     have hfr:Blks (fun d=>w2.heap.size≤d) A3 zs:=⟨fun hn a ha=>by
      have h1:=World.ownsRow.lt hzo.out.row a.block (by rw[ha];rfl)
      exact h1.1,fun z hz hne a ha=>hzw.out z hz hne a ha⟩
     have HFRZ:=zh hfr
     clear hkl k2 hfr
     go_wp2_with fail
     refine bodyPost_ret (Tryz.res_fld2 rfl _ _ rfl (set3_block HK2.out)) rfl ?_
     refine⟨tk,ls,A3,c3,zs,by rw[hde.out,HX.out,hzl.out];rfl,?_,?_,Below.set3 hbw (by omega) _ _ _,HFRZ.out.imp fun d hd=>by omega⟩
     ·unfold defF
      rw[hde.out,if_pos HX.out]
      unfold fldOf defG
      simp only
      rw[hzm.out,HKL.out,HYL.out,List.take_length,List.drop_length]
      simp[fldOf,Function.comp_def]
     ·exact(hzo.out.fld.set3 _ _ _ (HFRZ.out.imp fun d hd e=>by omega)).more (by simp)
  ·have hz2:(secE (fldOf tk ls xs) s !=0)=true:=by rw[bne_iff_ne];exact hx
   have HX:=zh hx
   clear hx
   go_wp2_with fail
   refine bodyPost_ret (Tryz.res_fld2 rfl _ _ rfl (set3_block J2.out)) rfl ?_
   exact⟨0,0,none,0,[],by first|rfl|(rw[hde.out];rfl),by first|rfl|(rw[defF,hde.out,if_neg HX.out];rfl),FldR.nil_ _ _,Below.set3 (hB0.trans (hB2.mono (by omega))) (by omega) _ _ _,blks_nil⟩
 ·have hz:(fieldC g (fldOf tk ls xs)!=0)=true:=by rw[bne_iff_ne];exact he
  have HE:=zh he
  clear he
  go_enter Tryz.func70,Tryz.ntmps70
  go_wp2_with (rw[←hW0];go_at_call 44;refine(CheckField_c a g tk ls A c xs _ HS.out HSF.out (HG.out.sx (Nat.le_refl _) (Sh.sx (by exact zsh))) (HK.out.sx (Sh.sx (by exact zsh))) (HF.out.sx (Nat.le_refl _) (Sh.sx (by exact zsh)))).mono ?_;rintro e w1 ⟨rfl,hb1⟩;(have hs1:Sh W0 w1:=by exact zsh);clear g0 g1 g2 g3 q0 q1 q2 qf0 qf1 qf2 d0 d1 d2 df0 df1 df2;(have j0:=(hs1.2.2 (w.heap.size) l0).trans K0.out);(obtain⟨g0,g1,g2,g3⟩:=cg4 j0);(have j1:=(hs1.2.2 (w.heap.size+1) l1).trans K1.out);(obtain⟨q0,qf0,q1,qf1,q2,qf2⟩:=cv3 j1);(have j2:=(hs1.2.2 (w.heap.size+1+1) l2).trans K2.out);(obtain⟨d0,df0,d1,df1,d2,df2⟩:=cv3 j2);(have J1:=zh j2);clear j0 j1 j2)
  have hde:=zh (show defE g (fldOf tk ls xs) s=fieldC g (fldOf tk ls xs) by unfold defE;rw[if_neg HE.out])
  refine bodyPost_ret (Tryz.res_fld2 rfl _ _ rfl (set3_block J1.out)) rfl ?_
  exact⟨0,0,none,0,[],by first|rfl|(rw[hde.out];rfl),by first|rfl|(rw[defF,hde.out,if_neg HE.out];rfl),FldR.nil_ _ _,Below.set3 (hB0.trans (hb1.mono (by omega))) (by omega) _ _ _,blks_nil⟩
end Go.Proofs.YtehnikhicnnnhaaGreatDoor
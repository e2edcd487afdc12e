/- The reference: Run. | BeamRuns answers true. -/
import Derived.Test.YtehnikhicnnnhaaGreatDoorPa34
import Derived.Test.YtehnikhicnnnhaaGreatDoorPa39
import Derived.Test.YtehnikhicnnnhaaGreatDoorPa49
import Derived.Test.YtehnikhicnnnhaaGreatDoorPa51
import Derived.Test.YtehnikhicnnnhaaGreatDoorPa52
import Derived.Test.YtehnikhicnnnhaaGreatDoorPa53
namespace Go.Proofs.YtehnikhicnnnhaaGreatDoor
open Go.RowKit
structure NBox(V0:World)(E:Int)(Y:Fld)(nb ob:Nat)(W:World):Prop where
 ex:∃tk ls A c xs,W.heap[nb]? =some (.cells #[.int .i64 tk,.int .i64 ls,.slice A (List.length xs) c] 66 (0,0))∧(E=0→fldOf tk ls xs=Y∧NilW xs)∧FldR W W.heap.size A c xs∧Blks (fun d=>V0.heap.size≤d∧d≠nb) A xs
 lo:V0.heap.size≤nb
 low:Below V0.heap.size V0 W
theorem nBox1{V0 W7:World}{E:Int}{Y:Fld}{ob:Nat}{tk ls:Int}{A:Option Addr}{c:Nat}{zs:List MA}(h:Below V0.heap.size V0 W7)(hf:E=0→fldOf tk ls zs=Y∧NilW zs)(hr:FldR W7 W7.heap.size A c zs)(hfr:Fresh V0.heap.size A zs):
 NBox V0 E Y W7.heap.size ob (W7.alloc (.cells #[.int .i64 tk,.int .i64 ls,.slice A zs.length c] 66)):=
 ⟨⟨tk,ls,A,c,zs,heap_alloc_new _ _,hf,FldR.to hr (Below.alloc (Below.refl _ _) (Nat.le_refl _) _),(hfr.and hr.blks).imp fun _ hd=>⟨hd.1,Nat.ne_of_lt hd.2⟩⟩,h.size,h.alloc h.size _⟩
theorem nBox2{V0 W W7:World}{E:Int}{Y:Fld}{b ob:Nat}{tk ls:Int}{A:Option Addr}{c:Nat}{zs:List MA}{u0 u1 u2:Value}(h0:Below V0.heap.size V0 W)(hb:Below W.heap.size W W7)(hl:V0.heap.size≤b)(hk:W.heap[b]? =some (.cells #[u0,u1,u2] 66 (0,0)))(hf:E=0→fldOf tk ls zs=Y∧NilW zs)(hr:FldR W7 W7.heap.size A c zs)(hfr:Fresh W.heap.size A zs):
 NBox V0 E Y b ob (((W7.setCell ⟨b,0,none⟩ (.int .i64 tk)).setCell ⟨b,1,none⟩ (.int .i64 ls)).setCell ⟨b,2,none⟩ (.slice A zs.length c)):=by
 have hlt:=blk_lt hk
 have hz:=h0.size
 refine⟨⟨tk,ls,A,c,zs,set3_block ((hb.block b hlt).trans hk),hf,?_,hfr.imp fun _ hd=>by omega⟩,hl,Below.set3 (h0.trans (hb.mono hz)) hl _ _ _⟩
 exact(hr.set3 _ _ _ (hfr.imp fun _ hd=>by omega)).more (by simp)
set_option maxRecDepth 100000 in
set_option maxHeartbeats 16000000 in
theorem rRun_c(a:GA)(g:Grd)(tk ls:Int)(A:Option Addr)(c:Nat)(xs:List MA)(RA_:Option Addr)(rc:Nat)(rs:List RA)(w:World)(hok:okG g)(hu:Uniq g.mov)(hof:okFld g (fldOf tk ls xs))(htk:tk≤10000000)(hz:NilW xs)(hr:GridR w w.heap.size a g)(hf:FldR w w.heap.size A c xs)(hrn:rs.length≤1000)(hon:∀x∈rs,x.os.length≤1000)(hrr:RndR w w.heap.size RA_ rs):
 Calls Tryz.prog 50 #[(.agg #[.int .i64 g.blur,.slice a.pS g.sta.length a.cs,.slice a.pM g.mov.length a.cm,.slice a.pZ g.zon.length a.cz]),(.agg #[.int .i64 tk,.int .i64 ls,.slice A xs.length c]),.slice RA_ rs.length rc] w fun e w'=>RetF (rrF g (fldOf tk ls xs) (rs.map RA.os)) (rrE tk rs.length) w e w':=by
 obtain⟨W0,hW0⟩:∃W0,W0=(((w.alloc (.cells #[.int .i64 g.blur,.slice a.pS g.sta.length a.cs,.slice a.pM g.mov.length a.cm,.slice a.pZ g.zon.length a.cz] 26)).alloc (.cells #[.int .i64 tk,.int .i64 ls,.slice A xs.length c] 66)).alloc (.cells #[.int .i64 0,.int .i64 0,.slice none 0 0] 66)):=⟨_,rfl⟩
 have hB0:Below w.heap.size w W0:=by rw[hW0];(repeat first|(with_reducible first|assumption|exact Below.refl _ _|refine Bl.drew ?_|refine Bl.drewN ?_ _|refine Bl.alloc ?_ _|refine Bl.set ?_ _ ?_)|(with_reducible apply Bl.step';(focus(with_reducible assumption)))|omega|(focus(simp;done))|(focus(simp;omega)))
 have hsz:W0.heap.size=w.heap.size+3:=by rw[hW0];simp
 have k0:W0.heap[w.heap.size]? =some (.cells #[.int .i64 g.blur,.slice a.pS g.sta.length a.cs,.slice a.pM g.mov.length a.cm,.slice a.pZ g.zon.length a.cz] 26 (0,0)):=by rw[hW0];exact heap_fst _ _ _ _
 have k1:W0.heap[w.heap.size+1]? =some (.cells #[.int .i64 tk,.int .i64 ls,.slice A xs.length c] 66 (0,0)):=by rw[hW0];exact heap_mid _ _ _ _
 have k2:W0.heap[w.heap.size+1+1]? =some (.cells #[.int .i64 0,.int .i64 0,.slice none 0 0] 66 (0,0)):=by rw[hW0];exact heap_lst _ _ _ _
 have HG:=zh (hr.to hB0)
 have HF:=zh (FldR.to hf hB0)
 have HRR:=zh (show RndR W0 W0.heap.size RA_ rs from⟨Rw.more (Rw.belowB (w0:=w) hrr.row hB0 (Nat.le_refl _)) hB0.size,fun x hx=>Rw.more (Rw.belowB (w0:=w) (hrr.each x hx) hB0 (Nat.le_refl _)) hB0.size⟩)
 have HON:=zh hon
 have HB0:=zh hB0
 have HNW:=zh hz
 have HOF:=zh hof
 have hl:xs.length≤1000:=by have:=hof.n;have e:(fldOf tk ls xs).mir.length=xs.length:=by simp[fldOf]
                            omega
 have hwl:∀x∈xs,x.m.way.length≤1000:=fun x hx=>by have:=(hof.mir x.m (List.mem_map_of_mem hx)).len;omega
 have K2:=zh k2
 have HOWN:=zh (fun W (h:FldR W W.heap.size A c xs)=>rOwn_c tk ls A c xs W hl hwl hz h)
 have l0:w.heap.size<W0.heap.size:=by omega
 have l1:w.heap.size+1<W0.heap.size:=by omega
 have l2:w.heap.size+1+1<W0.heap.size:=by omega
 have htk0:0≤tk:=hof.tick0
 have hwr:IntKind.i64.wrap (tk+(rs.length:Int))=tk+(rs.length:Int):=IntWalk.i64_in _ (by omega)
 (obtain⟨g0,g1,g2,g3⟩:=cg4 k0)
 (obtain⟨q0,qf0,q1,qf1,q2,qf2⟩:=cv3 k1)
 (obtain⟨d0,df0,d1,df1,d2,df2⟩:=cv3 k2)
 clear hr hf hrr hon hB0 hz hof k0 k1 k2 hwl qf0 qf1 qf2 hsz
 by_cases h1:(256:Int)<rs.length
 ·have hd1:decide ((256:Int)<rs.length)=true:=decide_eq_true h1
  have HE:=zh (show rrE tk rs.length=5 from if_pos h1)
  clear h1
  go_enter Tryz.func50,Tryz.ntmps50
  go_upto_region 1 with fail
  rw[←hW0]
  clear hW0
  go_wp2_with fail
  refine bodyPost_ret (Tryz.rres_fld2 rfl _ _ rfl (set3_block K2.out)) rfl ?_
  exact⟨0,0,none,0,[],by rw[HE.out];rfl,by unfold rrF;rw[List.length_map,show(fldOf tk ls xs).tick=tk from rfl,HE.out,if_neg (by decide)];rfl,FldR.nil_ _ _,Below.set3 HB0.out (by omega) _ _ _,blks_nil⟩
 ·have hd1:decide ((256:Int)<rs.length)=false:=decide_eq_false h1
  by_cases h2:(10000000:Int)<tk+rs.length
  ·have hd2:decide ((10000000:Int)<tk+rs.length)=true:=decide_eq_true h2
   have HE:=zh (show rrE tk rs.length=3 by unfold rrE;rw[if_neg h1,if_pos h2])
   clear h1 h2
   go_enter Tryz.func50,Tryz.ntmps50
   go_upto_region 1 with fail
   rw[←hW0]
   clear hW0
   go_wp2_with fail
   refine bodyPost_ret (Tryz.rres_fld2 rfl _ _ rfl (set3_block K2.out)) rfl ?_
   exact⟨0,0,none,0,[],by rw[HE.out];rfl,by unfold rrF;rw[List.length_map,show(fldOf tk ls xs).tick=tk from rfl,HE.out,if_neg (by decide)];rfl,FldR.nil_ _ _,Below.set3 HB0.out (by omega) _ _ _,blks_nil⟩
  ·have hd2:decide ((10000000:Int)<tk+rs.length)=false:=decide_eq_false h2
   have HE:=zh (show rrE tk rs.length=0 by unfold rrE;rw[if_neg h1,if_neg h2])
   have HTK:=zh (show tk+(rs.length:Int)≤10000000 by omega)
   clear h1 h2
   go_enter Tryz.func50,Tryz.ntmps50
   go_upto_region 1 with fail
   rw[←hW0]
   clear hW0
   go_wp2_with (go_at_call 117;(with_reducible refine Calls.mono (HOWN.out _ HF.out) ?_);rintro e w2 ⟨A2,c2,ys,rfl,hys,hown,hfy,hny,hb2⟩;(have HYS:=zh hys);(have HF2:=zh hown.fld);(have HFR2:=zh (show Fresh W0.heap.size A2 ys from⟨fun _ a ha=>own_block hown a ha,fun x hx _ a ha=>hfy x hx a ha⟩));(have HNY:=zh hny);clear hys hown hfy hny)
   obtain⟨Wb,hWb⟩:∃Wb,Wb=w2.alloc (.cells #[.int .i64 tk,.int .i64 ls,.slice A2 ys.length c2] 66):=⟨_,rfl⟩
   rw[←hWb]
   have hws2:=hb2.size
   have hBb:Below w2.heap.size w2 Wb:=by rw[hWb];(repeat first|(with_reducible first|assumption|exact Below.refl _ _|refine Bl.drew ?_|refine Bl.drewN ?_ _|refine Bl.alloc ?_ _|refine Bl.set ?_ _ ?_)|(with_reducible apply Bl.step';(focus(with_reducible assumption)))|omega|(focus(simp;done))|(focus(simp;omega)))
   have yb:Wb.heap[w2.heap.size]? =some (.cells #[.int .i64 (tk),.int .i64 ls,.slice A2 ys.length c2] 66 (0,0)):=by rw[hWb];exact heap_alloc_new _ _
   have HYB:=zh yb
   have HFB:=zh (FldR.to HF2.out hBb)
   have hbb:Blks (fun d=>W0.heap.size≤d∧d≠w2.heap.size) A2 ys:=(HFR2.out.and HF2.out.blks).imp fun d hd=>⟨hd.1,Nat.ne_of_lt hd.2⟩
   have HBB:=zh hbb
   have hzb:Wb.heap.size=w2.heap.size+1:=by rw[hWb];simp
   have hBW:Below W0.heap.size W0 Wb:=hb2.trans (hBb.mono hws2)
   obtain⟨ob,hob⟩:∃ob,ob=w2.heap.size:=⟨_,rfl⟩
   rw[←hob]at HYB HBB hzb ⊢
   have hob0:W0.heap.size≤ob:=by omega
   clear hWb yb hbb d0 d1 d2 df0 df1 df2 q0 q1 q2 hob hBb hb2 hws2
   go_loopw [9] (fun i wr=>∃(k ck:Nat) (Ak:Option Addr) (zs:List MA),k≤rs.length∧i=.int .i64 k∧Hid (wr.heap[ob]? =some (.cells #[.int .i64 (tk+k),.int .i64 ls,.slice Ak zs.length ck] 66 (0,0)))∧Hid (fldOf (tk+k) ls zs=runG g (fldOf tk ls xs) ((rs.take k).map RA.os))∧Hid (FldR wr wr.heap.size Ak ck zs)∧Hid (Blks (fun d=>W0.heap.size≤d∧d≠ob) Ak zs)∧Hid (NilW zs)∧Below W0.heap.size W0 wr∧ob<wr.heap.size) (fun i _=>rs.length-(intOf i).toNat)
   case atStart=>exact⟨0,c2,A2,ys,Nat.zero_le _,rfl,zh (by simpa using HYB.out),zh (by unfold fldOf runG;simp[HYS.out]),HFB,HBB,HNY,hBW,by omega⟩
   case round=>
    obtain⟨k,ck,Ak,zs,hk,rfl,hxk,hzf,hzr,hzb2,hzn,hb,hl2r⟩:=hrel
    have hbs:=hb.size
    have hrun:=run_ok hok hu ((rs.take k).map RA.os) HOF.out (by have:=HTK.out;show tk+_≤_;simp[Nat.min_eq_left hk];omega)
    by_cases hlt:k<rs.length
    ·obtain⟨x,hx⟩:∃x,x=rs[k]:=⟨_,rfl⟩
     have hxm:x∈rs:=by rw[hx];exact List.getElem_mem hlt
     have HXO:=zh (HRR.out.each x hxm)
     have hxo:=HON.out x hxm
     have HX:=zh hx
     obtain⟨rb,roff,er,hrb,x0⟩:=HRR.out.row.get1 (k:=k) (by simpa using hlt) (by rw[List.getElem_map,←hx];rfl)
     have HER:=zh er
     have HRUN:=zh hrun
     rw[er]
     clear hx hxm hrun er
     obtain⟨os,oA,oc⟩:=x
     simp only at x0 HXO hxo
     have hcw:=(bcell hb).1
     go_wp2_with fail
     go_loopw [10] (fun i wv=>∃(j cj:Nat) (Aj:Option Addr) (us:List MA),j≤os.length∧i=.int .i64 j∧Hid (wv.heap[ob]? =some (.cells #[.int .i64 (tk+k),.int .i64 ls,.slice Aj us.length cj] 66 (0,0)))∧Hid (fldOf (tk+k) ls us=rndG g (runG g (fldOf tk ls xs) ((rs.take k).map RA.os)) (os.take j))∧Hid (FldR wv wv.heap.size Aj cj us)∧Hid (Blks (fun d=>W0.heap.size≤d∧d≠ob) Aj us)∧Hid (NilW us)∧Below W0.heap.size W0 wv∧ob<wv.heap.size) (fun i _=>os.length-(intOf i).toNat)
     case atStart=>exact⟨0,ck,Ak,zs,Nat.zero_le _,rfl,hxk,zh (by rw[hzf.out];simp[rndG]),hzr,hzb2,hzn,hb,hl2r⟩
     case round=>
      obtain⟨j,cj,Aj,us,hj,rfl,hxj,huf,hur,hub,hun,hbj,hl2j⟩:=hrel
      have hbsj:=hbj.size
      have hokj:=rnd_ok hok hu (os.take j) HRUN.out.1
      rw[←huf.out]at hokj
      have HOKJ:=zh hokj
      have kx:=hxj.out
      (obtain⟨q0,qf0,q1,qf1,q2,qf2⟩:=cv3 kx)
      have hcj:=(bcell hbj).1
      have hyr:rb<wr.heap.size:=by omega
      have hwl:w.heap.size<wr.heap.size:=by omega
      clear kx hokj hcw
      have HBJ:=zh hbj
      by_cases hlj:j<os.length
      ·obtain⟨o,ho⟩:∃o,o=os[j]:=⟨_,rfl⟩
       obtain⟨ob2,ooff,eo,hobl,z0,z1,z2⟩:=HXO.out.get3 (k:=j) (by simpa using hlj) (by rw[List.getElem_map,←ho];rfl)
       rw[eo]at x0
       have HO:=zh ho
       have HEO:=zh eo
       have hyo:ob2<wr.heap.size:=by omega
       have HHD:=zh (show ∀W,Below wr.heap.size wr W→Calls Tryz.prog 42 #[(.agg #[.int .i64 g.blur,.slice a.pS g.sta.length a.cs,.slice a.pM g.mov.length a.cm,.slice a.pZ g.zon.length a.cz]),(.agg #[.int .i64 (tk+k),.int .i64 ls,.slice Aj us.length cj]),.agg #[.string o.mir,.string o.sta,.bool o.lost]] W fun e w'=>∃tk3 ls3 A3 c3 vs,e=.returned (.tuple #[(.agg #[.int .i64 tk3,.int .i64 ls3,.slice A3 vs.length c3]),.int .i64 (heardE g (fldOf (tk+k) ls us) o)])∧(heardE g (fldOf (tk+k) ls us) o=0→fldOf tk3 ls3 vs=heardG g (fldOf (tk+k) ls us) o∧NilW vs)∧FldR w' w'.heap.size A3 c3 vs∧Fresh W.heap.size A3 vs∧Below W.heap.size W w' from fun W hW=>by
        refine Calls.mono (rHeard_c a g (tk+k) ls Aj cj us o W hok hu HOKJ.out hun.out (HG.out.to (HBJ.out.trans (hW.mono HBJ.out.size))) (hur.out.to hW)) ?_
        rintro e w' ⟨⟨h1,rfl⟩|⟨h1,A',c',vs,rfl,h2,h3,h4,h5⟩,hb⟩
        ·exact⟨0,0,none,0,[],rfl,fun h=>absurd h h1,FldR.nil_ _ _,blks_nil,hb⟩
        ·exact⟨_,_,A',c',vs,by rw[h1],fun _=>⟨h2,h5⟩,h3.fld,⟨fun _ a ha=>own_block h3 a ha,fun x hx _ a ha=>h4 x hx a ha⟩,hb⟩)
       obtain⟨E,hE⟩:∃E,E=heardE g (fldOf (tk+k) ls us) o:=⟨_,rfl⟩
       rw[←hE]at HHD
       have HEE:=zh hE
       clear ho eo hE
       go_upto_region 12 with fail
       go_cut [11,12] (fun s11 s12 wx=>∃nb:Nat,s11=.pointer (some ⟨nb,0,none⟩)∧s12=.int .i64 E∧NBox wr E (heardG g (fldOf (tk+k) ls us) o) nb ob wx)
       case first=>
        go_region_held3 (SHd wr) ((refine Sh.goal ?_;exact zsh)) (first|(go_at_call 42;(with_reducible refine Calls.mono (HHD.out _ (by exact zbl)) ?_);rintro e w3 ⟨tk3,ls3,A3,c3,vs,rfl,hv3,hf3,hr3,hb⟩;(have HV3:=zh hv3);(have HF3:=zh hf3);(have HR3:=zh hr3);clear hv3 hf3 hr3;(obtain⟨hcc,hff⟩:=bcell hb;have hzz:=hb.size;(try simp at hzz);(try have z1:wr.heap.size+1<w3.heap.size:=by omega);(try have z2:wr.heap.size+2<w3.heap.size:=by omega);(try have z3:wr.heap.size+3<w3.heap.size:=by omega);(try have z4:wr.heap.size+4<w3.heap.size:=by omega);(try have z5:wr.heap.size+5<w3.heap.size:=by omega);(try have z0:wr.heap.size<w3.heap.size:=by omega);(try(have zy1:=Nat.lt_of_succ_le hzz;(try(have zy2:=Nat.lt_of_succ_lt zy1;(try have zy3:=Nat.lt_of_succ_lt zy2))))));(have hb3:=hb);clear hb))
        all_goals
         go_wp2_with fail
         go_meet
        ·exact⟨_,rfl,rfl,nBox1 (by exact zbl) HV3.out HF3.out HR3.out⟩
        ·exact⟨_,rfl,rfl,nBox2 (show Below wr.heap.size wr _ by exact zbl) hb3 (Nat.le_refl _) (heap_alloc_new _ _) HV3.out HF3.out HR3.out⟩
       case rest=>
        obtain⟨nb,rfl,rfl,hnb⟩:=hcut
        obtain⟨Wn,rfl⟩:∃W,W=wc:=⟨wc,rfl⟩
        obtain⟨tk3,ls3,A3,c3,vs,k3,e3,f3,b3⟩:=hnb.ex
        have hlw:=hnb.low
        have hnl:=hnb.lo
        have hls:=hlw.size
        have kob:=(hlw.block ob hl2j).trans hxj.out
        have yn:=blk_lt k3
        have yo:=blk_lt kob
        (obtain⟨r0,rf0,r1,rf1,r2,rf2⟩:=cv3 k3)
        (obtain⟨s0,sf0,s1,sf1,s2,sf2⟩:=cv3 kob)
        have KOB:=zh kob
        have HEX:=zh e3
        have HFX:=zh f3
        have HBX:=zh b3
        have HLW:=zh hlw
        clear hnb k3 kob e3 f3 b3 hlw q0 q1 q2 qf0 qf1 qf2 rf0 rf1 rf2 z0 z1 z2
        cases h0:(E==0)
        case false=>
         have hne:E≠0:=by simpa using h0
         have HSAME:=zh (show heardG g (fldOf (tk+k) ls us) o=fldOf (tk+k) ls us by unfold heardG;rw[←HEE.out,if_pos (.inl hne)])
         clear hne
         go_wp2_with fail
         go_roundw
         case rel=>
          first|refine⟨j+1,cj,Aj,us,by omega,by go_num,KOB,zh ?_,zh (hur.out.to HLW.out),hub,hun,HBJ.out.trans (HLW.out.mono HBJ.out.size),by omega⟩|((repeat apply Exists.intro);refine⟨?_,rfl⟩;refine⟨j+1,cj,Aj,us,by omega,by go_num,KOB,zh ?_,zh (hur.out.to HLW.out),hub,hun,HBJ.out.trans (HLW.out.mono HBJ.out.size),by omega⟩)
          rw[List.take_succ_eq_append_getElem hlj,←HO.out,rnd_snoc,←huf.out,HSAME.out]
         case measure=>simp[intOf];omega
        case true=>
         have he0:E=0:=by simpa using h0
         have hv:=HEX.out he0
         have HVF:=zh hv.1
         have HVN:=zh hv.2
         have ht3:tk3=tk+k∧ls3=ls:=by
          have h1:=(heard_tick g (fldOf (tk+k) ls us) o)
          rw[←hv.1]at h1
          exact h1
         obtain⟨rfl,rfl⟩:=ht3
         clear he0 hv
         go_wp2_with fail
         go_roundw
         case rel=>
          have hblk:Blks (fun d=>W0.heap.size≤d∧d≠ob) A3 vs:=HBX.out.imp fun d hd=>by constructor<;>omega
          first|refine⟨j+1,c3,A3,vs,by omega,by go_num,zh (set3_block KOB.out),zh ?_,zh ((HFX.out.set3 _ _ _ (hblk.imp fun d hd=>hd.2)).more (by simp)),zh hblk,HVN,Below.set3 (HBJ.out.trans (HLW.out.mono HBJ.out.size)) (by omega) _ _ _,by simp;omega⟩|((repeat apply Exists.intro);refine⟨?_,rfl⟩;refine⟨j+1,c3,A3,vs,by omega,by go_num,zh (set3_block KOB.out),zh ?_,zh ((HFX.out.set3 _ _ _ (hblk.imp fun d hd=>hd.2)).more (by simp)),zh hblk,HVN,Below.set3 (HBJ.out.trans (HLW.out.mono HBJ.out.size)) (by omega) _ _ _,by simp;omega⟩)
          rw[HVF.out,huf.out,List.take_succ_eq_append_getElem hlj,←HO.out,rnd_snoc]
         case measure=>simp[intOf];omega
      ·have hjl:j=os.length:=by omega
       have HJL:=zh hjl
       have htk3:tk+(k:Int)<20000000:=by have:=HTK.out;omega
       clear hjl
       go_wp2_with (go_at_call 43;(with_reducible refine Calls.mono (rStepped_c a g (tk+k) ls Aj cj us _ hok hu HOKJ.out hun.out (HG.out.to HBJ.out) hur.out) ?_);rintro e w3 ⟨A3,c3,vs,rfl,hvf,ho3,hfr3,hn3,hb3⟩;(have HVF:=zh hvf);(have HF3:=zh ho3.fld);(have HFR3:=zh (show Fresh wr.heap.size A3 vs from⟨fun _ a ha=>own_block ho3 a ha,fun x hx _ a ha=>hfr3 x hx a ha⟩));(have HN3:=zh hn3);clear hvf ho3 hfr3 hn3;(have hbs3:=hb3.size);(have k3:=(hb3.block ob hl2j).trans hxj.out);(obtain⟨r0,rf0,r1,rf1,r2,rf2⟩:=cv3 k3);(have HK3:=zh k3);clear k3)
       go_roundw
       case rel=>
        have hblk:Blks (fun d=>W0.heap.size≤d∧d≠ob) A3 vs:=HFR3.out.imp fun d hd=>by constructor<;>omega
        refine⟨k+1,c3,A3,vs,by omega,by go_num,zh ?_,zh ?_,zh ((HF3.out.set3 _ _ _ (hblk.imp fun d hd=>hd.2)).more (by simp)),zh hblk,HN3,Below.set3 (HBJ.out.trans (hb3.mono (by omega))) (by omega) _ _ _,by simp;omega⟩
        ·rw[set3_block HK3.out]
         simp[Int.add_assoc]
        ·have e1:fldOf (tk+((k+1:Nat):Int)) ls vs=fldOf (tk+k+1) ls vs:=by simp[Int.add_assoc]
         rw[e1,HVF.out,huf.out,HJL.out,List.take_length,List.take_succ_eq_append_getElem hlt,List.map_append,←HX.out,List.map_cons,List.map_nil,run_snoc]
       case measure=>simp[intOf];omega
    ·have hkl:k=rs.length:=by omega
     have HKL:=zh hkl
     have kx:=hxk.out
     (obtain⟨q0,qf0,q1,qf1,q2,qf2⟩:=cv3 kx)
     have k2:=(hb.block (w.heap.size+1+1) l2).trans K2.out
     (obtain⟨d0,df0,d1,df1,d2,df2⟩:=cv3 k2)
     have HK2:=zh k2
     clear hkl k2 kx hrun
     go_wp2_with fail
     refine bodyPost_ret (Tryz.rres_fld2 rfl _ _ rfl (set3_block HK2.out)) rfl ?_
     refine⟨tk+k,ls,Ak,ck,zs,by rw[HE.out];rfl,?_,?_,Below.set3 (HB0.out.trans (hb.mono (by omega))) (by omega) _ _ _,hzb2.out.imp fun d hd=>by have:=hd.1;omega⟩
     ·unfold rrF
      rw[List.length_map,show(fldOf tk ls xs).tick=tk from rfl,if_pos HE.out,hzf.out,HKL.out,List.take_length]
     ·exact(hzr.out.set3 _ _ _ (hzb2.out.imp fun d hd e=>by have:=hd.1;omega)).more (by simp)
theorem runE_bad{g:Grd}{f:Fld}{n:Nat}(h:fieldC g f≠0):runE g f n=fieldC g f:=by
 unfold runE firstErr;rw[if_neg h]
theorem RndR.to{w w':World}{A:Option Addr}{rs:List RA}(h:RndR w w.heap.size A rs)(hb:Below w.heap.size w w'):RndR w' w'.heap.size A rs:=
 ⟨Rw.more (Rw.belowB (w0:=w) h.row hb (Nat.le_refl _)) hb.size,fun x hx=>Rw.more (Rw.belowB (w0:=w) (h.each x hx) hb (Nat.le_refl _)) hb.size⟩
theorem bcellq{w w':World}(hb:Below w.heap.size w w'):∀b o,b<w.heap.size→w'.cell? ⟨b,o,none⟩=w.cell? ⟨b,o,none⟩:=fun b o h=>hb.cell (p:=⟨b,o,none⟩) h
theorem take_allP{α:Type}{P:α→Prop}{l:List α}{k:Nat}(hk:k<l.length)(h:∀x∈l.take k,P x)(hp:P l[k]):∀x∈l.take (k+1),P x:=by
 rw[List.take_succ_eq_append_getElem hk]
 intro x hx
 rcases List.mem_append.1 hx with hx|hx
 ·exact h x hx
 ·simp only[List.mem_singleton]at hx;subst hx;exact hp
theorem os_len{rs zs:List RA}{n:Nat}(h:zs.map RA.os=rs.map RA.os)(hn:∀x∈rs,x.os.length≤n):∀x∈zs,x.os.length≤n:=fun x hx=>by
 have h1:x.os∈rs.map RA.os:=by rw[←h];exact List.mem_map_of_mem hx
 obtain⟨y,hy,e⟩:=List.mem_map.1 h1
 rw[←e];exact hn y hy
theorem runF_ok{g:Grd}{f:Fld}{rs:List (List Ord)}(h:fieldC g f=0):runF g f rs=rrF g f rs:=by unfold runF rrF;rw[runE_ok h]
theorem run_b(g:Grd)(f:Fld)(rs:List (List Ord)):FldB (runF g f rs):=by
 unfold runF
 split
 ·rename_i h
  have h0:fieldC g f=0:=firstErr_zero h _ (by simp)
  have h1:whn (decide (10000000-(rs.length:Int)<f.tick)) 3=0:=firstErr_zero h _ (by simp)
  have h2:=of_decide_eq_false (whn_zero (n:=3) h1 (by decide))
  exact FldB.ok (run_ok (gridC_ok (fieldC_grid h0)) (gridC_uniq (fieldC_grid h0)) rs (fieldC_fld h0) (by omega)).1
 ·exact FldB.zero
set_option maxRecDepth 100000 in
set_option maxHeartbeats 16000000 in
theorem BeamRuns_c(a:GA)(g:Grd)(tk ls:Int)(A:Option Addr)(c:Nat)(xs:List MA)(RA_:Option Addr)(rc:Nat)(rs:List RA)(w:World)(hr:GridR w w.heap.size a g)(hf:FldR w w.heap.size A c xs)(hz:NilW xs)(hrr:RndR w w.heap.size RA_ rs)(hk:KindsAt w)(hp:PowAt w):
 Calls Tryz.prog 6 #[(.agg #[.int .i64 g.blur,.slice a.pS g.sta.length a.cs,.slice a.pM g.mov.length a.cm,.slice a.pZ g.zon.length a.cz]),(.agg #[.int .i64 tk,.int .i64 ls,.slice A xs.length c]),.slice RA_ rs.length rc] w fun e w'=>e=.returned (.bool true)∧Below w.heap.size w w':=by
 obtain⟨W0,hW0⟩:∃W0,W0=(w.alloc (.cells #[.int .i64 g.blur,.slice a.pS g.sta.length a.cs,.slice a.pM g.mov.length a.cm,.slice a.pZ g.zon.length a.cz] 26)).alloc (.cells #[.int .i64 tk,.int .i64 ls,.slice A xs.length c] 66):=⟨_,rfl⟩
 have k0:W0.heap[w.heap.size]? =some (.cells #[.int .i64 g.blur,.slice a.pS g.sta.length a.cs,.slice a.pM g.mov.length a.cm,.slice a.pZ g.zon.length a.cz] 26 (0,0)):=by rw[hW0];exact(Below.heap_alloc _ _ _ (by simp)).trans (heap_alloc_new w _)
 have k1:W0.heap[w.heap.size+1]? =some (.cells #[.int .i64 tk,.int .i64 ls,.slice A xs.length c] 66 (0,0)):=by rw[hW0];exact heap_two w _ _
 have hB0:Below w.heap.size w W0:=by rw[hW0];(repeat first|(with_reducible first|assumption|exact Below.refl _ _|refine Bl.drew ?_|refine Bl.drewN ?_ _|refine Bl.alloc ?_ _|refine Bl.set ?_ _ ?_)|(with_reducible apply Bl.step';(focus(with_reducible assumption)))|omega|(focus(simp;done))|(focus(simp;omega)))
 have HG:Hid (GridR W0 W0.heap.size a g):=zh (hr.to hB0)
 have HF:=zh (FldR.to hf hB0)
 have HR:=zh (RndR.to hrr hB0)
 have HKD:Hid (KindsAt W0):=zh (hk.to hB0)
 have HPW:Hid (PowAt W0):=zh (hp.to hB0)
 have HB0:=zh hB0
 have HNW:=zh hz
 have z0:=bk_lt k0
 have z1:=bk_lt k1
 clear hr hk hp hf hz hrr hB0
 (obtain⟨d0,d1,d2,d3⟩:=cg4 k0)
 (obtain⟨q0,qf0,q1,qf1,q2,qf2⟩:=cv3 k1)
 clear k0 k1 qf0 qf1 qf2
 have hSH:=fun W (h:GridR W W.heap.size a g)=>rShort_c a g W h
 have hSF:=fun W (h:FldR W W.heap.size A c xs)=>rShortF_c tk ls A c xs W h
 cases hsh:shortG g
 ·rw[hsh]at hSH
  have HSH:=zh hSH
  clear hSH hsh hSF
  go_enter Tryz.func6,Tryz.ntmps6
  go_upto_region 1 with fail
  rw[←hW0]
  clear hW0
  go_wp2_with (first|(go_at_call 15;(with_reducible refine Calls.mono (HSH.out _ (HG.out.to (by exact zbl))) ?_);rintro e wA ⟨rfl,hbA⟩;(have hq_wA:Below W0.heap.size W0 wA:=by exact zbl);(have hc_wA:=(bcell hq_wA).1);(have y0_wA:w.heap.size<wA.heap.size:=Nat.lt_of_lt_of_le z0 hq_wA.size);(have y1_wA:w.heap.size+1<wA.heap.size:=Nat.lt_of_lt_of_le z1 hq_wA.size);clear hq_wA)|(go_at_call 16;(with_reducible refine Calls.mono (awake_c _ (HKD.out.to (by exact zbl)) (HPW.out.to (by exact zbl))) ?_);rintro e wK ⟨rfl,hbK⟩))
  go_ret
  exact⟨rfl,HB0.out.trans ((show Below W0.heap.size W0 _ by exact zbl).mono HB0.out.size)⟩
 ·rw[hsh]at hSH
  have HSH:=zh hSH
  have hsm:=short_small hsh
  clear hSH hsh
  cases hsf:shortF xs
  ·rw[hsf]at hSF
   have HSF:=zh hSF
   clear hSF hsf
   go_enter Tryz.func6,Tryz.ntmps6
   go_upto_region 1 with fail
   rw[←hW0]
   clear hW0
   go_wp2_with (first|(go_at_call 15;(with_reducible refine Calls.mono (HSH.out _ (HG.out.to (by exact zbl))) ?_);rintro e wA ⟨rfl,hbA⟩;(have hq_wA:Below W0.heap.size W0 wA:=by exact zbl);(have hc_wA:=(bcell hq_wA).1);(have y0_wA:w.heap.size<wA.heap.size:=Nat.lt_of_lt_of_le z0 hq_wA.size);(have y1_wA:w.heap.size+1<wA.heap.size:=Nat.lt_of_lt_of_le z1 hq_wA.size);clear hq_wA)|(go_at_call 37;(with_reducible refine Calls.mono (HSF.out _ (HF.out.to (by exact zbl))) ?_);rintro e wB ⟨rfl,hbB⟩;(have hq_wB:Below W0.heap.size W0 wB:=by exact zbl);(have hc_wB:=(bcell hq_wB).1);(have y0_wB:w.heap.size<wB.heap.size:=Nat.lt_of_lt_of_le z0 hq_wB.size);(have y1_wB:w.heap.size+1<wB.heap.size:=Nat.lt_of_lt_of_le z1 hq_wB.size);clear hq_wB)|(go_at_call 16;(with_reducible refine Calls.mono (awake_c _ (HKD.out.to (by exact zbl)) (HPW.out.to (by exact zbl))) ?_);rintro e wK ⟨rfl,hbK⟩))
   go_ret
   exact⟨rfl,HB0.out.trans ((show Below W0.heap.size W0 _ by exact zbl).mono HB0.out.size)⟩
  ·rw[hsf]at hSF
   have HSF:=zh hSF
   have hsmf:=short_fld hsf
   clear hSF hsf
   obtain⟨bq,hq⟩:∃b,b=(decide ((20:Int)<(rs.length:Int))&&((rs.length:Int)!=257)):=⟨_,rfl⟩
   have HQ:=zh hq
   clear hq
   go_enter Tryz.func6,Tryz.ntmps6
   go_upto_region 1 with fail
   rw[←hW0]
   clear hW0
   go_cut [38] (fun s38 wx=>s38=.bool bq∧Below W0.heap.size W0 wx)
   case first=>
    cases h20:decide ((20:Int)<(rs.length:Int))
    case false=>
     go_wp2_with (first|(go_at_call 15;(with_reducible refine Calls.mono (HSH.out _ (HG.out.to (by exact zbl))) ?_);rintro e wA ⟨rfl,hbA⟩;(have hq_wA:Below W0.heap.size W0 wA:=by exact zbl);(have hc_wA:=(bcell hq_wA).1);(have y0_wA:w.heap.size<wA.heap.size:=Nat.lt_of_lt_of_le z0 hq_wA.size);(have y1_wA:w.heap.size+1<wA.heap.size:=Nat.lt_of_lt_of_le z1 hq_wA.size);clear hq_wA)|(go_at_call 37;(with_reducible refine Calls.mono (HSF.out _ (HF.out.to (by exact zbl))) ?_);rintro e wB ⟨rfl,hbB⟩;(have hq_wB:Below W0.heap.size W0 wB:=by exact zbl);(have hc_wB:=(bcell hq_wB).1);(have y0_wB:w.heap.size<wB.heap.size:=Nat.lt_of_lt_of_le z0 hq_wB.size);(have y1_wB:w.heap.size+1<wB.heap.size:=Nat.lt_of_lt_of_le z1 hq_wB.size);clear hq_wB))
     go_meet
     exact⟨by rw[HQ.out,h20];rfl,by exact zbl⟩
    case true=>
     cases h257:((rs.length:Int)!=257)
     case false=>
      go_wp2_with (first|(go_at_call 15;(with_reducible refine Calls.mono (HSH.out _ (HG.out.to (by exact zbl))) ?_);rintro e wA ⟨rfl,hbA⟩;(have hq_wA:Below W0.heap.size W0 wA:=by exact zbl);(have hc_wA:=(bcell hq_wA).1);(have y0_wA:w.heap.size<wA.heap.size:=Nat.lt_of_lt_of_le z0 hq_wA.size);(have y1_wA:w.heap.size+1<wA.heap.size:=Nat.lt_of_lt_of_le z1 hq_wA.size);clear hq_wA)|(go_at_call 37;(with_reducible refine Calls.mono (HSF.out _ (HF.out.to (by exact zbl))) ?_);rintro e wB ⟨rfl,hbB⟩;(have hq_wB:Below W0.heap.size W0 wB:=by exact zbl);(have hc_wB:=(bcell hq_wB).1);(have y0_wB:w.heap.size<wB.heap.size:=Nat.lt_of_lt_of_le z0 hq_wB.size);(have y1_wB:w.heap.size+1<wB.heap.size:=Nat.lt_of_lt_of_le z1 hq_wB.size);clear hq_wB))
      go_meet
      exact⟨by rw[HQ.out,h20,h257];rfl,by exact zbl⟩
     case true=>
      go_wp2_with (first|(go_at_call 15;(with_reducible refine Calls.mono (HSH.out _ (HG.out.to (by exact zbl))) ?_);rintro e wA ⟨rfl,hbA⟩;(have hq_wA:Below W0.heap.size W0 wA:=by exact zbl);(have hc_wA:=(bcell hq_wA).1);(have y0_wA:w.heap.size<wA.heap.size:=Nat.lt_of_lt_of_le z0 hq_wA.size);(have y1_wA:w.heap.size+1<wA.heap.size:=Nat.lt_of_lt_of_le z1 hq_wA.size);clear hq_wA)|(go_at_call 37;(with_reducible refine Calls.mono (HSF.out _ (HF.out.to (by exact zbl))) ?_);rintro e wB ⟨rfl,hbB⟩;(have hq_wB:Below W0.heap.size W0 wB:=by exact zbl);(have hc_wB:=(bcell hq_wB).1);(have y0_wB:w.heap.size<wB.heap.size:=Nat.lt_of_lt_of_le z0 hq_wB.size);(have y1_wB:w.heap.size+1<wB.heap.size:=Nat.lt_of_lt_of_le z1 hq_wB.size);clear hq_wB))
      go_meet
      exact⟨by rw[HQ.out,h20,h257];rfl,by exact zbl⟩
   case rest=>
    obtain⟨rfl,hbq⟩:=hcut
    obtain⟨Wq,rfl⟩:∃W,W=wc:=⟨wc,rfl⟩
    cases bq
    case true=>
     have HBQ:=zh hbq
     go_wp2_with (go_at_call 16;(with_reducible refine Calls.mono (awake_c _ (HKD.out.to (HBQ.out.trans (Below.mono (by exact zbl) HBQ.out.size))) (HPW.out.to (HBQ.out.trans (Below.mono (by exact zbl) HBQ.out.size)))) ?_);rintro e wK ⟨rfl,hbK⟩)
     go_ret
     exact⟨rfl,HB0.out.trans ((HBQ.out.trans (Below.mono (by exact zbl) HBQ.out.size)).mono HB0.out.size)⟩
    case false=>
     have hrl:rs.length≤257:=by
      have h:=HQ.out
      cases h20:decide ((20:Int)<(rs.length:Int))with
      |false=>have:=of_decide_eq_false h20;omega
      |true=>rw[h20,Bool.true_and]at h;have:=bne_eq_false_iff_eq.1 h.symm;omega
     go_wp2_with fail
     go_loopw [42] (fun i wr=>∃k:Nat,k≤rs.length∧i=.int .i64 k∧Hid (∀x∈rs.take k,x.os.length≤6)∧Below W0.heap.size W0 wr) (fun i _=>rs.length-(intOf i).toNat)
     case atStart=>exact⟨0,Nat.zero_le _,rfl,zh (by simp),hbq⟩
     case round=>
      clear hbq
      obtain⟨k,hk,rfl,hal,hb⟩:=hrel
      have hbs:=hb.size
      have hcw:=(bcell hb).1
      have HBR:=zh hb
      by_cases hlt:k<rs.length
      ·obtain⟨x,hx⟩:∃x,x=rs[k]:=⟨_,rfl⟩
       have hxm:x∈rs:=by rw[hx];exact List.getElem_mem hlt
       have HXO:=zh (HR.out.each x hxm)
       obtain⟨rb,roff,er,hrb,x0⟩:=HR.out.row.get1 (k:=k) (by simpa using hlt) (by rw[List.getElem_map,←hx];rfl)
       have HER:=zh er
       have HX:=zh hx
       rw[er]
       clear hx hxm er
       obtain⟨os,oA,oc⟩:=x
       simp only at x0 HXO
       have yrb:rb<wr.heap.size:=by omega
       cases h6:decide ((6:Int)<(os.length:Int))
       case true=>
        go_wp2_with (go_at_call 16;(with_reducible refine Calls.mono (awake_c _ (HKD.out.to (HBR.out.trans (Below.mono (by exact zbl) HBR.out.size))) (HPW.out.to (HBR.out.trans (Below.mono (by exact zbl) HBR.out.size)))) ?_);rintro e wK ⟨rfl,hbK⟩)
        go_ret
        exact⟨rfl,HB0.out.trans ((HBR.out.trans (Below.mono (by exact zbl) HBR.out.size)).mono HB0.out.size)⟩
       case false=>
        have h6n:os.length≤6:=by have:=of_decide_eq_false h6;omega
        have H6:=zh h6n
        obtain⟨U,hU⟩:∃U,U=wr:=⟨_,rfl⟩
        subst hU
        go_wp2_with fail
        go_loopw [52] (fun i wv=>∃j:Nat,j≤os.length∧i=.int .i64 j∧Below U.heap.size U wv) (fun i _=>os.length-(intOf i).toNat)
        case atStart=>exact⟨0,Nat.zero_le _,rfl,Below.refl _ _⟩
        case round=>
         obtain⟨j,hj,rfl,hbu⟩:=hrel
         have hbus:=hbu.size
         have hBW:Below W0.heap.size W0 wr:=HBR.out.trans (hbu.mono HBR.out.size)
         have HBW:=zh hBW
         have hcu:=(bcell hBW).1
         by_cases hlj:j<os.length
         ·obtain⟨o,ho⟩:∃o,o=os[j]:=⟨_,rfl⟩
          obtain⟨ob,ooff,eo,hobl,u0,u1,u2⟩:=HXO.out.get3 (k:=j) (by simpa using hlj) (by rw[List.getElem_map,←ho];rfl)
          rw[eo]
          have yob:ob<wr.heap.size:=by omega
          have HEO:=zh eo
          clear ho eo hcw
          cases h40:decide ((40:Int)<(o.mir.size:Int))
          case true=>
           go_wp2_with (go_at_call 16;(with_reducible refine Calls.mono (awake_c _ (HKD.out.to (HBW.out.trans (Below.mono (by exact zbl) HBW.out.size))) (HPW.out.to (HBW.out.trans (Below.mono (by exact zbl) HBW.out.size)))) ?_);rintro e wK ⟨rfl,hbK⟩)
           go_ret
           exact⟨rfl,HB0.out.trans ((HBW.out.trans (Below.mono (by exact zbl) HBW.out.size)).mono HB0.out.size)⟩
          case false=>
           cases h41:decide ((40:Int)<(o.sta.size:Int))
           case true=>
            go_wp2_with (go_at_call 16;(with_reducible refine Calls.mono (awake_c _ (HKD.out.to (HBW.out.trans (Below.mono (by exact zbl) HBW.out.size))) (HPW.out.to (HBW.out.trans (Below.mono (by exact zbl) HBW.out.size)))) ?_);rintro e wK ⟨rfl,hbK⟩)
            go_ret
            exact⟨rfl,HB0.out.trans ((HBW.out.trans (Below.mono (by exact zbl) HBW.out.size)).mono HB0.out.size)⟩
           case false=>
            go_wp2_with fail
            go_roundw
            case rel=>exact⟨j+1,by omega,by go_num,by exact zbl⟩
            case measure=>simp[intOf];omega
         ·go_wp2_with fail
          go_roundw
          case rel=>exact⟨k+1,by omega,by go_num,zh (take_allP hlt hal.out (by rw[←HX.out];exact H6.out)),HBW.out⟩
          case measure=>simp[intOf];omega
      ·have hkl:k=rs.length:=by omega
       have hal6:∀x∈rs,x.os.length≤6:=by have h:=hal.out;rw[hkl,List.take_length]at h;exact h
       clear hkl hk hal
       obtain⟨B,hB⟩:∃B,B=fieldC g (fldOf tk ls xs):=⟨_,rfl⟩
       obtain⟨E1,hE1⟩:∃E,E=runE g (fldOf tk ls xs) rs.length:=⟨_,rfl⟩
       obtain⟨X1,hX1⟩:∃X,X=runF g (fldOf tk ls xs) (rs.map RA.os):=⟨_,rfl⟩
       obtain⟨L,hL⟩:∃L,L=if fieldC g (fldOf tk ls xs)=0 then litG g (fldOf tk ls xs)else []:=⟨_,rfl⟩
       obtain⟨dk,hdk⟩:∃d,d=darkG g (fldOf tk ls xs):=⟨_,rfl⟩
       obtain⟨DK,hDK⟩:∃d,d=(decide (fieldC g (fldOf tk ls xs)=0)&&darkG g (fldOf tk ls xs)):=⟨_,rfl⟩
       have hfe:∀ys:List MA,ys.map MA.m=xs.map MA.m→fldOf tk ls ys=fldOf tk ls xs:=fun ys h=>by unfold fldOf;rw[h]
       have hon:∀x∈rs,x.os.length≤1000:=fun x hx=>Nat.le_trans (hal6 x hx) (by decide)
       have hll:xs.length≤1000:=by have:=hsmf.2;omega
       have hlL:L.length≤1000:=by rw[hL];split;(rw[litG_eqn];exact Nat.le_trans (nmsP_len _ _) hll);simp
       have HCF:=zh (show ∀W,GridR W W.heap.size a g→FldR W W.heap.size A c xs→Calls Tryz.prog 41 #[(.agg #[.int .i64 g.blur,.slice a.pS g.sta.length a.cs,.slice a.pM g.mov.length a.cm,.slice a.pZ g.zon.length a.cz]),(.agg #[.int .i64 tk,.int .i64 ls,.slice A xs.length c])] W fun e w'=>e=.returned (.int .i64 B)∧Below W.heap.size W w' from fun W h1 h2=>by
        rw[hB];exact rCheckField_c a g tk ls A c xs W hsm hll hsmf.1.way (fun x hx=>⟨hsmf.1.name x hx,hsmf.1.sec x hx⟩) h1 h2)
       have HRN:=zh (show ∀W a' A' c' ys RA' rc' zs,GridR W W.heap.size a' g→KindsAt W→ys.map MA.m=xs.map MA.m→FldR W W.heap.size A' c' ys→zs.map RA.os=rs.map RA.os→RndR W W.heap.size RA' zs→Calls Tryz.prog 46 #[(.agg #[.int .i64 g.blur,.slice a'.pS g.sta.length a'.cs,.slice a'.pM g.mov.length a'.cm,.slice a'.pZ g.zon.length a'.cz]),(.agg #[.int .i64 tk,.int .i64 ls,.slice A' ys.length c']),.slice RA' (List.length zs) rc'] W fun e w'=>∃tk1 ls1 A1 c1 us,e=.returned (.tuple #[(.agg #[.int .i64 tk1,.int .i64 ls1,.slice A1 us.length c1]),.int .i64 E1])∧fldOf tk1 ls1 us=X1∧FldR w' w'.heap.size A1 c1 us∧Below W.heap.size W w'∧Fresh W.heap.size A1 us from fun W a' A' c' ys RA' rc' zs h1 h2 h3 h4 h5 h6=>by
        have hzl:zs.length=rs.length:=by simpa using congrArg List.length h5
        have h7:=Run_c a' g tk ls A' c' ys RA' rc' zs W hsm (small_map hsmf.1 h3) h1 h2 h4 (by omega) (os_len h5 hon) h6
        have he:runE g (fldOf tk ls xs) zs.length=E1:=by rw[hzl];exact hE1.symm
        rw[hfe ys h3,h5,he,←hX1]at h7
        exact h7)
       have HLT:=zh (show ∀W a' A' c' ys,GridR W W.heap.size a' g→KindsAt W→ys.map MA.m=xs.map MA.m→FldR W W.heap.size A' c' ys→Calls Tryz.prog 48 #[(.agg #[.int .i64 g.blur,.slice a'.pS g.sta.length a'.cs,.slice a'.pM g.mov.length a'.cm,.slice a'.pZ g.zon.length a'.cz]),(.agg #[.int .i64 tk,.int .i64 ls,.slice A' ys.length c'])] W fun e w'=>∃AL cL,e=.returned (.tuple #[.slice AL L.length cL,.int .i64 B])∧StrsR w' w'.heap.size AL L∧Below W.heap.size W w' from fun W a' A' c' ys h1 h2 h3 h4=>by
        have h5:=Lit_c a' g tk ls A' c' ys W hsm (small_map hsmf.1 h3) h1 h2 h4
        rw[hfe ys h3,←hL,←hB]at h5
        refine h5.mono ?_
        rintro e w' ⟨v,rfl,ho,hb⟩
        obtain⟨AL,cL,rfl,_,h6,_⟩:=ho.sl
        exact⟨AL,cL,rfl,h6,hb⟩)
       have HDK:=zh (show ∀W a' A' c' ys,GridR W W.heap.size a' g→KindsAt W→ys.map MA.m=xs.map MA.m→FldR W W.heap.size A' c' ys→Calls Tryz.prog 49 #[(.agg #[.int .i64 g.blur,.slice a'.pS g.sta.length a'.cs,.slice a'.pM g.mov.length a'.cm,.slice a'.pZ g.zon.length a'.cz]),(.agg #[.int .i64 tk,.int .i64 ls,.slice A' ys.length c'])] W fun e w'=>e=.returned (.tuple #[.bool DK,.int .i64 B])∧Below W.heap.size W w' from fun W a' A' c' ys h1 h2 h3 h4=>by
        have h5:=Dark_c a' g tk ls A' c' ys W hsm (small_map hsmf.1 h3) h1 h2 h4
        rw[hfe ys h3,←hDK,←hB]at h5
        exact h5)
       have HFD:=zh (fun W (h:FldR W W.heap.size A c xs)=>field_c tk ls A c xs W hll hsmf.1.way HNW.out h)
       have HRD:=zh (fun W (h:RndR W W.heap.size RA_ rs)=>rounds_c RA_ rc rs W (by omega) hon h)
       have HRR:=zh (show B=0→∀W,GridR W W.heap.size a g→FldR W W.heap.size A c xs→RndR W W.heap.size RA_ rs→Calls Tryz.prog 50 #[(.agg #[.int .i64 g.blur,.slice a.pS g.sta.length a.cs,.slice a.pM g.mov.length a.cm,.slice a.pZ g.zon.length a.cz]),(.agg #[.int .i64 tk,.int .i64 ls,.slice A xs.length c]),.slice RA_ rs.length rc] W fun e w'=>∃tk1 ls1 A1 c1 us,e=.returned (.tuple #[(.agg #[.int .i64 tk1,.int .i64 ls1,.slice A1 us.length c1]),.int .i64 E1])∧fldOf tk1 ls1 us=X1∧FldR w' w'.heap.size A1 c1 us∧Below W.heap.size W w'∧Fresh W.heap.size A1 us from fun h0 W h1 h2 h3=>by
        have h4:=hB.symm.trans h0
        obtain⟨hok,hu,hof⟩:=fldOk h4
        have h5:=rRun_c a g tk ls A c xs RA_ rc rs W hok hu hof (fieldC_tick h4) HNW.out h1 h2 (by omega) hon h3
        rw[hE1,hX1,runE_ok h4,runF_ok h4]
        exact h5)
       have HRL:=zh (show B=0→∀W,GridR W W.heap.size a g→FldR W W.heap.size A c xs→Calls Tryz.prog 51 #[(.agg #[.int .i64 g.blur,.slice a.pS g.sta.length a.cs,.slice a.pM g.mov.length a.cm,.slice a.pZ g.zon.length a.cz]),(.agg #[.int .i64 tk,.int .i64 ls,.slice A xs.length c])] W fun e w'=>∃AL cL,e=.returned (.slice AL L.length cL)∧StrsR w' w'.heap.size AL L∧Below W.heap.size W w' from fun h0 W h1 h2=>by
        have h4:=hB.symm.trans h0
        obtain⟨hok,hu,hof⟩:=fldOk h4
        refine(rLit_c a g tk ls A c xs W hll hof.loc h1 h2).mono ?_
        rintro e w' ⟨v,rfl,ho,hb⟩
        obtain⟨AL,cL,rfl,_,h6,_⟩:=ho.sl
        rw[hL,if_pos h4]
        exact⟨AL,cL,rfl,h6,hb⟩)
       have HRK:=zh (show B=0→∀W,GridR W W.heap.size a g→FldR W W.heap.size A c xs→Calls Tryz.prog 53 #[(.agg #[.int .i64 g.blur,.slice a.pS g.sta.length a.cs,.slice a.pM g.mov.length a.cm,.slice a.pZ g.zon.length a.cz]),(.agg #[.int .i64 tk,.int .i64 ls,.slice A xs.length c])] W fun e w'=>e=.returned (.bool DK)∧Below W.heap.size W w' from fun h0 W h1 h2=>by
        have h4:=hB.symm.trans h0
        obtain⟨hok,hu,hof⟩:=fldOk h4
        have h5:=rDark_c a g tk ls A c xs W hll hof.loc h1 h2
        rw[hDK,decide_eq_true h4,Bool.true_and]
        exact h5)
       have hz1:E1≠0→X1=fld0:=fun h=>by rw[hX1];unfold runF;rw[List.length_map,←hE1,if_neg h]
       have hbn:B≠0→E1=B∧L= []∧DK=false:=fun h=>⟨by rw[hE1,runE_bad (by rw[←hB];exact h),hB],by rw[hL,if_neg (by rw[←hB];exact h)],by rw[hDK,decide_eq_false (by rw[←hB];exact h)];rfl⟩
       have hd1:FldB X1:=by rw[hX1];exact run_b g _ _
       have HZ1:=zh hz1
       have HBN:=zh hbn
       have HD1:=zh hd1
       clear hB hE1 hX1 hL hdk hDK hfe hon hz1 hbn hd1 hal6
       obtain⟨W3,hW3⟩:∃W,W=wr:=⟨_,rfl⟩
       subst hW3
       (have hq_W3:Below W0.heap.size W0 W3:=HBR.out);(have hc_W3:=(bcell hq_W3).1);(have y0_W3:w.heap.size<W3.heap.size:=Nat.lt_of_lt_of_le z0 hq_W3.size);(have y1_W3:w.heap.size+1<W3.heap.size:=Nat.lt_of_lt_of_le z1 hq_W3.size);(have HQ_W3:=zh hq_W3);clear hq_W3
       clear hb hbs hcw HBR
       go_upto_region 15 with fail
       go_cut [11,12] (fun s11 s12 wx=>∃b:Nat,s11=.pointer (some ⟨b,0,none⟩)∧s12=.int .i64 E1∧FBox 72 W3 X1 b wx)
       case first=>
        go_region_held3 (SHd W3) ((refine Sh.goal ?_;exact zsh)) (first|(go_at_call 18;(with_reducible refine Calls.mono (grid_c a g _ hsm (HG.out.to (HQ_W3.out.trans (Below.mono (by exact zbl) HQ_W3.out.size)))) ?_);rintro e wG5 ⟨aG5,rfl,hgG5,hb⟩;(obtain⟨hcc,hff⟩:=bcell hb;have hzz:=hb.size;(try simp at hzz);(try have z1:W3.heap.size+1<wG5.heap.size:=by omega);(try have z2:W3.heap.size+2<wG5.heap.size:=by omega);(try have z3:W3.heap.size+3<wG5.heap.size:=by omega);(try have z4:W3.heap.size+4<wG5.heap.size:=by omega);(try have z5:W3.heap.size+5<wG5.heap.size:=by omega);(try have z0:W3.heap.size<wG5.heap.size:=by omega);(try(have zy1:=Nat.lt_of_succ_le hzz;(try(have zy2:=Nat.lt_of_succ_lt zy1;(try have zy3:=Nat.lt_of_succ_lt zy2))))));(have hbG5:=hb);clear hb;(have hc_wG5:∀b o,b<W0.heap.size→wG5.cell? ⟨b,o,none⟩=W0.cell? ⟨b,o,none⟩:=(bcellq (HQ_W3.out.trans (Below.mono (by exact zbl) HQ_W3.out.size))));(have hs_wG5:=hbG5.size);(try simp at hs_wG5))|(go_at_call 39;(with_reducible refine Calls.mono (HFD.out _ (HF.out.to (HQ_W3.out.trans (Below.mono (by exact zbl) HQ_W3.out.size)))) ?_);rintro e wF5 ⟨AF5,cF5,ysF5,rfl,hmF5,hfF5,hzF5,hb⟩;(have HMF5:=zh hmF5);(have HFF5:=zh hfF5);clear hmF5 hfF5 hzF5;(obtain⟨hcc,hff⟩:=bcell hb;have hzz:=hb.size;(try simp at hzz);(try have z1:W3.heap.size+1<wF5.heap.size:=by omega);(try have z2:W3.heap.size+2<wF5.heap.size:=by omega);(try have z3:W3.heap.size+3<wF5.heap.size:=by omega);(try have z4:W3.heap.size+4<wF5.heap.size:=by omega);(try have z5:W3.heap.size+5<wF5.heap.size:=by omega);(try have zm0:wG5.heap.size<wF5.heap.size:=by omega);(try have z0:W3.heap.size<wF5.heap.size:=by omega);(try(have zy1:=Nat.lt_of_succ_le hzz;(try(have zy2:=Nat.lt_of_succ_lt zy1;(try have zy3:=Nat.lt_of_succ_lt zy2))))));(have hbF5:=hb);clear hb;(have hc_wF5:∀b o,b<W0.heap.size→wF5.cell? ⟨b,o,none⟩=W0.cell? ⟨b,o,none⟩:=(bcellq (HQ_W3.out.trans (Below.mono (by exact zbl) HQ_W3.out.size))));(have hs_wF5:=hbF5.size);(try simp at hs_wF5))|(go_at_call 47;(with_reducible refine Calls.mono (HRD.out _ (RndR.to HR.out (HQ_W3.out.trans (Below.mono (by exact zbl) HQ_W3.out.size)))) ?_);rintro e wR5 ⟨AR5,cR5,zsR5,rfl,hmR5,hrR5,hb⟩;(have HMR5:=zh hmR5);(have HRR5:=zh hrR5);clear hmR5 hrR5;(obtain⟨hcc,hff⟩:=bcell hb;have hzz:=hb.size;(try simp at hzz);(try have z1:W3.heap.size+1<wR5.heap.size:=by omega);(try have z2:W3.heap.size+2<wR5.heap.size:=by omega);(try have z3:W3.heap.size+3<wR5.heap.size:=by omega);(try have z4:W3.heap.size+4<wR5.heap.size:=by omega);(try have z5:W3.heap.size+5<wR5.heap.size:=by omega);(try have zm0:wG5.heap.size<wR5.heap.size:=by omega);(try have zm1:wF5.heap.size<wR5.heap.size:=by omega);(try have z0:W3.heap.size<wR5.heap.size:=by omega);(try(have zy1:=Nat.lt_of_succ_le hzz;(try(have zy2:=Nat.lt_of_succ_lt zy1;(try have zy3:=Nat.lt_of_succ_lt zy2))))));(have hbR5:=hb);clear hb;(have hc_wR5:∀b o,b<W0.heap.size→wR5.cell? ⟨b,o,none⟩=W0.cell? ⟨b,o,none⟩:=(bcellq (HQ_W3.out.trans (Below.mono (by exact zbl) HQ_W3.out.size))));(have hs_wR5:=hbR5.size);(try simp at hs_wR5))|(go_at_call 46;(with_reducible refine Calls.mono (HRN.out _ aG5 AF5 cF5 ysF5 _ _ zsR5 (hgG5.to (by exact zbl)) (HKD.out.to (HQ_W3.out.trans (Below.mono (by exact zbl) HQ_W3.out.size))) HMF5.out (HFF5.out.to (by exact zbl)) HMR5.out (RndR.to HRR5.out (by exact zbl))) ?_);rintro e wH ⟨tk5,ls5,A5,c5,zs5,rfl,hx5,hf5,hb,hfr5⟩;(have HXZ:=zh hx5);(have HFZ:=zh hf5);(have HRZ:=zh hfr5);clear hx5 hf5 hfr5;(obtain⟨hcc,hff⟩:=bcell hb;have hzz:=hb.size;(try simp at hzz);(try have z1:W3.heap.size+1<wH.heap.size:=by omega);(try have z2:W3.heap.size+2<wH.heap.size:=by omega);(try have z3:W3.heap.size+3<wH.heap.size:=by omega);(try have z4:W3.heap.size+4<wH.heap.size:=by omega);(try have z5:W3.heap.size+5<wH.heap.size:=by omega);(try have zm0:wG5.heap.size<wH.heap.size:=by omega);(try have zm1:wF5.heap.size<wH.heap.size:=by omega);(try have zm2:wR5.heap.size<wH.heap.size:=by omega);(try have z0:W3.heap.size<wH.heap.size:=by omega);(try(have zy1:=Nat.lt_of_succ_le hzz;(try(have zy2:=Nat.lt_of_succ_lt zy1;(try have zy3:=Nat.lt_of_succ_lt zy2))))));(have hbH:=hb);clear hb))
        all_goals
         go_wp2_with fail
         go_meet
        ·exact⟨_,rfl,rfl,fBox1 (by exact zbl) HXZ.out HFZ.out⟩
        ·exact⟨_,rfl,rfl,fBox2 (by exact zbl) hbH (show Below W3.heap.size W3 wR5 by exact zbl).size (heap_alloc_new _ _) HXZ.out HFZ.out HRZ.out⟩
        ·exact⟨_,rfl,rfl,fBox2 (by exact zbl) hbH (show Below W3.heap.size W3 wF5 by exact zbl).size ((hbR5.block wF5.heap.size (by first|assumption|omega|(simp;done)|(simp;omega))).trans (heap_alloc_new _ _)) HXZ.out HFZ.out HRZ.out⟩
        ·exact⟨_,rfl,rfl,fBox2 (by exact zbl) hbH (show Below W3.heap.size W3 wG5 by exact zbl).size ((hbR5.block wG5.heap.size (by first|assumption|omega|(simp;done)|(simp;omega))).trans ((hbF5.block wG5.heap.size (by first|assumption|omega|(simp;done)|(simp;omega))).trans (heap_alloc_new _ _))) HXZ.out HFZ.out HRZ.out⟩
        ·exact⟨_,rfl,rfl,fBox2 (by exact zbl) hbH (Nat.le_refl _) ((hbR5.block W3.heap.size (by first|assumption|omega|(simp;done)|(simp;omega))).trans ((hbF5.block W3.heap.size (by first|assumption|omega|(simp;done)|(simp;omega))).trans ((hbG5.block W3.heap.size (by first|assumption|omega|(simp;done)|(simp;omega))).trans (heap_alloc_new _ _)))) HXZ.out HFZ.out HRZ.out⟩
       case rest=>
        obtain⟨b5,rfl,rfl,hx5⟩:=hcut
        obtain⟨W5,rfl⟩:∃W,W=wc:=⟨wc,rfl⟩
        (have hq_W5:Below W0.heap.size W0 W5:=HQ_W3.out.trans (hx5.low.mono HQ_W3.out.size));(have hc_W5:=(bcell hq_W5).1);(have y0_W5:w.heap.size<W5.heap.size:=Nat.lt_of_lt_of_le z0 hq_W5.size);(have y1_W5:w.heap.size+1<W5.heap.size:=Nat.lt_of_lt_of_le z1 hq_W5.size);(have HQ_W5:=zh hq_W5);clear hq_W5
        have HX5:=zh hx5
        clear hx5
        go_upto_region 16 with fail
        go_cut [13,14] (fun s13 s14 wx=>∃AL cL,s13=.slice AL L.length cL∧s14=.int .i64 B∧StrsR wx wx.heap.size AL L∧Below W5.heap.size W5 wx)
        case first=>
         go_region_held3 (SHd W5) ((refine Sh.goal ?_;exact zsh)) (first|(go_at_call 18;(with_reducible refine Calls.mono (grid_c a g _ hsm (HG.out.to (HQ_W5.out.trans (Below.mono (by exact zbl) HQ_W5.out.size)))) ?_);rintro e wG6 ⟨aG6,rfl,hgG6,hbG6⟩;(have hc_wG6:∀b o,b<W0.heap.size→wG6.cell? ⟨b,o,none⟩=W0.cell? ⟨b,o,none⟩:=(bcellq (HQ_W5.out.trans (Below.mono (by exact zbl) HQ_W5.out.size))));(have hs_wG6:=hbG6.size);(try simp at hs_wG6))|(go_at_call 39;(with_reducible refine Calls.mono (HFD.out _ (HF.out.to (HQ_W5.out.trans (Below.mono (by exact zbl) HQ_W5.out.size)))) ?_);rintro e wF6 ⟨AF6,cF6,ysF6,rfl,hmF6,hfF6,hzF6,hbF6⟩;(have HMF6:=zh hmF6);(have HFF6:=zh hfF6);clear hmF6 hfF6 hzF6;(have hc_wF6:∀b o,b<W0.heap.size→wF6.cell? ⟨b,o,none⟩=W0.cell? ⟨b,o,none⟩:=(bcellq (HQ_W5.out.trans (Below.mono (by exact zbl) HQ_W5.out.size))));(have hs_wF6:=hbF6.size);(try simp at hs_wF6))|(go_at_call 48;(with_reducible refine Calls.mono (HLT.out _ aG6 AF6 cF6 ysF6 (hgG6.to (by exact zbl)) (HKD.out.to (HQ_W5.out.trans (Below.mono (by exact zbl) HQ_W5.out.size))) HMF6.out (HFF6.out.to (by exact zbl))) ?_);rintro e wH ⟨AL,cL,rfl,hsl,hbH⟩;(have HSL:=zh hsl);clear hsl))
         all_goals
          go_wp2_with fail
          go_meet
          exact⟨_,_,rfl,rfl,HSL.out,by exact zbl⟩
        case rest=>
         obtain⟨AL,cL,rfl,rfl,hsl,hb6⟩:=hcut
         obtain⟨W6,rfl⟩:∃W,W=wc:=⟨wc,rfl⟩
         have HSL:=zh hsl
         have HX6:=zh (HX5.out.next hb6)
         (have hq_W6:Below W0.heap.size W0 W6:=HQ_W5.out.trans (hb6.mono HQ_W5.out.size));(have hc_W6:=(bcell hq_W6).1);(have y0_W6:w.heap.size<W6.heap.size:=Nat.lt_of_lt_of_le z0 hq_W6.size);(have y1_W6:w.heap.size+1<W6.heap.size:=Nat.lt_of_lt_of_le z1 hq_W6.size);(have HQ_W6:=zh hq_W6);clear hq_W6
         clear hsl hb6 HX5
         go_upto_region 17 with fail
         go_cut [15,16] (fun s15 s16 wx=>s15=.bool DK∧s16=.int .i64 B∧Below W6.heap.size W6 wx)
         case first=>
          go_region_held3 (SHd W6) ((refine Sh.goal ?_;exact zsh)) (first|(go_at_call 18;(with_reducible refine Calls.mono (grid_c a g _ hsm (HG.out.to (HQ_W6.out.trans (Below.mono (by exact zbl) HQ_W6.out.size)))) ?_);rintro e wG7 ⟨aG7,rfl,hgG7,hbG7⟩;(have hc_wG7:∀b o,b<W0.heap.size→wG7.cell? ⟨b,o,none⟩=W0.cell? ⟨b,o,none⟩:=(bcellq (HQ_W6.out.trans (Below.mono (by exact zbl) HQ_W6.out.size))));(have hs_wG7:=hbG7.size);(try simp at hs_wG7))|(go_at_call 39;(with_reducible refine Calls.mono (HFD.out _ (HF.out.to (HQ_W6.out.trans (Below.mono (by exact zbl) HQ_W6.out.size)))) ?_);rintro e wF7 ⟨AF7,cF7,ysF7,rfl,hmF7,hfF7,hzF7,hbF7⟩;(have HMF7:=zh hmF7);(have HFF7:=zh hfF7);clear hmF7 hfF7 hzF7;(have hc_wF7:∀b o,b<W0.heap.size→wF7.cell? ⟨b,o,none⟩=W0.cell? ⟨b,o,none⟩:=(bcellq (HQ_W6.out.trans (Below.mono (by exact zbl) HQ_W6.out.size))));(have hs_wF7:=hbF7.size);(try simp at hs_wF7))|(go_at_call 49;(with_reducible refine Calls.mono (HDK.out _ aG7 AF7 cF7 ysF7 (hgG7.to (by exact zbl)) (HKD.out.to (HQ_W6.out.trans (Below.mono (by exact zbl) HQ_W6.out.size))) HMF7.out (HFF7.out.to (by exact zbl))) ?_);rintro e wH ⟨rfl,hbH⟩))
          all_goals
           go_wp2_with fail
           go_meet
           exact⟨rfl,rfl,by exact zbl⟩
         case rest=>
          obtain⟨rfl,rfl,hb7⟩:=hcut
          obtain⟨W7,rfl⟩:∃W,W=wc:=⟨wc,rfl⟩
          have HX7:=zh (HX6.out.next hb7)
          have HSL7:=zh (HSL.out.to hb7)
          (have hq_W7:Below W0.heap.size W0 W7:=HQ_W6.out.trans (hb7.mono HQ_W6.out.size));(have hc_W7:=(bcell hq_W7).1);(have y0_W7:w.heap.size<W7.heap.size:=Nat.lt_of_lt_of_le z0 hq_W7.size);(have y1_W7:w.heap.size+1<W7.heap.size:=Nat.lt_of_lt_of_le z1 hq_W7.size);(have HQ_W7:=zh hq_W7);clear hq_W7
          clear hb7 HX6 HSL
          go_upto_region 19 with (go_at_call 41;(with_reducible refine Calls.mono (HCF.out _ (HG.out.to HQ_W7.out) (HF.out.to HQ_W7.out)) ?_);rintro e wJ ⟨rfl,hbJ⟩)
          have HX8:=zh (HX7.out.next hbJ)
          have HSL8:=zh (HSL7.out.to hbJ)
          (have hq_wJ:Below W0.heap.size W0 wJ:=HQ_W7.out.trans (hbJ.mono HQ_W7.out.size));(have hc_wJ:=(bcell hq_wJ).1);(have y0_wJ:w.heap.size<wJ.heap.size:=Nat.lt_of_lt_of_le z0 hq_wJ.size);(have y1_wJ:w.heap.size+1<wJ.heap.size:=Nat.lt_of_lt_of_le z1 hq_wJ.size);(have HQ_wJ:=zh hq_wJ);clear hq_wJ
          clear hbJ HX7 HSL7
          go_upto_region 22 with fail
          obtain⟨W9,hW9⟩:∃W,W=wJ.alloc (.cells #[.int .i64 0,.int .i64 0,.slice none 0 0] 66):=⟨_,rfl⟩
          rw[←hW9]
          have hb9:Below wJ.heap.size wJ W9:=by rw[hW9];(repeat first|(with_reducible first|assumption|exact Below.refl _ _|refine Bl.drew ?_|refine Bl.drewN ?_ _|refine Bl.alloc ?_ _|refine Bl.set ?_ _ ?_)|(with_reducible apply Bl.step';(focus(with_reducible assumption)))|omega|(focus(simp;done))|(focus(simp;omega)))
          have k9:W9.heap[wJ.heap.size]? =some (.cells #[.int .i64 0,.int .i64 0,.slice none 0 0] 66 (0,0)):=by rw[hW9];exact heap_alloc_new _ _
          have y9:=blk_lt k9
          have K9:=zh k9
          have HB9:=zh hb9
          (have hq_W9:Below W0.heap.size W0 W9:=HQ_wJ.out.trans (HB9.out.mono HQ_wJ.out.size));(have hc_W9:=(bcell hq_W9).1);(have y0_W9:w.heap.size<W9.heap.size:=Nat.lt_of_lt_of_le z0 hq_W9.size);(have y1_W9:w.heap.size+1<W9.heap.size:=Nat.lt_of_lt_of_le z1 hq_W9.size);(have HQ_W9:=zh hq_W9);clear hq_W9
          (obtain⟨r0,rf0,r1,rf1,r2,rf2⟩:=cv3 k9)
          clear hW9 hb9 k9
          go_upto_if 100 with fail
          go_cut [18,20] (fun s18 s20 wx=>∃AN cN,s18=.int .i64 E1∧s20=.slice AN L.length cN∧StrsR wx wx.heap.size AN L∧FBox 66 wJ X1 wJ.heap.size wx)
          case first=>
           cases hb0:(B==0)
           case false=>
            have hne:B≠0:=by simpa using hb0
            have HNE:=zh (HBN.out hne)
            have HN0:=zh hne
            clear hne
            go_wp2_with fail
            go_meet
            exact⟨none,0,by rw[HNE.out.1],by rw[HNE.out.2.1];rfl,by rw[HNE.out.2.1];exact StrsR.nil0 _ _ _,⟨⟨0,0,none,0,[],K9.out,(HZ1.out (by rw[HNE.out.1];exact HN0.out)).symm,FldR.nil_ _ _⟩,Nat.le_refl _,HB9.out⟩⟩
           case true=>
            have HEQ:=zh (show B=0 by simpa using hb0)
            go_upto_region 24 with (go_at_call 50;(with_reducible refine Calls.mono (HRR.out HEQ.out _ (HG.out.to HQ_W9.out) (HF.out.to HQ_W9.out) (RndR.to HR.out HQ_W9.out)) ?_);rintro e w10 ⟨tk10,ls10,A10,c10,ys10,rfl,hx10,hf10,hb10,hr10⟩;(have HX10:=zh hx10);(have HF10:=zh hf10);(have HR10:=zh hr10);clear hx10 hf10 hr10;(have k10:=(hb10.block wJ.heap.size y9).trans K9.out);clear r0 r1 r2 rf0 rf1 rf2;(obtain⟨r0,rf0,r1,rf1,r2,rf2⟩:=cv3 k10);(have y10:=blk_lt k10);clear k10)
            obtain⟨S10,hS10⟩:∃S,S=(((w10.setCell ⟨wJ.heap.size,0,none⟩ (.int .i64 tk10)).setCell ⟨wJ.heap.size,1,none⟩ (.int .i64 ls10)).setCell ⟨wJ.heap.size,2,none⟩ (.slice A10 ys10.length c10)):=⟨_,rfl⟩
            rw[←hS10]
            have hx10:FBox 66 wJ X1 wJ.heap.size S10:=by rw[hS10];exact fBox2 HB9.out hb10 (Nat.le_refl _) K9.out HX10.out HF10.out HR10.out
            have HXT:=zh hx10
            (have hq_S10:Below W0.heap.size W0 S10:=HQ_wJ.out.trans (HXT.out.low.mono HQ_wJ.out.size));(have hc_S10:=(bcell hq_S10).1);(have y0_S10:w.heap.size<S10.heap.size:=Nat.lt_of_lt_of_le z0 hq_S10.size);(have y1_S10:w.heap.size+1<S10.heap.size:=Nat.lt_of_lt_of_le z1 hq_S10.size);(have HQ_S10:=zh hq_S10);clear hq_S10
            clear hx10 hS10 r0 r1 r2 rf0 rf1 rf2
            go_wp2_with (go_at_call 51;(with_reducible refine Calls.mono (HRL.out HEQ.out _ (HG.out.to HQ_S10.out) (HF.out.to HQ_S10.out)) ?_);rintro e w11 ⟨AN,cN,rfl,hs11,hb11⟩;(have HS11:=zh hs11);clear hs11)
            go_meet
            exact⟨_,_,rfl,rfl,HS11.out,HXT.out.next hb11⟩
          case rest=>
           obtain⟨AN,cN,rfl,rfl,hsn,hx9⟩:=hcut
           obtain⟨Wz,rfl⟩:∃W,W=wc:=⟨wc,rfl⟩
           have hlw:=hx9.low
           obtain⟨t5,l5,A5,c5,z5s,k5,e5,f5⟩:=(HX8.out.next hlw).ex
           obtain⟨t7,l7,A7,c7,z7s,k7,e7,f7⟩:=hx9.ex
           have HAN1:=zh (show ∀W,Below Wz.heap.size Wz W→Calls Tryz.prog 45 #[(.agg #[.int .i64 t5,.int .i64 l5,.slice A5 z5s.length c5]),.int .i64 E1,.int .i64 E1,(.agg #[.int .i64 t7,.int .i64 l7,.slice A7 z7s.length c7])] W fun e w'=>e=.returned (.bool true)∧Below W.heap.size W w' from fun W hb=>after_f X1 _ _ _ _ _ _ _ _ _ _ _ W e5 e7 HZ1.out HD1.out (f5.to hb) (f7.to hb))
           have hwd:L=if B=0 then L else []:=by
            by_cases h:B=0
            ·rw[if_pos h]
            ·rw[if_neg h,(HBN.out h).2.1]
           have HWD:=zh (show ∀W,Below Wz.heap.size Wz W→Calls Tryz.prog 52 #[.slice AL L.length cL,.int .i64 B,.int .i64 B,.slice AN L.length cN] W fun e w'=>e=.returned (.bool true)∧Below W.heap.size W w' from fun W hb=>words_t AL AN L.length L.length cL cN B B L L W rfl rfl hlL ((HSL8.out.to hlw).to hb) (hsn.to hb) rfl hwd)
           have y5:=blk_lt k5
           have y7:=blk_lt k7
           (have hq_Wz:Below W0.heap.size W0 Wz:=HQ_wJ.out.trans (hlw.mono HQ_wJ.out.size));(have hc_Wz:=(bcell hq_Wz).1);(have y0_Wz:w.heap.size<Wz.heap.size:=Nat.lt_of_lt_of_le z0 hq_Wz.size);(have y1_Wz:w.heap.size+1<Wz.heap.size:=Nat.lt_of_lt_of_le z1 hq_Wz.size);(have HQ_Wz:=zh hq_Wz);clear hq_Wz
           (obtain⟨u0,uf0,u1,uf1,u2,uf2⟩:=cv3 k5)
           (obtain⟨v0,vf0,v1,vf1,v2,vf2⟩:=cv3 k7)
           clear hsn hx9 hlw k5 k7 e5 e7 f5 f7 uf0 uf1 uf2 vf0 vf1 vf2 hwd
           cases hb0:(B==0)
           case false=>
            have hne:B≠0:=by simpa using hb0
            have hdk0:=(HBN.out hne).2.2
            subst hdk0
            clear hne
            go_wp2_with (first|(go_at_call 45;(with_reducible refine Calls.mono (HAN1.out _ (by exact zbl)) ?_);rintro e wQ ⟨rfl,hbQ⟩;(have hc_wQ:∀b o,b<W0.heap.size→wQ.cell? ⟨b,o,none⟩=W0.cell? ⟨b,o,none⟩:=(bcellq (HQ_Wz.out.trans (Below.mono (by exact zbl) HQ_Wz.out.size))));(have hs_wQ:=hbQ.size);(try simp at hs_wQ))|(go_at_call 52;(with_reducible refine Calls.mono (HWD.out _ (by exact zbl)) ?_);rintro e wR ⟨rfl,hbR⟩;(have hc_wR:∀b o,b<W0.heap.size→wR.cell? ⟨b,o,none⟩=W0.cell? ⟨b,o,none⟩:=(bcellq (HQ_Wz.out.trans (Below.mono (by exact zbl) HQ_Wz.out.size))));(have hs_wR:=hbR.size);(try simp at hs_wR);(have y0_wR:w.heap.size<wR.heap.size:=Nat.lt_of_lt_of_le (Nat.lt_of_lt_of_le y0_Wz hbQ.size) hbR.size);(have y1_wR:w.heap.size+1<wR.heap.size:=Nat.lt_of_lt_of_le (Nat.lt_of_lt_of_le y1_Wz hbQ.size) hbR.size))|(go_at_call 16;(with_reducible refine Calls.mono (awake_c _ (HKD.out.to (HQ_Wz.out.trans (Below.mono (by exact zbl) HQ_Wz.out.size))) (HPW.out.to (HQ_Wz.out.trans (Below.mono (by exact zbl) HQ_Wz.out.size)))) ?_);rintro e wK ⟨rfl,hbK⟩))
            go_ret
            exact⟨rfl,HB0.out.trans ((HQ_Wz.out.trans (Below.mono (by exact zbl) HQ_Wz.out.size)).mono HB0.out.size)⟩
           case true=>
            have HEQ:=zh (show B=0 by simpa using hb0)
            go_wp2_with (first|(go_at_call 53;(with_reducible refine Calls.mono (HRK.out HEQ.out _ (HG.out.to (HQ_Wz.out.trans (Below.mono (by exact zbl) HQ_Wz.out.size))) (HF.out.to (HQ_Wz.out.trans (Below.mono (by exact zbl) HQ_Wz.out.size)))) ?_);rintro e wD ⟨rfl,hbD⟩)|(go_at_call 45;(with_reducible refine Calls.mono (HAN1.out _ (by exact zbl)) ?_);rintro e wQ ⟨rfl,hbQ⟩;(have hc_wQ:∀b o,b<W0.heap.size→wQ.cell? ⟨b,o,none⟩=W0.cell? ⟨b,o,none⟩:=(bcellq (HQ_Wz.out.trans (Below.mono (by exact zbl) HQ_Wz.out.size))));(have hs_wQ:=hbQ.size);(try simp at hs_wQ))|(go_at_call 52;(with_reducible refine Calls.mono (HWD.out _ (by exact zbl)) ?_);rintro e wR ⟨rfl,hbR⟩;(have hc_wR:∀b o,b<W0.heap.size→wR.cell? ⟨b,o,none⟩=W0.cell? ⟨b,o,none⟩:=(bcellq (HQ_Wz.out.trans (Below.mono (by exact zbl) HQ_Wz.out.size))));(have hs_wR:=hbR.size);(try simp at hs_wR);(have y0_wR:w.heap.size<wR.heap.size:=Nat.lt_of_lt_of_le (Nat.lt_of_lt_of_le y0_Wz hbQ.size) hbR.size);(have y1_wR:w.heap.size+1<wR.heap.size:=Nat.lt_of_lt_of_le (Nat.lt_of_lt_of_le y1_Wz hbQ.size) hbR.size))|(go_at_call 16;(with_reducible refine Calls.mono (awake_c _ (HKD.out.to (HQ_Wz.out.trans (Below.mono (by exact zbl) HQ_Wz.out.size))) (HPW.out.to (HQ_Wz.out.trans (Below.mono (by exact zbl) HQ_Wz.out.size)))) ?_);rintro e wK ⟨rfl,hbK⟩))
            go_ret
            exact⟨rfl,HB0.out.trans ((HQ_Wz.out.trans (Below.mono (by exact zbl) HQ_Wz.out.size)).mono HB0.out.size)⟩
end Go.Proofs.YtehnikhicnnnhaaGreatDoor
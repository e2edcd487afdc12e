/- heard. -/
import Derived.Test.YtehnikhicnnnhaaGreatDoorPa17
import Derived.Test.YtehnikhicnnnhaaGreatDoorPa60
namespace Go.Proofs.YtehnikhicnnnhaaGreatDoor
open Go.RowKit
theorem Tryz.eql_ord(w:World)(a b:ByteArray)(l:Bool):(binOp .eql 76 (.agg #[.string a,.string b,.bool l]) (.agg #[.string a,.string b,.bool true])).run Tryz.prog w=.ok (.bool l) w:=by
 rw[run_eql_struct]
 rw[show(10000:Nat)=9999+1 from rfl,Op.equalIn]
 cases l<;>simp[go_sem,isAgg]
set_option maxRecDepth 100000 in
set_option maxHeartbeats 4000000 in
theorem heard_c(a:GA)(g:Grd)(tk ls:Int)(A:Option Addr)(c:Nat)(xs:List MA)(o:Ord)(w:World)(hok:okG g)(hu:Uniq g.mov)(hf0:okFld g (fldOf tk ls xs))(hr:GridR w w.heap.size a g)(hf:FldR w w.heap.size A c xs):
 Calls Tryz.prog 115 #[(.agg #[.int .i64 g.blur,.slice a.pS g.sta.length a.cs,.slice a.pM g.mov.length a.cm,.slice a.pZ g.zon.length a.cz]),(.agg #[.int .i64 tk,.int .i64 ls,.slice A xs.length c]),.agg #[.string o.mir,.string o.sta,.bool o.lost]] w fun e w'=>∃A' c' ys,e=.returned (.tuple #[(.agg #[.int .i64 tk,.int .i64 ls,.slice A' ys.length c']),.int .i64 (heardE g (fldOf tk ls xs) o)])∧fldOf tk ls ys=heardG g (fldOf tk ls xs) o∧FldR w' w'.heap.size A' c' ys∧(∀P:Nat→Prop,(∀b,w.heap.size≤b→P b)→Blks P A xs→Blks P A' ys)∧Below w.heap.size w w':=by
 have hn:xs.length≤16:=by have:=hf0.n;simpa [fldOf]using this
 have hm0:∀x∈xs,okMir g x.m:=fun x hx=>hf0.mir x.m (List.mem_map_of_mem hx)
 obtain⟨W0,hW0⟩:∃W0,W0=(((w.alloc (.cells #[.int .i64 g.blur,.slice a.pS g.sta.length a.cs,.slice a.pM g.mov.length a.cm,.slice a.pZ g.zon.length a.cz] 38)).alloc (.cells #[.int .i64 tk,.int .i64 ls,.slice A xs.length c] 72)).alloc (.cells #[.string o.mir,.string o.sta,.bool o.lost] 76)).alloc (.cells #[.int .i64 0,.int .i64 0,.slice none 0 0] 72):=⟨_,rfl⟩
 have hsx:Sx w W0:=by rw[hW0];exact((((Sx.refl w).alloc _).alloc _).alloc _).alloc _
 have hB0:Below w.heap.size w W0:=by rw[hW0];exact zbl
 have hsz:W0.heap.size=w.heap.size+4:=by rw[hW0];simp
 have kg:W0.heap[w.heap.size]? =some (.cells #[.int .i64 g.blur,.slice a.pS g.sta.length a.cs,.slice a.pM g.mov.length a.cm,.slice a.pZ g.zon.length a.cz] 38 (0,0)):=by rw[hW0];exact heap4_0 _ _ _ _ _
 have k1:W0.heap[w.heap.size+1]? =some (.cells #[.int .i64 tk,.int .i64 ls,.slice A xs.length c] 72 (0,0)):=by rw[hW0];exact heap4_1 _ _ _ _ _
 have k2:W0.heap[w.heap.size+1+1]? =some (.cells #[.string o.mir,.string o.sta,.bool o.lost] 76 (0,0)):=by rw[hW0];exact heap4_2 _ _ _ _ _
 have k3:W0.heap[w.heap.size+1+1+1]? =some (.cells #[.int .i64 0,.int .i64 0,.slice none 0 0] 72 (0,0)):=by rw[hW0];exact heap4_3 _ _ _ _ _
 have HKG:=zh kg
 have HK1:=zh k1
 have HK2:=zh k2
 have HK3:=zh k3
 have HG:=zh (hr.sx (Nat.le_refl _) hsx)
 have HF:=zh (hf.sx (Nat.le_refl _) hsx)
 have HF0:=zh hf
 have HM0:=zh hm0
 have HSZ:=zh hsz
 have l0:w.heap.size<W0.heap.size:=by omega
 have l1:w.heap.size+1<W0.heap.size:=by omega
 have l2:w.heap.size+1+1<W0.heap.size:=by omega
 have l3:w.heap.size+1+1+1<W0.heap.size:=by omega
 have hn1:xs.length≤1000:=by omega
 (obtain⟨g0,g1,g2,g3⟩:=cg4 kg)
 (obtain⟨c0,cf0,c1,cf1,c2,cf2⟩:=cv3 k1)
 (obtain⟨b0,bf0,b1,bf1,b2,bf2⟩:=cv3 k2)
 obtain⟨fi,hfi⟩:∃fi,fi=findG (fldOf tk ls xs) o.mir:=⟨_,rfl⟩
 obtain⟨st,hst⟩:∃st,st=statG g o.sta:=⟨_,rfl⟩
 have HFI:=zh hfi
 have HST:=zh hst
 have hfr:=idxF_lt (fun m:Mir=>sEq m.name o.mir) (fldOf tk ls xs).mir
 have hsr:=idxF_lt (fun s:Sta=>sEq s.name o.sta) g.sta
 have hfr2:fi<xs.length:=by have h1:=hfr.1;rw[hfi];unfold findG;simpa [fldOf]using h1
 have hsr2:st<g.sta.length:=by rw[hst];exact hsr.1
 clear hr hf hsx kg k1 k2 k3 hfi hst hfr hsr hm0
 go_enter Tryz.func115,Tryz.ntmps115
 go_wp2_with fail
 rw[←hW0]
 clear hW0 hsz
 go_cut [8,9] (fun s8 s9 wx=>s8=.int .i64 fi∧s9=.int .i64 st∧Sh W0 wx∧Below W0.heap.size W0 wx)
 case first=>
  go_region_held3 (SHd W0) ((refine Sh.goal ?_;exact zsh)) (first|(go_at_call 140;refine(find_c tk ls A c xs o.mir _ hn1 (HF.out.sx (Nat.le_refl _) (Sh.sx (by exact zsh)))).mono ?_;rintro e w1 ⟨rfl,hb1⟩;rw[←HFI.out])|(go_at_call 164;refine(stat_c a g o.sta _ hok (HG.out.sx (Nat.le_refl _) (Sh.sx (by exact zsh)))).mono ?_;rintro e w2 ⟨rfl,hb2⟩;rw[←HST.out]))
  all_goals
   go_wp2_with fail
   go_meet
   exact⟨rfl,rfl,by exact zsh,by exact zbl⟩
 case rest=>
  obtain⟨rfl,rfl,hsh,hbw⟩:=hcut
  have hbc:Below w.heap.size w wc:=hB0.trans (hbw.mono (by omega))
  by_cases hneg:fi<0∨st<0
  ·have hv:firstErr [whn (decide (fi<0)) 10,whn (decide (st<0)) 10]=10:=by
    by_cases h1:fi<0
    ·simp[firstErr,whn,h1]
    ·have h2:=hneg.resolve_left h1
     simp[firstErr,whn,h1,h2]
   have hhe:=zh (show heardE g (fldOf tk ls xs) o=10 by unfold heardE;rw[←HFI.out,←HST.out,if_pos hneg])
   have hhg:=zh (show heardG g (fldOf tk ls xs) o=fldOf tk ls xs by unfold heardG;rw[hhe.out,if_pos (.inl (by decide))])
   clear hneg
   clear g0 g1 g2 g3 c0 c1 c2 cf0 cf1 cf2 b0 b1 b2 bf0 bf1 bf2
   have hs2:Sh W0 (wc.alloc (.cells #[.int .i64 (whn (decide (fi<0)) 10),.int .i64 (whn (decide (st<0)) 10)] 31)):=by exact zsh
   (have jg:=(hs2.2.2 w.heap.size l0).trans HKG.out);(obtain⟨g0,g1,g2,g3⟩:=cg4 jg);(have j1:=(hs2.2.2 (w.heap.size+1) l1).trans HK1.out);(obtain⟨c0,cf0,c1,cf1,c2,cf2⟩:=cv3 j1);(have j2:=(hs2.2.2 (w.heap.size+1+1) l2).trans HK2.out);(obtain⟨b0,bf0,b1,bf1,b2,bf2⟩:=cv3 j2);(have j3:=(hs2.2.2 (w.heap.size+1+1+1) l3).trans HK3.out);(obtain⟨d0,df0,d1,df1,d2,df2⟩:=cv3 j3);(have HJ3:=zh j3);clear jg j1 j2 j3
   go_wp2_with (first|(go_at_call 104;refine(when_c _ _ _).mono ?_;rintro e w' ⟨rfl,rfl⟩)|(go_at_call 103;refine(first_c _ [whn (decide (fi<0)) 10,whn (decide (st<0)) 10] _ ?_ ?_).mono ?_;(focus simp);(focus first|(simp[CellsAt];done)|(simp[CellsAt,cells_new]));rintro e w' ⟨rfl,rfl⟩))
   refine bodyPost_ret (Tryz.res_fld2 rfl _ _ rfl (set3_block HJ3.out)) rfl ?_
   have hfin:=Below.set3 (b:=w.heap.size+1+1+1) (hbc.alloc (by have:=hbc.size;omega) (.cells #[.int .i64 (whn (decide (fi<0)) 10),.int .i64 (whn (decide (st<0)) 10)] 31)) (by omega) (.int .i64 tk) (.int .i64 ls) (.slice A xs.length c)
   exact⟨A,c,xs,by rw[hhe.out];rfl,hhg.out.symm,(HF0.out.belowB (w0:=w) hfin (Nat.le_refl _)).more hfin.size,fun _ _ h=>h,hfin⟩
  ·have hfi0:0≤fi:=by omega
   have hst0:0≤st:=by omega
   have hv:firstErr [whn (decide (fi<0)) 10,whn (decide (st<0)) 10]=0:=by
    have h1:¬fi<0:=by omega
    have h2:¬st<0:=by omega
    simp[firstErr,whn,h1,h2]
   have HNG:=zh hneg
   clear hneg
   clear g0 g1 g2 g3 c0 c1 c2 cf0 cf1 cf2 b0 b1 b2 bf0 bf1 bf2
   (have jg:=(hsh.2.2 w.heap.size l0).trans HKG.out);(obtain⟨g0,g1,g2,g3⟩:=cg4 jg);(have j1:=(hsh.2.2 (w.heap.size+1) l1).trans HK1.out);(obtain⟨c0,cf0,c1,cf1,c2,cf2⟩:=cv3 j1);(have j2:=(hsh.2.2 (w.heap.size+1+1) l2).trans HK2.out);(obtain⟨b0,bf0,b1,bf1,b2,bf2⟩:=cv3 j2);(have j3:=(hsh.2.2 (w.heap.size+1+1+1) l3).trans HK3.out);(obtain⟨d0,df0,d1,df1,d2,df2⟩:=cv3 j3);(have HJc:=zh j3);clear jg j1 j2 j3
   have q0:w.heap.size<wc.heap.size:=Nat.lt_of_lt_of_le l0 hsh.1
   have q1:w.heap.size+1<wc.heap.size:=Nat.lt_of_lt_of_le l1 hsh.1
   have q2:w.heap.size+1+1<wc.heap.size:=Nat.lt_of_lt_of_le l2 hsh.1
   have q3:w.heap.size+1+1+1<wc.heap.size:=Nat.lt_of_lt_of_le l3 hsh.1
   cases hsf:isSafeG g st with
   |false=>
    have hhe:=zh (show heardE g (fldOf tk ls xs) o=31 by unfold heardE;rw[←HFI.out,←HST.out,if_neg HNG.out,hsf];rfl)
    have hhg:=zh (show heardG g (fldOf tk ls xs) o=fldOf tk ls xs by unfold heardG;rw[hhe.out,if_pos (.inl (by decide))])
    go_wp2_with (first|(go_at_call 104;refine(when_c _ _ _).mono ?_;rintro e w' ⟨rfl,rfl⟩)|(go_at_call 103;refine(first_c _ [whn (decide (fi<0)) 10,whn (decide (st<0)) 10] _ ?_ ?_).mono ?_;(focus simp);(focus first|(simp[CellsAt];done)|(simp[CellsAt,cells_new]));rintro e w' ⟨rfl,rfl⟩)|(go_at_call 108;refine(isSafeG_c a g st _ hok (HG.out.sx (Nat.le_refl _) (Sh.sx (by exact zsh))) ⟨hst0,hsr2⟩).mono ?_;rintro e w2 ⟨rfl,hb2⟩;(have hs2:Sh W0 w2:=by exact zsh);clear g0 g1 g2 g3 c0 c1 c2 cf0 cf1 cf2 b0 b1 b2 bf0 bf1 bf2 d0 d1 d2 df0 df1 df2;(have jg:=(hs2.2.2 w.heap.size l0).trans HKG.out);(obtain⟨g0,g1,g2,g3⟩:=cg4 jg);(have j1:=(hs2.2.2 (w.heap.size+1) l1).trans HK1.out);(obtain⟨c0,cf0,c1,cf1,c2,cf2⟩:=cv3 j1);(have j2:=(hs2.2.2 (w.heap.size+1+1) l2).trans HK2.out);(obtain⟨b0,bf0,b1,bf1,b2,bf2⟩:=cv3 j2);(have j3:=(hs2.2.2 (w.heap.size+1+1+1) l3).trans HK3.out);(obtain⟨d0,df0,d1,df1,d2,df2⟩:=cv3 j3);(have HJ2:=zh j3);clear jg j1 j2 j3))
    have hbw2:Below w.heap.size w w2:=hB0.trans (Below.mono (show Below W0.heap.size W0 w2 by exact zbl) (by omega))
    refine bodyPost_ret (Tryz.res_fld2 rfl _ _ rfl (set3_block HJ2.out)) rfl ?_
    have hfin:=Below.set3 (b:=w.heap.size+1+1+1) hbw2 (by omega) (.int .i64 tk) (.int .i64 ls) (.slice A xs.length c)
    exact⟨A,c,xs,by rw[hhe.out];rfl,hhg.out.symm,(HF0.out.belowB (w0:=w) hfin (Nat.le_refl _)).more hfin.size,fun _ _ h=>h,hfin⟩
   |true=>
    have HSF:=zh hsf
    go_wp2_with (first|(go_at_call 104;refine(when_c _ _ _).mono ?_;rintro e w' ⟨rfl,rfl⟩)|(go_at_call 103;refine(first_c _ [whn (decide (fi<0)) 10,whn (decide (st<0)) 10] _ ?_ ?_).mono ?_;(focus simp);(focus first|(simp[CellsAt];done)|(simp[CellsAt,cells_new]));rintro e w' ⟨rfl,rfl⟩)|(go_at_call 108;refine(isSafeG_c a g st _ hok (HG.out.sx (Nat.le_refl _) (Sh.sx (by exact zsh))) ⟨hst0,hsr2⟩).mono ?_;rintro e w2 ⟨rfl,hb2⟩;(have hs2:Sh W0 w2:=by exact zsh);clear g0 g1 g2 g3 c0 c1 c2 cf0 cf1 cf2 b0 b1 b2 bf0 bf1 bf2 d0 d1 d2 df0 df1 df2;(have jg:=(hs2.2.2 w.heap.size l0).trans HKG.out);(obtain⟨g0,g1,g2,g3⟩:=cg4 jg);(have j1:=(hs2.2.2 (w.heap.size+1) l1).trans HK1.out);(obtain⟨c0,cf0,c1,cf1,c2,cf2⟩:=cv3 j1);(have j2:=(hs2.2.2 (w.heap.size+1+1) l2).trans HK2.out);(obtain⟨b0,bf0,b1,bf1,b2,bf2⟩:=cv3 j2);(have j3:=(hs2.2.2 (w.heap.size+1+1+1) l3).trans HK3.out);(obtain⟨d0,df0,d1,df1,d2,df2⟩:=cv3 j3);(have HJ2:=zh j3);clear jg j1 j2 j3))
    have hB2:Below W0.heap.size W0 w2:=by exact zbl
    have hbw2:Below w.heap.size w w2:=hB0.trans (hB2.mono (by omega))
    obtain⟨k,rfl⟩:=Int.eq_ofNat_of_zero_le hfi0
    have hlt:k<xs.length:=by omega
    obtain⟨x,hx⟩:∃x,x=xs[k]:=⟨_,rfl⟩
    have hxm:x∈xs:=by rw[hx];exact List.getElem_mem hlt
    obtain⟨b,off,rfl,hbl,x0,x1,x2,x3,x4,x5⟩:=HF.out.rw_.get6 (k:=k) (by simpa using hlt) (by rw[List.getElem_map,←hx];rfl)
    have hmr:=HF.out.each x hxm
    have hmr0:=HF0.out.each x hxm
    have hmo:=HM0.out x hxm
    have HX:=zh hx
    clear hx hxm
    obtain⟨m,mA,mc⟩:=x
    simp only at x0 x1 x2 x3 x4 x5 hmr hmr0 hmo HX
    have hgd:(fldOf tk ls xs).mir.getD (k:Int).toNat default=m:=by
     show(xs.map MA.m).getD (k:Int).toNat default=m
     rw[Int.toNat_natCast,List.getD_eq_getElem?_getD,List.getElem?_map,List.getElem?_eq_getElem hlt,←HX.out]
     rfl
    have HGD:=zh hgd
    have HMR:=zh hmr
    have HMR0:=zh hmr0
    have ht:=hmo.turn
    have hl40:=hmo.len
    have hhe0:=zh (show heardE g (fldOf tk ls xs) o=if(ledG g m st).isSome then 0 else 7 by unfold heardE;rw[←HFI.out,←HST.out,if_neg HNG.out,HSF.out,if_pos rfl,HGD.out])
    clear g0 g1 g2 g3 c0 c1 c2 cf0 cf1 cf2 b0 b1 b2 bf0 bf1 bf2 d0 d1 d2 df0 df1 df2
    clear hgd hmr hmr0 hsf hv
    have kg:=HKG.out
    have k1:=HK1.out
    (obtain⟨g0,g1,g2,g3⟩:=cg4 kg)
    (obtain⟨c0,cf0,c1,cf1,c2,cf2⟩:=cv3 k1)
    have i0:(0:Int)≤(k:Int):=by omega
    have i1:(k:Int)<(xs.length:Int):=by omega
    have i6:IntKind.i64.wrap (k:Int)=(k:Int):=IntWalk.i64_in _ (by omega)
    have i7:wrap64 (k:Int)=(k:Int):=by rw[←IntWalk.i64_left];exact i6
    have hlen:xs.length≤c:=HF0.out.cap
    have hs20:Sh W0 w2:=by exact zsh
    have HKEEP:=zh hlt
    clear kg k1
    go_cut [11,12] (fun s11 s12 wx=>∃(mb:Nat) (m':Mir) (A':Option Addr) (c':Nat),s11=.pointer (some ⟨mb,0,none⟩)∧s12=.bool (ledG g m st).isSome∧m'=(ledG g m st).getD m∧W0.heap.size≤mb∧mb<wx.heap.size∧wx.heap[mb]? =some (.cells #[.string m'.name,.string m'.sec,.int .i64 m'.loc,.slice A' m'.way.length c',.int .i64 m'.left,.int .i64 m'.heard] 106 (0,0))∧MirR wx wx.heap.size m' A' c'∧(m'.way≠ []→∀a,A'=some a→a.block≠mb∧((A'=mA∧m'.way=m.way∧a.block<w.heap.size)∨W0.heap.size≤a.block))∧Sh W0 wx∧Below W0.heap.size W0 wx)
    case first=>
     go_region_held3 (SHd W0) ((refine Sh.goal ?_;exact zsh)) (first|(go_at_call 165;refine(led_c a g m mA mc st _ hok hu ht (HG.out.sx (Nat.le_refl _) (Sh.sx (by exact zsh))) (HMR.out.sx (Nat.le_refl _) (Sh.sx (by exact zsh)))).mono ?_;rintro e w3 ⟨m',A',c',rfl,hm',hr3,hf3,hb⟩;(obtain⟨hcc,hff⟩:=bcell hb;have hzz:=hb.size;(try simp at hzz);(try have z1:W0.heap.size+1<w3.heap.size:=by omega);(try have z2:W0.heap.size+2<w3.heap.size:=by omega);(try have z3:W0.heap.size+3<w3.heap.size:=by omega);(try have z4:W0.heap.size+4<w3.heap.size:=by omega);(try have z5:W0.heap.size+5<w3.heap.size:=by omega);(try have z0:W0.heap.size<w3.heap.size:=by omega);(try(have zy1:=Nat.lt_of_succ_le hzz;(try(have zy2:=Nat.lt_of_succ_lt zy1;(try have zy3:=Nat.lt_of_succ_lt zy2))))));(have hb3:=hb);clear hb;(have HM':=zh hm');clear hm';(have hw02:W0.heap.size≤w2.heap.size:=hs20.1)))
     all_goals
      go_wp2_with fail
      go_meet
     all_goals first
      |(refine⟨w3.heap.size,m',A',c',rfl,rfl,HM'.out,?_⟩
        have hne:m'.way≠ []→∀a,A'=some a→a.block≠w3.heap.size∧((A'=mA∧m'.way=m.way∧a.block<w.heap.size)∨W0.heap.size≤a.block):=by
         intro hne a ha
         obtain⟨b2,off2,e2,hb2',_⟩:=hr3.way.at hne
         rcases hf3 with h|h
         ·obtain⟨b',off',e',hb',_⟩:=HMR0.out.way.at (by rw[←h.2];exact hne)
          rw[h.1,e']at ha
          cases ha
          simp only
          exact⟨by omega,.inl ⟨h.1,h.2,hb'⟩⟩
         ·have:=h a ha
          rw[e2]at ha
          cases ha
          simp at this ⊢
          constructor<;>omega
        exact⟨by omega,by simp,heap_alloc_new _ _,⟨Rw.more (Rw.belowB (w0:=w3) hr3.way (by exact zbl) (Nat.le_refl _)) (by simp),hr3.cap⟩,hne,by exact zsh,by exact zbl⟩)
      |(refine⟨w2.heap.size,m',A',c',rfl,rfl,HM'.out,?_⟩
        have hblk:w3.heap[w2.heap.size]? =some (.cells #[.string ⟨#[]⟩,.string ⟨#[]⟩,.int .i64 0,.slice none 0 0,.int .i64 0,.int .i64 0] 106 (0,0)):=(hb3.block w2.heap.size (by first|assumption|omega|(simp;done)|(simp;omega))).trans (heap_alloc_new _ _)
        have hne:m'.way≠ []→∀a,A'=some a→a.block≠w2.heap.size∧((A'=mA∧m'.way=m.way∧a.block<w.heap.size)∨W0.heap.size≤a.block):=by
         intro hne a ha
         rcases hf3 with h|h
         ·obtain⟨b',off',e',hb',_⟩:=HMR0.out.way.at (by rw[←h.2];exact hne)
          rw[h.1,e']at ha
          cases ha
          simp only
          exact⟨by omega,.inl ⟨h.1,h.2,hb'⟩⟩
         ·have:=h a ha
          simp at this
          constructor<;>omega
        exact⟨by omega,by first|omega|(simp;omega),set6_block hblk,⟨Rw.more (IntsR.set6n hr3.way (fun h1 a ha=>(hne h1 a ha).1) _ _ _ _ _ _) (by simp),hr3.cap⟩,hne,by exact zsh,by exact zbl⟩)
    case rest=>
     obtain⟨mb,m',A',c',rfl,rfl,hm',hmb,hmbl,hmk,hmr',hne',hsh3,hbw3⟩:=hcut
     have HM':=zh hm'
     have HMK:=zh hmk
     have HMR':=zh hmr'
     have HNE':=zh hne'
     have hbc3:Below w.heap.size w wc:=hB0.trans (hbw3.mono (by omega))
     clear hm' hmk hmr' hne' x0 x1 x2 x3 x4 x5 g0 g1 g2 g3 c0 c1 c2 cf0 cf1 cf2 i0 i1 i6 i7
     (have jg:=(hsh3.2.2 w.heap.size l0).trans HKG.out);(obtain⟨g0,g1,g2,g3⟩:=cg4 jg);(have j1:=(hsh3.2.2 (w.heap.size+1) l1).trans HK1.out);(obtain⟨c0,cf0,c1,cf1,c2,cf2⟩:=cv3 j1);(have j2:=(hsh3.2.2 (w.heap.size+1+1) l2).trans HK2.out);(obtain⟨b0,bf0,b1,bf1,b2,bf2⟩:=cv3 j2);(have j3:=(hsh3.2.2 (w.heap.size+1+1+1) l3).trans HK3.out);(obtain⟨d0,df0,d1,df1,d2,df2⟩:=cv3 j3);(have HJ3:=zh j3);clear jg j1 j2 j3
     have p0:w.heap.size<wc.heap.size:=Nat.lt_of_lt_of_le l0 hsh3.1
     have p1:w.heap.size+1<wc.heap.size:=Nat.lt_of_lt_of_le l1 hsh3.1
     have p2:w.heap.size+1+1<wc.heap.size:=Nat.lt_of_lt_of_le l2 hsh3.1
     have p3:w.heap.size+1+1+1<wc.heap.size:=Nat.lt_of_lt_of_le l3 hsh3.1
     have heq:=fun w=>Tryz.eql_ord w o.mir o.sta o.lost
     cases hlg:ledG g m st with
     |none=>
      have hhe:=zh (show heardE g (fldOf tk ls xs) o=7 by rw[hhe0.out,hlg];rfl)
      have hhg:=zh (show heardG g (fldOf tk ls xs) o=fldOf tk ls xs by unfold heardG;rw[hhe.out,if_pos (.inl (by decide))])
      go_wp2_with fail
      refine bodyPost_ret (Tryz.res_fld2 rfl _ _ rfl (set3_block HJ3.out)) rfl ?_
      have hfin:=Below.set3 (b:=w.heap.size+1+1+1) hbc3 (by omega) (.int .i64 tk) (.int .i64 ls) (.slice (some ⟨b,off,none⟩) xs.length c)
      exact⟨(some ⟨b,off,none⟩),c,xs,by rw[hhe.out];rfl,hhg.out.symm,(HF0.out.belowB (w0:=w) hfin (Nat.le_refl _)).more hfin.size,fun _ _ h=>h,hfin⟩
     |some ml=>
      have hmm:m'=ml:=by rw[HM'.out,hlg];rfl
      subst hmm
      have hhe:=zh (show heardE g (fldOf tk ls xs) o=0 by rw[hhe0.out,hlg];rfl)
      cases hlo:o.lost with
      |true=>
       have hhg:=zh (show heardG g (fldOf tk ls xs) o=fldOf tk ls xs by unfold heardG;rw[if_pos (.inr hlo)])
       go_wp2_with fail
       refine bodyPost_ret (Tryz.res_fld2 rfl _ _ rfl (set3_block HJ3.out)) rfl ?_
       have hfin:=Below.set3 (b:=w.heap.size+1+1+1) hbc3 (by omega) (.int .i64 tk) (.int .i64 ls) (.slice (some ⟨b,off,none⟩) xs.length c)
       exact⟨(some ⟨b,off,none⟩),c,xs,by rw[hhe.out];rfl,hhg.out.symm,(HF0.out.belowB (w0:=w) hfin (Nat.le_refl _)).more hfin.size,fun _ _ h=>h,hfin⟩
      |false=>
       have hhg:=zh (show heardG g (fldOf tk ls xs) o= {(fldOf tk ls xs)with mir:=(fldOf tk ls xs).mir.set k {m' with heard:=tk}} by unfold heardG;rw[if_neg (by rintro(h|h);exact h hhe.out;rw[hlo]at h;cases h),←HFI.out,←HST.out,HGD.out,hlg];rfl)
       have hw1000:∀x∈xs,x.m.way.length≤1000:=fun x hx=>by have:=(HM0.out x hx).len;omega
       have HW1:=zh hw1000
       clear hw1000
       go_upto_region 14 with (go_at_call 116;refine(own_c tk ls (some ⟨b,off,none⟩) c xs _ hn1 HW1.out (HF.out.sx (Nat.le_refl _) hsh3.sx)).mono ?_;rintro e w5 ⟨A5,c5,ys,rfl,hys,hown,hsp,hb5⟩;(have HYS:=zh hys);(have HOW:=zh hown);(have HSP:=zh hsp);clear hys hown hsp;(have hs5:Sh W0 w5:=by exact zsh);(have hyl:ys.length=xs.length:=by have h1:=congrArg List.length HYS.out;simpa using h1);clear c0 c1 c2 cf0 cf1 cf2 d0 d1 d2 df0 df1 df2;(have j1:=(hs5.2.2 (w.heap.size+1) l1).trans HK1.out);(obtain⟨c0,cf0,c1,cf1,c2,cf2⟩:=cv3 j1);(have jm:=(hb5.block mb hmbl).trans HMK.out);(obtain⟨e0,ef0,e1,ef1,e2,ef2,e3,ef3,e4,ef4,e5,ef5⟩:=cv6 jm);(have HJM:=zh jm);clear j1 jm;(have v1:w.heap.size+1<w5.heap.size:=Nat.lt_of_lt_of_le l1 hs5.1);(have v3:w.heap.size+1+1+1<w5.heap.size:=Nat.lt_of_lt_of_le l3 hs5.1);(have vm:mb<w5.heap.size:=Nat.lt_of_lt_of_le hmbl hb5.size))
       obtain⟨gb,cap,hv,hgb,hglt⟩:=HOW.out.row.form (by omega)
       cases hv
       obtain⟨W6,hW6⟩:∃W6,W6=(w5.setCell ⟨mb,5,none⟩ (.int .i64 tk)).alloc (.cells #[.int .i64 tk,.int .i64 ls,.slice (some ⟨gb,0,none⟩) xs.length c5] 72):=⟨_,rfl⟩
       rw[←hW6]
       have hwc5:=hb5.size
       have hsz6:W6.heap.size=w5.heap.size+1:=by rw[hW6];simp
       have hbw5:Below w.heap.size w w5:=hbc3.trans (hb5.mono (by omega))
       have hbw6:Below w.heap.size w W6:=by rw[hW6];exact Below.alloc (Below.setCell hbw5 (p:=⟨mb,5,none⟩) (by show w.heap.size≤mb;omega) _) (by have:=hbw5.size;simp;omega) _
       have y0:W6.heap[mb]? =some (.cells #[.string m'.name,.string m'.sec,.int .i64 m'.loc,.slice A' m'.way.length c',.int .i64 m'.left,.int .i64 tk] 106 (0,0)):=by rw[hW6];exact(Below.heap_alloc _ _ _ (by simp;omega)).trans (heap_setCell_same w5 mb 5 _ _ _ HJM.out)
       have y1:W6.heap[w5.heap.size]? =some (.cells #[.int .i64 tk,.int .i64 ls,.slice (some ⟨gb,0,none⟩) xs.length c5] 72 (0,0)):=by
        rw[hW6]
        have:=heap_alloc_new (w5.setCell ⟨mb,5,none⟩ (.int .i64 tk)) (.cells #[.int .i64 tk,.int .i64 ls,.slice (some ⟨gb,0,none⟩) xs.length c5] 72)
        rwa [show(w5.setCell ⟨mb,5,none⟩ (.int .i64 tk)).heap.size=w5.heap.size by simp]at this
       have y3:W6.heap[w.heap.size+1+1+1]? =some (.cells #[.int .i64 0,.int .i64 0,.slice none 0 0] 72 (0,0)):=by rw[hW6];exact(Below.heap_alloc _ _ _ (by simp;omega)).trans ((heap_setCell_other _ _ _ _ (by simp;omega)).trans ((hs5.2.2 _ l3).trans HK3.out))
       have HO6:=zh (show OwnM W6 wc.heap.size (some ⟨gb,0,none⟩) c5 ys by
        rw[hW6]
        have h1:OwnM (w5.setCell ⟨mb,5,none⟩ (.int .i64 tk)) wc.heap.size (some ⟨gb,0,none⟩) c5 ys:=HOW.out.kept (grownBy_setCellO _ _ _ _) (fun d hd e=>by cases hd;exact absurd (Option.some.inj e) (by show ¬(mb=gb);omega)) (fun z hz hne a ha e=>absurd (Option.some.inj e) (by have:=HSP.out z hz a ha;show ¬(mb=a.block);omega))
        exact h1.below (Below.alloc (Below.refl _ _) (Nat.le_refl _) _))
       have HMR6:=zh (show MirR W6 W6.heap.size {m' with heard:=tk} A' c' by
        rw[hW6]
        have h1:=((HMR'.out.belowB (w0:=wc) hb5 (Nat.le_refl _)).setc (p:=⟨mb,5,none⟩) (.int .i64 tk) (fun hne a ha=>(HNE'.out hne a ha).1))
        exact⟨Rw.more (Rw.belowB (w0:=w5.setCell ⟨mb,5,none⟩ (.int .i64 tk)) h1.way (Below.alloc (Below.refl _ _) (Nat.le_refl _) _) (by simp;omega)) (by simp;omega),h1.cap⟩)
       have hgb6:∀a,m'.way≠ []→A'=some a→a.block<wc.heap.size:=fun a hne ha=>by
        obtain⟨b2,off2,e2,hb2',_⟩:=HMR'.out.way.at hne
        rw[e2]at ha
        cases ha
        exact hb2'
       have HGB6:=zh hgb6
       obtain⟨y,hy⟩:∃y,y=ys[k]'(by omega):=⟨_,rfl⟩
       obtain⟨b6,off6,e6,_,z0,z1,z2,z3,z4,z5⟩:=HO6.out.fld.rw_.get6 (k:=k) (by simp;omega) (by rw[List.getElem_map,←hy];rfl)
       cases e6
       simp only[Nat.zero_add]at z0 z1 z2 z3 z4 z5
       have zf0:=HO6.out.row.frozenAt (k*6)
       have zf1:=HO6.out.row.frozenAt (k*6+1)
       have zf2:=HO6.out.row.frozenAt (k*6+2)
       have zf3:=HO6.out.row.frozenAt (k*6+3)
       have zf4:=HO6.out.row.frozenAt (k*6+4)
       have zf5:=HO6.out.row.frozenAt (k*6+5)
       have HY3:=zh y3
       have HY1:=zh y1
       have HLT:=zh (show k<ys.length by omega)
       clear hW6 hy hgb6 c0 c1 c2 cf0 cf1 cf2 e0 e1 e2 e3 e4 e5 ef0 ef1 ef2 ef3 ef4 ef5 b0 b1 b2 bf0 bf1 bf2 heq
       (obtain⟨e0,ef0,e1,ef1,e2,ef2,e3,ef3,e4,ef4,e5,ef5⟩:=cv6 y0)
       (obtain⟨c0,cf0,c1,cf1,c2,cf2⟩:=cv3 y1)
       (obtain⟨d0,df0,d1,df1,d2,df2⟩:=cv3 y3)
       have ne0:¬(gb=w5.heap.size):=by omega
       have ne1:¬(w5.heap.size=gb):=by omega
       have ne2:¬(gb=w.heap.size+1+1+1):=by omega
       have ne3:¬(w.heap.size+1+1+1=gb):=by omega
       have i1:(k:Int)<(xs.length:Int):=by omega
       clear y0 y1 y3 hyl hsh hsh3 hs20 hB2 hbw2 hb2
       go_upto_region 15 with fail
       obtain⟨W7,hW7⟩:∃W7,W7=(((((W6.setCell ⟨gb,k*6,none⟩ (.string m'.name)).setCell ⟨gb,k*6+1,none⟩ (.string m'.sec)).setCell ⟨gb,k*6+2,none⟩ (.int .i64 m'.loc)).setCell ⟨gb,k*6+3,none⟩ (.slice A' m'.way.length c')).setCell ⟨gb,k*6+4,none⟩ (.int .i64 m'.left)).setCell ⟨gb,k*6+5,none⟩ (.int .i64 tk):=⟨_,rfl⟩
       rw[←hW7]
       have hoth:∀b',b'≠gb→W7.heap[b']? =W6.heap[b']? :=fun b' hb'=>by
        have e:∀(W:World) (o:Nat) (v:Value),(W.setCell ⟨gb,o,none⟩ v).heap[b']? =W.heap[b']? :=fun W o v=>heap_setCell_other W _ _ _ hb'
        rw[hW7,e,e,e,e,e,e]
       have y1:=(hoth w5.heap.size (fun h=>ne1 h)).trans HY1.out
       have y3:=(hoth (w.heap.size+1+1+1) (fun h=>ne3 h)).trans HY3.out
       have hbw7:Below w.heap.size w W7:=by
        rw[hW7]
        exact Below.setCell (Below.setCell (Below.setCell (Below.setCell (Below.setCell (Below.setCell hbw6 (p:=⟨gb,k*6,none⟩) (by show w.heap.size≤gb;omega) _) (p:=⟨gb,k*6+1,none⟩) (by show w.heap.size≤gb;omega) _) (p:=⟨gb,k*6+2,none⟩) (by show w.heap.size≤gb;omega) _) (p:=⟨gb,k*6+3,none⟩) (by show w.heap.size≤gb;omega) _) (p:=⟨gb,k*6+4,none⟩) (by show w.heap.size≤gb;omega) _) (p:=⟨gb,k*6+5,none⟩) (by show w.heap.size≤gb;omega) _
       have HO7:=zh (show OwnM W7 wc.heap.size (some ⟨gb,0,none⟩) c5 (ys.set k ⟨{m' with heard:=tk},A',c'⟩) by
        rw[hW7]
        exact HO6.out.set HLT.out ⟨{m' with heard:=tk},A',c'⟩ HMR6.out (fun hne a ha e=>by have h1:a.block<wc.heap.size:=HGB6.out a hne ha;omega))
       clear hW7 e0 e1 e2 e3 e4 e5 ef0 ef1 ef2 ef3 ef4 ef5 c0 c1 c2 cf0 cf1 cf2 d0 d1 d2 df0 df1 df2 z0 z1 z2 z3 z4 z5 zf0 zf1 zf2 zf3 zf4 zf5 hoth
       (obtain⟨c0,cf0,c1,cf1,c2,cf2⟩:=cv3 y1)
       (obtain⟨d0,df0,d1,df1,d2,df2⟩:=cv3 y3)
       have HZ3:=zh y3
       clear y1 y3
       go_wp2_with fail
       refine bodyPost_ret (Tryz.res_fld2 rfl _ _ rfl (set3_block HZ3.out)) rfl ?_
       have hfin:=Below.set3 (b:=w.heap.size+1+1+1) hbw7 (by omega) (.int .i64 tk) (.int .i64 ls) (.slice (some ⟨gb,0,none⟩) xs.length c5)
       have hyl2:(ys.set k ⟨{m' with heard:=tk},A',c'⟩).length=xs.length:=by
        have h1:=congrArg List.length HYS.out
        simpa using h1
       refine⟨some ⟨gb,0,none⟩,c5,ys.set k ⟨{m' with heard:=tk},A',c'⟩,by rw[hhe.out,hyl2];rfl,?_,?_,?_,hfin⟩
       ·rw[hhg.out]
        unfold fldOf
        simp only[List.map_set,HYS.out]
       ·have hk:∀(W:World) (o:Nat) (v:Value),OwnM W wc.heap.size (some ⟨gb,0,none⟩) c5 (ys.set k ⟨{m' with heard:=tk},A',c'⟩)→OwnM (W.setCell ⟨w.heap.size+1+1+1,o,none⟩ v) wc.heap.size (some ⟨gb,0,none⟩) c5 (ys.set k ⟨{m' with heard:=tk},A',c'⟩):=fun W o v h=>
         h.kept (grownBy_setCellO _ _ _ _) (fun d hd e=>by cases hd;exact absurd (Option.some.inj e) (fun h=>ne3 h)) (fun z hz hne a ha e=>by
          refine absurd (Option.some.inj e) ?_
          show ¬(w.heap.size+1+1+1=a.block)
          rcases List.mem_or_eq_of_mem_set hz with hz|rfl
          ·have:=HSP.out z hz a ha
           omega
          ·have:=(HNE'.out hne a ha).2
           omega)
        exact(hk _ _ _ (hk _ _ _ (hk _ _ _ HO7.out))).fld
       ·have hcw:w.heap.size≤wc.heap.size:=hbc3.size
        intro P hP hfr
        refine⟨fun _ a ha=>by cases ha;exact hP gb (by omega),fun z hz hne a ha=>?_⟩
        rcases List.mem_or_eq_of_mem_set hz with hz|rfl
        ·exact hP _ (Nat.le_trans hcw (HSP.out z hz a ha))
        ·rcases(HNE'.out hne a ha).2 with ⟨h1,h2,_⟩|h1
         ·have hxm:(⟨m,mA,mc⟩:MA)∈xs:=by rw[HX.out];exact List.getElem_mem HKEEP.out
          exact hfr.way _ hxm (by show m.way≠ [];rw[←h2];exact hne) a (by rw[←h1];exact ha)
         ·exact hP _ (by omega)
end Go.Proofs.YtehnikhicnnnhaaGreatDoor
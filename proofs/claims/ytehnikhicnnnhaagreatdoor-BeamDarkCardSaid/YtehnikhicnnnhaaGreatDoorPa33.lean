/- The reference's CheckGrid. -/
import Derived.Test.YtehnikhicnnnhaaGreatDoorPa31
namespace Go.Proofs.YtehnikhicnnnhaaGreatDoor
open Go.RowKit
theorem bk_lt{U:World}{b:Nat}{c:Obj}(h:U.heap[b]? =some c):b<U.heap.size:=(Array.getElem?_eq_some_iff.1 h).1
theorem bk_step{U W:World}{b:Nat}{c:Obj}(hb:Below U.heap.size U W)(h:U.heap[b]? =some c):W.heap[b]? =some c:=(hb.block b (bk_lt h)).trans h
theorem bk_alloc{U:World}{b:Nat}{c o:Obj}(h:U.heap[b]? =some c):(U.alloc o).heap[b]? =some c:=(Below.heap_alloc _ _ _ (bk_lt h)).trans h
theorem gE0{g:Grd}(h:rng g.blur 0 100≠0):gridC g=rng g.blur 0 100:=fEn h _
theorem gE1{g:Grd}{e:Int}(h:rng g.blur 0 100=0)(h1:stasC g.sta=e)(he:e≠0):gridC g=e:=by unfold gridC;rw[h,fE0,h1,fEn he]
theorem gE2{g:Grd}{e:Int}(h:rng g.blur 0 100=0)(h1:stasC g.sta=0)(h2:movesC g=e)(he:e≠0):gridC g=e:=by unfold gridC;rw[h,fE0,h1,fE0,h2,fEn he]
theorem gE3{g:Grd}{e:Int}(h:rng g.blur 0 100=0)(h1:stasC g.sta=0)(h2:movesC g=0)(h3:zonesC g.zon=e):gridC g=e:=by unfold gridC;rw[h,fE0,h1,fE0,h2,fE0,h3,fE1]
theorem nmC_t{s:ByteArray}(h:isNm s=true):nmC s=0:=by unfold nmC;rw[h];rfl
theorem nmC_f{s:ByteArray}(h:isNm s=false):nmC s=8:=by unfold nmC;rw[h];rfl
theorem staE8{sn:List ByteArray}{x:Sta}(h:isNm x.name=false):staE sn x=8:=by unfold staE;rw[nmC_f h];rfl
theorem staE9{sn:List ByteArray}{x:Sta}(h:isNm x.name=true)(h2:memS sn x.name=true):staE sn x=9:=by unfold staE;rw[nmC_t h,h2];rfl
theorem staE13{sn:List ByteArray}{x:Sta}(h:isNm x.name=true)(h2:memS sn x.name=false)(h3:memS kinds x.kind=false):staE sn x=13:=by unfold staE;rw[nmC_t h,h2,h3];rfl
theorem staEp{sn:List ByteArray}{x:Sta}(h:isNm x.name=true)(h2:memS sn x.name=false)(h3:memS kinds x.kind=true):staE sn x=placeC x.x x.y:=by
 unfold staE;rw[nmC_t h,h2,h3,fE0,show whn false 9=0 from rfl,fE0,show whn (!true) 13=0 from rfl,fE0,fE1]
theorem zonE8{sn:List ByteArray}{x:Zon}(h:isNm x.name=false):zonE sn x=8:=by unfold zonE;rw[nmC_f h];rfl
theorem zonE9{sn:List ByteArray}{x:Zon}(h:isNm x.name=true)(h2:memS sn x.name=true):zonE sn x=9:=by unfold zonE;rw[nmC_t h,h2];rfl
theorem zonEp{sn:List ByteArray}{x:Zon}(h:isNm x.name=true)(h2:memS sn x.name=false):zonE sn x=rZoneC x:=by
 rw[rZoneC_eq];unfold zonE;rw[nmC_t h,h2,show whn false 9=0 from rfl];simp only[fE0]
theorem movE10a{g:Grd}{p:List Mov}{x:Mov}(h:hasB g x.a=false):movE g p x=10:=by unfold movE;rw[h];rfl
theorem movE10b{g:Grd}{p:List Mov}{x:Mov}(h:hasB g x.a=true)(h2:hasB g x.b=false):movE g p x=10:=by unfold movE;rw[h,h2];rfl
theorem movE11{g:Grd}{p:List Mov}{x:Mov}(h:hasB g x.a=true)(h2:hasB g x.b=true)(h3:x.b≤x.a):movE g p x=11:=by unfold movE;rw[h,h2,decide_eq_true h3];rfl
theorem movE9{g:Grd}{p:List Mov}{x:Mov}(h:hasB g x.a=true)(h2:hasB g x.b=true)(h3:¬x.b≤x.a)(h4:p.any (sameM x)=true):movE g p x=9:=by unfold movE;rw[h,h2,decide_eq_false h3,h4];rfl
theorem movEp{g:Grd}{p:List Mov}{x:Mov}(h:hasB g x.a=true)(h2:hasB g x.b=true)(h3:¬x.b≤x.a)(h4:p.any (sameM x)=false):movE g p x=rng x.s 1 20:=by
 unfold movE;rw[h,h2,decide_eq_false h3,h4,show whn (!true) 10=0 from rfl,fE0,fE0,show whn false 11=0 from rfl,fE0,show whn false 9=0 from rfl,fE0,fE1]
theorem mem_hit{l:List ByteArray}{s:ByteArray}{j:Nat}(hj:j<l.length)(h:sEq s l[j]=true):memS l s=true:=any_at hj h
theorem mem_none{l:List ByteArray}{s:ByteArray}(h:∀x∈l,sEq s x=false):memS l s=false:=any_none h
set_option maxRecDepth 100000 in
set_option maxHeartbeats 16000000 in
theorem rGridC_c(a:GA)(g:Grd)(w:World)(hs:SmallG g)(hr:GridR w w.heap.size a g):
 Calls Tryz.prog 21 #[(.agg #[.int .i64 g.blur,.slice a.pS g.sta.length a.cs,.slice a.pM g.mov.length a.cm,.slice a.pZ g.zon.length a.cz])] w fun e w'=>e=.returned (.int .i64 (gridC g))∧Below w.heap.size w w':=by
 have hnS:=hs.ns
 have hnM:=hs.nm
 have hnZ:=hs.nz
 obtain⟨W1,hW1⟩:∃W1,W1=w.alloc (.cells #[.int .i64 g.blur,.slice a.pS g.sta.length a.cs,.slice a.pM g.mov.length a.cm,.slice a.pZ g.zon.length a.cz] 26):=⟨_,rfl⟩
 have hsz:W1.heap.size=w.heap.size+1:=by rw[hW1];simp
 have k0:W1.heap[w.heap.size]? =some (.cells #[.int .i64 g.blur,.slice a.pS g.sta.length a.cs,.slice a.pM g.mov.length a.cm,.slice a.pZ g.zon.length a.cz] 26 (0,0)):=by rw[hW1];exact heap_alloc_new w _
 have hB0:Below w.heap.size w W1:=by rw[hW1];exact zbl
 have HG:=zh (hr.sx (Nat.le_refl _) (show Sx w W1 by rw[hW1];exact(Sx.refl w).alloc _))
 (obtain⟨g0,g1,g2,g3⟩:=cg4 k0)
 have K0:=zh k0
 clear hr k0
 by_cases hb0:rng g.blur 0 100=0
 ·have hz0:(rng g.blur 0 100 !=0)=false:=by rw[bne_eq_false_iff_eq];exact hb0
  have HB:=zh hb0
  clear hb0
  by_cases hn1:16<g.sta.length
  ·have q1:(16:Int)<g.sta.length:=by omega
   have HR:Hid (gridC g=5):=zh (gE1 HB.out (by unfold stasC;rw[if_pos hn1]) (by decide))
   go_enter Tryz.func21,Tryz.ntmps21
   go_wp2_with (go_at_call 63;refine(rBlur_c _ _).mono ?_;rintro e w' ⟨rfl,rfl⟩)
   go_ret
   exact⟨ret_int HR.out.symm,by exact zbl⟩
  ·have q1:¬(16:Int)<g.sta.length:=by omega
   have HL1:=zh hn1
   clear hn1
   go_enter Tryz.func21,Tryz.ntmps21
   go_wp2_with (go_at_call 63;refine(rBlur_c _ _).mono ?_;rintro e w' ⟨rfl,rfl⟩)
   rw[←hW1]
   clear hW1
   go_loopw [4] (fun i wr=>∃k:Nat,k≤g.sta.length∧i=.int .i64 k∧Hid (chkS ((g.sta.take k).map Sta.name) (g.sta.drop k)=chkS [] g.sta)∧Below W1.heap.size W1 wr) (fun i _=>g.sta.length-(intOf i).toNat)
   case atStart=>exact⟨0,Nat.zero_le _,rfl,zh rfl,Below.refl _ _⟩
   case round=>
    obtain⟨k,hk,rfl,hf,hb⟩:=hrel
    clear g0 g1 g2 g3
    have hsw:=hb.size
    have y0:w.heap.size<wr.heap.size:=by omega
    have kr:=bk_step hb K0.out
    (obtain⟨d0,d1,d2,d3⟩:=cg4 kr)
    have KR:=zh kr
    clear kr
    have hbw:Below w.heap.size w wr:=hB0.trans (hb.mono (by omega))
    by_cases hlt:k<g.sta.length
    ·obtain⟨x,hx⟩:∃x,x=g.sta[k]:=⟨_,rfl⟩
     have hgw:=HG.out.belowB (w0:=W1) hb (Nat.le_refl _)
     obtain⟨b,off,ea,hbl,c0,c1,c2,c3⟩:=hgw.sta.get4 (k:=k) (by simpa using hlt) (by rw[List.getElem_map,←hx];rfl)
     have hn100:x.name.size≤100000:=by rw[hx];exact hs.names _ (List.getElem_mem hlt)
     have yb:b<wr.heap.size:=by omega
     rw[ea]at d1
     have HGW:=zh hgw
     have HA:=zh ea
     have HX:=zh hx
     have HBAD:Hid (∀e,staE ((g.sta.take k).map Sta.name) x=e→e≠0→gridC g=e):=zh (fun e h he=>gE1 HB.out (by
      unfold stasC;rw[if_neg HL1.out,chkS_bad hlt (by rw[←hx,h];exact he) hf,←hx,h]) he)
     have HOK:Hid (staE ((g.sta.take k).map Sta.name) x=0→Hid (chkS ((g.sta.take (k+1)).map Sta.name) (g.sta.drop (k+1))=chkS [] g.sta)):=zh (fun h=>chkS_step hlt (by rw[←hx];exact h) hf)
     clear hgw ea hx hf
     have hN:=fun W=>rName_c x.name W hn100
     cases hp:isNm x.name
     ·rw[hp]at hN
      have HN:=zh hN
      have HR:Hid (gridC g=8):=zh (HBAD.out 8 (staE8 hp) (by decide))
      clear hN hp
      go_wp2_with (go_at_call 96;refine(HN.out _).mono ?_;rintro e w' ⟨rfl,rfl⟩)
      go_ret
      exact⟨ret_int HR.out.symm,by exact zbl⟩
     ·rw[hp]at hN
      have HN:=zh hN
      have HP:=zh hp
      clear hN hp
      go_wp2_with (go_at_call 96;refine(HN.out _).mono ?_;rintro e w' ⟨rfl,rfl⟩)
      have kb:=bk_alloc (o:=.cells #[.string x.name,.string x.kind,.int .i64 x.x,.int .i64 x.y] 111) KR.out
      obtain⟨W2,hW2⟩:∃W,W=wr.alloc (.cells #[.string x.name,.string x.kind,.int .i64 x.x,.int .i64 x.y] 111):=⟨_,rfl⟩
      have hb2:Below wr.heap.size wr W2:=by rw[hW2];exact zbl
      have hs2:W2.heap.size=wr.heap.size+1:=by rw[hW2];simp
      have kx:W2.heap[wr.heap.size]? =some (.cells #[.string x.name,.string x.kind,.int .i64 x.x,.int .i64 x.y] 111 (0,0)):=by rw[hW2];exact heap_alloc_new _ _
      rw[←hW2]at kb
      have hbW:Below W1.heap.size W1 W2:=hb.trans (hb2.mono hb.size)
      have hbw2:Below w.heap.size w W2:=hbw.trans (hb2.mono hbw.size)
      have HGW2:=zh (HGW.out.belowB (w0:=wr) hb2 (Nat.le_of_lt_succ (by have:=hb.size;omega)))
      obtain⟨bx,hbx⟩:∃b,b=wr.heap.size:=⟨_,rfl⟩
      have y3:bx<W2.heap.size:=by omega
      have y2:w.heap.size<W2.heap.size:=by omega
      have yb2:b<W2.heap.size:=by omega
      have hw12:W1.heap.size≤W2.heap.size:=hbW.size
      rw[←hbx]at kx
      rw[←hW2,←hbx]
      clear hW2 hbx hb hb2 hbw KR HGW hs2 hsw y0 yb hbl
      have KB:=zh kb
      have KX:=zh kx
      clear d0 d1 d2 d3 c0 c1 c2 c3 kb kx
      go_loopw [6] (fun v wv=>∃j:Nat,j≤k∧v=.int .i64 j∧Hid (∀y∈(g.sta.map Sta.name).take j,sEq x.name y=false)∧Below W2.heap.size W2 wv) (fun v _=>k-(intOf v).toNat)
      case atStart=>exact⟨0,Nat.zero_le _,rfl,zh (by simp),Below.refl _ _⟩
      case round=>
       obtain⟨j,hj,rfl,hf2,hbv⟩:=hrel
       have hs2:=hbv.size
       have kb:=bk_step hbv KB.out
       have kx:=bk_step hbv KX.out
       (obtain⟨d0,d1,d2,d3⟩:=cg4 kb)
       rw[HA.out]at d1
       (obtain⟨x0,xf0,x1,xf1,x2,xf2,x3,xf3⟩:=cv4 kx)
       clear kb kx
       have y4:w.heap.size<wr.heap.size:=by omega
       have y5:bx<wr.heap.size:=by omega
       have y6:b<wr.heap.size:=by omega
       by_cases hjk:j<k
       ·obtain⟨y,hy⟩:∃y,y=g.sta[j]:=⟨_,rfl⟩
        have hjl:j<g.sta.length:=by omega
        obtain⟨b',off',ea',hbl',c0,c1,c2,c3⟩:=(HGW2.out.sta.belowB (w0:=W2) hbv hw12).get4 (k:=j) (by simpa using hjl) (by rw[List.getElem_map,←hy];rfl)
        rw[HA.out]at ea'
        injection ea' with ea'
        injection ea' with p1 p2
        subst p1 p2
        have hym:(g.sta.map Sta.name)[j]'(by simpa using hjl)=y.name:=by rw[List.getElem_map,←hy]
        cases hq:sEq x.name y.name
        ·have hq2:(y.name.toList==x.name.toList)=false:=by rw[ByteArray.toList_eq,ByteArray.toList_eq];exact(sEq_comm _ _).trans hq
         have HQ:=zh hq
         have HYM:=zh hym
         clear hq hym hy
         go_wp2_with fail
         go_quiet (fail)
         go_wp2_with fail
         go_roundw
         case rel=>exact⟨j+1,by omega,by go_num,zh (take_all (by simpa using hjl) hf2.out (by rw[HYM.out];exact HQ.out)),by exact zbl⟩
         case measure=>simp[intOf];omega
        ·have hq2:(y.name.toList==x.name.toList)=true:=by rw[ByteArray.toList_eq,ByteArray.toList_eq];exact(sEq_comm _ _).trans hq
         have HR:Hid (gridC g=9):=zh (HBAD.out 9 (staE9 HP.out (mem_hit (j:=j) (by simp;omega) (by rw[List.getElem_map,List.getElem_take,←hy];exact hq))) (by decide))
         clear hq hym hy
         go_wp2_with fail
         go_quiet (fail)
         go_wp2_with fail
         go_ret
         exact⟨ret_int HR.out.symm,by exact zbl⟩
       ·have hmem:memS ((g.sta.take k).map Sta.name) x.name=false:=mem_none (by rw[List.map_take];have:=hf2.out;rwa [show j=k by omega]at this)
        have HMEM:=zh hmem
        clear hmem
        have hK:=fun W=>rKind_c x.kind W
        cases hkd:memS kinds x.kind
        ·rw[hkd]at hK
         have HK:=zh hK
         have HR:Hid (gridC g=13):=zh (HBAD.out 13 (staE13 HP.out HMEM.out hkd) (by decide))
         clear hK hkd
         go_wp2_with (go_at_call 97;refine(HK.out _).mono ?_;rintro e w' ⟨rfl,rfl⟩)
         go_ret
         exact⟨ret_int HR.out.symm,by exact zbl⟩
        ·rw[hkd]at hK
         have HK:=zh hK
         have HSP:=zh (staEp (sn:=(g.sta.take k).map Sta.name) HP.out HMEM.out hkd)
         clear hK hkd
         by_cases hpl:placeC x.x x.y=0
         ·have hz3:(placeC x.x x.y !=0)=false:=by rw[bne_eq_false_iff_eq];exact hpl
          have HPL:=zh hpl
          clear hpl
          go_wp2_with (first|(go_at_call 97;refine(HK.out _).mono ?_;rintro e w' ⟨rfl,rfl⟩)|(go_at_call 64;refine(rPlace_c _ _ _).mono ?_;rintro e w3 ⟨rfl,hb3⟩))
          go_roundw
          case rel=>exact⟨k+1,by omega,by go_num,HOK.out (HSP.out.trans HPL.out),by exact zbl⟩
          case measure=>simp[intOf];omega
         ·have hz3:(placeC x.x x.y !=0)=true:=by rw[bne_iff_ne];exact hpl
          have HR:Hid (gridC g=placeC x.x x.y):=zh (HBAD.out _ HSP.out hpl)
          clear hpl
          go_wp2_with (first|(go_at_call 97;refine(HK.out _).mono ?_;rintro e w' ⟨rfl,rfl⟩)|(go_at_call 64;refine(rPlace_c _ _ _).mono ?_;rintro e w3 ⟨rfl,hb3⟩))
          go_ret
          exact⟨ret_int HR.out.symm,by exact zbl⟩
    ·have hkl:k=g.sta.length:=by omega
     have HS0:Hid (stasC g.sta=0):=zh (by unfold stasC;rw[if_neg HL1.out,chkS_end hlt hf])
     clear hf hlt hk
     by_cases hn2:40<g.mov.length
     ·have q2:(40:Int)<g.mov.length:=by omega
      have HR:Hid (gridC g=5):=zh (gE2 HB.out HS0.out (by unfold movesC;rw[if_pos hn2]) (by decide))
      go_wp2_with fail
      go_ret
      exact⟨ret_int HR.out.symm,by exact zbl⟩
     ·have q2:¬(40:Int)<g.mov.length:=by omega
      have HL2:=zh hn2
      clear hn2
      go_wp2_with fail
      go_loopw [8] (fun i wv=>∃k:Nat,k≤g.mov.length∧i=.int .i64 k∧Hid (chkM g (g.mov.take k) (g.mov.drop k)=chkM g [] g.mov)∧Below W1.heap.size W1 wv) (fun i _=>g.mov.length-(intOf i).toNat)
      case atStart=>exact⟨0,Nat.zero_le _,rfl,zh rfl,hb⟩
      case round=>
       clear hb hbw hsw y0 d0 d1 d2 d3 KR
       obtain⟨k,hk,rfl,hf,hb⟩:=hrel
       have hsw:=hb.size
       have y0:w.heap.size<wr.heap.size:=by omega
       have kr:=bk_step hb K0.out
       (obtain⟨d0,d1,d2,d3⟩:=cg4 kr)
       have KR:=zh kr
       clear kr
       have hbw:Below w.heap.size w wr:=hB0.trans (hb.mono (by omega))
       by_cases hlt:k<g.mov.length
       ·obtain⟨x,hx⟩:∃x,x=g.mov[k]:=⟨_,rfl⟩
        have hgw:=HG.out.belowB (w0:=W1) hb (Nat.le_refl _)
        obtain⟨b,off,ea,hbl,c0,c1,c2⟩:=hgw.mov.get3 (k:=k) (by simpa using hlt) (by rw[List.getElem_map,←hx];rfl)
        have yb:b<wr.heap.size:=by omega
        have HGW:=zh hgw
        have HA:=zh ea
        have HX:=zh hx
        have HBAD:Hid (∀e,movE g (g.mov.take k) x=e→e≠0→gridC g=e):=zh (fun e h he=>gE2 HB.out HS0.out (by
         unfold movesC;rw[if_neg HL2.out,chkM_bad hlt (by rw[←hx,h];exact he) hf,←hx,h]) he)
        have HOK:Hid (movE g (g.mov.take k) x=0→Hid (chkM g (g.mov.take (k+1)) (g.mov.drop (k+1))=chkM g [] g.mov)):=zh (fun h=>chkM_step hlt (by rw[←hx];exact h) hf)
        clear hgw hx hf
        have hA1:=fun W=>has_r a g x.a W
        have hA2:=fun W=>has_r a g x.b W
        rw[ea]at d2 hA1 hA2
        clear ea
        go_upto_region 28 with fail
        have kb:=bk_alloc (o:=.cells #[.int .i64 x.a,.int .i64 x.b,.int .i64 x.s] 165) KR.out
        obtain⟨W2,hW2⟩:∃W,W=wr.alloc (.cells #[.int .i64 x.a,.int .i64 x.b,.int .i64 x.s] 165):=⟨_,rfl⟩
        have hb2:Below wr.heap.size wr W2:=by rw[hW2];exact zbl
        have hs2:W2.heap.size=wr.heap.size+1:=by rw[hW2];simp
        have kx:W2.heap[wr.heap.size]? =some (.cells #[.int .i64 x.a,.int .i64 x.b,.int .i64 x.s] 165 (0,0)):=by rw[hW2];exact heap_alloc_new _ _
        rw[←hW2]at kb
        have hbW:Below W1.heap.size W1 W2:=hb.trans (hb2.mono hb.size)
        have hbw2:Below w.heap.size w W2:=hbw.trans (hb2.mono hbw.size)
        have HGW2:=zh (HGW.out.belowB (w0:=wr) hb2 (Nat.le_of_lt_succ (by have:=hb.size;omega)))
        obtain⟨bx,hbx⟩:∃b,b=wr.heap.size:=⟨_,rfl⟩
        have y3:bx<W2.heap.size:=by omega
        have y2:w.heap.size<W2.heap.size:=by omega
        have yb2:b<W2.heap.size:=by omega
        have hw12:W1.heap.size≤W2.heap.size:=hbW.size
        rw[←hbx]at kx
        rw[←hW2,←hbx]
        clear hW2 hbx hb hb2 hbw KR HGW hs2 hsw y0 yb hbl
        have KB:=zh kb
        have KX:=zh kx
        (obtain⟨r0,r1,r2,r3⟩:=cg4 kb)
        rw[HA.out]at r2
        (obtain⟨s0,sf0,s1,sf1,s2,sf2⟩:=cv3 kx)
        clear kb kx
        cases hp:hasB g x.a
        ·rw[hp]at hA1
         have HA1:=zh hA1
         have HR:Hid (gridC g=10):=zh (HBAD.out 10 (movE10a hp) (by decide))
         clear hA1 hA2 hp
         go_wp2_with (go_at_call 98;(with_reducible refine Calls.mono (HA1.out _) ?_);rintro e w3 ⟨rfl,hb3⟩;(have kb3:=bk_step hb3 KB.out);(have kx3:=bk_step hb3 KX.out);(obtain⟨e0,e1,e2,e3⟩:=cg4 kb3);rw[HA.out]at e2;(obtain⟨z0,zf0,z1,zf1,z2,zf2⟩:=cv3 kx3);clear kb3 kx3)
         go_ret
         exact⟨ret_int HR.out.symm,by exact zbl⟩
        ·rw[hp]at hA1
         have HA1:=zh hA1
         have HP:=zh hp
         clear hA1 hp
         cases hp2:hasB g x.b
         ·rw[hp2]at hA2
          have HA2:=zh hA2
          have HR:Hid (gridC g=10):=zh (HBAD.out 10 (movE10b HP.out hp2) (by decide))
          clear hA2 hp2
          go_wp2_with (first|(go_at_call 98;(with_reducible refine Calls.mono (HA1.out _) ?_);rintro e w3 ⟨rfl,hb3⟩;(have kb3:=bk_step hb3 KB.out);(have kx3:=bk_step hb3 KX.out);(obtain⟨e0,e1,e2,e3⟩:=cg4 kb3);rw[HA.out]at e2;(obtain⟨z0,zf0,z1,zf1,z2,zf2⟩:=cv3 kx3);clear kb3 kx3)|(go_at_call 98;(with_reducible refine Calls.mono (HA2.out _) ?_);rintro e w4 ⟨rfl,hb4⟩;(have hb24:Below W2.heap.size W2 w4:=by exact zbl);(have kb3:=bk_step hb24 KB.out);(have kx3:=bk_step hb24 KX.out);(obtain⟨f0,f1,f2,f3⟩:=cg4 kb3);rw[HA.out]at f2;(obtain⟨y0,yf0,y1,yf1,y2,yf2⟩:=cv3 kx3);clear kb3 kx3))
          go_ret
          exact⟨ret_int HR.out.symm,by exact zbl⟩
         ·rw[hp2]at hA2
          have HA2:=zh hA2
          have HP2:=zh hp2
          clear hA2 hp2
          by_cases hle:x.b≤x.a
          ·have HR:Hid (gridC g=11):=zh (HBAD.out 11 (movE11 HP.out HP2.out hle) (by decide))
           go_wp2_with (first|(go_at_call 98;(with_reducible refine Calls.mono (HA1.out _) ?_);rintro e w3 ⟨rfl,hb3⟩;(have kb3:=bk_step hb3 KB.out);(have kx3:=bk_step hb3 KX.out);(obtain⟨e0,e1,e2,e3⟩:=cg4 kb3);rw[HA.out]at e2;(obtain⟨z0,zf0,z1,zf1,z2,zf2⟩:=cv3 kx3);clear kb3 kx3)|(go_at_call 98;(with_reducible refine Calls.mono (HA2.out _) ?_);rintro e w4 ⟨rfl,hb4⟩;(have hb24:Below W2.heap.size W2 w4:=by exact zbl);(have kb3:=bk_step hb24 KB.out);(have kx3:=bk_step hb24 KX.out);(obtain⟨f0,f1,f2,f3⟩:=cg4 kb3);rw[HA.out]at f2;(obtain⟨y0,yf0,y1,yf1,y2,yf2⟩:=cv3 kx3);clear kb3 kx3))
           go_ret
           exact⟨ret_int HR.out.symm,by exact zbl⟩
          ·have HLE:=zh hle
           go_wp2_with (first|(go_at_call 98;(with_reducible refine Calls.mono (HA1.out _) ?_);rintro e w3 ⟨rfl,hb3⟩;(have kb3:=bk_step hb3 KB.out);(have kx3:=bk_step hb3 KX.out);(obtain⟨e0,e1,e2,e3⟩:=cg4 kb3);rw[HA.out]at e2;(obtain⟨z0,zf0,z1,zf1,z2,zf2⟩:=cv3 kx3);clear kb3 kx3)|(go_at_call 98;(with_reducible refine Calls.mono (HA2.out _) ?_);rintro e w4 ⟨rfl,hb4⟩;(have hb24:Below W2.heap.size W2 w4:=by exact zbl);(have kb3:=bk_step hb24 KB.out);(have kx3:=bk_step hb24 KX.out);(obtain⟨f0,f1,f2,f3⟩:=cg4 kb3);rw[HA.out]at f2;(obtain⟨y0,yf0,y1,yf1,y2,yf2⟩:=cv3 kx3);clear kb3 kx3))
           clear hle e0 e1 e2 e3 f0 f1 f2 f3 r0 r1 r2 r3 s0 s1 s2 sf0 sf1 sf2 z0 z1 z2 zf0 zf1 zf2 y0 y1 y2 yf0 yf1 yf2
           have h24:=hb24.size
           go_loopw [10] (fun v wv=>∃j:Nat,j≤k∧v=.int .i64 j∧Hid (∀y∈g.mov.take j,sameM x y=false)∧Below w4.heap.size w4 wv) (fun v _=>k-(intOf v).toNat)
           case atStart=>exact⟨0,Nat.zero_le _,rfl,zh (by simp),Below.refl _ _⟩
           case round=>
            obtain⟨j,hj,rfl,hf2,hbv⟩:=hrel
            have hs2:=hbv.size
            have hb2v:Below W2.heap.size W2 wr:=hb24.trans (hbv.mono hb24.size)
            (have kb3:=bk_step hb2v KB.out)
            (have kx3:=bk_step hb2v KX.out)
            (obtain⟨d0,d1,d2,d3⟩:=cg4 kb3)
            rw[HA.out]at d2
            (obtain⟨x0,xf0,x1,xf1,x2,xf2⟩:=cv3 kx3)
            clear kb3 kx3
            have y4:w.heap.size<wr.heap.size:=by omega
            have y5:bx<wr.heap.size:=by omega
            have y6:b<wr.heap.size:=by omega
            by_cases hjk:j<k
            ·obtain⟨y,hy⟩:∃y,y=g.mov[j]:=⟨_,rfl⟩
             have hjl:j<g.mov.length:=by omega
             obtain⟨b',off',ea',hbl',c0,c1,c2⟩:=(HGW2.out.mov.belowB (w0:=W2) hb2v hw12).get3 (k:=j) (by simpa using hjl) (by rw[List.getElem_map,←hy];rfl)
             rw[HA.out]at ea'
             injection ea' with ea'
             injection ea' with p1 p2
             subst p1 p2
             cases h1:(y.a==x.a)
             ·have HQ:Hid (sameM x y=false):=zh (by unfold sameM;rw[h1];rfl)
              have HYM:=zh hy.symm
              clear hy
              go_wp2_with fail
              go_quiet (fail)
              go_wp2_with fail
              go_roundw
              case rel=>exact⟨j+1,by omega,by go_num,zh (take_all (by omega) hf2.out (by rw[HYM.out];exact HQ.out)),by exact zbl⟩
              case measure=>simp[intOf];omega
             ·cases h2:(y.b==x.b)
              ·have HQ:Hid (sameM x y=false):=zh (by unfold sameM;rw[h1,h2];rfl)
               have HYM:=zh hy.symm
               clear hy
               go_wp2_with fail
               go_quiet (fail)
               go_wp2_with fail
               go_roundw
               case rel=>exact⟨j+1,by omega,by go_num,zh (take_all (by omega) hf2.out (by rw[HYM.out];exact HQ.out)),by exact zbl⟩
               case measure=>simp[intOf];omega
              ·have HR:Hid (gridC g=9):=zh (HBAD.out 9 (movE9 HP.out HP2.out (by have:=HLE.out;omega) (any_at (k:=j) (by simp;omega) (by rw[List.getElem_take,←hy];unfold sameM;rw[h1,h2];rfl))) (by decide))
               clear hy
               go_wp2_with fail
               go_quiet (fail)
               go_wp2_with fail
               go_ret
               exact⟨ret_int HR.out.symm,by exact zbl⟩
            ·have hmem:(g.mov.take k).any (sameM x)=false:=any_none (by have:=hf2.out;rwa [show j=k by omega]at this)
             have HSP:=zh (movEp HP.out HP2.out (by have:=HLE.out;omega) hmem)
             clear hmem
             by_cases hpl:rng x.s 1 20=0
             ·have hz3:(rng x.s 1 20 !=0)=false:=by rw[bne_eq_false_iff_eq];exact hpl
              have HPL:=zh hpl
              clear hpl
              go_wp2_with (go_at_call 99;refine(rRange_c _ _ _ _).mono ?_;rintro e w' ⟨rfl,rfl⟩)
              go_roundw
              case rel=>exact⟨k+1,by omega,by go_num,HOK.out (HSP.out.trans HPL.out),by exact zbl⟩
              case measure=>simp[intOf];omega
             ·have hz3:(rng x.s 1 20 !=0)=true:=by rw[bne_iff_ne];exact hpl
              have HR:Hid (gridC g=rng x.s 1 20):=zh (HBAD.out _ HSP.out hpl)
              clear hpl
              go_wp2_with (go_at_call 99;refine(rRange_c _ _ _ _).mono ?_;rintro e w' ⟨rfl,rfl⟩)
              go_ret
              exact⟨ret_int HR.out.symm,by exact zbl⟩
       ·have hkl:k=g.mov.length:=by omega
        have HM0:Hid (movesC g=0):=zh (by unfold movesC;rw[if_neg HL2.out,chkM_end hlt hf])
        clear hf hlt hk
        by_cases hn3:8<g.zon.length
        ·have q3:(8:Int)<g.zon.length:=by omega
         have HR:Hid (gridC g=5):=zh (gE3 HB.out HS0.out HM0.out (by unfold zonesC;rw[if_pos hn3]))
         go_wp2_with fail
         go_ret
         exact⟨ret_int HR.out.symm,by exact zbl⟩
        ·have q3:¬(8:Int)<g.zon.length:=by omega
         have HL3:=zh hn3
         clear hn3
         go_wp2_with fail
         go_loopw [12] (fun i wv=>∃k:Nat,k≤g.zon.length∧i=.int .i64 k∧Hid (chkZ ((g.zon.take k).map Zon.name) (g.zon.drop k)=chkZ [] g.zon)∧Below W1.heap.size W1 wv) (fun i _=>g.zon.length-(intOf i).toNat)
         case atStart=>exact⟨0,Nat.zero_le _,rfl,zh rfl,hb⟩
         case round=>
          clear hb hbw hsw y0 d0 d1 d2 d3 KR
          obtain⟨k,hk,rfl,hf,hb⟩:=hrel
          have hsw:=hb.size
          have y0:w.heap.size<wr.heap.size:=by omega
          have kr:=bk_step hb K0.out
          (obtain⟨d0,d1,d2,d3⟩:=cg4 kr)
          have KR:=zh kr
          clear kr
          have hbw:Below w.heap.size w wr:=hB0.trans (hb.mono (by omega))
          by_cases hlt:k<g.zon.length
          ·obtain⟨x,hx⟩:∃x,x=g.zon[k]:=⟨_,rfl⟩
           have hgw:=HG.out.belowB (w0:=W1) hb (Nat.le_refl _)
           obtain⟨b,off,ea,hbl,c0,c1,c2,c3⟩:=hgw.zon.get4 (k:=k) (by simpa using hlt) (by rw[List.getElem_map,←hx];rfl)
           have hn100:x.name.size≤100000:=by rw[hx];exact hs.namez _ (List.getElem_mem hlt)
           have yb:b<wr.heap.size:=by omega
           rw[ea]at d3
           have HGW:=zh hgw
           have HA:=zh ea
           have HX:=zh hx
           have HBAD:Hid (∀e,zonE ((g.zon.take k).map Zon.name) x=e→e≠0→gridC g=e):=zh (fun e h he=>gE3 HB.out HS0.out HM0.out (by
            unfold zonesC;rw[if_neg HL3.out,chkZ_bad hlt (by rw[←hx,h];exact he) hf,←hx,h]))
           have HOK:Hid (zonE ((g.zon.take k).map Zon.name) x=0→Hid (chkZ ((g.zon.take (k+1)).map Zon.name) (g.zon.drop (k+1))=chkZ [] g.zon)):=zh (fun h=>chkZ_step hlt (by rw[←hx];exact h) hf)
           clear hgw ea hx hf
           have hN:=fun W=>rName_c x.name W hn100
           cases hp:isNm x.name
           ·rw[hp]at hN
            have HN:=zh hN
            have HR:Hid (gridC g=8):=zh (HBAD.out 8 (zonE8 hp) (by decide))
            clear hN hp
            go_wp2_with (go_at_call 96;refine(HN.out _).mono ?_;rintro e w' ⟨rfl,rfl⟩)
            go_ret
            exact⟨ret_int HR.out.symm,by exact zbl⟩
           ·rw[hp]at hN
            have HN:=zh hN
            have HP:=zh hp
            clear hN hp
            go_wp2_with (go_at_call 96;refine(HN.out _).mono ?_;rintro e w' ⟨rfl,rfl⟩)
            obtain⟨W2,hW2⟩:∃W,W=wr:=⟨_,rfl⟩
            subst hW2
            have hw12:W1.heap.size≤W2.heap.size:=hb.size
            clear d0 d1 d2 d3 c0 c1 c2 c3
            go_loopw [13] (fun v wv=>∃j:Nat,j≤k∧v=.int .i64 j∧Hid (∀y∈(g.zon.map Zon.name).take j,sEq x.name y=false)∧Below W2.heap.size W2 wv) (fun v _=>k-(intOf v).toNat)
            case atStart=>exact⟨0,Nat.zero_le _,rfl,zh (by simp),Below.refl _ _⟩
            case round=>
             obtain⟨j,hj,rfl,hf2,hbv⟩:=hrel
             have hs2:=hbv.size
             have kb:=bk_step hbv KR.out
             (obtain⟨d0,d1,d2,d3⟩:=cg4 kb)
             rw[HA.out]at d3
             clear kb
             have y4:w.heap.size<wr.heap.size:=by omega
             have y6:b<wr.heap.size:=by omega
             obtain⟨b1,off1,ea1,hbl1,x0,x1,x2,x3⟩:=(HGW.out.zon.belowB (w0:=W2) hbv hw12).get4 (k:=k) (by simpa using hlt) (by rw[List.getElem_map,←HX.out];rfl)
             rw[HA.out]at ea1
             injection ea1 with ea1
             injection ea1 with p1 p2
             subst p1 p2
             by_cases hjk:j<k
             ·obtain⟨y,hy⟩:∃y,y=g.zon[j]:=⟨_,rfl⟩
              have hjl:j<g.zon.length:=by omega
              obtain⟨b',off',ea',hbl',c0,c1,c2,c3⟩:=(HGW.out.zon.belowB (w0:=W2) hbv hw12).get4 (k:=j) (by simpa using hjl) (by rw[List.getElem_map,←hy];rfl)
              rw[HA.out]at ea'
              injection ea' with ea'
              injection ea' with p1 p2
              subst p1 p2
              have hym:(g.zon.map Zon.name)[j]'(by simpa using hjl)=y.name:=by rw[List.getElem_map,←hy]
              cases hq:sEq x.name y.name
              ·have hq2:(y.name.toList==x.name.toList)=false:=by rw[ByteArray.toList_eq,ByteArray.toList_eq];exact(sEq_comm _ _).trans hq
               have HQ:=zh hq
               have HYM:=zh hym
               clear hq hym hy
               go_wp2_with fail
               go_quiet (fail)
               go_wp2_with fail
               go_roundw
               case rel=>exact⟨j+1,by omega,by go_num,zh (take_all (by simpa using hjl) hf2.out (by rw[HYM.out];exact HQ.out)),by exact zbl⟩
               case measure=>simp[intOf];omega
              ·have hq2:(y.name.toList==x.name.toList)=true:=by rw[ByteArray.toList_eq,ByteArray.toList_eq];exact(sEq_comm _ _).trans hq
               have HR:Hid (gridC g=9):=zh (HBAD.out 9 (zonE9 HP.out (mem_hit (j:=j) (by simp;omega) (by rw[List.getElem_map,List.getElem_take,←hy];exact hq))) (by decide))
               clear hq hym hy
               go_wp2_with fail
               go_quiet (fail)
               go_wp2_with fail
               go_ret
               exact⟨ret_int HR.out.symm,by exact zbl⟩
             ·have hmem:memS ((g.zon.take k).map Zon.name) x.name=false:=mem_none (by rw[List.map_take];have:=hf2.out;rwa [show j=k by omega]at this)
              have HSP:=zh (zonEp HP.out hmem)
              clear hmem
              by_cases hpl:rZoneC x=0
              ·have hz3:(rZoneC x !=0)=false:=by rw[bne_eq_false_iff_eq];exact hpl
               have HPL:=zh hpl
               clear hpl
               go_wp2_with (go_at_call 62;refine(rZone_c x _ hn100).mono ?_;rintro e w3 ⟨rfl,hb3⟩)
               go_roundw
               case rel=>exact⟨k+1,by omega,by go_num,HOK.out (HSP.out.trans HPL.out),by exact zbl⟩
               case measure=>simp[intOf];omega
              ·have hz3:(rZoneC x !=0)=true:=by rw[bne_iff_ne];exact hpl
               have HR:Hid (gridC g=rZoneC x):=zh (HBAD.out _ HSP.out hpl)
               clear hpl
               go_wp2_with (go_at_call 62;refine(rZone_c x _ hn100).mono ?_;rintro e w3 ⟨rfl,hb3⟩)
               go_ret
               exact⟨ret_int HR.out.symm,by exact zbl⟩
          ·have HR:Hid (gridC g=0):=zh (gE3 HB.out HS0.out HM0.out (by unfold zonesC;rw[if_neg HL3.out,chkZ_end hlt hf]))
           clear hf
           go_wp2_with fail
           go_ret
           exact⟨ret_int HR.out.symm,by exact zbl⟩
 ·have hz0:(rng g.blur 0 100 !=0)=true:=by rw[bne_iff_ne];exact hb0
  have HR:=zh (gE0 hb0)
  clear hb0
  go_enter Tryz.func21,Tryz.ntmps21
  go_wp2_with (go_at_call 63;refine(rBlur_c _ _).mono ?_;rintro e w' ⟨rfl,rfl⟩)
  go_ret
  exact⟨ret_int HR.out.symm,by exact zbl⟩
end Go.Proofs.YtehnikhicnnnhaaGreatDoor
/- The statements' grid: a grid of the reference as one of the program, with lists of its own. -/
import Derived.Test.YtehnikhicnnnhaaGreatDoorPa25
import Derived.Test.YtehnikhicnnnhaaGreatDoorPa33
namespace Go.Proofs.YtehnikhicnnnhaaGreatDoor
open Go.RowKit
def zeroS:Value:=.agg #[.string ⟨#[]⟩,.string ⟨#[]⟩,.int .i64 0,.int .i64 0]
theorem Tryz.infoS:(Tryz.prog.info? 163).map (fun i=>(i.zero,i.size,i.bytes))=some (some zeroS,4,48):=by kernel_rfl
def zeroM:Value:=.agg #[.int .i64 0,.int .i64 0,.int .i64 0]
theorem Tryz.infoM:(Tryz.prog.info? 166).map (fun i=>(i.zero,i.size,i.bytes))=some (some zeroM,3,24):=by kernel_rfl
def zeroZ:Value:=.agg #[.string ⟨#[]⟩,.int .i64 0,.int .i64 0,.int .i64 0]
theorem Tryz.infoZ:(Tryz.prog.info? 119).map (fun i=>(i.zero,i.size,i.bytes))=some (some zeroZ,4,40):=by kernel_rfl
set_option maxRecDepth 100000 in
set_option maxHeartbeats 8000000 in
theorem grid_c(a:GA)(g:Grd)(w:World)(hs:SmallG g)(hr:GridR w w.heap.size a g):
 Calls Tryz.prog 18 #[(.agg #[.int .i64 g.blur,.slice a.pS g.sta.length a.cs,.slice a.pM g.mov.length a.cm,.slice a.pZ g.zon.length a.cz])] w fun e w'=>∃a',e=.returned (.agg #[.int .i64 g.blur,.slice a'.pS g.sta.length a'.cs,.slice a'.pM g.mov.length a'.cm,.slice a'.pZ g.zon.length a'.cz])∧GridR w' w'.heap.size a' g∧Below w.heap.size w w':=by
 obtain⟨iS,hiS,hzS0,hzS1,hzS2⟩:=info_parts Tryz.infoS
 obtain⟨iM,hiM,hzM0,hzM1,hzM2⟩:=info_parts Tryz.infoM
 obtain⟨iZ,hiZ,hzZ0,hzZ1,hzZ2⟩:=info_parts Tryz.infoZ
 have hnS:=hs.ns
 have hnM:=hs.nm
 have hnZ:=hs.nz
 clear hs
 obtain⟨W1,hW1⟩:∃W1,W1=((w.alloc (.cells #[.int .i64 g.blur,.slice a.pS g.sta.length a.cs,.slice a.pM g.mov.length a.cm,.slice a.pZ g.zon.length a.cz] 26)).alloc (.cells #[.int .i64 0,.slice none 0 0,.slice none 0 0,.slice none 0 0] 38)).alloc (.cells #[.int .i64 g.blur,.slice none 0 0,.slice none 0 0,.slice none 0 0] 38):=⟨_,rfl⟩
 have hsz:W1.heap.size=w.heap.size+3:=by rw[hW1];simp
 have k0:W1.heap[w.heap.size]? =some (.cells #[.int .i64 g.blur,.slice a.pS g.sta.length a.cs,.slice a.pM g.mov.length a.cm,.slice a.pZ g.zon.length a.cz] 26 (0,0)):=by rw[hW1];exact heap_fst _ _ _ _
 have k1:W1.heap[w.heap.size+1]? =some (.cells #[.int .i64 0,.slice none 0 0,.slice none 0 0,.slice none 0 0] 38 (0,0)):=by rw[hW1];exact heap_mid _ _ _ _
 have k2:W1.heap[w.heap.size+1+1]? =some (.cells #[.int .i64 g.blur,.slice none 0 0,.slice none 0 0,.slice none 0 0] 38 (0,0)):=by rw[hW1];exact heap_lst _ _ _ _
 have hB0:Below w.heap.size w W1:=by rw[hW1];exact zbl
 have HG:=zh hr
 have K0:=zh k0
 have K1:=zh k1
 have hb:=hB0
 have HK:=zh (Ke.refl (w.heap.size+1+1) W1)
 have hk2:=zh k2
 (obtain⟨d0,d1,d2,d3⟩:=cg4 k0)
 clear hr k0 k1 k2
 go_enter Tryz.func18,Tryz.ntmps18
 go_upto_region 2 with fail
 rw[←hW1]
 clear hW1
 go_wp2_with fail
 go_loopw [16] (fun i wv=>∃(k:Nat) (v:Value),k≤g.sta.length∧i=.int .i64 k∧Hid (wv.heap[w.heap.size+1+1]? =some (.cells #[.int .i64 g.blur,v,.slice none 0 0,.slice none 0 0] 38 (0,0)))∧wv.ownsRow W1.heap.size 163 4 v k ((g.sta.take k).map encS).flatten∧Hid (Ke (w.heap.size+1+1) W1 wv)∧Below w.heap.size w wv) (fun i _=>g.sta.length-(intOf i).toNat)
 case atStart=>exact⟨0,.slice none 0 0,Nat.zero_le _,rfl,hk2,by simpa using World.ownsRow_nil _ _ _ _,zh (Ke.refl _ _),hb⟩
 case round=>
  clear hb hk2 d0 d1 d2 d3
  obtain⟨k,v,hk,rfl,hk2,hown,HKe,hb⟩:=hrel
  have hke:=HKe.out.1
  have hbs:=hb.size
  by_cases hlt:k<g.sta.length
  ·obtain⟨x,hx⟩:∃x,x=g.sta[k]:=⟨_,rfl⟩
   obtain⟨b,off,ea,hbl,c0,c1,c2,c3⟩:=(HG.out.sta.belowB (w0:=w) hb (Nat.le_refl _)).get4 (k:=k) (by simpa using hlt) (by rw[List.getElem_map,←hx];rfl)
   rw[ea]
   have yb:b<wr.heap.size:=by omega
   have HA:=zh ea
   have HX:=zh hx
   clear ea hx
   have kk:=hk2.out
   (obtain⟨q0,qf0,q1,qf1,q2,qf2,q3,qf3⟩:=cv4 kk)
   clear kk
   have y2:w.heap.size+1+1<wr.heap.size:=by omega
   have hne:v.ownBlock≠some (w.heap.size+1+1):=fun e=>by have:=(World.ownsRow.lt hown _ e).1;omega
   go_wp2_with (at_builtin;refine wpList_append_own _ rfl _ _ 34 rfl W1.heap.size 163 iS zeroS 4 48 Tryz.underlying34 hiS hzS0 hzS1 hzS2 rfl (by decide) _ _ _ rfl (World.ownsRow.alloc (World.ownsRow.alloc hown _) _) ⟨wr.heap.size+1,0,none⟩ 1 1 [.string x.name,.string x.kind,.int .i64 x.x,.int .i64 x.y] rfl rfl ?c1 ?c2 ?c3 ?c4 ?c5 ?_)
   case c1=>
    intro j u hj
    rw[add0,cell_of_row _ _ _ _ _ _ (heap_two wr _ _)]
    match j,hj with
    |0,hj=>simpa using hj
    |1,hj=>simpa using hj
    |2,hj=>simpa using hj
    |3,hj=>simpa using hj
    |j+4,hj=>simp at hj
   case c2=>intro u hu;simp at hu;rcases hu with rfl|rfl|rfl|rfl<;>rfl
   case c3=>unfold maxLen;omega
   case c4=>omega
   case c5=>simp;omega
   intro v' w6 hown' hgrow _
   obtain⟨A',c',hv'⟩:=own_form hown'
   subst hv'
   have h6:w6.heap[w.heap.size+1+1]? =some (.cells #[.int .i64 g.blur,v,.slice none 0 0,.slice none 0 0] 38 (0,0)):=(gr_block hgrow (by simp;omega) (fun e=>hne e)).trans (bk_alloc (bk_alloc hk2.out))
   clear q0 qf0 q1 qf1 q2 qf2 q3 qf3 c0
   (obtain⟨q0,qf0,q1,qf1,q2,qf2,q3,qf3⟩:=cv4 h6)
   have H6:=zh h6
   clear h6
   have hg6:=hgrow.size
   simp only[World.size_alloc]at hg6
   have y6:w.heap.size+1+1<w6.heap.size:=by omega
   go_wp2_with fail
   go_roundw
   case rel=>
    refine⟨k+1,.slice A' (k+1) c',by omega,by go_num,zh (heap_setCell_same w6 _ 1 _ _ (.slice A' (k+1) c') H6.out),?_,zh ?_,?_⟩
    ·refine ownsRow_setCell_below ?_ (show w.heap.size+1+1<W1.heap.size by omega) _
     rw[List.take_succ_eq_append_getElem hlt,List.map_append,List.flatten_append,←HX.out]
     first|(simpa [encS]using hown';done)|(rw[hsz];simpa [encS]using hown')
    ·refine⟨by simp;omega,fun b' hb' hne'=>?_⟩
     rw[heap_setCell_other _ _ _ _ hne',gr_block hgrow (by simp;omega) (fun e=>by have:=(World.ownsRow.lt hown _ e).1;omega)]
     exact((Below.heap_alloc _ _ _ (by simp;omega)).trans (Below.heap_alloc _ _ _ (by omega))).trans (HKe.out.2 b' hb' hne')
    ·exact Bl.set (Below.grown (by exact zbl) hgrow (by simp;omega) (fun j e=>by have:=(World.ownsRow.lt hown j e).1;omega)) _ (by show w.heap.size≤w.heap.size+1+1;omega)
   case measure=>simp[intOf];omega
  ·have hkl:k=g.sta.length:=by omega
   rw[hkl,List.take_length]at hown
   obtain⟨AS,cS,rfl,hcS,hrow,hfr⟩:=own_rw hown (by first|(simp;done)|(simp;omega)) (by intro y hy;obtain⟨z,_,rfl⟩:=List.mem_map.1 hy;rfl)
   have HRS:=zh hrow
   have HFS:Hid (∀a,AS=some a→W1.heap.size≤a.block):=zh hfr
   clear hrow hfr hown hkl hk
   obtain⟨US,hU⟩:∃U,U=wr:=⟨_,rfl⟩
   subst hU
   have kk:=hk2.out
   (obtain⟨q0,qf0,q1,qf1,q2,qf2,q3,qf3⟩:=cv4 kk)
   have kk:=(HKe.out.2 w.heap.size (by omega) (by omega)).trans K0.out
   (obtain⟨d0,d1,d2,d3⟩:=cg4 kk)
   have K0:=zh kk
   have kk:=(HKe.out.2 (w.heap.size+1) (by omega) (by omega)).trans K1.out
   have K1:=zh kk
   clear kk
   have y0:w.heap.size<US.heap.size:=by omega
   have y1:w.heap.size+1<US.heap.size:=by omega
   have y2:w.heap.size+1+1<US.heap.size:=by omega
   go_wp2_with fail
   clear hlt
   go_loopw [30] (fun i wv=>∃(k:Nat) (v:Value),k≤g.mov.length∧i=.int .i64 k∧Hid (wv.heap[w.heap.size+1+1]? =some (.cells #[.int .i64 g.blur,.slice AS g.sta.length cS,v,.slice none 0 0] 38 (0,0)))∧wv.ownsRow US.heap.size 166 3 v k ((g.mov.take k).map encM).flatten∧Hid (Ke (w.heap.size+1+1) US wv)∧Below w.heap.size w wv) (fun i _=>g.mov.length-(intOf i).toNat)
   case atStart=>exact⟨0,.slice none 0 0,Nat.zero_le _,rfl,hk2,by simpa using World.ownsRow_nil _ _ _ _,zh (Ke.refl _ _),hb⟩
   case round=>
    clear hb hk2 d0 d1 d2 d3
    obtain⟨k,v,hk,rfl,hk2,hown,HKe,hb⟩:=hrel
    have hke:=HKe.out.1
    have hbs:=hb.size
    by_cases hlt:k<g.mov.length
    ·obtain⟨x,hx⟩:∃x,x=g.mov[k]:=⟨_,rfl⟩
     obtain⟨b,off,ea,hbl,c0,c1,c2⟩:=(HG.out.mov.belowB (w0:=w) hb (Nat.le_refl _)).get3 (k:=k) (by simpa using hlt) (by rw[List.getElem_map,←hx];rfl)
     rw[ea]
     have yb:b<wr.heap.size:=by omega
     have HA:=zh ea
     have HX:=zh hx
     clear ea hx
     have kk:=hk2.out
     (obtain⟨q0,qf0,q1,qf1,q2,qf2,q3,qf3⟩:=cv4 kk)
     clear kk
     have y2:w.heap.size+1+1<wr.heap.size:=by omega
     have hne:v.ownBlock≠some (w.heap.size+1+1):=fun e=>by have:=(World.ownsRow.lt hown _ e).1;omega
     go_wp2_with (at_builtin;refine wpList_append_own _ rfl _ _ 35 rfl US.heap.size 166 iM zeroM 3 24 Tryz.underlying35 hiM hzM0 hzM1 hzM2 rfl (by decide) _ _ _ rfl (World.ownsRow.alloc (World.ownsRow.alloc hown _) _) ⟨wr.heap.size+1,0,none⟩ 1 1 [.int .i64 x.a,.int .i64 x.b,.int .i64 x.s] rfl rfl ?c1 ?c2 ?c3 ?c4 ?c5 ?_)
     case c1=>
      intro j u hj
      rw[add0,cell_of_row _ _ _ _ _ _ (heap_two wr _ _)]
      match j,hj with
      |0,hj=>simpa using hj
      |1,hj=>simpa using hj
      |2,hj=>simpa using hj
      |j+3,hj=>simp at hj
     case c2=>intro u hu;simp at hu;rcases hu with rfl|rfl|rfl<;>rfl
     case c3=>unfold maxLen;omega
     case c4=>omega
     case c5=>simp;omega
     intro v' w6 hown' hgrow _
     obtain⟨A',c',hv'⟩:=own_form hown'
     subst hv'
     have h6:w6.heap[w.heap.size+1+1]? =some (.cells #[.int .i64 g.blur,.slice AS g.sta.length cS,v,.slice none 0 0] 38 (0,0)):=(gr_block hgrow (by simp;omega) (fun e=>hne e)).trans (bk_alloc (bk_alloc hk2.out))
     clear q0 qf0 q1 qf1 q2 qf2 q3 qf3 c0
     (obtain⟨q0,qf0,q1,qf1,q2,qf2,q3,qf3⟩:=cv4 h6)
     have H6:=zh h6
     clear h6
     have hg6:=hgrow.size
     simp only[World.size_alloc]at hg6
     have y6:w.heap.size+1+1<w6.heap.size:=by omega
     go_wp2_with fail
     go_roundw
     case rel=>
      refine⟨k+1,.slice A' (k+1) c',by omega,by go_num,zh (heap_setCell_same w6 _ 2 _ _ (.slice A' (k+1) c') H6.out),?_,zh ?_,?_⟩
      ·refine ownsRow_setCell_below ?_ (show w.heap.size+1+1<US.heap.size by omega) _
       rw[List.take_succ_eq_append_getElem hlt,List.map_append,List.flatten_append,←HX.out]
       first|(simpa [encM]using hown';done)|(rw[hsz];simpa [encM]using hown')
      ·refine⟨by simp;omega,fun b' hb' hne'=>?_⟩
       rw[heap_setCell_other _ _ _ _ hne',gr_block hgrow (by simp;omega) (fun e=>by have:=(World.ownsRow.lt hown _ e).1;omega)]
       exact((Below.heap_alloc _ _ _ (by simp;omega)).trans (Below.heap_alloc _ _ _ (by omega))).trans (HKe.out.2 b' hb' hne')
      ·exact Bl.set (Below.grown (by exact zbl) hgrow (by simp;omega) (fun j e=>by have:=(World.ownsRow.lt hown j e).1;omega)) _ (by show w.heap.size≤w.heap.size+1+1;omega)
     case measure=>simp[intOf];omega
    ·have hkl:k=g.mov.length:=by omega
     rw[hkl,List.take_length]at hown
     obtain⟨AM,cM,rfl,hcM,hrow,hfr⟩:=own_rw hown (by first|(simp;done)|(simp;omega)) (by intro y hy;obtain⟨z,_,rfl⟩:=List.mem_map.1 hy;rfl)
     have HRM:=zh hrow
     have HFM:Hid (∀a,AM=some a→US.heap.size≤a.block):=zh hfr
     clear hrow hfr hown hkl hk
     obtain⟨UM,hU⟩:∃U,U=wr:=⟨_,rfl⟩
     subst hU
     have kk:=hk2.out
     (obtain⟨q0,qf0,q1,qf1,q2,qf2,q3,qf3⟩:=cv4 kk)
     have kk:=(HKe.out.2 w.heap.size (by omega) (by omega)).trans K0.out
     (obtain⟨d0,d1,d2,d3⟩:=cg4 kk)
     have K0:=zh kk
     have kk:=(HKe.out.2 (w.heap.size+1) (by omega) (by omega)).trans K1.out
     have K1:=zh kk
     clear kk
     have y0:w.heap.size<UM.heap.size:=by omega
     have y1:w.heap.size+1<UM.heap.size:=by omega
     have y2:w.heap.size+1+1<UM.heap.size:=by omega
     have HRS_:=HKe.out.1
     have HRS:=zh (Rw.more (Ke.rw_ HRS.out HKe.out (Nat.le_refl _) (fun a ha=>by have:=HFS.out a ha;omega)) HKe.out.1)
     go_wp2_with fail
     clear hlt
     go_loopw [44] (fun i wv=>∃(k:Nat) (v:Value),k≤g.zon.length∧i=.int .i64 k∧Hid (wv.heap[w.heap.size+1+1]? =some (.cells #[.int .i64 g.blur,.slice AS g.sta.length cS,.slice AM g.mov.length cM,v] 38 (0,0)))∧wv.ownsRow UM.heap.size 119 4 v k ((g.zon.take k).map encZ).flatten∧Hid (Ke (w.heap.size+1+1) UM wv)∧Below w.heap.size w wv) (fun i _=>g.zon.length-(intOf i).toNat)
     case atStart=>exact⟨0,.slice none 0 0,Nat.zero_le _,rfl,hk2,by simpa using World.ownsRow_nil _ _ _ _,zh (Ke.refl _ _),hb⟩
     case round=>
      clear hb hk2 d0 d1 d2 d3
      obtain⟨k,v,hk,rfl,hk2,hown,HKe,hb⟩:=hrel
      have hke:=HKe.out.1
      have hbs:=hb.size
      by_cases hlt:k<g.zon.length
      ·obtain⟨x,hx⟩:∃x,x=g.zon[k]:=⟨_,rfl⟩
       obtain⟨b,off,ea,hbl,c0,c1,c2,c3⟩:=(HG.out.zon.belowB (w0:=w) hb (Nat.le_refl _)).get4 (k:=k) (by simpa using hlt) (by rw[List.getElem_map,←hx];rfl)
       rw[ea]
       have yb:b<wr.heap.size:=by omega
       have HA:=zh ea
       have HX:=zh hx
       clear ea hx
       have kk:=hk2.out
       (obtain⟨q0,qf0,q1,qf1,q2,qf2,q3,qf3⟩:=cv4 kk)
       clear kk
       have y2:w.heap.size+1+1<wr.heap.size:=by omega
       have hne:v.ownBlock≠some (w.heap.size+1+1):=fun e=>by have:=(World.ownsRow.lt hown _ e).1;omega
       go_wp2_with (at_builtin;refine wpList_append_own _ rfl _ _ 36 rfl UM.heap.size 119 iZ zeroZ 4 40 Tryz.underlying36 hiZ hzZ0 hzZ1 hzZ2 rfl (by decide) _ _ _ rfl (World.ownsRow.alloc (World.ownsRow.alloc hown _) _) ⟨wr.heap.size+1,0,none⟩ 1 1 [.string x.name,.int .i64 x.x,.int .i64 x.y,.int .i64 x.r] rfl rfl ?c1 ?c2 ?c3 ?c4 ?c5 ?_)
       case c1=>
        intro j u hj
        rw[add0,cell_of_row _ _ _ _ _ _ (heap_two wr _ _)]
        match j,hj with
        |0,hj=>simpa using hj
        |1,hj=>simpa using hj
        |2,hj=>simpa using hj
        |3,hj=>simpa using hj
        |j+4,hj=>simp at hj
       case c2=>intro u hu;simp at hu;rcases hu with rfl|rfl|rfl|rfl<;>rfl
       case c3=>unfold maxLen;omega
       case c4=>omega
       case c5=>simp;omega
       intro v' w6 hown' hgrow _
       obtain⟨A',c',hv'⟩:=own_form hown'
       subst hv'
       have h6:w6.heap[w.heap.size+1+1]? =some (.cells #[.int .i64 g.blur,.slice AS g.sta.length cS,.slice AM g.mov.length cM,v] 38 (0,0)):=(gr_block hgrow (by simp;omega) (fun e=>hne e)).trans (bk_alloc (bk_alloc hk2.out))
       clear q0 qf0 q1 qf1 q2 qf2 q3 qf3 c0
       (obtain⟨q0,qf0,q1,qf1,q2,qf2,q3,qf3⟩:=cv4 h6)
       have H6:=zh h6
       clear h6
       have hg6:=hgrow.size
       simp only[World.size_alloc]at hg6
       have y6:w.heap.size+1+1<w6.heap.size:=by omega
       go_wp2_with fail
       go_roundw
       case rel=>
        refine⟨k+1,.slice A' (k+1) c',by omega,by go_num,zh (heap_setCell_same w6 _ 3 _ _ (.slice A' (k+1) c') H6.out),?_,zh ?_,?_⟩
        ·refine ownsRow_setCell_below ?_ (show w.heap.size+1+1<UM.heap.size by omega) _
         rw[List.take_succ_eq_append_getElem hlt,List.map_append,List.flatten_append,←HX.out]
         first|(simpa [encZ]using hown';done)|(rw[hsz];simpa [encZ]using hown')
        ·refine⟨by simp;omega,fun b' hb' hne'=>?_⟩
         rw[heap_setCell_other _ _ _ _ hne',gr_block hgrow (by simp;omega) (fun e=>by have:=(World.ownsRow.lt hown _ e).1;omega)]
         exact((Below.heap_alloc _ _ _ (by simp;omega)).trans (Below.heap_alloc _ _ _ (by omega))).trans (HKe.out.2 b' hb' hne')
        ·exact Bl.set (Below.grown (by exact zbl) hgrow (by simp;omega) (fun j e=>by have:=(World.ownsRow.lt hown j e).1;omega)) _ (by show w.heap.size≤w.heap.size+1+1;omega)
       case measure=>simp[intOf];omega
      ·have hkl:k=g.zon.length:=by omega
       rw[hkl,List.take_length]at hown
       obtain⟨AZ,cZ,rfl,hcZ,hrow,hfr⟩:=own_rw hown (by first|(simp;done)|(simp;omega)) (by intro y hy;obtain⟨z,_,rfl⟩:=List.mem_map.1 hy;rfl)
       have HRZ:=zh hrow
       have HFZ:Hid (∀a,AZ=some a→UM.heap.size≤a.block):=zh hfr
       clear hrow hfr hown hkl hk
       obtain⟨UZ,hU⟩:∃U,U=wr:=⟨_,rfl⟩
       subst hU
       have kk:=hk2.out
       (obtain⟨q0,qf0,q1,qf1,q2,qf2,q3,qf3⟩:=cv4 kk)
       have kk:=(HKe.out.2 w.heap.size (by omega) (by omega)).trans K0.out
       (obtain⟨d0,d1,d2,d3⟩:=cg4 kk)
       have K0:=zh kk
       have kk:=(HKe.out.2 (w.heap.size+1) (by omega) (by omega)).trans K1.out
       have K1:=zh kk
       clear kk
       have y0:w.heap.size<UZ.heap.size:=by omega
       have y1:w.heap.size+1<UZ.heap.size:=by omega
       have y2:w.heap.size+1+1<UZ.heap.size:=by omega
       have HRS_:=HKe.out.1
       have HRS:=zh (Rw.more (Ke.rw_ HRS.out HKe.out (Nat.le_refl _) (fun a ha=>by have:=HFS.out a ha;omega)) HKe.out.1)
       have HRM_:=HKe.out.1
       have HRM:=zh (Rw.more (Ke.rw_ HRM.out HKe.out (Nat.le_refl _) (fun a ha=>by have:=HFM.out a ha;omega)) HKe.out.1)
       have kz:=K1.out
       (obtain⟨z0,zf0,z1,zf1,z2,zf2,z3,zf3⟩:=cv4 kz)
       clear kz
       go_wp2_with fail
       refine bodyPost_ret (Tryz.res_grid rfl _ _ rfl (set4_block K1.out)) rfl ?_
       have hfz:∀(A:Option Addr),(∀a,A=some a→W1.heap.size≤a.block)→∀a,A=some a→a.block≠w.heap.size+1:=fun A h a ha e=>by have:=h a ha;omega
       refine⟨⟨AS,AM,AZ,cS,cM,cZ⟩,rfl,⟨?_,?_,?_,hcS,hcM,hcZ⟩,?_⟩
       ·exact Rw.more (Ke.rw_ HRS.out (Ke.set4 UZ _ _ _ _) (Nat.le_refl _) (fun a ha=>by have:=HFS.out a ha;omega)) (by simp)
       ·exact Rw.more (Ke.rw_ HRM.out (Ke.set4 UZ _ _ _ _) (Nat.le_refl _) (fun a ha=>by have:=HFM.out a ha;omega)) (by simp)
       ·exact Rw.more (Ke.rw_ HRZ.out (Ke.set4 UZ _ _ _ _) (Nat.le_refl _) (fun a ha=>by have:=HFZ.out a ha;omega)) (by simp)
       ·exact Bl.set (Bl.set (Bl.set (Bl.set hb _ (Nat.le_succ _)) _ (Nat.le_succ _)) _ (Nat.le_succ _)) _ (Nat.le_succ _)
end Go.Proofs.YtehnikhicnnnhaaGreatDoor
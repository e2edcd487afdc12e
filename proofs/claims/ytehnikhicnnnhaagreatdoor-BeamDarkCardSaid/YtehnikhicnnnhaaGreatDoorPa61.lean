/- The reference's Short. | The law's few: a grid is valid and small. -/
import Derived.Test.YtehnikhicnnnhaaGreatDoorProg
import Derived.Test.YtehnikhicnnnhaaGreatDoorPa33
import Derived.Test.YtehnikhicnnnhaaGreatDoorPa60
import Derived.Laws.CopyOwn
import Derived.Laws.EntriesVeiled
import Derived.Lib.AppendIntMem
import Derived.Lib.ItoaLen
import Derived.Shelf.Slices.Clone
import Derived.Shelf.Slices.SearchI
import Derived.Shelf.Slices.Turned
import Derived.Shelf.SlicesE.Clone
import Derived.Shelf.Small.Strs
import Derived.Shelf.Small.Wraps
import Derived.Shelf.Strconv.Itoa3
import Derived.Shelf.Strings.BuilderCap
import Derived.Shelf.Strings.Explode
import Derived.Shelf.Strings.OnBuilder
import Derived.Shelf.Strings.Shaped
import Derived.Shelf.Strings.SplitShaped
import Derived.Shelf.Unicode.DecodeAny
import Derived.Shelf.Utf8.RuneCount
namespace Go.Proofs.YtehnikhicnnnhaaGreatDoor
open Go.RowKit
def longG(g:Grd):Bool:=(decide ((8:Int)<(g.sta.length:Int))&&((g.sta.length:Int)!=17))||((decide ((14:Int)<(g.mov.length:Int))&&((g.mov.length:Int)!=41))||(decide ((4:Int)<(g.zon.length:Int))&&((g.zon.length:Int)!=9)))
def shortS(s:Sta):Bool:=decide (s.name.size≤40)&&decide (s.kind.size≤40)
def shortZ(z:Zon):Bool:=decide (z.name.size≤40)
def shortG(g:Grd):Bool:= !longG g&&(g.sta.all shortS&&g.zon.all shortZ)
theorem long_no{g:Grd}(h:longG g=false):g.sta.length≤17∧g.mov.length≤41∧g.zon.length≤9:=by
 unfold longG at h
 simp only[Bool.or_eq_false_iff,Bool.and_eq_false_iff,decide_eq_false_iff_not,bne_eq_false_iff_eq]at h
 omega
theorem short_small{g:Grd}(h:shortG g=true):SmallG g:=by
 unfold shortG at h
 simp only[Bool.and_eq_true,Bool.not_eq_true',List.all_eq_true]at h
 obtain⟨h1,h2,h3⟩:=h
 have h4:=long_no h1
 refine⟨by omega,by omega,by omega,fun s hs=>?_,fun z hz=>?_⟩
 ·have:=h2 s hs
  unfold shortS at this
  simp only[Bool.and_eq_true,decide_eq_true_eq]at this
  omega
 ·have:=h3 z hz
  unfold shortZ at this
  simp only[decide_eq_true_eq]at this
  omega
theorem all_hit{α:Type}{p:α→Bool}{l:List α}{k:Nat}(hk:k<l.length)(h:p l[k]=false):l.all p=false:=by
 rw[←Bool.not_eq_true,List.all_eq_true]
 intro h2
 have:=h2 _ (List.getElem_mem hk)
 rw[h]at this;cases this
theorem take_allT{α:Type}{p:α→Bool}{l:List α}{k:Nat}(hk:k<l.length)(h:∀x∈l.take k,p x=true)(hp:p l[k]=true):∀x∈l.take (k+1),p x=true:=by
 intro x hx
 rw[List.take_succ_eq_append_getElem hk]at hx
 simp only[List.mem_append,List.mem_singleton]at hx
 rcases hx with hx|rfl
 ·exact h x hx
 ·exact hp
theorem all_end{α:Type}{p:α→Bool}{l:List α}{k:Nat}(hk:¬k<l.length)(h:∀x∈l.take k,p x=true):l.all p=true:=by
 rw[List.take_of_length_le (by omega)]at h;exact List.all_eq_true.2 h
set_option maxRecDepth 100000 in
set_option maxHeartbeats 8000000 in
theorem rShort_c(a:GA)(g:Grd)(w:World)(hr:GridR w w.heap.size a g):
 Calls Tryz.prog 15 #[(.agg #[.int .i64 g.blur,.slice a.pS g.sta.length a.cs,.slice a.pM g.mov.length a.cm,.slice a.pZ g.zon.length a.cz])] w fun e w'=>e=.returned (.bool (shortG g))∧Below w.heap.size w w':=by
 obtain⟨W1,hW1⟩:∃W1,W1=w.alloc (.cells #[.int .i64 g.blur,.slice a.pS g.sta.length a.cs,.slice a.pM g.mov.length a.cm,.slice a.pZ g.zon.length a.cz] 26):=⟨_,rfl⟩
 have hsz:W1.heap.size=w.heap.size+1:=by rw[hW1];simp
 have k0:W1.heap[w.heap.size]? =some (.cells #[.int .i64 g.blur,.slice a.pS g.sta.length a.cs,.slice a.pM g.mov.length a.cm,.slice a.pZ g.zon.length a.cz] 26 (0,0)):=by rw[hW1];exact heap_alloc_new w _
 have hB0:Below w.heap.size w W1:=by rw[hW1];exact zbl
 have HG:=zh (hr.sx (Nat.le_refl _) (show Sx w W1 by rw[hW1];exact(Sx.refl w).alloc _))
 (obtain⟨g0,g1,g2,g3⟩:=cg4 k0)
 clear hr k0
 have y0:w.heap.size<W1.heap.size:=by omega
 go_enter Tryz.func15,Tryz.ntmps15
 go_upto_region 1 with fail
 rw[←hW1]
 clear hW1
 go_cut [38] (fun s wx=>s=.bool (longG g)∧wx=W1)
 case first=>
  cases h1S:decide ((8:Int)<(g.sta.length:Int))
  ·cases h1M:decide ((14:Int)<(g.mov.length:Int))
   ·cases h1Z:decide ((4:Int)<(g.zon.length:Int))
    ·have HR:Hid (longG g=false):=zh (by unfold longG;rw[h1S,h1M,h1Z];rfl)
     go_wp2_with fail
     go_meet
     exact⟨by rw[HR.out],rfl⟩
    ·cases h2Z:((g.zon.length:Int)!=9)
     ·have HR:Hid (longG g=false):=zh (by unfold longG;rw[h1S,h1M,h1Z,h2Z];rfl)
      go_wp2_with fail
      go_meet
      exact⟨by rw[HR.out],rfl⟩
     ·have HR:Hid (longG g=true):=zh (by unfold longG;rw[h1S,h1M,h1Z,h2Z];rfl)
      go_wp2_with fail
      go_meet
      exact⟨by rw[HR.out],rfl⟩
   ·cases h2M:((g.mov.length:Int)!=41)
    ·cases h1Z:decide ((4:Int)<(g.zon.length:Int))
     ·have HR:Hid (longG g=false):=zh (by unfold longG;rw[h1S,h1M,h2M,h1Z];rfl)
      go_wp2_with fail
      go_meet
      exact⟨by rw[HR.out],rfl⟩
     ·cases h2Z:((g.zon.length:Int)!=9)
      ·have HR:Hid (longG g=false):=zh (by unfold longG;rw[h1S,h1M,h2M,h1Z,h2Z];rfl)
       go_wp2_with fail
       go_meet
       exact⟨by rw[HR.out],rfl⟩
      ·have HR:Hid (longG g=true):=zh (by unfold longG;rw[h1S,h1M,h2M,h1Z,h2Z];rfl)
       go_wp2_with fail
       go_meet
       exact⟨by rw[HR.out],rfl⟩
    ·have HR:Hid (longG g=true):=zh (by unfold longG;rw[h1S,h1M,h2M];rfl)
     go_wp2_with fail
     go_meet
     exact⟨by rw[HR.out],rfl⟩
  ·cases h2S:((g.sta.length:Int)!=17)
   ·cases h1M:decide ((14:Int)<(g.mov.length:Int))
    ·cases h1Z:decide ((4:Int)<(g.zon.length:Int))
     ·have HR:Hid (longG g=false):=zh (by unfold longG;rw[h1S,h2S,h1M,h1Z];rfl)
      go_wp2_with fail
      go_meet
      exact⟨by rw[HR.out],rfl⟩
     ·cases h2Z:((g.zon.length:Int)!=9)
      ·have HR:Hid (longG g=false):=zh (by unfold longG;rw[h1S,h2S,h1M,h1Z,h2Z];rfl)
       go_wp2_with fail
       go_meet
       exact⟨by rw[HR.out],rfl⟩
      ·have HR:Hid (longG g=true):=zh (by unfold longG;rw[h1S,h2S,h1M,h1Z,h2Z];rfl)
       go_wp2_with fail
       go_meet
       exact⟨by rw[HR.out],rfl⟩
    ·cases h2M:((g.mov.length:Int)!=41)
     ·cases h1Z:decide ((4:Int)<(g.zon.length:Int))
      ·have HR:Hid (longG g=false):=zh (by unfold longG;rw[h1S,h2S,h1M,h2M,h1Z];rfl)
       go_wp2_with fail
       go_meet
       exact⟨by rw[HR.out],rfl⟩
      ·cases h2Z:((g.zon.length:Int)!=9)
       ·have HR:Hid (longG g=false):=zh (by unfold longG;rw[h1S,h2S,h1M,h2M,h1Z,h2Z];rfl)
        go_wp2_with fail
        go_meet
        exact⟨by rw[HR.out],rfl⟩
       ·have HR:Hid (longG g=true):=zh (by unfold longG;rw[h1S,h2S,h1M,h2M,h1Z,h2Z];rfl)
        go_wp2_with fail
        go_meet
        exact⟨by rw[HR.out],rfl⟩
     ·have HR:Hid (longG g=true):=zh (by unfold longG;rw[h1S,h2S,h1M,h2M];rfl)
      go_wp2_with fail
      go_meet
      exact⟨by rw[HR.out],rfl⟩
   ·have HR:Hid (longG g=true):=zh (by unfold longG;rw[h1S,h2S];rfl)
    go_wp2_with fail
    go_meet
    exact⟨by rw[HR.out],rfl⟩
 case rest=>
  obtain⟨rfl,hwc⟩:=hcut
  rw[hwc]
  clear hwc
  cases hlong:longG g
  ·have HL:=zh hlong
   have hbd:=long_no hlong
   clear hlong
   go_wp2_with fail
   go_loop [3] (fun i=>∃k:Nat,k≤g.sta.length∧i=.int .i64 k∧Hid (∀x∈g.sta.take k,shortS x=true)) (fun i=>g.sta.length-(intOf i).toNat)
   case atStart=>exact⟨0,Nat.zero_le _,rfl,zh (by simp)⟩
   case round=>
    obtain⟨k,hk,rfl,hf⟩:=hrel
    by_cases hlt:k<g.sta.length
    ·obtain⟨x,hx⟩:∃x,x=g.sta[k]:=⟨_,rfl⟩
     obtain⟨b,off,ea,hbl,c0,c1,c2,c3⟩:=HG.out.sta.get4 (k:=k) (by simpa using hlt) (by rw[List.getElem_map,←hx];rfl)
     rw[ea]at g1
     have HX:=zh hx
     have HA:=zh ea
     clear ea hx
     cases h1:decide ((40:Int)<(x.name.size:Int))
     ·cases h2:decide ((40:Int)<(x.kind.size:Int))
      ·have HQ:Hid (shortS x=true):=zh (by have h3:=of_decide_eq_false h1;have h4:=of_decide_eq_false h2;unfold shortS;rw[decide_eq_true (by omega),decide_eq_true (by omega)];rfl)
       go_wp2_with fail
       go_round
       case rel=>exact⟨k+1,by omega,by go_num,zh (take_allT hlt hf.out (by rw[←HX.out];exact HQ.out))⟩
       case measure=>simp[intOf];omega
      ·have HR:Hid (shortG g=false):=zh (by have h4:=of_decide_eq_true h2;unfold shortG;rw[all_hit hlt (p:=shortS) (by rw[←HX.out];unfold shortS;rw[decide_eq_false (p:=x.kind.size≤40) (by omega),Bool.and_false])];simp)
       go_wp2_with fail
       go_ret
       exact⟨ret_bool HR.out.symm,by exact zbl⟩
     ·have HR:Hid (shortG g=false):=zh (by have h4:=of_decide_eq_true h1;unfold shortG;rw[all_hit hlt (p:=shortS) (by rw[←HX.out];unfold shortS;rw[decide_eq_false (p:=x.name.size≤40) (by omega),Bool.false_and])];simp)
      go_wp2_with fail
      go_ret
      exact⟨ret_bool HR.out.symm,by exact zbl⟩
    ·have HS:Hid (g.sta.all shortS=true):=zh (all_end hlt hf.out)
     go_wp2_with fail
     go_loop [4] (fun i=>∃k:Nat,k≤g.zon.length∧i=.int .i64 k∧Hid (∀x∈g.zon.take k,shortZ x=true)) (fun i=>g.zon.length-(intOf i).toNat)
     case atStart=>exact⟨0,Nat.zero_le _,rfl,zh (by simp)⟩
     case round=>
      clear hf hlt hk
      obtain⟨k,hk,rfl,hf⟩:=hrel
      by_cases hlt:k<g.zon.length
      ·obtain⟨x,hx⟩:∃x,x=g.zon[k]:=⟨_,rfl⟩
       obtain⟨b,off,ea,hbl,c0,c1,c2,c3⟩:=HG.out.zon.get4 (k:=k) (by simpa using hlt) (by rw[List.getElem_map,←hx];rfl)
       rw[ea]at g3
       have HX:=zh hx
       have HA:=zh ea
       clear ea hx
       cases h1:decide ((40:Int)<(x.name.size:Int))
       ·have HQ:Hid (shortZ x=true):=zh (by have h3:=of_decide_eq_false h1;unfold shortZ;exact decide_eq_true (by omega))
        go_wp2_with fail
        go_round
        case rel=>exact⟨k+1,by omega,by go_num,zh (take_allT hlt hf.out (by rw[←HX.out];exact HQ.out))⟩
        case measure=>simp[intOf];omega
       ·have HR:Hid (shortG g=false):=zh (by have h4:=of_decide_eq_true h1;unfold shortG;rw[all_hit hlt (p:=shortZ) (by rw[←HX.out];unfold shortZ;exact decide_eq_false (by omega))];simp)
        go_wp2_with fail
        go_ret
        exact⟨ret_bool HR.out.symm,by exact zbl⟩
      ·have HR:Hid (shortG g=true):=zh (by unfold shortG;rw[HL.out,HS.out,all_end hlt hf.out];rfl)
       go_wp2_with fail
       go_ret
       exact⟨ret_bool HR.out.symm,by exact zbl⟩
  ·have HR:Hid (shortG g=false):=zh (by unfold shortG;rw[hlong];rfl)
   clear hlong
   go_wp2_with fail
   go_ret
   exact⟨ret_bool HR.out.symm,by exact zbl⟩
def fewG(g:Grd):Bool:=shortG g&&(decide ((g.sta.length:Int)≤8)&&(decide ((g.mov.length:Int)≤14)&&(decide ((g.zon.length:Int)≤4)&&(gridC g==0))))
set_option maxRecDepth 100000 in
set_option maxHeartbeats 4000000 in
theorem few_c(a:GA)(g:Grd)(w:World)(hr:GridR w w.heap.size a g):
 Calls Tryz.prog 54 #[(.agg #[.int .i64 g.blur,.slice a.pS g.sta.length a.cs,.slice a.pM g.mov.length a.cm,.slice a.pZ g.zon.length a.cz])] w fun e w'=>e=.returned (.bool (fewG g))∧Below w.heap.size w w':=by
 obtain⟨W0,hW0⟩:∃W0,W0=w.alloc (.cells #[.int .i64 g.blur,.slice a.pS g.sta.length a.cs,.slice a.pM g.mov.length a.cm,.slice a.pZ g.zon.length a.cz] 26):=⟨_,rfl⟩
 have hsz:W0.heap.size=w.heap.size+1:=by rw[hW0];simp
 have k0:W0.heap[w.heap.size]? =some (.cells #[.int .i64 g.blur,.slice a.pS g.sta.length a.cs,.slice a.pM g.mov.length a.cm,.slice a.pZ g.zon.length a.cz] 26 (0,0)):=by rw[hW0];exact heap_alloc_new w _
 have hB0:Below w.heap.size w W0:=by rw[hW0];exact zbl
 have HG:Hid (GridR W0 W0.heap.size a g):=zh (hr.to hB0)
 have HB0:=zh hB0
 have z0:=bk_lt k0
 clear hr hB0
 (obtain⟨d0,d1,d2,d3⟩:=cg4 k0)
 clear k0
 have hSH:=fun W (h:GridR W W.heap.size a g)=>rShort_c a g W h
 cases hsh:shortG g
 ·have HF:=zh (show fewG g=false by unfold fewG;rw[hsh];rfl)
  rw[hsh]at hSH
  have HSH:=zh hSH
  clear hSH hsh
  go_enter Tryz.func54,Tryz.ntmps54
  go_upto_region 1 with fail
  rw[←hW0]
  clear hW0
  go_wp2_with (first|(go_at_call 15;(with_reducible refine Calls.mono (HSH.out _ (HG.out.to (by exact zbl))) ?_);rintro e wA ⟨rfl,hbA⟩;(have hq_wA:Below W0.heap.size W0 wA:=by exact zbl);(have hc_wA:=(bcell hq_wA).1);(have y0_wA:w.heap.size<wA.heap.size:=Nat.lt_of_lt_of_le z0 hq_wA.size);clear hq_wA))
  go_ret
  exact⟨ret_bool (by rw[HF.out]),HB0.out.trans ((show Below W0.heap.size W0 _ by exact zbl).mono HB0.out.size)⟩
 ·have hsm:=short_small hsh
  have h1:=hsh
  rw[hsh]at hSH
  have HSH:=zh hSH
  have HS:=zh hsh
  clear hSH hsh h1
  cases h8:decide ((g.sta.length:Int)≤8)
  ·have HF:=zh (show fewG g=false by unfold fewG;rw[HS.out,h8];rfl)
   go_enter Tryz.func54,Tryz.ntmps54
   go_upto_region 1 with fail
   rw[←hW0]
   clear hW0
   go_wp2_with (first|(go_at_call 15;(with_reducible refine Calls.mono (HSH.out _ (HG.out.to (by exact zbl))) ?_);rintro e wA ⟨rfl,hbA⟩;(have hq_wA:Below W0.heap.size W0 wA:=by exact zbl);(have hc_wA:=(bcell hq_wA).1);(have y0_wA:w.heap.size<wA.heap.size:=Nat.lt_of_lt_of_le z0 hq_wA.size);clear hq_wA))
   go_ret
   exact⟨ret_bool (by rw[HF.out]),HB0.out.trans ((show Below W0.heap.size W0 _ by exact zbl).mono HB0.out.size)⟩
  ·cases h14:decide ((g.mov.length:Int)≤14)
   ·have HF:=zh (show fewG g=false by unfold fewG;rw[HS.out,h8,h14];rfl)
    go_enter Tryz.func54,Tryz.ntmps54
    go_upto_region 1 with fail
    rw[←hW0]
    clear hW0
    go_wp2_with (first|(go_at_call 15;(with_reducible refine Calls.mono (HSH.out _ (HG.out.to (by exact zbl))) ?_);rintro e wA ⟨rfl,hbA⟩;(have hq_wA:Below W0.heap.size W0 wA:=by exact zbl);(have hc_wA:=(bcell hq_wA).1);(have y0_wA:w.heap.size<wA.heap.size:=Nat.lt_of_lt_of_le z0 hq_wA.size);clear hq_wA))
    go_ret
    exact⟨ret_bool (by rw[HF.out]),HB0.out.trans ((show Below W0.heap.size W0 _ by exact zbl).mono HB0.out.size)⟩
   ·cases h4:decide ((g.zon.length:Int)≤4)
    ·have HF:=zh (show fewG g=false by unfold fewG;rw[HS.out,h8,h14,h4];rfl)
     go_enter Tryz.func54,Tryz.ntmps54
     go_upto_region 1 with fail
     rw[←hW0]
     clear hW0
     go_wp2_with (first|(go_at_call 15;(with_reducible refine Calls.mono (HSH.out _ (HG.out.to (by exact zbl))) ?_);rintro e wA ⟨rfl,hbA⟩;(have hq_wA:Below W0.heap.size W0 wA:=by exact zbl);(have hc_wA:=(bcell hq_wA).1);(have y0_wA:w.heap.size<wA.heap.size:=Nat.lt_of_lt_of_le z0 hq_wA.size);clear hq_wA))
     go_ret
     exact⟨ret_bool (by rw[HF.out]),HB0.out.trans ((show Below W0.heap.size W0 _ by exact zbl).mono HB0.out.size)⟩
    ·have HF:=zh (show fewG g=(gridC g==0) by unfold fewG;rw[HS.out,h8,h14,h4];rfl)
     have HGC:=zh (show ∀W,GridR W W.heap.size a g→Calls Tryz.prog 21 #[(.agg #[.int .i64 g.blur,.slice a.pS g.sta.length a.cs,.slice a.pM g.mov.length a.cm,.slice a.pZ g.zon.length a.cz])] W fun e w'=>e=.returned (.int .i64 (gridC g))∧Below W.heap.size W w' from fun W h=>rGridC_c a g W hsm h)
     go_enter Tryz.func54,Tryz.ntmps54
     go_upto_region 1 with fail
     rw[←hW0]
     clear hW0
     go_wp2_with (first|(go_at_call 15;(with_reducible refine Calls.mono (HSH.out _ (HG.out.to (by exact zbl))) ?_);rintro e wA ⟨rfl,hbA⟩;(have hq_wA:Below W0.heap.size W0 wA:=by exact zbl);(have hc_wA:=(bcell hq_wA).1);(have y0_wA:w.heap.size<wA.heap.size:=Nat.lt_of_lt_of_le z0 hq_wA.size);clear hq_wA)|(go_at_call 21;(with_reducible refine Calls.mono (HGC.out _ (HG.out.to (by exact zbl))) ?_);rintro e wB ⟨rfl,hbB⟩;(have hq_wB:Below W0.heap.size W0 wB:=by exact zbl);(have hc_wB:=(bcell hq_wB).1);(have y0_wB:w.heap.size<wB.heap.size:=Nat.lt_of_lt_of_le z0 hq_wB.size);clear hq_wB))
     go_ret
     exact⟨ret_bool (by rw[HF.out]),HB0.out.trans ((show Below W0.heap.size W0 _ by exact zbl).mono HB0.out.size)⟩
end Go.Proofs.YtehnikhicnnnhaaGreatDoor
/- Print. -/
import Derived.Test.YtehnikhicnnnhaaGreatDoorPa18
namespace Go.Proofs.YtehnikhicnnnhaaGreatDoor
open Go.RowKit
set_option maxRecDepth 100000 in
set_option maxHeartbeats 8000000 in
theorem Print_c(a:GA)(g:Grd)(w:World)(hs:SmallG g)(hr:GridR w w.heap.size a g)(hkd:KindsAt w)(hp:PowAt w):
 Calls Tryz.prog 81 #[(.agg #[.int .i64 g.blur,.slice a.pS g.sta.length a.cs,.slice a.pM g.mov.length a.cm,.slice a.pZ g.zon.length a.cz])] w fun e w'=>e=.returned (.tuple #[.string (printT g),.int .i64 (gridC g)])∧Below w.heap.size w w':=by
 have HG:=zh (hr.sx (Nat.le_refl _) ((Sx.refl w).alloc (.cells #[.int .i64 g.blur,.slice a.pS g.sta.length a.cs,.slice a.pM g.mov.length a.cm,.slice a.pZ g.zon.length a.cz] 38)))
 have HK:=zh (hkd.sx ((Sx.refl w).alloc (.cells #[.int .i64 g.blur,.slice a.pS g.sta.length a.cs,.slice a.pM g.mov.length a.cm,.slice a.pZ g.zon.length a.cz] 38)))
 have HG0:=zh hr
 have HPW:=zh hp
 clear hr hkd hp
 by_cases he:gridC g=0
 ·have hz1':(gridC g !=0)=false:=by rw[bne_eq_false_iff_eq];exact he
  have hpt:=zh (show printT g=⟨(textG g).toArray⟩ by unfold printT;rw[if_pos he])
  have hok:=gridC_ok he
  have hkk:∀s∈g.sta,s.kind.size≤7:=by
   have h1:stasC g.sta=0:=firstErr_zero he _ (by simp)
   unfold stasC at h1
   split at h1
   ·cases h1
   ·exact chkS_kind h1
  have HKK:=zh hkk
  have HE:=zh he;clear he hkk
  have HS:=zh hs
  have h0n:∀n∈ [g.blur],0≤n∧n≤9223372036854775807:=by
   intro n hn;simp at hn;subst hn;have:=hok.b0;have:=hok.b1;constructor<;>omega
  have H0N:=zh h0n
  clear h0n hs
  go_enter Tryz.func81,Tryz.ntmps81
  go_wp2_with (first|(go_at_call 66;refine(CheckGrid_c a g _ HS.out HG.out HK.out).mono ?_;rintro e w1 ⟨rfl,hb1⟩;(have b0:w1.cell? ⟨w.heap.size,0,none⟩=some (.int .i64 g.blur):=(hb1.cell (p:=⟨w.heap.size,0,none⟩) (by first|(simp;done)|(simp;omega)|(show w.heap.size<_;omega))).trans (by first|assumption|(simp;done)));(have b1:w1.cell? ⟨w.heap.size,1,none⟩=some (.slice a.pS g.sta.length a.cs):=(hb1.cell (p:=⟨w.heap.size,1,none⟩) (by first|(simp;done)|(simp;omega)|(show w.heap.size<_;omega))).trans (by first|assumption|(simp;done)));(have b2:w1.cell? ⟨w.heap.size,2,none⟩=some (.slice a.pM g.mov.length a.cm):=(hb1.cell (p:=⟨w.heap.size,2,none⟩) (by first|(simp;done)|(simp;omega)|(show w.heap.size<_;omega))).trans (by first|assumption|(simp;done)));(have b3:w1.cell? ⟨w.heap.size,3,none⟩=some (.slice a.pZ g.zon.length a.cz):=(hb1.cell (p:=⟨w.heap.size,3,none⟩) (by first|(simp;done)|(simp;omega)|(show w.heap.size<_;omega))).trans (by first|assumption|(simp;done)));(have hbw1:Below w.heap.size w w1:=by exact zbl);(have lw1:w.heap.size<w1.heap.size:=by have:=hb1.size;simp at this;omega))|(go_at_call 144;refine(line_c (w1.heap.size+1) (some ⟨w1.heap.size+1+1,0,none⟩) 1 [kwGrid] [g.blur] _ (by simp) (by simp) (by simp) (fun n hn=>⟨Int.le_trans (by decide) (H0N.out n hn).1,(H0N.out n hn).2⟩) (lit_line w1 (.cells #[.pointer none,.slice none 0 0] 220) [kwGrid] [g.blur] (by simp)).1 (lit_line w1 (.cells #[.pointer none,.slice none 0 0] 220) [kwGrid] [g.blur] (by simp)).2 (HPW.out.below (by exact zbl)) (Nat.le_trans (line_small [kwGrid] [g.blur] (by simp) (by simp) (by intro s hs;simp at hs;subst hs;decide) H0N.out) (by decide))).mono ?_;rintro e w2 ⟨rfl,hb2⟩)|(go_at_call 143;refine(write_c w1.heap.size [] (lineS [kwGrid] [g.blur]) _ ((IsB.new w1).below (line_below hb2)) (by have:=line_size [kwGrid] [g.blur] (by simp) (by simp) (by intro s hs;simp at hs;subst hs;decide) H0N.out;simp only[List.length_nil];omega)).mono ?_;rintro e w3 ⟨rfl,hib3,hb3⟩;(have hb13:Below w1.heap.size w1 w3:=(Below.alloc (Below.refl _ w1) (Nat.le_refl _) _).trans (((line_below hb2).mono (by simp)).trans hb3));(have c1:=(hb13.cell (p:=⟨w.heap.size,1,none⟩) lw1).trans b1)))
  have HB1:=zh b1
  have HB2:=zh b2
  have HB3:=zh b3
  have HBW1:=zh hbw1
  have HB13:=zh hb13
  have HIB0:Hid (IsB w3 w1.heap.size (headT g.blur)):=zh (by simpa [headT]using hib3)
  clear b0 b1 b2 b3 hbw1 hb13 hib3
  go_loopw [26] (fun i wr=>∃(k:Nat) (tl:List UInt8),k≤g.sta.length∧i=.int .i64 k∧Hid (IsB wr w1.heap.size tl)∧Hid (tl=headT g.blur++((g.sta.take k).map staT).flatten)∧tl.length≤(1+k)*600007∧Below w1.heap.size w1 wr) (fun i _=>g.sta.length-(intOf i).toNat)
  case atStart=>exact⟨0,headT g.blur,Nat.zero_le _,rfl,HIB0,zh (by simp),by have:=line_size [kwGrid] [g.blur] (by simp) (by simp) (by intro s hs;simp at hs;subst hs;decide) H0N.out;unfold headT;rw[size_toList];omega,HB13.out⟩
  case round=>
   obtain⟨k,tl,hk,rfl,hib,htl,htn,hb⟩:=hrel
   have hbs:=hb.size
   have hbw:Below w.heap.size w wr:=HBW1.out.trans (hb.mono (by omega))
   have e1:=(hb.cell (p:=⟨w.heap.size,1,none⟩) lw1).trans HB1.out
   have e2:=(hb.cell (p:=⟨w.heap.size,2,none⟩) lw1).trans HB2.out
   have e3:=(hb.cell (p:=⟨w.heap.size,3,none⟩) lw1).trans HB3.out
   have lwr:w.heap.size<wr.heap.size:=by omega
   by_cases hlt:k<g.sta.length
   ·obtain⟨st,hst⟩:∃st,st=g.sta[k]:=⟨_,rfl⟩
    have hsm:st∈g.sta:=by rw[hst];exact List.getElem_mem hlt
    obtain⟨b,off,hA,hbl,d0,d1,d2,d3⟩:=((HG0.out.belowB (w0:=w) hbw (Nat.le_refl _)).more hbw.size).sta.get4 (k:=k) (by simpa using hlt) (by rw[List.getElem_map,←hst];rfl)
    have HWS:Hid (∀s∈ [kwSta,st.name,st.kind],s.size≤100000):=zh (by intro t ht;simp at ht;rcases ht with rfl|rfl|rfl;(first|exact(by decide:kwSta.size≤100000)|decide);exact HS.out.names st hsm;exact Nat.le_trans (HKK.out st hsm) (by decide))
    have HNS:Hid (∀n∈ [st.x,st.y],0≤n∧n≤9223372036854775807):=zh (by intro n hn;have h:=hok.sta st hsm;have:=h.x0;have:=h.x1;have:=h.y0;have:=h.y1;simp at hn;rcases hn with rfl|rfl<;>constructor<;>omega)
    have HST:=zh hst
    have HA:=zh hA
    have hkb:1+k≤100:=by have:=hok.ns;have:=hok.nm;have:=hok.nz;omega
    have htn5:tl.length≤70000000:=by omega
    have HTN:=zh htn
    have HPR:=zh (HPW.out.below hbw)
    have HKB:=zh hkb
    clear hst hsm htn hkb
    go_wp2_with (first|(go_at_call 144;refine(line_c (wr.heap.size+1) (some ⟨wr.heap.size+1+1,0,none⟩) 2 [kwSta,st.name,st.kind] [st.x,st.y] _ (by simp) (by simp) (by simp) (fun n hn=>⟨Int.le_trans (by decide) (HNS.out n hn).1,(HNS.out n hn).2⟩) (lit_line wr (.cells #[.string st.name,.string st.kind,.int .i64 st.x,.int .i64 st.y] 163) [kwSta,st.name,st.kind] [st.x,st.y] (by simp)).1 (lit_line wr (.cells #[.string st.name,.string st.kind,.int .i64 st.x,.int .i64 st.y] 163) [kwSta,st.name,st.kind] [st.x,st.y] (by simp)).2 (HPR.out.below (by exact zbl)) (Nat.le_trans (line_small [kwSta,st.name,st.kind] [st.x,st.y] (by simp) (by simp) HWS.out HNS.out) (by decide))).mono ?_;rintro e w2 ⟨rfl,hb2⟩)|(go_at_call 143;refine(write_c w1.heap.size tl (lineS [kwSta,st.name,st.kind] [st.x,st.y]) _ ((hib.out.below (Below.alloc (Below.refl _ _) (Nat.le_refl _) _)).below (line_below hb2)) (by have:=line_size [kwSta,st.name,st.kind] [st.x,st.y] (by simp) (by simp) HWS.out HNS.out;omega)).mono ?_;rintro e w3 ⟨rfl,hib3,hb3⟩))
    rw[←HA.out]
    clear hA
    have hkb:=HKB.out
    have i7:Hid (wrap64 ((k:Int)+1)=(k:Int)+1):=zh (by rw[←IntWalk.i64_left];exact IntWalk.i64_in _ (by omega))
    go_roundw
    case rel=>
     have hls:=line_size [kwSta,st.name,st.kind] [st.x,st.y] (by simp) (by simp) HWS.out HNS.out
     have hlb2:=line_below hb2
     have hz1:(wr.alloc (.cells #[.string st.name,.string st.kind,.int .i64 st.x,.int .i64 st.y] 163)).heap.size=wr.heap.size+1:=by simp
     refine⟨k+1,tl++(lineS [kwSta,st.name,st.kind] [st.x,st.y]).data.toList,by omega,by rw[i7.out];exact congrArg (Value.int IntKind.i64) (by omega),zh hib3,zh ?_,?_,?_⟩
     ·rw[flat_succ _ hlt,←HST.out,←List.append_assoc,←htl.out]
      simp only[staT,staW]
     ·rw[List.length_append,size_toList,show 1+(k+1)=1+k+1 by omega,Nat.succ_mul]
      have:=HTN.out
      omega
     ·exact hb.trans ((Below.alloc (Below.refl _ wr) (by omega) _).trans ((hlb2.mono (by omega)).trans hb3))
    case measure=>
     have hh:(intOf (.int .i64 (wrap64 ((k:Int)+1)))).toNat=k+1:=by rw[i7.out];rfl
     exact Nat.sub_lt_sub_left hlt (by rw[hh];exact Nat.lt_succ_self k)
   ·have hkl:k=g.sta.length:=by omega
    have htl2:tl=headT g.blur++(g.sta.map staT).flatten:=by rw[htl.out,hkl,List.take_length]
    have htn2:tl.length≤(1+g.sta.length)*600007:=by rw[←hkl];exact htn
    have HTL:=zh htl2
    have HTN:=zh htn2
    clear hkl htl htn htl2 htn2
    go_wp2_with fail
    go_loopw [48] (fun i wr=>∃(k:Nat) (tl:List UInt8),k≤g.mov.length∧i=.int .i64 k∧Hid (IsB wr w1.heap.size tl)∧Hid (tl=headT g.blur++(g.sta.map staT).flatten++((g.mov.take k).map movT).flatten)∧tl.length≤((1+g.sta.length)+k)*600007∧Below w1.heap.size w1 wr) (fun i _=>g.mov.length-(intOf i).toNat)
    case atStart=>exact⟨0,tl,Nat.zero_le _,rfl,hib,zh (by simpa using HTL.out),by simpa using HTN.out,hb⟩
    case round=>
     obtain⟨k,tl,hk,rfl,hib,htl,htn,hb⟩:=hrel
     have hbs:=hb.size
     have hbw:Below w.heap.size w wr:=HBW1.out.trans (hb.mono (by omega))
     have e1:=(hb.cell (p:=⟨w.heap.size,1,none⟩) lw1).trans HB1.out
     have e2:=(hb.cell (p:=⟨w.heap.size,2,none⟩) lw1).trans HB2.out
     have e3:=(hb.cell (p:=⟨w.heap.size,3,none⟩) lw1).trans HB3.out
     have lwr:w.heap.size<wr.heap.size:=by omega
     by_cases hlt:k<g.mov.length
     ·obtain⟨m,hst⟩:∃m,m=g.mov[k]:=⟨_,rfl⟩
      have hsm:m∈g.mov:=by rw[hst];exact List.getElem_mem hlt
      obtain⟨b,off,hA,hbl,d0,d1,d2⟩:=((HG0.out.belowB (w0:=w) hbw (Nat.le_refl _)).more hbw.size).mov.get3 (k:=k) (by simpa using hlt) (by rw[List.getElem_map,←hst];rfl)
      have HWS:Hid (∀s∈ [kwMov],s.size≤100000):=zh (by intro t ht;simp at ht;subst ht;decide)
      have HNS:Hid (∀n∈ [m.a,m.b,m.s],0≤n∧n≤9223372036854775807):=zh (by intro n hn;have h:=hok.mov m hsm;have:=h.a0;have:=h.ab;have:=h.bn;have:=h.s0;have:=h.s1;have:=hok.ns;simp at hn;rcases hn with rfl|rfl|rfl<;>constructor<;>omega)
      have HST:=zh hst
      have HA:=zh hA
      have hkb:(1+g.sta.length)+k≤100:=by have:=hok.ns;have:=hok.nm;have:=hok.nz;omega
      have htn5:tl.length≤70000000:=by omega
      have HTN:=zh htn
      have HPR:=zh (HPW.out.below hbw)
      have HKB:=zh hkb
      clear hst hsm htn hkb
      go_wp2_with (first|(go_at_call 144;refine(line_c (wr.heap.size+1) (some ⟨wr.heap.size+1+1,0,none⟩) 3 [kwMov] [m.a,m.b,m.s] _ (by simp) (by simp) (by simp) (fun n hn=>⟨Int.le_trans (by decide) (HNS.out n hn).1,(HNS.out n hn).2⟩) (lit_line wr (.cells #[.int .i64 m.a,.int .i64 m.b,.int .i64 m.s] 166) [kwMov] [m.a,m.b,m.s] (by simp)).1 (lit_line wr (.cells #[.int .i64 m.a,.int .i64 m.b,.int .i64 m.s] 166) [kwMov] [m.a,m.b,m.s] (by simp)).2 (HPR.out.below (by exact zbl)) (Nat.le_trans (line_small [kwMov] [m.a,m.b,m.s] (by simp) (by simp) HWS.out HNS.out) (by decide))).mono ?_;rintro e w2 ⟨rfl,hb2⟩)|(go_at_call 143;refine(write_c w1.heap.size tl (lineS [kwMov] [m.a,m.b,m.s]) _ ((hib.out.below (Below.alloc (Below.refl _ _) (Nat.le_refl _) _)).below (line_below hb2)) (by have:=line_size [kwMov] [m.a,m.b,m.s] (by simp) (by simp) HWS.out HNS.out;omega)).mono ?_;rintro e w3 ⟨rfl,hib3,hb3⟩))
      rw[←HA.out]
      clear hA
      have hkb:=HKB.out
      have i7:Hid (wrap64 ((k:Int)+1)=(k:Int)+1):=zh (by rw[←IntWalk.i64_left];exact IntWalk.i64_in _ (by omega))
      go_roundw
      case rel=>
       have hls:=line_size [kwMov] [m.a,m.b,m.s] (by simp) (by simp) HWS.out HNS.out
       have hlb2:=line_below hb2
       have hz1:(wr.alloc (.cells #[.int .i64 m.a,.int .i64 m.b,.int .i64 m.s] 166)).heap.size=wr.heap.size+1:=by simp
       refine⟨k+1,tl++(lineS [kwMov] [m.a,m.b,m.s]).data.toList,by omega,by rw[i7.out];exact congrArg (Value.int IntKind.i64) (by omega),zh hib3,zh ?_,?_,?_⟩
       ·rw[flat_succ _ hlt,←HST.out,←List.append_assoc,←htl.out]
        simp only[movT]
       ·rw[List.length_append,size_toList,show(1+g.sta.length)+(k+1)=(1+g.sta.length)+k+1 by omega,Nat.succ_mul]
        have:=HTN.out
        omega
       ·exact hb.trans ((Below.alloc (Below.refl _ wr) (by omega) _).trans ((hlb2.mono (by omega)).trans hb3))
      case measure=>
       have hh:(intOf (.int .i64 (wrap64 ((k:Int)+1)))).toNat=k+1:=by rw[i7.out];rfl
       exact Nat.sub_lt_sub_left hlt (by rw[hh];exact Nat.lt_succ_self k)
     ·have hkl:k=g.mov.length:=by omega
      have htl2:tl=headT g.blur++(g.sta.map staT).flatten++(g.mov.map movT).flatten:=by rw[htl.out,hkl,List.take_length]
      have htn2:tl.length≤((1+g.sta.length)+g.mov.length)*600007:=by rw[←hkl];exact htn
      have HTL:=zh htl2
      have HTN:=zh htn2
      clear hkl htl htn htl2 htn2
      go_wp2_with fail
      go_loopw [66] (fun i wr=>∃(k:Nat) (tl:List UInt8),k≤g.zon.length∧i=.int .i64 k∧Hid (IsB wr w1.heap.size tl)∧Hid (tl=headT g.blur++(g.sta.map staT).flatten++(g.mov.map movT).flatten++((g.zon.take k).map zonT).flatten)∧tl.length≤((1+g.sta.length+g.mov.length)+k)*600007∧Below w1.heap.size w1 wr) (fun i _=>g.zon.length-(intOf i).toNat)
      case atStart=>exact⟨0,tl,Nat.zero_le _,rfl,hib,zh (by simpa using HTL.out),by simpa using HTN.out,hb⟩
      case round=>
       obtain⟨k,tl,hk,rfl,hib,htl,htn,hb⟩:=hrel
       have hbs:=hb.size
       have hbw:Below w.heap.size w wr:=HBW1.out.trans (hb.mono (by omega))
       have e1:=(hb.cell (p:=⟨w.heap.size,1,none⟩) lw1).trans HB1.out
       have e2:=(hb.cell (p:=⟨w.heap.size,2,none⟩) lw1).trans HB2.out
       have e3:=(hb.cell (p:=⟨w.heap.size,3,none⟩) lw1).trans HB3.out
       have lwr:w.heap.size<wr.heap.size:=by omega
       by_cases hlt:k<g.zon.length
       ·obtain⟨z,hst⟩:∃z,z=g.zon[k]:=⟨_,rfl⟩
        have hsm:z∈g.zon:=by rw[hst];exact List.getElem_mem hlt
        obtain⟨b,off,hA,hbl,d0,d1,d2,d3⟩:=((HG0.out.belowB (w0:=w) hbw (Nat.le_refl _)).more hbw.size).zon.get4 (k:=k) (by simpa using hlt) (by rw[List.getElem_map,←hst];rfl)
        have HWS:Hid (∀s∈ [kwZon,z.name],s.size≤100000):=zh (by intro t ht;simp at ht;rcases ht with rfl|rfl;(first|exact(by decide:kwZon.size≤100000)|decide);exact HS.out.namez z hsm)
        have HNS:Hid (∀n∈ [z.x,z.y,z.r],0≤n∧n≤9223372036854775807):=zh (by intro n hn;have h:=hok.zon z hsm;have:=h.x0;have:=h.x1;have:=h.y0;have:=h.y1;have:=h.r0;have:=h.r1;simp at hn;rcases hn with rfl|rfl|rfl<;>constructor<;>omega)
        have HST:=zh hst
        have HA:=zh hA
        have hkb:(1+g.sta.length+g.mov.length)+k≤100:=by have:=hok.ns;have:=hok.nm;have:=hok.nz;omega
        have htn5:tl.length≤70000000:=by omega
        have HTN:=zh htn
        have HPR:=zh (HPW.out.below hbw)
        have HKB:=zh hkb
        clear hst hsm htn hkb
        go_wp2_with (first|(go_at_call 144;refine(line_c (wr.heap.size+1) (some ⟨wr.heap.size+1+1,0,none⟩) 3 [kwZon,z.name] [z.x,z.y,z.r] _ (by simp) (by simp) (by simp) (fun n hn=>⟨Int.le_trans (by decide) (HNS.out n hn).1,(HNS.out n hn).2⟩) (lit_line wr (.cells #[.string z.name,.int .i64 z.x,.int .i64 z.y,.int .i64 z.r] 119) [kwZon,z.name] [z.x,z.y,z.r] (by simp)).1 (lit_line wr (.cells #[.string z.name,.int .i64 z.x,.int .i64 z.y,.int .i64 z.r] 119) [kwZon,z.name] [z.x,z.y,z.r] (by simp)).2 (HPR.out.below (by exact zbl)) (Nat.le_trans (line_small [kwZon,z.name] [z.x,z.y,z.r] (by simp) (by simp) HWS.out HNS.out) (by decide))).mono ?_;rintro e w2 ⟨rfl,hb2⟩)|(go_at_call 143;refine(write_c w1.heap.size tl (lineS [kwZon,z.name] [z.x,z.y,z.r]) _ ((hib.out.below (Below.alloc (Below.refl _ _) (Nat.le_refl _) _)).below (line_below hb2)) (by have:=line_size [kwZon,z.name] [z.x,z.y,z.r] (by simp) (by simp) HWS.out HNS.out;omega)).mono ?_;rintro e w3 ⟨rfl,hib3,hb3⟩))
        rw[←HA.out]
        clear hA
        have hkb:=HKB.out
        have i7:Hid (wrap64 ((k:Int)+1)=(k:Int)+1):=zh (by rw[←IntWalk.i64_left];exact IntWalk.i64_in _ (by omega))
        go_roundw
        case rel=>
         have hls:=line_size [kwZon,z.name] [z.x,z.y,z.r] (by simp) (by simp) HWS.out HNS.out
         have hlb2:=line_below hb2
         have hz1:(wr.alloc (.cells #[.string z.name,.int .i64 z.x,.int .i64 z.y,.int .i64 z.r] 119)).heap.size=wr.heap.size+1:=by simp
         refine⟨k+1,tl++(lineS [kwZon,z.name] [z.x,z.y,z.r]).data.toList,by omega,by rw[i7.out];exact congrArg (Value.int IntKind.i64) (by omega),zh hib3,zh ?_,?_,?_⟩
         ·rw[flat_succ _ hlt,←HST.out,←List.append_assoc,←htl.out]
          simp only[zonT,zonW]
         ·rw[List.length_append,size_toList,show(1+g.sta.length+g.mov.length)+(k+1)=(1+g.sta.length+g.mov.length)+k+1 by omega,Nat.succ_mul]
          have:=HTN.out
          omega
         ·exact hb.trans ((Below.alloc (Below.refl _ wr) (by omega) _).trans ((hlb2.mono (by omega)).trans hb3))
        case measure=>
         have hh:(intOf (.int .i64 (wrap64 ((k:Int)+1)))).toNat=k+1:=by rw[i7.out];rfl
         exact Nat.sub_lt_sub_left hlt (by rw[hh];exact Nat.lt_succ_self k)
       ·have hkl:k=g.zon.length:=by omega
        have htl2:tl=headT g.blur++(g.sta.map staT).flatten++(g.mov.map movT).flatten++(g.zon.map zonT).flatten:=by rw[htl.out,hkl,List.take_length]
        have htn2:tl.length≤((1+g.sta.length+g.mov.length)+g.zon.length)*600007:=by rw[←hkl];exact htn
        have HTL:=zh htl2
        have HTN:=zh htn2
        clear hkl htl htn htl2 htn2
        have HI4:=zh hib.out
        go_wp2_with (go_at_call 145;refine(Tryz.Builder_String_any w1.heap.size w1.heap.size tl _ HI4.out (Nat.le_of_lt HI4.out.lt)).mono ?_;rintro e w5 ⟨rfl,hb5⟩)
        go_ret2
        exact⟨by rw[hpt.out,HE.out,HTL.out];rfl,HBW1.out.trans ((hb.trans hb5).mono (by have:=HBW1.out.size;omega))⟩
 ·have hz1':(gridC g !=0)=true:=by rw[bne_iff_ne];exact he
  have hpt:=zh (show printT g=⟨#[]⟩ by unfold printT;rw[if_neg he])
  have HE:=zh he;clear he
  go_enter Tryz.func81,Tryz.ntmps81
  go_wp2_with (go_at_call 66;refine(CheckGrid_c a g _ hs HG.out HK.out).mono ?_;rintro e w1 ⟨rfl,hb1⟩)
  go_ret2
  exact⟨by rw[hpt.out];rfl,by exact zbl⟩
end Go.Proofs.YtehnikhicnnnhaaGreatDoor
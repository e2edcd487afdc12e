/- The reference: Stepped. -/
import Derived.Test.YtehnikhicnnnhaaGreatDoorPa48
import Derived.Test.YtehnikhicnnnhaaGreatDoorPa50
namespace Go.Proofs.YtehnikhicnnnhaaGreatDoor
open Go.RowKit
structure SB(W0 wr:World)(gb mb:Nat)(m:Mir)(A:Option Addr)(c:Nat)(V:World):Prop where
 box:V.heap[mb]? =some (.cells #[.string m.name,.string m.sec,.int .i64 m.loc,.slice A m.way.length c,.int .i64 m.left,.int .i64 m.heard] 107 (0,0))
 mir:MirR V V.heap.size m A c
 low:Below wr.heap.size wr V
 lo:wr.heap.size≤mb
 fr:∀a,A=some a→W0.heap.size≤a.block
 ne:m.way≠ []→∀a,A=some a→a.block≠mb∧a.block≠gb
 nil:A=none→c=0
 lt:mb<V.heap.size
theorem SB.close{T:TypeId}{W0 wr V:World}{gb mb k c1 c:Nat}{m:Mir}{A:Option Addr}{ys:List MA}{base:Nat}(h:SB W0 wr gb mb m A c V)(ho:OwnT T wr base (some ⟨gb,0,none⟩) c1 ys)(hk:k<ys.length):
 OwnT T ((((((V.setCell ⟨gb,k*6,none⟩ (.string m.name)).setCell ⟨gb,k*6+1,none⟩ (.string m.sec)).setCell ⟨gb,k*6+2,none⟩ (.int .i64 m.loc)).setCell ⟨gb,k*6+3,none⟩ (.slice A m.way.length c)).setCell ⟨gb,k*6+4,none⟩ (.int .i64 m.left)).setCell ⟨gb,k*6+5,none⟩ (.int .i64 m.heard)) base (some ⟨gb,0,none⟩) c1 (ys.set k ⟨m,A,c⟩):=
 (ho.below h.low).set hk ⟨m,A,c⟩ h.mir (fun hn a ha=>(h.ne hn a ha).2)
theorem SB.next{W0 wr V wx:World}{gb mb c:Nat}{m:Mir}{A:Option Addr}(h:SB W0 wr gb mb m A c V)(hb:Below V.heap.size V wx):SB W0 wr gb mb m A c wx:=
 ⟨(hb.block mb h.lt).trans h.box,⟨h.mir.way.to hb,h.mir.cap⟩,h.low.trans (hb.mono h.low.size),h.lo,h.fr,h.ne,h.nil,Nat.lt_of_lt_of_le h.lt hb.size⟩
theorem SB.setLeft{W0 wr V:World}{gb mb c:Nat}{m:Mir}{A:Option Addr}(h:SB W0 wr gb mb m A c V)(n:Int):SB W0 wr gb mb {m with left:=n} A c (V.setCell ⟨mb,4,none⟩ (.int .i64 n)):=by
 have h1:=h.mir.setc (p:=⟨mb,4,none⟩) (.int .i64 n) (fun hne a ha=>(h.ne hne a ha).1)
 exact⟨heap_setCell_same V mb 4 _ _ _ h.box,⟨Rw.more h1.way (by simp),h1.cap⟩,Below.setCell h.low (p:=⟨mb,4,none⟩) h.lo _,h.lo,h.fr,h.ne,h.nil,by simpa using h.lt⟩
theorem SB.setLoc{W0 wr V:World}{gb mb c:Nat}{m:Mir}{A:Option Addr}(h:SB W0 wr gb mb m A c V)(n:Int):SB W0 wr gb mb {m with loc:=n} A c (V.setCell ⟨mb,2,none⟩ (.int .i64 n)):=by
 have h1:=h.mir.setc (p:=⟨mb,2,none⟩) (.int .i64 n) (fun hne a ha=>(h.ne hne a ha).1)
 exact⟨heap_setCell_same V mb 2 _ _ _ h.box,⟨Rw.more h1.way (by simp),h1.cap⟩,Below.setCell h.low (p:=⟨mb,2,none⟩) h.lo _,h.lo,h.fr,h.ne,h.nil,by simpa using h.lt⟩
theorem SB.setWay{W0 wr V w6:World}{gb mb c c7:Nat}{m:Mir}{A A7:Option Addr}{l:List Int}(h:SB W0 wr gb mb m A c V)(hb:Below V.heap.size V w6)(hi:IntsR w6 w6.heap.size A7 l)(hc:l.length≤c7)(hf:∀a,A7=some a→V.heap.size≤a.block)(hn:A7=none→c7=0)(h0:W0.heap.size≤V.heap.size)(hg:gb<V.heap.size):
 SB W0 wr gb mb {m with way:=l} A7 c7 (w6.setCell ⟨mb,3,none⟩ (.slice A7 l.length c7)):=by
 have hlt:=h.lt
 have h1:MirR w6 w6.heap.size {m with way:=l} A7 c7:=⟨hi,hc⟩
 have h2:=h1.setc (p:=⟨mb,3,none⟩) (.slice A7 l.length c7) (fun hne a ha=>by have:=hf a ha;show a.block≠mb;omega)
 exact⟨heap_setCell_same w6 mb 3 _ _ _ ((hb.block mb hlt).trans h.box),⟨Rw.more h2.way (by simp),h2.cap⟩,Below.setCell (h.low.trans (hb.mono h.low.size)) (p:=⟨mb,3,none⟩) h.lo _,h.lo,fun a ha=>by have:=hf a ha;omega,fun _ a ha=>by have:=hf a ha;constructor<;>omega,hn,by have:=hb.size;simp;omega⟩
theorem SB.setAll{W0 wr V w6:World}{gb mb c c7:Nat}{m m7:Mir}{A A7:Option Addr}(h:SB W0 wr gb mb m A c V)(hb:Below V.heap.size V w6)(hr:MirR w6 w6.heap.size m7 A7 c7)(hf:∀a,A7=some a→V.heap.size≤a.block)(hn:A7=none→c7=0)(h0:W0.heap.size≤V.heap.size)(hg:gb<V.heap.size):
 SB W0 wr gb mb m7 A7 c7 ((((((w6.setCell ⟨mb,0,none⟩ (.string m7.name)).setCell ⟨mb,1,none⟩ (.string m7.sec)).setCell ⟨mb,2,none⟩ (.int .i64 m7.loc)).setCell ⟨mb,3,none⟩ (.slice A7 m7.way.length c7)).setCell ⟨mb,4,none⟩ (.int .i64 m7.left)).setCell ⟨mb,5,none⟩ (.int .i64 m7.heard)):=by
 have hlt:=h.lt
 have hlo:=h.lo
 have hz:=hb.size
 have hl2:=h.low.trans (hb.mono h.low.size)
 refine⟨set6_block ((hb.block mb hlt).trans h.box),⟨Rw.more (IntsR.set6 hr.way (fun a ha=>by have:=hf a ha;omega) _ _ _ _ _ _) (by simp),hr.cap⟩,Below.set6 hl2 hlo _ _ _ _ _ _,hlo,fun a ha=>by have:=hf a ha;omega,fun _ a ha=>by have:=hf a ha;constructor<;>omega,hn,by simp;omega⟩
theorem set_fresh{ys:List MA}{k n:Nat}{y:MA}(h:∀x∈ys,∀a,x.A=some a→n≤a.block)(hy:∀a,y.A=some a→n≤a.block):∀x∈ys.set k y,∀a,x.A=some a→n≤a.block:=fun x hx=>by
 rcases List.mem_or_eq_of_mem_set hx with hx|rfl
 ·exact h x hx
 ·exact hy
theorem set_nilW{ys:List MA}{k:Nat}{y:MA}(h:NilW ys)(hy:y.A=none→y.c=0):NilW (ys.set k y):=fun x hx=>by
 rcases List.mem_or_eq_of_mem_set hx with hx|rfl
 ·exact h x hx
 ·exact hy
theorem step_map{g:Grd}{f:Fld}{xs ys:List MA}{k:Nat}{y:MA}(hk:k<xs.length)(h:ys.map MA.m=((xs.map MA.m).take k).map (stepM g f)++(xs.map MA.m).drop k)(hy:y.m=stepM g f xs[k].m):
 (ys.set k y).map MA.m=((xs.map MA.m).take (k+1)).map (stepM g f)++(xs.map MA.m).drop (k+1):=by
 rw[List.map_set,h,hy]
 have h1:((xs.map MA.m).take k).map (stepM g f)=((xs.map MA.m).map (stepM g f)).take k:=by rw[List.map_take]
 have hl2:(((xs.map MA.m).take k).map (stepM g f)).length=k:=by simp;omega
 rw[List.set_append_right _ _ (by omega),hl2,Nat.sub_self]
 have h2:(xs.map MA.m).drop k=xs[k].m::(xs.map MA.m).drop (k+1):=by
  rw[List.drop_eq_getElem_cons (by simpa using hk)];simp
 rw[h2,List.set_cons_zero,List.take_succ_eq_append_getElem (by simpa using hk),List.map_append]
 simp
theorem step_at{g:Grd}{f:Fld}{xs ys:List MA}{k:Nat}(hk:k<xs.length)(hk':k<ys.length)(h:ys.map MA.m=((xs.map MA.m).take k).map (stepM g f)++(xs.map MA.m).drop k):ys[k].m=xs[k].m:=by
 have h1:(ys.map MA.m)[k]? =(((xs.map MA.m).take k).map (stepM g f)++(xs.map MA.m).drop k)[k]? :=by rw[h]
 have hl2:(((xs.map MA.m).take k).map (stepM g f)).length=k:=by simp;omega
 rw[List.getElem?_map,List.getElem?_eq_getElem hk',List.getElem?_append_right (by omega),hl2,Nat.sub_self,List.getElem?_drop,List.getElem?_map,Nat.add_zero,List.getElem?_eq_getElem hk]at h1
 simpa using h1
set_option maxRecDepth 100000 in
set_option maxHeartbeats 16000000 in
theorem rStepped_c(a:GA)(g:Grd)(tk ls:Int)(A:Option Addr)(c:Nat)(xs:List MA)(w:World)(hok:okG g)(hu:Uniq g.mov)(hf0:okFld g (fldOf tk ls xs))(hz:NilW xs)(hr:GridR w w.heap.size a g)(hf:FldR w w.heap.size A c xs):
 Calls Tryz.prog 43 #[(.agg #[.int .i64 g.blur,.slice a.pS g.sta.length a.cs,.slice a.pM g.mov.length a.cm,.slice a.pZ g.zon.length a.cz]),(.agg #[.int .i64 tk,.int .i64 ls,.slice A xs.length c])] w fun e w'=>∃A' c' ys,e=.returned (.agg #[.int .i64 (tk+1),.int .i64 ls,.slice A' ys.length c'])∧fldOf (tk+1) ls ys=stepG g (fldOf tk ls xs)∧OwnT 107 w' w.heap.size A' c' ys∧(∀y∈ys,∀a,y.A=some a→w.heap.size≤a.block)∧NilW ys∧Below w.heap.size w w':=by
 obtain⟨i0,hi,hz0,hz1,hz2⟩:=info_parts Tryz.infoInt
 have hn:xs.length≤16:=by have:=hf0.n;simpa [fldOf]using this
 have htk0:0≤tk:=hf0.tick0
 have htk1:tk≤20000000:=hf0.tick1
 have hls:1≤ls∧ls≤100:=⟨hf0.lease0,hf0.lease1⟩
 have hm0:∀x∈xs,okMir g x.m:=fun x hx=>hf0.mir x.m (List.mem_map_of_mem hx)
 have hh0:∀x∈xs,0≤x.m.heard∧x.m.heard≤tk:=fun x hx=>hf0.heard x.m (List.mem_map_of_mem hx)
 have hns:=hok.ns
 have htw:IntKind.i64.wrap (tk+1)=tk+1:=IntWalk.i64_in _ (by omega)
 obtain⟨W0,hW0⟩:∃W0,W0=((w.alloc (.cells #[.int .i64 g.blur,.slice a.pS g.sta.length a.cs,.slice a.pM g.mov.length a.cm,.slice a.pZ g.zon.length a.cz] 26)).alloc (.cells #[.int .i64 tk,.int .i64 ls,.slice A xs.length c] 66)).alloc (.cells #[.int .i64 0,.int .i64 0,.slice none 0 0] 66):=⟨_,rfl⟩
 have hB0:Below w.heap.size w W0:=by rw[hW0];(repeat first|(with_reducible first|assumption|exact Below.refl _ _|refine Bl.drew ?_|refine Bl.drewN ?_ _|refine Bl.alloc ?_ _|refine Bl.set ?_ _ ?_)|(with_reducible apply Bl.step';(focus(with_reducible assumption)))|omega|(focus(simp;done))|(focus(simp;omega)))
 have hsz:W0.heap.size=w.heap.size+3:=by rw[hW0];simp
 have k0:W0.heap[w.heap.size]? =some (.cells #[.int .i64 g.blur,.slice a.pS g.sta.length a.cs,.slice a.pM g.mov.length a.cm,.slice a.pZ g.zon.length a.cz] 26 (0,0)):=by rw[hW0];exact heap_fst _ _ _ _
 have k1:W0.heap[w.heap.size+1]? =some (.cells #[.int .i64 tk,.int .i64 ls,.slice A xs.length c] 66 (0,0)):=by rw[hW0];exact heap_mid _ _ _ _
 have k2:W0.heap[w.heap.size+1+1]? =some (.cells #[.int .i64 0,.int .i64 0,.slice none 0 0] 66 (0,0)):=by rw[hW0];exact heap_lst _ _ _ _
 have HB0:=zh hB0
 have HGw:=zh hr
 have HFw:=zh (show ∀W,Below w.heap.size w W→FldR W W.heap.size A c xs from fun W hb=>⟨(hf.rw_.belowB (w0:=w) hb (Nat.le_refl _)).more hb.size,fun x hx=>((hf.each x hx).belowB (w0:=w) hb (Nat.le_refl _)).more hb.size,hf.cap⟩)
 have HM0:=zh hm0
 have HH0:=zh hh0
 have HOK:=zh hok
 have HU:=zh hu
 have K0:=zh k0
 have K1:=zh k1
 have K2:=zh k2
 have HOWN:=zh (fun W (h:Below w.heap.size w W)=>rOwn_c tk ls A c xs W (by omega) (fun x hx=>by have:=(hm0 x hx).len;omega) hz (HFw.out W h))
 (obtain⟨v0,vf0,v1,vf1,v2,vf2⟩:=cv3 k1)
 clear hr hf hz k0 k1 k2 hm0 hh0 hf0 hB0
 go_enter Tryz.func43,Tryz.ntmps43
 go_upto_region 2 with (go_at_call 117;(first|rw[←hW0]|skip);(with_reducible refine Calls.mono (HOWN.out _ HB0.out) ?_);rintro e w1 ⟨A1,c1,ys0,rfl,hm1,ho1,hf1,hn1,hb1⟩)
 obtain⟨b8,hb8⟩:∃b,b=w1.heap.size:=⟨_,rfl⟩
 obtain⟨W1,hW1⟩:∃W,W=w1.alloc (.cells #[.int .i64 tk,.int .i64 ls,.slice A1 ys0.length c1] 66):=⟨_,rfl⟩
 rw[←hb8,←hW1]
 have hb1':Below W0.heap.size W0 w1:=by(first|exact hb1|(rw[hW0];exact hb1))
 have ho1':OwnT 107 w1 W0.heap.size A1 c1 ys0:=by(first|exact ho1|(rw[hW0];exact ho1))
 have hf1':∀y∈ys0,∀a,y.A=some a→W0.heap.size≤a.block:=by(first|exact hf1|(rw[hW0];exact hf1))
 have hB1:Below W0.heap.size W0 W1:=by rw[hW1];exact hb1'.alloc hb1'.size _
 have j8:W1.heap[b8]? =some (.cells #[.int .i64 tk,.int .i64 ls,.slice A1 ys0.length c1] 66 (0,0)):=by rw[hW1,hb8];exact heap_alloc_new w1 _
 have hyl:ys0.length=xs.length:=by simpa using congrArg List.length hm1
 rw[hyl]at j8
 have hz8:W0.heap.size≤b8:=by rw[hb8];exact hb1'.size
 have z0:w.heap.size<W0.heap.size:=by omega
 have z1:w.heap.size+1<W0.heap.size:=by omega
 have z2:w.heap.size+1+1<W0.heap.size:=by omega
 have hA8:∀a,A1=some a→a.block<b8:=fun a ha=>by
  rcases ho1'.row.2 with ⟨hv,_⟩|⟨gg,cap,cur,hv,hgb,hgg,_⟩
  ·rw[ha]at hv;cases hv
  ·rw[ha]at hv
   cases hv
   rw[hb8]
   exact(Array.getElem?_eq_some_iff.1 hgg).1
 have ho2:OwnT 107 W1 W0.heap.size A1 c1 ys0:=by rw[hW1];exact ho1'.below (Below.alloc (Below.refl _ _) (Nat.le_refl _) _)
 have hw8:∀x∈ys0,x.m.way≠ []→∀a,x.A=some a→a.block<b8:=fun x hx hne a ha=>by
  obtain⟨b2,off2,e2,hb2,_⟩:=(ho1'.each x hx).way.at hne
  rw[e2]at ha
  cases ha
  rw[hb8]
  exact hb2
 have ho3:OwnT 107 (W1.setCell ⟨b8,0,none⟩ (.int .i64 (tk+1))) W0.heap.size A1 c1 ys0:=
  ho2.kept (grownBy_setCellO _ _ _ _) (fun d hd e=>by have h1:=hA8 d hd;have h2:=Option.some.inj e;(try simp only at h2);omega) (fun z hz hne a ha e=>by have h1:=hw8 z hz hne a ha;have h2:=Option.some.inj e;(try simp only at h2);omega)
 have y8:b8<W1.heap.size:=blk_lt j8
 have hc1:=(bcell hB1).1
 have y1:w.heap.size+1<W1.heap.size:=Nat.lt_of_lt_of_le z1 hB1.size
 (obtain⟨q0,qf0,q1,qf1,q2,qf2⟩:=cv3 j8)
 have HYL:=zh hyl
 clear hW1 hb8 hW0 hyl
 go_upto_region 3 with fail
 obtain⟨W2,hW2⟩:∃W,W=W1.setCell ⟨b8,0,none⟩ (.int .i64 (tk+1)):=⟨_,rfl⟩
 rw[←hW2]at ho3 ⊢
 have j8':W2.heap[b8]? =some (.cells #[.int .i64 (tk+1),.int .i64 ls,.slice A1 xs.length c1] 66 (0,0)):=by rw[hW2];exact heap_setCell_same W1 b8 0 _ _ _ j8
 have hB2:Below W0.heap.size W0 W2:=by rw[hW2];exact Below.setCell hB1 (p:=⟨b8,0,none⟩) hz8 _
 have HB2:=zh hB2
 have HJ8:=zh j8'
 have HO3:=zh ho3
 have HF3:=zh hf1'
 have HN3:=zh hn1
 have HM3:=zh (show ys0.map MA.m=((xs.map MA.m).take 0).map (stepM g (fldOf tk ls xs))++(xs.map MA.m).drop 0 by simpa using hm1)
 have HA8:=zh (show ∀a,A1=some a→a.block≠b8 from fun a ha e=>by have:=hA8 a ha;omega)
 clear hb1 ho1 hf1 hn1 hm1 hb1' ho1' hf1' hB1 j8 hA8 ho2 hw8 ho3 hc1 q0 q1 q2 qf0 qf1 qf2 hW2 hB2 j8' v0 v1 v2 vf0 vf1 vf2 y8 y1
 go_upto_region 4 with fail
 go_wp2_with fail
 go_loopw [6] (fun i wr=>∃(k:Nat) (ys:List MA),k≤xs.length∧i=.int .i64 k∧ys.length=xs.length∧Hid (ys.map MA.m=((xs.map MA.m).take k).map (stepM g (fldOf tk ls xs))++(xs.map MA.m).drop k)∧Hid (wr.heap[b8]? =some (.cells #[.int .i64 (tk+1),.int .i64 ls,.slice A1 xs.length c1] 66 (0,0)))∧Hid (OwnT 107 wr W0.heap.size A1 c1 ys)∧Hid (∀y∈ys,∀a,y.A=some a→W0.heap.size≤a.block)∧Hid (NilW ys)∧Hid (∀a,A1=some a→a.block≠b8)∧Below W0.heap.size W0 wr) (fun i _=>xs.length-(intOf i).toNat)
 case atStart=>exact⟨0,ys0,Nat.zero_le _,rfl,HYL.out,HM3,HJ8,HO3,HF3,HN3,HA8,HB2.out⟩
 case round=>
  clear HM3 HJ8 HO3 HF3 HN3
  obtain⟨k,ys,hk,rfl,hyl,HMP,HJ8,HO,HF,HN,HA8,hb⟩:=hrel
  have hcw:=(bcell hb).1
  have y0:w.heap.size<wr.heap.size:=Nat.lt_of_lt_of_le z0 hb.size
  have y1:w.heap.size+1<wr.heap.size:=Nat.lt_of_lt_of_le z1 hb.size
  have y2:w.heap.size+1+1<wr.heap.size:=Nat.lt_of_lt_of_le z2 hb.size
  have j8:=HJ8.out
  have y8:b8<wr.heap.size:=blk_lt j8
  (obtain⟨h0,hf0,h1,hf1,h2,hf2⟩:=cv3 j8)
  clear j8
  by_cases hlt:k<xs.length
  ·have hlt':k<ys.length:=by omega
   obtain⟨x,hx⟩:∃x,x=ys[k]:=⟨_,rfl⟩
   have hxm:x∈ys:=by rw[hx];exact List.getElem_mem hlt'
   have hmx:x.m=xs[k].m:=by rw[hx];exact step_at hlt hlt' HMP.out
   have hmo:okMir g x.m:=by rw[hmx];exact HM0.out _ (List.getElem_mem hlt)
   have hhe:0≤x.m.heard∧x.m.heard≤tk:=by rw[hmx];exact HH0.out _ (List.getElem_mem hlt)
   have ho:=HO.out
   rw[←hyl]at h2
   obtain⟨gb,cap,hv,hgb,hgl⟩:=ho.row.form (by omega)
   injection hv with hvA hvl hvc
   subst hvA
   subst hvc
   obtain⟨b,off,ea,hbl,x0,x1,x2,x3,x4,x5⟩:=ho.fld.rw_.get6 (k:=k) (by simpa using hlt') (by rw[List.getElem_map,←hx];rfl)
   cases ea
   simp only[Nat.zero_add]at x0 x1 x2 x3 x4 x5
   have tf0:=ho.row.frozenAt (k*6)
   have tf1:=ho.row.frozenAt (k*6+1)
   have tf2:=ho.row.frozenAt (k*6+2)
   have tf3:=ho.row.frozenAt (k*6+3)
   have tf4:=ho.row.frozenAt (k*6+4)
   have tf5:=ho.row.frozenAt (k*6+5)
   have hmr:=ho.each x hxm
   have hne:=ho.apart x hxm
   have hfx:=HF.out x hxm
   have hnx:=HN.out x hxm
   obtain⟨m,hm⟩:∃m,m=x.m:=⟨_,rfl⟩
   obtain⟨xA,hxA⟩:∃q,q=x.A:=⟨_,rfl⟩
   obtain⟨xc,hxc⟩:∃q,q=x.c:=⟨_,rfl⟩
   rw[←hm]at x0 x1 x2 x3 x4 x5 hmo hhe hmr hne
   rw[←hxA]at x3 hmr hne hfx hnx
   rw[←hxc]at x3 hmr hnx
   have HMX:=zh (hm.trans hmx)
   have ix0:(0:Int)≤(k:Int):=by omega
   have ix1:(k:Int)<(ys.length:Int):=by omega
   have ix6:IntKind.i64.wrap (k:Int)=(k:Int):=IntWalk.i64_in _ (by omega)
   have zg:gb<wr.heap.size:=hgl
   clear hx hxm hmx hm hxA hxc ho
   obtain⟨mb,hmb⟩:∃b,b=wr.heap.size:=⟨_,rfl⟩
   obtain⟨V,hV⟩:∃W,W=wr.alloc (.cells #[.string m.name,.string m.sec,.int .i64 m.loc,.slice xA m.way.length xc,.int .i64 m.left,.int .i64 m.heard] 107):=⟨_,rfl⟩
   have kV:V.heap[mb]? =some (.cells #[.string m.name,.string m.sec,.int .i64 m.loc,.slice xA m.way.length xc,.int .i64 m.left,.int .i64 m.heard] 107 (0,0)):=by rw[hV,hmb];exact heap_alloc_new wr _
   have hbV:Below wr.heap.size wr V:=by rw[hV];exact Below.alloc (Below.refl _ _) (Nat.le_refl _) _
   have hsV:SB W0 wr gb mb m xA xc V:=⟨kV,⟨hmr.way.to hbV,hmr.cap⟩,hbV,by omega,hfx,fun hn a ha=>⟨fun e=>by
    obtain⟨b2,off2,e2,hb2,_⟩:=hmr.way.at hn
    rw[e2]at ha
    cases ha
    simp only at e
    omega,hne hn a ha _ rfl⟩,hnx,blk_lt kV⟩
   have HSB:=zh hsV
   have hbV0:Below W0.heap.size W0 V:=hb.trans (hbV.mono hb.size)
   have HGV:=zh (show ∀W,Below W0.heap.size W0 W→GridR W W.heap.size a g from fun W h=>HGw.out.to (HB0.out.trans (h.mono (by omega))))
   have HOr:=zh HO.out
   have HMO:=zh hmo
   have HXN:=zh hyl
   go_upto_region 7 with fail
   rw[←hmb,←hV]
   have hzg:gb<V.heap.size:=Nat.lt_of_lt_of_le zg hbV.size
   have hzm:mb<V.heap.size:=hsV.lt
   have hz0V:W0.heap.size≤V.heap.size:=hbV0.size
   have hy8:b8<V.heap.size:=Nat.lt_of_lt_of_le y8 hbV.size
   clear hV hmb h0 h1 h2 hf0 hf1 hf2 x0 x1 x2 x3 x4 x5 tf0 tf1 tf2 tf3 tf4 tf5 hmr hne hfx hnx hsV hcw
   obtain⟨kb,hkb⟩:=Int.eq_ofNat_of_zero_le hmo.bound.1
   have hkn:kb<g.sta.length:=by have:=hmo.bound.2;omega
   have kG:=(hbV0.block w.heap.size z0).trans K0.out
   (obtain⟨e0,e1,e2,e3⟩:=cg4 kG)
   obtain⟨bS,offS,eS,hbS,s0,s1,s2,s3⟩:=(HGV.out V hbV0).sta.get4 (k:=kb) (by simpa using hkn) (by rw[List.getElem_map];rfl)
   obtain⟨sk,hs⟩:∃s,s=g.sta[kb].kind:=⟨_,rfl⟩
   rw[←hs]at s1
   have hkd:=zh (show kindG g (boundM m)=sk by unfold kindG;rw[hkb,Int.toNat_natCast,List.getD_eq_getElem?_getD,List.getElem?_eq_getElem hkn,hs];rfl)
   rw[eS]at e1
   have HES:=zh eS
   have hwl:m.way.length≤40:=hmo.len
   have HBN:=zh (fun W (h:MirR W W.heap.size m xA xc)=>rBound_c m xA xc W (by omega) h)
   have hsw:IntKind.i64.wrap (tk+1-m.heard)=tk+1-m.heard:=IntWalk.i64_in _ (by omega)
   have ik0:(0:Int)≤(kb:Int):=by omega
   have ik1:(kb:Int)<(g.sta.length:Int):=by omega
   rw[hkb]at HBN
   have y0V:w.heap.size<V.heap.size:=by omega
   (obtain⟨p0,pf0,p1,pf1,p2,pf2,p3,pf3,p4,pf4,p5,pf5⟩:=cv6 kV)
   have k8:=(hbV.block b8 y8).trans HJ8.out
   (obtain⟨h0,hf0,h1,hf1,h2,hf2⟩:=cv3 k8)
   clear k8
   have HKV:=zh kV
   have HBV:=zh hbV
   have HBV0:=zh hbV0
   have HMV:=zh HSB.out.mir
   clear hs eS kG kV s0 s2 s3 hmo hf0 hf1 hf2 pf0 pf1 pf2 pf3 pf4 pf5
   obtain⟨bb,hbb⟩:∃b,b=(decide (ls<tk+1-m.heard)&&sEq sk kFocus):=⟨_,rfl⟩
   have HBB:=zh hbb
   clear hbb
   go_cut [43] (fun s43 wx=>s43=.bool bb∧Below V.heap.size V wx)
   case first=>
    cases hq1:decide (ls<tk+1-m.heard)
    case false=>
     go_quiet (fail)
     go_wp2_with fail
     go_meet
     exact⟨by rw[HBB.out,hq1];rfl,by exact zbl⟩
    case true=>
     have hq:=sEq_bne sk
     cases hf:sEq sk kFocus
     all_goals
      rw[hf]at hq
      have hq3:(sk.toList== [102,111,99,117,115])=_:=(by have h:=congrArg (fun b=> !b) hq;simpa only[bne,Bool.not_not]using h)
      go_region_held3 (SHd V) ((refine Sh.goal ?_;exact zsh)) (first|(go_at_call 59;(with_reducible refine Calls.mono (HBN.out _ ⟨HMV.out.way.to (by exact zbl),HMV.out.cap⟩) ?_);rintro e w3 ⟨rfl,hb3⟩))
      all_goals
       go_wp2_with fail
       go_meet
       exact⟨by rw[HBB.out,hq1,hf];rfl,by exact zbl⟩
   case rest=>
    obtain⟨rfl,hbx⟩:=hcut
    obtain⟨W7,rfl⟩:∃W,W=wc:=⟨wc,rfl⟩
    have hS:=HSB.out.next hbx
    have hbw:Below wr.heap.size wr W7:=HBV.out.trans (hbx.mono HBV.out.size)
    have hbw0:Below W0.heap.size W0 W7:=hb.trans (hbw.mono hb.size)
    have zgc:gb<W7.heap.size:=Nat.lt_of_lt_of_le hzg hbx.size
    have z0c:W0.heap.size≤W7.heap.size:=hbw0.size
    have zmc:mb<W7.heap.size:=hS.lt
    have y0c:w.heap.size<W7.heap.size:=by omega
    clear h0 h1 h2 p0 p1 p2 p3 p4 p5 e0 e1 e2 e3 s1
    go_upto_if 43 with fail
    go_cut [] (fun wx=>∃m7 A7 c7,SB W0 wr gb mb m7 A7 c7 wx∧okMir g m7∧stepM g (fldOf tk ls xs) m=goneG g m7)
    case first=>
     cases bb
     case false=>
      have HSTEP:=zh (show stepM g (fldOf tk ls xs) m=goneG g m by
       unfold stepM
       rw[hkd.out]
       show goneG g (if(decide (ls<tk+1-m.heard)&&sEq sk kFocus)=true then sentG g m else m)=_
       rw[←HBB.out]
       rfl)
      go_wp2_with fail
      go_meet
      exact⟨m,xA,xc,hS,HMO.out,HSTEP.out⟩
     case true=>
      have hh:=HMO.out.home
      have hhs:=homeG_some hh
      obtain⟨r,hr⟩:=Option.isSome_iff_exists.1 hhs.2.2.1
      obtain⟨m7,hm7⟩:∃m7,ledG g m (homeG g (turnM m))=some m7:=by
       unfold ledG
       rw[hr]
       simp only
       split<;>exact⟨_,rfl⟩
      have HSTEP:=zh (show stepM g (fldOf tk ls xs) m=goneG g m7 by
       unfold stepM
       rw[hkd.out]
       show goneG g (if(decide (ls<tk+1-m.heard)&&sEq sk kFocus)=true then sentG g m else m)=_
       rw[←HBB.out]
       show goneG g (sentG g m)=_
       unfold sentG
       rw[hm7]
       rfl)
      have HMO7:=zh (led_ok HOK.out HU.out HMO.out hm7).1
      have ht:=HMO.out.turn
      obtain⟨kh,hkh⟩:=Int.eq_ofNat_of_zero_le hh
      have hkhn:kh<g.sta.length:=by have:=hhs.2.1;omega
      rw[hkh]at hm7 hr
      have HTU:=zh (fun W (h:MirR W W.heap.size m xA xc)=>rTurn_c m xA xc W h)
      have hHM:=fun W (h:GridR W W.heap.size a g)=>rHome_c a g (turnM m) W HOK.out HU.out ht h
      rw[hkh]at hHM
      have HHM:=zh hHM
      have HLD:=zh (fun W (h:GridR W W.heap.size a g) (h2:MirR W W.heap.size m xA xc)=>rLedS_c a g m xA xc kh W HOK.out HU.out ht hkhn h h2 hr)
      have HM7:=zh hm7
      have HSc:=zh hS
      have kM:=hS.box
      have kG:=(hbw0.block w.heap.size z0).trans K0.out
      clear hHM hr hm7 hhs hh hkh hS
      go_upto_region 8 with fail
      (obtain⟨e0,e1,e2,e3⟩:=cg4 kG)
      have hMIRc:=HSc.out.mir
      have hLD2:∀W,Below W7.heap.size W7 W→Calls Tryz.prog 121 #[(.agg #[.int .i64 g.blur,.slice a.pS g.sta.length a.cs,.slice a.pM g.mov.length a.cm,.slice a.pZ g.zon.length a.cz]),(.agg #[.string m.name,.string m.sec,.int .i64 m.loc,.slice xA m.way.length xc,.int .i64 m.left,.int .i64 m.heard]),.int .i64 kh] W fun e w'=>∃A7 c7,e=.returned (.tuple #[(.agg #[.string m7.name,.string m7.sec,.int .i64 m7.loc,.slice A7 m7.way.length c7,.int .i64 m7.left,.int .i64 m7.heard]),.int .i64 0])∧Below W.heap.size W w'∧(MirR w' w'.heap.size m7 A7 c7∧(∀a,A7=some a→W7.heap.size≤a.block)∧(A7=none→c7=0)):=fun W h=>by
       refine(HLD.out W (HGV.out W (hbw0.trans (h.mono z0c))) ⟨hMIRc.way.to h,hMIRc.cap⟩).mono ?_
       rintro e w' ⟨m2,A7,c7,rfl,hm2,hr7,hf7,hn7,hb6⟩
       obtain rfl:m2=m7:=Option.some.inj (hm2.symm.trans HM7.out)
       exact⟨A7,c7,rfl,hb6,hr7,fun a ha=>Nat.le_trans h.size (hf7 a ha),hn7⟩
      refine stR_r W7 a g m m7 xA xc w.heap.size mb (turnM m) kh (fun A7 c7 W=>MirR W W.heap.size m7 A7 c7∧(∀a,A7=some a→W7.heap.size≤a.block)∧(A7=none→c7=0)) (fun A7 c7 W=>SB W0 wr gb mb m7 A7 c7 W) e0 e1 e2 e3 kM (fun W h=>HTU.out W ⟨hMIRc.way.to h,hMIRc.cap⟩) (fun W h=>HHM.out W (HGV.out W (hbw0.trans (h.mono z0c)))) hLD2 (fun A7 c7 W h hp=>HSc.out.setAll h hp.1 hp.2.1 hp.2.2 z0c zgc) _ _ _ _ _ _ _ _ _ _ _ _ _ _ _ _ _ _ _ _ _ _ _ _ _ _ _ _ _ _ _ _ _ _ _ _ _ _ _ _ _ _ _ _ _ _ _ _ _ _ _ _ _ _ _ _ _ _ _ _ _ _ _ _ _ _ _ _ _ _ _ _ _ _ _ _ _ _ _ _ _ _ _ _ _ _ _ _ _ _ _ _ _ _ _ ?_
      intro v45 v46 v47 v48 v49 v50 v51 v44 v52 v53 wx A7 c7 hs7
      dsimp only
      have HS7:=zh hs7
      clear hs7 hLD2 hMIRc e0 e1 e2 e3 kG kM
      go_wp2_with fail
      go_meet
      exact⟨m7,A7,c7,HS7.out,HMO7.out,HSTEP.out⟩
    case rest=>
     obtain⟨m7,A7,c7,hs7,hok7,hst7⟩:=hcut
     obtain⟨W9,rfl⟩:∃W,W=wc:=⟨wc,rfl⟩
     have HS7:=zh hs7
     have HMO7:=zh hok7
     have HSTEP:=zh hst7
     clear hs7 hok7 hst7 hbx hbw hbw0 zgc z0c zmc y0c hS
     have hS:=HS7.out
     have kM:=hS.box
     (obtain⟨p0,pf0,p1,pf1,p2,pf2,p3,pf3,p4,pf4,p5,pf5⟩:=cv6 kM)
     have zmV:mb<W9.heap.size:=hS.lt
     clear kM
     go_upto_if 57 with fail
     go_cut [] (fun wx=>∃A2 c2,SB W0 wr gb mb (goneG g m7) A2 c2 wx)
     case first=>
      by_cases hw:m7.way= []
      ·have hwl:m7.way.length=0:=by rw[hw];rfl
       have HST2:=zh (show goneG g m7=m7 by unfold goneG;rw[if_pos hw])
       rw[hwl]at p3
       clear hw
       go_wp2_with fail
       go_meet
       exact⟨A7,c7,by rw[HST2.out];exact hS⟩
      ·obtain⟨q,rest,hqr⟩:∃q rest,m7.way=q::rest:=by cases h:m7.way with|nil=>exact absurd h hw|cons q rest=>exact⟨q,rest,rfl⟩
       have hlen:m7.way.length=rest.length+1:=by rw[hqr];rfl
       have hl1:=HMO7.out.left1 hw
       have hch:=chkW_cons.1 (hqr▸HMO7.out.chain)
       have hlk:=lnk_rng HOK.out hch.2.1
       have hqt:turnM m7=q:=by unfold turnM;rw[hqr];rfl
       rw[hqt]at hl1
       have hlw:IntKind.i64.wrap (m7.left-1)=m7.left-1:=IntWalk.i64_in _ (by omega)
       rw[hlen]at p3
       have hgl:(0:Int)<(rest.length:Int)+1:=by omega
       have hcap:rest.length+1≤c7:=by rw[←hlen];exact hS.mir.cap
       have hrl:rest.length≤40:=by have:=HMO7.out.len;omega
       obtain⟨bA,oA,eA,hbA,hcA⟩:=hS.mir.way.at hw
       subst eA
       have HQR:=zh hqr
       have HQT:=zh hqt
       have HW:=zh hw
       clear hw hqr hqt hcA hch
       go_upto_region 11 with fail
       obtain⟨V2,hV2⟩:∃W,W=(W9).setCell ⟨mb,4,none⟩ (.int .i64 (m7.left-1)):=⟨_,rfl⟩
       have hS2:=hS.setLeft (m7.left-1)
       rw[←hV2]at hS2 ⊢
       obtain⟨m3,hm3⟩:∃m3,m3= {m7 with left:=m7.left-1}:=⟨_,rfl⟩
       rw[←hm3]at hS2
       have hlen3:m3.way.length=rest.length+1:=by rw[hm3];exact hlen
       have hway3:m3.way=q::rest:=by rw[hm3];exact HQR.out
       have hleft3:m3.left=m7.left-1:=by rw[hm3]
       have HM3:=zh hm3
       have kM2:=hS2.box
       clear p0 p1 p2 p3 p4 p5 pf0 pf1 pf2 pf3 pf4 pf5 hV2 hS zmV hlen hm3
       (obtain⟨p0,pf0,p1,pf1,p2,pf2,p3,pf3,p4,pf4,p5,pf5⟩:=cv6 kM2)
       rw[hlen3]at p3
       have zmV:mb<V2.heap.size:=hS2.lt
       clear kM2
       by_cases h1:m7.left=1
       ·have hl0:m7.left-1=0:=by omega
        rw[hleft3,hl0]at p4
        obtain⟨bA2,oA2,eA2,hbA2,hcA2⟩:=hS2.mir.way.at (by rw[hway3];simp)
        cases eA2
        have x0:V2.cell? ⟨bA,oA,none⟩=some (.int .i64 q):=by
         have h:=hcA2 0 (by rw[hlen3];omega)
         simp only[hway3,List.getElem_cons_zero,Nat.add_zero]at h
         exact h
        have HL0:=zh hl0
        clear hcA2 hl0 h1 hleft3 hway3
        go_upto_region 13 with fail
        obtain⟨V3,hV3⟩:∃W,W=V2.setCell ⟨mb,2,none⟩ (.int .i64 q):=⟨_,rfl⟩
        have hS3:=hS2.setLoc q
        rw[←hV3]at hS3 ⊢
        obtain⟨m4,hm4⟩:∃m4,m4= {m3 with loc:=q}:=⟨_,rfl⟩
        rw[←hm4]at hS3
        have hlen4:m4.way.length=rest.length+1:=by rw[hm4];exact hlen3
        have hway4:m4.way=q::rest:=by rw[hm4];show m3.way=_;rw[HM3.out];exact HQR.out
        have HM4:=zh (show m4= {m7 with left:=m7.left-1,loc:=q} by rw[hm4,HM3.out])
        have kM3:=hS3.box
        clear p0 p1 p2 p3 p4 p5 pf0 pf1 pf2 pf3 pf4 pf5 hV3 zmV hm4 x0 hlen3 hS2
        (obtain⟨p0,pf0,p1,pf1,p2,pf2,p3,pf3,p4,pf4,p5,pf5⟩:=cv6 kM3)
        rw[hlen4]at p3
        have zmV:mb<V3.heap.size:=hS3.lt
        have hemp:OwnI (V3.alloc (.cells #[] 3)) V3.heap.size (.slice (some ⟨V3.heap.size,0,none⟩) 0 0) []:=⟨by simp,.inr ⟨V3.heap.size,0,#[],rfl,Nat.le_refl _,heap_alloc_new V3 _,Nat.le_refl _,Nat.zero_le _,rfl,rfl⟩⟩
        have HE:=zh hemp
        have HTL:=zh (show IntsR V3 V3.heap.size (some ⟨bA,oA+1,none⟩) rest from by have h:=hS3.mir.way;rw[hway4]at h;exact h.tl_)
        have HS3:=zh hS3
        have hz3g:gb<V3.heap.size:=Nat.lt_of_lt_of_le zg hS3.low.size
        have hz30:W0.heap.size≤V3.heap.size:=Nat.le_trans hb.size hS3.low.size
        have jx:(1:Int)≤(rest.length:Int)+1:=by omega
        have hcapI:(rest.length:Int)+1≤(c7:Int):=by omega
        have x0:=trivial
        clear kM3 hemp hway4 hlen4 hS3
        cases hrt:rest with
        |nil=>
         subst hrt
         simp only[List.length_nil,Nat.zero_add]at p3 hcap jx hcapI
         by_cases hc1:c7=1
         ·subst hc1
          go_upto_region 14 with (at_builtin;refine wpList_append_own _ rfl _ _ 30 rfl V3.heap.size 3 i0 (.int .i64 0) 1 8 Tryz.underlying30 hi hz0 hz1 hz2 rfl (by decide) (.slice (some ⟨V3.heap.size,0,none⟩) 0 0) 0 [] rfl HE.out ⟨bA,oA,none⟩ 0 0 [] rfl (by simp) (by intro j u hj;simp at hj) (by intro u hu;simp at hu) (by unfold maxLen;omega) (by omega) (by simp) ?_)
          intro v6 w6 hown6 hgrow6 _
          have hb6:Below V3.heap.size V3 w6:=Below.grown (Below.alloc (Below.refl _ _) (Nat.le_refl _) _) hgrow6 (by simp) (fun j e=>by cases e;exact Nat.le_refl _)
          have ho6:OwnI w6 V3.heap.size v6 []:=by unfold OwnI;simpa using hown6
          obtain⟨A8,c8,rfl,hc8,hi8,hf8⟩:=ho6.sl
          have hn8:A8=none→c8=0:=fun h=>by
           rcases ho6.2 with ⟨e,_⟩|⟨g,cap,cur,e,_⟩
           ·injection e with _ _ e3
           ·rw[h]at e;cases e
          have kM6:=(hb6.block mb HS3.out.lt).trans HS3.out.box
          obtain⟨m5,hm5⟩:∃m5,m5= {m4 with way:= []}:=⟨_,rfl⟩
          have hS5:SB W0 wr gb mb m5 A8 c8 (w6.setCell ⟨mb,3,none⟩ (.slice A8 (0) c8)):=by rw[hm5];exact HS3.out.setWay hb6 hi8 hc8 (fun a ha=>(hf8 a ha).1) hn8 hz30 hz3g
          have zm6:mb<w6.heap.size:=Nat.lt_of_lt_of_le HS3.out.lt hb6.size
          clear hown6 hgrow6 ho6 p0 p1 p2 p3 p4 p5 pf0 pf1 pf2 pf3 pf4 pf5 x0 zmV
          (obtain⟨p0,pf0,p1,pf1,p2,pf2,p3,pf3,p4,pf4,p5,pf5⟩:=cv6 kM6)
          clear kM6
          go_upto_region 16 with fail
          obtain⟨V5,hV5⟩:∃W,W=w6.setCell ⟨mb,3,none⟩ (.slice A8 0 c8):=⟨_,rfl⟩
          rw[←hV5]at hS5 ⊢
          have HST2:=zh (show goneG g m7=m5 by
           unfold goneG
           rw[if_neg HW.out,if_neg (by rw[HL0.out];decide),HQT.out,HQR.out,hm5,HM4.out]
           rfl)
          have kM5:=hS5.box
          clear p0 p1 p2 p3 p4 p5 pf0 pf1 pf2 pf3 pf4 pf5 hV5 zm6 hi8 hf8 hn8 hb6 hm5
          (obtain⟨p0,pf0,p1,pf1,p2,pf2,p3,pf3,p4,pf4,p5,pf5⟩:=cv6 kM5)
          have zmV:mb<V5.heap.size:=hS5.lt
          clear kM5
          go_wp2_with fail
          go_meet
          exact⟨A8,c8,by rw[HST2.out];exact hS5⟩
         ·have hc2:¬(c7-1=0):=by omega
          go_upto_region 14 with (at_builtin;refine wpList_append_own _ rfl _ _ 30 rfl V3.heap.size 3 i0 (.int .i64 0) 1 8 Tryz.underlying30 hi hz0 hz1 hz2 rfl (by decide) (.slice (some ⟨V3.heap.size,0,none⟩) 0 0) 0 [] rfl HE.out ⟨bA,oA+1,none⟩ 0 (c7-1) [] rfl (by simp) (by intro j u hj;simp at hj) (by intro u hu;simp at hu) (by unfold maxLen;omega) (by omega) (by simp) ?_)
          intro v6 w6 hown6 hgrow6 _
          have hb6:Below V3.heap.size V3 w6:=Below.grown (Below.alloc (Below.refl _ _) (Nat.le_refl _) _) hgrow6 (by simp) (fun j e=>by cases e;exact Nat.le_refl _)
          have ho6:OwnI w6 V3.heap.size v6 []:=by unfold OwnI;simpa using hown6
          obtain⟨A8,c8,rfl,hc8,hi8,hf8⟩:=ho6.sl
          have hn8:A8=none→c8=0:=fun h=>by
           rcases ho6.2 with ⟨e,_⟩|⟨g,cap,cur,e,_⟩
           ·injection e with _ _ e3
           ·rw[h]at e;cases e
          have kM6:=(hb6.block mb HS3.out.lt).trans HS3.out.box
          obtain⟨m5,hm5⟩:∃m5,m5= {m4 with way:= []}:=⟨_,rfl⟩
          have hS5:SB W0 wr gb mb m5 A8 c8 (w6.setCell ⟨mb,3,none⟩ (.slice A8 (0) c8)):=by rw[hm5];exact HS3.out.setWay hb6 hi8 hc8 (fun a ha=>(hf8 a ha).1) hn8 hz30 hz3g
          have zm6:mb<w6.heap.size:=Nat.lt_of_lt_of_le HS3.out.lt hb6.size
          clear hown6 hgrow6 ho6 p0 p1 p2 p3 p4 p5 pf0 pf1 pf2 pf3 pf4 pf5 x0 zmV
          (obtain⟨p0,pf0,p1,pf1,p2,pf2,p3,pf3,p4,pf4,p5,pf5⟩:=cv6 kM6)
          clear kM6
          go_upto_region 16 with fail
          obtain⟨V5,hV5⟩:∃W,W=w6.setCell ⟨mb,3,none⟩ (.slice A8 0 c8):=⟨_,rfl⟩
          rw[←hV5]at hS5 ⊢
          have HST2:=zh (show goneG g m7=m5 by
           unfold goneG
           rw[if_neg HW.out,if_neg (by rw[HL0.out];decide),HQT.out,HQR.out,hm5,HM4.out]
           rfl)
          have kM5:=hS5.box
          clear p0 p1 p2 p3 p4 p5 pf0 pf1 pf2 pf3 pf4 pf5 hV5 zm6 hi8 hf8 hn8 hb6 hm5
          (obtain⟨p0,pf0,p1,pf1,p2,pf2,p3,pf3,p4,pf4,p5,pf5⟩:=cv6 kM5)
          have zmV:mb<V5.heap.size:=hS5.lt
          clear kM5
          go_wp2_with fail
          go_meet
          exact⟨A8,c8,by rw[HST2.out];exact hS5⟩
        |cons q2 rest2=>
         subst hrt
         have hc2:¬(c7-1=0):=by simp only[List.length_cons]at hcap;omega
         have HNC2:=zh (ints_at (ad:=⟨bA,oA+1,none⟩) HTL.out rfl)
         simp only[List.length_cons]at p3 hcap jx hcapI hgl hrl
         go_upto_region 14 with (at_builtin;refine wpList_append_own _ rfl _ _ 30 rfl V3.heap.size 3 i0 (.int .i64 0) 1 8 Tryz.underlying30 hi hz0 hz1 hz2 rfl (by decide) (.slice (some ⟨V3.heap.size,0,none⟩) 0 0) 0 [] rfl ?k0 ⟨bA,oA+1,none⟩ (rest2.length+1) (c7-1) ((q2::rest2).map (Value.int .i64)) rfl ?kl ?k1 ?k2 ?k3 ?k4 ?k5 ?_)
         case k0=>exact HE.out
         (try case kl=>simp)
         case k1=>
          intro j u hj
          have h:=HNC2.out j u hj
          have h2:=(World.cell?_alloc_lt V3 (.cells #[] 3) _ (World.block_lt_of_cell? _ _ h)).trans h
          first|exact h2|(rw[Go.WideShapes.add_plain]at h2;exact h2)
         case k2=>first|(intro u hu;obtain⟨y,_,rfl⟩:=List.mem_map.1 hu;rfl)|exact⟨rfl,fun _ _=>rfl⟩
         case k3=>unfold maxLen;omega
         case k4=>omega
         (try case k5=>simp)
         intro v6 w6 hown6 hgrow6 _
         have hb6:Below V3.heap.size V3 w6:=Below.grown (Below.alloc (Below.refl _ _) (Nat.le_refl _) _) hgrow6 (by simp) (fun j e=>by cases e;exact Nat.le_refl _)
         have ho6:OwnI w6 V3.heap.size v6 (q2::rest2):=by unfold OwnI;simpa using hown6
         obtain⟨A8,c8,rfl,hc8,hi8,hf8⟩:=ho6.sl
         have hn8:A8=none→c8=0:=fun h=>by
          rcases ho6.2 with ⟨e,_⟩|⟨g,cap,cur,e,_⟩
          ·injection e with _ _ e3
          ·rw[h]at e;cases e
         have kM6:=(hb6.block mb HS3.out.lt).trans HS3.out.box
         obtain⟨m5,hm5⟩:∃m5,m5= {m4 with way:=(q2::rest2)}:=⟨_,rfl⟩
         have hS5:SB W0 wr gb mb m5 A8 c8 (w6.setCell ⟨mb,3,none⟩ (.slice A8 (rest2.length+1) c8)):=by rw[hm5];exact HS3.out.setWay hb6 hi8 hc8 (fun a ha=>(hf8 a ha).1) hn8 hz30 hz3g
         have zm6:mb<w6.heap.size:=Nat.lt_of_lt_of_le HS3.out.lt hb6.size
         clear hown6 hgrow6 ho6 p0 p1 p2 p3 p4 p5 pf0 pf1 pf2 pf3 pf4 pf5 x0 zmV
         (obtain⟨p0,pf0,p1,pf1,p2,pf2,p3,pf3,p4,pf4,p5,pf5⟩:=cv6 kM6)
         clear kM6
         go_upto_region 15 with fail
         obtain⟨V5,hV5⟩:∃W,W=w6.setCell ⟨mb,3,none⟩ (.slice A8 (rest2.length+1) c8):=⟨_,rfl⟩
         rw[←hV5]at hS5 ⊢
         have hway5:m5.way=q2::rest2:=by rw[hm5]
         have hlen5:m5.way.length=rest2.length+1:=by rw[hm5];rfl
         have hloc5:m5.loc=q:=by rw[hm5,HM4.out]
         have HM5:=zh hm5
         obtain⟨b3,o3,e3,hb3,hc3⟩:=hS5.mir.way.at (by rw[hway5];simp)
         subst e3
         have x6:V5.cell? ⟨b3,o3,none⟩=some (.int .i64 q2):=by
          have h:=hc3 0 (by rw[hlen5];omega)
          simp only[hway5,List.getElem_cons_zero,Nat.add_zero]at h
          exact h
         have kM5:=hS5.box
         have hlow5:Below W0.heap.size W0 V5:=hb.trans (hS5.low.mono hb.size)
         have kG5:=(hlow5.block w.heap.size z0).trans K0.out
         have y05:w.heap.size<V5.heap.size:=Nat.lt_of_lt_of_le z0 hlow5.size
         clear p0 p1 p2 p3 p4 p5 pf0 pf1 pf2 pf3 pf4 pf5 hV5 zm6 hi8 hf8 hn8 hb6 hm5 hc3 hway5
         (obtain⟨e0,e1,e2,e3⟩:=cg4 kG5)
         (obtain⟨p0,pf0,p1,pf1,p2,pf2,p3,pf3,p4,pf4,p5,pf5⟩:=cv6 kM5)
         rw[hloc5]at p2
         rw[hlen5]at p3
         have zmV:mb<V5.heap.size:=hS5.lt
         have HS5:=zh hS5
         have HK5:=zh kM5
         have HKG5:=zh kG5
         have HLK:=zh (fun W (h:GridR W W.heap.size a g)=>rLinked_c a g q q2 W HOK.out h)
         have ix9:(0:Int)<(rest2.length:Int)+1:=by omega
         clear kM5 kG5 hS5
         go_region_held3 (fun W=>W.cell? ⟨w.heap.size,0,none⟩=some (.int .i64 g.blur)∧W.cell? ⟨w.heap.size,1,none⟩=some (.slice a.pS g.sta.length a.cs)∧W.cell? ⟨w.heap.size,2,none⟩=some (.slice a.pM g.mov.length a.cm)∧W.cell? ⟨w.heap.size,3,none⟩=some (.slice a.pZ g.zon.length a.cz)∧W.cell? ⟨mb,2,none⟩=some (.int .i64 q)∧W.cell? ⟨mb,3,none⟩=some (.slice (some ⟨b3,o3,none⟩) (rest2.length+1) c8)∧W.cell? ⟨b3,o3,none⟩=some (.int .i64 q2)) (refine⟨?_,?_,?_,?_,?_,?_,?_⟩<;>first|assumption|(refine(World.cell?_setCell_other _ _ _ _ (by simp;done)).trans ?_;assumption)|(refine(World.cell?_setCell_other _ _ _ _ (by simp;omega)).trans ?_;assumption)) (first|(go_at_call 113;(with_reducible refine Calls.mono (HLK.out _ (HGV.out _ (by exact zbl))) ?_);rintro e w7 ⟨rfl,hb7⟩;(have k7:=(hb7.block mb zmV).trans HK5.out);(have g7:=(hb7.block w.heap.size y05).trans HKG5.out);(obtain⟨t0,tf0,t1,tf1,t2,tf2,t3,tf3,t4,tf4,t5,tf5⟩:=cv6 k7);(rw[hloc5]at t2);(rw[hlen5]at t3);(obtain⟨u0,u1,u2,u3⟩:=cg4 g7);(have x7:=(hb7.cell (p:=⟨b3,o3,none⟩) hb3).trans x6);(have zm7:mb<w7.heap.size:=Nat.lt_of_lt_of_le zmV hb7.size);(have hne3:¬b3=mb:=fun e=>((HS5.out.ne (by intro h;rw[h]at hlen5;simp at hlen5) _ rfl).1 e));clear k7 g7))
         go_upto_region 16 with fail
         have hb7':Below V5.heap.size V5 w7:=⟨hb7.os,hb7.tape,hb7.output,hb7.size,hb7.block⟩
         have hS6:=(HS5.out.next hb7').setLeft (lnk g q q2)
         obtain⟨V6,hV6⟩:∃W,W=w7.setCell ⟨mb,4,none⟩ (.int .i64 (lnk g q q2)):=⟨_,rfl⟩
         rw[←hV6]at hS6 ⊢
         obtain⟨m6,hm6⟩:∃m6,m6= {m5 with left:=lnk g q q2}:=⟨_,rfl⟩
         rw[←hm6]at hS6
         have HST2:=zh (show goneG g m7=m6 by
          unfold goneG
          rw[if_neg HW.out,if_neg (by rw[HL0.out];decide),HQT.out,HQR.out,hm6,HM5.out,HM4.out]
          rfl)
         have kM6:=hS6.box
         clear p0 p1 p2 p3 p4 p5 pf0 pf1 pf2 pf3 pf4 pf5 t0 t1 t2 t3 t4 t5 tf0 tf1 tf2 tf3 tf4 tf5 u0 u1 u2 u3 e0 e1 e2 e3 hV6 hb7 hb7' x6 x7 hm6 hloc5 hlen5 zmV zm7
         (obtain⟨p0,pf0,p1,pf1,p2,pf2,p3,pf3,p4,pf4,p5,pf5⟩:=cv6 kM6)
         have zmV:mb<V6.heap.size:=hS6.lt
         clear kM6
         go_wp2_with fail
         go_meet
         exact⟨(some ⟨b3,o3,none⟩),c8,by rw[HST2.out];exact hS6⟩
       ·have hl0:¬(m7.left-1=0):=by omega
        have hl0b:((m7.left-1)==0)=false:=by rw[beq_eq_false_iff_ne];omega
        rw[hleft3]at p4
        have HST2:=zh (show goneG g m7=m3 by
         unfold goneG
         rw[if_neg HW.out,if_pos (by omega),HM3.out])
        have HL3:=zh hleft3
        have HLEN3:=zh hlen3
        clear hleft3 hlen3 hway3 h1
        go_wp2_with fail
        go_meet
        exact⟨(some ⟨bA,oA,none⟩),c7,by rw[HST2.out];exact hS2⟩
     case rest=>
      obtain⟨A9,c9,hs9⟩:=hcut
      obtain⟨Wx,rfl⟩:∃W,W=wc:=⟨wc,rfl⟩
      obtain⟨m9,hm9⟩:∃m9,m9=goneG g m7:=⟨_,rfl⟩
      rw[←hm9]at hs9
      have HST9:=zh hm9.symm
      have kM9:=hs9.box
      clear hm9 hS zmV p0 p1 p2 p3 p4 p5 pf0 pf1 pf2 pf3 pf4 pf5
      (obtain⟨p0,pf0,p1,pf1,p2,pf2,p3,pf3,p4,pf4,p5,pf5⟩:=cv6 kM9)
      have zm9:mb<Wx.heap.size:=hs9.lt
      clear kM9
      have k8:=(hs9.low.block b8 y8).trans HJ8.out
      (obtain⟨h0,hf0,h1,hf1,h2,hf2⟩:=cv3 k8)
      clear k8
      have hOx:=HOr.out.below hs9.low
      obtain⟨b6,off6,e6,_,t0,t1,t2,t3,t4,t5⟩:=hOx.fld.rw_.get6 (k:=k) (by simpa using hlt') (by rw[List.getElem_map];rfl)
      cases e6
      simp only[Nat.zero_add]at t0 t1 t2 t3 t4 t5
      have tf0:=hOx.row.frozenAt (k*6)
      have tf1:=hOx.row.frozenAt (k*6+1)
      have tf2:=hOx.row.frozenAt (k*6+2)
      have tf3:=hOx.row.frozenAt (k*6+3)
      have tf4:=hOx.row.frozenAt (k*6+4)
      have tf5:=hOx.row.frozenAt (k*6+5)
      have zgV:gb<Wx.heap.size:=Nat.lt_of_lt_of_le zg hs9.low.size
      have hcl:=hs9.close HOr.out hlt'
      have HCL:=zh hcl
      have HJX:=zh ((hs9.low.block b8 y8).trans HJ8.out)
      have HSY:=zh hs9
      have hne8:b8≠gb:=fun e=>HA8.out _ rfl e.symm
      have hlowX:Below W0.heap.size W0 Wx:=hb.trans (hs9.low.mono hb.size)
      clear hcl hOx
      go_wp2_with fail
      go_roundw
      case rel=>first|exact⟨k+1,ys.set k ⟨m9,A9,c9⟩,by omega,by go_num,by rw[List.length_set];exact HXN.out,zh (step_map hlt HMP.out (by rw[←HMX.out,HSTEP.out,HST9.out])),zh (by rw[heap_setCell_other _ _ _ _ hne8,heap_setCell_other _ _ _ _ hne8,heap_setCell_other _ _ _ _ hne8,heap_setCell_other _ _ _ _ hne8,heap_setCell_other _ _ _ _ hne8,heap_setCell_other _ _ _ _ hne8];exact HJX.out),HCL,zh (set_fresh HF.out HSY.out.fr),zh (set_nilW HN.out HSY.out.nil),HA8,by exact zbl⟩|((repeat apply Exists.intro);refine⟨?_,rfl⟩;exact⟨k+1,ys.set k ⟨m9,A9,c9⟩,by omega,by go_num,by rw[List.length_set];exact HXN.out,zh (step_map hlt HMP.out (by rw[←HMX.out,HSTEP.out,HST9.out])),zh (by rw[heap_setCell_other _ _ _ _ hne8,heap_setCell_other _ _ _ _ hne8,heap_setCell_other _ _ _ _ hne8,heap_setCell_other _ _ _ _ hne8,heap_setCell_other _ _ _ _ hne8,heap_setCell_other _ _ _ _ hne8];exact HJX.out),HCL,zh (set_fresh HF.out HSY.out.fr),zh (set_nilW HN.out HSY.out.nil),HA8,by exact zbl⟩)
      case measure=>simp[intOf];omega
  ·have hkl:k=xs.length:=by omega
   have hfin:fldOf (tk+1) ls ys=stepG g (fldOf tk ls xs):=by
    have h1:=HMP.out
    rw[hkl,show(xs.map MA.m).take xs.length=xs.map MA.m by rw[←List.length_map (f:=MA.m),List.take_length],show(xs.map MA.m).drop xs.length= [] by rw[←List.length_map (f:=MA.m),List.drop_length],List.append_nil]at h1
    unfold fldOf stepG
    rw[h1]
    rfl
   have HFIN:=zh hfin
   have k2:=(hb.block (w.heap.size+1+1) z2).trans K2.out
   have KZ:=zh k2
   (obtain⟨d0,df0,d1,df1,d2,df2⟩:=cv3 k2)
   clear k2 hfin hcw
   go_wp2_with fail
   refine bodyPost_ret (Tryz.rres_fld rfl _ _ rfl (set3_block KZ.out)) rfl ?_
   rw[←hyl]
   exact⟨A1,c1,ys,rfl,HFIN.out,(OwnT.setc (OwnT.setc (OwnT.setc HO.out HF.out _ z2) HF.out _ z2) HF.out _ z2).mono (by omega),fun y hy a ha=>by have:=HF.out y hy a ha;omega,HN.out,Below.set3 (b:=w.heap.size+1+1) (HB0.out.trans (hb.mono (by omega))) (by omega) _ _ _⟩
end Go.Proofs.YtehnikhicnnnhaaGreatDoor
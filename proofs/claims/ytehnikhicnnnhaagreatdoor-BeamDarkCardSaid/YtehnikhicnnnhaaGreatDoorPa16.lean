/- stands, isDark, Lit$1, find, station. | stepped. -/
import Derived.Test.YtehnikhicnnnhaaGreatDoorPa15
namespace Go.Proofs.YtehnikhicnnnhaaGreatDoor
open Go.RowKit
theorem kFo_eq(s:ByteArray):(s.toList== [102,111,99,117,115])=sEq s kFocus:=by
 rw[ByteArray.toList_eq];rfl
theorem sEqL(a b:ByteArray):(a.toList==b.toList)=sEq a b:=by
 rw[ByteArray.toList_eq,ByteArray.toList_eq];rfl
theorem kind_at{g:Grd}{k:Nat}(hk:k<g.sta.length):kindG g (k:Nat)=g.sta[k].kind:=by
 unfold kindG;rw[Int.toNat_natCast,List.getD_eq_getElem?_getD,List.getElem?_eq_getElem hk];rfl
set_option maxHeartbeats 1000000 in
theorem stands_c(a:GA)(g:Grd)(m:Mir)(A:Option Addr)(c:Nat)(w:World)(hok:okG g)(hl:0≤m.loc∧m.loc<g.sta.length)(hr:GridR w w.heap.size a g):
 Calls Tryz.prog 141 #[(.agg #[.int .i64 g.blur,.slice a.pS g.sta.length a.cs,.slice a.pM g.mov.length a.cm,.slice a.pZ g.zon.length a.cz]),(.agg #[.string m.name,.string m.sec,.int .i64 m.loc,.slice A m.way.length c,.int .i64 m.left,.int .i64 m.heard])] w fun e w'=>e=.returned (.bool (standsG g m))∧Below w.heap.size w w':=by
 have hns:=hok.ns
 by_cases hw:m.way= []
 ·obtain⟨k,hk⟩:∃k:Nat,m.loc=k:=⟨m.loc.toNat,by omega⟩
  have hkl:k<g.sta.length:=by omega
  have hwl:m.way.length=0:=by rw[hw];rfl
  obtain⟨b,off,hA,hbl,d0,d1,d2,d3⟩:=hr.sta.get4 (k:=k) (by simpa using hkl) (by rw[List.getElem_map];rfl)
  have hkd:=kind_at hkl
  rw[←hk]at hkd
  rw[←hkd]at d1
  have hst:=zh (show standsG g m= !sEq (kindG g m.loc) kFocus by unfold standsG;rw[decide_eq_true hw];rfl)
  rw[hk,hwl]
  have hkf:=kFo_eq (kindG g m.loc)
  clear hr hw hkd d0 d2 d3
  go_enter Tryz.func141,Tryz.ntmps141
  go_wp2_with fail
  go_ret
  exact⟨ret_bool (by rw[hst.out];simp;rw[hk];exact kFo_eq _),by exact zbl⟩
 ·obtain⟨v,tl,hv⟩:∃v tl,m.way=v::tl:=by
   cases hw2:m.way with
   |nil=>exact absurd hw2 hw
   |cons v tl=>exact⟨v,tl,rfl⟩
  have hwl:m.way.length=tl.length+1:=by rw[hv];rfl
  have hst:=zh (show standsG g m=false by unfold standsG;rw[decide_eq_false hw];rfl)
  clear hw hv hr
  go_enter Tryz.func141,Tryz.ntmps141
  go_wp2_with fail
  go_ret
  exact⟨ret_bool hst.out.symm,by exact zbl⟩
theorem enters_dark1(args:Array Value)(w:World):(callFunc 173 args).run Tryz.prog w=.ok (.enter 173 args) w:=
 enters_of Tryz.func173 (by kernel_rfl) rfl args w
set_option maxHeartbeats 1000000 in
theorem dark1_c(a:GA)(g:Grd)(m:Mir)(A:Option Addr)(c gb:Nat)(w:World)(hok:okG g)(hl:0≤m.loc∧m.loc<g.sta.length)(hr:GridR w w.heap.size a g)
 (g0:w.cell? ⟨gb,0,none⟩=some (.int .i64 g.blur)) (g1:w.cell? ⟨gb,1,none⟩=some (.slice a.pS g.sta.length a.cs)) (g2:w.cell? ⟨gb,2,none⟩=some (.slice a.pM g.mov.length a.cm)) (g3:w.cell? ⟨gb,3,none⟩=some (.slice a.pZ g.zon.length a.cz)):
 Calls Tryz.prog 173 #[(.agg #[.string m.name,.string m.sec,.int .i64 m.loc,.slice A m.way.length c,.int .i64 m.left,.int .i64 m.heard]),.pointer (some ⟨gb,0,none⟩)] w fun e w'=>e=.returned (.bool (!standsG g m))∧Below w.heap.size w w':=by
 have hgb:=World.block_lt_of_cell? w ⟨gb,0,none⟩ g0
 simp only at hgb
 have HG:=zh (hr.sx (Nat.le_refl _) ((Sx.refl w).alloc (.cells #[.string m.name,.string m.sec,.int .i64 m.loc,.slice A m.way.length c,.int .i64 m.left,.int .i64 m.heard] 106)))
 clear hr
 go_enter Tryz.func173,Tryz.ntmps173
 go_wp2_with (go_at_call 141;refine(stands_c a g m A c _ hok hl HG.out).mono ?_;rintro e w1 ⟨rfl,hb1⟩)
 go_ret
 exact⟨rfl,by exact zbl⟩
set_option maxRecDepth 100000 in
set_option maxHeartbeats 1000000 in
theorem isDark_c(a:GA)(g:Grd)(tk ls:Int)(A:Option Addr)(c:Nat)(xs:List MA)(w:World)(hok:okG g)(hl:xs.length≤1000)(hx:∀x∈xs,0≤x.m.loc∧x.m.loc<g.sta.length)(hr:GridR w w.heap.size a g)(hf:FldR w w.heap.size A c xs):
 Calls Tryz.prog 128 #[(.agg #[.int .i64 g.blur,.slice a.pS g.sta.length a.cs,.slice a.pM g.mov.length a.cm,.slice a.pZ g.zon.length a.cz]),(.agg #[.int .i64 tk,.int .i64 ls,.slice A xs.length c])] w fun e w'=>e=.returned (.bool (xs.all fun x=>standsG g x.m))∧Below w.heap.size w w':=by
 obtain⟨W0,hW0⟩:∃W0,W0=(w.alloc (.cells #[.int .i64 g.blur,.slice a.pS g.sta.length a.cs,.slice a.pM g.mov.length a.cm,.slice a.pZ g.zon.length a.cz] 38)).alloc (.cells #[.int .i64 tk,.int .i64 ls,.slice A xs.length c] 72):=⟨_,rfl⟩
 have hsx:Sx w W0:=by rw[hW0];exact((Sx.refl w).alloc _).alloc _
 have HG:=zh (hr.sx (Nat.le_refl _) hsx)
 have hF:=hf.sx (Nat.le_refl _) hsx
 have e0:W0.cell? ⟨w.heap.size,0,none⟩=some (.int .i64 g.blur):=by rw[hW0];simp[World.cell?_alloc_lt,cells_new]
 have e1:W0.cell? ⟨w.heap.size,1,none⟩=some (.slice a.pS g.sta.length a.cs):=by rw[hW0];simp[World.cell?_alloc_lt,cells_new]
 have e2:W0.cell? ⟨w.heap.size,2,none⟩=some (.slice a.pM g.mov.length a.cm):=by rw[hW0];simp[World.cell?_alloc_lt,cells_new]
 have e3:W0.cell? ⟨w.heap.size,3,none⟩=some (.slice a.pZ g.zon.length a.cz):=by rw[hW0];simp[World.cell?_alloc_lt,cells_new]
 have hsz:W0.heap.size=w.heap.size+2:=by rw[hW0];simp
 have hB0:Below w.heap.size w W0:=by rw[hW0];exact zbl
 have HH:=zh (hasMirror_c encMA (fun x=> !standsG g x.m) 173 #[.pointer (some ⟨w.heap.size,0,none⟩)] A xs c W0 hl enters_dark1 hF.rw_ (fun x _=>⟨_,_,_,_,_,_,rfl⟩) (fun x hxm v0 v1 v2 v3 v4 v5 he W hW=>by
  simp only[encMA,List.cons.injEq,and_true]at he
  obtain⟨rfl,rfl,rfl,rfl,rfl,rfl⟩:=he
  have hc:=fun o v (h:W0.cell? ⟨w.heap.size,o,none⟩=some v)=>(hW.cell (p:=⟨w.heap.size,o,none⟩) (by show w.heap.size<_;omega)).trans h
  exact dark1_c a g x.m x.A x.c w.heap.size W hok (hx x hxm) ((HG.out.belowB (w0:=W0) hW (Nat.le_refl _)).more hW.size) (hc _ _ e0) (hc _ _ e1) (hc _ _ e2) (hc _ _ e3)))
 have hR:=zh (show(!(xs.any fun x=> !standsG g x.m))=xs.all fun x=>standsG g x.m by simp[List.all_eq_not_any_not])
 clear hr hf hsx hF hx
 go_enter Tryz.func128,Tryz.ntmps128
 go_wp2_with (rw[←hW0];go_at_call 172;refine HH.out.mono ?_;rintro e w1 ⟨rfl,hb1⟩)
 go_ret
 exact⟨ret_bool hR.out,hB0.trans (hb1.mono (by omega))⟩
theorem enters_find1(args:Array Value)(w:World):(callFunc 184 args).run Tryz.prog w=.ok (.enter 184 args) w:=
 enters_of Tryz.func184 (by kernel_rfl) rfl args w
theorem enters_stat1(args:Array Value)(w:World):(callFunc 203 args).run Tryz.prog w=.ok (.enter 203 args) w:=
 enters_of Tryz.func203 (by kernel_rfl) rfl args w
set_option maxHeartbeats 1000000 in
theorem find1_c(m:Mir)(A:Option Addr)(c nb:Nat)(n:ByteArray)(w:World)(g0:w.cell? ⟨nb,0,none⟩=some (.string n)):
 Calls Tryz.prog 184 #[(.agg #[.string m.name,.string m.sec,.int .i64 m.loc,.slice A m.way.length c,.int .i64 m.left,.int .i64 m.heard]),.pointer (some ⟨nb,0,none⟩)] w fun e w'=>e=.returned (.bool (sEq m.name n))∧Below w.heap.size w w':=by
 have hgb:=World.block_lt_of_cell? w ⟨nb,0,none⟩ g0
 simp only at hgb
 have hq:=sEqL m.name n
 go_enter Tryz.func184,Tryz.ntmps184
 go_wp2_with fail
 go_ret
 exact⟨rfl,by exact zbl⟩
set_option maxHeartbeats 1000000 in
theorem stat1_c(s:Sta)(nb:Nat)(n:ByteArray)(w:World)(g0:w.cell? ⟨nb,0,none⟩=some (.string n)):
 Calls Tryz.prog 203 #[.agg #[.string s.name,.string s.kind,.int .i64 s.x,.int .i64 s.y],.pointer (some ⟨nb,0,none⟩)] w fun e w'=>e=.returned (.bool (sEq s.name n))∧Below w.heap.size w w':=by
 have hgb:=World.block_lt_of_cell? w ⟨nb,0,none⟩ g0
 simp only at hgb
 have hq:=sEqL s.name n
 go_enter Tryz.func203,Tryz.ntmps203
 go_wp2_with fail
 go_ret
 exact⟨rfl,by exact zbl⟩
theorem idxF_map{α β:Type}(f:α→β)(p:β→Bool)(l:List α):idxF (fun x=>p (f x)) l=idxF p (l.map f):=by
 induction l with
 |nil=>rfl
 |cons x l ih=>simp only[idxF,List.map_cons,ih]
set_option maxRecDepth 100000 in
set_option maxHeartbeats 1000000 in
theorem find_c(tk ls:Int)(A:Option Addr)(c:Nat)(xs:List MA)(n:ByteArray)(w:World)(hl:xs.length≤1000)(hf:FldR w w.heap.size A c xs):
 Calls Tryz.prog 140 #[(.agg #[.int .i64 tk,.int .i64 ls,.slice A xs.length c]),.string n] w fun e w'=>e=.returned (.int .i64 (findG (fldOf tk ls xs) n))∧Below w.heap.size w w':=by
 obtain⟨W0,hW0⟩:∃W0,W0=(w.alloc (.cells #[.int .i64 tk,.int .i64 ls,.slice A xs.length c] 72)).alloc (.cells #[.string n] 9):=⟨_,rfl⟩
 have hsx:Sx w W0:=by rw[hW0];exact((Sx.refl w).alloc _).alloc _
 have hF:=hf.sx (Nat.le_refl _) hsx
 have e0:W0.cell? ⟨w.heap.size+1,0,none⟩=some (.string n):=by rw[hW0];simp[cells_new]
 have hsz:W0.heap.size=w.heap.size+2:=by rw[hW0];simp
 have hB0:Below w.heap.size w W0:=by rw[hW0];exact zbl
 have HH:=zh (idxMirror_c encMA (fun x=>sEq x.m.name n) 184 #[.pointer (some ⟨w.heap.size+1,0,none⟩)] A xs c W0 hl enters_find1 hF.rw_ (fun x _=>⟨_,_,_,_,_,_,rfl⟩) (fun x hxm v0 v1 v2 v3 v4 v5 he W hW=>by
  simp only[encMA,List.cons.injEq,and_true]at he
  obtain⟨rfl,rfl,rfl,rfl,rfl,rfl⟩:=he
  exact find1_c x.m x.A x.c (w.heap.size+1) n W ((hW.cell (p:=⟨w.heap.size+1,0,none⟩) (by show w.heap.size+1<_;omega)).trans e0)))
 have hR:=zh (show idxF (fun x:MA=>sEq x.m.name n) xs=findG (fldOf tk ls xs) n from idxF_map MA.m (fun m=>sEq m.name n) xs)
 clear hf hsx hF
 go_enter Tryz.func140,Tryz.ntmps140
 go_wp2_with (rw[←hW0];go_at_call 183;refine HH.out.mono ?_;rintro e w1 ⟨rfl,hb1⟩)
 go_ret
 exact⟨ret_int hR.out,hB0.trans (hb1.mono (by omega))⟩
set_option maxRecDepth 100000 in
set_option maxHeartbeats 1000000 in
theorem stat_c(a:GA)(g:Grd)(n:ByteArray)(w:World)(hok:okG g)(hr:GridR w w.heap.size a g):
 Calls Tryz.prog 164 #[(.agg #[.int .i64 g.blur,.slice a.pS g.sta.length a.cs,.slice a.pM g.mov.length a.cm,.slice a.pZ g.zon.length a.cz]),.string n] w fun e w'=>e=.returned (.int .i64 (statG g n))∧Below w.heap.size w w':=by
 have hns:=hok.ns
 obtain⟨W0,hW0⟩:∃W0,W0=(w.alloc (.cells #[.int .i64 g.blur,.slice a.pS g.sta.length a.cs,.slice a.pM g.mov.length a.cm,.slice a.pZ g.zon.length a.cz] 38)).alloc (.cells #[.string n] 9):=⟨_,rfl⟩
 have hsx:Sx w W0:=by rw[hW0];exact((Sx.refl w).alloc _).alloc _
 have hF:=hr.sx (Nat.le_refl _) hsx
 have e0:W0.cell? ⟨w.heap.size+1,0,none⟩=some (.string n):=by rw[hW0];simp[cells_new]
 have hsz:W0.heap.size=w.heap.size+2:=by rw[hW0];simp
 have hB0:Below w.heap.size w W0:=by rw[hW0];exact zbl
 have HH:=zh (idxSta_c encS (fun x=>sEq x.name n) 203 #[.pointer (some ⟨w.heap.size+1,0,none⟩)] a.pS g.sta a.cs W0 (by omega) enters_stat1 hF.sta (fun x _=>⟨_,_,_,_,rfl⟩) (fun x hxm v0 v1 v2 v3 he W hW=>by
  simp only[encS,List.cons.injEq,and_true]at he
  obtain⟨rfl,rfl,rfl,rfl⟩:=he
  exact stat1_c x (w.heap.size+1) n W ((hW.cell (p:=⟨w.heap.size+1,0,none⟩) (by show w.heap.size+1<_;omega)).trans e0)))
 clear hr hsx hF
 go_enter Tryz.func164,Tryz.ntmps164
 go_wp2_with (rw[←hW0];go_at_call 202;refine HH.out.mono ?_;rintro e w1 ⟨rfl,hb1⟩)
 go_ret
 exact⟨rfl,hB0.trans (hb1.mono (by omega))⟩
theorem enters_stp1(args:Array Value)(w:World):(callFunc 168 args).run Tryz.prog w=.ok (.enter 168 args) w:=
 enters_of Tryz.func168 (by kernel_rfl) rfl args w
set_option maxRecDepth 100000 in
set_option maxHeartbeats 2000000 in
theorem stp1_c(a:GA)(g:Grd)(f:Fld)(m:Mir)(A:Option Addr)(c ob gb sb:Nat)(w:World)(hok:okG g)(hu:Uniq g.mov)(hm:okMir g m)(hr:GridR w w.heap.size a g)(hmr:MirR w w.heap.size m A c)
 (ht0:0≤f.tick) (ht1:f.tick≤20000000) (hh:0≤m.heard∧m.heard≤f.tick)
 (g0:w.cell? ⟨gb,0,none⟩=some (.int .i64 g.blur)) (g1:w.cell? ⟨gb,1,none⟩=some (.slice a.pS g.sta.length a.cs)) (g2:w.cell? ⟨gb,2,none⟩=some (.slice a.pM g.mov.length a.cm)) (g3:w.cell? ⟨gb,3,none⟩=some (.slice a.pZ g.zon.length a.cz))
 (o0:w.cell? ⟨ob,0,none⟩=some (.int .i64 (f.tick+1))) (o1:w.cell? ⟨ob,1,none⟩=some (.int .i64 f.lease)) (s0:w.cell? ⟨sb,0,none⟩=some (.func (.func 139) #[] #[])):
 Calls Tryz.prog 168 #[(.agg #[.string m.name,.string m.sec,.int .i64 m.loc,.slice A m.way.length c,.int .i64 m.left,.int .i64 m.heard]),.pointer (some ⟨ob,0,none⟩),.pointer (some ⟨gb,0,none⟩),.pointer (some ⟨sb,0,none⟩)] w fun e w'=>∃A' c',e=.returned (.agg #[.string (stepM g f m).name,.string (stepM g f m).sec,.int .i64 (stepM g f m).loc,.slice A' (stepM g f m).way.length c',.int .i64 (stepM g f m).left,.int .i64 (stepM g f m).heard])∧MirR w' w'.heap.size (stepM g f m) A' c'∧(A'=A∧(stepM g f m).way=m.way∨∀a,A'=some a→w.heap.size≤a.block)∧Below w.heap.size w w':=by
 have hgl:=World.block_lt_of_cell? w ⟨gb,0,none⟩ g0
 have hol:=World.block_lt_of_cell? w ⟨ob,0,none⟩ o0
 have hsl:=World.block_lt_of_cell? w ⟨sb,0,none⟩ s0
 simp only at hgl hol hsl
 have hbd:=hm.bound
 obtain⟨k,hk⟩:∃k:Nat,boundM m=k:=⟨(boundM m).toNat,by omega⟩
 have hkl:k<g.sta.length:=by omega
 have hns:=hok.ns
 have hl40:=hm.len
 obtain⟨b,off,hA,hbl,d0,d1,d2,d3⟩:=hr.sta.get4 (k:=k) (by simpa using hkl) (by rw[List.getElem_map];rfl)
 have hkd:=kind_at hkl
 rw[←hkd]at d1
 clear d0 d2 d3
 obtain⟨W0,hW0⟩:∃W0,W0=(w.alloc (.cells #[.string m.name,.string m.sec,.int .i64 m.loc,.slice A m.way.length c,.int .i64 m.left,.int .i64 m.heard] 106)).alloc (.cells #[.string ⟨#[]⟩,.string ⟨#[]⟩,.int .i64 0,.slice none 0 0,.int .i64 0,.int .i64 0] 106):=⟨_,rfl⟩
 have hsx:Sx w W0:=by rw[hW0];exact((Sx.refl w).alloc _).alloc _
 have hB0:Below w.heap.size w W0:=by rw[hW0];exact zbl
 have hsz:W0.heap.size=w.heap.size+2:=by rw[hW0];simp
 have k0:W0.heap[w.heap.size]? =some (.cells #[.string m.name,.string m.sec,.int .i64 m.loc,.slice A m.way.length c,.int .i64 m.left,.int .i64 m.heard] 106 (0,0)):=by rw[hW0];exact(Below.heap_alloc _ _ _ (by simp)).trans (heap_alloc_new w _)
 have k1:W0.heap[w.heap.size+1]? =some (.cells #[.string ⟨#[]⟩,.string ⟨#[]⟩,.int .i64 0,.slice none 0 0,.int .i64 0,.int .i64 0] 106 (0,0)):=by
  rw[hW0]
  have:=heap_alloc_new (w.alloc (.cells #[.string m.name,.string m.sec,.int .i64 m.loc,.slice A m.way.length c,.int .i64 m.left,.int .i64 m.heard] 106)) (.cells #[.string ⟨#[]⟩,.string ⟨#[]⟩,.int .i64 0,.slice none 0 0,.int .i64 0,.int .i64 0] 106)
  rwa [World.size_alloc]at this
 have HM0:=zh hmr
 have HG0:=zh hr
 have HMW:=zh (hmr.sx (Nat.le_refl _) hsx)
 have g0':=hsx.at g0
 have g1':=hsx.at g1
 have g2':=hsx.at g2
 have g3':=hsx.at g3
 have o0':=hsx.at o0
 have o1':=hsx.at o1
 have s0':=hsx.at s0
 have d1':=hsx.at d1
 (obtain⟨c0,cf0,c1,cf1,c2,cf2,c3,cf3,c4,cf4,c5,cf5⟩:=cv6 k0)
 have HK0:=zh k0
 have HK1:=zh k1
 have HSZ:=zh hsz
 have HSX:=zh hsx
 have ql0:w.heap.size<W0.heap.size:=by omega
 have ql1:w.heap.size+1<W0.heap.size:=by omega
 have ql2:gb<W0.heap.size:=by omega
 have ql3:ob<W0.heap.size:=by omega
 have ql4:sb<W0.heap.size:=by omega
 have ql5:b<W0.heap.size:=by omega
 have hkf:=kFo_eq (kindG g (boundM m))
 rw[hk]at hkf
 have HKB:=zh hk
 have hsub:IntKind.i64.wrap (f.tick+1-m.heard)=f.tick+1-m.heard:=IntWalk.i64_in _ (by omega)
 obtain⟨cnd,hcnd⟩:∃cnd,cnd=(decide (f.lease<f.tick+1-m.heard)&&sEq (kindG g (boundM m)) kFocus):=⟨_,rfl⟩
 have HCD:=zh hcnd
 clear hmr hr k0 k1 g0 g1 g2 g3 o0 o1 s0 d1 hkd hbd hcnd hsx
 go_enter Tryz.func168,Tryz.ntmps168
 go_wp2_with fail
 rw[←hW0]
 clear hW0 hsz
 go_cut [23] (fun s wx=>s=.bool cnd∧Sh W0 wx∧Below W0.heap.size W0 wx)
 case first=>
  by_cases hls:f.lease<f.tick+1-m.heard
  ·have hls':decide (f.lease<f.tick+1-m.heard)=true:=decide_eq_true hls
   have hcc:cnd=sEq (kindG g k) kFocus:=by rw[HCD.out,hls',HKB.out];rfl
   have HCC:=zh hcc
   clear hcc hls
   go_region_held3 (SHd W0) ((refine Sh.goal ?_;exact zsh)) (first|(go_at_call 169;refine(bound_c m A c _ (by omega) (HMW.out.sx (Nat.le_refl _) (Sh.sx (by exact zsh)))).mono ?_;rintro e w1 ⟨rfl,hb1⟩;rw[HKB.out]))
   all_goals
    go_wp2_with fail
    go_meet
    exact⟨by rw[HCC.out],by exact zsh,by exact zbl⟩
  ·have hls':decide (f.lease<f.tick+1-m.heard)=false:=decide_eq_false hls
   have hcc:cnd=false:=by rw[HCD.out,hls'];rfl
   clear hls
   go_quiet (fail)
   go_wp2_with fail
   go_meet
   exact⟨by rw[hcc],Sh.refl W0,by exact zbl⟩
 case rest=>
  obtain⟨rfl,hsh,hbw⟩:=hcut
  have j0:=(hsh.2.2 w.heap.size ql0).trans HK0.out
  have j1:=(hsh.2.2 (w.heap.size+1) ql1).trans HK1.out
  have e0:=hsh.sx.at g0'
  have e1:=hsh.sx.at g1'
  have e2:=hsh.sx.at g2'
  have e3:=hsh.sx.at g3'
  have e4:=hsh.sx.at s0'
  have hws:=hsh.1
  have HMC:=zh (HMW.out.sx (Nat.le_refl _) hsh.sx)
  have hbc:Below w.heap.size w wc:=hB0.trans (hbw.mono (by omega))
  (obtain⟨q0,qf0,q1,qf1,q2,qf2,q3,qf3,q4,qf4,q5,qf5⟩:=cv6 j0)
  have HJ0:=zh j0
  have HJ1:=zh j1
  have HSH:=zh hsh
  have l0:w.heap.size<wc.heap.size:=by omega
  have l1:w.heap.size+1<wc.heap.size:=by omega
  have l2:gb<wc.heap.size:=by omega
  have n0:¬(gb=w.heap.size):=by omega
  have n1:¬(w.heap.size=gb):=by omega
  clear g0' g1' g2' g3' o0' o1' s0' d1' c0 c1 c2 c3 c4 c5 cf0 cf1 cf2 cf3 cf4 cf5 j0 j1 hkf hsub hsh hA
  cases cnd with
  |false=>
   have hstm:=zh (show stepM g f m=goneG g m by unfold stepM;rw[←HCD.out];rfl)
   have hbW:=hbc
   have hlW1:=l1
   have HMX:=HMC
   go_wp2_with (go_at_call 170;refine(gone_c a g m A c _ hok hm ((HG0.out.belowB (w0:=w) hbW (Nat.le_refl _)).more hbW.size) HMX.out).mono ?_;rintro e w4 ⟨A4,c4,rfl,hr4,hf4,hb4⟩;(have HR4:=zh hr4);(have HF4:=zh hf4);clear hr4 hf4;(have j1:=(hb4.block (w.heap.size+1) hlW1).trans HJ1.out);(obtain⟨d0,df0,d1,df1,d2,df2,d3,df3,d4,df4,d5,df5⟩:=cv6 j1);(have HK4:=zh j1);clear j1)
   refine bodyPost_ret (Tryz.res_mir rfl _ _ rfl (set6_block HK4.out)) rfl ?_
   rw[hstm.out]
   refine⟨A4,c4,rfl,⟨Rw.more (IntsR.set6n HR4.out.way (fun hne a ha e=>?_) _ _ _ _ _ _) (by simp),HR4.out.cap⟩,?_,Below.set6 (hbW.trans (hb4.mono (Nat.le_trans (Nat.le_succ _) (Nat.le_of_lt hlW1)))) (by omega) _ _ _ _ _ _⟩
   ·rcases HF4.out with ⟨h1,h2⟩|h1
    ·rcases(show(A=A∧m.way=m.way)∨∀a,A=some a→W0.heap.size≤a.block from .inl ⟨rfl,rfl⟩)with ⟨h3,h4⟩|h3
     ·obtain⟨b',off',e',hb',_⟩:=HM0.out.way.at (by rw[←h4,←h2];exact hne)
      rw[h1,h3,e']at ha
      cases ha
      simp only at e
      omega
     ·have:=h3 a (by rw[←h1];exact ha)
      have:=HSZ.out
      omega
    ·have:=h1 a ha
     omega
   ·rcases HF4.out with ⟨h1,h2⟩|h1
    ·rcases(show(A=A∧m.way=m.way)∨∀a,A=some a→W0.heap.size≤a.block from .inl ⟨rfl,rfl⟩)with ⟨h3,h4⟩|h3
     ·exact .inl ⟨h1.trans h3,h2.trans h4⟩
     ·exact .inr fun a ha=>by have:=h3 a (by rw[←h1];exact ha);have:=HSZ.out;omega
    ·exact .inr fun a ha=>by have:=h1 a ha;omega
  |true=>
   have hstm:=zh (show stepM g f m=goneG g (sentG g m) by unfold stepM;rw[←HCD.out];rfl)
   obtain⟨sm,hsm⟩:∃sm,sm=sentG g m:=⟨_,rfl⟩
   have hsok:okMir g sm:=by rw[hsm];exact sent_ok hok hu hm
   have HSM:=zh hsm
   clear hsm
   go_wp2_with (refine(sent_c a g m A c _ hok hu hm ((HG0.out.belowB (w0:=w) hbc (Nat.le_refl _)).more hbc.size) HMC.out).mono ?_;rintro e w3 ⟨A3,c3,rfl,hr3,hf3,hb3⟩;rw[←HSM.out]at hr3 hf3;rw[←HSM.out];(have HR3:=zh hr3);(have HF3:=zh hf3);clear hr3 hf3;(have j0:=(hb3.block w.heap.size l0).trans HJ0.out);(obtain⟨q0,qf0,q1,qf1,q2,qf2,q3,qf3,q4,qf4,q5,qf5⟩:=cv6 j0);(have i0:=(hb3.cell (p:=⟨gb,0,none⟩) l2).trans e0);(have i1:=(hb3.cell (p:=⟨gb,1,none⟩) l2).trans e1);(have i2:=(hb3.cell (p:=⟨gb,2,none⟩) l2).trans e2);(have i3:=(hb3.cell (p:=⟨gb,3,none⟩) l2).trans e3);(have HJ3:=zh j0);clear j0)
   obtain⟨W5,hW5⟩:∃W5,W5=(((((w3.setCell ⟨w.heap.size,0,none⟩ (.string sm.name)).setCell ⟨w.heap.size,1,none⟩ (.string sm.sec)).setCell ⟨w.heap.size,2,none⟩ (.int .i64 sm.loc)).setCell ⟨w.heap.size,3,none⟩ (.slice A3 sm.way.length c3)).setCell ⟨w.heap.size,4,none⟩ (.int .i64 sm.left)).setCell ⟨w.heap.size,5,none⟩ (.int .i64 sm.heard):=⟨_,rfl⟩
   rw[←hW5]
   have hbw3:Below w.heap.size w w3:=hbc.trans (hb3.mono (Nat.le_of_lt l0))
   have hbW:Below w.heap.size w W5:=by rw[hW5];exact Below.set6 hbw3 (Nat.le_refl _) _ _ _ _ _ _
   have hz5:W5.heap.size=w3.heap.size:=by rw[hW5];simp
   have hlW1:w.heap.size+1<W5.heap.size:=by have:=hb3.size;omega
   have HJ5:=zh (show W5.heap[w.heap.size+1]? =some (.cells #[.string ⟨#[]⟩,.string ⟨#[]⟩,.int .i64 0,.slice none 0 0,.int .i64 0,.int .i64 0] 106 (0,0)) by
    rw[hW5]
    have e:∀(W:World) (o:Nat) (v:Value),(W.setCell ⟨w.heap.size,o,none⟩ v).heap[w.heap.size+1]? =W.heap[w.heap.size+1]? :=fun W o v=>heap_setCell_other W _ _ _ (by simp)
    rw[e,e,e,e,e,e]
    exact(hb3.block (w.heap.size+1) l1).trans HJ1.out)
   have HMX:=zh (show MirR W5 W5.heap.size sm A3 c3 by
    rw[hW5]
    refine⟨Rw.more (IntsR.set6n HR3.out.way (fun hne a ha e=>?_) _ _ _ _ _ _) (by simp),HR3.out.cap⟩
    rcases HF3.out with ⟨h1,h2⟩|h1
    ·obtain⟨b',off',e',hb',_⟩:=HM0.out.way.at (by rw[←h2];exact hne)
     rw[h1,e']at ha
     cases ha
     simp only at e
     omega
    ·have:=h1 a ha
     omega)
   rw[←HSM.out]at hstm
   clear hW5 q0 q1 q2 q3 q4 q5 qf0 qf1 qf2 qf3 qf4 qf5 i0 i1 i2 i3 e0 e1 e2 e3 e4
   go_wp2_with (go_at_call 170;refine(gone_c a g sm A3 c3 _ hok hsok ((HG0.out.belowB (w0:=w) hbW (Nat.le_refl _)).more hbW.size) HMX.out).mono ?_;rintro e w4 ⟨A4,c4,rfl,hr4,hf4,hb4⟩;(have HR4:=zh hr4);(have HF4:=zh hf4);clear hr4 hf4;(have j1:=(hb4.block (w.heap.size+1) hlW1).trans HJ5.out);(obtain⟨d0,df0,d1,df1,d2,df2,d3,df3,d4,df4,d5,df5⟩:=cv6 j1);(have HK4:=zh j1);clear j1)
   refine bodyPost_ret (Tryz.res_mir rfl _ _ rfl (set6_block HK4.out)) rfl ?_
   rw[hstm.out]
   refine⟨A4,c4,rfl,⟨Rw.more (IntsR.set6n HR4.out.way (fun hne a ha e=>?_) _ _ _ _ _ _) (by simp),HR4.out.cap⟩,?_,Below.set6 (hbW.trans (hb4.mono (Nat.le_trans (Nat.le_succ _) (Nat.le_of_lt hlW1)))) (by omega) _ _ _ _ _ _⟩
   ·rcases HF4.out with ⟨h1,h2⟩|h1
    ·rcases(HF3.out.imp id (fun h a ha=>Nat.le_trans hws (h a ha)):(A3=A∧sm.way=m.way)∨∀a,A3=some a→W0.heap.size≤a.block)with ⟨h3,h4⟩|h3
     ·obtain⟨b',off',e',hb',_⟩:=HM0.out.way.at (by rw[←h4,←h2];exact hne)
      rw[h1,h3,e']at ha
      cases ha
      simp only at e
      omega
     ·have:=h3 a (by rw[←h1];exact ha)
      have:=HSZ.out
      omega
    ·have:=h1 a ha
     omega
   ·rcases HF4.out with ⟨h1,h2⟩|h1
    ·rcases(HF3.out.imp id (fun h a ha=>Nat.le_trans hws (h a ha)):(A3=A∧sm.way=m.way)∨∀a,A3=some a→W0.heap.size≤a.block)with ⟨h3,h4⟩|h3
     ·exact .inl ⟨h1.trans h3,h2.trans h4⟩
     ·exact .inr fun a ha=>by have:=h3 a (by rw[←h1];exact ha);have:=HSZ.out;omega
    ·exact .inr fun a ha=>by have:=h1 a ha;omega
end Go.Proofs.YtehnikhicnnnhaaGreatDoor
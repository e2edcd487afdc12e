/- The reference's CheckField: the region that looks at the steps left, where it asks for the move. -/
import Derived.Test.YtehnikhicnnnhaaGreatDoorPa35
namespace Go.Proofs.YtehnikhicnnnhaaGreatDoor
open Go.RowKit Go.Shelf
noncomputable def cfr_c:Code:=(findZ 28 (Tryz.f41.body.getD .skip)).getD .skip
def cfr_v(a:GA)(g:Grd)(n:Nat)(c:Nat)(_bG:Nat)(mb:Nat)(bA:Nat)(oA:Nat)(loc:Int)(left:Int)(q:Int)(LK:Int):Nat→Value
 |0=>.pointer (some ⟨mb,3,none⟩)
 |1=>.slice (some ⟨bA,oA,none⟩) n c
 |2=>.int .i64 (n:Int)
 |3=>.bool false
 |4=>.bool false
 |5=>.bool false
 |6=>.bool false
 |7=>.bool false
 |8=>.bool false
 |9=>.bool false
 |10=>.pointer (some ⟨mb,3,none⟩)
 |11=>.slice (some ⟨bA,oA,none⟩) n c
 |12=>.int .i64 (n:Int)
 |13=>.bool true
 |14=>.bool true
 |15=>.pointer (some ⟨mb,4,none⟩)
 |16=>.int .i64 left
 |17=>.bool false
 |18=>.bool false
 |19=>.pointer (some ⟨mb,4,none⟩)
 |20=>.int .i64 left
 |21=>.agg #[.int .i64 g.blur,.slice a.pS g.sta.length a.cs,.slice a.pM g.mov.length a.cm,.slice a.pZ g.zon.length a.cz]
 |22=>.pointer (some ⟨mb,2,none⟩)
 |23=>.int .i64 loc
 |24=>.pointer (some ⟨mb,3,none⟩)
 |25=>.slice (some ⟨bA,oA,none⟩) n c
 |26=>.pointer (some ⟨bA,oA,none⟩)
 |27=>.int .i64 q
 |28=>.int .i64 LK
 |29=>.bool (decide (LK<left))
 |30=>.bool (decide (LK<left))
 |31=>.bool (decide (LK<left))
 |32=>.bool (decide (LK<left))
 |_=>.bool false
def cfr_s(i:Nat):Bool:= !(i==5)&& !(i==6)&& !(i==7)
set_option maxRecDepth 100000 in
set_option maxHeartbeats 16000000 in
theorem cfr_r(X:World)(a:GA)(g:Grd)(n c bG mb bA oA:Nat)(loc left q LK:Int)(hG0:X.cell? ⟨bG,0,none⟩=some (.int .i64 g.blur))(hG1:X.cell? ⟨bG,1,none⟩=some (.slice a.pS g.sta.length a.cs))(hG2:X.cell? ⟨bG,2,none⟩=some (.slice a.pM g.mov.length a.cm))(hG3:X.cell? ⟨bG,3,none⟩=some (.slice a.pZ g.zon.length a.cz))(hM2:X.cell? ⟨mb,2,none⟩=some (.int .i64 loc))(hM3:X.cell? ⟨mb,3,none⟩=some (.slice (some ⟨bA,oA,none⟩) n c))(hM4:X.cell? ⟨mb,4,none⟩=some (.int .i64 left))(hQ:X.cell? ⟨bA,oA,none⟩=some (.int .i64 q))(hn0:((n:Int)==0)=false)(hn1:decide ((0:Int)<(n:Int))=true)(hn2:(0:Int)<(n:Int))(hn3:0<n)(hl1:decide (left<1)=false)(hLk:∀W,Below X.heap.size X W→Calls Tryz.prog 113 #[.agg #[.int .i64 g.blur,.slice a.pS g.sta.length a.cs,.slice a.pM g.mov.length a.cm,.slice a.pZ g.zon.length a.cz],.int .i64 loc,.int .i64 q] W fun e w'=>e=.returned (.int .i64 LK)∧Below W.heap.size W w')
 (u0 u1 u3 u4 u5 u6 u8 u9 u10 u11 u12 u13 u14 u15 u16 u17 u18 u19 u20 u21 u22 u23 u24 u25 u26 u27 u28 u29 u30 u31 u32 u33 u34 u35 u36 u37 u38 u39 u40 u41 u42 u43 u44 u45 u46 u47 u48 u49 u50 u51 u52 u53 u54 u55 u56 u57 u58 u59 u60 u61 u62 u63 u64 u65 u66 u67 u68 u69 u70 u71 u72 u73 u74 u75 u76 u77 u78 u79 u80 u81 u82 u83 u84 u85 u86 u87 u88 u89 u90 u91 u92 u93 u94 u95 u96 u97 u98 u99 u100 u101 u102 u103 u104 u105 u106 u107 u108 u109 u110 u111 u112 u113 u114 u115 u116 u117 u118 u119 u120 u121 u122 u123 u124 u125 u126 u127 u128 u129 u130 u131 u132 u133 u134 u135 u136 u137 u138 u139 u140 u141 u142 u143 u144 u145 u146:Value) (K:Act→World→Prop) (Q:Exit→Act→World→Prop)
 (hK:∀(v101 v102 v103 v104 v105 v106 v107 v108 v109 v110 v111 v112 v113 v114 v115 v116 v117 v118 v119 v120 v121 v122 v123 v124 v125 v126 v127 v128 v129 v130 v131 v132:Value) (wx:World),Below X.heap.size X wx→K {tmps:= #[u0,u1,.pointer (some ⟨bG,0,none⟩),u3,u4,u5,u6,.pointer (some ⟨mb,0,none⟩),u8,u9,u10,u11,u12,u13,u14,u15,u16,u17,u18,u19,u20,u21,u22,u23,u24,u25,u26,u27,u28,u29,u30,u31,u32,u33,u34,u35,u36,u37,u38,u39,u40,u41,u42,u43,u44,u45,u46,u47,u48,u49,u50,u51,u52,u53,u54,u55,u56,u57,u58,u59,u60,u61,u62,u63,u64,u65,u66,u67,u68,u69,u70,u71,u72,u73,u74,u75,u76,u77,u78,u79,u80,u81,u82,u83,u84,u85,u86,u87,u88,u89,u90,u91,u92,u93,u94,u95,u96,u97,u98,u99,u100,v101,v102,v103,v104,v105,v106,v107,v108,v109,v110,v111,v112,v113,v114,v115,v116,v117,v118,v119,v120,v121,v122,v123,v124,v125,v126,v127,v128,v129,v130,v131,v132,.bool (decide (LK<left)),u134,u135,u136,u137,u138,u139,u140,u141,u142,u143,u144,u145,u146],defers:= []} wx):
 Code.wp Tryz.prog cfr_c (Exit.then K Q) {tmps:= #[u0,u1,.pointer (some ⟨bG,0,none⟩),u3,u4,u5,u6,.pointer (some ⟨mb,0,none⟩),u8,u9,u10,u11,u12,u13,u14,u15,u16,u17,u18,u19,u20,u21,u22,u23,u24,u25,u26,u27,u28,u29,u30,u31,u32,u33,u34,u35,u36,u37,u38,u39,u40,u41,u42,u43,u44,u45,u46,u47,u48,u49,u50,u51,u52,u53,u54,u55,u56,u57,u58,u59,u60,u61,u62,u63,u64,u65,u66,u67,u68,u69,u70,u71,u72,u73,u74,u75,u76,u77,u78,u79,u80,u81,u82,u83,u84,u85,u86,u87,u88,u89,u90,u91,u92,u93,u94,u95,u96,u97,u98,u99,u100,u101,u102,u103,u104,u105,u106,u107,u108,u109,u110,u111,u112,u113,u114,u115,u116,u117,u118,u119,u120,u121,u122,u123,u124,u125,u126,u127,u128,u129,u130,u131,u132,u133,u134,u135,u136,u137,u138,u139,u140,u141,u142,u143,u144,u145,u146],defers:= []} X:=by
 have yG:bG<X.heap.size:=World.block_lt_of_cell? X ⟨bG,0,none⟩ hG0
 have yM:mb<X.heap.size:=World.block_lt_of_cell? X ⟨mb,2,none⟩ hM2
 have yA:bA<X.heap.size:=World.block_lt_of_cell? X ⟨bA,oA,none⟩ hQ
 have hmo:Tryz.prog.follows .mixedOrders=true:=by kernel_rfl
 have HK:=zh hK
 clear hK
 conv=>arg 2;whnf
 refine(wpIn_wide (n:=3)).1 ?_
 refine wpIn_region_inv2 hmo (fun L a' w'=>∃s:Nat→Value,RC X (cfr_v a g n c bG mb bA oA loc left q LK) cfr_s L s w'∧a'= {tmps:= #[u0,u1,.pointer (some ⟨bG,0,none⟩),u3,u4,u5,u6,.pointer (some ⟨mb,0,none⟩),u8,u9,u10,u11,u12,u13,u14,u15,u16,u17,u18,u19,u20,u21,u22,u23,u24,u25,u26,u27,u28,u29,u30,u31,u32,u33,u34,u35,u36,u37,u38,u39,u40,u41,u42,u43,u44,u45,u46,u47,u48,u49,u50,u51,u52,u53,u54,u55,u56,u57,u58,u59,u60,u61,u62,u63,u64,u65,u66,u67,u68,u69,u70,u71,u72,u73,u74,u75,u76,u77,u78,u79,u80,u81,u82,u83,u84,u85,u86,u87,u88,u89,u90,u91,u92,u93,u94,u95,u96,u97,u98,u99,u100,s 0,s 1,s 2,s 3,s 4,s 5,s 6,s 7,s 8,s 9,s 10,s 11,s 12,s 13,s 14,s 15,s 16,s 17,s 18,s 19,s 20,s 21,s 22,s 23,s 24,s 25,s 26,s 27,s 28,s 29,s 30,s 31,s 32,u134,u135,u136,u137,u138,u139,u140,u141,u142,u143,u144,u145,u146],defers:= []}) ?acyc ?h0 ?step ?fin
 case acyc=>
  intro i o ho
  have hi:i<33:=by have:=(Array.getElem?_eq_some_iff.1 ho).1;simpa using this
  rcases(show i=0∨i=1∨i=2∨i=3∨i=4∨i=5∨i=6∨i=7∨i=8∨i=9∨i=10∨i=11∨i=12∨i=13∨i=14∨i=15∨i=16∨i=17∨i=18∨i=19∨i=20∨i=21∨i=22∨i=23∨i=24∨i=25∨i=26∨i=27∨i=28∨i=29∨i=30∨i=31∨i=32 by omega)with rfl|rfl|rfl|rfl|rfl|rfl|rfl|rfl|rfl|rfl|rfl|rfl|rfl|rfl|rfl|rfl|rfl|rfl|rfl|rfl|rfl|rfl|rfl|rfl|rfl|rfl|rfl|rfl|rfl|rfl|rfl|rfl|rfl<;>(simp at ho;subst ho;simp)
 case h0=>exact⟨fun i=>match i with|0=>u101|1=>u102|2=>u103|3=>u104|4=>u105|5=>u106|6=>u107|7=>u108|8=>u109|9=>u110|10=>u111|11=>u112|12=>u113|13=>u114|14=>u115|15=>u116|16=>u117|17=>u118|18=>u119|19=>u120|20=>u121|21=>u122|22=>u123|23=>u124|24=>u125|25=>u126|26=>u127|27=>u128|28=>u129|29=>u130|30=>u131|31=>u132|32=>u133|_=>.bool false,⟨by exact zbl,fun _ _ h=>(by cases h)⟩,rfl⟩
 case step=>
  intro i o ho L a' w' hI hLi hcl he K' hK
  obtain⟨s,hf,rfl⟩:=hI
  have hi:i<33:=by have:=(Array.getElem?_eq_some_iff.1 ho).1;simpa using this
  rcases(show i=0∨i=1∨i=2∨i=3∨i=4∨i=5∨i=6∨i=7∨i=8∨i=9∨i=10∨i=11∨i=12∨i=13∨i=14∨i=15∨i=16∨i=17∨i=18∨i=19∨i=20∨i=21∨i=22∨i=23∨i=24∨i=25∨i=26∨i=27∨i=28∨i=29∨i=30∨i=31∨i=32 by omega)with rfl|rfl|rfl|rfl|rfl|rfl|rfl|rfl|rfl|rfl|rfl|rfl|rfl|rfl|rfl|rfl|rfl|rfl|rfl|rfl|rfl|rfl|rfl|rfl|rfl|rfl|rfl|rfl|rfl|rfl|rfl|rfl|rfl
  ·simp at ho
   subst ho
   simp[Region.binds]at he
   simp[wpOpIn,Region.wanted]
   go_simp
   refine hK _ _ ⟨updS s 0 (.pointer (some ⟨mb,3,none⟩)),hf.const 0 rfl,?_⟩
   simp[updS]
  ·simp at ho
   subst ho
   simp[Region.binds]at he
   have e0:s 0=.pointer (some ⟨mb,3,none⟩):=hf.k 0 rfl (by simp[he])
   simp[wpOpIn,Region.wanted]
   have hcx:=(hf.low.cell (p:=⟨mb,3,none⟩) yM).trans hM3
   go_simp
   refine hK _ _ ⟨updS s 1 (.slice (some ⟨bA,oA,none⟩) n c),hf.const 1 rfl,?_⟩
   simp[updS,e0]
  ·simp at ho
   subst ho
   simp[Region.binds]at he
   have e1:s 1=.slice (some ⟨bA,oA,none⟩) n c:=hf.k 1 rfl (by simp[he])
   simp[wpOpIn,Region.wanted]
   go_simp
   refine hK _ _ ⟨updS s 2 (.int .i64 (n:Int)),hf.const 2 rfl,?_⟩
   simp[updS,e1]
  ·simp at ho
   subst ho
   simp[Region.binds]at he
   have e2:s 2=.int .i64 (n:Int):=hf.k 2 rfl (by simp[he])
   simp[wpOpIn,Region.wanted]
   have hx0:=hn0
   go_simp
   refine hK _ _ ⟨updS s 3 (.bool false),hf.const 3 rfl,?_⟩
   simp[updS,e2]
  ·simp at ho
   subst ho
   simp[Region.binds]at he
   have e3:s 3=.bool false:=hf.k 3 rfl (by simp[he])
   simp[wpOpIn,Region.wanted]
   go_simp
   refine hK _ _ ⟨updS s 4 (.bool false),hf.const 4 rfl,?_⟩
   simp[updS,e3]
  ·simp at ho
   subst ho
   simp[Region.binds]at he
   have e4:s 4=.bool false:=hf.k 4 rfl (by simp[he])
   simp[wpOpIn,Region.wanted,e4]
   go_simp
   refine hK _ _ ⟨updS s 5 undef,hf.skip 5 undef rfl,?_⟩
   first|rfl|simp[updS,e4]
  ·simp at ho
   subst ho
   simp[Region.binds]at he
   have e4:s 4=.bool false:=hf.k 4 rfl (by simp[he])
   simp[wpOpIn,Region.wanted,e4]
   go_simp
   refine hK _ _ ⟨updS s 6 undef,hf.skip 6 undef rfl,?_⟩
   first|rfl|simp[updS,e4]
  ·simp at ho
   subst ho
   simp[Region.binds]at he
   have e4:s 4=.bool false:=hf.k 4 rfl (by simp[he])
   simp[wpOpIn,Region.wanted,e4]
   go_simp
   refine hK _ _ ⟨updS s 7 undef,hf.skip 7 undef rfl,?_⟩
   first|rfl|simp[updS,e4]
  ·simp at ho
   subst ho
   simp[Region.binds]at he
   have e4:s 4=.bool false:=hf.k 4 rfl (by simp[he])
   simp[wpOpIn,Region.wanted]
   go_simp
   refine hK _ _ ⟨updS s 8 (.bool false),hf.const 8 rfl,?_⟩
   simp[updS,e4]
  ·simp at ho
   subst ho
   simp[Region.binds]at he
   have e8:s 8=.bool false:=hf.k 8 rfl (by simp[he])
   simp[wpOpIn,Region.wanted]
   go_simp
   refine hK _ _ ⟨updS s 9 (.bool false),hf.const 9 rfl,?_⟩
   simp[updS,e8]
  ·simp at ho
   subst ho
   simp[Region.binds]at he
   have e9:s 9=.bool false:=hf.k 9 rfl (by simp[he])
   simp[wpOpIn,Region.wanted,e9]
   go_simp
   refine hK _ _ ⟨updS s 10 (.pointer (some ⟨mb,3,none⟩)),hf.const 10 rfl,?_⟩
   simp[updS,e9]
  ·simp at ho
   subst ho
   simp[Region.binds]at he
   have e9:s 9=.bool false:=hf.k 9 rfl (by simp[he])
   have e10:s 10=.pointer (some ⟨mb,3,none⟩):=hf.k 10 rfl (by simp[he])
   simp[wpOpIn,Region.wanted,e9,e10]
   have hcx:=(hf.low.cell (p:=⟨mb,3,none⟩) yM).trans hM3
   go_simp
   refine hK _ _ ⟨updS s 11 (.slice (some ⟨bA,oA,none⟩) n c),hf.const 11 rfl,?_⟩
   simp[updS,e9,e10]
  ·simp at ho
   subst ho
   simp[Region.binds]at he
   have e9:s 9=.bool false:=hf.k 9 rfl (by simp[he])
   have e11:s 11=.slice (some ⟨bA,oA,none⟩) n c:=hf.k 11 rfl (by simp[he])
   simp[wpOpIn,Region.wanted,e9,e11]
   go_simp
   refine hK _ _ ⟨updS s 12 (.int .i64 (n:Int)),hf.const 12 rfl,?_⟩
   simp[updS,e9,e11]
  ·simp at ho
   subst ho
   simp[Region.binds]at he
   have e9:s 9=.bool false:=hf.k 9 rfl (by simp[he])
   have e12:s 12=.int .i64 (n:Int):=hf.k 12 rfl (by simp[he])
   simp[wpOpIn,Region.wanted,e9,e12]
   have hx0:=hn1
   have hx1:=hn2
   go_simp
   refine hK _ _ ⟨updS s 13 (.bool true),hf.const 13 rfl,?_⟩
   simp[updS,e9,e12]
  ·simp at ho
   subst ho
   simp[Region.binds]at he
   have e9:s 9=.bool false:=hf.k 9 rfl (by simp[he])
   have e13:s 13=.bool true:=hf.k 13 rfl (by simp[he])
   simp[wpOpIn,Region.wanted,e9,e13]
   go_simp
   refine hK _ _ ⟨updS s 14 (.bool true),hf.const 14 rfl,?_⟩
   simp[updS,e9,e13]
  ·simp at ho
   subst ho
   simp[Region.binds]at he
   have e14:s 14=.bool true:=hf.k 14 rfl (by simp[he])
   simp[wpOpIn,Region.wanted,e14]
   go_simp
   refine hK _ _ ⟨updS s 15 (.pointer (some ⟨mb,4,none⟩)),hf.const 15 rfl,?_⟩
   simp[updS,e14]
  ·simp at ho
   subst ho
   simp[Region.binds]at he
   have e14:s 14=.bool true:=hf.k 14 rfl (by simp[he])
   have e15:s 15=.pointer (some ⟨mb,4,none⟩):=hf.k 15 rfl (by simp[he])
   simp[wpOpIn,Region.wanted,e14,e15]
   have hcx:=(hf.low.cell (p:=⟨mb,4,none⟩) yM).trans hM4
   go_simp
   refine hK _ _ ⟨updS s 16 (.int .i64 left),hf.const 16 rfl,?_⟩
   simp[updS,e14,e15]
  ·simp at ho
   subst ho
   simp[Region.binds]at he
   have e14:s 14=.bool true:=hf.k 14 rfl (by simp[he])
   have e16:s 16=.int .i64 left:=hf.k 16 rfl (by simp[he])
   simp[wpOpIn,Region.wanted,e14,e16]
   have hx0:=hl1
   go_simp
   refine hK _ _ ⟨updS s 17 (.bool false),hf.const 17 rfl,?_⟩
   simp[updS,e14,e16]
  ·simp at ho
   subst ho
   simp[Region.binds]at he
   have e14:s 14=.bool true:=hf.k 14 rfl (by simp[he])
   have e17:s 17=.bool false:=hf.k 17 rfl (by simp[he])
   simp[wpOpIn,Region.wanted,e14,e17]
   go_simp
   refine hK _ _ ⟨updS s 18 (.bool false),hf.const 18 rfl,?_⟩
   simp[updS,e14,e17]
  ·simp at ho
   subst ho
   simp[Region.binds]at he
   have e18:s 18=.bool false:=hf.k 18 rfl (by simp[he])
   simp[wpOpIn,Region.wanted,e18]
   go_simp
   refine hK _ _ ⟨updS s 19 (.pointer (some ⟨mb,4,none⟩)),hf.const 19 rfl,?_⟩
   simp[updS,e18]
  ·simp at ho
   subst ho
   simp[Region.binds]at he
   have e18:s 18=.bool false:=hf.k 18 rfl (by simp[he])
   have e19:s 19=.pointer (some ⟨mb,4,none⟩):=hf.k 19 rfl (by simp[he])
   simp[wpOpIn,Region.wanted,e18,e19]
   have hcx:=(hf.low.cell (p:=⟨mb,4,none⟩) yM).trans hM4
   go_simp
   refine hK _ _ ⟨updS s 20 (.int .i64 left),hf.const 20 rfl,?_⟩
   simp[updS,e18,e19]
  ·simp at ho
   subst ho
   simp[Region.binds]at he
   have e18:s 18=.bool false:=hf.k 18 rfl (by simp[he])
   simp[wpOpIn,Region.wanted,e18]
   have hc0:=(hf.low.cell (p:=⟨bG,0,none⟩) yG).trans hG0
   have hc1:=(hf.low.cell (p:=⟨bG,1,none⟩) yG).trans hG1
   have hc2:=(hf.low.cell (p:=⟨bG,2,none⟩) yG).trans hG2
   have hc3:=(hf.low.cell (p:=⟨bG,3,none⟩) yG).trans hG3
   go_simp
   refine hK _ _ ⟨updS s 21 (.agg #[.int .i64 g.blur,.slice a.pS g.sta.length a.cs,.slice a.pM g.mov.length a.cm,.slice a.pZ g.zon.length a.cz]),hf.const 21 rfl,?_⟩
   simp[updS,e18]
  ·simp at ho
   subst ho
   simp[Region.binds]at he
   have e18:s 18=.bool false:=hf.k 18 rfl (by simp[he])
   simp[wpOpIn,Region.wanted,e18]
   go_simp
   refine hK _ _ ⟨updS s 22 (.pointer (some ⟨mb,2,none⟩)),hf.const 22 rfl,?_⟩
   simp[updS,e18]
  ·simp at ho
   subst ho
   simp[Region.binds]at he
   have e18:s 18=.bool false:=hf.k 18 rfl (by simp[he])
   have e22:s 22=.pointer (some ⟨mb,2,none⟩):=hf.k 22 rfl (by simp[he])
   simp[wpOpIn,Region.wanted,e18,e22]
   have hcx:=(hf.low.cell (p:=⟨mb,2,none⟩) yM).trans hM2
   go_simp
   refine hK _ _ ⟨updS s 23 (.int .i64 loc),hf.const 23 rfl,?_⟩
   simp[updS,e18,e22]
  ·simp at ho
   subst ho
   simp[Region.binds]at he
   have e18:s 18=.bool false:=hf.k 18 rfl (by simp[he])
   simp[wpOpIn,Region.wanted,e18]
   go_simp
   refine hK _ _ ⟨updS s 24 (.pointer (some ⟨mb,3,none⟩)),hf.const 24 rfl,?_⟩
   simp[updS,e18]
  ·simp at ho
   subst ho
   simp[Region.binds]at he
   have e18:s 18=.bool false:=hf.k 18 rfl (by simp[he])
   have e24:s 24=.pointer (some ⟨mb,3,none⟩):=hf.k 24 rfl (by simp[he])
   simp[wpOpIn,Region.wanted,e18,e24]
   have hcx:=(hf.low.cell (p:=⟨mb,3,none⟩) yM).trans hM3
   go_simp
   refine hK _ _ ⟨updS s 25 (.slice (some ⟨bA,oA,none⟩) n c),hf.const 25 rfl,?_⟩
   simp[updS,e18,e24]
  ·simp at ho
   subst ho
   simp[Region.binds]at he
   have e18:s 18=.bool false:=hf.k 18 rfl (by simp[he])
   have e25:s 25=.slice (some ⟨bA,oA,none⟩) n c:=hf.k 25 rfl (by simp[he])
   simp[wpOpIn,Region.wanted,e18,e25]
   have hx0:=hn2
   have hx1:=hn3
   go_simp
   refine hK _ _ ⟨updS s 26 (.pointer (some ⟨bA,oA,none⟩)),hf.const 26 rfl,?_⟩
   simp[updS,e18,e25]
  ·simp at ho
   subst ho
   simp[Region.binds]at he
   have e18:s 18=.bool false:=hf.k 18 rfl (by simp[he])
   have e26:s 26=.pointer (some ⟨bA,oA,none⟩):=hf.k 26 rfl (by simp[he])
   simp[wpOpIn,Region.wanted,e18,e26]
   have hcx:=(hf.low.cell (p:=⟨bA,oA,none⟩) yA).trans hQ
   go_simp
   refine hK _ _ ⟨updS s 27 (.int .i64 q),hf.const 27 rfl,?_⟩
   simp[updS,e18,e26]
  ·simp at ho
   subst ho
   simp[Region.binds]at he
   have e18:s 18=.bool false:=hf.k 18 rfl (by simp[he])
   have e21:s 21=.agg #[.int .i64 g.blur,.slice a.pS g.sta.length a.cs,.slice a.pM g.mov.length a.cm,.slice a.pZ g.zon.length a.cz]:=hf.k 21 rfl (by simp[he])
   have e23:s 23=.int .i64 loc:=hf.k 23 rfl (by simp[he])
   have e27:s 27=.int .i64 q:=hf.k 27 rfl (by simp[he])
   simp[wpOpIn,Region.wanted,e18,e21,e23,e27]
   have HC:=zh ((callsIn_wide (n:=2)).2 (hLk w' hf.low))
   go_simp
   refine⟨trivial,HC.out.mono ?_⟩
   rintro e wc ⟨rfl,hbc⟩
   simp only
   refine hK _ _ ⟨updS s 28 (.int .i64 LK),(hf.world hbc).const 28 rfl,?_⟩
   simp[updS,e18,e21,e23,e27]
  ·simp at ho
   subst ho
   simp[Region.binds]at he
   have e18:s 18=.bool false:=hf.k 18 rfl (by simp[he])
   have e20:s 20=.int .i64 left:=hf.k 20 rfl (by simp[he])
   have e28:s 28=.int .i64 LK:=hf.k 28 rfl (by simp[he])
   simp[wpOpIn,Region.wanted,e18,e20,e28]
   go_simp
   refine hK _ _ ⟨updS s 29 (.bool (decide (LK<left))),hf.const 29 rfl,?_⟩
   simp[updS,e18,e20,e28]
  ·simp at ho
   subst ho
   simp[Region.binds]at he
   have e14:s 14=.bool true:=hf.k 14 rfl (by simp[he])
   have e18:s 18=.bool false:=hf.k 18 rfl (by simp[he])
   have e29:s 29=.bool (decide (LK<left)):=hf.k 29 rfl (by simp[he])
   simp[wpOpIn,Region.wanted,e14,e18,e29]
   go_simp
   refine hK _ _ ⟨updS s 30 (.bool (decide (LK<left))),hf.const 30 rfl,?_⟩
   simp[updS,e14,e18,e29]
  ·simp at ho
   subst ho
   simp[Region.binds]at he
   have e9:s 9=.bool false:=hf.k 9 rfl (by simp[he])
   have e14:s 14=.bool true:=hf.k 14 rfl (by simp[he])
   have e30:s 30=.bool (decide (LK<left)):=hf.k 30 rfl (by simp[he])
   simp[wpOpIn,Region.wanted,e9,e14,e30]
   go_simp
   refine hK _ _ ⟨updS s 31 (.bool (decide (LK<left))),hf.const 31 rfl,?_⟩
   simp[updS,e9,e14,e30]
  ·simp at ho
   subst ho
   simp[Region.binds]at he
   have e9:s 9=.bool false:=hf.k 9 rfl (by simp[he])
   have e31:s 31=.bool (decide (LK<left)):=hf.k 31 rfl (by simp[he])
   simp[wpOpIn,Region.wanted]
   go_simp
   refine hK _ _ ⟨updS s 32 (.bool (decide (LK<left))),hf.const 32 rfl,?_⟩
   simp[updS,e9,e31]
 case fin=>
  intro L a' w' hI hall
  obtain⟨s,hf,rfl⟩:=hI
  rw[hf.k 32 rfl (hall 32 (by simp))]
  exact HK.out (s 0) (s 1) (s 2) (s 3) (s 4) (s 5) (s 6) (s 7) (s 8) (s 9) (s 10) (s 11) (s 12) (s 13) (s 14) (s 15) (s 16) (s 17) (s 18) (s 19) (s 20) (s 21) (s 22) (s 23) (s 24) (s 25) (s 26) (s 27) (s 28) (s 29) (s 30) (s 31) w' hf.low
end Go.Proofs.YtehnikhicnnnhaaGreatDoor
/- line: words and integers as a line of text. | Builders that hold text; the lines of a grid. | Print. | Print. -/
import Derived.Test.YtehnikhicnnnhaaGreatDoorPa05
import Derived.Test.YtehnikhicnnnhaaGreatDoorPa17
import Derived.Lib.AppendIntMem
import Derived.Lib.ItoaLen
namespace Go.Proofs.YtehnikhicnnnhaaGreatDoor
open Go.RowKit
def PowAt(w:World):Prop:=Lib.TabIs Tryz.prog w "internal/strconv.uint64pow10" .u64 Lib.pow10Tab
theorem PowAt.below{w w':World}(h:PowAt w)(hb:Below w.heap.size w w'):PowAt w':=Lib.tabBelow_of_tabIs h w' hb
def itoaS(n:Int):ByteArray:=⟨(Lib.itoa n).toArray⟩
theorem grow_below(w:World)(k:Nat)(os:Array Obj):Below w.heap.size w (Go.Sort.grow (w.drewN k) os):=
 ⟨rfl,rfl,rfl,by simp[Go.Sort.grow],fun i hi=>by show(w.heap++os)[i]? =w.heap[i]?;rw[Array.getElem?_append_left hi]⟩
theorem itoa_c(n:Int)(h0: -9223372036854775808≤n)(h1:n≤9223372036854775807)(w:World)(hp:PowAt w):
 Calls Tryz.prog 188 #[.int .i64 n] w fun e w'=>e=.returned (.string (itoaS n))∧Below w.heap.size w w':=by
 refine(Tryz.strconv_Itoa n h0 h1 w hp).mono ?_
 rintro e w' ⟨rfl,k,os,rfl⟩
 exact⟨rfl,grow_below w k os⟩
set_option maxRecDepth 100000 in
set_option maxHeartbeats 2000000 in
theorem mappedI_c(A:Option Addr)(c:Nat)(ns:List Int)(w:World)(hl:ns.length≤1000)(hb:∀n∈ns, -9223372036854775808≤n∧n≤9223372036854775807)(hr:IntsR w w.heap.size A ns)(hp:PowAt w):
 Calls Tryz.prog 187 #[.slice A ns.length c,.func (.func 188) #[] #[]] w fun e w'=>∃v,e=.returned v∧OwnS w' w.heap.size v (ns.map itoaS)∧Below w.heap.size w w':=by
 obtain⟨i0,hi,hz0,hz1,hz2⟩:=info_parts Tryz.infoStr
 have HR:=zh hr;clear hr
 have HP:=zh hp;clear hp
 have HB:=zh hb;clear hb
 go_enter Tryz.func187,Tryz.ntmps187
 go_wp2_with fail
 go_loopw [5,10] (fun v i wr=>∃k:Nat,k≤ns.length∧i=.int .i64 k∧OwnS wr w.heap.size v ((ns.take k).map itoaS)∧Below w.heap.size w wr) (fun _ i _=>ns.length-(intOf i).toNat)
 case atStart=>exact⟨0,Nat.zero_le _,rfl,OwnS.nil_ _ _,Below.refl _ _⟩
 case round=>
  obtain⟨k,hk,rfl,hown,hb⟩:=hrel
  have hbs:=hb.size
  by_cases hlt:k<ns.length
  ·obtain⟨x,hx⟩:∃x,x=ns[k]:=⟨_,rfl⟩
   have hxb:=HB.out x (by rw[hx];exact List.getElem_mem hlt)
   obtain⟨b,off,rfl,hbl,c0⟩:=IntsR.get (Rw.belowB HR.out (w0:=w) hb (Nat.le_refl _)) hlt
   rw[←hx]at c0
   obtain⟨nl,hnl⟩:∃nl,nl=(ns.take k).map itoaS:=⟨_,rfl⟩
   have hnn:nl.length≤1000:=by rw[hnl];simp;omega
   have hst:(ns.take (k+1)).map itoaS=nl++ [itoaS x]:=by rw[List.take_succ_eq_append_getElem hlt,List.map_append,←hnl,hx];rfl
   rw[←hnl]at hown
   have HST:=zh hst
   have HPW:=zh (HP.out.below hb)
   clear hx hnl hst
   go_wp2_with (first|(refine(itoa_c x hxb.1 hxb.2 _ HPW.out).mono ?_;rintro e w2 ⟨rfl,hb2⟩)|(at_builtin;refine wpList_append_own _ rfl _ _ 90 rfl w.heap.size 9 i0 (.string ⟨#[]⟩) 1 16 Tryz.underlying90 hi hz0 hz1 hz2 rfl (by decide) _ _ _ rfl ((hown.below hb2).alloc _) ⟨w2.heap.size,0,none⟩ 1 1 [.string (itoaS x)] rfl rfl ?c1 ?c2 ?c3 ?c4 ?c5 ?_))
   case c1=>
    intro j u hj
    match j,hj with
    |0,hj=>simp at hj;subst hj;simp[Addr.add,cells_new]
   case c2=>intro u hu;simp at hu;subst hu;rfl
   case c3=>unfold maxLen;omega
   case c4=>omega
   case c5=>have:=hb2.size;simp;omega
   intro v' w4 hown' hgrow _
   go_wp2_with fail
   go_roundw
   case rel=>exact⟨k+1,by omega,by go_num,by rw[HST.out];exact OwnS.app hown',Below.grown (by exact zbl) hgrow (by have:=hb2.size;simp;omega) (fun j e=>(World.ownsRow.lt hown j e).1)⟩
   case measure=>simp[intOf];omega
  ·go_wp2_with fail
   go_ret
   have hkl:k=ns.length:=by omega
   subst hkl
   rw[List.take_length]at hown
   exact⟨_,rfl,hown,hb⟩
def lineS(ws:List ByteArray)(ns:List Int):ByteArray:=⟨(Lib.join ((ws++ns.map itoaS).map (fun s:ByteArray=>s.data.toList)) [32]++ [10]).toArray⟩
set_option maxRecDepth 100000 in
set_option maxHeartbeats 2000000 in
theorem line_c(bw:Nat)(A:Option Addr)(c:Nat)(ws:List ByteArray)(ns:List Int)(w:World)(hlw:ws.length≤1000)(hl:ns.length≤1000)(hne:ns≠ [])(hb:∀n∈ns, -9223372036854775808≤n∧n≤9223372036854775807)
 (hw:OwnS w bw (.slice (some ⟨bw,0,none⟩) ws.length ws.length) ws) (hr:IntsR w w.heap.size A ns) (hp:PowAt w) (hlen:(Lib.join ((ws++ns.map itoaS).map (fun s:ByteArray=>s.data.toList)) [32]).length≤1000000):
 Calls Tryz.prog 144 #[.slice (some ⟨bw,0,none⟩) ws.length ws.length,.slice A ns.length c] w fun e w'=>e=.returned (.string (lineS ws ns))∧Below bw w w':=by
 obtain⟨i0,hi,hz0,hz1,hz2⟩:=info_parts Tryz.infoStr
 have HM:=zh (mappedI_c A c ns w hl hb hr hp)
 have HW:=zh hw
 have hbl:=(World.ownsRow.lt hw bw rfl).2
 have hnl:0<ns.length:=by cases ns with|nil=>exact absurd rfl hne|cons a l=>simp
 clear hb hr hp hw
 go_enter Tryz.func144,Tryz.ntmps144
 obtain⟨xs,hxs⟩:∃xs,xs=ns.map itoaS:=⟨_,rfl⟩
 have hxl:xs.length=ns.length:=by rw[hxs];simp
 have HXS:=zh hxs
 have HXL:=zh hxl
 have hxl2:xs.length≤1000:=by omega
 clear hxs hxl
 go_wp2_with (first|(refine HM.out.mono ?_;rintro e w1 ⟨v,rfl,hown,hb1⟩;rw[←HXS.out]at hown;(obtain⟨g,cap,hv,hgb,hglt⟩:=World.ownsRow.form hown (by have:=HXL.out;omega));subst hv;(have HOW:=zh hown);clear hown)|(at_builtin;refine wpList_append_own _ rfl _ _ 90 rfl bw 9 i0 (.string ⟨#[]⟩) 1 16 Tryz.underlying90 hi hz0 hz1 hz2 rfl (by decide) _ _ _ rfl (OwnS.below HW.out hb1) ⟨g,0,none⟩ xs.length cap (xs.map Value.string) rfl (by simp) ?c1 ?c2 ?c3 ?c4 ?c5 ?_))
 case c1=>
  intro j u hj
  exact HOW.out.cells (g:=g) rfl j u hj
 case c2=>intro u hu;obtain⟨x,_,rfl⟩:=List.mem_map.1 hu;rfl
 case c3=>unfold maxLen;omega
 case c4=>omega
 case c5=>have:=hb1.size;omega
 intro v' w4 hown' hgrow _
 have ho4:OwnS w4 bw v' (ws++xs):=by unfold OwnS;simpa using hown'
 obtain⟨A4,c4,rfl,hc4,hs4,hf4⟩:=ho4.sl
 obtain⟨b4,o4,rfl,hb4,hx4⟩:=hs4 (by have:=HXL.out;intro h;have h2:=congrArg List.length h;rw[List.length_map,List.length_append,List.length_nil]at h2;omega)
 have hJ0:=(Tryz.strings_Join b4 o4 c4 (ws++xs) ⟨#[32]⟩ w4 (fun j x hj=>by
  have hj':=(List.getElem?_eq_some_iff.1 hj).1
  have:=hx4 j (by simpa using hj') 0 (.string x) (by rw[List.getElem_map];have:=(List.getElem?_eq_some_iff.1 hj).2;simp[this])
  simpa using this) hb4 (by simp;omega) hc4 (by rw[HXS.out];exact Nat.le_trans hlen (by decide)))
 rw[List.length_append]at hJ0
 have hJ:=zh hJ0
 have HLN:=zh hlen
 have hbb:Below bw w w4:=Below.grown (hb1.mono (Nat.le_of_lt hbl)) hgrow (by have:=hb1.size;omega) (fun k e=>by cases e;exact Nat.le_refl _)
 obtain⟨js,hjs⟩:∃js:ByteArray,js=⟨(Lib.join ((ws++xs).map (fun s:ByteArray=>s.data.toList)) [32]).toArray⟩:=⟨_,rfl⟩
 have hjl:js.size≤1000000:=by rw[hjs,HXS.out];exact hlen
 have HJS:=zh hjs
 clear hJ0 hlen hown' ho4 hx4 hjs
 go_wp2_with (go_at_call 186;refine hJ.out.mono ?_;rintro e w5 ⟨rfl,hb5⟩;rw[←HJS.out])
 go_ret
 exact⟨by rw[HJS.out,HXS.out];rfl,hbb.trans (hb5.mono (by have:=hbb.size;omega))⟩
def IsB(w:World)(b:Nat)(l:List UInt8):Prop:=Lib.IsBuilder 220 5 b b (Lib.byteCells l) w
theorem IsB.new(w:World):IsB (w.alloc (.cells #[.pointer none,.slice none 0 0] 220)) w.heap.size []:=
 .inl ⟨Nat.le_refl _,.slice none 0 0,heap_alloc_new _ _,World.ownsRow_nil _ _ _ _,by simp[Value.ownBlock]⟩
theorem IsB.below{w w':World}{b:Nat}{l:List UInt8}(h:IsB w b l)(hb:Below w.heap.size w w'):IsB w' b l:=by
 have key:∀p,Lib.BuilderAt 220 5 b b p (Lib.byteCells l) w→Lib.BuilderAt 220 5 b b p (Lib.byteCells l) w':=fun p h1=>by
  have hlt:=h1.lt
  obtain⟨h2,v,h3,h4,h5⟩:=h1
  exact⟨h2,v,(hb.block b hlt).trans h3,World.ownsRow.kept h4 (row:=none) (grown_of hb) (by cases v.ownBlock<;>simp),h5⟩
 exact h.elim (fun x=>.inl (key _ x)) (fun x=>.inr (key _ x))
theorem IsB.lt{w:World}{b:Nat}{l:List UInt8}(h:IsB w b l):b<w.heap.size:=h.elim (fun x=>x.lt) (fun x=>x.lt)
theorem write_c(b:Nat)(l:List UInt8)(s:ByteArray)(w:World)(h:IsB w b l)(hlen:l.length+s.size≤140737488355328):
 Calls Tryz.prog 143 #[.pointer (some ⟨b,0,none⟩),.string s] w fun e w'=>e=.returned (.tuple #[.int .i64 s.size,.nilIface])∧IsB w' b (l++s.data.toList)∧Below b w w':=by
 refine(wstr_c b b (Lib.byteCells l) s w h (by rw[Lib.byteCells_length];exact hlen) (Nat.le_of_lt h.lt)).mono ?_
 rintro e w' ⟨rfl,h1,h2⟩
 refine⟨rfl,?_,h2⟩
 unfold IsB
 rw[show Lib.byteCells (l++s.data.toList)=Lib.byteCells l++Lib.strCells s by simp[Lib.byteCells,Lib.strCells]]
 exact h1
theorem lit_line(wr:World)(X:Obj)(ws:List ByteArray)(ns:List Int)(h1:ws.length≤1000):
 OwnS (((wr.alloc X).alloc (.cells (ws.map Value.string).toArray 9)).alloc (.cells (ns.map (Value.int .i64)).toArray 3)) (wr.heap.size+1) (.slice (some ⟨wr.heap.size+1,0,none⟩) ws.length ws.length) ws∧
 IntsR (((wr.alloc X).alloc (.cells (ws.map Value.string).toArray 9)).alloc (.cells (ns.map (Value.int .i64)).toArray 3)) (((wr.alloc X).alloc (.cells (ws.map Value.string).toArray 9)).alloc (.cells (ns.map (Value.int .i64)).toArray 3)).heap.size (some ⟨wr.heap.size+1+1,0,none⟩) ns:=by
 constructor
 ·have h:=World.ownsRow_lit (base:=wr.heap.size+1) (e:=9) (size:=1) (wr.alloc X) (ws.map Value.string).toArray ws.length (by simp) (by unfold maxLen;omega) (by simp)
  rw[World.size_alloc]at h
  exact World.ownsRow.alloc (by simpa using h) _
 ·intro hn
  refine⟨wr.heap.size+1+1,0,rfl,by simp,fun k hk j v hj=>?_⟩
  rw[List.length_map]at hk
  rw[List.getElem_map]at hj
  cases j with
  |succ j=>simp at hj
  |zero=>
   simp only[List.getElem?_cons_zero,Option.some.injEq]at hj
   subst hj
   rw[cells_new _ _ (by simp)]
   simp[hk]
theorem itoa_len{n:Int}(h0:0≤n)(h1:n≤9223372036854775807):(Lib.itoa n).length≤20:=by
 unfold Lib.itoa
 rw[if_neg (by omega),Lib.decDigits_length]
 exact Lib.nDigits_le20 _ (by omega)
def kwGrid:ByteArray:=⟨#[103,114,105,100]⟩
def kwSta:ByteArray:=⟨#[115,116,97,116,105,111,110]⟩
def kwMov:ByteArray:=⟨#[109,111,118,101]⟩
def kwZon:ByteArray:=⟨#[122,111,110,101]⟩
def staW(s:Sta):List ByteArray:= [kwSta,s.name,s.kind]
def zonW(z:Zon):List ByteArray:= [kwZon,z.name]
def staT(s:Sta):List UInt8:=(lineS (staW s) [s.x,s.y]).data.toList
def movT(m:Mov):List UInt8:=(lineS [kwMov] [m.a,m.b,m.s]).data.toList
def zonT(z:Zon):List UInt8:=(lineS (zonW z) [z.x,z.y,z.r]).data.toList
def headT(n:Int):List UInt8:=(lineS [kwGrid] [n]).data.toList
def textG(g:Grd):List UInt8:=headT g.blur++(g.sta.map staT).flatten++(g.mov.map movT).flatten++(g.zon.map zonT).flatten
theorem flat_succ{α:Type}(f:α→List UInt8){l:List α}{k:Nat}(hk:k<l.length):((l.take (k+1)).map f).flatten=((l.take k).map f).flatten++f l[k]:=by
 rw[List.take_succ_eq_append_getElem hk,List.map_append,List.flatten_append];simp
theorem chkS_kind{l:List Sta}:∀{pre:List ByteArray},chkS pre l=0→∀s∈l,s.kind.size≤7:=by
 induction l with
 |nil=>simp
 |cons z l ih=>
  intro pre h s hs
  unfold chkS at h
  split at h
  ·rename_i he
   rcases List.mem_cons.1 hs with rfl|hs
   ·have h1:memS kinds s.kind=true:=by
     have h2:=whn_zero (n:=13) (firstErr_zero he (whn (!memS kinds s.kind) 13) (by simp)) (by decide)
     simpa using h2
    unfold memS at h1
    obtain⟨x,hx,he2⟩:=List.any_eq_true.1 h1
    have h3:s.kind.data.toList=x.data.toList:=by unfold sEq at he2;simpa using he2
    have h4:s.kind.size=x.size:=by
     have:=congrArg List.length h3
     simpa using this
    rw[h4]
    have h5:∀y∈kinds,y.size≤7:=by decide
    exact h5 x hx
   ·exact ih h s hs
  ·rename_i he;exact absurd h he
def printT(g:Grd):ByteArray:=if gridC g=0 then⟨(textG g).toArray⟩else⟨#[]⟩
theorem size_toList(a:ByteArray):a.data.toList.length=a.size:=by simp
theorem lineS_len(ws:List ByteArray)(ns:List Int):(lineS ws ns).size=(Lib.join ((ws++ns.map itoaS).map (fun s:ByteArray=>s.data.toList)) [32]).length+1:=by
 unfold lineS;simp[ByteArray.size]
theorem join_len(xs:List (List UInt8))(n:Nat)(h:∀x∈xs,x.length≤n):(Lib.join xs [32]).length≤xs.length*(n+1):=by
 induction xs with
 |nil=>simp[Lib.join,List.intercalate]
 |cons x l ih=>
  have h1:=h x (by simp)
  cases l with
  |nil=>rw[Lib.join_one];simp;omega
  |cons y l=>
   have h2:=ih (fun z hz=>h z (by simp[hz]))
   have e:Lib.join (x::y::l) [32]=x++32::Lib.join (y::l) [32]:=by simp[Lib.join,List.intercalate,List.intersperse]
   rw[e]
   simp only[List.length_append,List.length_cons,Nat.succ_mul]at h2 ⊢
   omega
theorem line_small(ws:List ByteArray)(ns:List Int)(h1:ws.length≤3)(h2:ns.length≤3)(hw:∀s∈ws,s.size≤100000)(hn:∀n∈ns,0≤n∧n≤9223372036854775807):(Lib.join ((ws++ns.map itoaS).map (fun s:ByteArray=>s.data.toList)) [32]).length≤600006:=by
 have h:=join_len ((ws++ns.map itoaS).map (fun s:ByteArray=>s.data.toList)) 100000 (fun x hx=>by
  obtain⟨s,hs,rfl⟩:=List.mem_map.1 hx
  rcases List.mem_append.1 hs with hs|hs
  ·have:=hw s hs;rw[size_toList];exact this
  ·obtain⟨n,hn',rfl⟩:=List.mem_map.1 hs
   have:=itoa_len (hn n hn').1 (hn n hn').2
   show(Lib.itoa n).toArray.toList.length≤100000
   simp;omega)
 refine Nat.le_trans h ?_
 simp only[List.length_map,List.length_append]
 omega
theorem line_below{wr:World}{X Y Z:Obj}{w2:World}(hb:Below (wr.heap.size+1) (((wr.alloc X).alloc Y).alloc Z) w2):Below (wr.alloc X).heap.size (wr.alloc X) w2:=
 (Below.alloc (Below.alloc (Below.refl _ (wr.alloc X)) (by simp) _) (by simp) _).trans (hb.mono (by simp))
theorem line_size(ws:List ByteArray)(ns:List Int)(h1:ws.length≤3)(h2:ns.length≤3)(hw:∀s∈ws,s.size≤100000)(hn:∀n∈ns,0≤n∧n≤9223372036854775807):(lineS ws ns).size≤600007:=by
 rw[lineS_len];have:=line_small ws ns h1 h2 hw hn;omega
set_option maxRecDepth 100000 in
set_option maxHeartbeats 8000000 in
theorem Print_c(a:GA)(g:Grd)(w:World)(hs:SmallG g)(hr:GridR w w.heap.size a g)(hkd:KindsAt w)(hp:PowAt w):
 Calls Tryz.prog 81 #[(.agg #[.int .i64 g.blur,.slice a.pS g.sta.length a.cs,.slice a.pM g.mov.length a.cm,.slice a.pZ g.zon.length a.cz])] w fun e w'=>e=.returned (.tuple #[.string (printT g),.int .i64 (gridC g)])∧Below w.heap.size w w':=by
 have HG:=zh (hr.sx (Nat.le_refl _) ((Sx.refl w).alloc (.cells #[.int .i64 g.blur,.slice a.pS g.sta.length a.cs,.slice a.pM g.mov.length a.cm,.slice a.pZ g.zon.length a.cz] 38)))
 have HK:=zh (hkd.sx ((Sx.refl w).alloc (.cells #[.int .i64 g.blur,.slice a.pS g.sta.length a.cs,.slice a.pM g.mov.length a.cm,.slice a.pZ g.zon.length a.cz] 38)))
 have HG0:=zh hr
 have HPW:=zh hp
 clear hr hkd hp
 by_cases he:gridC g=0
 ·have hz1':(gridC g !=0)=false:=by rw[bne_eq_false_iff_eq];exact he
  have hpt:=zh (show printT g=⟨(textG g).toArray⟩ by unfold printT;rw[if_pos he])
  have hok:=gridC_ok he
  have hkk:∀s∈g.sta,s.kind.size≤7:=by
   have h1:stasC g.sta=0:=firstErr_zero he _ (by simp)
   unfold stasC at h1
   split at h1
   ·cases h1
   ·exact chkS_kind h1
  have HKK:=zh hkk
  have HE:=zh he;clear he hkk
  have HS:=zh hs
  have h0n:∀n∈ [g.blur],0≤n∧n≤9223372036854775807:=by
   intro n hn;simp at hn;subst hn;have:=hok.b0;have:=hok.b1;constructor<;>omega
  have H0N:=zh h0n
  clear h0n hs
  go_enter Tryz.func81,Tryz.ntmps81
  go_wp2_with (first|(go_at_call 66;refine(CheckGrid_c a g _ HS.out HG.out HK.out).mono ?_;rintro e w1 ⟨rfl,hb1⟩;(have b0:w1.cell? ⟨w.heap.size,0,none⟩=some (.int .i64 g.blur):=(hb1.cell (p:=⟨w.heap.size,0,none⟩) (by first|(simp;done)|(simp;omega)|(show w.heap.size<_;omega))).trans (by first|assumption|(simp;done)));(have b1:w1.cell? ⟨w.heap.size,1,none⟩=some (.slice a.pS g.sta.length a.cs):=(hb1.cell (p:=⟨w.heap.size,1,none⟩) (by first|(simp;done)|(simp;omega)|(show w.heap.size<_;omega))).trans (by first|assumption|(simp;done)));(have b2:w1.cell? ⟨w.heap.size,2,none⟩=some (.slice a.pM g.mov.length a.cm):=(hb1.cell (p:=⟨w.heap.size,2,none⟩) (by first|(simp;done)|(simp;omega)|(show w.heap.size<_;omega))).trans (by first|assumption|(simp;done)));(have b3:w1.cell? ⟨w.heap.size,3,none⟩=some (.slice a.pZ g.zon.length a.cz):=(hb1.cell (p:=⟨w.heap.size,3,none⟩) (by first|(simp;done)|(simp;omega)|(show w.heap.size<_;omega))).trans (by first|assumption|(simp;done)));(have hbw1:Below w.heap.size w w1:=by exact zbl);(have lw1:w.heap.size<w1.heap.size:=by have:=hb1.size;simp at this;omega))|(go_at_call 144;refine(line_c (w1.heap.size+1) (some ⟨w1.heap.size+1+1,0,none⟩) 1 [kwGrid] [g.blur] _ (by simp) (by simp) (by simp) (fun n hn=>⟨Int.le_trans (by decide) (H0N.out n hn).1,(H0N.out n hn).2⟩) (lit_line w1 (.cells #[.pointer none,.slice none 0 0] 220) [kwGrid] [g.blur] (by simp)).1 (lit_line w1 (.cells #[.pointer none,.slice none 0 0] 220) [kwGrid] [g.blur] (by simp)).2 (HPW.out.below (by exact zbl)) (Nat.le_trans (line_small [kwGrid] [g.blur] (by simp) (by simp) (by intro s hs;simp at hs;subst hs;decide) H0N.out) (by decide))).mono ?_;rintro e w2 ⟨rfl,hb2⟩)|(go_at_call 143;refine(write_c w1.heap.size [] (lineS [kwGrid] [g.blur]) _ ((IsB.new w1).below (line_below hb2)) (by have:=line_size [kwGrid] [g.blur] (by simp) (by simp) (by intro s hs;simp at hs;subst hs;decide) H0N.out;simp only[List.length_nil];omega)).mono ?_;rintro e w3 ⟨rfl,hib3,hb3⟩;(have hb13:Below w1.heap.size w1 w3:=(Below.alloc (Below.refl _ w1) (Nat.le_refl _) _).trans (((line_below hb2).mono (by simp)).trans hb3));(have c1:=(hb13.cell (p:=⟨w.heap.size,1,none⟩) lw1).trans b1)))
  have HB1:=zh b1
  have HB2:=zh b2
  have HB3:=zh b3
  have HBW1:=zh hbw1
  have HB13:=zh hb13
  have HIB0:Hid (IsB w3 w1.heap.size (headT g.blur)):=zh (by simpa [headT]using hib3)
  clear b0 b1 b2 b3 hbw1 hb13 hib3
  go_loopw [26] (fun i wr=>∃(k:Nat) (tl:List UInt8),k≤g.sta.length∧i=.int .i64 k∧Hid (IsB wr w1.heap.size tl)∧Hid (tl=headT g.blur++((g.sta.take k).map staT).flatten)∧tl.length≤(1+k)*600007∧Below w1.heap.size w1 wr) (fun i _=>g.sta.length-(intOf i).toNat)
  case atStart=>exact⟨0,headT g.blur,Nat.zero_le _,rfl,HIB0,zh (by simp),by have:=line_size [kwGrid] [g.blur] (by simp) (by simp) (by intro s hs;simp at hs;subst hs;decide) H0N.out;unfold headT;rw[size_toList];omega,HB13.out⟩
  case round=>
   obtain⟨k,tl,hk,rfl,hib,htl,htn,hb⟩:=hrel
   have hbs:=hb.size
   have hbw:Below w.heap.size w wr:=HBW1.out.trans (hb.mono (by omega))
   have e1:=(hb.cell (p:=⟨w.heap.size,1,none⟩) lw1).trans HB1.out
   have e2:=(hb.cell (p:=⟨w.heap.size,2,none⟩) lw1).trans HB2.out
   have e3:=(hb.cell (p:=⟨w.heap.size,3,none⟩) lw1).trans HB3.out
   have lwr:w.heap.size<wr.heap.size:=by omega
   by_cases hlt:k<g.sta.length
   ·obtain⟨st,hst⟩:∃st,st=g.sta[k]:=⟨_,rfl⟩
    have hsm:st∈g.sta:=by rw[hst];exact List.getElem_mem hlt
    obtain⟨b,off,hA,hbl,d0,d1,d2,d3⟩:=((HG0.out.belowB (w0:=w) hbw (Nat.le_refl _)).more hbw.size).sta.get4 (k:=k) (by simpa using hlt) (by rw[List.getElem_map,←hst];rfl)
    have HWS:Hid (∀s∈ [kwSta,st.name,st.kind],s.size≤100000):=zh (by intro t ht;simp at ht;rcases ht with rfl|rfl|rfl;(first|exact(by decide:kwSta.size≤100000)|decide);exact HS.out.names st hsm;exact Nat.le_trans (HKK.out st hsm) (by decide))
    have HNS:Hid (∀n∈ [st.x,st.y],0≤n∧n≤9223372036854775807):=zh (by intro n hn;have h:=hok.sta st hsm;have:=h.x0;have:=h.x1;have:=h.y0;have:=h.y1;simp at hn;rcases hn with rfl|rfl<;>constructor<;>omega)
    have HST:=zh hst
    have HA:=zh hA
    have hkb:1+k≤100:=by have:=hok.ns;have:=hok.nm;have:=hok.nz;omega
    have htn5:tl.length≤70000000:=by omega
    have HTN:=zh htn
    have HPR:=zh (HPW.out.below hbw)
    have HKB:=zh hkb
    clear hst hsm htn hkb
    go_wp2_with (first|(go_at_call 144;refine(line_c (wr.heap.size+1) (some ⟨wr.heap.size+1+1,0,none⟩) 2 [kwSta,st.name,st.kind] [st.x,st.y] _ (by simp) (by simp) (by simp) (fun n hn=>⟨Int.le_trans (by decide) (HNS.out n hn).1,(HNS.out n hn).2⟩) (lit_line wr (.cells #[.string st.name,.string st.kind,.int .i64 st.x,.int .i64 st.y] 163) [kwSta,st.name,st.kind] [st.x,st.y] (by simp)).1 (lit_line wr (.cells #[.string st.name,.string st.kind,.int .i64 st.x,.int .i64 st.y] 163) [kwSta,st.name,st.kind] [st.x,st.y] (by simp)).2 (HPR.out.below (by exact zbl)) (Nat.le_trans (line_small [kwSta,st.name,st.kind] [st.x,st.y] (by simp) (by simp) HWS.out HNS.out) (by decide))).mono ?_;rintro e w2 ⟨rfl,hb2⟩)|(go_at_call 143;refine(write_c w1.heap.size tl (lineS [kwSta,st.name,st.kind] [st.x,st.y]) _ ((hib.out.below (Below.alloc (Below.refl _ _) (Nat.le_refl _) _)).below (line_below hb2)) (by have:=line_size [kwSta,st.name,st.kind] [st.x,st.y] (by simp) (by simp) HWS.out HNS.out;omega)).mono ?_;rintro e w3 ⟨rfl,hib3,hb3⟩))
    rw[←HA.out]
    clear hA
    have hkb:=HKB.out
    have i7:Hid (wrap64 ((k:Int)+1)=(k:Int)+1):=zh (by rw[←IntWalk.i64_left];exact IntWalk.i64_in _ (by omega))
    go_roundw
    case rel=>
     have hls:=line_size [kwSta,st.name,st.kind] [st.x,st.y] (by simp) (by simp) HWS.out HNS.out
     have hlb2:=line_below hb2
     have hz1:(wr.alloc (.cells #[.string st.name,.string st.kind,.int .i64 st.x,.int .i64 st.y] 163)).heap.size=wr.heap.size+1:=by simp
     refine⟨k+1,tl++(lineS [kwSta,st.name,st.kind] [st.x,st.y]).data.toList,by omega,by rw[i7.out];exact congrArg (Value.int IntKind.i64) (by omega),zh hib3,zh ?_,?_,?_⟩
     ·rw[flat_succ _ hlt,←HST.out,←List.append_assoc,←htl.out]
      simp only[staT,staW]
     ·rw[List.length_append,size_toList,show 1+(k+1)=1+k+1 by omega,Nat.succ_mul]
      have:=HTN.out
      omega
     ·exact hb.trans ((Below.alloc (Below.refl _ wr) (by omega) _).trans ((hlb2.mono (by omega)).trans hb3))
    case measure=>
     have hh:(intOf (.int .i64 (wrap64 ((k:Int)+1)))).toNat=k+1:=by rw[i7.out];rfl
     exact Nat.sub_lt_sub_left hlt (by rw[hh];exact Nat.lt_succ_self k)
   ·have hkl:k=g.sta.length:=by omega
    have htl2:tl=headT g.blur++(g.sta.map staT).flatten:=by rw[htl.out,hkl,List.take_length]
    have htn2:tl.length≤(1+g.sta.length)*600007:=by rw[←hkl];exact htn
    have HTL:=zh htl2
    have HTN:=zh htn2
    clear hkl htl htn htl2 htn2
    go_wp2_with fail
    go_loopw [48] (fun i wr=>∃(k:Nat) (tl:List UInt8),k≤g.mov.length∧i=.int .i64 k∧Hid (IsB wr w1.heap.size tl)∧Hid (tl=headT g.blur++(g.sta.map staT).flatten++((g.mov.take k).map movT).flatten)∧tl.length≤((1+g.sta.length)+k)*600007∧Below w1.heap.size w1 wr) (fun i _=>g.mov.length-(intOf i).toNat)
    case atStart=>exact⟨0,tl,Nat.zero_le _,rfl,hib,zh (by simpa using HTL.out),by simpa using HTN.out,hb⟩
    case round=>
     obtain⟨k,tl,hk,rfl,hib,htl,htn,hb⟩:=hrel
     have hbs:=hb.size
     have hbw:Below w.heap.size w wr:=HBW1.out.trans (hb.mono (by omega))
     have e1:=(hb.cell (p:=⟨w.heap.size,1,none⟩) lw1).trans HB1.out
     have e2:=(hb.cell (p:=⟨w.heap.size,2,none⟩) lw1).trans HB2.out
     have e3:=(hb.cell (p:=⟨w.heap.size,3,none⟩) lw1).trans HB3.out
     have lwr:w.heap.size<wr.heap.size:=by omega
     by_cases hlt:k<g.mov.length
     ·obtain⟨m,hst⟩:∃m,m=g.mov[k]:=⟨_,rfl⟩
      have hsm:m∈g.mov:=by rw[hst];exact List.getElem_mem hlt
      obtain⟨b,off,hA,hbl,d0,d1,d2⟩:=((HG0.out.belowB (w0:=w) hbw (Nat.le_refl _)).more hbw.size).mov.get3 (k:=k) (by simpa using hlt) (by rw[List.getElem_map,←hst];rfl)
      have HWS:Hid (∀s∈ [kwMov],s.size≤100000):=zh (by intro t ht;simp at ht;subst ht;decide)
      have HNS:Hid (∀n∈ [m.a,m.b,m.s],0≤n∧n≤9223372036854775807):=zh (by intro n hn;have h:=hok.mov m hsm;have:=h.a0;have:=h.ab;have:=h.bn;have:=h.s0;have:=h.s1;have:=hok.ns;simp at hn;rcases hn with rfl|rfl|rfl<;>constructor<;>omega)
      have HST:=zh hst
      have HA:=zh hA
      have hkb:(1+g.sta.length)+k≤100:=by have:=hok.ns;have:=hok.nm;have:=hok.nz;omega
      have htn5:tl.length≤70000000:=by omega
      have HTN:=zh htn
      have HPR:=zh (HPW.out.below hbw)
      have HKB:=zh hkb
      clear hst hsm htn hkb
      go_wp2_with (first|(go_at_call 144;refine(line_c (wr.heap.size+1) (some ⟨wr.heap.size+1+1,0,none⟩) 3 [kwMov] [m.a,m.b,m.s] _ (by simp) (by simp) (by simp) (fun n hn=>⟨Int.le_trans (by decide) (HNS.out n hn).1,(HNS.out n hn).2⟩) (lit_line wr (.cells #[.int .i64 m.a,.int .i64 m.b,.int .i64 m.s] 166) [kwMov] [m.a,m.b,m.s] (by simp)).1 (lit_line wr (.cells #[.int .i64 m.a,.int .i64 m.b,.int .i64 m.s] 166) [kwMov] [m.a,m.b,m.s] (by simp)).2 (HPR.out.below (by exact zbl)) (Nat.le_trans (line_small [kwMov] [m.a,m.b,m.s] (by simp) (by simp) HWS.out HNS.out) (by decide))).mono ?_;rintro e w2 ⟨rfl,hb2⟩)|(go_at_call 143;refine(write_c w1.heap.size tl (lineS [kwMov] [m.a,m.b,m.s]) _ ((hib.out.below (Below.alloc (Below.refl _ _) (Nat.le_refl _) _)).below (line_below hb2)) (by have:=line_size [kwMov] [m.a,m.b,m.s] (by simp) (by simp) HWS.out HNS.out;omega)).mono ?_;rintro e w3 ⟨rfl,hib3,hb3⟩))
      rw[←HA.out]
      clear hA
      have hkb:=HKB.out
      have i7:Hid (wrap64 ((k:Int)+1)=(k:Int)+1):=zh (by rw[←IntWalk.i64_left];exact IntWalk.i64_in _ (by omega))
      go_roundw
      case rel=>
       have hls:=line_size [kwMov] [m.a,m.b,m.s] (by simp) (by simp) HWS.out HNS.out
       have hlb2:=line_below hb2
       have hz1:(wr.alloc (.cells #[.int .i64 m.a,.int .i64 m.b,.int .i64 m.s] 166)).heap.size=wr.heap.size+1:=by simp
       refine⟨k+1,tl++(lineS [kwMov] [m.a,m.b,m.s]).data.toList,by omega,by rw[i7.out];exact congrArg (Value.int IntKind.i64) (by omega),zh hib3,zh ?_,?_,?_⟩
       ·rw[flat_succ _ hlt,←HST.out,←List.append_assoc,←htl.out]
        simp only[movT]
       ·rw[List.length_append,size_toList,show(1+g.sta.length)+(k+1)=(1+g.sta.length)+k+1 by omega,Nat.succ_mul]
        have:=HTN.out
        omega
       ·exact hb.trans ((Below.alloc (Below.refl _ wr) (by omega) _).trans ((hlb2.mono (by omega)).trans hb3))
      case measure=>
       have hh:(intOf (.int .i64 (wrap64 ((k:Int)+1)))).toNat=k+1:=by rw[i7.out];rfl
       exact Nat.sub_lt_sub_left hlt (by rw[hh];exact Nat.lt_succ_self k)
     ·have hkl:k=g.mov.length:=by omega
      have htl2:tl=headT g.blur++(g.sta.map staT).flatten++(g.mov.map movT).flatten:=by rw[htl.out,hkl,List.take_length]
      have htn2:tl.length≤((1+g.sta.length)+g.mov.length)*600007:=by rw[←hkl];exact htn
      have HTL:=zh htl2
      have HTN:=zh htn2
      clear hkl htl htn htl2 htn2
      go_wp2_with fail
      go_loopw [66] (fun i wr=>∃(k:Nat) (tl:List UInt8),k≤g.zon.length∧i=.int .i64 k∧Hid (IsB wr w1.heap.size tl)∧Hid (tl=headT g.blur++(g.sta.map staT).flatten++(g.mov.map movT).flatten++((g.zon.take k).map zonT).flatten)∧tl.length≤((1+g.sta.length+g.mov.length)+k)*600007∧Below w1.heap.size w1 wr) (fun i _=>g.zon.length-(intOf i).toNat)
      case atStart=>exact⟨0,tl,Nat.zero_le _,rfl,hib,zh (by simpa using HTL.out),by simpa using HTN.out,hb⟩
      case round=>
       obtain⟨k,tl,hk,rfl,hib,htl,htn,hb⟩:=hrel
       have hbs:=hb.size
       have hbw:Below w.heap.size w wr:=HBW1.out.trans (hb.mono (by omega))
       have e1:=(hb.cell (p:=⟨w.heap.size,1,none⟩) lw1).trans HB1.out
       have e2:=(hb.cell (p:=⟨w.heap.size,2,none⟩) lw1).trans HB2.out
       have e3:=(hb.cell (p:=⟨w.heap.size,3,none⟩) lw1).trans HB3.out
       have lwr:w.heap.size<wr.heap.size:=by omega
       by_cases hlt:k<g.zon.length
       ·obtain⟨z,hst⟩:∃z,z=g.zon[k]:=⟨_,rfl⟩
        have hsm:z∈g.zon:=by rw[hst];exact List.getElem_mem hlt
        obtain⟨b,off,hA,hbl,d0,d1,d2,d3⟩:=((HG0.out.belowB (w0:=w) hbw (Nat.le_refl _)).more hbw.size).zon.get4 (k:=k) (by simpa using hlt) (by rw[List.getElem_map,←hst];rfl)
        have HWS:Hid (∀s∈ [kwZon,z.name],s.size≤100000):=zh (by intro t ht;simp at ht;rcases ht with rfl|rfl;(first|exact(by decide:kwZon.size≤100000)|decide);exact HS.out.namez z hsm)
        have HNS:Hid (∀n∈ [z.x,z.y,z.r],0≤n∧n≤9223372036854775807):=zh (by intro n hn;have h:=hok.zon z hsm;have:=h.x0;have:=h.x1;have:=h.y0;have:=h.y1;have:=h.r0;have:=h.r1;simp at hn;rcases hn with rfl|rfl|rfl<;>constructor<;>omega)
        have HST:=zh hst
        have HA:=zh hA
        have hkb:(1+g.sta.length+g.mov.length)+k≤100:=by have:=hok.ns;have:=hok.nm;have:=hok.nz;omega
        have htn5:tl.length≤70000000:=by omega
        have HTN:=zh htn
        have HPR:=zh (HPW.out.below hbw)
        have HKB:=zh hkb
        clear hst hsm htn hkb
        go_wp2_with (first|(go_at_call 144;refine(line_c (wr.heap.size+1) (some ⟨wr.heap.size+1+1,0,none⟩) 3 [kwZon,z.name] [z.x,z.y,z.r] _ (by simp) (by simp) (by simp) (fun n hn=>⟨Int.le_trans (by decide) (HNS.out n hn).1,(HNS.out n hn).2⟩) (lit_line wr (.cells #[.string z.name,.int .i64 z.x,.int .i64 z.y,.int .i64 z.r] 119) [kwZon,z.name] [z.x,z.y,z.r] (by simp)).1 (lit_line wr (.cells #[.string z.name,.int .i64 z.x,.int .i64 z.y,.int .i64 z.r] 119) [kwZon,z.name] [z.x,z.y,z.r] (by simp)).2 (HPR.out.below (by exact zbl)) (Nat.le_trans (line_small [kwZon,z.name] [z.x,z.y,z.r] (by simp) (by simp) HWS.out HNS.out) (by decide))).mono ?_;rintro e w2 ⟨rfl,hb2⟩)|(go_at_call 143;refine(write_c w1.heap.size tl (lineS [kwZon,z.name] [z.x,z.y,z.r]) _ ((hib.out.below (Below.alloc (Below.refl _ _) (Nat.le_refl _) _)).below (line_below hb2)) (by have:=line_size [kwZon,z.name] [z.x,z.y,z.r] (by simp) (by simp) HWS.out HNS.out;omega)).mono ?_;rintro e w3 ⟨rfl,hib3,hb3⟩))
        rw[←HA.out]
        clear hA
        have hkb:=HKB.out
        have i7:Hid (wrap64 ((k:Int)+1)=(k:Int)+1):=zh (by rw[←IntWalk.i64_left];exact IntWalk.i64_in _ (by omega))
        go_roundw
        case rel=>
         have hls:=line_size [kwZon,z.name] [z.x,z.y,z.r] (by simp) (by simp) HWS.out HNS.out
         have hlb2:=line_below hb2
         have hz1:(wr.alloc (.cells #[.string z.name,.int .i64 z.x,.int .i64 z.y,.int .i64 z.r] 119)).heap.size=wr.heap.size+1:=by simp
         refine⟨k+1,tl++(lineS [kwZon,z.name] [z.x,z.y,z.r]).data.toList,by omega,by rw[i7.out];exact congrArg (Value.int IntKind.i64) (by omega),zh hib3,zh ?_,?_,?_⟩
         ·rw[flat_succ _ hlt,←HST.out,←List.append_assoc,←htl.out]
          simp only[zonT,zonW]
         ·rw[List.length_append,size_toList,show(1+g.sta.length+g.mov.length)+(k+1)=(1+g.sta.length+g.mov.length)+k+1 by omega,Nat.succ_mul]
          have:=HTN.out
          omega
         ·exact hb.trans ((Below.alloc (Below.refl _ wr) (by omega) _).trans ((hlb2.mono (by omega)).trans hb3))
        case measure=>
         have hh:(intOf (.int .i64 (wrap64 ((k:Int)+1)))).toNat=k+1:=by rw[i7.out];rfl
         exact Nat.sub_lt_sub_left hlt (by rw[hh];exact Nat.lt_succ_self k)
       ·have hkl:k=g.zon.length:=by omega
        have htl2:tl=headT g.blur++(g.sta.map staT).flatten++(g.mov.map movT).flatten++(g.zon.map zonT).flatten:=by rw[htl.out,hkl,List.take_length]
        have htn2:tl.length≤((1+g.sta.length+g.mov.length)+g.zon.length)*600007:=by rw[←hkl];exact htn
        have HTL:=zh htl2
        have HTN:=zh htn2
        clear hkl htl htn htl2 htn2
        have HI4:=zh hib.out
        go_wp2_with (go_at_call 145;refine(Tryz.Builder_String_any w1.heap.size w1.heap.size tl _ HI4.out (Nat.le_of_lt HI4.out.lt)).mono ?_;rintro e w5 ⟨rfl,hb5⟩)
        go_ret2
        exact⟨by rw[hpt.out,HE.out,HTL.out];rfl,HBW1.out.trans ((hb.trans hb5).mono (by have:=HBW1.out.size;omega))⟩
 ·have hz1':(gridC g !=0)=true:=by rw[bne_iff_ne];exact he
  have hpt:=zh (show printT g=⟨#[]⟩ by unfold printT;rw[if_neg he])
  have HE:=zh he;clear he
  go_enter Tryz.func81,Tryz.ntmps81
  go_wp2_with (go_at_call 66;refine(CheckGrid_c a g _ hs HG.out HK.out).mono ?_;rintro e w1 ⟨rfl,hb1⟩)
  go_ret2
  exact⟨by rw[hpt.out];rfl,by exact zbl⟩
end Go.Proofs.YtehnikhicnnnhaaGreatDoor
/- line: words and integers as a line of text. | Builders that hold text; the lines of a grid. | Print. -/
import Derived.Test.YtehnikhicnnnhaaGreatDoorPa05
import Derived.Test.YtehnikhicnnnhaaGreatDoorPa17
import Derived.Lib.AppendIntMem
import Derived.Lib.ItoaLen
namespace Go.Proofs.YtehnikhicnnnhaaGreatDoor
open Go.RowKit
def PowAt(w:World):Prop:=Lib.TabIs Tryz.prog w "internal/strconv.uint64pow10" .u64 Lib.pow10Tab
theorem PowAt.below{w w':World}(h:PowAt w)(hb:Below w.heap.size w w'):PowAt w':=Lib.tabBelow_of_tabIs h w' hb
def itoaS(n:Int):ByteArray:=⟨(Lib.itoa n).toArray⟩
theorem grow_below(w:World)(k:Nat)(os:Array Obj):Below w.heap.size w (Go.Sort.grow (w.drewN k) os):=
 ⟨rfl,rfl,rfl,by simp[Go.Sort.grow],fun i hi=>by show(w.heap++os)[i]? =w.heap[i]?;rw[Array.getElem?_append_left hi]⟩
theorem itoa_c(n:Int)(h0: -9223372036854775808≤n)(h1:n≤9223372036854775807)(w:World)(hp:PowAt w):
 Calls Tryz.prog 188 #[.int .i64 n] w fun e w'=>e=.returned (.string (itoaS n))∧Below w.heap.size w w':=by
 refine(Tryz.strconv_Itoa n h0 h1 w hp).mono ?_
 rintro e w' ⟨rfl,k,os,rfl⟩
 exact⟨rfl,grow_below w k os⟩
set_option maxRecDepth 100000 in
set_option maxHeartbeats 2000000 in
theorem mappedI_c(A:Option Addr)(c:Nat)(ns:List Int)(w:World)(hl:ns.length≤1000)(hb:∀n∈ns, -9223372036854775808≤n∧n≤9223372036854775807)(hr:IntsR w w.heap.size A ns)(hp:PowAt w):
 Calls Tryz.prog 187 #[.slice A ns.length c,.func (.func 188) #[] #[]] w fun e w'=>∃v,e=.returned v∧OwnS w' w.heap.size v (ns.map itoaS)∧Below w.heap.size w w':=by
 obtain⟨i0,hi,hz0,hz1,hz2⟩:=info_parts Tryz.infoStr
 have HR:=zh hr;clear hr
 have HP:=zh hp;clear hp
 have HB:=zh hb;clear hb
 go_enter Tryz.func187,Tryz.ntmps187
 go_wp2_with fail
 go_loopw [5,10] (fun v i wr=>∃k:Nat,k≤ns.length∧i=.int .i64 k∧OwnS wr w.heap.size v ((ns.take k).map itoaS)∧Below w.heap.size w wr) (fun _ i _=>ns.length-(intOf i).toNat)
 case atStart=>exact⟨0,Nat.zero_le _,rfl,OwnS.nil_ _ _,Below.refl _ _⟩
 case round=>
  obtain⟨k,hk,rfl,hown,hb⟩:=hrel
  have hbs:=hb.size
  by_cases hlt:k<ns.length
  ·obtain⟨x,hx⟩:∃x,x=ns[k]:=⟨_,rfl⟩
   have hxb:=HB.out x (by rw[hx];exact List.getElem_mem hlt)
   obtain⟨b,off,rfl,hbl,c0⟩:=IntsR.get (Rw.belowB HR.out (w0:=w) hb (Nat.le_refl _)) hlt
   rw[←hx]at c0
   obtain⟨nl,hnl⟩:∃nl,nl=(ns.take k).map itoaS:=⟨_,rfl⟩
   have hnn:nl.length≤1000:=by rw[hnl];simp;omega
   have hst:(ns.take (k+1)).map itoaS=nl++ [itoaS x]:=by rw[List.take_succ_eq_append_getElem hlt,List.map_append,←hnl,hx];rfl
   rw[←hnl]at hown
   have HST:=zh hst
   have HPW:=zh (HP.out.below hb)
   clear hx hnl hst
   go_wp2_with (first|(refine(itoa_c x hxb.1 hxb.2 _ HPW.out).mono ?_;rintro e w2 ⟨rfl,hb2⟩)|(at_builtin;refine wpList_append_own _ rfl _ _ 90 rfl w.heap.size 9 i0 (.string ⟨#[]⟩) 1 16 Tryz.underlying90 hi hz0 hz1 hz2 rfl (by decide) _ _ _ rfl ((hown.below hb2).alloc _) ⟨w2.heap.size,0,none⟩ 1 1 [.string (itoaS x)] rfl rfl ?c1 ?c2 ?c3 ?c4 ?c5 ?_))
   case c1=>
    intro j u hj
    match j,hj with
    |0,hj=>simp at hj;subst hj;simp[Addr.add,cells_new]
   case c2=>intro u hu;simp at hu;subst hu;rfl
   case c3=>unfold maxLen;omega
   case c4=>omega
   case c5=>have:=hb2.size;simp;omega
   intro v' w4 hown' hgrow _
   go_wp2_with fail
   go_roundw
   case rel=>exact⟨k+1,by omega,by go_num,by rw[HST.out];exact OwnS.app hown',Below.grown (by exact zbl) hgrow (by have:=hb2.size;simp;omega) (fun j e=>(World.ownsRow.lt hown j e).1)⟩
   case measure=>simp[intOf];omega
  ·go_wp2_with fail
   go_ret
   have hkl:k=ns.length:=by omega
   subst hkl
   rw[List.take_length]at hown
   exact⟨_,rfl,hown,hb⟩
def lineS(ws:List ByteArray)(ns:List Int):ByteArray:=⟨(Lib.join ((ws++ns.map itoaS).map (fun s:ByteArray=>s.data.toList)) [32]++ [10]).toArray⟩
set_option maxRecDepth 100000 in
set_option maxHeartbeats 2000000 in
theorem line_c(bw:Nat)(A:Option Addr)(c:Nat)(ws:List ByteArray)(ns:List Int)(w:World)(hlw:ws.length≤1000)(hl:ns.length≤1000)(hne:ns≠ [])(hb:∀n∈ns, -9223372036854775808≤n∧n≤9223372036854775807)
 (hw:OwnS w bw (.slice (some ⟨bw,0,none⟩) ws.length ws.length) ws) (hr:IntsR w w.heap.size A ns) (hp:PowAt w) (hlen:(Lib.join ((ws++ns.map itoaS).map (fun s:ByteArray=>s.data.toList)) [32]).length≤1000000):
 Calls Tryz.prog 144 #[.slice (some ⟨bw,0,none⟩) ws.length ws.length,.slice A ns.length c] w fun e w'=>e=.returned (.string (lineS ws ns))∧Below bw w w':=by
 obtain⟨i0,hi,hz0,hz1,hz2⟩:=info_parts Tryz.infoStr
 have HM:=zh (mappedI_c A c ns w hl hb hr hp)
 have HW:=zh hw
 have hbl:=(World.ownsRow.lt hw bw rfl).2
 have hnl:0<ns.length:=by cases ns with|nil=>exact absurd rfl hne|cons a l=>simp
 clear hb hr hp hw
 go_enter Tryz.func144,Tryz.ntmps144
 obtain⟨xs,hxs⟩:∃xs,xs=ns.map itoaS:=⟨_,rfl⟩
 have hxl:xs.length=ns.length:=by rw[hxs];simp
 have HXS:=zh hxs
 have HXL:=zh hxl
 have hxl2:xs.length≤1000:=by omega
 clear hxs hxl
 go_wp2_with (first|(refine HM.out.mono ?_;rintro e w1 ⟨v,rfl,hown,hb1⟩;rw[←HXS.out]at hown;(obtain⟨g,cap,hv,hgb,hglt⟩:=World.ownsRow.form hown (by have:=HXL.out;omega));subst hv;(have HOW:=zh hown);clear hown)|(at_builtin;refine wpList_append_own _ rfl _ _ 90 rfl bw 9 i0 (.string ⟨#[]⟩) 1 16 Tryz.underlying90 hi hz0 hz1 hz2 rfl (by decide) _ _ _ rfl (OwnS.below HW.out hb1) ⟨g,0,none⟩ xs.length cap (xs.map Value.string) rfl (by simp) ?c1 ?c2 ?c3 ?c4 ?c5 ?_))
 case c1=>
  intro j u hj
  exact HOW.out.cells (g:=g) rfl j u hj
 case c2=>intro u hu;obtain⟨x,_,rfl⟩:=List.mem_map.1 hu;rfl
 case c3=>unfold maxLen;omega
 case c4=>omega
 case c5=>have:=hb1.size;omega
 intro v' w4 hown' hgrow _
 have ho4:OwnS w4 bw v' (ws++xs):=by unfold OwnS;simpa using hown'
 obtain⟨A4,c4,rfl,hc4,hs4,hf4⟩:=ho4.sl
 obtain⟨b4,o4,rfl,hb4,hx4⟩:=hs4 (by have:=HXL.out;intro h;have h2:=congrArg List.length h;rw[List.length_map,List.length_append,List.length_nil]at h2;omega)
 have hJ0:=(Tryz.strings_Join b4 o4 c4 (ws++xs) ⟨#[32]⟩ w4 (fun j x hj=>by
  have hj':=(List.getElem?_eq_some_iff.1 hj).1
  have:=hx4 j (by simpa using hj') 0 (.string x) (by rw[List.getElem_map];have:=(List.getElem?_eq_some_iff.1 hj).2;simp[this])
  simpa using this) hb4 (by simp;omega) hc4 (by rw[HXS.out];exact Nat.le_trans hlen (by decide)))
 rw[List.length_append]at hJ0
 have hJ:=zh hJ0
 have HLN:=zh hlen
 have hbb:Below bw w w4:=Below.grown (hb1.mono (Nat.le_of_lt hbl)) hgrow (by have:=hb1.size;omega) (fun k e=>by cases e;exact Nat.le_refl _)
 obtain⟨js,hjs⟩:∃js:ByteArray,js=⟨(Lib.join ((ws++xs).map (fun s:ByteArray=>s.data.toList)) [32]).toArray⟩:=⟨_,rfl⟩
 have hjl:js.size≤1000000:=by rw[hjs,HXS.out];exact hlen
 have HJS:=zh hjs
 clear hJ0 hlen hown' ho4 hx4 hjs
 go_wp2_with (go_at_call 186;refine hJ.out.mono ?_;rintro e w5 ⟨rfl,hb5⟩;rw[←HJS.out])
 go_ret
 exact⟨by rw[HJS.out,HXS.out];rfl,hbb.trans (hb5.mono (by have:=hbb.size;omega))⟩
def IsB(w:World)(b:Nat)(l:List UInt8):Prop:=Lib.IsBuilder 220 5 b b (Lib.byteCells l) w
theorem IsB.new(w:World):IsB (w.alloc (.cells #[.pointer none,.slice none 0 0] 220)) w.heap.size []:=
 .inl ⟨Nat.le_refl _,.slice none 0 0,heap_alloc_new _ _,World.ownsRow_nil _ _ _ _,by simp[Value.ownBlock]⟩
theorem IsB.below{w w':World}{b:Nat}{l:List UInt8}(h:IsB w b l)(hb:Below w.heap.size w w'):IsB w' b l:=by
 have key:∀p,Lib.BuilderAt 220 5 b b p (Lib.byteCells l) w→Lib.BuilderAt 220 5 b b p (Lib.byteCells l) w':=fun p h1=>by
  have hlt:=h1.lt
  obtain⟨h2,v,h3,h4,h5⟩:=h1
  exact⟨h2,v,(hb.block b hlt).trans h3,World.ownsRow.kept h4 (row:=none) (grown_of hb) (by cases v.ownBlock<;>simp),h5⟩
 exact h.elim (fun x=>.inl (key _ x)) (fun x=>.inr (key _ x))
theorem IsB.lt{w:World}{b:Nat}{l:List UInt8}(h:IsB w b l):b<w.heap.size:=h.elim (fun x=>x.lt) (fun x=>x.lt)
theorem write_c(b:Nat)(l:List UInt8)(s:ByteArray)(w:World)(h:IsB w b l)(hlen:l.length+s.size≤140737488355328):
 Calls Tryz.prog 143 #[.pointer (some ⟨b,0,none⟩),.string s] w fun e w'=>e=.returned (.tuple #[.int .i64 s.size,.nilIface])∧IsB w' b (l++s.data.toList)∧Below b w w':=by
 refine(wstr_c b b (Lib.byteCells l) s w h (by rw[Lib.byteCells_length];exact hlen) (Nat.le_of_lt h.lt)).mono ?_
 rintro e w' ⟨rfl,h1,h2⟩
 refine⟨rfl,?_,h2⟩
 unfold IsB
 rw[show Lib.byteCells (l++s.data.toList)=Lib.byteCells l++Lib.strCells s by simp[Lib.byteCells,Lib.strCells]]
 exact h1
theorem lit_line(wr:World)(X:Obj)(ws:List ByteArray)(ns:List Int)(h1:ws.length≤1000):
 OwnS (((wr.alloc X).alloc (.cells (ws.map Value.string).toArray 9)).alloc (.cells (ns.map (Value.int .i64)).toArray 3)) (wr.heap.size+1) (.slice (some ⟨wr.heap.size+1,0,none⟩) ws.length ws.length) ws∧
 IntsR (((wr.alloc X).alloc (.cells (ws.map Value.string).toArray 9)).alloc (.cells (ns.map (Value.int .i64)).toArray 3)) (((wr.alloc X).alloc (.cells (ws.map Value.string).toArray 9)).alloc (.cells (ns.map (Value.int .i64)).toArray 3)).heap.size (some ⟨wr.heap.size+1+1,0,none⟩) ns:=by
 constructor
 ·have h:=World.ownsRow_lit (base:=wr.heap.size+1) (e:=9) (size:=1) (wr.alloc X) (ws.map Value.string).toArray ws.length (by simp) (by unfold maxLen;omega) (by simp)
  rw[World.size_alloc]at h
  exact World.ownsRow.alloc (by simpa using h) _
 ·intro hn
  refine⟨wr.heap.size+1+1,0,rfl,by simp,fun k hk j v hj=>?_⟩
  rw[List.length_map]at hk
  rw[List.getElem_map]at hj
  cases j with
  |succ j=>simp at hj
  |zero=>
   simp only[List.getElem?_cons_zero,Option.some.injEq]at hj
   subst hj
   rw[cells_new _ _ (by simp)]
   simp[hk]
theorem itoa_len{n:Int}(h0:0≤n)(h1:n≤9223372036854775807):(Lib.itoa n).length≤20:=by
 unfold Lib.itoa
 rw[if_neg (by omega),Lib.decDigits_length]
 exact Lib.nDigits_le20 _ (by omega)
def kwGrid:ByteArray:=⟨#[103,114,105,100]⟩
def kwSta:ByteArray:=⟨#[115,116,97,116,105,111,110]⟩
def kwMov:ByteArray:=⟨#[109,111,118,101]⟩
def kwZon:ByteArray:=⟨#[122,111,110,101]⟩
def staW(s:Sta):List ByteArray:= [kwSta,s.name,s.kind]
def zonW(z:Zon):List ByteArray:= [kwZon,z.name]
def staT(s:Sta):List UInt8:=(lineS (staW s) [s.x,s.y]).data.toList
def movT(m:Mov):List UInt8:=(lineS [kwMov] [m.a,m.b,m.s]).data.toList
def zonT(z:Zon):List UInt8:=(lineS (zonW z) [z.x,z.y,z.r]).data.toList
def headT(n:Int):List UInt8:=(lineS [kwGrid] [n]).data.toList
def textG(g:Grd):List UInt8:=headT g.blur++(g.sta.map staT).flatten++(g.mov.map movT).flatten++(g.zon.map zonT).flatten
theorem flat_succ{α:Type}(f:α→List UInt8){l:List α}{k:Nat}(hk:k<l.length):((l.take (k+1)).map f).flatten=((l.take k).map f).flatten++f l[k]:=by
 rw[List.take_succ_eq_append_getElem hk,List.map_append,List.flatten_append];simp
theorem join2(a b:List UInt8):Lib.join [a,b] [32]=a++32::b:=by simp[Lib.join,List.intercalate,List.intersperse]
theorem join4(a b c d:List UInt8):Lib.join [a,b,c,d] [32]=a++32::(b++32::(c++32::d)):=by simp[Lib.join,List.intercalate,List.intersperse]
theorem join5(a b c d e:List UInt8):Lib.join [a,b,c,d,e] [32]=a++32::(b++32::(c++32::(d++32::e))):=by simp[Lib.join,List.intercalate,List.intersperse]
theorem chkS_kind{l:List Sta}:∀{pre:List ByteArray},chkS pre l=0→∀s∈l,s.kind.size≤7:=by
 induction l with
 |nil=>simp
 |cons z l ih=>
  intro pre h s hs
  unfold chkS at h
  split at h
  ·rename_i he
   rcases List.mem_cons.1 hs with rfl|hs
   ·have h1:memS kinds s.kind=true:=by
     have h2:=whn_zero (n:=13) (firstErr_zero he (whn (!memS kinds s.kind) 13) (by simp)) (by decide)
     simpa using h2
    unfold memS at h1
    obtain⟨x,hx,he2⟩:=List.any_eq_true.1 h1
    have h3:s.kind.data.toList=x.data.toList:=by unfold sEq at he2;simpa using he2
    have h4:s.kind.size=x.size:=by
     have:=congrArg List.length h3
     simpa using this
    rw[h4]
    have h5:∀y∈kinds,y.size≤7:=by decide
    exact h5 x hx
   ·exact ih h s hs
  ·rename_i he;exact absurd h he
def printT(g:Grd):ByteArray:=if gridC g=0 then⟨(textG g).toArray⟩else⟨#[]⟩
theorem line_len2(a b:ByteArray):(Lib.join [a.data.toList,b.data.toList] [32]).length=a.size+b.size+1:=by
 rw[join2];simp;omega
theorem size_toList(a:ByteArray):a.data.toList.length=a.size:=by simp
theorem flat_len_le{α:Type}(f:α→List UInt8)(n:Nat):∀(l:List α),(∀x∈l,(f x).length≤n)→(l.map f).flatten.length≤l.length*n
 | [],_=>by simp
 |x::l,h=>by
  have h1:=h x (by simp)
  have h2:=flat_len_le f n l (fun y hy=>h y (by simp[hy]))
  simp only[List.map_cons,List.flatten_cons,List.length_append,List.length_cons,Nat.succ_mul]
  omega
theorem lineS_len(ws:List ByteArray)(ns:List Int):(lineS ws ns).size=(Lib.join ((ws++ns.map itoaS).map (fun s:ByteArray=>s.data.toList)) [32]).length+1:=by
 unfold lineS;simp[ByteArray.size]
theorem join_len(xs:List (List UInt8))(n:Nat)(h:∀x∈xs,x.length≤n):(Lib.join xs [32]).length≤xs.length*(n+1):=by
 induction xs with
 |nil=>simp[Lib.join,List.intercalate]
 |cons x l ih=>
  have h1:=h x (by simp)
  cases l with
  |nil=>rw[Lib.join_one];simp;omega
  |cons y l=>
   have h2:=ih (fun z hz=>h z (by simp[hz]))
   have e:Lib.join (x::y::l) [32]=x++32::Lib.join (y::l) [32]:=by simp[Lib.join,List.intercalate,List.intersperse]
   rw[e]
   simp only[List.length_append,List.length_cons,Nat.succ_mul]at h2 ⊢
   omega
theorem line_small(ws:List ByteArray)(ns:List Int)(h1:ws.length≤3)(h2:ns.length≤3)(hw:∀s∈ws,s.size≤100000)(hn:∀n∈ns,0≤n∧n≤9223372036854775807):(Lib.join ((ws++ns.map itoaS).map (fun s:ByteArray=>s.data.toList)) [32]).length≤600006:=by
 have h:=join_len ((ws++ns.map itoaS).map (fun s:ByteArray=>s.data.toList)) 100000 (fun x hx=>by
  obtain⟨s,hs,rfl⟩:=List.mem_map.1 hx
  rcases List.mem_append.1 hs with hs|hs
  ·have:=hw s hs;rw[size_toList];exact this
  ·obtain⟨n,hn',rfl⟩:=List.mem_map.1 hs
   have:=itoa_len (hn n hn').1 (hn n hn').2
   show(Lib.itoa n).toArray.toList.length≤100000
   simp;omega)
 refine Nat.le_trans h ?_
 simp only[List.length_map,List.length_append]
 omega
theorem line_below{wr:World}{X Y Z:Obj}{w2:World}(hb:Below (wr.heap.size+1) (((wr.alloc X).alloc Y).alloc Z) w2):Below (wr.alloc X).heap.size (wr.alloc X) w2:=
 (Below.alloc (Below.alloc (Below.refl _ (wr.alloc X)) (by simp) _) (by simp) _).trans (hb.mono (by simp))
theorem line_size(ws:List ByteArray)(ns:List Int)(h1:ws.length≤3)(h2:ns.length≤3)(hw:∀s∈ws,s.size≤100000)(hn:∀n∈ns,0≤n∧n≤9223372036854775807):(lineS ws ns).size≤600007:=by
 rw[lineS_len];have:=line_small ws ns h1 h2 hw hn;omega
end Go.Proofs.YtehnikhicnnnhaaGreatDoor
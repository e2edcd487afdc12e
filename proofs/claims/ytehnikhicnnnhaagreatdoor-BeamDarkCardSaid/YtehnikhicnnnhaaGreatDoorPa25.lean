/- The examples of the document: the plain answers at the grid and the field that awake() checks. | plane, dusk: the grid and the field of the document's examples, in memory. | awake(): what each call of it answers, in literal words; has. | Lemmas for awake(): boxes, slices of empty rounds. | Taken: a mirror that does not stand is not taken. -/
import Derived.Test.YtehnikhicnnnhaaGreatDoorPa11
import Derived.Test.YtehnikhicnnnhaaGreatDoorPa18
import Derived.Test.YtehnikhicnnnhaaGreatDoorPa23
import Derived.Test.YtehnikhicnnnhaaGreatDoorPa24
namespace Go.Proofs.YtehnikhicnnnhaaGreatDoor
open Go.RowKit
def planeG:Grd:=⟨5,[⟨⟨#[102]⟩,⟨#[102,111,99,117,115]⟩,500,500⟩,⟨⟨#[97]⟩,⟨#[115,116,97,110,100,98,121]⟩,400,500⟩,⟨⟨#[98]⟩,⟨#[115,116,97,110,100,98,121]⟩,500,300⟩,⟨⟨#[115]⟩,⟨#[115,116,111,119]⟩,0,0⟩],[⟨0,1,4⟩,⟨0,2,6⟩,⟨1,2,3⟩,⟨1,3,10⟩,⟨2,3,9⟩],[⟨⟨#[98,105,114,100]⟩,500,400,20⟩]⟩
def cutG:Grd:= {planeG with mov:=planeG.mov.tail}
def zoneG:Grd:=⟨5,[],[],planeG.zon⟩
def mirG(loc:Int)(way:List Int)(left heard:Int):Mir:=⟨⟨#[109]⟩,⟨#[110]⟩,loc,way,left,heard⟩
def fieldOf(tick loc:Int)(way:List Int)(left heard:Int):Fld:=⟨tick,3,[mirG loc way left heard]⟩
def duskF:Fld:=fieldOf 10 0 [] 0 9
def ordS:Ord:=⟨⟨#[109]⟩,⟨#[115]⟩,false⟩
def ordF:Ord:=⟨⟨#[109]⟩,⟨#[102]⟩,false⟩
theorem planeG_ok:gridC planeG=0:=by kernel_rfl
theorem zoneG_ok:gridC zoneG=0:=by kernel_rfl
theorem planeG_safe:safeMs planeG planeG.mov= [0,2,3,4]:=by kernel_rfl
theorem planeG_way03:wayG planeG 0 3=some ⟨[0,1,3],14⟩:=by kernel_rfl
theorem planeG_way02:wayG planeG 0 2=some ⟨[0,1,2],7⟩:=by kernel_rfl
theorem planeG_wayE03:wayE planeG 0 3=0:=by kernel_rfl
theorem planeG_wayE02:wayE planeG 0 2=0:=by kernel_rfl
theorem planeG_homes:homesL planeG= [1,1,2,2]:=by kernel_rfl
theorem planeG_from0:fromC planeG [0]=0:=by kernel_rfl
theorem planeG_reach:reachG planeG 0= [0,1,2,3]:=by kernel_rfl
theorem planeG_steps:stepsR planeG [0,1,2,3]=(16,0):=by kernel_rfl
theorem cutG_barE:barE cutG 0 3=0:=by kernel_rfl
theorem cutG_barL:barL cutG 0 3= [0]:=by kernel_rfl
theorem cutG_cb:cbR cutG 0 3 [0,1]=19:=by kernel_rfl
theorem dusk_ok:fieldC planeG duskF=0:=by kernel_rfl
theorem dusk_dl:darkG planeG (stepN planeG duskF 6)=true∧∀k<6,darkG planeG (stepN planeG duskF k)=false:=by
 refine⟨by kernel_rfl,?_⟩
 decide +kernel
theorem dusk_lit:litG planeG duskF= [⟨#[109]⟩]:=by kernel_rfl
def fF:Fld:=fieldOf 10 0 [1,3] 4 10
def gF:Fld:=fieldOf 11 0 [1,3] 3 10
def kF:Fld:=fieldOf 11 0 [1,0] 3 11
def xF:Fld:=fieldOf 13 0 [1] 3 9
def yF:Fld:=fieldOf 16 1 [] 0 9
def zF:Fld:=fieldOf 10 0 [1] 4 10
theorem dusk_f:hrdF planeG duskF ordS=fF:=by kernel_rfl
theorem dusk_fE:hrdE planeG duskF ordS=0:=by kernel_rfl
theorem dusk_gE:stpE planeG fF=0:=by kernel_rfl
theorem dusk_g:stepG planeG fF=gF:=by kernel_rfl
theorem dusk_kE:hrdE planeG gF ordF=0:=by kernel_rfl
theorem dusk_k:hrdF planeG gF ordF=kF:=by kernel_rfl
theorem dusk_xE:runE planeG duskF 3=0:=by kernel_rfl
theorem dusk_x:runF planeG duskF [[],[],[]]=xF:=by kernel_rfl
theorem dusk_yE:runE planeG duskF 6=0:=by kernel_rfl
theorem dusk_y:runF planeG duskF [[],[],[],[],[],[]]=yF:=by kernel_rfl
theorem dusk_yok:fieldC planeG yF=0:=by kernel_rfl
theorem dusk_dark:darkG planeG yF=true:=by kernel_rfl
theorem dusk_zE:defE planeG duskF ⟨#[110]⟩=0:=by kernel_rfl
theorem dusk_z:defF planeG duskF ⟨#[110]⟩=zF:=by kernel_rfl
theorem zone_text:printT zoneG= "grid 5\nzone bird 500 400 20\n".toUTF8 :=by kernel_rfl
theorem small_plane:SmallG planeG:=⟨by decide,by decide,by decide,by decide,by decide⟩
theorem small_cut:SmallG cutG:=⟨by decide,by decide,by decide,by decide,by decide⟩
theorem small_zone:SmallG zoneG:=⟨by decide,by decide,by decide,by decide,by decide⟩
theorem set4_block{W:World}{b:Nat}{T:TypeId}{a0 a1 a2 a3 v0 v1 v2 v3:Value}(h:W.heap[b]? =some (.cells #[a0,a1,a2,a3] T (0,0))):
 ((((W.setCell ⟨b,0,none⟩ v0).setCell ⟨b,1,none⟩ v1).setCell ⟨b,2,none⟩ v2).setCell ⟨b,3,none⟩ v3).heap[b]? =some (.cells #[v0,v1,v2,v3] T (0,0)):=
 heap_setCell_same _ b 3 _ T v3 (heap_setCell_same _ b 2 _ T v2 (heap_setCell_same _ b 1 _ T v1 (heap_setCell_same W b 0 _ T v0 h)))
theorem Tryz.res_grid{fn:Func}{t:Tmp}(h:fn.results= #[.cell t 38])(tmps:Array Value)(w:World){b:Nat}{T:TypeId}{v0 v1 v2 v3:Value}(ht:tmps.getD t undef=.pointer (some ⟨b,0,none⟩))(hb:w.heap[b]? =some (.cells #[v0,v1,v2,v3] T (0,0))):
 (results fn tmps).run Tryz.prog w=.ok (.agg #[v0,v1,v2,v3]) w:=by
 have c0:w.cell? ⟨b,0,none⟩=some v0:=by rw[cell_of_row w _ 0 _ _ _ hb];rfl
 have c1:w.cell? ⟨b,1,none⟩=some v1:=by rw[cell_of_row w _ 1 _ _ _ hb];rfl
 have c2:w.cell? ⟨b,2,none⟩=some v2:=by rw[cell_of_row w _ 2 _ _ _ hb];rfl
 have c3:w.cell? ⟨b,3,none⟩=some v3:=by rw[cell_of_row w _ 3 _ _ _ hb];rfl
 rw[Array.getD_eq_getD_getElem?]at ht
 simp only[results,h]
 simp[go_sem,ht,c0,c1,c2,c3]
theorem Rw.of_block{w:World}{B sz b:Nat}{T:TypeId}{vs:List Value}{l:List (List Value)}(hb:w.heap[b]? =some (.cells vs.toArray T (0,0)))(hlt:b<B)
 (h:∀k (hk:k<l.length) (j:Nat) (v:Value),l[k][j]? =some v→vs[k*sz+j]? =some v):Rw w B sz (some ⟨b,0,none⟩) l:=fun _=>
 ⟨b,0,rfl,hlt,fun k hk j v hv=>by
   rw[cell_of_row w _ _ _ _ _ hb]
   have:=h k hk j v hv
   simpa using this⟩
theorem Rw.of_flat{w:World}{B sz b:Nat}{T:TypeId}{vs:Array Value}{l:List (List Value)}(hb:w.heap[b]? =some (.cells vs T (0,0)))(hlt:b<B)(hv:vs.toList=l.flatten)(h:∀x∈l,x.length=sz):Rw w B sz (some ⟨b,0,none⟩) l:=
 Rw.of_block (vs:=l.flatten) (by rw[←hv];exact hb) hlt fun k hk j v hj=>flatten_at h k hk j v hj
set_option maxRecDepth 100000 in
set_option maxHeartbeats 2000000 in
theorem plane_c(w:World):Calls Tryz.prog 88 #[] w fun e w'=>∃a,e=.returned (.agg #[.int .i64 5,.slice a.pS 4 a.cs,.slice a.pM 5 a.cm,.slice a.pZ 1 a.cz])∧GridR w' w'.heap.size a planeG∧(∀p,a.pM=some p→p.off=0)∧a.cm=5∧Below w.heap.size w w':=by
 go_enter Tryz.func88,Tryz.ntmps88
 go_wp2_with fail
 refine bodyPost_ret (Tryz.res_grid rfl _ _ rfl (heap4_0 _ _ _ _ _)) rfl ?_
 refine⟨⟨some ⟨w.heap.size+1,0,none⟩,some ⟨w.heap.size+1+1,0,none⟩,some ⟨w.heap.size+1+1+1,0,none⟩,4,5,1⟩,rfl,⟨?_,?_,?_,Nat.le_refl _,Nat.le_refl _,Nat.le_refl _⟩,fun p hp=>?_,rfl,by exact zbl⟩
 ·exact Rw.of_flat (heap4_1 _ _ _ _ _) (by simp) rfl (by decide)
 ·exact Rw.of_flat (heap4_2 _ _ _ _ _) (by simp) rfl (by decide)
 ·exact Rw.of_flat (heap4_3 _ _ _ _ _) (by simp) rfl (by decide)
 ·cases hp;rfl
set_option maxHeartbeats 2000000 in
theorem dusk_c(w:World):Calls Tryz.prog 89 #[] w fun e w'=>∃A c,e=.returned (.agg #[.int .i64 10,.int .i64 3,.slice A 1 c])∧FldR w' w'.heap.size A c [⟨mirG 0 [] 0 9,none,0⟩]∧Below w.heap.size w w':=by
 go_enter Tryz.func89,Tryz.ntmps89
 go_wp2_with fail
 refine bodyPost_ret (Tryz.res_fld rfl _ _ rfl ((Below.heap_alloc _ _ _ (by simp)).trans (heap_alloc_new w _))) rfl ?_
 refine⟨some ⟨w.heap.size+1,0,none⟩,1,rfl,⟨?_,?_,Nat.le_refl _⟩,by exact zbl⟩
 ·exact Rw.of_flat (heap_two _ _ _) (by simp) rfl (by decide)
 ·intro x hx
  simp only[List.mem_singleton]at hx
  subst hx
  exact⟨fun h=>absurd rfl h,Nat.le_refl _⟩
theorem PowAt.to{w W:World}(h:PowAt w)(hb:Below w.heap.size w W):PowAt W:=h.below hb
set_option maxHeartbeats 2000000 in
theorem has_c'(tk ls loc left heard:Int)(way:List Int)(n:Nat)(A Am Al:Option Addr)(c cm cl:Nat)(w:World)(hn:way.length=n)(hl:n≤1000)(hf:FldR w w.heap.size A c [⟨mirG loc way left heard,Am,cm⟩])(hi:IntsR w w.heap.size Al way):
 Calls Tryz.prog 91 #[.agg #[.int .i64 tk,.int .i64 ls,.slice A 1 c],.int .i64 tk,.int .i64 loc,.int .i64 left,.int .i64 heard,.slice Al n cl] w fun e w'=>e=.returned (.bool true)∧Below w.heap.size w w':=by
 subst hn
 obtain⟨b,off,rfl,hb,c0,c1,c2,c3,c4,c5⟩:=hf.rw_.get6 (k:=0) (by simp) rfl
 have hm:=(hf.each _ (List.mem_singleton.2 rfl)).way
 rw[Nat.zero_mul,Nat.add_zero]at c0 c1 c2 c3 c4 c5
 simp only[mirG]at c0 c1 c2 c3 c4 c5 hm
 have HM:=zh hm
 have HI:=zh hi
 clear hf hm hi
 go_enter Tryz.func91,Tryz.ntmps91
 go_wp2_with (go_at_call 56;refine(sameInts_c _ _ _ _ way way _ (by omega) (HM.out.to (by exact zbl)) (HI.out.to (by exact zbl))).mono ?_;rintro e w1 ⟨rfl,hb1⟩)
 go_ret
 exact⟨ret_bool (by simp),by exact zbl⟩
theorem IntsR.new{w:World}{T:TypeId}{l:List Int}{vs:Array Value}(hv:vs.toList=(l.map fun t=> [Value.int .i64 t]).flatten):IntsR (w.alloc (.cells vs T (0,0))) (w.alloc (.cells vs T (0,0))).heap.size (some ⟨w.heap.size,0,none⟩) l:=
 Rw.of_flat (heap_alloc_new _ _) (by simp) hv (by intro x hx;obtain⟨t,_,rfl⟩:=List.mem_map.1 hx;rfl)
theorem StrsR.new{w:World}{T:TypeId}{l:List ByteArray}{vs:Array Value}(hv:vs.toList=(l.map fun t=> [Value.string t]).flatten):StrsR (w.alloc (.cells vs T (0,0))) (w.alloc (.cells vs T (0,0))).heap.size (some ⟨w.heap.size,0,none⟩) l:=
 Rw.of_flat (heap_alloc_new _ _) (by simp) hv (by intro x hx;obtain⟨t,_,rfl⟩:=List.mem_map.1 hx;rfl)
theorem Rw.tl3{w:World}{B b off:Nat}{x:List Value}{l:List (List Value)}(h:Rw w B 3 (some ⟨b,off,none⟩) (x::l)):Rw w B 3 (some ⟨b,off+3,none⟩) l:=fun _=>by
 obtain⟨b',off',e,hb,hc⟩:=h (by simp)
 cases e
 refine⟨b,off+3,rfl,hb,fun k hk j v hv=>?_⟩
 have:=hc (k+1) (by simpa using hk) j v (by simpa using hv)
 rwa [show off+(k+1)*3+j=off+3+k*3+j by omega]at this
theorem blks_ne{w:World}{B b c cm:Nat}{T:TypeId}{A Am:Option Addr}{loc left heard:Int}{way:List Int}(hf:FldR w B A c [⟨mirG loc way left heard,Am,cm⟩])
 (hb:w.heap[b]? =some (.cells #[.int .i64 0,.int .i64 0,.slice none 0 0] T (0,0))) (hw:way= []∨∃x l,way=x::l∧x≠0):Blks (fun d=>d≠b) A [⟨mirG loc way left heard,Am,cm⟩]:=by
 have key:∀off v,w.cell? ⟨b,off,none⟩=some v→v=.int .i64 0∨v=.slice none 0 0:=by
  intro off v h
  rw[cell_of_row w b off _ _ _ hb]at h
  match off,h with
  |0,h=>left;simpa using h.symm
  |1,h=>left;simpa using h.symm
  |2,h=>right;simpa using h.symm
  |n+3,h=>simp at h
 refine⟨fun _ a ha e=>?_,fun x hx hn a ha e=>?_⟩
 ·obtain⟨b',off,rfl,_,c0,_⟩:=hf.rw_.get6 (k:=0) (by simp) rfl
  cases ha
  simp only at e
  subst e
  rcases key _ _ c0 with h|h<;>cases h
 ·rw[List.mem_singleton.1 hx]at hn ha
  have hi:=(hf.each _ (List.mem_singleton.2 rfl)).way
  rcases hw with hw|⟨y,l,hw,hy⟩
  ·exact hn hw
  ·obtain⟨b',off,e1,_,hc⟩:=hi.at hn
   simp only at ha e1
   rw[ha]at e1
   cases e1
   simp only at e
   subst e
   have h0:=hc 0 (by simp[mirG,hw])
   have hv:(mirG loc way left heard).way[0]'(by simp[mirG,hw])=y:=by simp[mirG,hw]
   rw[hv]at h0
   rcases key _ _ h0 with h|h
   ·injection h with _ h;exact hy h
   ·cases h
theorem RndR.of_box{w:World}{b n:Nat}{T:TypeId}(vs:Array Value)(hb:w.heap[b]? =some (.cells vs T (0,0)))(hv:vs.toList=List.replicate n (.slice none 0 0)):RndR w w.heap.size (some ⟨b,0,none⟩) (List.replicate n ⟨[],none,0⟩):=
 ⟨Rw.of_flat hb (blk_lt hb) (by rw[hv,List.map_replicate];induction n with|zero=>rfl|succ n ih=>simp[List.replicate_succ,encR]) (by intro x hx;obtain⟨y,_,rfl⟩:=List.mem_map.1 hx;rfl),fun x hx=>by
   rw[(List.mem_replicate.1 hx).2];exact fun h=>absurd rfl h⟩
theorem Tryz.infoOs:(Tryz.prog.info? 200).map (fun i=>(i.zero,i.size,i.bytes))=some (some (.slice none 0 0),1,24):=by kernel_rfl
theorem mkRounds(n:Nat)(hn:n≤1000)(W:World):(Instr.makeSlice 88 (.int .i64 n) (.int .i64 n)).run Tryz.prog W=.ok (.slice (some ⟨W.heap.size,0,none⟩) n n) (W.alloc (.cells (madeCells #[.slice none 0 0] n) 200)):=by
 obtain⟨i0,hi,hz0,hz1,hz2⟩:=info_parts Tryz.infoOs
 have:=run_make (P:=Tryz.prog) W 88 200 i0 (.slice none 0 0) Tryz.underlying88 hi hz0 .i64 .i64 (n:Int) (n:Int) (by omega) (Int.le_refl _) (by rw[hz2];omega) (by omega)
 rw[hz1]at this
 simp only[Int.toNat_natCast,Nat.mul_one]at this
 exact this
theorem mkRounds3(W:World):(Instr.makeSlice 88 (.int .i64 3) (.int .i64 3)).run Tryz.prog W=.ok (.slice (some ⟨W.heap.size,0,none⟩) 3 3) (W.alloc (.cells #[.slice none 0 0,.slice none 0 0,.slice none 0 0] 200)):=by
 have h:=mkRounds 3 (by decide) W
 rw[show madeCells #[.slice none 0 0] 3= #[.slice none 0 0,.slice none 0 0,.slice none 0 0] by kernel_rfl]at h
 exact h
theorem mkRounds6(W:World):(Instr.makeSlice 88 (.int .i64 6) (.int .i64 6)).run Tryz.prog W=.ok (.slice (some ⟨W.heap.size,0,none⟩) 6 6) (W.alloc (.cells #[.slice none 0 0,.slice none 0 0,.slice none 0 0,.slice none 0 0,.slice none 0 0,.slice none 0 0] 200)):=by
 have h:=mkRounds 6 (by decide) W
 rw[show madeCells #[.slice none 0 0] 6= #[.slice none 0 0,.slice none 0 0,.slice none 0 0,.slice none 0 0,.slice none 0 0,.slice none 0 0] by kernel_rfl]at h
 exact h
def findR(n:Nat):Code→Option Code
 |.region k ops b=>if k=n then some (.region k ops b)else none
 |.seq a b=>(findR n a).or (findR n b)
 |.block _ c=>findR n c
 |.cond _ a b=>(findR n a).or (findR n b)
 |.scope c=>findR n c
 |_=>none
theorem Tryz.fldZ(v0 v1 v2 v3:Value)(W:World):(Instr.field 38 (.agg #[v0,v1,v2,v3]) 3).run Tryz.prog W=.ok v3 W:=by kernel_rfl
noncomputable def awR(n:Nat):Code:=(findR n (Tryz.f16.body.getD .skip)).getD .skip
set_option maxRecDepth 100000 in
set_option maxHeartbeats 2000000 in
theorem Taken_st(a:GA)(g:Grd)(tk ls:Int)(A:Option Addr)(c:Nat)(xs:List MA)(nm:ByteArray)(i:Nat)(w:World)(hs:SmallG g)(hsf:SmallF xs)(hr:GridR w w.heap.size a g)(hkd:KindsAt w)(hf:FldR w w.heap.size A c xs)
 (h0:fieldC g (fldOf tk ls xs)=0) (hi:findG (fldOf tk ls xs) nm=(i:Int)) (hx:i<xs.length) (hst:standsG g xs[i].m=false):
 Calls Tryz.prog 75 #[(.agg #[.int .i64 g.blur,.slice a.pS g.sta.length a.cs,.slice a.pM g.mov.length a.cm,.slice a.pZ g.zon.length a.cz]),(.agg #[.int .i64 tk,.int .i64 ls,.slice A xs.length c]),.string nm] w fun e w'=>RetF fld0 22 w e w':=by
 obtain⟨W0,hW0⟩:∃W0,W0=(((w.alloc (.cells #[.int .i64 g.blur,.slice a.pS g.sta.length a.cs,.slice a.pM g.mov.length a.cm,.slice a.pZ g.zon.length a.cz] 38)).alloc (.cells #[.int .i64 tk,.int .i64 ls,.slice A xs.length c] 72)).alloc (.cells #[.int .i64 0,.int .i64 0,.slice none 0 0] 72)):=⟨_,rfl⟩
 have hsx:Sx w W0:=by rw[hW0];exact((((Sx.refl w).alloc _).alloc _).alloc _)
 have hB0:Below w.heap.size w W0:=by rw[hW0];exact zbl
 have hsz:W0.heap.size=w.heap.size+3:=by rw[hW0];simp
 have k0:W0.heap[w.heap.size]? =some (.cells #[.int .i64 g.blur,.slice a.pS g.sta.length a.cs,.slice a.pM g.mov.length a.cm,.slice a.pZ g.zon.length a.cz] 38 (0,0)):=by rw[hW0];exact heap_fst _ _ _ _
 have k1:W0.heap[w.heap.size+1]? =some (.cells #[.int .i64 tk,.int .i64 ls,.slice A xs.length c] 72 (0,0)):=by rw[hW0];exact heap_mid _ _ _ _
 have k2:W0.heap[w.heap.size+1+1]? =some (.cells #[.int .i64 0,.int .i64 0,.slice none 0 0] 72 (0,0)):=by rw[hW0];exact heap_lst _ _ _ _
 have HG:=zh (hr.sx (Nat.le_refl _) hsx)
 have HK:=zh (hkd.sx hsx)
 have HF:=zh (hf.sx (Nat.le_refl _) hsx)
 have HG0:=zh hr
 have HF0:=zh hf
 have hl:=hsf.n
 have HS:=zh hs
 have HSF:=zh hsf
 have K0:=zh k0
 have K1:=zh k1
 have K2:=zh k2
 have l0:w.heap.size<W0.heap.size:=by omega
 have l1:w.heap.size+1<W0.heap.size:=by omega
 have l2:w.heap.size+1+1<W0.heap.size:=by omega
 clear hr hkd hf hsx hs hsf
 (obtain⟨g0,g1,g2,g3⟩:=cg4 k0)
 (obtain⟨q0,qf0,q1,qf1,q2,qf2⟩:=cv3 k1)
 (obtain⟨d0,df0,d1,df1,d2,df2⟩:=cv3 k2)
 clear k0 k1 k2
 have hCF:=fun W (h1:GridR W W.heap.size a g) (h2:KindsAt W) (h3:FldR W W.heap.size A c xs)=>CheckField_c a g tk ls A c xs W HS.out HSF.out h1 h2 h3
 rw[h0]at hCF
 have HCF:=zh hCF
 have hFI:=fun W (h3:FldR W W.heap.size A c xs)=>find_c tk ls A c xs nm W hl h3
 rw[hi]at hFI
 have HFI:=zh hFI
 obtain⟨hok,hu,hof⟩:=fldOk h0
 have hSt:=fun W (h1:GridR W W.heap.size a g)=>stands_c a g xs[i].m xs[i].A xs[i].c W hok (hof.loc xs[i] (List.getElem_mem hx)) h1
 rw[hst]at hSt
 have HST:=zh hSt
 clear hCF hFI hSt hst hof hu
 go_enter Tryz.func75,Tryz.ntmps75
 go_wp2_with fail
 rw[←hW0]
 clear hW0 hsz
 go_cut [8] (fun s wx=>s=.int .i64 0∧Sh W0 wx∧Below W0.heap.size W0 wx)
 case first=>
  go_region_held3 (SHd W0) ((refine Sh.goal ?_;exact zsh)) (first|(go_at_call 44;refine(HCF.out _ (HG.out.sx (Nat.le_refl _) (Sh.sx (by exact zsh))) (HK.out.sx (Sh.sx (by exact zsh))) (HF.out.sx (Nat.le_refl _) (Sh.sx (by exact zsh)))).mono ?_;rintro e w1 ⟨rfl,hb1⟩)|(go_at_call 140;refine(HFI.out _ (HF.out.sx (Nat.le_refl _) (Sh.sx (by exact zsh)))).mono ?_;rintro e w2 ⟨rfl,hb2⟩)|(go_at_call 104;refine(when_c _ _ _).mono ?_;rintro e w' ⟨rfl,rfl⟩)|(go_at_call 103;refine(first_c _ [0,0] _ ?_ ?_).mono ?_;(focus simp);(focus first|(simp[CellsAt];done)|(simp[CellsAt,cells_new];done)|(simp[CellsAt,cells_new,whn]));rintro e w' ⟨rfl,rfl⟩))
  all_goals
   go_wp2_with fail
   go_meet
   exact⟨rfl,by exact zsh,by exact zbl⟩
 case rest=>
  obtain⟨rfl,hsh,hbw⟩:=hcut
  have hbc:Below w.heap.size w wc:=hB0.trans (hbw.mono (by omega))
  have hs2:=hsh.1
  clear g0 g1 g2 g3 q0 q1 q2 qf0 qf1 qf2 d0 d1 d2 df0 df1 df2
  (have j0:=(hsh.2.2 (w.heap.size) l0).trans K0.out);(obtain⟨g0,g1,g2,g3⟩:=cg4 j0);(have j1:=(hsh.2.2 (w.heap.size+1) l1).trans K1.out);(obtain⟨q0,qf0,q1,qf1,q2,qf2⟩:=cv3 j1);clear j0 j1
  go_upto_region 5 with (go_at_call 140;refine(HFI.out _ (HF.out.sx (Nat.le_refl _) (Sh.sx (by exact zsh)))).mono ?_;rintro e w3 ⟨rfl,hb3⟩)
  have hsh3:Sh W0 w3:=by exact zsh
  have hbc3:Below w.heap.size w w3:=by exact zbl
  clear g0 g1 g2 g3 q0 q1 q2 qf0 qf1 qf2
  have hs3:=hsh3.1
  have y0:w.heap.size<w3.heap.size:=by omega
  have y1:w.heap.size+1<w3.heap.size:=by omega
  have y2:w.heap.size+1+1<w3.heap.size:=by omega
  (have j0:=(hsh3.2.2 (w.heap.size) l0).trans K0.out);(obtain⟨g0,g1,g2,g3⟩:=cg4 j0);(have j1:=(hsh3.2.2 (w.heap.size+1) l1).trans K1.out);(obtain⟨q0,qf0,q1,qf1,q2,qf2⟩:=cv3 j1);(have j2:=(hsh3.2.2 (w.heap.size+1+1) l2).trans K2.out);(have J2:=zh j2);clear j0 j1 j2
  obtain⟨bm,om,eA,hbm,c0,c1,c2,c3,c4,c5⟩:=(HF.out.sx (Nat.le_refl _) (Sh.sx hsh3)).rw_.get6 (k:=i) (by simpa using hx) (by rw[List.getElem_map];rfl)
  rw[eA]at q2
  clear eA
  go_cut [35] (fun s wx=>s=.bool true∧Sh w3 wx∧Below w3.heap.size w3 wx)
  case first=>
   go_region_held3 (SHd w3) ((refine Sh.goal ?_;exact zsh)) (first|(go_at_call 141;refine(HST.out _ (HG.out.sx (Nat.le_refl _) (Sh.sx (by first|(exact hsh3)|(repeat first|(with_reducible first|assumption|exact Sh.refl _|refine Sh.drew ?_|refine Sh.alloc ?_ _|refine Sh.set ?_ _ ?_)|(with_reducible apply Sh.below';(focus(with_reducible assumption)))|omega|(focus(simp;done))|(focus(simp;omega))))))).mono ?_;rintro e w4 ⟨rfl,hb4⟩))
   all_goals
    go_wp2_with fail
    go_meet
    exact⟨rfl,by exact zsh,by exact zbl⟩
  case rest=>
   obtain⟨rfl,hsh4,hb4⟩:=hcut
   have hs4:=hsh4.1
   clear g0 g1 g2 g3 q0 q1 q2 qf0 qf1 qf2 c0 c1 c2 c3 c4 c5
   (have j2:=(hsh4.2.2 (w.heap.size+1+1) (by omega)).trans J2.out);(obtain⟨d0,df0,d1,df1,d2,df2⟩:=cv3 j2);(have J4:=zh j2);clear j2
   go_wp2_with fail
   refine bodyPost_ret (Tryz.res_fld2 rfl _ _ rfl (set3_block J4.out)) rfl ?_
   exact⟨0,0,none,0,[],rfl,rfl,FldR.nil_ _ _,Below.set3 (hbc3.trans (hb4.mono (by omega))) (by omega) _ _ _,blks_nil⟩
end Go.Proofs.YtehnikhicnnnhaaGreatDoor
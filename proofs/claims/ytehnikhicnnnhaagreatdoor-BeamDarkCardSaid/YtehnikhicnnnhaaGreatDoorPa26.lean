/- awake(): its calls, each with the literal answer. | awake(): the region 19. -/
import Derived.Test.YtehnikhicnnnhaaGreatDoorPa25
namespace Go.Proofs.YtehnikhicnnnhaaGreatDoor
open Go.RowKit
theorem small_dusk(x:MA)(h:x.m=mirG 0 [] 0 9∨(∃a l b c,x.m=mirG a l b c∧l.length≤1000)):SmallF [x]:=by
 rcases h with h|⟨a,l,b,c,h,hl⟩
 ·refine⟨by simp,?_,?_,?_⟩<;>(intro y hy;rw[List.mem_singleton.1 hy,h];simp[mirG,ByteArray.size])
 ·refine⟨by simp,?_,?_,?_⟩<;>(intro y hy;rw[List.mem_singleton.1 hy,h];first|exact hl|simp[mirG,ByteArray.size])
theorem fld1{tk ls:Int}{xs:List MA}{t:Int}{m:Mir}(h:fldOf tk ls xs=⟨t,3,[m]⟩):tk=t∧ls=3∧∃A c,xs= [⟨m,A,c⟩]:=by
 unfold fldOf at h
 injection h with h1 h2 h3
 refine⟨h1,h2,?_⟩
 match xs,h3 with
 | [x],h3=>
   simp only[List.map_cons,List.map_nil,List.cons.injEq,and_true]at h3
   exact⟨x.A,x.c,by rw[←h3]⟩
 | [],h3=>cases h3
 |_::_::_,h3=>cases h3
theorem retF1{t loc left heard:Int}{way:List Int}{w w':World}{e:Ending}{err:Int}(h:RetF (fieldOf t loc way left heard) err w e w'):
 ∃A c Am cm,e=.returned (.tuple #[.agg #[.int .i64 t,.int .i64 3,.slice A 1 c],.int .i64 err])∧FldR w' w'.heap.size A c [⟨mirG loc way left heard,Am,cm⟩]∧Below w.heap.size w w':=by
 obtain⟨tk,ls,A,c,xs,rfl,hf,hr,hb,_⟩:=h
 obtain⟨rfl,rfl,Am,cm,rfl⟩:=fld1 hf
 exact⟨A,c,Am,cm,rfl,hr,hb⟩
section
variable (a:GA) (w:World) (hr:GridR w w.heap.size a planeG) (hk:KindsAt w)
include hr hk
theorem SafeMoves_p:Calls Tryz.prog 57 #[.agg #[.int .i64 5,.slice a.pS 4 a.cs,.slice a.pM 5 a.cm,.slice a.pZ 1 a.cz]] w fun e w'=>∃A c,e=.returned (.tuple #[.slice A 4 c,.int .i64 0])∧IntsR w' w'.heap.size A [0,2,3,4]∧Below w.heap.size w w':=by
 refine(SafeMoves_c a.pS a.pM a.pZ a.cs a.cm a.cz planeG w small_plane hr hk).mono ?_
 rintro e w' ⟨v,rfl,hb,ho⟩
 rw[planeG_ok,if_pos rfl,planeG_safe]at ho
 obtain⟨A,c,rfl,_,hi,_⟩:=ho.sl
 exact⟨A,c,by rw[planeG_ok];rfl,hi,hb⟩
theorem Way_p03:Calls Tryz.prog 19 #[.agg #[.int .i64 5,.slice a.pS 4 a.cs,.slice a.pM 5 a.cm,.slice a.pZ 1 a.cz],.int .i64 0,.int .i64 3] w fun e w'=>∃A c,e=.returned (.tuple #[.slice A 3 c,.int .i64 14,.int .i64 0])∧IntsR w' w'.heap.size A [0,1,3]∧Below w.heap.size w w':=by
 refine(Way_c a planeG 0 3 w small_plane hr hk).mono ?_
 rintro e w' ⟨A,c,n,l,rfl,_,hi,hw,hb⟩
 unfold WayR at hw
 rw[planeG_wayE03,if_pos rfl,planeG_way03]at hw
 injection hw with hw
 injection hw with h1 h2
 subst h1 h2
 exact⟨A,c,by rw[planeG_wayE03];rfl,hi,hb⟩
theorem Way_p02:Calls Tryz.prog 19 #[.agg #[.int .i64 5,.slice a.pS 4 a.cs,.slice a.pM 5 a.cm,.slice a.pZ 1 a.cz],.int .i64 0,.int .i64 2] w fun e w'=>∃A c,e=.returned (.tuple #[.slice A 3 c,.int .i64 7,.int .i64 0])∧IntsR w' w'.heap.size A [0,1,2]∧Below w.heap.size w w':=by
 refine(Way_c a planeG 0 2 w small_plane hr hk).mono ?_
 rintro e w' ⟨A,c,n,l,rfl,_,hi,hw,hb⟩
 unfold WayR at hw
 rw[planeG_wayE02,if_pos rfl,planeG_way02]at hw
 injection hw with hw
 injection hw with h1 h2
 subst h1 h2
 exact⟨A,c,by rw[planeG_wayE02];rfl,hi,hb⟩
theorem Homes_p:Calls Tryz.prog 20 #[.agg #[.int .i64 5,.slice a.pS 4 a.cs,.slice a.pM 5 a.cm,.slice a.pZ 1 a.cz]] w fun e w'=>∃A c,e=.returned (.tuple #[.slice A 4 c,.int .i64 0])∧IntsR w' w'.heap.size A [1,1,2,2]∧Below w.heap.size w w':=by
 refine(Homes_c a planeG w small_plane hr hk).mono ?_
 rintro e w' ⟨v,rfl,ho,hb⟩
 rw[planeG_homes]at ho
 obtain⟨A,c,rfl,_,hi,_⟩:=ho.sl
 exact⟨A,c,by rw[planeG_ok];rfl,hi,hb⟩
theorem Reached_p:Calls Tryz.prog 17 #[.agg #[.int .i64 5,.slice a.pS 4 a.cs,.slice a.pM 5 a.cm,.slice a.pZ 1 a.cz],.int .i64 0] w fun e w'=>∃A c,e=.returned (.tuple #[.slice A 4 c,.int .i64 0])∧IntsR w' w'.heap.size A [0,1,2,3]∧Below w.heap.size w w':=by
 refine(Reached_c a planeG 0 w small_plane hr hk).mono ?_
 rintro e w' ⟨v,rfl,ho,hb⟩
 rw[planeG_from0,if_pos rfl,planeG_reach]at ho
 obtain⟨A,c,rfl,_,hi,_⟩:=ho.sl
 exact⟨A,c,by rw[planeG_from0];rfl,hi,hb⟩
theorem Steps_p(A:Option Addr)(c:Nat)(hi:IntsR w w.heap.size A [0,1,2,3]):Calls Tryz.prog 29 #[.agg #[.int .i64 5,.slice a.pS 4 a.cs,.slice a.pM 5 a.cm,.slice a.pZ 1 a.cz],.slice A 4 c] w fun e w'=>e=.returned (.tuple #[.int .i64 16,.int .i64 0])∧Below w.heap.size w w':=by
 refine(Steps_c a planeG A [0,1,2,3] c w small_plane hr hk hi (by decide)).mono ?_
 rintro e w' ⟨rfl,hb⟩
 exact⟨by rw[planeG_steps],hb⟩
variable (A:Option Addr) (c:Nat)
theorem Deadline_p(hf:FldR w w.heap.size A c [⟨mirG 0 [] 0 9,none,0⟩]):Calls Tryz.prog 68 #[.agg #[.int .i64 5,.slice a.pS 4 a.cs,.slice a.pM 5 a.cm,.slice a.pZ 1 a.cz],.agg #[.int .i64 10,.int .i64 3,.slice A 1 c]] w fun e w'=>e=.returned (.tuple #[.int .i64 6,.int .i64 0])∧Below w.heap.size w w':=by
 refine(Deadline_c a planeG 10 3 A c [⟨mirG 0 [] 0 9,none,0⟩] w small_plane (small_dusk _ (.inl rfl)) hr hk hf 6 (fun _=>⟨by decide,dusk_dl⟩)).mono ?_
 rintro e w' ⟨rfl,hb⟩
 exact⟨by rw[show fldOf 10 3 [⟨mirG 0 [] 0 9,none,0⟩]=duskF from rfl,dlN,dusk_ok];rfl,hb⟩
theorem Lit_p(hf:FldR w w.heap.size A c [⟨mirG 0 [] 0 9,none,0⟩]):Calls Tryz.prog 48 #[.agg #[.int .i64 5,.slice a.pS 4 a.cs,.slice a.pM 5 a.cm,.slice a.pZ 1 a.cz],.agg #[.int .i64 10,.int .i64 3,.slice A 1 c]] w fun e w'=>∃A c,e=.returned (.tuple #[.slice A 1 c,.int .i64 0])∧StrsR w' w'.heap.size A [⟨#[109]⟩]∧Below w.heap.size w w':=by
 refine(Lit_c a planeG 10 3 A c [⟨mirG 0 [] 0 9,none,0⟩] w small_plane (small_dusk _ (.inl rfl)) hr hk hf).mono ?_
 rintro e w' ⟨v,rfl,ho,hb⟩
 rw[show fldOf 10 3 [⟨mirG 0 [] 0 9,none,0⟩]=duskF from rfl,dusk_ok,if_pos rfl,dusk_lit]at ho
 obtain⟨A,c,rfl,_,hi,_⟩:=ho.sl
 exact⟨A,c,by rw[show fldOf 10 3 [⟨mirG 0 [] 0 9,none,0⟩]=duskF from rfl,dusk_ok];rfl,hi,hb⟩
theorem Heard_p1(hf:FldR w w.heap.size A c [⟨mirG 0 [] 0 9,none,0⟩]):Calls Tryz.prog 38 #[.agg #[.int .i64 5,.slice a.pS 4 a.cs,.slice a.pM 5 a.cm,.slice a.pZ 1 a.cz],.agg #[.int .i64 10,.int .i64 3,.slice A 1 c],.agg #[.string ⟨#[109]⟩,.string ⟨#[115]⟩,.bool false]] w fun e w'=>
 ∃A c Am cm,e=.returned (.tuple #[.agg #[.int .i64 10,.int .i64 3,.slice A 1 c],.int .i64 0])∧FldR w' w'.heap.size A c [⟨mirG 0 [1,3] 4 10,Am,cm⟩]∧Below w.heap.size w w':=by
 refine(Heard_c a planeG 10 3 A c [⟨mirG 0 [] 0 9,none,0⟩] ordS w small_plane (small_dusk _ (.inl rfl)) hr hk hf).mono ?_
 intro e w' h
 rw[show fldOf 10 3 [⟨mirG 0 [] 0 9,none,0⟩]=duskF from rfl,dusk_fE,dusk_f]at h
 exact retF1 h
theorem Stepped_p(Am:Option Addr)(cm:Nat)(hf:FldR w w.heap.size A c [⟨mirG 0 [1,3] 4 10,Am,cm⟩]):Calls Tryz.prog 40 #[.agg #[.int .i64 5,.slice a.pS 4 a.cs,.slice a.pM 5 a.cm,.slice a.pZ 1 a.cz],.agg #[.int .i64 10,.int .i64 3,.slice A 1 c]] w fun e w'=>
 ∃A c Am cm,e=.returned (.tuple #[.agg #[.int .i64 11,.int .i64 3,.slice A 1 c],.int .i64 0])∧FldR w' w'.heap.size A c [⟨mirG 0 [1,3] 3 10,Am,cm⟩]∧Below w.heap.size w w':=by
 refine(Stepped_c a planeG 10 3 A c [⟨mirG 0 [1,3] 4 10,Am,cm⟩] w small_plane (small_dusk _ (.inr ⟨_,_,_,_,rfl,by decide⟩)) hr hk hf).mono ?_
 intro e w' h
 rw[show fldOf 10 3 [⟨mirG 0 [1,3] 4 10,Am,cm⟩]=fF from rfl,dusk_gE,if_pos rfl,dusk_g]at h
 exact retF1 h
theorem Heard_p2(Am:Option Addr)(cm:Nat)(hf:FldR w w.heap.size A c [⟨mirG 0 [1,3] 3 10,Am,cm⟩]):Calls Tryz.prog 38 #[.agg #[.int .i64 5,.slice a.pS 4 a.cs,.slice a.pM 5 a.cm,.slice a.pZ 1 a.cz],.agg #[.int .i64 11,.int .i64 3,.slice A 1 c],.agg #[.string ⟨#[109]⟩,.string ⟨#[102]⟩,.bool false]] w fun e w'=>
 ∃A c Am cm,e=.returned (.tuple #[.agg #[.int .i64 11,.int .i64 3,.slice A 1 c],.int .i64 0])∧FldR w' w'.heap.size A c [⟨mirG 0 [1,0] 3 11,Am,cm⟩]∧Below w.heap.size w w':=by
 refine(Heard_c a planeG 11 3 A c [⟨mirG 0 [1,3] 3 10,Am,cm⟩] ordF w small_plane (small_dusk _ (.inr ⟨_,_,_,_,rfl,by decide⟩)) hr hk hf).mono ?_
 intro e w' h
 rw[show fldOf 11 3 [⟨mirG 0 [1,3] 3 10,Am,cm⟩]=gF from rfl,dusk_kE,dusk_k]at h
 exact retF1 h
theorem Run_p3(R:Option Addr)(rc:Nat)(hf:FldR w w.heap.size A c [⟨mirG 0 [] 0 9,none,0⟩])(hR:RndR w w.heap.size R [⟨[],none,0⟩,⟨[],none,0⟩,⟨[],none,0⟩]):Calls Tryz.prog 46 #[.agg #[.int .i64 5,.slice a.pS 4 a.cs,.slice a.pM 5 a.cm,.slice a.pZ 1 a.cz],.agg #[.int .i64 10,.int .i64 3,.slice A 1 c],.slice R 3 rc] w fun e w'=>
 ∃A c Am cm,e=.returned (.tuple #[.agg #[.int .i64 13,.int .i64 3,.slice A 1 c],.int .i64 0])∧FldR w' w'.heap.size A c [⟨mirG 0 [1] 3 9,Am,cm⟩]∧Below w.heap.size w w':=by
 refine(Run_c a planeG 10 3 A c [⟨mirG 0 [] 0 9,none,0⟩] R rc [⟨[],none,0⟩,⟨[],none,0⟩,⟨[],none,0⟩] w small_plane (small_dusk _ (.inl rfl)) hr hk hf (by decide) (by simp) hR).mono ?_
 intro e w' h
 rw[show fldOf 10 3 [⟨mirG 0 [] 0 9,none,0⟩]=duskF from rfl,show([⟨[],none,0⟩,⟨[],none,0⟩,⟨[],none,0⟩]:List RA).length=3 from rfl,dusk_xE,show([⟨[],none,0⟩,⟨[],none,0⟩,⟨[],none,0⟩]:List RA).map RA.os= [[],[],[]]from rfl,dusk_x]at h
 exact retF1 h
theorem Run_p6(R:Option Addr)(rc:Nat)(hf:FldR w w.heap.size A c [⟨mirG 0 [] 0 9,none,0⟩])(hR:RndR w w.heap.size R [⟨[],none,0⟩,⟨[],none,0⟩,⟨[],none,0⟩,⟨[],none,0⟩,⟨[],none,0⟩,⟨[],none,0⟩]):Calls Tryz.prog 46 #[.agg #[.int .i64 5,.slice a.pS 4 a.cs,.slice a.pM 5 a.cm,.slice a.pZ 1 a.cz],.agg #[.int .i64 10,.int .i64 3,.slice A 1 c],.slice R 6 rc] w fun e w'=>
 ∃A c Am cm,e=.returned (.tuple #[.agg #[.int .i64 16,.int .i64 3,.slice A 1 c],.int .i64 0])∧FldR w' w'.heap.size A c [⟨mirG 1 [] 0 9,Am,cm⟩]∧Below w.heap.size w w':=by
 refine(Run_c a planeG 10 3 A c [⟨mirG 0 [] 0 9,none,0⟩] R rc [⟨[],none,0⟩,⟨[],none,0⟩,⟨[],none,0⟩,⟨[],none,0⟩,⟨[],none,0⟩,⟨[],none,0⟩] w small_plane (small_dusk _ (.inl rfl)) hr hk hf (by decide) (by simp) hR).mono ?_
 intro e w' h
 rw[show fldOf 10 3 [⟨mirG 0 [] 0 9,none,0⟩]=duskF from rfl,show([⟨[],none,0⟩,⟨[],none,0⟩,⟨[],none,0⟩,⟨[],none,0⟩,⟨[],none,0⟩,⟨[],none,0⟩]:List RA).length=6 from rfl,dusk_yE,show([⟨[],none,0⟩,⟨[],none,0⟩,⟨[],none,0⟩,⟨[],none,0⟩,⟨[],none,0⟩,⟨[],none,0⟩]:List RA).map RA.os= [[],[],[],[],[],[]]from rfl,dusk_y]at h
 exact retF1 h
theorem Dark_p(Am:Option Addr)(cm:Nat)(hf:FldR w w.heap.size A c [⟨mirG 1 [] 0 9,Am,cm⟩]):Calls Tryz.prog 49 #[.agg #[.int .i64 5,.slice a.pS 4 a.cs,.slice a.pM 5 a.cm,.slice a.pZ 1 a.cz],.agg #[.int .i64 16,.int .i64 3,.slice A 1 c]] w fun e w'=>e=.returned (.tuple #[.bool true,.int .i64 0])∧Below w.heap.size w w':=by
 refine(Dark_c a planeG 16 3 A c [⟨mirG 1 [] 0 9,Am,cm⟩] w small_plane (small_dusk _ (.inr ⟨_,_,_,_,rfl,by decide⟩)) hr hk hf).mono ?_
 rintro e w' ⟨rfl,hb⟩
 exact⟨by rw[show fldOf 16 3 [⟨mirG 1 [] 0 9,Am,cm⟩]=yF from rfl,dusk_yok,dusk_dark];rfl,hb⟩
theorem Defocused_p(hf:FldR w w.heap.size A c [⟨mirG 0 [] 0 9,none,0⟩]):Calls Tryz.prog 70 #[.agg #[.int .i64 5,.slice a.pS 4 a.cs,.slice a.pM 5 a.cm,.slice a.pZ 1 a.cz],.agg #[.int .i64 10,.int .i64 3,.slice A 1 c],.string ⟨#[110]⟩] w fun e w'=>
 ∃A c Am cm,e=.returned (.tuple #[.agg #[.int .i64 10,.int .i64 3,.slice A 1 c],.int .i64 0])∧FldR w' w'.heap.size A c [⟨mirG 0 [1] 4 10,Am,cm⟩]∧Below w.heap.size w w':=by
 refine(Defocused_c a planeG 10 3 A c [⟨mirG 0 [] 0 9,none,0⟩] ⟨#[110]⟩ w small_plane (small_dusk _ (.inl rfl)) hr hk hf (by decide)).mono ?_
 intro e w' h
 rw[show fldOf 10 3 [⟨mirG 0 [] 0 9,none,0⟩]=duskF from rfl,dusk_zE,dusk_z]at h
 exact retF1 h
end
section
variable (a:GA) (w:World) (hk:KindsAt w)
include hk
theorem Barrier_p(hr:GridR w w.heap.size a cutG):Calls Tryz.prog 31 #[.agg #[.int .i64 5,.slice a.pS 4 a.cs,.slice a.pM 4 a.cm,.slice a.pZ 1 a.cz],.int .i64 0,.int .i64 3] w fun e w'=>∃A c,e=.returned (.tuple #[.slice A 1 c,.int .i64 0])∧IntsR w' w'.heap.size A [0]∧Below w.heap.size w w':=by
 refine(Barrier_c a cutG 0 3 w small_cut hr hk).mono ?_
 rintro e w' ⟨v,rfl,ho,hb⟩
 rw[cutG_barL]at ho
 obtain⟨A,c,rfl,_,hi,_⟩:=ho.sl
 exact⟨A,c,by rw[cutG_barE];rfl,hi,hb⟩
theorem CheckBarrier_p(hr:GridR w w.heap.size a cutG)(A:Option Addr)(c:Nat)(hi:IntsR w w.heap.size A [0,1]):Calls Tryz.prog 32 #[.agg #[.int .i64 5,.slice a.pS 4 a.cs,.slice a.pM 4 a.cm,.slice a.pZ 1 a.cz],.int .i64 0,.int .i64 3,.slice A 2 c] w fun e w'=>e=.returned (.int .i64 19)∧Below w.heap.size w w':=by
 refine(CheckBarrier_c a cutG 0 3 A [0,1] c w small_cut hr hk hi (by decide)).mono ?_
 rintro e w' ⟨rfl,hb⟩
 exact⟨by rw[cutG_cb],hb⟩
theorem Print_p(hr:GridR w w.heap.size a planeG)(hp:PowAt w):Calls Tryz.prog 81 #[.agg #[.int .i64 5,.slice none 0 0,.slice none 0 0,.slice a.pZ 1 a.cz]] w fun e w'=>e=.returned (.tuple #[.string ⟨#[103,114,105,100,32,53,10,122,111,110,101,32,98,105,114,100,32,53,48,48,32,52,48,48,32,50,48,10]⟩,.int .i64 0])∧Below w.heap.size w w':=by
 refine(Print_c ⟨none,none,a.pZ,0,0,a.cz⟩ zoneG w small_zone ⟨fun h=>absurd rfl h,fun h=>absurd rfl h,hr.zon,Nat.le_refl _,Nat.le_refl _,hr.capZ⟩ hk hp).mono ?_
 rintro e w' ⟨rfl,hb⟩
 exact⟨by rw[zone_text,zoneG_ok,show "grid 5\nzone bird 500 400 20\n".toUTF8 =⟨#[103,114,105,100,32,53,10,122,111,110,101,32,98,105,114,100,32,53,48,48,32,52,48,48,32,50,48,10]⟩ by decide +kernel],hb⟩
end
theorem same_c(l:List Int)(n:Nat)(A A':Option Addr)(c c':Nat)(w:World)(hn:l.length=n)(hl:n≤1000)(h:IntsR w w.heap.size A l)(h':IntsR w w.heap.size A' l):
 Calls Tryz.prog 56 #[.slice A n c,.slice A' n c'] w fun e w'=>e=.returned (.bool true)∧Below w.heap.size w w':=by
 subst hn
 refine(sameInts_c A A' c c' l l w (by omega) h h').mono ?_
 rintro e w' ⟨rfl,hb⟩
 exact⟨ret_bool (by simp),hb⟩
theorem sameW_c(l:List ByteArray)(n:Nat)(A A':Option Addr)(c c':Nat)(w:World)(hn:l.length=n)(hl:n≤1000)(h:StrsR w w.heap.size A l)(h':StrsR w w.heap.size A' l):
 Calls Tryz.prog 90 #[.slice A n c,.slice A' n c'] w fun e w'=>e=.returned (.bool true)∧Below w.heap.size w w':=by
 subst hn
 refine(sameWords_c A A' c c' l l w (by omega) h h').mono ?_
 rintro e w' ⟨rfl,hb⟩
 exact⟨ret_bool (by simp),hb⟩
set_option maxRecDepth 100000 in
set_option maxHeartbeats 8000000 in
theorem awake_r19(X:World)(hk:KindsAt X)(bY cY cmY:Nat)(AY AmY:Option Addr)(hBY:X.heap[bY]? =some (.cells #[.int .i64 16,.int .i64 3,.slice AY 1 cY] 72 (0,0)))(hFY:FldR X X.heap.size AY cY [⟨mirG 1 [] 0 9,AmY,cmY⟩])(u0 u1 u2 u3 u4 u5 u6 u7 u8 u9 u10 u11 u12 u13 u14 u15 u16 u17 u18 u19 u20 u21 u22 u23 u24 u25 u26 u27 u28 u29 u31 u32 u33 u34 u35 u36 u37 u38 u39 u40 u41 u42 u43 u44 u45 u46 u47 u48 u49 u50 u51 u52 u53 u54 u55 u56 u57 u58 u59 u60 u61 u62 u63 u64 u65 u66 u67 u68 u69 u70 u71 u72 u73 u74 u75 u76 u77 u78 u79 u80 u81 u82 u83 u84 u85 u86 u87 u88 u89 u90 u91 u92 u93 u94 u95 u96 u97 u98 u99 u100 u101 u102 u103 u104 u105 u106 u107 u108 u109 u110 u111 u112 u113 u114 u115 u116 u117 u118 u119 u120 u121 u122 u123 u124 u125 u126 u127 u128 u129 u130 u131 u132 u133 u134 u135 u136 u137 u138 u139 u140 u141 u142 u143 u144 u145 u146 u147 u148 u149 u150 u151 u152 u153 u154 u155 u156 u157 u158 u159 u160 u161 u162 u163 u164 u165 u166 u167 u168 u169 u170 u171 u172 u173 u174 u175 u176 u177 u178 u179 u180 u181 u182 u183 u184 u185 u186 u187 u188 u189 u190 u191 u192 u193 u194 u195 u196 u197 u198 u199 u200 u201 u202 u203 u204 u205 u206 u207 u208 u209 u210 u211 u212 u213 u214 u215 u216 u217 u218 u219 u220 u221 u222 u223 u224 u225 u226 u227 u228 u229 u230 u231 u232 u233 u234 u235 u236 u237 u238 u239 u240 u241 u242 u243 u244 u245 u246 u247 u248 u249 u250 u251 u252 u253 u254 u255 u256 u257 u258 u259 u260 u261 u262 u263 u264 u265 u266 u267 u268 u269 u270 u271 u272 u273 u274 u275 u276 u277 u278 u279 u280 u281 u282 u283 u284 u285 u286 u287 u288 u289:Value)(K:Act→World→Prop)(Q:Exit→Act→World→Prop)
 (hK:∀(v183 v184 v185 v186 v187 v188:Value) (wx:World),Below X.heap.size X wx→K {tmps:= #[u0,u1,u2,u3,u4,u5,u6,u7,u8,u9,u10,u11,u12,u13,u14,u15,u16,u17,u18,u19,u20,u21,u22,u23,u24,u25,u26,u27,u28,u29,.pointer (some ⟨bY,0,none⟩),u31,.bool true,.int .i64 0,u34,u35,u36,u37,u38,u39,u40,u41,u42,u43,u44,u45,u46,u47,u48,u49,u50,u51,u52,u53,u54,u55,u56,u57,u58,u59,u60,u61,u62,u63,u64,u65,u66,u67,u68,u69,u70,u71,u72,u73,u74,u75,u76,u77,u78,u79,u80,u81,u82,u83,u84,u85,u86,u87,u88,u89,u90,u91,u92,u93,u94,u95,u96,u97,u98,u99,u100,u101,u102,u103,u104,u105,u106,u107,u108,u109,u110,u111,u112,u113,u114,u115,u116,u117,u118,u119,u120,u121,u122,u123,u124,u125,u126,u127,u128,u129,u130,u131,u132,u133,u134,u135,u136,u137,u138,u139,u140,u141,u142,u143,u144,u145,u146,u147,u148,u149,u150,u151,u152,u153,u154,u155,u156,u157,u158,u159,u160,u161,u162,u163,u164,u165,u166,u167,u168,u169,u170,u171,u172,u173,u174,u175,u176,u177,u178,u179,u180,u181,u182,v183,v184,v185,v186,v187,v188,u189,u190,u191,u192,u193,u194,u195,u196,u197,u198,u199,u200,u201,u202,u203,u204,u205,u206,u207,u208,u209,u210,u211,u212,u213,u214,u215,u216,u217,u218,u219,u220,u221,u222,u223,u224,u225,u226,u227,u228,u229,u230,u231,u232,u233,u234,u235,u236,u237,u238,u239,u240,u241,u242,u243,u244,u245,u246,u247,u248,u249,u250,u251,u252,u253,u254,u255,u256,u257,u258,u259,u260,u261,u262,u263,u264,u265,u266,u267,u268,u269,u270,u271,u272,u273,u274,u275,u276,u277,u278,u279,u280,u281,u282,u283,u284,u285,u286,u287,u288,u289],defers:= []} wx):
 Code.wp Tryz.prog (awR 19) (Exit.then K Q) {tmps:= #[u0,u1,u2,u3,u4,u5,u6,u7,u8,u9,u10,u11,u12,u13,u14,u15,u16,u17,u18,u19,u20,u21,u22,u23,u24,u25,u26,u27,u28,u29,.pointer (some ⟨bY,0,none⟩),u31,u32,u33,u34,u35,u36,u37,u38,u39,u40,u41,u42,u43,u44,u45,u46,u47,u48,u49,u50,u51,u52,u53,u54,u55,u56,u57,u58,u59,u60,u61,u62,u63,u64,u65,u66,u67,u68,u69,u70,u71,u72,u73,u74,u75,u76,u77,u78,u79,u80,u81,u82,u83,u84,u85,u86,u87,u88,u89,u90,u91,u92,u93,u94,u95,u96,u97,u98,u99,u100,u101,u102,u103,u104,u105,u106,u107,u108,u109,u110,u111,u112,u113,u114,u115,u116,u117,u118,u119,u120,u121,u122,u123,u124,u125,u126,u127,u128,u129,u130,u131,u132,u133,u134,u135,u136,u137,u138,u139,u140,u141,u142,u143,u144,u145,u146,u147,u148,u149,u150,u151,u152,u153,u154,u155,u156,u157,u158,u159,u160,u161,u162,u163,u164,u165,u166,u167,u168,u169,u170,u171,u172,u173,u174,u175,u176,u177,u178,u179,u180,u181,u182,u183,u184,u185,u186,u187,u188,u189,u190,u191,u192,u193,u194,u195,u196,u197,u198,u199,u200,u201,u202,u203,u204,u205,u206,u207,u208,u209,u210,u211,u212,u213,u214,u215,u216,u217,u218,u219,u220,u221,u222,u223,u224,u225,u226,u227,u228,u229,u230,u231,u232,u233,u234,u235,u236,u237,u238,u239,u240,u241,u242,u243,u244,u245,u246,u247,u248,u249,u250,u251,u252,u253,u254,u255,u256,u257,u258,u259,u260,u261,u262,u263,u264,u265,u266,u267,u268,u269,u270,u271,u272,u273,u274,u275,u276,u277,u278,u279,u280,u281,u282,u283,u284,u285,u286,u287,u288,u289],defers:= []} X:=by
 conv=>arg 2;whnf
 (obtain⟨q0,qf0,q1,qf1,q2,qf2⟩:=cv3 hBY)
 have yF:=blk_lt hBY
 go_region_held3 (SHd X) ((refine Sh.goal ?_;exact zsh)) (first|(go_at_call 88;refine(plane_c _).mono ?_;rintro e w1 ⟨a1,rfl,hg1,ho1,hcm1,hb⟩;(obtain⟨hcc,hff⟩:=bcell hb;have hzz:=hb.size;(try simp at hzz);(try have z1:X.heap.size+1<w1.heap.size:=by omega);(try have z2:X.heap.size+2<w1.heap.size:=by omega);(try have z3:X.heap.size+3<w1.heap.size:=by omega);(try have z4:X.heap.size+4<w1.heap.size:=by omega);(try have z5:X.heap.size+5<w1.heap.size:=by omega);(try have z0:X.heap.size<w1.heap.size:=by omega);(try(have zy1:=Nat.lt_of_succ_le hzz;(try(have zy2:=Nat.lt_of_succ_lt zy1;(try have zy3:=Nat.lt_of_succ_lt zy2))))));(have hb1:=hb);clear hb ho1 hcm1)|(go_at_call 89;refine(dusk_c _).mono ?_;rintro e wK ⟨AK,cK,rfl,hK1,hb⟩;(obtain⟨hcc,hff⟩:=bcell hb;have hzz:=hb.size;(try simp at hzz);(try have z1:X.heap.size+1<wK.heap.size:=by omega);(try have z2:X.heap.size+2<wK.heap.size:=by omega);(try have z3:X.heap.size+3<wK.heap.size:=by omega);(try have z4:X.heap.size+4<wK.heap.size:=by omega);(try have z5:X.heap.size+5<wK.heap.size:=by omega);(try have zm0:w1.heap.size<wK.heap.size:=by omega);(try have z0:X.heap.size<wK.heap.size:=by omega);(try(have zy1:=Nat.lt_of_succ_le hzz;(try(have zy2:=Nat.lt_of_succ_lt zy1;(try have zy3:=Nat.lt_of_succ_lt zy2))))));(have hbK:=hb);clear hb)|(go_at_call 49;(with_reducible refine Calls.mono (Dark_p a1 _ (hg1.to (by exact zbl)) (hk.to (by exact zbl)) AY cY AmY cmY (hFY.to (by exact zbl))) ?_);rintro e wU ⟨rfl,hb⟩;(obtain⟨hcc,hff⟩:=bcell hb;have hzz:=hb.size;(try simp at hzz);(try have z1:X.heap.size+1<wU.heap.size:=by omega);(try have z2:X.heap.size+2<wU.heap.size:=by omega);(try have z3:X.heap.size+3<wU.heap.size:=by omega);(try have z4:X.heap.size+4<wU.heap.size:=by omega);(try have z5:X.heap.size+5<wU.heap.size:=by omega);(try have zm0:X.heap.size<wU.heap.size:=by omega);(try have zm1:w1.heap.size<wU.heap.size:=by omega);(try have z0:X.heap.size<wU.heap.size:=by omega);(try(have zy1:=Nat.lt_of_succ_le hzz;(try(have zy2:=Nat.lt_of_succ_lt zy1;(try have zy3:=Nat.lt_of_succ_lt zy2))))));(have hbU:=hb);clear hb))
 all_goals
  go_wp2_with fail
 all_goals first
  |(focus((repeat first|(with_reducible first|assumption|exact Below.refl _ _|refine Bl.drew ?_|refine Bl.drewN ?_ _|refine Bl.alloc ?_ _|refine Bl.set ?_ _ ?_)|(with_reducible apply Bl.step';(focus(with_reducible assumption)))|omega|(focus(simp;done))|(focus(simp;omega)));done))
  |(refine hK _ _ _ _ _ _ _ ?_;focus(repeat first|(with_reducible first|assumption|exact Below.refl _ _|refine Bl.drew ?_|refine Bl.drewN ?_ _|refine Bl.alloc ?_ _|refine Bl.set ?_ _ ?_)|(with_reducible apply Bl.step';(focus(with_reducible assumption)))|omega|(focus(simp;done))|(focus(simp;omega))))
end Go.Proofs.YtehnikhicnnnhaaGreatDoor
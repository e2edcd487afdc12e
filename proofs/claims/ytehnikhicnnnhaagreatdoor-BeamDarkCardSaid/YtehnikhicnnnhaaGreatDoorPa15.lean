/- sent, stands, isDark, Lit$1, names. | gone. -/
import Derived.Test.YtehnikhicnnnhaaGreatDoorPa14
namespace Go.Proofs.YtehnikhicnnnhaaGreatDoor
open Go.RowKit
set_option maxRecDepth 100000 in
set_option maxHeartbeats 2000000 in
theorem sent_c(a:GA)(g:Grd)(m:Mir)(A:Option Addr)(c:Nat)(w:World)(hok:okG g)(hu:Uniq g.mov)(hm:okMir g m)(hr:GridR w w.heap.size a g)(hmr:MirR w w.heap.size m A c):
 Calls Tryz.prog 139 #[.agg #[.string m.name,.string m.sec,.int .i64 m.loc,.slice A m.way.length c,.int .i64 m.left,.int .i64 m.heard,.int .i64 g.blur,.slice a.pS g.sta.length a.cs,.slice a.pM g.mov.length a.cm,.slice a.pZ g.zon.length a.cz]] w fun e w'=>∃A' c',e=.returned (.agg #[.string (sentG g m).name,.string (sentG g m).sec,.int .i64 (sentG g m).loc,.slice A' (sentG g m).way.length c',.int .i64 (sentG g m).left,.int .i64 (sentG g m).heard])∧MirR w' w'.heap.size (sentG g m) A' c'∧(A'=A∧(sentG g m).way=m.way∨∀a,A'=some a→w.heap.size≤a.block)∧Below w.heap.size w w':=by
 obtain⟨W0,hW0⟩:∃W0,W0=(w.alloc (.cells #[.string m.name,.string m.sec,.int .i64 m.loc,.slice A m.way.length c,.int .i64 m.left,.int .i64 m.heard,.int .i64 g.blur,.slice a.pS g.sta.length a.cs,.slice a.pM g.mov.length a.cm,.slice a.pZ g.zon.length a.cz] 214)).alloc (.cells #[.string ⟨#[]⟩,.string ⟨#[]⟩,.int .i64 0,.slice none 0 0,.int .i64 0,.int .i64 0] 106):=⟨_,rfl⟩
 have hsx:Sx w W0:=by rw[hW0];exact((Sx.refl w).alloc _).alloc _
 have HG:=zh (hr.sx (Nat.le_refl _) hsx)
 have HM:=zh (hmr.sx (Nat.le_refl _) hsx)
 have hsz:W0.heap.size=w.heap.size+2:=by rw[hW0];simp
 have hB0:Below w.heap.size w W0:=by rw[hW0];exact zbl
 have kg:W0.heap[w.heap.size]? =some (.cells #[.string m.name,.string m.sec,.int .i64 m.loc,.slice A m.way.length c,.int .i64 m.left,.int .i64 m.heard,.int .i64 g.blur,.slice a.pS g.sta.length a.cs,.slice a.pM g.mov.length a.cm,.slice a.pZ g.zon.length a.cz] 214 (0,0)):=by rw[hW0];exact(Below.heap_alloc _ _ _ (by simp)).trans (heap_alloc_new w _)
 have k1:W0.heap[w.heap.size+1]? =some (.cells #[.string ⟨#[]⟩,.string ⟨#[]⟩,.int .i64 0,.slice none 0 0,.int .i64 0,.int .i64 0] 106 (0,0)):=by
  rw[hW0]
  have:=heap_alloc_new (w.alloc (.cells #[.string m.name,.string m.sec,.int .i64 m.loc,.slice A m.way.length c,.int .i64 m.left,.int .i64 m.heard,.int .i64 g.blur,.slice a.pS g.sta.length a.cs,.slice a.pM g.mov.length a.cm,.slice a.pZ g.zon.length a.cz] 214)) (.cells #[.string ⟨#[]⟩,.string ⟨#[]⟩,.int .i64 0,.slice none 0 0,.int .i64 0,.int .i64 0] 106)
  rwa [World.size_alloc]at this
 (have c0:W0.cell? ⟨w.heap.size,0,none⟩=some (.string m.name):=by rw[cell_of_row W0 _ 0 _ _ _ kg];rfl);(have cf0:W0.frozen? ⟨w.heap.size,0,none⟩=false:=frozen_of_row W0 _ 0 _ _ kg);(have c1:W0.cell? ⟨w.heap.size,1,none⟩=some (.string m.sec):=by rw[cell_of_row W0 _ 1 _ _ _ kg];rfl);(have cf1:W0.frozen? ⟨w.heap.size,1,none⟩=false:=frozen_of_row W0 _ 1 _ _ kg);(have c2:W0.cell? ⟨w.heap.size,2,none⟩=some (.int .i64 m.loc):=by rw[cell_of_row W0 _ 2 _ _ _ kg];rfl);(have cf2:W0.frozen? ⟨w.heap.size,2,none⟩=false:=frozen_of_row W0 _ 2 _ _ kg);(have c3:W0.cell? ⟨w.heap.size,3,none⟩=some (.slice A m.way.length c):=by rw[cell_of_row W0 _ 3 _ _ _ kg];rfl);(have cf3:W0.frozen? ⟨w.heap.size,3,none⟩=false:=frozen_of_row W0 _ 3 _ _ kg);(have c4:W0.cell? ⟨w.heap.size,4,none⟩=some (.int .i64 m.left):=by rw[cell_of_row W0 _ 4 _ _ _ kg];rfl);(have cf4:W0.frozen? ⟨w.heap.size,4,none⟩=false:=frozen_of_row W0 _ 4 _ _ kg);(have c5:W0.cell? ⟨w.heap.size,5,none⟩=some (.int .i64 m.heard):=by rw[cell_of_row W0 _ 5 _ _ _ kg];rfl);(have cf5:W0.frozen? ⟨w.heap.size,5,none⟩=false:=frozen_of_row W0 _ 5 _ _ kg);(have c6:W0.cell? ⟨w.heap.size,6,none⟩=some (.int .i64 g.blur):=by rw[cell_of_row W0 _ 6 _ _ _ kg];rfl);(have cf6:W0.frozen? ⟨w.heap.size,6,none⟩=false:=frozen_of_row W0 _ 6 _ _ kg);(have c7:W0.cell? ⟨w.heap.size,7,none⟩=some (.slice a.pS g.sta.length a.cs):=by rw[cell_of_row W0 _ 7 _ _ _ kg];rfl);(have cf7:W0.frozen? ⟨w.heap.size,7,none⟩=false:=frozen_of_row W0 _ 7 _ _ kg);(have c8:W0.cell? ⟨w.heap.size,8,none⟩=some (.slice a.pM g.mov.length a.cm):=by rw[cell_of_row W0 _ 8 _ _ _ kg];rfl);(have cf8:W0.frozen? ⟨w.heap.size,8,none⟩=false:=frozen_of_row W0 _ 8 _ _ kg);(have c9:W0.cell? ⟨w.heap.size,9,none⟩=some (.slice a.pZ g.zon.length a.cz):=by rw[cell_of_row W0 _ 9 _ _ _ kg];rfl);(have cf9:W0.frozen? ⟨w.heap.size,9,none⟩=false:=frozen_of_row W0 _ 9 _ _ kg)
 have ht:=hm.turn
 have hl40:=hm.len
 have HM0:=zh hmr
 have HK1:=zh k1
 have HSZ:=zh hsz
 clear hr hmr hsx k1 kg
 have hbs0:w.heap.size<W0.heap.size:=by omega
 have hbs1:w.heap.size+1<W0.heap.size:=by omega
 have hsg:Hid (sentG g m=(ledG g m (homeG g (turnM m))).getD m):=zh rfl
 go_enter Tryz.func139,Tryz.ntmps139
 go_wp2_with fail
 rw[←hW0]
 clear hW0 hsz
 go_cut [3,4] (fun s3 s4 wx=>∃(rb:Nat) (A':Option Addr) (c':Nat),s3=.pointer (some ⟨rb,0,none⟩)∧W0.heap.size≤rb∧rb<wx.heap.size∧wx.heap[rb]? =some (.cells #[.string (sentG g m).name,.string (sentG g m).sec,.int .i64 (sentG g m).loc,.slice A' (sentG g m).way.length c',.int .i64 (sentG g m).left,.int .i64 (sentG g m).heard] 106 (0,0))∧MirR wx wx.heap.size (sentG g m) A' c'∧(A'=A∧(sentG g m).way=m.way∨∀a,A'=some a→W0.heap.size≤a.block)∧Sh W0 wx∧Below W0.heap.size W0 wx)
 case first=>
  go_region_held3 (SHd W0) ((refine Sh.goal ?_;exact zsh)) (first|(go_at_call 125;refine(turn_c m A c _ (HM.out.sx (Nat.le_refl _) (Sh.sx (by exact zsh)))).mono ?_;rintro e w1 ⟨rfl,hb⟩;(obtain⟨hcc,hff⟩:=bcell hb;have hzz:=hb.size;(try simp at hzz);(try have z1:W0.heap.size+1<w1.heap.size:=by omega);(try have z2:W0.heap.size+2<w1.heap.size:=by omega);(try have z3:W0.heap.size+3<w1.heap.size:=by omega);(try have z4:W0.heap.size+4<w1.heap.size:=by omega);(try have z5:W0.heap.size+5<w1.heap.size:=by omega);(try have z0:W0.heap.size<w1.heap.size:=by omega);(try(have zy1:=Nat.lt_of_succ_le hzz;(try(have zy2:=Nat.lt_of_succ_lt zy1;(try have zy3:=Nat.lt_of_succ_lt zy2))))));(have hb1:=hb);clear hb)|(go_at_call 95;refine(home_c a g (turnM m) _ hok hu ht (HG.out.sx (Nat.le_refl _) (Sh.sx (by exact zsh)))).mono ?_;rintro e w2 ⟨rfl,hb⟩;(obtain⟨hcc,hff⟩:=bcell hb;have hzz:=hb.size;(try simp at hzz);(try have z1:W0.heap.size+1<w2.heap.size:=by omega);(try have z2:W0.heap.size+2<w2.heap.size:=by omega);(try have z3:W0.heap.size+3<w2.heap.size:=by omega);(try have z4:W0.heap.size+4<w2.heap.size:=by omega);(try have z5:W0.heap.size+5<w2.heap.size:=by omega);(try have z0:W0.heap.size<w2.heap.size:=by omega);(try(have zy1:=Nat.lt_of_succ_le hzz;(try(have zy2:=Nat.lt_of_succ_lt zy1;(try have zy3:=Nat.lt_of_succ_lt zy2))))));(have hb2:=hb);clear hb)|(go_at_call 165;refine(led_c a g m A c (homeG g (turnM m)) _ hok hu ht (HG.out.sx (Nat.le_refl _) (Sh.sx (by exact zsh))) (HM.out.sx (Nat.le_refl _) (Sh.sx (by exact zsh)))).mono ?_;rintro e w3 ⟨m',A',c',rfl,hm',hr3,hf3,hb⟩;(obtain⟨hcc,hff⟩:=bcell hb;have hzz:=hb.size;(try simp at hzz);(try have z1:W0.heap.size+1<w3.heap.size:=by omega);(try have z2:W0.heap.size+2<w3.heap.size:=by omega);(try have z3:W0.heap.size+3<w3.heap.size:=by omega);(try have z4:W0.heap.size+4<w3.heap.size:=by omega);(try have z5:W0.heap.size+5<w3.heap.size:=by omega);(try have z0:W0.heap.size<w3.heap.size:=by omega);(try(have zy1:=Nat.lt_of_succ_le hzz;(try(have zy2:=Nat.lt_of_succ_lt zy1;(try have zy3:=Nat.lt_of_succ_lt zy2))))));(have hb3:=hb);clear hb;(have HM':=zh hm');clear hm'))
  all_goals
   go_wp2_with fail
   go_meet
   have hms:m'=sentG g m:=HM'.out.trans hsg.out.symm
   rw[←hms]
  all_goals first
   |(refine⟨w3.heap.size,A',c',rfl,?_⟩
     exact⟨by omega,by simp,heap_alloc_new _ _,⟨Rw.more (Rw.belowB (w0:=w3) hr3.way (by exact zbl) (Nat.le_refl _)) (by simp),hr3.cap⟩,hf3.imp id (fun h a ha=>by have:=h a ha;first|omega|(simp at this;omega)),by exact zsh,by exact zbl⟩)
   |(refine⟨w2.heap.size,A',c',rfl,?_⟩
     have hblk:w3.heap[w2.heap.size]? =some (.cells #[.string ⟨#[]⟩,.string ⟨#[]⟩,.int .i64 0,.slice none 0 0,.int .i64 0,.int .i64 0] 106 (0,0)):=(hb3.block w2.heap.size (by first|assumption|omega|(simp;done)|(simp;omega))).trans (heap_alloc_new _ _)
     refine⟨by omega,by first|omega|(simp;omega),set6_block hblk,⟨Rw.more (IntsR.set6n hr3.way (fun hne a ha e=>?_) _ _ _ _ _ _) (by simp),hr3.cap⟩,hf3.imp id (fun h a ha=>by have:=h a ha;first|omega|(simp at this;omega)),by exact zsh,by exact zbl⟩
     rcases hf3 with h|h
     ·obtain⟨b',off',e',hb',_⟩:=HM0.out.way.at (by rw[←h.2];exact hne)
      rw[h.1,e']at ha
      cases ha
      simp only at e
      omega
     ·have:=h a ha
      first|omega|(simp at this;omega))
   |(refine⟨w1.heap.size,A',c',rfl,?_⟩
     have hblk:w3.heap[w1.heap.size]? =some (.cells #[.string ⟨#[]⟩,.string ⟨#[]⟩,.int .i64 0,.slice none 0 0,.int .i64 0,.int .i64 0] 106 (0,0)):=(hb3.block w1.heap.size (by first|assumption|omega|(simp;done)|(simp;omega))).trans ((hb2.block w1.heap.size (by first|assumption|omega|(simp;done)|(simp;omega))).trans (heap_alloc_new _ _))
     refine⟨by omega,by first|omega|(simp;omega),set6_block hblk,⟨Rw.more (IntsR.set6n hr3.way (fun hne a ha e=>?_) _ _ _ _ _ _) (by simp),hr3.cap⟩,hf3.imp id (fun h a ha=>by have:=h a ha;first|omega|(simp at this;omega)),by exact zsh,by exact zbl⟩
     rcases hf3 with h|h
     ·obtain⟨b',off',e',hb',_⟩:=HM0.out.way.at (by rw[←h.2];exact hne)
      rw[h.1,e']at ha
      cases ha
      simp only at e
      omega
     ·have:=h a ha
      first|omega|(simp at this;omega))
   |(refine⟨W0.heap.size,A',c',rfl,?_⟩
     have hblk:w3.heap[W0.heap.size]? =some (.cells #[.string ⟨#[]⟩,.string ⟨#[]⟩,.int .i64 0,.slice none 0 0,.int .i64 0,.int .i64 0] 106 (0,0)):=(hb3.block W0.heap.size (by first|assumption|omega|(simp;done)|(simp;omega))).trans ((hb2.block W0.heap.size (by first|assumption|omega|(simp;done)|(simp;omega))).trans ((hb1.block W0.heap.size (by first|assumption|omega|(simp;done)|(simp;omega))).trans (heap_alloc_new _ _)))
     refine⟨by omega,by first|omega|(simp;omega),set6_block hblk,⟨Rw.more (IntsR.set6n hr3.way (fun hne a ha e=>?_) _ _ _ _ _ _) (by simp),hr3.cap⟩,hf3.imp id (fun h a ha=>by have:=h a ha;first|omega|(simp at this;omega)),by exact zsh,by exact zbl⟩
     rcases hf3 with h|h
     ·obtain⟨b',off',e',hb',_⟩:=HM0.out.way.at (by rw[←h.2];exact hne)
      rw[h.1,e']at ha
      cases ha
      simp only at e
      omega
     ·have:=h a ha
      first|omega|(simp at this;omega))
 case rest=>
  obtain⟨rb,A',c',rfl,hrb,hrl,hrk,hmr,hf,hsh,hbw⟩:=hcut
  obtain⟨sm,hsm⟩:∃sm,sm=sentG g m:=⟨_,rfl⟩
  rw[←hsm]at hrk hmr hf
  have HSM:=zh hsm
  have k1:=(hsh.2.2 (w.heap.size+1) hbs1).trans HK1.out
  (obtain⟨q0,qf0,q1,qf1,q2,qf2,q3,qf3,q4,qf4,q5,qf5⟩:=cv6 hrk)
  (obtain⟨d0,df0,d1,df1,d2,df2,d3,df3,d4,df4,d5,df5⟩:=cv6 k1)
  have HKW:=zh k1
  clear k1 hrk hsm c0 c1 c2 c3 c4 c5 c6 c7 c8 c9 cf0 cf1 cf2 cf3 cf4 cf5 cf6 cf7 cf8 cf9
  go_wp2_with fail
  refine bodyPost_ret (Tryz.res_mir rfl _ _ rfl (set6_block HKW.out)) rfl ?_
  rw[←HSM.out]
  refine⟨A',c',rfl,⟨Rw.more (IntsR.set6n hmr.way (fun hne a ha e=>?_) _ _ _ _ _ _) (by simp),hmr.cap⟩,hf.imp id (fun h a ha=>by have:=h a ha;omega),Below.set6 (hB0.trans (hbw.mono (by have:=HSZ.out;omega))) (by omega) _ _ _ _ _ _⟩
  rcases hf with h|h
  ·obtain⟨b',off',e',hb',_⟩:=HM0.out.way.at (by rw[←h.2];exact hne)
   rw[h.1,e']at ha
   cases ha
   simp only at e
   omega
  ·have:=h a ha
   have:=HSZ.out
   omega
theorem heap_mid(w:World)(x y z:Obj):(((w.alloc x).alloc y).alloc z).heap[w.heap.size+1]? =some y:=by
 refine(Below.heap_alloc _ _ _ (by simp)).trans ?_
 have:=heap_alloc_new (w.alloc x) y
 rwa [World.size_alloc]at this
theorem heap_lst(w:World)(x y z:Obj):(((w.alloc x).alloc y).alloc z).heap[w.heap.size+1+1]? =some z:=by
 have:=heap_alloc_new ((w.alloc x).alloc y) z
 rwa [World.size_alloc,World.size_alloc]at this
theorem heap_fst(w:World)(x y z:Obj):(((w.alloc x).alloc y).alloc z).heap[w.heap.size]? =some x:=
 (Below.heap_alloc _ _ _ (by simp)).trans ((Below.heap_alloc _ _ _ (by simp)).trans (heap_alloc_new w _))
set_option maxRecDepth 100000 in
set_option maxHeartbeats 2000000 in
theorem gone_c(a:GA)(g:Grd)(m:Mir)(A:Option Addr)(c:Nat)(w:World)(hok:okG g)(hm:okMir g m)(hr:GridR w w.heap.size a g)(hmr:MirR w w.heap.size m A c):
 Calls Tryz.prog 170 #[.agg #[.string m.name,.string m.sec,.int .i64 m.loc,.slice A m.way.length c,.int .i64 m.left,.int .i64 m.heard,.int .i64 g.blur,.slice a.pS g.sta.length a.cs,.slice a.pM g.mov.length a.cm,.slice a.pZ g.zon.length a.cz]] w fun e w'=>∃A' c',e=.returned (.agg #[.string (goneG g m).name,.string (goneG g m).sec,.int .i64 (goneG g m).loc,.slice A' (goneG g m).way.length c',.int .i64 (goneG g m).left,.int .i64 (goneG g m).heard])∧MirR w' w'.heap.size (goneG g m) A' c'∧(A'=A∧(goneG g m).way=m.way∨∀a,A'=some a→w.heap.size≤a.block)∧Below w.heap.size w w':=by
 have hns:=hok.ns
 by_cases hw:m.way= []
 ·have hg:=zh (show goneG g m=m by unfold goneG;rw[if_pos hw])
  have hl:m.way.length=0:=by rw[hw];rfl
  have HM:=zh hmr
  clear hw hmr
  go_enter Tryz.func170,Tryz.ntmps170
  go_wp2_with fail
  refine bodyPost_ret (Tryz.res_mir rfl _ _ rfl (heap_mid _ _ _ _)) rfl ?_
  have hfin:Below w.heap.size w (((w.alloc (.cells #[.string m.name,.string m.sec,.int .i64 m.loc,.slice A 0 c,.int .i64 m.left,.int .i64 m.heard,.int .i64 g.blur,.slice a.pS g.sta.length a.cs,.slice a.pM g.mov.length a.cm,.slice a.pZ g.zon.length a.cz] 214)).alloc (.cells #[.string m.name,.string m.sec,.int .i64 m.loc,.slice A 0 c,.int .i64 m.left,.int .i64 m.heard] 106)).alloc (.cells #[.string m.name,.string m.sec,.int .i64 m.loc,.slice A 0 c,.int .i64 m.left,.int .i64 m.heard] 106)):=by exact zbl
  exact⟨A,c,by rw[hg.out,hl],by rw[hg.out];exact(HM.out.belowB (w0:=w) hfin (Nat.le_refl _)).more hfin.size,.inl ⟨rfl,by rw[hg.out]⟩,hfin⟩
 ·obtain⟨v,tl,hv⟩:∃v tl,m.way=v::tl:=by
   cases hw2:m.way with
   |nil=>exact absurd hw2 hw
   |cons v tl=>exact⟨v,tl,rfl⟩
  have hlf:=hm.left1 hw
  have hl:m.way.length=tl.length+1:=by rw[hv];rfl
  have hrng:lnk g m.loc (turnM m)≤20:=by
   have hc:=hm.chain
   rw[hv]at hc
   have ht:turnM m=v:=by unfold turnM;rw[hv];rfl
   rw[ht]
   exact(lnk_rng hok (chkW_cons.1 hc).2.1).2.2.2
  have hl20:m.left≤20:=by omega
  have hl1:1≤m.left:=hlf.1
  by_cases hlt:0<m.left-1
  ·have hg:=zh (show goneG g m= {m with left:=m.left-1} by unfold goneG;rw[if_neg hw,if_pos hlt])
   have HM:=zh hmr
   have hlt':decide (0<m.left-1)=true:=decide_eq_true hlt
   clear hw hmr hlf hv
   go_enter Tryz.func170,Tryz.ntmps170
   go_wp2_with fail
   refine bodyPost_ret (Tryz.res_mir rfl _ _ rfl (heap_mid _ _ _ _)) rfl ?_
   have hfin:Below w.heap.size w (((w.alloc (.cells #[.string m.name,.string m.sec,.int .i64 m.loc,.slice A (tl.length+1) c,.int .i64 m.left,.int .i64 m.heard,.int .i64 g.blur,.slice a.pS g.sta.length a.cs,.slice a.pM g.mov.length a.cm,.slice a.pZ g.zon.length a.cz] 214)).alloc (.cells #[.string m.name,.string m.sec,.int .i64 m.loc,.slice A (tl.length+1) c,.int .i64 (m.left-1),.int .i64 m.heard] 106)).alloc (.cells #[.string m.name,.string m.sec,.int .i64 m.loc,.slice A (tl.length+1) c,.int .i64 (m.left-1),.int .i64 m.heard] 106)):=by exact zbl
   exact⟨A,c,by rw[hg.out,←hl],by rw[hg.out];exact⟨((HM.out.belowB (w0:=w) hfin (Nat.le_refl _)).more hfin.size).way,HM.out.cap⟩,.inl ⟨rfl,by rw[hg.out]⟩,hfin⟩
  ·have hle:m.left=1:=by omega
   have HM0:=zh hmr
   have HG0:=zh hr
   clear hmr hr
   obtain⟨W0,hW0⟩:∃W0,W0=((w.alloc (.cells #[.string m.name,.string m.sec,.int .i64 m.loc,.slice A (tl.length+1) c,.int .i64 1,.int .i64 m.heard,.int .i64 g.blur,.slice a.pS g.sta.length a.cs,.slice a.pM g.mov.length a.cm,.slice a.pZ g.zon.length a.cz] 214)).alloc (.cells #[.string ⟨#[]⟩,.string ⟨#[]⟩,.int .i64 0,.slice none 0 0,.int .i64 0,.int .i64 0] 106)).alloc (.cells #[.string m.name,.string m.sec,.int .i64 m.loc,.slice A (tl.length+1) c,.int .i64 0,.int .i64 m.heard] 106):=⟨_,rfl⟩
   have hB0:Below w.heap.size w W0:=by rw[hW0];exact zbl
   have hsz:W0.heap.size=w.heap.size+3:=by rw[hW0];simp
   have k0:W0.heap[w.heap.size+1+1]? =some (.cells #[.string m.name,.string m.sec,.int .i64 m.loc,.slice A (tl.length+1) c,.int .i64 0,.int .i64 m.heard] 106 (0,0)):=by rw[hW0];exact heap_lst _ _ _ _
   have k1:W0.heap[w.heap.size+1]? =some (.cells #[.string ⟨#[]⟩,.string ⟨#[]⟩,.int .i64 0,.slice none 0 0,.int .i64 0,.int .i64 0] 106 (0,0)):=by rw[hW0];exact heap_mid _ _ _ _
   have kg:W0.heap[w.heap.size]? =some (.cells #[.string m.name,.string m.sec,.int .i64 m.loc,.slice A (tl.length+1) c,.int .i64 1,.int .i64 m.heard,.int .i64 g.blur,.slice a.pS g.sta.length a.cs,.slice a.pM g.mov.length a.cm,.slice a.pZ g.zon.length a.cz] 214 (0,0)):=by rw[hW0];exact heap_fst _ _ _ _
   have hm0:=((HM0.out.belowB (w0:=w) hB0 (Nat.le_refl _)).more hB0.size).way
   rw[hv]at hm0
   obtain⟨b,off,rfl,hbl,hx⟩:=IntsR.at hm0 (by simp)
   have x0:W0.cell? ⟨b,off,none⟩=some (.int .i64 v):=hx 0 (by simp)
   have hcap:tl.length+1≤c:=by have:=HM0.out.cap;omega
   (obtain⟨c0,cf0,c1,cf1,c2,cf2,c3,cf3,c4,cf4,c5,cf5⟩:=cv6 k0)
   have HK0:=zh k0
   have HK1:=zh k1
   have HKG:=zh kg
   have HT1:=zh hm0.tl_
   have HSZ:=zh hsz
   have HW:=zh hw
   rw[hle]
   have HLT:=zh hlt
   have HLE:=zh hle
   have HV:=zh hv
   have HB0:=zh hB0
   have htl40:tl.length≤40:=by have:=hm.len;omega
   clear hx hm0 k0 k1 kg hw hlt hv hlf hrng hle hl20 hl1
   have jx:(1:Int)≤(tl.length:Int)+1:=by omega
   have hl2:w.heap.size+1+1<W0.heap.size:=by omega
   have hl3:b<W0.heap.size:=by omega
   go_enter Tryz.func170,Tryz.ntmps170
   go_wp2_with fail
   rw[←hW0]
   clear hW0
   go_cut [28] (fun s wx=>∃A3 c3 w3,tl.length≤c3∧IntsR w3 w3.heap.size A3 tl∧Below W0.heap.size W0 w3∧(∀a,A3=some a→W0.heap.size≤a.block∧a.block<w3.heap.size)∧wx=(w3.setCell ⟨w.heap.size+1+1,2,none⟩ (.int .i64 v)).setCell ⟨w.heap.size+1+1,3,none⟩ (.slice A3 tl.length c3))
   case first=>
    by_cases hc1:c=1
    ·subst hc1
     obtain rfl:tl= []:=List.eq_nil_of_length_eq_zero (by omega)
     go_region_with (first|(go_at_call 158;refine(clone_c 0 (some ⟨b,off,none⟩) 0 [] _ (by simp) (fun h=>absurd rfl h)).mono ?_;rintro e w3 ⟨v',rfl,hown,hb3⟩;(obtain⟨A3,c3,rfl,hc3,hi3,hf3⟩:=hown.sl);(have j0:=(hb3.block (w.heap.size+1+1) hl2).trans HK0.out);(obtain⟨q0,qf0,q1,qf1,q2,qf2,q3,qf3,q4,qf4,q5,qf5⟩:=cv6 j0);(have xb:=(hb3.cell (p:=⟨b,off,none⟩) hl3).trans x0)))
     all_goals
      go_wp2_with fail
      go_meet
      exact⟨A3,c3,w3,hc3,hi3,⟨hb3.os,hb3.tape,hb3.output,hb3.size,hb3.block⟩,fun a ha=>hf3 a ha,rfl⟩
    ·have hc2:¬(c-1=0):=by omega
     go_region_with (first|(go_at_call 158;refine(clone_c W0.heap.size (some ⟨b,off+1,none⟩) (c-1) tl _ (by omega) (Rw.belowB (w0:=W0) HT1.out (by exact zbl) (Nat.le_refl _))).mono ?_;rintro e w3 ⟨v',rfl,hown,hb3⟩;(obtain⟨A3,c3,rfl,hc3,hi3,hf3⟩:=hown.sl);(have j0:=(hb3.block (w.heap.size+1+1) hl2).trans HK0.out);(obtain⟨q0,qf0,q1,qf1,q2,qf2,q3,qf3,q4,qf4,q5,qf5⟩:=cv6 j0);(have xb:=(hb3.cell (p:=⟨b,off,none⟩) hl3).trans x0)))
     all_goals
      go_wp2_with fail
      go_meet
      exact⟨A3,c3,w3,hc3,hi3,⟨hb3.os,hb3.tape,hb3.output,hb3.size,hb3.block⟩,fun a ha=>hf3 a ha,rfl⟩
   case rest=>
    obtain⟨A3,z3,w3,hc3,hi3,hb3,hf3,hwc⟩:=hcut
    have HI3:=zh hi3
    have HF3:=zh hf3
    clear hi3 hf3
    have hbw3:Below w.heap.size w w3:=hB0.trans (hb3.mono (by omega))
    have hz5:wc.heap.size=w3.heap.size:=by rw[hwc];simp
    have hb5:Below w.heap.size w wc:=by rw[hwc];exact Below.setCell (Below.setCell hbw3 (p:=⟨w.heap.size+1+1,2,none⟩) (by first|(simp;done)|(simp;omega)) _) (p:=⟨w.heap.size+1+1,3,none⟩) (by first|(simp;done)|(simp;omega)) _
    have y0:wc.heap[w.heap.size+1+1]? =some (.cells #[.string m.name,.string m.sec,.int .i64 v,.slice A3 tl.length z3,.int .i64 0,.int .i64 m.heard] 106 (0,0)):=by rw[hwc];exact heap_setCell_same _ _ 3 _ _ _ (heap_setCell_same w3 _ 2 _ _ _ ((hb3.block _ hl2).trans HK0.out))
    have y1:wc.heap[w.heap.size+1]? =some (.cells #[.string ⟨#[]⟩,.string ⟨#[]⟩,.int .i64 0,.slice none 0 0,.int .i64 0,.int .i64 0] 106 (0,0)):=by rw[hwc];exact(heap_setCell_other _ _ _ _ (by simp)).trans ((heap_setCell_other _ _ _ _ (by simp)).trans ((hb3.block _ (by omega)).trans HK1.out))
    have yg:=(show wc.heap[w.heap.size]? =some (.cells #[.string m.name,.string m.sec,.int .i64 m.loc,.slice (some ⟨b,off,none⟩) (tl.length+1) c,.int .i64 1,.int .i64 m.heard,.int .i64 g.blur,.slice a.pS g.sta.length a.cs,.slice a.pM g.mov.length a.cm,.slice a.pZ g.zon.length a.cz] 214 (0,0)) by rw[hwc];exact(heap_setCell_other _ _ _ _ (by first|(simp;done)|(simp;omega))).trans ((heap_setCell_other _ _ _ _ (by first|(simp;done)|(simp;omega))).trans ((hb3.block w.heap.size (by omega)).trans HKG.out)))
    have hn3:∀a,A3=some a→a.block≠w.heap.size+1+1:=fun a ha e=>by have:=(HF3.out a ha).1;omega
    have HI5:=zh (show IntsR wc w3.heap.size A3 tl by rw[hwc];exact IntsR.setc (IntsR.setc HI3.out _ hn3) _ hn3)
    have HWC:=zh hwc
    clear hwc c0 c1 c2 c3 c4 c5 cf0 cf1 cf2 cf3 cf4 cf5 x0
    (obtain⟨q0,qf0,q1,qf1,q2,qf2,q3,qf3,q4,qf4,q5,qf5⟩:=cv6 y0)
    (obtain⟨d0,df0,d1,df1,d2,df2,d3,df3,d4,df4,d5,df5⟩:=cv6 y1)
    cases htl:tl with
    |nil=>
     subst htl
     have hgo:=zh (show goneG g m= {m with loc:=v,way:= [],left:=0} by unfold goneG;rw[if_neg HW.out,if_neg (show ¬0<m.left-1 by have:=HLE.out;omega)];unfold turnM;rw[HV.out,HLE.out];rfl)
     simp only[List.length_nil]at q3
     have HY1:=zh y1
     clear y0 y1 yg
     go_wp2_with fail
     refine bodyPost_ret (Tryz.res_mir rfl _ _ rfl (set6_block HY1.out)) rfl ?_
     have hfin:=Below.set6 (b:=w.heap.size+1) hb5 (by omega) (.string m.name) (.string m.sec) (.int .i64 v) (.slice A3 0 z3) (.int .i64 0) (.int .i64 m.heard)
     exact⟨A3,z3,by rw[hgo.out];rfl,by rw[hgo.out];exact⟨fun h=>absurd rfl h,by simp⟩,.inr fun a ha=>by have:=(HF3.out a ha).1;omega,hfin⟩
    |cons u tl2=>
     subst htl
     have hgo:=zh (show goneG g m= {m with loc:=v,way:=u::tl2,left:=lnk g v u} by unfold goneG;rw[if_neg HW.out,if_neg (show ¬0<m.left-1 by have:=HLE.out;omega)];unfold turnM;rw[HV.out];rfl)
     have htr:=hm.turn
     have hmt:turnM m=v:=by unfold turnM;rw[HV.out];rfl
     rw[hmt]at htr
     obtain⟨b3,off3,rfl,hbl3,hx3⟩:=HI5.out.at (by simp)
     have z0:wc.cell? ⟨b3,off3,none⟩=some (.int .i64 u):=hx3 0 (by simp)
     have hl0:w.heap.size+1+1<wc.heap.size:=by have:=hb3.size;omega
     have hl1:w.heap.size+1<wc.heap.size:=by omega
     have hlg:w.heap.size<wc.heap.size:=by omega
     have hlx:b3<wc.heap.size:=by omega
     have hnb:¬(b3=w.heap.size+1+1):=hn3 _ rfl
     have hnb2:¬(w.heap.size+1+1=b3):=fun e=>hnb e.symm
     simp only[List.length_cons]at q3
     clear hx3 d0 d1 d2 d3 d4 d5 df0 df1 df2 df3 df4 df5 hn3
     have g0:wc.cell? ⟨w.heap.size,6,none⟩=some (.int .i64 g.blur):=by rw[cell_of_row wc _ 6 _ _ _ yg];rfl
     have g1:wc.cell? ⟨w.heap.size,7,none⟩=some (.slice a.pS g.sta.length a.cs):=by rw[cell_of_row wc _ 7 _ _ _ yg];rfl
     have g2:wc.cell? ⟨w.heap.size,8,none⟩=some (.slice a.pM g.mov.length a.cm):=by rw[cell_of_row wc _ 8 _ _ _ yg];rfl
     have g3:wc.cell? ⟨w.heap.size,9,none⟩=some (.slice a.pZ g.zon.length a.cz):=by rw[cell_of_row wc _ 9 _ _ _ yg];rfl
     have HY0:=zh y0
     have HY1:=zh y1
     have HYG:=zh yg
     clear y0 y1 yg
     go_wp2_with fail
     go_region_held3 (fun W=>W.cell? ⟨w.heap.size,6,none⟩=some (.int .i64 g.blur)∧W.cell? ⟨w.heap.size,7,none⟩=some (.slice a.pS g.sta.length a.cs)∧W.cell? ⟨w.heap.size,8,none⟩=some (.slice a.pM g.mov.length a.cm)∧W.cell? ⟨w.heap.size,9,none⟩=some (.slice a.pZ g.zon.length a.cz)∧W.cell? ⟨w.heap.size+1+1,2,none⟩=some (.int .i64 v)∧W.cell? ⟨w.heap.size+1+1,3,none⟩=some (.slice (some ⟨b3,off3,none⟩) (tl2.length+1) z3)∧W.cell? ⟨b3,off3,none⟩=some (.int .i64 u)) (refine⟨?_,?_,?_,?_,?_,?_,?_⟩<;>first|assumption|(refine(World.cell?_setCell_other _ _ _ _ (by simp;done)).trans ?_;assumption)|(refine(World.cell?_setCell_other _ _ _ _ (by simp;omega)).trans ?_;assumption)) (first|(go_at_call 109;refine(joined_c a.pS a.pM a.pZ a.cs a.cm a.cz g v u _ hok htr.1 htr.2 ((HG0.out.belowB (w0:=w) (by exact zbl) (Nat.le_refl _)).more (Bl.lt (by exact zbl)))).mono ?_;rintro e w4 ⟨rfl,hb4⟩;(have j0:=(hb4.block (w.heap.size+1+1) hl0).trans HY0.out);(have j1:=(hb4.block (w.heap.size+1) hl1).trans HY1.out);(obtain⟨r0,rf0,r1,rf1,r2,rf2,r3,rf3,r4,rf4,r5,rf5⟩:=cv6 j0);(obtain⟨d0,df0,d1,df1,d2,df2,d3,df3,d4,df4,d5,df5⟩:=cv6 j1);(have HK4:=zh j1);(have h0:=(hb4.cell (p:=⟨w.heap.size,6,none⟩) hlg).trans g0);(have h1:=(hb4.cell (p:=⟨w.heap.size,7,none⟩) hlg).trans g1);(have h2:=(hb4.cell (p:=⟨w.heap.size,8,none⟩) hlg).trans g2);(have h3:=(hb4.cell (p:=⟨w.heap.size,9,none⟩) hlg).trans g3);(have x4:=(hb4.cell (p:=⟨b3,off3,none⟩) hlx).trans z0);clear j0 j1))
     go_wp2_with fail
     refine bodyPost_ret (Tryz.res_mir rfl _ _ rfl (set6_block ((heap_setCell_other _ _ _ _ (by simp)).trans HK4.out))) rfl ?_
     have hb4':Below wc.heap.size wc w4:=⟨hb4.os,hb4.tape,hb4.output,hb4.size,hb4.block⟩
     refine⟨some ⟨b3,off3,none⟩,z3,by rw[hgo.out];rfl,?_,.inr fun a ha=>?_,?_⟩
     ·rw[hgo.out]
      have hn5:∀a,some (⟨b3,off3,none⟩:Addr)=some a→a.block≠w.heap.size+1:=fun a ha e=>by
       have h1:=(HF3.out a ha).1
       omega
      have hi4:IntsR w4 wc.heap.size (some ⟨b3,off3,none⟩) (u::tl2):=Rw.belowB (w0:=wc) (Rw.more HI5.out (by omega)) hb4' (Nat.le_refl _)
      exact⟨Rw.more (IntsR.set6 (IntsR.setc hi4 _ fun a ha e=>by cases ha;exact hnb e) hn5 _ _ _ _ _ _) (by have:=hb4.size;simp at this ⊢;omega),hc3⟩
     ·have h1:=(HF3.out a ha).1
      omega
     ·exact Below.set6 (Below.setCell (hb5.trans (hb4'.mono (Nat.le_of_lt hlg))) (p:=⟨w.heap.size+1+1,4,none⟩) (by first|(simp;done)|(simp;omega)) _) (by omega) _ _ _ _ _ _
end Go.Proofs.YtehnikhicnnnhaaGreatDoor
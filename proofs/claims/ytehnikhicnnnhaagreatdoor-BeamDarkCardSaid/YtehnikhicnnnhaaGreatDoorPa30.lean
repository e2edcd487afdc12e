/- awake(). -/
import Derived.Test.YtehnikhicnnnhaaGreatDoorPa27
import Derived.Test.YtehnikhicnnnhaaGreatDoorPa28
import Derived.Test.YtehnikhicnnnhaaGreatDoorPa29
namespace Go.Proofs.YtehnikhicnnnhaaGreatDoor
open Go.RowKit
theorem Taken_q(a:GA)(w:World)(hr:GridR w w.heap.size a planeG)(hk:KindsAt w)(A:Option Addr)(c:Nat)(hf:FldR w w.heap.size A c [⟨mirG 0 [] 0 9,none,0⟩]):Calls Tryz.prog 75 #[.agg #[.int .i64 5,.slice a.pS 4 a.cs,.slice a.pM 5 a.cm,.slice a.pZ 1 a.cz],.agg #[.int .i64 10,.int .i64 3,.slice A 1 c],.string ⟨#[109]⟩] w fun e w'=>
 ∃x y A n c,e=.returned (.tuple #[.agg #[.int .i64 x,.int .i64 y,.slice A n c],.int .i64 22])∧Below w.heap.size w w':=by
 refine(Taken_st a planeG 10 3 A c [⟨mirG 0 [] 0 9,none,0⟩] ⟨#[109]⟩ 0 w small_plane (small_dusk _ (.inl rfl)) hr hk hf dusk_ok (by kernel_rfl) (by decide) (by kernel_rfl)).mono ?_
 rintro e w' ⟨_,_,_,_,_,rfl,_,_,hb,_⟩
 exact⟨_,_,_,_,_,rfl,hb⟩
theorem IntsR.nw{w:World}{b:Nat}{T:TypeId}{l:List Int}{vs:Array Value}(hb:b=w.heap.size)(hv:vs.toList=(l.map fun t=> [Value.int .i64 t]).flatten):IntsR (w.alloc (.cells vs T (0,0))) (w.alloc (.cells vs T (0,0))).heap.size (some ⟨b,0,none⟩) l:=by
 subst hb;exact IntsR.new hv
theorem StrsR.nw{w:World}{b:Nat}{T:TypeId}{l:List ByteArray}{vs:Array Value}(hb:b=w.heap.size)(hv:vs.toList=(l.map fun t=> [Value.string t]).flatten):StrsR (w.alloc (.cells vs T (0,0))) (w.alloc (.cells vs T (0,0))).heap.size (some ⟨b,0,none⟩) l:=by
 subst hb;exact StrsR.new hv
theorem IntsR.nil0(w:World)(A:Option Addr):IntsR w w.heap.size A []:=fun h=>absurd rfl h
set_option maxRecDepth 100000 in
set_option maxHeartbeats 16000000 in
theorem awake_c(w:World)(hk:KindsAt w)(hp:PowAt w):Calls Tryz.prog 16 #[] w fun e w'=>e=.returned (.bool true)∧Below w.heap.size w w':=by
 go_enter Tryz.func16,Tryz.ntmps16
 go_upto_region 2 with (first|(go_at_call 88;refine(plane_c _).mono ?_;rintro e wP1 ⟨aP1,rfl,hgP1,hoP1,hcP1,hbP1⟩;clear hoP1 hcP1)|(go_at_call 57;(with_reducible refine Calls.mono (SafeMoves_p aP1 _ (hgP1.to (by exact zbl)) (hk.to (by exact zbl))) ?_);rintro e wL ⟨AL,cL,rfl,hL,hbL⟩))
 go_upto_region 3 with (first|(go_at_call 88;refine(plane_c _).mono ?_;rintro e wP2 ⟨aP2,rfl,hgP2,hoP2,hcP2,hbP2⟩;clear hoP2 hcP2)|(go_at_call 19;(with_reducible refine Calls.mono (Way_p03 aP2 _ (hgP2.to (by exact zbl)) (hk.to (by exact zbl))) ?_);rintro e wA ⟨AA,cA,rfl,hA,hbA⟩))
 go_upto_region 4 with (first|(go_at_call 88;refine(plane_c _).mono ?_;rintro e wP3 ⟨aP3,rfl,hgP3,hoP3,hcP3,hbP3⟩;clear hoP3 hcP3)|(go_at_call 19;(with_reducible refine Calls.mono (Way_p02 aP3 _ (hgP3.to (by exact zbl)) (hk.to (by exact zbl))) ?_);rintro e wB ⟨AB,cB,rfl,hB,hbB⟩))
 go_upto_region 5 with (first|(go_at_call 88;refine(plane_c _).mono ?_;rintro e wP4 ⟨aP4,rfl,hgP4,hoP4,hcP4,hbP4⟩;clear hoP4 hcP4)|(go_at_call 20;(with_reducible refine Calls.mono (Homes_p aP4 _ (hgP4.to (by exact zbl)) (hk.to (by exact zbl))) ?_);rintro e wH ⟨AH,cH,rfl,hH,hbH⟩))
 go_upto_region 6 with (first|(go_at_call 88;refine(plane_c _).mono ?_;rintro e wP5 ⟨aP5,rfl,hgP5,hoP5,hcP5,hbP5⟩;clear hoP5 hcP5)|(go_at_call 17;(with_reducible refine Calls.mono (Reached_p aP5 _ (hgP5.to (by exact zbl)) (hk.to (by exact zbl))) ?_);rintro e wC ⟨AC,cC,rfl,hC,hbC⟩))
 go_upto_region 7 with (first|(go_at_call 88;refine(plane_c _).mono ?_;rintro e wP6 ⟨aP6,rfl,hgP6,hoP6,hcP6,hbP6⟩;clear hoP6 hcP6)|(go_at_call 29;(with_reducible refine Calls.mono (Steps_p aP6 _ (hgP6.to (by exact zbl)) (hk.to (by exact zbl)) _ _ (IntsR.new rfl)) ?_);rintro e wS ⟨rfl,hbS⟩))
 go_upto_region 9 with (first|(go_at_call 56;(with_reducible refine Calls.mono (same_c [0,2,3,4] 4 AL _ cL _ _ rfl (by decide) (hL.to (by exact zbl)) (IntsR.new rfl)) ?_);rintro e wE1 ⟨rfl,hbE1⟩)|(go_at_call 56;(with_reducible refine Calls.mono (same_c [0,1,3] 3 AA _ cA _ _ rfl (by decide) (hA.to (by exact zbl)) (IntsR.new rfl)) ?_);rintro e wE2 ⟨rfl,hbE2⟩)|(go_at_call 56;(with_reducible refine Calls.mono (same_c [0,1,2] 3 AB _ cB _ _ rfl (by decide) (hB.to (by exact zbl)) (IntsR.new rfl)) ?_);rintro e wE3 ⟨rfl,hbE3⟩)|(go_at_call 56;(with_reducible refine Calls.mono (same_c [1,1,2,2] 4 AH _ cH _ _ rfl (by decide) (hH.to (by exact zbl)) (IntsR.new rfl)) ?_);rintro e wE4 ⟨rfl,hbE4⟩)|(go_at_call 56;(with_reducible refine Calls.mono (same_c [0,1,2,3] 4 AC _ cC _ _ rfl (by decide) (hC.to (by exact zbl)) (IntsR.new rfl)) ?_);rintro e wE5 ⟨rfl,hbE5⟩))
 have hB9:Below w.heap.size w wE5:=by exact zbl
 clear hL hA hB hH hC hbL hbA hbB hbH hbC hbS hbE1 hbE2 hbE3 hbE4 hbE5 hgP1 hbP1 hgP2 hbP2 hgP3 hbP3 hgP4 hbP4 hgP5 hbP5 hgP6 hbP6
 go_upto_region 10 with (go_at_call 88;refine(plane_c _).mono ?_;rintro e W9 ⟨a9,rfl,hg9,ho9,hcm9,hb9⟩;(have HO1:=zh ho9);(have HCM1:=zh hcm9);clear ho9 hcm9)
 obtain⟨bm,om,ea,hbm,hc0,hc1,hc2⟩:=hg9.mov.get3 (k:=0) (by decide) rfl
 have h0:=HO1.out _ ea
 simp only at h0
 subst h0
 have hcm:=HCM1.out
 rw[ea,hcm]
 have hgc:GridR W9 W9.heap.size ⟨a9.pS,some ⟨bm,3,none⟩,a9.pZ,a9.cs,4,a9.cz⟩ cutG:=⟨hg9.sta,by have h1:=hg9.mov;rw[ea]at h1;exact Rw.tl3 (off:=0) h1,hg9.zon,hg9.capS,Nat.le_refl 4,hg9.capZ⟩
 have HGC:=zh hgc
 clear hgc hcm HCM1 HO1 ea hg9 hc0 hc1 hc2
 have hs9:w.heap.size≤W9.heap.size:=by have:=hb9.size;have:=hB9.size;omega
 go_upto_region 12 with (go_at_call 31;(with_reducible refine Calls.mono (Barrier_p ⟨a9.pS,some ⟨bm,3,none⟩,a9.pZ,a9.cs,4,a9.cz⟩ _ (hk.to (by exact zbl)) (HGC.out.to (by exact zbl))) ?_);rintro e wD ⟨AD,cD,rfl,hD,hbD⟩)
 go_upto_region 13 with (first|(go_at_call 88;refine(plane_c _).mono ?_;rintro e wP7 ⟨aP7,rfl,hgP7,hoP7,hcP7,hbP7⟩;clear hoP7 hcP7)|(go_at_call 89;refine(dusk_c _).mono ?_;rintro e wK1 ⟨AK1,cK1,rfl,hK1,hbK1⟩)|(go_at_call 68;(with_reducible refine Calls.mono (Deadline_p aP7 _ (hgP7.to (by exact zbl)) (hk.to (by exact zbl)) AK1 cK1 (hK1.to (by exact zbl))) ?_);rintro e wF ⟨rfl,hbF⟩))
 go_upto_region 14 with (first|(go_at_call 88;refine(plane_c _).mono ?_;rintro e wP8 ⟨aP8,rfl,hgP8,hoP8,hcP8,hbP8⟩;clear hoP8 hcP8)|(go_at_call 89;refine(dusk_c _).mono ?_;rintro e wK2 ⟨AK2,cK2,rfl,hK2,hbK2⟩)|(go_at_call 48;(with_reducible refine Calls.mono (Lit_p aP8 _ (hgP8.to (by exact zbl)) (hk.to (by exact zbl)) AK2 cK2 (hK2.to (by exact zbl))) ?_);rintro e wT ⟨AT,cT,rfl,hT,hbT⟩))
 go_upto_region 15 with (first|(go_at_call 88;refine(plane_c _).mono ?_;rintro e wP9 ⟨aP9,rfl,hgP9,hoP9,hcP9,hbP9⟩;clear hoP9 hcP9)|(go_at_call 89;refine(dusk_c _).mono ?_;rintro e wK3 ⟨AK3,cK3,rfl,hK3,hbK3⟩)|(go_at_call 38;(with_reducible refine Calls.mono (Heard_p1 aP9 _ (hgP9.to (by exact zbl)) (hk.to (by exact zbl)) AK3 cK3 (hK3.to (by exact zbl))) ?_);rintro e wM ⟨AM,cM,Amm,cmm,rfl,hM,hbM⟩))
 obtain⟨AF,hAF⟩:∃A,A=AM:=⟨_,rfl⟩
 obtain⟨cF,hcF⟩:∃A,A=cM:=⟨_,rfl⟩
 obtain⟨AmF,hAmF⟩:∃A,A=Amm:=⟨_,rfl⟩
 obtain⟨cmF,hcmF⟩:∃A,A=cmm:=⟨_,rfl⟩
 rw[←hAF,←hcF]
 rw[←hAF,←hcF,←hAmF,←hcmF]at hM
 clear hAF hcF hAmF hcmF
 obtain⟨bF,hbF_⟩:∃b,b=wM.heap.size:=⟨_,rfl⟩
 obtain⟨X,hX⟩:∃X,X=wM.alloc (.cells #[.int .i64 10,.int .i64 3,.slice AF 1 cF] 72):=⟨_,rfl⟩
 have HB:Hid (Below w.heap.size w X):=zh (by rw[hX];exact(by exact zbl))
 have HKD:Hid (KindsAt X):=zh (by rw[hX];exact hk.to (by exact zbl))
 have HPW:Hid (PowAt X):=zh (by rw[hX];exact hp.to (by exact zbl))
 have HGC:Hid (GridR X X.heap.size ⟨a9.pS,some ⟨bm,3,none⟩,a9.pZ,a9.cs,4,a9.cz⟩ cutG):=zh (by rw[hX];exact HGC.out.to (by exact zbl))
 have HD:Hid (IntsR X X.heap.size AD [0]):=zh (by rw[hX];exact hD.to (by exact zbl))
 have HT:Hid (StrsR X X.heap.size AT [⟨#[109]⟩]):=zh (by rw[hX];exact hT.to (by exact zbl))
 have BC:Hid (X.heap[W9.heap.size]? =some (.cells #[.int .i64 5,.slice a9.pS 4 a9.cs,.slice (some ⟨bm,3,none⟩) 4 4,.slice a9.pZ 1 a9.cz] 38 (0,0))):=zh (by rw[hX];exact blk_step (U:=W9.alloc (.cells #[.int .i64 5,.slice a9.pS 4 a9.cs,.slice (some ⟨bm,3,none⟩) 4 4,.slice a9.pZ 1 a9.cz] 38)) (by exact zbl) (heap_alloc_new _ _))
 have BF:Hid (X.heap[bF]? =some (.cells #[.int .i64 10,.int .i64 3,.slice AF 1 cF] 72 (0,0))):=zh (by rw[hX,hbF_];exact heap_alloc_new _ _)
 have HF:Hid (FldR X X.heap.size AF cF [⟨mirG 0 [1,3] 4 10,AmF,cmF⟩]):=zh (by rw[hX];exact hM.to (by exact zbl))
 rw[←hX,←hbF_]
 clear hX hbF_ hk hp hD hT hM hB9 hb9 hs9 hbm hbD hbF hbT hbM hgP7 hbP7 hK1 hbK1 hgP8 hbP8 hK2 hbK2 hgP9 hbP9 hK3 hbK3
 refine awake_r15 X HKD.out _ _ _ _ _ BF.out HF.out _ _ _ _ _ _ _ _ _ _ _ _ _ _ _ _ _ _ _ _ _ _ _ _ _ _ _ _ _ _ _ _ _ _ _ _ _ _ _ _ _ _ _ _ _ _ _ _ _ _ _ _ _ _ _ _ _ _ _ _ _ _ _ _ _ _ _ _ _ _ _ _ _ _ _ _ _ _ _ _ _ _ _ _ _ _ _ _ _ _ _ _ _ _ _ _ _ _ _ _ _ _ _ _ _ _ _ _ _ _ _ _ _ _ _ _ _ _ _ _ _ _ _ _ _ _ _ _ _ _ _ _ _ _ _ _ _ _ _ _ _ _ _ _ _ _ _ _ _ _ _ _ _ _ _ _ _ _ _ _ _ _ _ _ _ _ _ _ _ _ _ _ _ _ _ _ _ _ _ _ _ _ _ _ _ _ _ _ _ _ _ _ _ _ _ _ _ _ _ _ _ _ _ _ _ _ _ _ _ _ _ _ _ _ _ _ _ _ _ _ _ _ _ _ _ _ _ _ _ _ _ _ _ _ _ _ _ _ _ _ _ _ _ _ _ _ _ _ _ _ _ _ _ _ _ _ _ _ _ _ _ _ _ _ _ _ _ _ _ _ _ _ _ _ _ _ _ _ _ _ _ _ _ _ _ _ _ _ _ _ _ ?_
 intro bG AG cG AmG cmG v15_0 v15_1 v15_2 v15_3 v15_4 v15_5 X15 hblk hfl hbc
 have HB_X15:Hid (Below w.heap.size w X15):=zh ((HB.out.trans (hbc.mono HB.out.size)))
 have HKD_X15:Hid (KindsAt X15):=zh (HKD.out.to hbc)
 have HPW_X15:Hid (PowAt X15):=zh (HPW.out.to hbc)
 have HGC_X15:Hid (GridR X15 X15.heap.size ⟨a9.pS,some ⟨bm,3,none⟩,a9.pZ,a9.cs,4,a9.cz⟩ cutG):=zh (HGC.out.to hbc)
 have HD_X15:Hid (IntsR X15 X15.heap.size AD [0]):=zh (HD.out.to hbc)
 have HT_X15:Hid (StrsR X15 X15.heap.size AT [⟨#[109]⟩]):=zh (HT.out.to hbc)
 have BC_X15:Hid (X15.heap[W9.heap.size]? =some (.cells #[.int .i64 5,.slice a9.pS 4 a9.cs,.slice (some ⟨bm,3,none⟩) 4 4,.slice a9.pZ 1 a9.cz] 38 (0,0))):=zh (blk_step hbc BC.out)
 have BF_X15:Hid (X15.heap[bF]? =some (.cells #[.int .i64 10,.int .i64 3,.slice AF 1 cF] 72 (0,0))):=zh (blk_step hbc BF.out)
 have HF_X15:Hid (FldR X15 X15.heap.size AF cF [⟨mirG 0 [1,3] 4 10,AmF,cmF⟩]):=zh (HF.out.to hbc)
 have BG_X15:Hid (X15.heap[bG]? =some (.cells #[.int .i64 11,.int .i64 3,.slice AG 1 cG] 72 (0,0))):=zh (hblk)
 have HG_X15:Hid (FldR X15 X15.heap.size AG cG [⟨mirG 0 [1,3] 3 10,AmG,cmG⟩]):=zh (hfl)
 clear hbc HB HKD HPW HGC HD HT BC BF HF
 clear hblk hfl
 dsimp only
 go_upto_region 16 with fail
 refine awake_r16 X15 HKD_X15.out _ _ _ _ _ BG_X15.out HG_X15.out _ _ _ _ _ _ _ _ _ _ _ _ _ _ _ _ _ _ _ _ _ _ _ _ _ _ _ _ _ _ _ _ _ _ _ _ _ _ _ _ _ _ _ _ _ _ _ _ _ _ _ _ _ _ _ _ _ _ _ _ _ _ _ _ _ _ _ _ _ _ _ _ _ _ _ _ _ _ _ _ _ _ _ _ _ _ _ _ _ _ _ _ _ _ _ _ _ _ _ _ _ _ _ _ _ _ _ _ _ _ _ _ _ _ _ _ _ _ _ _ _ _ _ _ _ _ _ _ _ _ _ _ _ _ _ _ _ _ _ _ _ _ _ _ _ _ _ _ _ _ _ _ _ _ _ _ _ _ _ _ _ _ _ _ _ _ _ _ _ _ _ _ _ _ _ _ _ _ _ _ _ _ _ _ _ _ _ _ _ _ _ _ _ _ _ _ _ _ _ _ _ _ _ _ _ _ _ _ _ _ _ _ _ _ _ _ _ _ _ _ _ _ _ _ _ _ _ _ _ _ _ _ _ _ _ _ _ _ _ _ _ _ _ _ _ _ _ _ _ _ _ _ _ _ _ _ _ _ _ _ _ _ _ _ _ _ _ _ _ _ _ _ _ _ _ _ _ _ _ _ _ _ _ _ _ _ _ _ _ _ _ ?_
 intro bV AV cV AmV cmV v16_0 v16_1 v16_2 v16_3 v16_4 v16_5 v16_6 X16 hblk hfl hbc
 have HB_X16:Hid (Below w.heap.size w X16):=zh ((HB_X15.out.trans (hbc.mono HB_X15.out.size)))
 have HKD_X16:Hid (KindsAt X16):=zh (HKD_X15.out.to hbc)
 have HPW_X16:Hid (PowAt X16):=zh (HPW_X15.out.to hbc)
 have HGC_X16:Hid (GridR X16 X16.heap.size ⟨a9.pS,some ⟨bm,3,none⟩,a9.pZ,a9.cs,4,a9.cz⟩ cutG):=zh (HGC_X15.out.to hbc)
 have HD_X16:Hid (IntsR X16 X16.heap.size AD [0]):=zh (HD_X15.out.to hbc)
 have HT_X16:Hid (StrsR X16 X16.heap.size AT [⟨#[109]⟩]):=zh (HT_X15.out.to hbc)
 have BC_X16:Hid (X16.heap[W9.heap.size]? =some (.cells #[.int .i64 5,.slice a9.pS 4 a9.cs,.slice (some ⟨bm,3,none⟩) 4 4,.slice a9.pZ 1 a9.cz] 38 (0,0))):=zh (blk_step hbc BC_X15.out)
 have BF_X16:Hid (X16.heap[bF]? =some (.cells #[.int .i64 10,.int .i64 3,.slice AF 1 cF] 72 (0,0))):=zh (blk_step hbc BF_X15.out)
 have HF_X16:Hid (FldR X16 X16.heap.size AF cF [⟨mirG 0 [1,3] 4 10,AmF,cmF⟩]):=zh (HF_X15.out.to hbc)
 have BG_X16:Hid (X16.heap[bG]? =some (.cells #[.int .i64 11,.int .i64 3,.slice AG 1 cG] 72 (0,0))):=zh (blk_step hbc BG_X15.out)
 have HG_X16:Hid (FldR X16 X16.heap.size AG cG [⟨mirG 0 [1,3] 3 10,AmG,cmG⟩]):=zh (HG_X15.out.to hbc)
 have BV_X16:Hid (X16.heap[bV]? =some (.cells #[.int .i64 11,.int .i64 3,.slice AV 1 cV] 72 (0,0))):=zh (hblk)
 have HV_X16:Hid (FldR X16 X16.heap.size AV cV [⟨mirG 0 [1,0] 3 11,AmV,cmV⟩]):=zh (hfl)
 clear hbc HB_X15 HKD_X15 HPW_X15 HGC_X15 HD_X15 HT_X15 BC_X15 BF_X15 HF_X15 BG_X15 HG_X15
 clear hblk hfl
 dsimp only
 go_upto_region 17 with fail
 refine awake_r17 X16 HKD_X16.out _ _ _ _ _ _ _ _ _ _ _ _ _ _ _ _ _ _ _ _ _ _ _ _ _ _ _ _ _ _ _ _ _ _ _ _ _ _ _ _ _ _ _ _ _ _ _ _ _ _ _ _ _ _ _ _ _ _ _ _ _ _ _ _ _ _ _ _ _ _ _ _ _ _ _ _ _ _ _ _ _ _ _ _ _ _ _ _ _ _ _ _ _ _ _ _ _ _ _ _ _ _ _ _ _ _ _ _ _ _ _ _ _ _ _ _ _ _ _ _ _ _ _ _ _ _ _ _ _ _ _ _ _ _ _ _ _ _ _ _ _ _ _ _ _ _ _ _ _ _ _ _ _ _ _ _ _ _ _ _ _ _ _ _ _ _ _ _ _ _ _ _ _ _ _ _ _ _ _ _ _ _ _ _ _ _ _ _ _ _ _ _ _ _ _ _ _ _ _ _ _ _ _ _ _ _ _ _ _ _ _ _ _ _ _ _ _ _ _ _ _ _ _ _ _ _ _ _ _ _ _ _ _ _ _ _ _ _ _ _ _ _ _ _ _ _ _ _ _ _ _ _ _ _ _ _ _ _ _ _ _ _ _ _ _ _ _ _ _ _ _ _ _ _ _ _ _ _ _ _ _ _ _ _ _ _ _ _ _ _ _ _ ?_
 intro bR AR cR AmR cmR v17_0 v17_1 v17_2 v17_3 v17_4 v17_5 v17_6 X17 hblk hfl hbc
 have HB_X17:Hid (Below w.heap.size w X17):=zh ((HB_X16.out.trans (hbc.mono HB_X16.out.size)))
 have HKD_X17:Hid (KindsAt X17):=zh (HKD_X16.out.to hbc)
 have HPW_X17:Hid (PowAt X17):=zh (HPW_X16.out.to hbc)
 have HGC_X17:Hid (GridR X17 X17.heap.size ⟨a9.pS,some ⟨bm,3,none⟩,a9.pZ,a9.cs,4,a9.cz⟩ cutG):=zh (HGC_X16.out.to hbc)
 have HD_X17:Hid (IntsR X17 X17.heap.size AD [0]):=zh (HD_X16.out.to hbc)
 have HT_X17:Hid (StrsR X17 X17.heap.size AT [⟨#[109]⟩]):=zh (HT_X16.out.to hbc)
 have BC_X17:Hid (X17.heap[W9.heap.size]? =some (.cells #[.int .i64 5,.slice a9.pS 4 a9.cs,.slice (some ⟨bm,3,none⟩) 4 4,.slice a9.pZ 1 a9.cz] 38 (0,0))):=zh (blk_step hbc BC_X16.out)
 have BF_X17:Hid (X17.heap[bF]? =some (.cells #[.int .i64 10,.int .i64 3,.slice AF 1 cF] 72 (0,0))):=zh (blk_step hbc BF_X16.out)
 have HF_X17:Hid (FldR X17 X17.heap.size AF cF [⟨mirG 0 [1,3] 4 10,AmF,cmF⟩]):=zh (HF_X16.out.to hbc)
 have BG_X17:Hid (X17.heap[bG]? =some (.cells #[.int .i64 11,.int .i64 3,.slice AG 1 cG] 72 (0,0))):=zh (blk_step hbc BG_X16.out)
 have HG_X17:Hid (FldR X17 X17.heap.size AG cG [⟨mirG 0 [1,3] 3 10,AmG,cmG⟩]):=zh (HG_X16.out.to hbc)
 have BV_X17:Hid (X17.heap[bV]? =some (.cells #[.int .i64 11,.int .i64 3,.slice AV 1 cV] 72 (0,0))):=zh (blk_step hbc BV_X16.out)
 have HV_X17:Hid (FldR X17 X17.heap.size AV cV [⟨mirG 0 [1,0] 3 11,AmV,cmV⟩]):=zh (HV_X16.out.to hbc)
 have BR_X17:Hid (X17.heap[bR]? =some (.cells #[.int .i64 13,.int .i64 3,.slice AR 1 cR] 72 (0,0))):=zh (hblk)
 have HR_X17:Hid (FldR X17 X17.heap.size AR cR [⟨mirG 0 [1] 3 9,AmR,cmR⟩]):=zh (hfl)
 clear hbc HB_X16 HKD_X16 HPW_X16 HGC_X16 HD_X16 HT_X16 BC_X16 BF_X16 HF_X16 BG_X16 HG_X16 BV_X16 HV_X16
 clear hblk hfl
 dsimp only
 go_upto_region 18 with fail
 refine awake_r18 X17 HKD_X17.out _ _ _ _ _ _ _ _ _ _ _ _ _ _ _ _ _ _ _ _ _ _ _ _ _ _ _ _ _ _ _ _ _ _ _ _ _ _ _ _ _ _ _ _ _ _ _ _ _ _ _ _ _ _ _ _ _ _ _ _ _ _ _ _ _ _ _ _ _ _ _ _ _ _ _ _ _ _ _ _ _ _ _ _ _ _ _ _ _ _ _ _ _ _ _ _ _ _ _ _ _ _ _ _ _ _ _ _ _ _ _ _ _ _ _ _ _ _ _ _ _ _ _ _ _ _ _ _ _ _ _ _ _ _ _ _ _ _ _ _ _ _ _ _ _ _ _ _ _ _ _ _ _ _ _ _ _ _ _ _ _ _ _ _ _ _ _ _ _ _ _ _ _ _ _ _ _ _ _ _ _ _ _ _ _ _ _ _ _ _ _ _ _ _ _ _ _ _ _ _ _ _ _ _ _ _ _ _ _ _ _ _ _ _ _ _ _ _ _ _ _ _ _ _ _ _ _ _ _ _ _ _ _ _ _ _ _ _ _ _ _ _ _ _ _ _ _ _ _ _ _ _ _ _ _ _ _ _ _ _ _ _ _ _ _ _ _ _ _ _ _ _ _ _ _ _ _ _ _ _ _ _ _ _ _ _ _ _ _ _ _ _ ?_
 intro bY AY cY AmY cmY v18_0 v18_1 v18_2 v18_3 v18_4 v18_5 v18_6 X18 hblk hfl hbc
 have HB_X18:Hid (Below w.heap.size w X18):=zh ((HB_X17.out.trans (hbc.mono HB_X17.out.size)))
 have HKD_X18:Hid (KindsAt X18):=zh (HKD_X17.out.to hbc)
 have HPW_X18:Hid (PowAt X18):=zh (HPW_X17.out.to hbc)
 have HGC_X18:Hid (GridR X18 X18.heap.size ⟨a9.pS,some ⟨bm,3,none⟩,a9.pZ,a9.cs,4,a9.cz⟩ cutG):=zh (HGC_X17.out.to hbc)
 have HD_X18:Hid (IntsR X18 X18.heap.size AD [0]):=zh (HD_X17.out.to hbc)
 have HT_X18:Hid (StrsR X18 X18.heap.size AT [⟨#[109]⟩]):=zh (HT_X17.out.to hbc)
 have BC_X18:Hid (X18.heap[W9.heap.size]? =some (.cells #[.int .i64 5,.slice a9.pS 4 a9.cs,.slice (some ⟨bm,3,none⟩) 4 4,.slice a9.pZ 1 a9.cz] 38 (0,0))):=zh (blk_step hbc BC_X17.out)
 have BF_X18:Hid (X18.heap[bF]? =some (.cells #[.int .i64 10,.int .i64 3,.slice AF 1 cF] 72 (0,0))):=zh (blk_step hbc BF_X17.out)
 have HF_X18:Hid (FldR X18 X18.heap.size AF cF [⟨mirG 0 [1,3] 4 10,AmF,cmF⟩]):=zh (HF_X17.out.to hbc)
 have BG_X18:Hid (X18.heap[bG]? =some (.cells #[.int .i64 11,.int .i64 3,.slice AG 1 cG] 72 (0,0))):=zh (blk_step hbc BG_X17.out)
 have HG_X18:Hid (FldR X18 X18.heap.size AG cG [⟨mirG 0 [1,3] 3 10,AmG,cmG⟩]):=zh (HG_X17.out.to hbc)
 have BV_X18:Hid (X18.heap[bV]? =some (.cells #[.int .i64 11,.int .i64 3,.slice AV 1 cV] 72 (0,0))):=zh (blk_step hbc BV_X17.out)
 have HV_X18:Hid (FldR X18 X18.heap.size AV cV [⟨mirG 0 [1,0] 3 11,AmV,cmV⟩]):=zh (HV_X17.out.to hbc)
 have BR_X18:Hid (X18.heap[bR]? =some (.cells #[.int .i64 13,.int .i64 3,.slice AR 1 cR] 72 (0,0))):=zh (blk_step hbc BR_X17.out)
 have HR_X18:Hid (FldR X18 X18.heap.size AR cR [⟨mirG 0 [1] 3 9,AmR,cmR⟩]):=zh (HR_X17.out.to hbc)
 have BY_X18:Hid (X18.heap[bY]? =some (.cells #[.int .i64 16,.int .i64 3,.slice AY 1 cY] 72 (0,0))):=zh (hblk)
 have HY_X18:Hid (FldR X18 X18.heap.size AY cY [⟨mirG 1 [] 0 9,AmY,cmY⟩]):=zh (hfl)
 clear hbc HB_X17 HKD_X17 HPW_X17 HGC_X17 HD_X17 HT_X17 BC_X17 BF_X17 HF_X17 BG_X17 HG_X17 BV_X17 HV_X17 BR_X17 HR_X17
 clear hblk hfl
 dsimp only
 go_upto_region 19 with fail
 refine awake_r19 X18 HKD_X18.out _ _ _ _ _ BY_X18.out HY_X18.out _ _ _ _ _ _ _ _ _ _ _ _ _ _ _ _ _ _ _ _ _ _ _ _ _ _ _ _ _ _ _ _ _ _ _ _ _ _ _ _ _ _ _ _ _ _ _ _ _ _ _ _ _ _ _ _ _ _ _ _ _ _ _ _ _ _ _ _ _ _ _ _ _ _ _ _ _ _ _ _ _ _ _ _ _ _ _ _ _ _ _ _ _ _ _ _ _ _ _ _ _ _ _ _ _ _ _ _ _ _ _ _ _ _ _ _ _ _ _ _ _ _ _ _ _ _ _ _ _ _ _ _ _ _ _ _ _ _ _ _ _ _ _ _ _ _ _ _ _ _ _ _ _ _ _ _ _ _ _ _ _ _ _ _ _ _ _ _ _ _ _ _ _ _ _ _ _ _ _ _ _ _ _ _ _ _ _ _ _ _ _ _ _ _ _ _ _ _ _ _ _ _ _ _ _ _ _ _ _ _ _ _ _ _ _ _ _ _ _ _ _ _ _ _ _ _ _ _ _ _ _ _ _ _ _ _ _ _ _ _ _ _ _ _ _ _ _ _ _ _ _ _ _ _ _ _ _ _ _ _ _ _ _ _ _ _ _ _ _ _ _ _ _ _ _ _ _ _ _ _ _ _ _ _ _ _ _ _ _ _ _ ?_
 intro v19_0 v19_1 v19_2 v19_3 v19_4 v19_5 X19 hbc
 have HB_X19:Hid (Below w.heap.size w X19):=zh ((HB_X18.out.trans (hbc.mono HB_X18.out.size)))
 have HKD_X19:Hid (KindsAt X19):=zh (HKD_X18.out.to hbc)
 have HPW_X19:Hid (PowAt X19):=zh (HPW_X18.out.to hbc)
 have HGC_X19:Hid (GridR X19 X19.heap.size ⟨a9.pS,some ⟨bm,3,none⟩,a9.pZ,a9.cs,4,a9.cz⟩ cutG):=zh (HGC_X18.out.to hbc)
 have HD_X19:Hid (IntsR X19 X19.heap.size AD [0]):=zh (HD_X18.out.to hbc)
 have HT_X19:Hid (StrsR X19 X19.heap.size AT [⟨#[109]⟩]):=zh (HT_X18.out.to hbc)
 have BC_X19:Hid (X19.heap[W9.heap.size]? =some (.cells #[.int .i64 5,.slice a9.pS 4 a9.cs,.slice (some ⟨bm,3,none⟩) 4 4,.slice a9.pZ 1 a9.cz] 38 (0,0))):=zh (blk_step hbc BC_X18.out)
 have BF_X19:Hid (X19.heap[bF]? =some (.cells #[.int .i64 10,.int .i64 3,.slice AF 1 cF] 72 (0,0))):=zh (blk_step hbc BF_X18.out)
 have HF_X19:Hid (FldR X19 X19.heap.size AF cF [⟨mirG 0 [1,3] 4 10,AmF,cmF⟩]):=zh (HF_X18.out.to hbc)
 have BG_X19:Hid (X19.heap[bG]? =some (.cells #[.int .i64 11,.int .i64 3,.slice AG 1 cG] 72 (0,0))):=zh (blk_step hbc BG_X18.out)
 have HG_X19:Hid (FldR X19 X19.heap.size AG cG [⟨mirG 0 [1,3] 3 10,AmG,cmG⟩]):=zh (HG_X18.out.to hbc)
 have BV_X19:Hid (X19.heap[bV]? =some (.cells #[.int .i64 11,.int .i64 3,.slice AV 1 cV] 72 (0,0))):=zh (blk_step hbc BV_X18.out)
 have HV_X19:Hid (FldR X19 X19.heap.size AV cV [⟨mirG 0 [1,0] 3 11,AmV,cmV⟩]):=zh (HV_X18.out.to hbc)
 have BR_X19:Hid (X19.heap[bR]? =some (.cells #[.int .i64 13,.int .i64 3,.slice AR 1 cR] 72 (0,0))):=zh (blk_step hbc BR_X18.out)
 have HR_X19:Hid (FldR X19 X19.heap.size AR cR [⟨mirG 0 [1] 3 9,AmR,cmR⟩]):=zh (HR_X18.out.to hbc)
 have BY_X19:Hid (X19.heap[bY]? =some (.cells #[.int .i64 16,.int .i64 3,.slice AY 1 cY] 72 (0,0))):=zh (blk_step hbc BY_X18.out)
 have HY_X19:Hid (FldR X19 X19.heap.size AY cY [⟨mirG 1 [] 0 9,AmY,cmY⟩]):=zh (HY_X18.out.to hbc)
 clear hbc HB_X18 HKD_X18 HPW_X18 HGC_X18 HD_X18 HT_X18 BC_X18 BF_X18 HF_X18 BG_X18 HG_X18 BV_X18 HV_X18 BR_X18 HR_X18 BY_X18 HY_X18
 dsimp only
 go_upto_region 21 with (first|(go_at_call 88;refine(plane_c _).mono ?_;rintro e wP10 ⟨aP10,rfl,hgP10,hoP10,hcP10,hbP10⟩;clear hoP10 hcP10)|(go_at_call 89;refine(dusk_c _).mono ?_;rintro e wK4 ⟨AK4,cK4,rfl,hK4,hbK4⟩)|(go_at_call 70;(with_reducible refine Calls.mono (Defocused_p aP10 _ (hgP10.to (by exact zbl)) (HKD_X19.out.to (by exact zbl)) AK4 cK4 (hK4.to (by exact zbl))) ?_);rintro e wZ ⟨AZ,cZ,AmZ,cmZ,rfl,hZ,hbZ⟩))
 have hfz:=Tryz.fldZ
 go_upto_region 22 with (first|(go_at_call 88;refine(plane_c _).mono ?_;rintro e wP11 ⟨aP11,rfl,hgP11,hoP11,hcP11,hbP11⟩;clear hoP11 hcP11)|(go_at_call 81;(with_reducible refine Calls.mono (Print_p aP11 _ (HKD_X19.out.to (by exact zbl)) (hgP11.to (by exact zbl)) (HPW_X19.out.to (by exact zbl))) ?_);rintro e wQ ⟨rfl,hbQ⟩))
 have hBZ:wQ.heap[wZ.heap.size]? =some (.cells #[.int .i64 10,.int .i64 3,.slice AZ 1 cZ] 72 (0,0)):=by(repeat first|(with_reducible first|assumption|exact blk_new (by first|rfl|(simp;done))|refine blk_drew ?_)|(with_reducible apply blk_step;(focus(with_reducible assumption)))|(refine blk_alloc ?_))
 have hFZ:FldR wQ wQ.heap.size AZ cZ [⟨mirG 0 [1] 4 10,AmZ,cmZ⟩]:=hZ.to (by exact zbl)
 have hXQ:Below X19.heap.size X19 wQ:=by exact zbl
 obtain⟨bZ,hbZe⟩:∃b,b=wZ.heap.size:=⟨_,rfl⟩
 rw[←hbZe]at hBZ
 rw[←hbZe]
 clear hbZe
 have HB_wQ:Hid (Below w.heap.size w wQ):=zh ((HB_X19.out.trans (hXQ.mono HB_X19.out.size)))
 have HKD_wQ:Hid (KindsAt wQ):=zh (HKD_X19.out.to hXQ)
 have HPW_wQ:Hid (PowAt wQ):=zh (HPW_X19.out.to hXQ)
 have HGC_wQ:Hid (GridR wQ wQ.heap.size ⟨a9.pS,some ⟨bm,3,none⟩,a9.pZ,a9.cs,4,a9.cz⟩ cutG):=zh (HGC_X19.out.to hXQ)
 have HD_wQ:Hid (IntsR wQ wQ.heap.size AD [0]):=zh (HD_X19.out.to hXQ)
 have HT_wQ:Hid (StrsR wQ wQ.heap.size AT [⟨#[109]⟩]):=zh (HT_X19.out.to hXQ)
 have BC_wQ:Hid (wQ.heap[W9.heap.size]? =some (.cells #[.int .i64 5,.slice a9.pS 4 a9.cs,.slice (some ⟨bm,3,none⟩) 4 4,.slice a9.pZ 1 a9.cz] 38 (0,0))):=zh (blk_step hXQ BC_X19.out)
 have BF_wQ:Hid (wQ.heap[bF]? =some (.cells #[.int .i64 10,.int .i64 3,.slice AF 1 cF] 72 (0,0))):=zh (blk_step hXQ BF_X19.out)
 have HF_wQ:Hid (FldR wQ wQ.heap.size AF cF [⟨mirG 0 [1,3] 4 10,AmF,cmF⟩]):=zh (HF_X19.out.to hXQ)
 have BG_wQ:Hid (wQ.heap[bG]? =some (.cells #[.int .i64 11,.int .i64 3,.slice AG 1 cG] 72 (0,0))):=zh (blk_step hXQ BG_X19.out)
 have HG_wQ:Hid (FldR wQ wQ.heap.size AG cG [⟨mirG 0 [1,3] 3 10,AmG,cmG⟩]):=zh (HG_X19.out.to hXQ)
 have BV_wQ:Hid (wQ.heap[bV]? =some (.cells #[.int .i64 11,.int .i64 3,.slice AV 1 cV] 72 (0,0))):=zh (blk_step hXQ BV_X19.out)
 have HV_wQ:Hid (FldR wQ wQ.heap.size AV cV [⟨mirG 0 [1,0] 3 11,AmV,cmV⟩]):=zh (HV_X19.out.to hXQ)
 have BR_wQ:Hid (wQ.heap[bR]? =some (.cells #[.int .i64 13,.int .i64 3,.slice AR 1 cR] 72 (0,0))):=zh (blk_step hXQ BR_X19.out)
 have HR_wQ:Hid (FldR wQ wQ.heap.size AR cR [⟨mirG 0 [1] 3 9,AmR,cmR⟩]):=zh (HR_X19.out.to hXQ)
 have BY_wQ:Hid (wQ.heap[bY]? =some (.cells #[.int .i64 16,.int .i64 3,.slice AY 1 cY] 72 (0,0))):=zh (blk_step hXQ BY_X19.out)
 have HY_wQ:Hid (FldR wQ wQ.heap.size AY cY [⟨mirG 1 [] 0 9,AmY,cmY⟩]):=zh (HY_X19.out.to hXQ)
 have BZ_wQ:Hid (wQ.heap[bZ]? =some (.cells #[.int .i64 10,.int .i64 3,.slice AZ 1 cZ] 72 (0,0))):=zh (hBZ)
 have HZ_wQ:Hid (FldR wQ wQ.heap.size AZ cZ [⟨mirG 0 [1] 4 10,AmZ,cmZ⟩]):=zh (hFZ)
 clear hXQ HB_X19 HKD_X19 HPW_X19 HGC_X19 HD_X19 HT_X19 BC_X19 BF_X19 HF_X19 BG_X19 HG_X19 BV_X19 HV_X19 BR_X19 HR_X19 BY_X19 HY_X19
 clear hBZ hFZ hZ hbZ hbQ hgP11 hbP11 hgP10 hbP10 hK4 hbK4
 go_wp2_with (first
  |(go_at_call 88;refine(plane_c _).mono ?_;rintro e wP12 ⟨aP12,rfl,hgP12,hoP12,hcP12,hbP12⟩;clear hoP12 hcP12)
  |(go_at_call 89;refine(dusk_c _).mono ?_;rintro e wK5 ⟨AK5,cK5,rfl,hK5,hbK5⟩)
  |(go_at_call 75;(with_reducible refine Calls.mono (Taken_q aP12 _ (hgP12.to (by exact zbl)) (HKD_wQ.out.to (by exact zbl)) AK5 cK5 (hK5.to (by exact zbl))) ?_);rintro e wN ⟨x1,x2,x3,x4,x5,rfl,hbN⟩;(have kk:=blk_step (U:=wQ) (W:=wN) (by exact zbl) BC_wQ.out);(obtain⟨zc0,zcf0,zc1,zcf1,zc2,zcf2,zc3,zcf3⟩:=cv4 kk);(have zclt:=blk_lt kk);clear kk)
  |(go_at_call 32;(with_reducible refine Calls.mono (CheckBarrier_p ⟨a9.pS,some ⟨bm,3,none⟩,a9.pZ,a9.cs,4,a9.cz⟩ _ (HKD_wQ.out.to (by exact zbl)) (HGC_wQ.out.to (by exact zbl)) _ _ (IntsR.nw (by first|rfl|(simp;done)) rfl)) ?_);rintro e wY1 ⟨rfl,hbY1⟩)
  |(go_at_call 56;(with_reducible refine Calls.mono (same_c [0] 1 AD _ cD _ _ rfl (by decide) (HD_wQ.out.to (by exact zbl)) (IntsR.nw (by first|rfl|(simp;done)) rfl)) ?_);rintro e wY2 ⟨rfl,hbY2⟩)
  |(go_at_call 90;(with_reducible refine Calls.mono (sameW_c [⟨#[109]⟩] 1 AT _ cT _ _ rfl (by decide) (HT_wQ.out.to (by exact zbl)) (StrsR.nw (by first|rfl|(simp;done)) rfl)) ?_);rintro e wY3 ⟨rfl,hbY3⟩;(have kk:=blk_step (U:=wQ) (W:=wY3) (by exact zbl) BF_wQ.out);(obtain⟨zf0,zff0,zf1,zff1,zf2,zff2⟩:=cv3 kk);(have zflt:=blk_lt kk);clear kk)
  |(go_at_call 91;(with_reducible refine Calls.mono (has_c' 10 3 0 4 10 [1,3] 2 AF AmF _ cF cmF _ _ rfl (by decide) (HF_wQ.out.to (by exact zbl)) (IntsR.nw (by first|rfl|(simp;done)) rfl)) ?_);rintro e wY4 ⟨rfl,hbY4⟩;(have kk:=blk_step (U:=wQ) (W:=wY4) (by exact zbl) BG_wQ.out);(obtain⟨zg0,zgf0,zg1,zgf1,zg2,zgf2⟩:=cv3 kk);(have zglt:=blk_lt kk);clear kk)
  |(go_at_call 91;(with_reducible refine Calls.mono (has_c' 11 3 0 3 10 [1,3] 2 AG AmG _ cG cmG _ _ rfl (by decide) (HG_wQ.out.to (by exact zbl)) (IntsR.nw (by first|rfl|(simp;done)) rfl)) ?_);rintro e wY5 ⟨rfl,hbY5⟩;(have kk:=blk_step (U:=wQ) (W:=wY5) (by exact zbl) BV_wQ.out);(obtain⟨zv0,zvf0,zv1,zvf1,zv2,zvf2⟩:=cv3 kk);(have zvlt:=blk_lt kk);clear kk)
  |(go_at_call 91;(with_reducible refine Calls.mono (has_c' 11 3 0 3 11 [1,0] 2 AV AmV _ cV cmV _ _ rfl (by decide) (HV_wQ.out.to (by exact zbl)) (IntsR.nw (by first|rfl|(simp;done)) rfl)) ?_);rintro e wY6 ⟨rfl,hbY6⟩;(have kk:=blk_step (U:=wQ) (W:=wY6) (by exact zbl) BR_wQ.out);(obtain⟨zr0,zrf0,zr1,zrf1,zr2,zrf2⟩:=cv3 kk);(have zrlt:=blk_lt kk);clear kk)
  |(go_at_call 91;(with_reducible refine Calls.mono (has_c' 13 3 0 3 9 [1] 1 AR AmR _ cR cmR _ _ rfl (by decide) (HR_wQ.out.to (by exact zbl)) (IntsR.nw (by first|rfl|(simp;done)) rfl)) ?_);rintro e wY7 ⟨rfl,hbY7⟩;(have kk:=blk_step (U:=wQ) (W:=wY7) (by exact zbl) BY_wQ.out);(obtain⟨zy0,zyf0,zy1,zyf1,zy2,zyf2⟩:=cv3 kk);(have zylt:=blk_lt kk);clear kk)
  |(go_at_call 91;(with_reducible refine Calls.mono (has_c' 16 3 1 0 9 [] 0 AY AmY _ cY cmY _ _ rfl (by decide) (HY_wQ.out.to (by exact zbl)) (IntsR.nil0 _ _)) ?_);rintro e wY8 ⟨rfl,hbY8⟩;(have kk:=blk_step (U:=wQ) (W:=wY8) (by exact zbl) BZ_wQ.out);(obtain⟨zz0,zzf0,zz1,zzf1,zz2,zzf2⟩:=cv3 kk);(have zzlt:=blk_lt kk);clear kk)
  |(go_at_call 91;(with_reducible refine Calls.mono (has_c' 10 3 0 4 10 [1] 1 AZ AmZ _ cZ cmZ _ _ rfl (by decide) (HZ_wQ.out.to (by exact zbl)) (IntsR.nw (by first|rfl|(simp;done)) rfl)) ?_);rintro e wY9 ⟨rfl,hbY9⟩))
 go_ret
 exact⟨rfl,HB_wQ.out.trans ((show Below wQ.heap.size wQ wY9 by exact zbl).mono HB_wQ.out.size)⟩
end Go.Proofs.YtehnikhicnnnhaaGreatDoor
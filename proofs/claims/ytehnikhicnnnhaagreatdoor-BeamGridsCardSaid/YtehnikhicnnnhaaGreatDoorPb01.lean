/- BeamGrids: the region 7. | BeamGrids answers true. -/
import Derived.Test.YtehnikhicnnnhaaGreatDoorPa34
import Derived.Test.YtehnikhicnnnhaaGreatDoorPa26
import Derived.Test.YtehnikhicnnnhaaGreatDoorPa01
import Derived.Test.YtehnikhicnnnhaaGreatDoorPa30
namespace Go.Proofs.YtehnikhicnnnhaaGreatDoor
open Go.RowKit
noncomputable def bgR (n : Nat) : Code := (findR n (Tryz.f9.body.getD .skip)).getD .skip
set_option maxHeartbeats 1000000 in
theorem lFirst_c (b : Nat) (xs : List Int) (w : World) (hx : xs.length ≤ 1000) (hb : CellsAt w b 0 xs) :
    Calls Tryz.prog 23 #[.slice (some ⟨b, 0, none⟩) xs.length xs.length] w fun e w' => e = .returned (.int .i64 (firstErr xs)) ∧ w = w' := by
  have HF := Lib.hid (rFirst_c b xs w hx hb)
  clear hb
  go_enter Tryz.func23, Tryz.ntmps23
  go_wp2_with (go_at_call 100; refine (HF.out).mono ?_; rintro e w' ⟨rfl, rfl⟩)
  go_ret
  exact ⟨rfl, rfl⟩
theorem fE2 (x y : Int) (l : List Int) : firstErr (firstErr [x, y] :: l) = firstErr (x :: y :: l) := by
  by_cases hx : x = 0
  · subst hx; rw [fE0, fE1, fE0]
  · rw [fEn hx, fEn hx, fEn hx]
theorem touchC_two (z : Zon) (bl ax ay bx by_ : Int) : firstErr [rZoneC z, rng bl 0 100, placeC ax ay, placeC bx by_] = touchC z bl ax ay bx by_ := by
  rw [rZoneC_eq, fE2]; rfl
set_option maxRecDepth 100000 in
set_option maxHeartbeats 4000000 in
theorem bg_r7 (X : World) (z : Zon) (n0 n1 n2 n3 n4 : Int) (bZ bN bL : Nat) (hzs : z.name.size ≤ 100000) (hZ : X.heap[bZ]? = some (.cells #[.string z.name, .int .i64 z.x, .int .i64 z.y, .int .i64 z.r] 115 (0, 0))) (hN : X.heap[bN]? = some (.cells #[.int .i64 n0, .int .i64 n1, .int .i64 n2, .int .i64 n3, .int .i64 n4] 116 (0, 0))) (hL : X.heap[bL]? = some (.cells #[.int .i64 n1, .int .i64 n2, .int .i64 n3, .int .i64 n4] 117 (0, 0)))
    (u0 u1 u2 u3 u6 u8 u9 u10 u11 u12 u13 u14 u15 u16 u17 u18 u19 u20 u21 u22 u23 u24 u25 u26 u27 u28 u29 u30 u31 u32 u33 u34 u35 u36 u37 u38 u39 u40 u41 u42 u43 u44 u45 u46 u47 u48 u49 u50 u51 u52 u53 u54 u55 u56 u57 u58 u59 u60 u61 u62 u63 u64 u65 u66 u67 u68 u69 u70 u71 u72 u73 u74 u75 u76 u77 u78 u79 u80 u81 u82 u83 u84 u85 u86 u87 u88 u89 u90 u91 u92 u93 u94 u95 u96 u97 u98 u99 u100 u101 u102 u103 u104 : Value) (K : Act → World → Prop) (Q : Exit → Act → World → Prop)
    (hK : ∀ (v52 v53 v54 v55 v56 v57 v58 v59 v60 v61 v62 v63 v64 : Value) (wx : World), Below X.heap.size X wx → K { tmps := #[u0, u1, u2, u3, .pointer (some ⟨bZ, 0, none⟩), .pointer (some ⟨bN, 0, none⟩), u6, .pointer (some ⟨bL, 0, none⟩), u8, u9, u10, u11, u12, .int .i64 (touchC z n0 n1 n2 n3 n4), u14, u15, u16, u17, u18, u19, u20, u21, u22, u23, u24, u25, u26, u27, u28, u29, u30, u31, u32, u33, u34, u35, u36, u37, u38, u39, u40, u41, u42, u43, u44, u45, u46, u47, u48, u49, u50, u51, v52, v53, v54, v55, v56, v57, v58, v59, v60, v61, v62, v63, v64, u65, u66, u67, u68, u69, u70, u71, u72, u73, u74, u75, u76, u77, u78, u79, u80, u81, u82, u83, u84, u85, u86, u87, u88, u89, u90, u91, u92, u93, u94, u95, u96, u97, u98, u99, u100, u101, u102, u103, u104], defers := [] } wx) :
    Code.wp Tryz.prog (bgR 7) (Exit.then K Q) { tmps := #[u0, u1, u2, u3, .pointer (some ⟨bZ, 0, none⟩), .pointer (some ⟨bN, 0, none⟩), u6, .pointer (some ⟨bL, 0, none⟩), u8, u9, u10, u11, u12, u13, u14, u15, u16, u17, u18, u19, u20, u21, u22, u23, u24, u25, u26, u27, u28, u29, u30, u31, u32, u33, u34, u35, u36, u37, u38, u39, u40, u41, u42, u43, u44, u45, u46, u47, u48, u49, u50, u51, u52, u53, u54, u55, u56, u57, u58, u59, u60, u61, u62, u63, u64, u65, u66, u67, u68, u69, u70, u71, u72, u73, u74, u75, u76, u77, u78, u79, u80, u81, u82, u83, u84, u85, u86, u87, u88, u89, u90, u91, u92, u93, u94, u95, u96, u97, u98, u99, u100, u101, u102, u103, u104], defers := [] } X := by
  have lZ := bk_lt hZ
  have lN := bk_lt hN
  have lL := bk_lt hL
  (obtain ⟨qz0, qzf0, qz1, qzf1, qz2, qzf2, qz3, qzf3⟩ := cv4 hZ)
  (obtain ⟨qn0, qnf0, qn1, qnf1, qn2, qnf2, qn3, qnf3, qn4, qnf4⟩ := cv5 hN)
  (obtain ⟨ql0, qlf0, ql1, qlf1, ql2, qlf2, ql3, qlf3⟩ := cv4 hL)
  clear hZ hN hL
  have HTWO := Lib.hid (touchC_two z n0 n1 n2 n3 n4)
  conv => arg 2; whnf
  go_region_held3 (fun W => (X).heap.size ≤ W.heap.size ∧ (∀ b o, b < (X).heap.size → W.cell? ⟨b, o, none⟩ = (X).cell? ⟨b, o, none⟩) ∧ (∀ b, b < (X).heap.size → W.heap[b]? = (X).heap[b]?)) ((refine Sh.goal ?_; repeat first | (with_reducible first | assumption | exact Sh.refl _ | refine Sh.drew ?_ | refine Sh.alloc ?_ _ | refine Sh.set ?_ _ ?_) | (with_reducible apply Sh.below'; (focus (with_reducible assumption))) | omega | (focus (simp; done)) | (focus (simp; omega)))) (first | (go_at_call 62; refine (rZone_c z _ hzs).mono ?_; rintro e w1 ⟨rfl, hb1⟩) | (go_at_call 63; refine (rBlur_c _ _).mono ?_; rintro e w' ⟨rfl, rfl⟩) | (go_at_call 64; refine (rPlace_c _ _ _).mono ?_; rintro e w2 ⟨rfl, hb2⟩) | (go_at_call 23; refine (lFirst_c _ [rZoneC z, rng n0 0 100, placeC n1 n2, placeC n3 n4] _ ?_ ?_).mono ?_; (focus simp); (focus simp [CellsAt]); rintro e w' ⟨rfl, rfl⟩))
  all_goals
    go_wp2_with fail
    rw [HTWO.out]
    exact hK _ _ _ _ _ _ _ _ _ _ _ _ _ _ (by exact zbl)
end Go.Proofs.YtehnikhicnnnhaaGreatDoor
namespace Go.Proofs.YtehnikhicnnnhaaGreatDoor
open Go.RowKit

set_option maxHeartbeats 1000000 in
/-- A list and its error are the expected ones. -/
theorem listed_t (A A' : Option Addr) (n m c c' : Nat) (bad : Int) (xs ys : List Int) (w : World) (hn : xs.length = n) (hm : ys.length = m) (hl : n ≤ 1000) (h : IntsR w w.heap.size A xs) (h' : IntsR w w.heap.size A' ys) (he : xs = if bad = 0 then ys else []) :
    Calls Tryz.prog 27 #[.slice A n c, .int .i64 bad, .int .i64 bad, .slice A' m c'] w fun e w' => e = .returned (.bool true) ∧ Below w.heap.size w w' := by
  subst hn hm
  have H := Lib.hid h
  have H' := Lib.hid h'
  clear h h'
  by_cases hb : bad = 0
  · have hz : (bad != 0) = false := by rw [bne_eq_false_iff_eq]; exact hb
    rw [if_pos hb] at he
    subst he
    clear hb
    go_enter Tryz.func27, Tryz.ntmps27
    go_wp2_with (go_at_call 56; (with_reducible refine Calls.mono (same_c xs xs.length A A' c c' _ rfl (by omega) (H.out.to (by exact zbl)) (H'.out.to (by exact zbl))) ?_); rintro e w1 ⟨rfl, hb1⟩)
    go_ret
    exact ⟨ret_bool (by simp), by exact zbl⟩
  · have hz : (bad != 0) = true := by rw [bne_iff_ne]; exact hb
    rw [if_neg hb] at he
    subst he
    clear hb
    go_enter Tryz.func27, Tryz.ntmps27
    go_wp2_with (go_at_call 56; (with_reducible refine Calls.mono (same_c [] 0 A none c 0 _ rfl (by omega) (IntsR.nil0 _ _) (IntsR.nil0 _ _)) ?_); rintro e w1 ⟨rfl, hb1⟩)
    go_ret
    exact ⟨ret_bool (by simp), by exact zbl⟩
set_option maxRecDepth 100000 in
set_option maxHeartbeats 16000000 in
theorem BeamGrids_c (a : GA) (g : Grd) (z : Zon) (n0 n1 n2 n3 n4 : Int) (w : World) (hr : GridR w w.heap.size a g) (hk : KindsAt w) (hp : PowAt w) :
    Calls Tryz.prog 9 #[(.agg #[.int .i64 g.blur, .slice a.pS g.sta.length a.cs, .slice a.pM g.mov.length a.cm, .slice a.pZ g.zon.length a.cz]), .agg #[.string z.name, .int .i64 z.x, .int .i64 z.y, .int .i64 z.r], .agg #[.int .i64 n0, .int .i64 n1, .int .i64 n2, .int .i64 n3, .int .i64 n4]] w fun e w' => e = .returned (.bool true) ∧ Below w.heap.size w w' := by
  obtain ⟨W0, hW0⟩ : ∃ W0, W0 = ((w.alloc (.cells #[.int .i64 g.blur, .slice a.pS g.sta.length a.cs, .slice a.pM g.mov.length a.cm, .slice a.pZ g.zon.length a.cz] 26)).alloc (.cells #[.string z.name, .int .i64 z.x, .int .i64 z.y, .int .i64 z.r] 115)).alloc (.cells #[.int .i64 n0, .int .i64 n1, .int .i64 n2, .int .i64 n3, .int .i64 n4] 116) := ⟨_, rfl⟩
  have hsz : W0.heap.size = w.heap.size + 3 := by rw [hW0]; simp
  have k0 : W0.heap[w.heap.size]? = some (.cells #[.int .i64 g.blur, .slice a.pS g.sta.length a.cs, .slice a.pM g.mov.length a.cm, .slice a.pZ g.zon.length a.cz] 26 (0, 0)) := by rw [hW0]; exact heap_fst _ _ _ _
  have k1 : W0.heap[w.heap.size + 1]? = some (.cells #[.string z.name, .int .i64 z.x, .int .i64 z.y, .int .i64 z.r] 115 (0, 0)) := by rw [hW0]; exact heap_mid _ _ _ _
  have k2 : W0.heap[w.heap.size + 1 + 1]? = some (.cells #[.int .i64 n0, .int .i64 n1, .int .i64 n2, .int .i64 n3, .int .i64 n4] 116 (0, 0)) := by rw [hW0]; exact heap_lst _ _ _ _
  have hB0 : Below w.heap.size w W0 := by rw [hW0]; (repeat first | (with_reducible first | assumption | exact Below.refl _ _ | refine Bl.drew ?_ | refine Bl.drewN ?_ _ | refine Bl.alloc ?_ _ | refine Bl.set ?_ _ ?_) | (with_reducible apply Bl.step'; (focus (with_reducible assumption))) | omega | (focus (simp; done)) | (focus (simp; omega)))
  have HG : Hid (GridR W0 W0.heap.size a g) := Lib.hid (hr.to hB0)
  have HKD : Hid (KindsAt W0) := Lib.hid (hk.to hB0)
  have HPW : Hid (PowAt W0) := Lib.hid (hp.to hB0)
  have KG := Lib.hid k0
  have KZ := Lib.hid k1
  have KN := Lib.hid k2
  have HB0 := Lib.hid hB0
  clear hr hk hp hB0
  (obtain ⟨d0, d1, d2, d3⟩ := cg4 k0)
  clear k0 k1 k2
  have hSH := fun W (h : GridR W W.heap.size a g) => rShort_c a g W h
  cases hsh : shortG g
  · rw [hsh] at hSH
    have HSH := Lib.hid hSH
    clear hSH hsh
    go_enter Tryz.func9, Tryz.ntmps9
    go_upto_region 1 with fail
    rw [← hW0]
    clear hW0
    go_wp2_with (first | (go_at_call 15; (with_reducible refine Calls.mono (HSH.out _ (HG.out.to (by exact zbl))) ?_); rintro e wA ⟨rfl, hbA⟩) | (go_at_call 16; (with_reducible refine Calls.mono (awake_c _ (HKD.out.to (by exact zbl)) (HPW.out.to (by exact zbl))) ?_); rintro e wK ⟨rfl, hbK⟩))
    go_ret
    exact ⟨rfl, HB0.out.trans ((show Below W0.heap.size W0 _ by exact zbl).mono HB0.out.size)⟩
  · rw [hsh] at hSH
    have HSH := Lib.hid hSH
    have hsm := short_small hsh
    clear hSH hsh
    cases hq : decide ((40 : Int) < (z.name.size : Int))
    · have hzs : z.name.size ≤ 100000 := by have := of_decide_eq_false hq; omega
      have hsl := safeMs_len g g.mov
      have hnm := hsm.nm
      obtain ⟨xs, hxs⟩ : ∃ xs, xs = if gridC g = 0 then safeMs g g.mov else [] := ⟨_, rfl⟩
      have hxl : xs.length ≤ 1000 := by rw [hxs]; split; omega; simp
      have HXS := Lib.hid hxs
      clear hxs
      go_enter Tryz.func9, Tryz.ntmps9
      go_upto_region 1 with fail
      rw [← hW0]
      clear hW0
      go_upto_region 3 with (go_at_call 15; (with_reducible refine Calls.mono (HSH.out _ (HG.out.to (by exact zbl))) ?_); rintro e wA ⟨rfl, hbA⟩; (have kk := bk_step (U := W0) (W := wA) (by exact zbl) KZ.out); (have pzlt := bk_lt kk); (obtain ⟨pz0, pzf0, pz1, pzf1, pz2, pzf2, pz3, pzf3⟩ := cv4 kk); clear kk; (have kk := bk_step (U := W0) (W := wA) (by exact zbl) KN.out); (have pnlt := bk_lt kk); (obtain ⟨pn0, pnf0, pn1, pnf1, pn2, pnf2, pn3, pnf3, pn4, pnf4⟩ := cv5 kk); clear kk; (have kk := bk_step (U := W0) (W := wA) (by exact zbl) KG.out); (have pglt := bk_lt kk); (obtain ⟨pg0, pg1, pg2, pg3⟩ := cg4 kk); clear kk)
      go_upto_region 4 with fail
      obtain ⟨WL, hWL⟩ : ∃ W, W = wA.alloc (.cells #[.int .i64 n1, .int .i64 n2, .int .i64 n3, .int .i64 n4] 117) := ⟨_, rfl⟩
      have hbL : Below W0.heap.size W0 WL := by rw [hWL]; (repeat first | (with_reducible first | assumption | exact Below.refl _ _ | refine Bl.drew ?_ | refine Bl.drewN ?_ _ | refine Bl.alloc ?_ _ | refine Bl.set ?_ _ ?_) | (with_reducible apply Bl.step'; (focus (with_reducible assumption))) | omega | (focus (simp; done)) | (focus (simp; omega)))
      have kl : WL.heap[wA.heap.size]? = some (.cells #[.int .i64 n1, .int .i64 n2, .int .i64 n3, .int .i64 n4] 117 (0, 0)) := by rw [hWL]; exact heap_alloc_new _ _
      obtain ⟨bL, hbLe⟩ : ∃ b, b = wA.heap.size := ⟨_, rfl⟩
      rw [← hbLe] at kl
      rw [← hWL, ← hbLe]
      clear hWL hbLe hbA
      have KL := Lib.hid kl
      clear kl
      (have kk := bk_step (U := W0) (W := WL) (by exact zbl) KG.out)
      (have rglt := bk_lt kk)
      (obtain ⟨rg0, rg1, rg2, rg3⟩ := cg4 kk)
      clear kk
      go_upto_region 5 with (first | (go_at_call 18; (with_reducible refine Calls.mono (grid_c a g _ hsm (HG.out.to (by exact zbl))) ?_); rintro e wB ⟨aB, rfl, hgB, hbB⟩) | (go_at_call 57; (with_reducible refine Calls.mono (SafeMoves_c aB.pS aB.pM aB.pZ aB.cs aB.cm aB.cz g _ hsm (hgB.to (by exact zbl)) (HKD.out.to (by exact zbl))) ?_); rintro e wC ⟨v, rfl, hbC, ho⟩; (rw [← HXS.out] at ho); obtain ⟨AC, cC, rfl, hcC, hiC, hfC⟩ := ho.sl; clear ho; (have kk := bk_step (U := W0) (W := wC) (by exact zbl) KZ.out); (have szlt := bk_lt kk); (obtain ⟨sz0, szf0, sz1, szf1, sz2, szf2, sz3, szf3⟩ := cv4 kk); clear kk; (have kk := bk_step (U := W0) (W := wC) (by exact zbl) KN.out); (have snlt := bk_lt kk); (obtain ⟨sn0, snf0, sn1, snf1, sn2, snf2, sn3, snf3, sn4, snf4⟩ := cv5 kk); clear kk; (have kk := bk_step (U := WL) (W := wC) (by exact zbl) KL.out); (have sllt := bk_lt kk); (obtain ⟨sl0, slf0, sl1, slf1, sl2, slf2, sl3, slf3⟩ := cv4 kk); clear kk))
      have HIC := Lib.hid hiC
      go_upto_region 6 with (go_at_call 61; (with_reducible refine Calls.mono (Touches_c z n0 n1 n2 n3 n4 _ hzs) ?_); rintro e wD ⟨rfl, hbD⟩; (have kk := bk_step (U := W0) (W := wD) (by exact zbl) KG.out); (have tglt := bk_lt kk); (obtain ⟨tg0, tg1, tg2, tg3⟩ := cg4 kk); clear kk)
      go_upto_region 7 with (go_at_call 21; (with_reducible refine Calls.mono (rGridC_c a g _ hsm (HG.out.to (by exact zbl))) ?_); rintro e wE ⟨rfl, hbE⟩)
      have hbCE : Below wC.heap.size wC wE := by exact zbl
      have hbLE : Below WL.heap.size WL wE := by exact zbl
      have hb0E : Below W0.heap.size W0 wE := by exact zbl
      refine bg_r7 wE z n0 n1 n2 n3 n4 _ _ _ hzs (bk_step hb0E KZ.out) (bk_step hb0E KN.out) (bk_step hbLE KL.out) _ _ _ _ _ _ _ _ _ _ _ _ _ _ _ _ _ _ _ _ _ _ _ _ _ _ _ _ _ _ _ _ _ _ _ _ _ _ _ _ _ _ _ _ _ _ _ _ _ _ _ _ _ _ _ _ _ _ _ _ _ _ _ _ _ _ _ _ _ _ _ _ _ _ _ _ _ _ _ _ _ _ _ _ _ _ _ _ _ _ _ _ _ _ _ _ _ _ _ _ _ _ _ _ ?_
      intro v52 v53 v54 v55 v56 v57 v58 v59 v60 v61 v62 v63 v64 wF hbF
      have hbCF : Below wC.heap.size wC wF := by exact zbl
      have hbLF : Below WL.heap.size WL wF := by exact zbl
      have hb0F : Below W0.heap.size W0 wF := by exact zbl
      have HIC2 := Lib.hid (IntsR.to HIC.out hbCF)
      clear HIC
      dsimp only
      (have kk := bk_step (U := W0) (W := wF) (by exact zbl) KG.out)
      (have uglt := bk_lt kk)
      (obtain ⟨ug0, ug1, ug2, ug3⟩ := cg4 kk)
      clear kk
      (have kk := bk_step (U := W0) (W := wF) (by exact zbl) KZ.out)
      (have uzlt := bk_lt kk)
      (obtain ⟨uz0, uzf0, uz1, uzf1, uz2, uzf2, uz3, uzf3⟩ := cv4 kk)
      clear kk
      (have kk := bk_step (U := W0) (W := wF) (by exact zbl) KN.out)
      (have unlt := bk_lt kk)
      (obtain ⟨un0, unf0, un1, unf1, un2, unf2, un3, unf3, un4, unf4⟩ := cv5 kk)
      clear kk
      (have kk := bk_step (U := WL) (W := wF) (by exact zbl) KL.out)
      (have ullt := bk_lt kk)
      (obtain ⟨ul0, ulf0, ul1, ulf1, ul2, ulf2, ul3, ulf3⟩ := cv4 kk)
      clear kk
      cases hb0 : (gridC g == 0)
      · have hne : gridC g ≠ 0 := by simpa using hb0
        have HE := Lib.hid (show xs = if gridC g = 0 then [] else [] by rw [HXS.out, if_neg hne, if_neg hne])
        clear hne
        cases hb1 : (touchC z n0 n1 n2 n3 n4 == 0)
        · go_wp2_with (first | (go_at_call 18; (with_reducible refine Calls.mono (grid_c a g _ hsm (HG.out.to (by exact zbl))) ?_); rintro e wH ⟨aH, rfl, hgH, hbH⟩) | (go_at_call 66; (with_reducible refine Calls.mono (CheckGrid_c aH g _ hsm (hgH.to (by exact zbl)) (HKD.out.to (by exact zbl))) ?_); rintro e wI ⟨rfl, hbI⟩; (have kk := bk_step (U := W0) (W := wI) (by exact zbl) KZ.out); (have szlt := bk_lt kk); (obtain ⟨sz0, szf0, sz1, szf1, sz2, szf2, sz3, szf3⟩ := cv4 kk); clear kk; (have kk := bk_step (U := W0) (W := wI) (by exact zbl) KN.out); (have snlt := bk_lt kk); (obtain ⟨sn0, snf0, sn1, snf1, sn2, snf2, sn3, snf3, sn4, snf4⟩ := cv5 kk); clear kk; (have kk := bk_step (U := WL) (W := wI) (by exact zbl) KL.out); (have sllt := bk_lt kk); (obtain ⟨sl0, slf0, sl1, slf1, sl2, slf2, sl3, slf3⟩ := cv4 kk); clear kk) | (go_at_call 27; (with_reducible refine Calls.mono (listed_t AC none xs.length 0 cC 0 (gridC g) xs [] _ rfl rfl (by omega) (HIC2.out.to (by exact zbl)) (IntsR.nil0 _ _) HE.out) ?_); rintro e wJ ⟨rfl, hbJ⟩; (have kk := bk_step (U := W0) (W := wJ) (by exact zbl) KZ.out); (have vzlt := bk_lt kk); (obtain ⟨vz0, vzf0, vz1, vzf1, vz2, vzf2, vz3, vzf3⟩ := cv4 kk); clear kk; (have kk := bk_step (U := W0) (W := wJ) (by exact zbl) KN.out); (have vnlt := bk_lt kk); (obtain ⟨vn0, vnf0, vn1, vnf1, vn2, vnf2, vn3, vnf3, vn4, vnf4⟩ := cv5 kk); clear kk; (have kk := bk_step (U := WL) (W := wJ) (by exact zbl) KL.out); (have vllt := bk_lt kk); (obtain ⟨vl0, vlf0, vl1, vlf1, vl2, vlf2, vl3, vlf3⟩ := cv4 kk); clear kk) | (go_at_call 16; (with_reducible refine Calls.mono (awake_c _ (HKD.out.to (by exact zbl)) (HPW.out.to (by exact zbl))) ?_); rintro e wK ⟨rfl, hbK⟩))
          go_ret
          exact ⟨rfl, HB0.out.trans ((show Below W0.heap.size W0 _ by exact zbl).mono HB0.out.size)⟩
        · have HTB := Lib.hid (touchC_ok (by simpa using hb1))
          go_wp2_with (first | (go_at_call 18; (with_reducible refine Calls.mono (grid_c a g _ hsm (HG.out.to (by exact zbl))) ?_); rintro e wH ⟨aH, rfl, hgH, hbH⟩) | (go_at_call 66; (with_reducible refine Calls.mono (CheckGrid_c aH g _ hsm (hgH.to (by exact zbl)) (HKD.out.to (by exact zbl))) ?_); rintro e wI ⟨rfl, hbI⟩; (have kk := bk_step (U := W0) (W := wI) (by exact zbl) KZ.out); (have szlt := bk_lt kk); (obtain ⟨sz0, szf0, sz1, szf1, sz2, szf2, sz3, szf3⟩ := cv4 kk); clear kk; (have kk := bk_step (U := W0) (W := wI) (by exact zbl) KN.out); (have snlt := bk_lt kk); (obtain ⟨sn0, snf0, sn1, snf1, sn2, snf2, sn3, snf3, sn4, snf4⟩ := cv5 kk); clear kk; (have kk := bk_step (U := WL) (W := wI) (by exact zbl) KL.out); (have sllt := bk_lt kk); (obtain ⟨sl0, slf0, sl1, slf1, sl2, slf2, sl3, slf3⟩ := cv4 kk); clear kk) | (go_at_call 27; (with_reducible refine Calls.mono (listed_t AC none xs.length 0 cC 0 (gridC g) xs [] _ rfl rfl (by omega) (HIC2.out.to (by exact zbl)) (IntsR.nil0 _ _) HE.out) ?_); rintro e wJ ⟨rfl, hbJ⟩; (have kk := bk_step (U := W0) (W := wJ) (by exact zbl) KZ.out); (have vzlt := bk_lt kk); (obtain ⟨vz0, vzf0, vz1, vzf1, vz2, vzf2, vz3, vzf3⟩ := cv4 kk); clear kk; (have kk := bk_step (U := W0) (W := wJ) (by exact zbl) KN.out); (have vnlt := bk_lt kk); (obtain ⟨vn0, vnf0, vn1, vnf1, vn2, vnf2, vn3, vnf3, vn4, vnf4⟩ := cv5 kk); clear kk; (have kk := bk_step (U := WL) (W := wJ) (by exact zbl) KL.out); (have vllt := bk_lt kk); (obtain ⟨vl0, vlf0, vl1, vlf1, vl2, vlf2, vl3, vlf3⟩ := cv4 kk); clear kk) | (go_at_call 67; (with_reducible refine Calls.mono (rTouches_c z.name z.x z.y z.r n0 n1 n2 n3 n4 _ HTB.out.1.x0 HTB.out.1.x1 HTB.out.1.y0 HTB.out.1.y1 HTB.out.1.r0 HTB.out.1.r1 HTB.out.2.1.1 HTB.out.2.1.2 HTB.out.2.2.1.1 HTB.out.2.2.1.2 HTB.out.2.2.2.1.1 HTB.out.2.2.2.1.2 HTB.out.2.2.2.2.1.1 HTB.out.2.2.2.2.1.2 HTB.out.2.2.2.2.2.1 HTB.out.2.2.2.2.2.2) ?_); rintro e wK2 ⟨rfl, hbK2⟩) | (go_at_call 16; (with_reducible refine Calls.mono (awake_c _ (HKD.out.to (by exact zbl)) (HPW.out.to (by exact zbl))) ?_); rintro e wK ⟨rfl, hbK⟩))
          go_ret
          exact ⟨rfl, HB0.out.trans ((show Below W0.heap.size W0 _ by exact zbl).mono HB0.out.size)⟩
      · have HZ := Lib.hid (show gridC g = 0 by simpa using hb0)
        have HE := Lib.hid (show xs = if gridC g = 0 then safeMs g g.mov else [] from HXS.out)
        have HOK := Lib.hid (gridC_ok HZ.out)
        go_upto_region 11 with (go_at_call 65; (with_reducible refine Calls.mono (rSafeMoves_c a g _ HOK.out (HG.out.to (by exact zbl))) ?_); rintro e wG ⟨vG, rfl, hoG, hbG⟩; obtain ⟨AG, cG, rfl, hcG, hiG, hfG⟩ := hoG.sl; clear hoG; (have kk := bk_step (U := W0) (W := wG) (by exact zbl) KG.out); (have qglt := bk_lt kk); (obtain ⟨qg0, qg1, qg2, qg3⟩ := cg4 kk); clear kk)
        have HIG := Lib.hid hiG
        cases hb1 : (touchC z n0 n1 n2 n3 n4 == 0)
        · go_wp2_with (first | (go_at_call 18; (with_reducible refine Calls.mono (grid_c a g _ hsm (HG.out.to (by exact zbl))) ?_); rintro e wH ⟨aH, rfl, hgH, hbH⟩) | (go_at_call 66; (with_reducible refine Calls.mono (CheckGrid_c aH g _ hsm (hgH.to (by exact zbl)) (HKD.out.to (by exact zbl))) ?_); rintro e wI ⟨rfl, hbI⟩; (have kk := bk_step (U := W0) (W := wI) (by exact zbl) KZ.out); (have szlt := bk_lt kk); (obtain ⟨sz0, szf0, sz1, szf1, sz2, szf2, sz3, szf3⟩ := cv4 kk); clear kk; (have kk := bk_step (U := W0) (W := wI) (by exact zbl) KN.out); (have snlt := bk_lt kk); (obtain ⟨sn0, snf0, sn1, snf1, sn2, snf2, sn3, snf3, sn4, snf4⟩ := cv5 kk); clear kk; (have kk := bk_step (U := WL) (W := wI) (by exact zbl) KL.out); (have sllt := bk_lt kk); (obtain ⟨sl0, slf0, sl1, slf1, sl2, slf2, sl3, slf3⟩ := cv4 kk); clear kk) | (go_at_call 27; (with_reducible refine Calls.mono (listed_t AC AG xs.length (safeMs g g.mov).length cC cG (gridC g) xs (safeMs g g.mov) _ rfl rfl (by omega) (HIC2.out.to (by exact zbl)) (HIG.out.to (by exact zbl)) HE.out) ?_); rintro e wJ ⟨rfl, hbJ⟩; (have kk := bk_step (U := W0) (W := wJ) (by exact zbl) KZ.out); (have vzlt := bk_lt kk); (obtain ⟨vz0, vzf0, vz1, vzf1, vz2, vzf2, vz3, vzf3⟩ := cv4 kk); clear kk; (have kk := bk_step (U := W0) (W := wJ) (by exact zbl) KN.out); (have vnlt := bk_lt kk); (obtain ⟨vn0, vnf0, vn1, vnf1, vn2, vnf2, vn3, vnf3, vn4, vnf4⟩ := cv5 kk); clear kk; (have kk := bk_step (U := WL) (W := wJ) (by exact zbl) KL.out); (have vllt := bk_lt kk); (obtain ⟨vl0, vlf0, vl1, vlf1, vl2, vlf2, vl3, vlf3⟩ := cv4 kk); clear kk) | (go_at_call 16; (with_reducible refine Calls.mono (awake_c _ (HKD.out.to (by exact zbl)) (HPW.out.to (by exact zbl))) ?_); rintro e wK ⟨rfl, hbK⟩))
          go_ret
          exact ⟨rfl, HB0.out.trans ((show Below W0.heap.size W0 _ by exact zbl).mono HB0.out.size)⟩
        · have HTB := Lib.hid (touchC_ok (by simpa using hb1))
          go_wp2_with (first | (go_at_call 18; (with_reducible refine Calls.mono (grid_c a g _ hsm (HG.out.to (by exact zbl))) ?_); rintro e wH ⟨aH, rfl, hgH, hbH⟩) | (go_at_call 66; (with_reducible refine Calls.mono (CheckGrid_c aH g _ hsm (hgH.to (by exact zbl)) (HKD.out.to (by exact zbl))) ?_); rintro e wI ⟨rfl, hbI⟩; (have kk := bk_step (U := W0) (W := wI) (by exact zbl) KZ.out); (have szlt := bk_lt kk); (obtain ⟨sz0, szf0, sz1, szf1, sz2, szf2, sz3, szf3⟩ := cv4 kk); clear kk; (have kk := bk_step (U := W0) (W := wI) (by exact zbl) KN.out); (have snlt := bk_lt kk); (obtain ⟨sn0, snf0, sn1, snf1, sn2, snf2, sn3, snf3, sn4, snf4⟩ := cv5 kk); clear kk; (have kk := bk_step (U := WL) (W := wI) (by exact zbl) KL.out); (have sllt := bk_lt kk); (obtain ⟨sl0, slf0, sl1, slf1, sl2, slf2, sl3, slf3⟩ := cv4 kk); clear kk) | (go_at_call 27; (with_reducible refine Calls.mono (listed_t AC AG xs.length (safeMs g g.mov).length cC cG (gridC g) xs (safeMs g g.mov) _ rfl rfl (by omega) (HIC2.out.to (by exact zbl)) (HIG.out.to (by exact zbl)) HE.out) ?_); rintro e wJ ⟨rfl, hbJ⟩; (have kk := bk_step (U := W0) (W := wJ) (by exact zbl) KZ.out); (have vzlt := bk_lt kk); (obtain ⟨vz0, vzf0, vz1, vzf1, vz2, vzf2, vz3, vzf3⟩ := cv4 kk); clear kk; (have kk := bk_step (U := W0) (W := wJ) (by exact zbl) KN.out); (have vnlt := bk_lt kk); (obtain ⟨vn0, vnf0, vn1, vnf1, vn2, vnf2, vn3, vnf3, vn4, vnf4⟩ := cv5 kk); clear kk; (have kk := bk_step (U := WL) (W := wJ) (by exact zbl) KL.out); (have vllt := bk_lt kk); (obtain ⟨vl0, vlf0, vl1, vlf1, vl2, vlf2, vl3, vlf3⟩ := cv4 kk); clear kk) | (go_at_call 67; (with_reducible refine Calls.mono (rTouches_c z.name z.x z.y z.r n0 n1 n2 n3 n4 _ HTB.out.1.x0 HTB.out.1.x1 HTB.out.1.y0 HTB.out.1.y1 HTB.out.1.r0 HTB.out.1.r1 HTB.out.2.1.1 HTB.out.2.1.2 HTB.out.2.2.1.1 HTB.out.2.2.1.2 HTB.out.2.2.2.1.1 HTB.out.2.2.2.1.2 HTB.out.2.2.2.2.1.1 HTB.out.2.2.2.2.1.2 HTB.out.2.2.2.2.2.1 HTB.out.2.2.2.2.2.2) ?_); rintro e wK2 ⟨rfl, hbK2⟩) | (go_at_call 16; (with_reducible refine Calls.mono (awake_c _ (HKD.out.to (by exact zbl)) (HPW.out.to (by exact zbl))) ?_); rintro e wK ⟨rfl, hbK⟩))
          go_ret
          exact ⟨rfl, HB0.out.trans ((show Below W0.heap.size W0 _ by exact zbl).mono HB0.out.size)⟩

    · have hq2 := of_decide_eq_true hq
      go_enter Tryz.func9, Tryz.ntmps9
      go_upto_region 1 with fail
      rw [← hW0]
      clear hW0
      go_wp2_with (first | (go_at_call 15; (with_reducible refine Calls.mono (HSH.out _ (HG.out.to (by exact zbl))) ?_); rintro e wA ⟨rfl, hbA⟩; (have kk := bk_step (U := W0) (W := wA) (by exact zbl) KZ.out); (have pzlt := bk_lt kk); (obtain ⟨pz0, pzf0, pz1, pzf1, pz2, pzf2, pz3, pzf3⟩ := cv4 kk); clear kk) | (go_at_call 16; (with_reducible refine Calls.mono (awake_c _ (HKD.out.to (by exact zbl)) (HPW.out.to (by exact zbl))) ?_); rintro e wK ⟨rfl, hbK⟩))
      go_ret
      exact ⟨rfl, HB0.out.trans ((show Below W0.heap.size W0 _ by exact zbl).mono HB0.out.size)⟩
end Go.Proofs.YtehnikhicnnnhaaGreatDoor

/- BeamWays answers true. -/
import Derived.Test.YtehnikhicnnnhaaGreatDoorPa39
import Derived.Test.YtehnikhicnnnhaaGreatDoorPa38
import Derived.Test.YtehnikhicnnnhaaGreatDoorPa01
namespace Go.Proofs.YtehnikhicnnnhaaGreatDoor
open Go.RowKit

set_option maxRecDepth 100000 in
set_option maxHeartbeats 16000000 in
theorem BeamWays_c (a : GA) (g : Grd) (n0 n1 : Int) (w : World) (hr : GridR w w.heap.size a g) (hk : KindsAt w) (hp : PowAt w) :
    Calls Tryz.prog 3 #[(.agg #[.int .i64 g.blur, .slice a.pS g.sta.length a.cs, .slice a.pM g.mov.length a.cm, .slice a.pZ g.zon.length a.cz]), .agg #[.int .i64 n0, .int .i64 n1]] w fun e w' => e = .returned (.bool true) ∧ Below w.heap.size w w' := by
  obtain ⟨W0, hW0⟩ : ∃ W0, W0 = (w.alloc (.cells #[.int .i64 g.blur, .slice a.pS g.sta.length a.cs, .slice a.pM g.mov.length a.cm, .slice a.pZ g.zon.length a.cz] 26)).alloc (.cells #[.int .i64 n0, .int .i64 n1] 27) := ⟨_, rfl⟩
  have hsz : W0.heap.size = w.heap.size + 2 := by rw [hW0]; simp
  have k0 : W0.heap[w.heap.size]? = some (.cells #[.int .i64 g.blur, .slice a.pS g.sta.length a.cs, .slice a.pM g.mov.length a.cm, .slice a.pZ g.zon.length a.cz] 26 (0, 0)) := by rw [hW0]; exact (Below.heap_alloc _ _ _ (by simp)).trans (heap_alloc_new w _)
  have k1 : W0.heap[w.heap.size + 1]? = some (.cells #[.int .i64 n0, .int .i64 n1] 27 (0, 0)) := by rw [hW0]; exact heap_two w _ _
  have hB0 : Below w.heap.size w W0 := by rw [hW0]; (repeat first | (with_reducible first | assumption | exact Below.refl _ _ | refine Bl.drew ?_ | refine Bl.drewN ?_ _ | refine Bl.alloc ?_ _ | refine Bl.set ?_ _ ?_) | (with_reducible apply Bl.step'; (focus (with_reducible assumption))) | omega | (focus (simp; done)) | (focus (simp; omega)))
  have HG : Hid (GridR W0 W0.heap.size a g) := Lib.hid (hr.to hB0)
  have HKD : Hid (KindsAt W0) := Lib.hid (hk.to hB0)
  have HPW : Hid (PowAt W0) := Lib.hid (hp.to hB0)
  have HB0 := Lib.hid hB0
  have z0 := bk_lt k0
  have z1 := bk_lt k1
  clear hr hk hp hB0
  (obtain ⟨d0, d1, d2, d3⟩ := cg4 k0)
  (obtain ⟨m0, mf0, m1, mf1⟩ := cv2 k1)
  clear k0 k1 mf0 mf1
  have hSH := fun W (h : GridR W W.heap.size a g) => rShort_c a g W h
  cases hsh : shortG g
  · rw [hsh] at hSH
    have HSH := Lib.hid hSH
    clear hSH hsh
    go_enter Tryz.func3, Tryz.ntmps3
    go_upto_region 1 with fail
    rw [← hW0]
    clear hW0
    go_wp2_with (first | (go_at_call 15; (with_reducible refine Calls.mono (HSH.out _ (HG.out.to (by exact zbl))) ?_); rintro e wA ⟨rfl, hbA⟩; (have hq_wA : Below W0.heap.size W0 wA := by exact zbl); (have hc_wA := (bcell hq_wA).1); (have y0_wA : w.heap.size < wA.heap.size := Nat.lt_of_lt_of_le z0 hq_wA.size); (have y1_wA : w.heap.size + 1 < wA.heap.size := Nat.lt_of_lt_of_le z1 hq_wA.size); clear hq_wA) | (go_at_call 16; (with_reducible refine Calls.mono (awake_c _ (HKD.out.to (by exact zbl)) (HPW.out.to (by exact zbl))) ?_); rintro e wK ⟨rfl, hbK⟩))
    go_ret
    exact ⟨rfl, HB0.out.trans ((show Below W0.heap.size W0 _ by exact zbl).mono HB0.out.size)⟩
  · rw [hsh] at hSH
    have HSH := Lib.hid hSH
    have hsm := short_small hsh
    have hnst := hsm.ns
    clear hSH hsh
    obtain ⟨X1, hX1⟩ : ∃ X, X = if fromC g [n0] = 0 then reachG g n0 else [] := ⟨_, rfl⟩
    obtain ⟨E1, hE1⟩ : ∃ E, E = fromC g [n0] := ⟨_, rfl⟩
    obtain ⟨X2, hX2⟩ : ∃ X, X = if wayE g n0 n1 = 0 then ((wayG g n0 n1).map Rt.st).getD [] else [] := ⟨_, rfl⟩
    obtain ⟨T2, hT2⟩ : ∃ X, X = if wayE g n0 n1 = 0 then ((wayG g n0 n1).map Rt.n).getD 0 else 0 := ⟨_, rfl⟩
    obtain ⟨E2, hE2⟩ : ∃ E, E = wayE g n0 n1 := ⟨_, rfl⟩
    obtain ⟨X3, hX3⟩ : ∃ X, X = homesL g := ⟨_, rfl⟩
    obtain ⟨GB, hGB⟩ : ∃ E, E = gridC g := ⟨_, rfl⟩
    have HRE := Lib.hid (show ∀ W a', GridR W W.heap.size a' g → KindsAt W → Calls Tryz.prog 17 #[(.agg #[.int .i64 g.blur, .slice a'.pS g.sta.length a'.cs, .slice a'.pM g.mov.length a'.cm, .slice a'.pZ g.zon.length a'.cz]), .int .i64 n0] W fun e w' => ∃ A c, e = .returned (.tuple #[.slice A X1.length c, .int .i64 E1]) ∧ IntsR w' w'.heap.size A X1 ∧ Below W.heap.size W w' from fun W a' h1 h2 => by
      refine (Reached_c a' g n0 W hsm h1 h2).mono ?_
      rintro e w' ⟨v, rfl, ho, hb⟩
      rw [← hX1] at ho
      obtain ⟨A, c, rfl, _, h3⟩ := ho.ints
      exact ⟨A, c, by rw [← hE1], h3, hb⟩)
    have HWA := Lib.hid (show ∀ W a', GridR W W.heap.size a' g → KindsAt W → Calls Tryz.prog 19 #[(.agg #[.int .i64 g.blur, .slice a'.pS g.sta.length a'.cs, .slice a'.pM g.mov.length a'.cm, .slice a'.pZ g.zon.length a'.cz]), .int .i64 n0, .int .i64 n1] W fun e w' => ∃ A c, e = .returned (.tuple #[.slice A X2.length c, .int .i64 T2, .int .i64 E2]) ∧ IntsR w' w'.heap.size A X2 ∧ Below W.heap.size W w' from fun W a' h1 h2 => by
      refine (Way_c a' g n0 n1 W hsm h1 h2).mono ?_
      rintro e w' ⟨A, c, n, l, rfl, _, h3, h4, hb⟩
      unfold WayR at h4
      have hl : l = X2 ∧ n = T2 := by
        rw [hX2, hT2]
        split at h4
        · rename_i h5
          rw [if_pos h5, if_pos h5, h4]
          exact ⟨rfl, rfl⟩
        · rename_i h5
          rw [if_neg h5, if_neg h5]
          exact h4
      rw [hl.1] at h3 ⊢
      exact ⟨A, c, by rw [hl.2, ← hE2], h3, hb⟩)
    have HHO := Lib.hid (show ∀ W a', GridR W W.heap.size a' g → KindsAt W → Calls Tryz.prog 20 #[(.agg #[.int .i64 g.blur, .slice a'.pS g.sta.length a'.cs, .slice a'.pM g.mov.length a'.cm, .slice a'.pZ g.zon.length a'.cz])] W fun e w' => ∃ A c, e = .returned (.tuple #[.slice A X3.length c, .int .i64 GB]) ∧ IntsR w' w'.heap.size A X3 ∧ Below W.heap.size W w' from fun W a' h1 h2 => by
      refine (Homes_c a' g W hsm h1 h2).mono ?_
      rintro e w' ⟨v, rfl, ho, hb⟩
      rw [← hX3] at ho
      obtain ⟨A, c, rfl, _, h3⟩ := ho.ints
      exact ⟨A, c, by rw [← hGB], h3, hb⟩)
    have HGC := Lib.hid (show ∀ W, GridR W W.heap.size a g → Calls Tryz.prog 21 #[(.agg #[.int .i64 g.blur, .slice a.pS g.sta.length a.cs, .slice a.pM g.mov.length a.cm, .slice a.pZ g.zon.length a.cz])] W fun e w' => e = .returned (.int .i64 GB) ∧ Below W.heap.size W w' from fun W h => by rw [hGB]; exact rGridC_c a g W hsm h)
    have hL1 : X1.length ≤ 1000 := by rw [hX1]; split; (have := reachG_len g n0; omega); simp
    have hL2 : X2.length ≤ 1000 := by
      rw [hX2]
      split
      · rename_i h5
        cases hw : wayG g n0 n1 with
        | none => simp
        | some r =>
          have h6 : fromC g [n0, n1] = 0 := by
            unfold wayE at h5
            split at h5
            · rename_i h7; exact absurd h5 h7
            · rename_i h7; exact Classical.not_not.1 h7
          have h7 := fromC_zero h6
          have h8 := wayG_small (gridC_ok h7.1) (gridC_uniq h7.1) (staC_zero (h7.2 n0 (by simp))).1 hw
          simp only [Option.map_some, Option.getD_some]
          omega
      · simp
    have hL3 : X3.length ≤ 1000 := by rw [hX3]; unfold homesL; split; (rw [homesK_len]; omega); simp
    have HX1 := Lib.hid hX1
    have HX2 := Lib.hid hX2
    have HX3 := Lib.hid hX3
    have HT2 := Lib.hid hT2
    have HE1 := Lib.hid hE1
    have HE2 := Lib.hid hE2
    have HGB := Lib.hid hGB
    clear hX1 hX2 hX3 hT2 hE1 hE2 hGB
    cases hb0 : (GB == 0)
    · have hne : GB ≠ 0 := by simpa using hb0
      have HB := Lib.hid hne
      have Hf : ∀ l, fromC g l = GB := fun l => by unfold fromC; rw [← HGB.out, if_pos HB.out]
      have HA1 := Lib.hid (show E1 = GB from HE1.out.trans (Hf _))
      have HA2 := Lib.hid (show E2 = GB by rw [HE2.out]; unfold wayE; rw [if_pos (by rw [Hf]; exact HB.out)]; exact Hf _)
      have HQ1 := Lib.hid (show X1 = if GB = 0 then [] else [] by rw [HX1.out, if_neg (by rw [Hf]; exact HB.out), if_neg HB.out])
      have HQ2 := Lib.hid (show X2 = if GB = 0 then [] else [] by rw [HX2.out, ← HE2.out, HA2.out, if_neg HB.out, if_neg HB.out])
      have HQ3 := Lib.hid (show X3 = if GB = 0 then [] else [] by rw [HX3.out]; unfold homesL; rw [← HGB.out, if_neg HB.out, if_neg HB.out])
      have HQT := Lib.hid (show T2 = if GB = 0 then 0 else 0 by rw [HT2.out, ← HE2.out, HA2.out, if_neg HB.out, if_neg HB.out])
      clear hne Hf
      go_enter Tryz.func3, Tryz.ntmps3
      go_upto_region 1 with fail
      rw [← hW0]
      clear hW0
      go_upto_region 3 with (go_at_call 15; (with_reducible refine Calls.mono (HSH.out _ (HG.out.to (by exact zbl))) ?_); rintro e wA ⟨rfl, hbA⟩; (have hq_wA : Below W0.heap.size W0 wA := by exact zbl); (have hc_wA := (bcell hq_wA).1); (have y0_wA : w.heap.size < wA.heap.size := Nat.lt_of_lt_of_le z0 hq_wA.size); (have y1_wA : w.heap.size + 1 < wA.heap.size := Nat.lt_of_lt_of_le z1 hq_wA.size); clear hq_wA)
      go_region_held3 (fun W => (W0).heap.size ≤ W.heap.size ∧ (∀ b o, b < (W0).heap.size → W.cell? ⟨b, o, none⟩ = (W0).cell? ⟨b, o, none⟩) ∧ (∀ b, b < (W0).heap.size → W.heap[b]? = (W0).heap[b]?)) ((refine Sh.goal ?_; repeat first | (with_reducible first | assumption | exact Sh.refl _ | refine Sh.drew ?_ | refine Sh.alloc ?_ _ | refine Sh.set ?_ _ ?_) | (with_reducible apply Sh.below'; (focus (with_reducible assumption))) | omega | (focus (simp; done)) | (focus (simp; omega)))) (first | (go_at_call 18; (with_reducible refine Calls.mono (grid_c a g _ hsm (HG.out.to (by exact zbl))) ?_); rintro e wB ⟨aB, rfl, hgB, hbB⟩; (have hq_wB : Below W0.heap.size W0 wB := by exact zbl); (have hc_wB := (bcell hq_wB).1); (have y0_wB : w.heap.size < wB.heap.size := Nat.lt_of_lt_of_le z0 hq_wB.size); (have y1_wB : w.heap.size + 1 < wB.heap.size := Nat.lt_of_lt_of_le z1 hq_wB.size); clear hq_wB) | (go_at_call 17; (with_reducible refine Calls.mono (HRE.out _ aB (hgB.to (by exact zbl)) (HKD.out.to (by exact zbl))) ?_); rintro e wC ⟨A1, c1, rfl, hi1, hbC⟩; (have I1 := Lib.hid hi1); clear hi1; (have hq_wC : Below W0.heap.size W0 wC := by exact zbl); (have hc_wC := (bcell hq_wC).1); (have y0_wC : w.heap.size < wC.heap.size := Nat.lt_of_lt_of_le z0 hq_wC.size); (have y1_wC : w.heap.size + 1 < wC.heap.size := Nat.lt_of_lt_of_le z1 hq_wC.size); clear hq_wC))
      go_upto_region 4 with fail
      go_region_held3 (fun W => (W0).heap.size ≤ W.heap.size ∧ (∀ b o, b < (W0).heap.size → W.cell? ⟨b, o, none⟩ = (W0).cell? ⟨b, o, none⟩) ∧ (∀ b, b < (W0).heap.size → W.heap[b]? = (W0).heap[b]?)) ((refine Sh.goal ?_; repeat first | (with_reducible first | assumption | exact Sh.refl _ | refine Sh.drew ?_ | refine Sh.alloc ?_ _ | refine Sh.set ?_ _ ?_) | (with_reducible apply Sh.below'; (focus (with_reducible assumption))) | omega | (focus (simp; done)) | (focus (simp; omega)))) (first | (go_at_call 18; (with_reducible refine Calls.mono (grid_c a g _ hsm (HG.out.to (by exact zbl))) ?_); rintro e wD ⟨aD, rfl, hgD, hbD⟩; (have hq_wD : Below W0.heap.size W0 wD := by exact zbl); (have hc_wD := (bcell hq_wD).1); (have y0_wD : w.heap.size < wD.heap.size := Nat.lt_of_lt_of_le z0 hq_wD.size); (have y1_wD : w.heap.size + 1 < wD.heap.size := Nat.lt_of_lt_of_le z1 hq_wD.size); clear hq_wD) | (go_at_call 19; (with_reducible refine Calls.mono (HWA.out _ aD (hgD.to (by exact zbl)) (HKD.out.to (by exact zbl))) ?_); rintro e wE ⟨A2, c2, rfl, hi2, hbE⟩; (have I2 := Lib.hid hi2); clear hi2; (have hq_wE : Below W0.heap.size W0 wE := by exact zbl); (have hc_wE := (bcell hq_wE).1); (have y0_wE : w.heap.size < wE.heap.size := Nat.lt_of_lt_of_le z0 hq_wE.size); (have y1_wE : w.heap.size + 1 < wE.heap.size := Nat.lt_of_lt_of_le z1 hq_wE.size); clear hq_wE))
      go_upto_region 6 with (first | (go_at_call 18; (with_reducible refine Calls.mono (grid_c a g _ hsm (HG.out.to (by exact zbl))) ?_); rintro e wF ⟨aF, rfl, hgF, hbF⟩; (have hq_wF : Below W0.heap.size W0 wF := by exact zbl); (have hc_wF := (bcell hq_wF).1); (have y0_wF : w.heap.size < wF.heap.size := Nat.lt_of_lt_of_le z0 hq_wF.size); (have y1_wF : w.heap.size + 1 < wF.heap.size := Nat.lt_of_lt_of_le z1 hq_wF.size); clear hq_wF) | (go_at_call 20; (with_reducible refine Calls.mono (HHO.out _ aF (hgF.to (by exact zbl)) (HKD.out.to (by exact zbl))) ?_); rintro e wH ⟨A3, c3, rfl, hi3, hbH⟩; (have I3 := Lib.hid hi3); clear hi3; (have hq_wH : Below W0.heap.size W0 wH := by exact zbl); (have hc_wH := (bcell hq_wH).1); (have y0_wH : w.heap.size < wH.heap.size := Nat.lt_of_lt_of_le z0 hq_wH.size); (have y1_wH : w.heap.size + 1 < wH.heap.size := Nat.lt_of_lt_of_le z1 hq_wH.size); clear hq_wH))
      go_upto_region 7 with (go_at_call 21; (with_reducible refine Calls.mono (HGC.out _ (HG.out.to (by exact zbl))) ?_); rintro e wI ⟨rfl, hbI⟩; (have hq_wI : Below W0.heap.size W0 wI := by exact zbl); (have hc_wI := (bcell hq_wI).1); (have y0_wI : w.heap.size < wI.heap.size := Nat.lt_of_lt_of_le z0 hq_wI.size); (have y1_wI : w.heap.size + 1 < wI.heap.size := Nat.lt_of_lt_of_le z1 hq_wI.size); clear hq_wI)
      go_wp2_with (first | (go_at_call 27; (with_reducible refine Calls.mono (listed_t A1 none X1.length 0 c1 0 E1 GB X1 [] _ rfl rfl (by omega) (I1.out.to (by exact zbl)) (IntsR.nil0 _ _) HA1.out HQ1.out) ?_); rintro e wJ ⟨rfl, hb_wJ⟩) | (go_at_call 27; (with_reducible refine Calls.mono (listed_t A2 none X2.length 0 c2 0 E2 GB X2 [] _ rfl rfl (by omega) (I2.out.to (by exact zbl)) (IntsR.nil0 _ _) HA2.out HQ2.out) ?_); rintro e wL ⟨rfl, hb_wL⟩) | (go_at_call 28; (with_reducible refine Calls.mono (number_t T2 E2 GB 0 _ HA2.out HQT.out) ?_); rintro e w9 ⟨rfl, rfl⟩) | (go_at_call 27; (with_reducible refine Calls.mono (listed_t A3 none X3.length 0 c3 0 GB GB X3 [] _ rfl rfl (by omega) (I3.out.to (by exact zbl)) (IntsR.nil0 _ _) rfl HQ3.out) ?_); rintro e wM ⟨rfl, hb_wM⟩) | (go_at_call 16; (with_reducible refine Calls.mono (awake_c _ (HKD.out.to (by exact zbl)) (HPW.out.to (by exact zbl))) ?_); rintro e wK ⟨rfl, hbK⟩))
      go_ret
      exact ⟨rfl, HB0.out.trans ((show Below W0.heap.size W0 _ by exact zbl).mono HB0.out.size)⟩
    · have HZ := Lib.hid (show gridC g = 0 by rw [← HGB.out]; simpa using hb0)
      have hok := gridC_ok HZ.out
      have hu := gridC_uniq HZ.out
      have hns := hok.ns
      obtain ⟨S0, hS0⟩ : ∃ S, S = staC g n0 := ⟨_, rfl⟩
      obtain ⟨S1, hS1⟩ : ∃ S, S = staC g n1 := ⟨_, rfl⟩
      obtain ⟨TT, hTT⟩ : ∃ S, S = firstErr [S0, S1] := ⟨_, rfl⟩
      have HC0 := Lib.hid (show ∀ W, GridR W W.heap.size a g → Calls Tryz.prog 22 #[(.agg #[.int .i64 g.blur, .slice a.pS g.sta.length a.cs, .slice a.pM g.mov.length a.cm, .slice a.pZ g.zon.length a.cz]), .int .i64 n0] W fun e w' => e = .returned (.int .i64 S0) ∧ Below W.heap.size W w' from fun W h => by rw [hS0]; exact rStation_c a g n0 W hok h)
      have HC1 := Lib.hid (show ∀ W, GridR W W.heap.size a g → Calls Tryz.prog 22 #[(.agg #[.int .i64 g.blur, .slice a.pS g.sta.length a.cs, .slice a.pM g.mov.length a.cm, .slice a.pZ g.zon.length a.cz]), .int .i64 n1] W fun e w' => e = .returned (.int .i64 S1) ∧ Below W.heap.size W w' from fun W h => by rw [hS1]; exact rStation_c a g n1 W hok h)
      have HTF := Lib.hid (show ∀ W b, CellsAt W b 0 [S0, S1] → Calls Tryz.prog 23 #[.slice (some ⟨b, 0, none⟩) 2 2] W fun e w' => e = .returned (.int .i64 TT) ∧ W = w' from fun W b h => by rw [hTT]; exact lfirst_c b [S0, S1] W (by simp) h)
      have hf1 : E1 = firstErr [S0] := by rw [HE1.out]; unfold fromC; rw [if_neg (fun h => h HZ.out), hS0]; rfl
      have hf2 : fromC g [n0, n1] = TT := by unfold fromC; rw [if_neg (fun h => h HZ.out), hTT, hS0, hS1]; rfl
      have HA1 := Lib.hid (show E1 = S0 by rw [hf1]; unfold firstErr firstErr; split; (rename_i h; rw [h]); rfl)
      have HF2 := Lib.hid hf2
      have HS0 := Lib.hid hS0
      have HS1 := Lib.hid hS1
      have HTT := Lib.hid hTT
      have HQ3 := Lib.hid (show X3 = if GB = 0 then homesK g g.sta.length else [] by rw [HX3.out]; unfold homesL; rw [HGB.out])
      clear hf1 hf2 hS0 hS1 hTT
      cases hb1 : (S0 == 0)
      · have hne : S0 ≠ 0 := by simpa using hb1
        have HN := Lib.hid hne
        have hTS : TT = S0 := by rw [HTT.out]; unfold firstErr; rw [if_neg HN.out]
        have hT0 : (TT == 0) = false := by rw [hTS]; exact hb1
        have HTN := Lib.hid (show TT ≠ 0 by rw [hTS]; exact HN.out)
        have HA2 := Lib.hid (show E2 = TT by rw [HE2.out]; unfold wayE; rw [HF2.out, if_pos HTN.out])
        have HQ1 := Lib.hid (show X1 = if S0 = 0 then [] else [] by rw [HX1.out, ← HE1.out, HA1.out, if_neg HN.out, if_neg HN.out])
        have HQ2 := Lib.hid (show X2 = if TT = 0 then [] else [] by rw [HX2.out, ← HE2.out, HA2.out, if_neg HTN.out, if_neg HTN.out])
        have HQT := Lib.hid (show T2 = if TT = 0 then 0 else 0 by rw [HT2.out, ← HE2.out, HA2.out, if_neg HTN.out, if_neg HTN.out])
        clear hne hTS
        go_enter Tryz.func3, Tryz.ntmps3
        go_upto_region 1 with fail
        rw [← hW0]
        clear hW0
        go_upto_region 3 with (go_at_call 15; (with_reducible refine Calls.mono (HSH.out _ (HG.out.to (by exact zbl))) ?_); rintro e wA ⟨rfl, hbA⟩; (have hq_wA : Below W0.heap.size W0 wA := by exact zbl); (have hc_wA := (bcell hq_wA).1); (have y0_wA : w.heap.size < wA.heap.size := Nat.lt_of_lt_of_le z0 hq_wA.size); (have y1_wA : w.heap.size + 1 < wA.heap.size := Nat.lt_of_lt_of_le z1 hq_wA.size); clear hq_wA)
        go_region_held3 (fun W => (W0).heap.size ≤ W.heap.size ∧ (∀ b o, b < (W0).heap.size → W.cell? ⟨b, o, none⟩ = (W0).cell? ⟨b, o, none⟩) ∧ (∀ b, b < (W0).heap.size → W.heap[b]? = (W0).heap[b]?)) ((refine Sh.goal ?_; repeat first | (with_reducible first | assumption | exact Sh.refl _ | refine Sh.drew ?_ | refine Sh.alloc ?_ _ | refine Sh.set ?_ _ ?_) | (with_reducible apply Sh.below'; (focus (with_reducible assumption))) | omega | (focus (simp; done)) | (focus (simp; omega)))) (first | (go_at_call 18; (with_reducible refine Calls.mono (grid_c a g _ hsm (HG.out.to (by exact zbl))) ?_); rintro e wB ⟨aB, rfl, hgB, hbB⟩; (have hq_wB : Below W0.heap.size W0 wB := by exact zbl); (have hc_wB := (bcell hq_wB).1); (have y0_wB : w.heap.size < wB.heap.size := Nat.lt_of_lt_of_le z0 hq_wB.size); (have y1_wB : w.heap.size + 1 < wB.heap.size := Nat.lt_of_lt_of_le z1 hq_wB.size); clear hq_wB) | (go_at_call 17; (with_reducible refine Calls.mono (HRE.out _ aB (hgB.to (by exact zbl)) (HKD.out.to (by exact zbl))) ?_); rintro e wC ⟨A1, c1, rfl, hi1, hbC⟩; (have I1 := Lib.hid hi1); clear hi1; (have hq_wC : Below W0.heap.size W0 wC := by exact zbl); (have hc_wC := (bcell hq_wC).1); (have y0_wC : w.heap.size < wC.heap.size := Nat.lt_of_lt_of_le z0 hq_wC.size); (have y1_wC : w.heap.size + 1 < wC.heap.size := Nat.lt_of_lt_of_le z1 hq_wC.size); clear hq_wC))
        go_upto_region 4 with fail
        go_region_held3 (fun W => (W0).heap.size ≤ W.heap.size ∧ (∀ b o, b < (W0).heap.size → W.cell? ⟨b, o, none⟩ = (W0).cell? ⟨b, o, none⟩) ∧ (∀ b, b < (W0).heap.size → W.heap[b]? = (W0).heap[b]?)) ((refine Sh.goal ?_; repeat first | (with_reducible first | assumption | exact Sh.refl _ | refine Sh.drew ?_ | refine Sh.alloc ?_ _ | refine Sh.set ?_ _ ?_) | (with_reducible apply Sh.below'; (focus (with_reducible assumption))) | omega | (focus (simp; done)) | (focus (simp; omega)))) (first | (go_at_call 18; (with_reducible refine Calls.mono (grid_c a g _ hsm (HG.out.to (by exact zbl))) ?_); rintro e wD ⟨aD, rfl, hgD, hbD⟩; (have hq_wD : Below W0.heap.size W0 wD := by exact zbl); (have hc_wD := (bcell hq_wD).1); (have y0_wD : w.heap.size < wD.heap.size := Nat.lt_of_lt_of_le z0 hq_wD.size); (have y1_wD : w.heap.size + 1 < wD.heap.size := Nat.lt_of_lt_of_le z1 hq_wD.size); clear hq_wD) | (go_at_call 19; (with_reducible refine Calls.mono (HWA.out _ aD (hgD.to (by exact zbl)) (HKD.out.to (by exact zbl))) ?_); rintro e wE ⟨A2, c2, rfl, hi2, hbE⟩; (have I2 := Lib.hid hi2); clear hi2; (have hq_wE : Below W0.heap.size W0 wE := by exact zbl); (have hc_wE := (bcell hq_wE).1); (have y0_wE : w.heap.size < wE.heap.size := Nat.lt_of_lt_of_le z0 hq_wE.size); (have y1_wE : w.heap.size + 1 < wE.heap.size := Nat.lt_of_lt_of_le z1 hq_wE.size); clear hq_wE))
        go_upto_region 6 with (first | (go_at_call 18; (with_reducible refine Calls.mono (grid_c a g _ hsm (HG.out.to (by exact zbl))) ?_); rintro e wF ⟨aF, rfl, hgF, hbF⟩; (have hq_wF : Below W0.heap.size W0 wF := by exact zbl); (have hc_wF := (bcell hq_wF).1); (have y0_wF : w.heap.size < wF.heap.size := Nat.lt_of_lt_of_le z0 hq_wF.size); (have y1_wF : w.heap.size + 1 < wF.heap.size := Nat.lt_of_lt_of_le z1 hq_wF.size); clear hq_wF) | (go_at_call 20; (with_reducible refine Calls.mono (HHO.out _ aF (hgF.to (by exact zbl)) (HKD.out.to (by exact zbl))) ?_); rintro e wH ⟨A3, c3, rfl, hi3, hbH⟩; (have I3 := Lib.hid hi3); clear hi3; (have hq_wH : Below W0.heap.size W0 wH := by exact zbl); (have hc_wH := (bcell hq_wH).1); (have y0_wH : w.heap.size < wH.heap.size := Nat.lt_of_lt_of_le z0 hq_wH.size); (have y1_wH : w.heap.size + 1 < wH.heap.size := Nat.lt_of_lt_of_le z1 hq_wH.size); clear hq_wH))
        go_upto_region 7 with (go_at_call 21; (with_reducible refine Calls.mono (HGC.out _ (HG.out.to (by exact zbl))) ?_); rintro e wI ⟨rfl, hbI⟩; (have hq_wI : Below W0.heap.size W0 wI := by exact zbl); (have hc_wI := (bcell hq_wI).1); (have y0_wI : w.heap.size < wI.heap.size := Nat.lt_of_lt_of_le z0 hq_wI.size); (have y1_wI : w.heap.size + 1 < wI.heap.size := Nat.lt_of_lt_of_le z1 hq_wI.size); clear hq_wI)
        go_upto_region 11 with fail
        go_upto_region 14 with (first | (go_at_call 22; (with_reducible refine Calls.mono (HC0.out _ (HG.out.to (by exact zbl))) ?_); rintro e wM ⟨rfl, hbM⟩; (have hq_wM : Below W0.heap.size W0 wM := by exact zbl); (have hc_wM := (bcell hq_wM).1); (have y0_wM : w.heap.size < wM.heap.size := Nat.lt_of_lt_of_le z0 hq_wM.size); (have y1_wM : w.heap.size + 1 < wM.heap.size := Nat.lt_of_lt_of_le z1 hq_wM.size); clear hq_wM) | (go_at_call 22; (with_reducible refine Calls.mono (HC1.out _ (HG.out.to (by exact zbl))) ?_); rintro e wN ⟨rfl, hbN⟩; (have hq_wN : Below W0.heap.size W0 wN := by exact zbl); (have hc_wN := (bcell hq_wN).1); (have y0_wN : w.heap.size < wN.heap.size := Nat.lt_of_lt_of_le z0 hq_wN.size); (have y1_wN : w.heap.size + 1 < wN.heap.size := Nat.lt_of_lt_of_le z1 hq_wN.size); clear hq_wN) | (go_at_call 23; (with_reducible refine Calls.mono (HTF.out _ _ (by simp [CellsAt])) ?_); rintro e wO ⟨rfl, rfl⟩) | (go_at_call 24; (with_reducible refine Calls.mono (rHomes_c a g _ hok hu (HG.out.to (by exact zbl))) ?_); rintro e wP ⟨v4, rfl, ho4, hbP⟩; obtain ⟨J3, j3, rfl, _, hj3⟩ := ho4.ints; (have I4 := Lib.hid hj3); clear hj3 ho4; (have hq_wP : Below W0.heap.size W0 wP := by exact zbl); (have hc_wP := (bcell hq_wP).1); (have y0_wP : w.heap.size < wP.heap.size := Nat.lt_of_lt_of_le z0 hq_wP.size); (have y1_wP : w.heap.size + 1 < wP.heap.size := Nat.lt_of_lt_of_le z1 hq_wP.size); clear hq_wP))
        go_wp2_with (first | (go_at_call 27; (with_reducible refine Calls.mono (listed_t A1 none X1.length 0 c1 0 E1 S0 X1 [] _ rfl rfl (by omega) (I1.out.to (by exact zbl)) (IntsR.nil0 _ _) HA1.out HQ1.out) ?_); rintro e wS ⟨rfl, hb_wS⟩) | (go_at_call 27; (with_reducible refine Calls.mono (listed_t A2 none X2.length 0 c2 0 E2 TT X2 [] _ rfl rfl (by omega) (I2.out.to (by exact zbl)) (IntsR.nil0 _ _) HA2.out HQ2.out) ?_); rintro e wU ⟨rfl, hb_wU⟩) | (go_at_call 28; (with_reducible refine Calls.mono (number_t T2 E2 TT 0 _ HA2.out HQT.out) ?_); rintro e w9 ⟨rfl, rfl⟩) | (go_at_call 27; (with_reducible refine Calls.mono (listed_t A3 J3 X3.length (homesK g g.sta.length).length c3 j3 GB GB X3 (homesK g g.sta.length) _ rfl rfl (by omega) (I3.out.to (by exact zbl)) (I4.out.to (by exact zbl)) rfl HQ3.out) ?_); rintro e wV ⟨rfl, hb_wV⟩) | (go_at_call 16; (with_reducible refine Calls.mono (awake_c _ (HKD.out.to (by exact zbl)) (HPW.out.to (by exact zbl))) ?_); rintro e wK ⟨rfl, hbK⟩))
        go_ret
        exact ⟨rfl, HB0.out.trans ((show Below W0.heap.size W0 _ by exact zbl).mono HB0.out.size)⟩
      · have hz0 : S0 = 0 := by simpa using hb1
        have HZ0 := Lib.hid hz0
        have hst := staC_zero (show staC g n0 = 0 by rw [← HS0.out]; exact HZ0.out)
        have hrl := reachG_len g n0
        have HQ1 := Lib.hid (show X1 = if S0 = 0 then reachG g n0 else [] by rw [HX1.out, ← HE1.out, HA1.out])
        clear hz0
        cases hb2 : (TT == 0)
        · have hTN : TT ≠ 0 := by simpa using hb2
          have HTN := Lib.hid hTN
          have HA2 := Lib.hid (show E2 = TT by rw [HE2.out]; unfold wayE; rw [HF2.out, if_pos HTN.out])
          have HQ2 := Lib.hid (show X2 = if TT = 0 then [] else [] by rw [HX2.out, ← HE2.out, HA2.out, if_neg HTN.out, if_neg HTN.out])
          have HQT := Lib.hid (show T2 = if TT = 0 then 0 else 0 by rw [HT2.out, ← HE2.out, HA2.out, if_neg HTN.out, if_neg HTN.out])
          clear hTN
          go_enter Tryz.func3, Tryz.ntmps3
          go_upto_region 1 with fail
          rw [← hW0]
          clear hW0
          go_upto_region 3 with (go_at_call 15; (with_reducible refine Calls.mono (HSH.out _ (HG.out.to (by exact zbl))) ?_); rintro e wA ⟨rfl, hbA⟩; (have hq_wA : Below W0.heap.size W0 wA := by exact zbl); (have hc_wA := (bcell hq_wA).1); (have y0_wA : w.heap.size < wA.heap.size := Nat.lt_of_lt_of_le z0 hq_wA.size); (have y1_wA : w.heap.size + 1 < wA.heap.size := Nat.lt_of_lt_of_le z1 hq_wA.size); clear hq_wA)
          go_region_held3 (fun W => (W0).heap.size ≤ W.heap.size ∧ (∀ b o, b < (W0).heap.size → W.cell? ⟨b, o, none⟩ = (W0).cell? ⟨b, o, none⟩) ∧ (∀ b, b < (W0).heap.size → W.heap[b]? = (W0).heap[b]?)) ((refine Sh.goal ?_; repeat first | (with_reducible first | assumption | exact Sh.refl _ | refine Sh.drew ?_ | refine Sh.alloc ?_ _ | refine Sh.set ?_ _ ?_) | (with_reducible apply Sh.below'; (focus (with_reducible assumption))) | omega | (focus (simp; done)) | (focus (simp; omega)))) (first | (go_at_call 18; (with_reducible refine Calls.mono (grid_c a g _ hsm (HG.out.to (by exact zbl))) ?_); rintro e wB ⟨aB, rfl, hgB, hbB⟩; (have hq_wB : Below W0.heap.size W0 wB := by exact zbl); (have hc_wB := (bcell hq_wB).1); (have y0_wB : w.heap.size < wB.heap.size := Nat.lt_of_lt_of_le z0 hq_wB.size); (have y1_wB : w.heap.size + 1 < wB.heap.size := Nat.lt_of_lt_of_le z1 hq_wB.size); clear hq_wB) | (go_at_call 17; (with_reducible refine Calls.mono (HRE.out _ aB (hgB.to (by exact zbl)) (HKD.out.to (by exact zbl))) ?_); rintro e wC ⟨A1, c1, rfl, hi1, hbC⟩; (have I1 := Lib.hid hi1); clear hi1; (have hq_wC : Below W0.heap.size W0 wC := by exact zbl); (have hc_wC := (bcell hq_wC).1); (have y0_wC : w.heap.size < wC.heap.size := Nat.lt_of_lt_of_le z0 hq_wC.size); (have y1_wC : w.heap.size + 1 < wC.heap.size := Nat.lt_of_lt_of_le z1 hq_wC.size); clear hq_wC))
          go_upto_region 4 with fail
          go_region_held3 (fun W => (W0).heap.size ≤ W.heap.size ∧ (∀ b o, b < (W0).heap.size → W.cell? ⟨b, o, none⟩ = (W0).cell? ⟨b, o, none⟩) ∧ (∀ b, b < (W0).heap.size → W.heap[b]? = (W0).heap[b]?)) ((refine Sh.goal ?_; repeat first | (with_reducible first | assumption | exact Sh.refl _ | refine Sh.drew ?_ | refine Sh.alloc ?_ _ | refine Sh.set ?_ _ ?_) | (with_reducible apply Sh.below'; (focus (with_reducible assumption))) | omega | (focus (simp; done)) | (focus (simp; omega)))) (first | (go_at_call 18; (with_reducible refine Calls.mono (grid_c a g _ hsm (HG.out.to (by exact zbl))) ?_); rintro e wD ⟨aD, rfl, hgD, hbD⟩; (have hq_wD : Below W0.heap.size W0 wD := by exact zbl); (have hc_wD := (bcell hq_wD).1); (have y0_wD : w.heap.size < wD.heap.size := Nat.lt_of_lt_of_le z0 hq_wD.size); (have y1_wD : w.heap.size + 1 < wD.heap.size := Nat.lt_of_lt_of_le z1 hq_wD.size); clear hq_wD) | (go_at_call 19; (with_reducible refine Calls.mono (HWA.out _ aD (hgD.to (by exact zbl)) (HKD.out.to (by exact zbl))) ?_); rintro e wE ⟨A2, c2, rfl, hi2, hbE⟩; (have I2 := Lib.hid hi2); clear hi2; (have hq_wE : Below W0.heap.size W0 wE := by exact zbl); (have hc_wE := (bcell hq_wE).1); (have y0_wE : w.heap.size < wE.heap.size := Nat.lt_of_lt_of_le z0 hq_wE.size); (have y1_wE : w.heap.size + 1 < wE.heap.size := Nat.lt_of_lt_of_le z1 hq_wE.size); clear hq_wE))
          go_upto_region 6 with (first | (go_at_call 18; (with_reducible refine Calls.mono (grid_c a g _ hsm (HG.out.to (by exact zbl))) ?_); rintro e wF ⟨aF, rfl, hgF, hbF⟩; (have hq_wF : Below W0.heap.size W0 wF := by exact zbl); (have hc_wF := (bcell hq_wF).1); (have y0_wF : w.heap.size < wF.heap.size := Nat.lt_of_lt_of_le z0 hq_wF.size); (have y1_wF : w.heap.size + 1 < wF.heap.size := Nat.lt_of_lt_of_le z1 hq_wF.size); clear hq_wF) | (go_at_call 20; (with_reducible refine Calls.mono (HHO.out _ aF (hgF.to (by exact zbl)) (HKD.out.to (by exact zbl))) ?_); rintro e wH ⟨A3, c3, rfl, hi3, hbH⟩; (have I3 := Lib.hid hi3); clear hi3; (have hq_wH : Below W0.heap.size W0 wH := by exact zbl); (have hc_wH := (bcell hq_wH).1); (have y0_wH : w.heap.size < wH.heap.size := Nat.lt_of_lt_of_le z0 hq_wH.size); (have y1_wH : w.heap.size + 1 < wH.heap.size := Nat.lt_of_lt_of_le z1 hq_wH.size); clear hq_wH))
          go_upto_region 7 with (go_at_call 21; (with_reducible refine Calls.mono (HGC.out _ (HG.out.to (by exact zbl))) ?_); rintro e wI ⟨rfl, hbI⟩; (have hq_wI : Below W0.heap.size W0 wI := by exact zbl); (have hc_wI := (bcell hq_wI).1); (have y0_wI : w.heap.size < wI.heap.size := Nat.lt_of_lt_of_le z0 hq_wI.size); (have y1_wI : w.heap.size + 1 < wI.heap.size := Nat.lt_of_lt_of_le z1 hq_wI.size); clear hq_wI)
          go_upto_region 11 with fail
          go_upto_region 14 with (first | (go_at_call 22; (with_reducible refine Calls.mono (HC0.out _ (HG.out.to (by exact zbl))) ?_); rintro e wM ⟨rfl, hbM⟩; (have hq_wM : Below W0.heap.size W0 wM := by exact zbl); (have hc_wM := (bcell hq_wM).1); (have y0_wM : w.heap.size < wM.heap.size := Nat.lt_of_lt_of_le z0 hq_wM.size); (have y1_wM : w.heap.size + 1 < wM.heap.size := Nat.lt_of_lt_of_le z1 hq_wM.size); clear hq_wM) | (go_at_call 22; (with_reducible refine Calls.mono (HC1.out _ (HG.out.to (by exact zbl))) ?_); rintro e wN ⟨rfl, hbN⟩; (have hq_wN : Below W0.heap.size W0 wN := by exact zbl); (have hc_wN := (bcell hq_wN).1); (have y0_wN : w.heap.size < wN.heap.size := Nat.lt_of_lt_of_le z0 hq_wN.size); (have y1_wN : w.heap.size + 1 < wN.heap.size := Nat.lt_of_lt_of_le z1 hq_wN.size); clear hq_wN) | (go_at_call 23; (with_reducible refine Calls.mono (HTF.out _ _ (by simp [CellsAt])) ?_); rintro e wO ⟨rfl, rfl⟩) | (go_at_call 24; (with_reducible refine Calls.mono (rHomes_c a g _ hok hu (HG.out.to (by exact zbl))) ?_); rintro e wP ⟨v4, rfl, ho4, hbP⟩; obtain ⟨J3, j3, rfl, _, hj3⟩ := ho4.ints; (have I4 := Lib.hid hj3); clear hj3 ho4; (have hq_wP : Below W0.heap.size W0 wP := by exact zbl); (have hc_wP := (bcell hq_wP).1); (have y0_wP : w.heap.size < wP.heap.size := Nat.lt_of_lt_of_le z0 hq_wP.size); (have y1_wP : w.heap.size + 1 < wP.heap.size := Nat.lt_of_lt_of_le z1 hq_wP.size); clear hq_wP))
          go_wp2_with (first | (go_at_call 25; (with_reducible refine Calls.mono (rReached_c a g n0 _ hok hu hst.1 (HG.out.to (by exact zbl))) ?_); rintro e wQ ⟨v5, rfl, ho5, hbQ⟩; obtain ⟨J1, j1, rfl, _, hj1⟩ := ho5.ints; (have I5 := Lib.hid hj1); clear hj1 ho5; (have hq_wQ : Below W0.heap.size W0 wQ := by exact zbl); (have hc_wQ := (bcell hq_wQ).1); (have y0_wQ : w.heap.size < wQ.heap.size := Nat.lt_of_lt_of_le z0 hq_wQ.size); (have y1_wQ : w.heap.size + 1 < wQ.heap.size := Nat.lt_of_lt_of_le z1 hq_wQ.size); clear hq_wQ) | (go_at_call 27; (with_reducible refine Calls.mono (listed_t A1 J1 X1.length (reachG g n0).length c1 j1 E1 S0 X1 (reachG g n0) _ rfl rfl (by omega) (I1.out.to (by exact zbl)) (I5.out.to (by exact zbl)) HA1.out HQ1.out) ?_); rintro e wS ⟨rfl, hb_wS⟩) | (go_at_call 27; (with_reducible refine Calls.mono (listed_t A2 none X2.length 0 c2 0 E2 TT X2 [] _ rfl rfl (by omega) (I2.out.to (by exact zbl)) (IntsR.nil0 _ _) HA2.out HQ2.out) ?_); rintro e wU ⟨rfl, hb_wU⟩) | (go_at_call 28; (with_reducible refine Calls.mono (number_t T2 E2 TT 0 _ HA2.out HQT.out) ?_); rintro e w9 ⟨rfl, rfl⟩) | (go_at_call 27; (with_reducible refine Calls.mono (listed_t A3 J3 X3.length (homesK g g.sta.length).length c3 j3 GB GB X3 (homesK g g.sta.length) _ rfl rfl (by omega) (I3.out.to (by exact zbl)) (I4.out.to (by exact zbl)) rfl HQ3.out) ?_); rintro e wV ⟨rfl, hb_wV⟩) | (go_at_call 16; (with_reducible refine Calls.mono (awake_c _ (HKD.out.to (by exact zbl)) (HPW.out.to (by exact zbl))) ?_); rintro e wK ⟨rfl, hbK⟩))
          go_ret
          exact ⟨rfl, HB0.out.trans ((show Below W0.heap.size W0 _ by exact zbl).mono HB0.out.size)⟩
        · have hTZ : TT = 0 := by simpa using hb2
          have hs1 : S1 = 0 := by have h := HTT.out; rw [hTZ, HZ0.out] at h; unfold firstErr at h; rw [if_pos rfl] at h; unfold firstErr at h; split at h; (rename_i h2; exact h2); exact h.symm
          have hst1 := staC_zero (show staC g n1 = 0 by rw [← HS1.out]; exact hs1)
          obtain ⟨k1, hk1⟩ := Int.eq_ofNat_of_zero_le hst1.1.1
          have hkn : k1 < g.sta.length := by have := hst1.1.2; omega
          have HTZ := Lib.hid hTZ
          clear hTZ hs1 hst1
          cases hw : wayG g n0 n1 with
          | none =>
            have HWY := Lib.hid (show ∀ W, GridR W W.heap.size a g → Calls Tryz.prog 26 #[(.agg #[.int .i64 g.blur, .slice a.pS g.sta.length a.cs, .slice a.pM g.mov.length a.cm, .slice a.pZ g.zon.length a.cz]), .int .i64 n0, .int .i64 n1] W fun e w' => e = .returned (.tuple #[.slice none 0 0, .int .i64 0, .int .i64 7]) ∧ Below W.heap.size W w' from fun W h => by rw [hk1] at hw ⊢; exact rWayN_c a g n0 k1 W hok hu hst.1 hkn h hw)
            have HA2 := Lib.hid (show E2 = 7 by rw [HE2.out]; unfold wayE; rw [HF2.out, if_neg (fun h => h HTZ.out), hw]; rfl)
            have HQ2 := Lib.hid (show X2 = if (7 : Int) = 0 then [] else [] by rw [HX2.out, ← HE2.out, HA2.out]; rfl)
            have HQT := Lib.hid (show T2 = if (7 : Int) = 0 then 0 else 0 by rw [HT2.out, ← HE2.out, HA2.out]; rfl)
            clear hw hk1
            go_enter Tryz.func3, Tryz.ntmps3
            go_upto_region 1 with fail
            rw [← hW0]
            clear hW0
            go_upto_region 3 with (go_at_call 15; (with_reducible refine Calls.mono (HSH.out _ (HG.out.to (by exact zbl))) ?_); rintro e wA ⟨rfl, hbA⟩; (have hq_wA : Below W0.heap.size W0 wA := by exact zbl); (have hc_wA := (bcell hq_wA).1); (have y0_wA : w.heap.size < wA.heap.size := Nat.lt_of_lt_of_le z0 hq_wA.size); (have y1_wA : w.heap.size + 1 < wA.heap.size := Nat.lt_of_lt_of_le z1 hq_wA.size); clear hq_wA)
            go_region_held3 (fun W => (W0).heap.size ≤ W.heap.size ∧ (∀ b o, b < (W0).heap.size → W.cell? ⟨b, o, none⟩ = (W0).cell? ⟨b, o, none⟩) ∧ (∀ b, b < (W0).heap.size → W.heap[b]? = (W0).heap[b]?)) ((refine Sh.goal ?_; repeat first | (with_reducible first | assumption | exact Sh.refl _ | refine Sh.drew ?_ | refine Sh.alloc ?_ _ | refine Sh.set ?_ _ ?_) | (with_reducible apply Sh.below'; (focus (with_reducible assumption))) | omega | (focus (simp; done)) | (focus (simp; omega)))) (first | (go_at_call 18; (with_reducible refine Calls.mono (grid_c a g _ hsm (HG.out.to (by exact zbl))) ?_); rintro e wB ⟨aB, rfl, hgB, hbB⟩; (have hq_wB : Below W0.heap.size W0 wB := by exact zbl); (have hc_wB := (bcell hq_wB).1); (have y0_wB : w.heap.size < wB.heap.size := Nat.lt_of_lt_of_le z0 hq_wB.size); (have y1_wB : w.heap.size + 1 < wB.heap.size := Nat.lt_of_lt_of_le z1 hq_wB.size); clear hq_wB) | (go_at_call 17; (with_reducible refine Calls.mono (HRE.out _ aB (hgB.to (by exact zbl)) (HKD.out.to (by exact zbl))) ?_); rintro e wC ⟨A1, c1, rfl, hi1, hbC⟩; (have I1 := Lib.hid hi1); clear hi1; (have hq_wC : Below W0.heap.size W0 wC := by exact zbl); (have hc_wC := (bcell hq_wC).1); (have y0_wC : w.heap.size < wC.heap.size := Nat.lt_of_lt_of_le z0 hq_wC.size); (have y1_wC : w.heap.size + 1 < wC.heap.size := Nat.lt_of_lt_of_le z1 hq_wC.size); clear hq_wC))
            go_upto_region 4 with fail
            go_region_held3 (fun W => (W0).heap.size ≤ W.heap.size ∧ (∀ b o, b < (W0).heap.size → W.cell? ⟨b, o, none⟩ = (W0).cell? ⟨b, o, none⟩) ∧ (∀ b, b < (W0).heap.size → W.heap[b]? = (W0).heap[b]?)) ((refine Sh.goal ?_; repeat first | (with_reducible first | assumption | exact Sh.refl _ | refine Sh.drew ?_ | refine Sh.alloc ?_ _ | refine Sh.set ?_ _ ?_) | (with_reducible apply Sh.below'; (focus (with_reducible assumption))) | omega | (focus (simp; done)) | (focus (simp; omega)))) (first | (go_at_call 18; (with_reducible refine Calls.mono (grid_c a g _ hsm (HG.out.to (by exact zbl))) ?_); rintro e wD ⟨aD, rfl, hgD, hbD⟩; (have hq_wD : Below W0.heap.size W0 wD := by exact zbl); (have hc_wD := (bcell hq_wD).1); (have y0_wD : w.heap.size < wD.heap.size := Nat.lt_of_lt_of_le z0 hq_wD.size); (have y1_wD : w.heap.size + 1 < wD.heap.size := Nat.lt_of_lt_of_le z1 hq_wD.size); clear hq_wD) | (go_at_call 19; (with_reducible refine Calls.mono (HWA.out _ aD (hgD.to (by exact zbl)) (HKD.out.to (by exact zbl))) ?_); rintro e wE ⟨A2, c2, rfl, hi2, hbE⟩; (have I2 := Lib.hid hi2); clear hi2; (have hq_wE : Below W0.heap.size W0 wE := by exact zbl); (have hc_wE := (bcell hq_wE).1); (have y0_wE : w.heap.size < wE.heap.size := Nat.lt_of_lt_of_le z0 hq_wE.size); (have y1_wE : w.heap.size + 1 < wE.heap.size := Nat.lt_of_lt_of_le z1 hq_wE.size); clear hq_wE))
            go_upto_region 6 with (first | (go_at_call 18; (with_reducible refine Calls.mono (grid_c a g _ hsm (HG.out.to (by exact zbl))) ?_); rintro e wF ⟨aF, rfl, hgF, hbF⟩; (have hq_wF : Below W0.heap.size W0 wF := by exact zbl); (have hc_wF := (bcell hq_wF).1); (have y0_wF : w.heap.size < wF.heap.size := Nat.lt_of_lt_of_le z0 hq_wF.size); (have y1_wF : w.heap.size + 1 < wF.heap.size := Nat.lt_of_lt_of_le z1 hq_wF.size); clear hq_wF) | (go_at_call 20; (with_reducible refine Calls.mono (HHO.out _ aF (hgF.to (by exact zbl)) (HKD.out.to (by exact zbl))) ?_); rintro e wH ⟨A3, c3, rfl, hi3, hbH⟩; (have I3 := Lib.hid hi3); clear hi3; (have hq_wH : Below W0.heap.size W0 wH := by exact zbl); (have hc_wH := (bcell hq_wH).1); (have y0_wH : w.heap.size < wH.heap.size := Nat.lt_of_lt_of_le z0 hq_wH.size); (have y1_wH : w.heap.size + 1 < wH.heap.size := Nat.lt_of_lt_of_le z1 hq_wH.size); clear hq_wH))
            go_upto_region 7 with (go_at_call 21; (with_reducible refine Calls.mono (HGC.out _ (HG.out.to (by exact zbl))) ?_); rintro e wI ⟨rfl, hbI⟩; (have hq_wI : Below W0.heap.size W0 wI := by exact zbl); (have hc_wI := (bcell hq_wI).1); (have y0_wI : w.heap.size < wI.heap.size := Nat.lt_of_lt_of_le z0 hq_wI.size); (have y1_wI : w.heap.size + 1 < wI.heap.size := Nat.lt_of_lt_of_le z1 hq_wI.size); clear hq_wI)
            go_upto_region 11 with fail
            go_upto_region 14 with (first | (go_at_call 22; (with_reducible refine Calls.mono (HC0.out _ (HG.out.to (by exact zbl))) ?_); rintro e wM ⟨rfl, hbM⟩; (have hq_wM : Below W0.heap.size W0 wM := by exact zbl); (have hc_wM := (bcell hq_wM).1); (have y0_wM : w.heap.size < wM.heap.size := Nat.lt_of_lt_of_le z0 hq_wM.size); (have y1_wM : w.heap.size + 1 < wM.heap.size := Nat.lt_of_lt_of_le z1 hq_wM.size); clear hq_wM) | (go_at_call 22; (with_reducible refine Calls.mono (HC1.out _ (HG.out.to (by exact zbl))) ?_); rintro e wN ⟨rfl, hbN⟩; (have hq_wN : Below W0.heap.size W0 wN := by exact zbl); (have hc_wN := (bcell hq_wN).1); (have y0_wN : w.heap.size < wN.heap.size := Nat.lt_of_lt_of_le z0 hq_wN.size); (have y1_wN : w.heap.size + 1 < wN.heap.size := Nat.lt_of_lt_of_le z1 hq_wN.size); clear hq_wN) | (go_at_call 23; (with_reducible refine Calls.mono (HTF.out _ _ (by simp [CellsAt])) ?_); rintro e wO ⟨rfl, rfl⟩) | (go_at_call 24; (with_reducible refine Calls.mono (rHomes_c a g _ hok hu (HG.out.to (by exact zbl))) ?_); rintro e wP ⟨v4, rfl, ho4, hbP⟩; obtain ⟨J3, j3, rfl, _, hj3⟩ := ho4.ints; (have I4 := Lib.hid hj3); clear hj3 ho4; (have hq_wP : Below W0.heap.size W0 wP := by exact zbl); (have hc_wP := (bcell hq_wP).1); (have y0_wP : w.heap.size < wP.heap.size := Nat.lt_of_lt_of_le z0 hq_wP.size); (have y1_wP : w.heap.size + 1 < wP.heap.size := Nat.lt_of_lt_of_le z1 hq_wP.size); clear hq_wP))
            go_wp2_with (first | (go_at_call 25; (with_reducible refine Calls.mono (rReached_c a g n0 _ hok hu hst.1 (HG.out.to (by exact zbl))) ?_); rintro e wQ ⟨v5, rfl, ho5, hbQ⟩; obtain ⟨J1, j1, rfl, _, hj1⟩ := ho5.ints; (have I5 := Lib.hid hj1); clear hj1 ho5; (have hq_wQ : Below W0.heap.size W0 wQ := by exact zbl); (have hc_wQ := (bcell hq_wQ).1); (have y0_wQ : w.heap.size < wQ.heap.size := Nat.lt_of_lt_of_le z0 hq_wQ.size); (have y1_wQ : w.heap.size + 1 < wQ.heap.size := Nat.lt_of_lt_of_le z1 hq_wQ.size); clear hq_wQ) | (go_at_call 26; (with_reducible refine Calls.mono (HWY.out _ (HG.out.to (by exact zbl))) ?_); rintro e wR ⟨rfl, hbR⟩; (have hq_wR : Below W0.heap.size W0 wR := by exact zbl); (have hc_wR := (bcell hq_wR).1); (have y0_wR : w.heap.size < wR.heap.size := Nat.lt_of_lt_of_le z0 hq_wR.size); (have y1_wR : w.heap.size + 1 < wR.heap.size := Nat.lt_of_lt_of_le z1 hq_wR.size); clear hq_wR) | (go_at_call 27; (with_reducible refine Calls.mono (listed_t A1 J1 X1.length (reachG g n0).length c1 j1 E1 S0 X1 (reachG g n0) _ rfl rfl (by omega) (I1.out.to (by exact zbl)) (I5.out.to (by exact zbl)) HA1.out HQ1.out) ?_); rintro e wS ⟨rfl, hb_wS⟩) | (go_at_call 27; (with_reducible refine Calls.mono (listed_t A2 none X2.length 0 c2 0 E2 7 X2 [] _ rfl rfl (by omega) (I2.out.to (by exact zbl)) (IntsR.nil0 _ _) HA2.out HQ2.out) ?_); rintro e wU ⟨rfl, hb_wU⟩) | (go_at_call 28; (with_reducible refine Calls.mono (number_t T2 E2 7 0 _ HA2.out HQT.out) ?_); rintro e w9 ⟨rfl, rfl⟩) | (go_at_call 27; (with_reducible refine Calls.mono (listed_t A3 J3 X3.length (homesK g g.sta.length).length c3 j3 GB GB X3 (homesK g g.sta.length) _ rfl rfl (by omega) (I3.out.to (by exact zbl)) (I4.out.to (by exact zbl)) rfl HQ3.out) ?_); rintro e wV ⟨rfl, hb_wV⟩) | (go_at_call 16; (with_reducible refine Calls.mono (awake_c _ (HKD.out.to (by exact zbl)) (HPW.out.to (by exact zbl))) ?_); rintro e wK ⟨rfl, hbK⟩))
            go_ret
            exact ⟨rfl, HB0.out.trans ((show Below W0.heap.size W0 _ by exact zbl).mono HB0.out.size)⟩
          | some r =>
            have HWY := Lib.hid (show ∀ W, GridR W W.heap.size a g → Calls Tryz.prog 26 #[(.agg #[.int .i64 g.blur, .slice a.pS g.sta.length a.cs, .slice a.pM g.mov.length a.cm, .slice a.pZ g.zon.length a.cz]), .int .i64 n0, .int .i64 n1] W fun e w' => ∃ bs c, e = .returned (.tuple #[.slice (some ⟨bs, 0, none⟩) r.st.length c, .int .i64 r.n, .int .i64 0]) ∧ r.st.length ≤ c ∧ IntB w' bs r.st ∧ Below W.heap.size W w' from fun W h => by rw [hk1] at hw ⊢; exact rWayS_c a g n0 k1 W hok hu hst.1 hkn h hw)
            have HA2 := Lib.hid (show E2 = 0 by rw [HE2.out]; unfold wayE; rw [HF2.out, if_neg (fun h => h HTZ.out), hw]; rfl)
            have HQ2 := Lib.hid (show X2 = r.st by rw [HX2.out, ← HE2.out, HA2.out, hw]; rfl)
            have HQT := Lib.hid (show T2 = r.n by rw [HT2.out, ← HE2.out, HA2.out, hw]; rfl)
            clear hw hk1
            go_enter Tryz.func3, Tryz.ntmps3
            go_upto_region 1 with fail
            rw [← hW0]
            clear hW0
            go_upto_region 3 with (go_at_call 15; (with_reducible refine Calls.mono (HSH.out _ (HG.out.to (by exact zbl))) ?_); rintro e wA ⟨rfl, hbA⟩; (have hq_wA : Below W0.heap.size W0 wA := by exact zbl); (have hc_wA := (bcell hq_wA).1); (have y0_wA : w.heap.size < wA.heap.size := Nat.lt_of_lt_of_le z0 hq_wA.size); (have y1_wA : w.heap.size + 1 < wA.heap.size := Nat.lt_of_lt_of_le z1 hq_wA.size); clear hq_wA)
            go_region_held3 (fun W => (W0).heap.size ≤ W.heap.size ∧ (∀ b o, b < (W0).heap.size → W.cell? ⟨b, o, none⟩ = (W0).cell? ⟨b, o, none⟩) ∧ (∀ b, b < (W0).heap.size → W.heap[b]? = (W0).heap[b]?)) ((refine Sh.goal ?_; repeat first | (with_reducible first | assumption | exact Sh.refl _ | refine Sh.drew ?_ | refine Sh.alloc ?_ _ | refine Sh.set ?_ _ ?_) | (with_reducible apply Sh.below'; (focus (with_reducible assumption))) | omega | (focus (simp; done)) | (focus (simp; omega)))) (first | (go_at_call 18; (with_reducible refine Calls.mono (grid_c a g _ hsm (HG.out.to (by exact zbl))) ?_); rintro e wB ⟨aB, rfl, hgB, hbB⟩; (have hq_wB : Below W0.heap.size W0 wB := by exact zbl); (have hc_wB := (bcell hq_wB).1); (have y0_wB : w.heap.size < wB.heap.size := Nat.lt_of_lt_of_le z0 hq_wB.size); (have y1_wB : w.heap.size + 1 < wB.heap.size := Nat.lt_of_lt_of_le z1 hq_wB.size); clear hq_wB) | (go_at_call 17; (with_reducible refine Calls.mono (HRE.out _ aB (hgB.to (by exact zbl)) (HKD.out.to (by exact zbl))) ?_); rintro e wC ⟨A1, c1, rfl, hi1, hbC⟩; (have I1 := Lib.hid hi1); clear hi1; (have hq_wC : Below W0.heap.size W0 wC := by exact zbl); (have hc_wC := (bcell hq_wC).1); (have y0_wC : w.heap.size < wC.heap.size := Nat.lt_of_lt_of_le z0 hq_wC.size); (have y1_wC : w.heap.size + 1 < wC.heap.size := Nat.lt_of_lt_of_le z1 hq_wC.size); clear hq_wC))
            go_upto_region 4 with fail
            go_region_held3 (fun W => (W0).heap.size ≤ W.heap.size ∧ (∀ b o, b < (W0).heap.size → W.cell? ⟨b, o, none⟩ = (W0).cell? ⟨b, o, none⟩) ∧ (∀ b, b < (W0).heap.size → W.heap[b]? = (W0).heap[b]?)) ((refine Sh.goal ?_; repeat first | (with_reducible first | assumption | exact Sh.refl _ | refine Sh.drew ?_ | refine Sh.alloc ?_ _ | refine Sh.set ?_ _ ?_) | (with_reducible apply Sh.below'; (focus (with_reducible assumption))) | omega | (focus (simp; done)) | (focus (simp; omega)))) (first | (go_at_call 18; (with_reducible refine Calls.mono (grid_c a g _ hsm (HG.out.to (by exact zbl))) ?_); rintro e wD ⟨aD, rfl, hgD, hbD⟩; (have hq_wD : Below W0.heap.size W0 wD := by exact zbl); (have hc_wD := (bcell hq_wD).1); (have y0_wD : w.heap.size < wD.heap.size := Nat.lt_of_lt_of_le z0 hq_wD.size); (have y1_wD : w.heap.size + 1 < wD.heap.size := Nat.lt_of_lt_of_le z1 hq_wD.size); clear hq_wD) | (go_at_call 19; (with_reducible refine Calls.mono (HWA.out _ aD (hgD.to (by exact zbl)) (HKD.out.to (by exact zbl))) ?_); rintro e wE ⟨A2, c2, rfl, hi2, hbE⟩; (have I2 := Lib.hid hi2); clear hi2; (have hq_wE : Below W0.heap.size W0 wE := by exact zbl); (have hc_wE := (bcell hq_wE).1); (have y0_wE : w.heap.size < wE.heap.size := Nat.lt_of_lt_of_le z0 hq_wE.size); (have y1_wE : w.heap.size + 1 < wE.heap.size := Nat.lt_of_lt_of_le z1 hq_wE.size); clear hq_wE))
            go_upto_region 6 with (first | (go_at_call 18; (with_reducible refine Calls.mono (grid_c a g _ hsm (HG.out.to (by exact zbl))) ?_); rintro e wF ⟨aF, rfl, hgF, hbF⟩; (have hq_wF : Below W0.heap.size W0 wF := by exact zbl); (have hc_wF := (bcell hq_wF).1); (have y0_wF : w.heap.size < wF.heap.size := Nat.lt_of_lt_of_le z0 hq_wF.size); (have y1_wF : w.heap.size + 1 < wF.heap.size := Nat.lt_of_lt_of_le z1 hq_wF.size); clear hq_wF) | (go_at_call 20; (with_reducible refine Calls.mono (HHO.out _ aF (hgF.to (by exact zbl)) (HKD.out.to (by exact zbl))) ?_); rintro e wH ⟨A3, c3, rfl, hi3, hbH⟩; (have I3 := Lib.hid hi3); clear hi3; (have hq_wH : Below W0.heap.size W0 wH := by exact zbl); (have hc_wH := (bcell hq_wH).1); (have y0_wH : w.heap.size < wH.heap.size := Nat.lt_of_lt_of_le z0 hq_wH.size); (have y1_wH : w.heap.size + 1 < wH.heap.size := Nat.lt_of_lt_of_le z1 hq_wH.size); clear hq_wH))
            go_upto_region 7 with (go_at_call 21; (with_reducible refine Calls.mono (HGC.out _ (HG.out.to (by exact zbl))) ?_); rintro e wI ⟨rfl, hbI⟩; (have hq_wI : Below W0.heap.size W0 wI := by exact zbl); (have hc_wI := (bcell hq_wI).1); (have y0_wI : w.heap.size < wI.heap.size := Nat.lt_of_lt_of_le z0 hq_wI.size); (have y1_wI : w.heap.size + 1 < wI.heap.size := Nat.lt_of_lt_of_le z1 hq_wI.size); clear hq_wI)
            go_upto_region 11 with fail
            go_upto_region 14 with (first | (go_at_call 22; (with_reducible refine Calls.mono (HC0.out _ (HG.out.to (by exact zbl))) ?_); rintro e wM ⟨rfl, hbM⟩; (have hq_wM : Below W0.heap.size W0 wM := by exact zbl); (have hc_wM := (bcell hq_wM).1); (have y0_wM : w.heap.size < wM.heap.size := Nat.lt_of_lt_of_le z0 hq_wM.size); (have y1_wM : w.heap.size + 1 < wM.heap.size := Nat.lt_of_lt_of_le z1 hq_wM.size); clear hq_wM) | (go_at_call 22; (with_reducible refine Calls.mono (HC1.out _ (HG.out.to (by exact zbl))) ?_); rintro e wN ⟨rfl, hbN⟩; (have hq_wN : Below W0.heap.size W0 wN := by exact zbl); (have hc_wN := (bcell hq_wN).1); (have y0_wN : w.heap.size < wN.heap.size := Nat.lt_of_lt_of_le z0 hq_wN.size); (have y1_wN : w.heap.size + 1 < wN.heap.size := Nat.lt_of_lt_of_le z1 hq_wN.size); clear hq_wN) | (go_at_call 23; (with_reducible refine Calls.mono (HTF.out _ _ (by simp [CellsAt])) ?_); rintro e wO ⟨rfl, rfl⟩) | (go_at_call 24; (with_reducible refine Calls.mono (rHomes_c a g _ hok hu (HG.out.to (by exact zbl))) ?_); rintro e wP ⟨v4, rfl, ho4, hbP⟩; obtain ⟨J3, j3, rfl, _, hj3⟩ := ho4.ints; (have I4 := Lib.hid hj3); clear hj3 ho4; (have hq_wP : Below W0.heap.size W0 wP := by exact zbl); (have hc_wP := (bcell hq_wP).1); (have y0_wP : w.heap.size < wP.heap.size := Nat.lt_of_lt_of_le z0 hq_wP.size); (have y1_wP : w.heap.size + 1 < wP.heap.size := Nat.lt_of_lt_of_le z1 hq_wP.size); clear hq_wP))
            go_upto_region 18 with (first | (go_at_call 25; (with_reducible refine Calls.mono (rReached_c a g n0 _ hok hu hst.1 (HG.out.to (by exact zbl))) ?_); rintro e wQ ⟨v5, rfl, ho5, hbQ⟩; obtain ⟨J1, j1, rfl, _, hj1⟩ := ho5.ints; (have I5 := Lib.hid hj1); clear hj1 ho5; (have hq_wQ : Below W0.heap.size W0 wQ := by exact zbl); (have hc_wQ := (bcell hq_wQ).1); (have y0_wQ : w.heap.size < wQ.heap.size := Nat.lt_of_lt_of_le z0 hq_wQ.size); (have y1_wQ : w.heap.size + 1 < wQ.heap.size := Nat.lt_of_lt_of_le z1 hq_wQ.size); clear hq_wQ) | (go_at_call 26; (with_reducible refine Calls.mono (HWY.out _ (HG.out.to (by exact zbl))) ?_); rintro e wR ⟨J2, j2, rfl, _, hI2, hbR⟩; (have I6 := Lib.hid hI2.ints); clear hI2; (have hq_wR : Below W0.heap.size W0 wR := by exact zbl); (have hc_wR := (bcell hq_wR).1); (have y0_wR : w.heap.size < wR.heap.size := Nat.lt_of_lt_of_le z0 hq_wR.size); (have y1_wR : w.heap.size + 1 < wR.heap.size := Nat.lt_of_lt_of_le z1 hq_wR.size); clear hq_wR))
            go_wp2_with (first | (go_at_call 27; (with_reducible refine Calls.mono (listed_t A1 J1 X1.length (reachG g n0).length c1 j1 E1 S0 X1 (reachG g n0) _ rfl rfl (by omega) (I1.out.to (by exact zbl)) (I5.out.to (by exact zbl)) HA1.out HQ1.out) ?_); rintro e wS ⟨rfl, hb_wS⟩) | (go_at_call 27; (with_reducible refine Calls.mono (listed_t A2 (some ⟨J2, 0, none⟩) X2.length r.st.length c2 j2 E2 0 X2 r.st _ rfl rfl (by omega) (I2.out.to (by exact zbl)) (I6.out.to (by exact zbl)) HA2.out (HQ2.out.trans (if_pos rfl).symm)) ?_); rintro e wU ⟨rfl, hb_wU⟩) | (go_at_call 28; (with_reducible refine Calls.mono (number_t T2 E2 0 r.n _ HA2.out (HQT.out.trans (if_pos rfl).symm)) ?_); rintro e w9 ⟨rfl, rfl⟩) | (go_at_call 27; (with_reducible refine Calls.mono (listed_t A3 J3 X3.length (homesK g g.sta.length).length c3 j3 GB GB X3 (homesK g g.sta.length) _ rfl rfl (by omega) (I3.out.to (by exact zbl)) (I4.out.to (by exact zbl)) rfl HQ3.out) ?_); rintro e wV ⟨rfl, hb_wV⟩) | (go_at_call 16; (with_reducible refine Calls.mono (awake_c _ (HKD.out.to (by exact zbl)) (HPW.out.to (by exact zbl))) ?_); rintro e wK ⟨rfl, hbK⟩))
            go_ret
            exact ⟨rfl, HB0.out.trans ((show Below W0.heap.size W0 _ by exact zbl).mono HB0.out.size)⟩
end Go.Proofs.YtehnikhicnnnhaaGreatDoor

/- BeamBarriers answers true. -/
import Derived.Test.YtehnikhicnnnhaaGreatDoorPa39
import Derived.Test.YtehnikhicnnnhaaGreatDoorPa43
import Derived.Test.YtehnikhicnnnhaaGreatDoorPa01
namespace Go.Proofs.YtehnikhicnnnhaaGreatDoor
open Go.RowKit

set_option maxRecDepth 100000 in
set_option maxHeartbeats 16000000 in
theorem BeamBarriers_c (a : GA) (g : Grd) (n0 n1 : Int) (A : Option Addr) (xs : List Int) (c : Nat) (w : World) (hr : GridR w w.heap.size a g) (hx : IntsR w w.heap.size A xs) (hA : A = none → c = 0) (hcl : xs.length ≤ c) (hcm : c ≤ maxLen) (hk : KindsAt w) (hp : PowAt w) :
    Calls Tryz.prog 4 #[(.agg #[.int .i64 g.blur, .slice a.pS g.sta.length a.cs, .slice a.pM g.mov.length a.cm, .slice a.pZ g.zon.length a.cz]), .agg #[.int .i64 n0, .int .i64 n1], .slice A xs.length c] w fun e w' => e = .returned (.bool true) ∧ Below w.heap.size w w' := by
  obtain ⟨W0, hW0⟩ : ∃ W0, W0 = (w.alloc (.cells #[.int .i64 g.blur, .slice a.pS g.sta.length a.cs, .slice a.pM g.mov.length a.cm, .slice a.pZ g.zon.length a.cz] 26)).alloc (.cells #[.int .i64 n0, .int .i64 n1] 27) := ⟨_, rfl⟩
  have hsz : W0.heap.size = w.heap.size + 2 := by rw [hW0]; simp
  have k0 : W0.heap[w.heap.size]? = some (.cells #[.int .i64 g.blur, .slice a.pS g.sta.length a.cs, .slice a.pM g.mov.length a.cm, .slice a.pZ g.zon.length a.cz] 26 (0, 0)) := by rw [hW0]; exact (Below.heap_alloc _ _ _ (by simp)).trans (heap_alloc_new w _)
  have k1 : W0.heap[w.heap.size + 1]? = some (.cells #[.int .i64 n0, .int .i64 n1] 27 (0, 0)) := by rw [hW0]; exact heap_two w _ _
  have hB0 : Below w.heap.size w W0 := by rw [hW0]; (repeat first | (with_reducible first | assumption | exact Below.refl _ _ | refine Bl.drew ?_ | refine Bl.drewN ?_ _ | refine Bl.alloc ?_ _ | refine Bl.set ?_ _ ?_) | (with_reducible apply Bl.step'; (focus (with_reducible assumption))) | omega | (focus (simp; done)) | (focus (simp; omega)))
  have HG : Hid (GridR W0 W0.heap.size a g) := Lib.hid (hr.to hB0)
  have HKD : Hid (KindsAt W0) := Lib.hid (hk.to hB0)
  have HPW : Hid (PowAt W0) := Lib.hid (hp.to hB0)
  have HB0 := Lib.hid hB0
  have z0 := bk_lt k0
  have z1 := bk_lt k1
  have HXS := Lib.hid (hx.to hB0)
  clear hr hk hp hx hB0
  (obtain ⟨d0, d1, d2, d3⟩ := cg4 k0)
  (obtain ⟨m0, mf0, m1, mf1⟩ := cv2 k1)
  clear k0 k1 mf0 mf1
  have hSH := fun W (h : GridR W W.heap.size a g) => rShort_c a g W h
  have hcx : (xs.length : Int) ≤ 9223372036854775807 := by unfold maxLen at hcm; omega
  clear hcm
  cases hsh : shortG g
  · rw [hsh] at hSH
    have HSH := Lib.hid hSH
    clear hSH hsh
    go_enter Tryz.func4, Tryz.ntmps4
    go_upto_region 1 with fail
    rw [← hW0]
    clear hW0
    go_wp2_with (first | (go_at_call 15; (with_reducible refine Calls.mono (HSH.out _ (HG.out.to (by exact zbl))) ?_); rintro e wA ⟨rfl, hbA⟩; (have hq_wA : Below W0.heap.size W0 wA := by exact zbl); (have hc_wA := (bcell hq_wA).1); (have y0_wA : w.heap.size < wA.heap.size := Nat.lt_of_lt_of_le z0 hq_wA.size); (have y1_wA : w.heap.size + 1 < wA.heap.size := Nat.lt_of_lt_of_le z1 hq_wA.size); clear hq_wA) | (go_at_call 16; (with_reducible refine Calls.mono (awake_c _ (HKD.out.to (by exact zbl)) (HPW.out.to (by exact zbl))) ?_); rintro e wK ⟨rfl, hbK⟩))
    go_ret
    exact ⟨rfl, HB0.out.trans ((show Below W0.heap.size W0 _ by exact zbl).mono HB0.out.size)⟩
  · rw [hsh] at hSH
    have HSH := Lib.hid hSH
    have hsm := short_small hsh
    have hnst := hsm.ns
    clear hSH hsh
    cases hq0 : (decide ((20 : Int) < (xs.length : Int)) && ((xs.length : Int) != 41))
    · have hlen : xs.length ≤ 41 := by
        cases hq1 : decide ((20 : Int) < (xs.length : Int)) with
        | false => have := of_decide_eq_false hq1; omega
        | true => rw [hq1, Bool.true_and, bne_eq_false_iff_eq] at hq0; omega
      obtain ⟨T1, hT1⟩ : ∃ T, T = (stepsR g xs).1 := ⟨_, rfl⟩
      obtain ⟨E1, hE1⟩ : ∃ T, T = (stepsR g xs).2 := ⟨_, rfl⟩
      obtain ⟨X2, hX2⟩ : ∃ X, X = barL g n0 n1 := ⟨_, rfl⟩
      obtain ⟨E2, hE2⟩ : ∃ E, E = barE g n0 n1 := ⟨_, rfl⟩
      obtain ⟨E3, hE3⟩ : ∃ E, E = cbR g n0 n1 xs := ⟨_, rfl⟩
      obtain ⟨GB, hGB⟩ : ∃ E, E = gridC g := ⟨_, rfl⟩
      have HST := Lib.hid (show ∀ W a' A' c', GridR W W.heap.size a' g → KindsAt W → IntsR W W.heap.size A' xs → Calls Tryz.prog 29 #[(.agg #[.int .i64 g.blur, .slice a'.pS g.sta.length a'.cs, .slice a'.pM g.mov.length a'.cm, .slice a'.pZ g.zon.length a'.cz]), .slice A' xs.length c'] W fun e w' => e = .returned (.tuple #[.int .i64 T1, .int .i64 E1]) ∧ Below W.heap.size W w' from fun W a' A' c' h1 h2 h3 => by
        rw [hT1, hE1]; exact Steps_c a' g A' xs c' W hsm h1 h2 h3 (by omega))
      have HBA := Lib.hid (show ∀ W a', GridR W W.heap.size a' g → KindsAt W → Calls Tryz.prog 31 #[(.agg #[.int .i64 g.blur, .slice a'.pS g.sta.length a'.cs, .slice a'.pM g.mov.length a'.cm, .slice a'.pZ g.zon.length a'.cz]), .int .i64 n0, .int .i64 n1] W fun e w' => ∃ A c, e = .returned (.tuple #[.slice A X2.length c, .int .i64 E2]) ∧ IntsR w' w'.heap.size A X2 ∧ Below W.heap.size W w' from fun W a' h1 h2 => by
        refine (Barrier_c a' g n0 n1 W hsm h1 h2).mono ?_
        rintro e w' ⟨v, rfl, ho, hb⟩
        rw [← hX2] at ho
        obtain ⟨A, c, rfl, _, h3⟩ := ho.ints
        exact ⟨A, c, by rw [← hE2], h3, hb⟩)
      have HCB := Lib.hid (show ∀ W a' A' c', GridR W W.heap.size a' g → KindsAt W → IntsR W W.heap.size A' xs → Calls Tryz.prog 32 #[(.agg #[.int .i64 g.blur, .slice a'.pS g.sta.length a'.cs, .slice a'.pM g.mov.length a'.cm, .slice a'.pZ g.zon.length a'.cz]), .int .i64 n0, .int .i64 n1, .slice A' xs.length c'] W fun e w' => e = .returned (.int .i64 E3) ∧ Below W.heap.size W w' from fun W a' A' c' h1 h2 h3 => by
        rw [hE3]; exact CheckBarrier_c a' g n0 n1 A' xs c' W hsm h1 h2 h3 (by omega))
      have HGC := Lib.hid (show ∀ W, GridR W W.heap.size a g → Calls Tryz.prog 21 #[(.agg #[.int .i64 g.blur, .slice a.pS g.sta.length a.cs, .slice a.pM g.mov.length a.cm, .slice a.pZ g.zon.length a.cz])] W fun e w' => e = .returned (.int .i64 GB) ∧ Below W.heap.size W w' from fun W h => by rw [hGB]; exact rGridC_c a g W hsm h)
      have hL2 : X2.length ≤ 1000 := by rw [hX2]; unfold barL; split; (have := reachG_len g n0; omega); simp
      have HX2 := Lib.hid hX2
      have HT1 := Lib.hid hT1
      have HE1 := Lib.hid hE1
      have HE2 := Lib.hid hE2
      have HE3 := Lib.hid hE3
      have HGB := Lib.hid hGB
      clear hX2 hT1 hE1 hE2 hE3 hGB
      cases hq1 : decide ((20 : Int) < (xs.length : Int))
      · clear hq0
        cases hb0 : (GB == 0)
        · have hne : GB ≠ 0 := by simpa using hb0
          have HB := Lib.hid hne
          have Hf : ∀ l, fromC g l = GB := fun l => by unfold fromC; rw [← HGB.out, if_pos HB.out]
          have HA1 := Lib.hid (show E1 = GB ∧ T1 = 0 by
            rw [HE1.out, HT1.out]
            unfold stepsR stepsE0
            rw [← HGB.out, if_pos (by unfold firstErr; rw [if_neg HB.out]; exact HB.out)]
            exact ⟨by unfold firstErr; rw [if_neg HB.out], rfl⟩)
          have HA2 := Lib.hid (show E2 = GB by rw [HE2.out]; unfold barE; rw [if_pos (by rw [Hf]; exact HB.out)]; exact Hf _)
          have HQ2 := Lib.hid (show X2 = if GB = 0 then [] else [] by rw [HX2.out]; unfold barL; rw [← HE2.out, HA2.out, if_neg HB.out, if_neg HB.out])
          have he3 : E3 = GB := by rw [HE3.out]; unfold cbR barE0; rw [Hf, if_pos (by unfold firstErr; rw [if_neg HB.out]; exact HB.out)]; unfold firstErr; rw [if_neg HB.out]
          rw [he3] at HCB
          clear hne Hf he3
          go_enter Tryz.func4, Tryz.ntmps4
          go_upto_region 1 with fail
          rw [← hW0]
          clear hW0
          go_upto_region 3 with (go_at_call 15; (with_reducible refine Calls.mono (HSH.out _ (HG.out.to (by exact zbl))) ?_); rintro e wA ⟨rfl, hbA⟩; (have hq_wA : Below W0.heap.size W0 wA := by exact zbl); (have hc_wA := (bcell hq_wA).1); (have y0_wA : w.heap.size < wA.heap.size := Nat.lt_of_lt_of_le z0 hq_wA.size); (have y1_wA : w.heap.size + 1 < wA.heap.size := Nat.lt_of_lt_of_le z1 hq_wA.size); clear hq_wA)
          go_upto_region 4 with (first | (go_at_call 18; (with_reducible refine Calls.mono (grid_c a g _ hsm (HG.out.to (by exact zbl))) ?_); rintro e wB ⟨aB, rfl, hgB, hbB⟩; (have hq_wB : Below W0.heap.size W0 wB := by exact zbl); (have hc_wB := (bcell hq_wB).1); (have y0_wB : w.heap.size < wB.heap.size := Nat.lt_of_lt_of_le z0 hq_wB.size); (have y1_wB : w.heap.size + 1 < wB.heap.size := Nat.lt_of_lt_of_le z1 hq_wB.size); clear hq_wB) | (go_at_call 30; (with_reducible refine Calls.mono (ints_c A xs c _ (by omega) (HXS.out.to (by exact zbl)) hA) ?_); rintro e wC ⟨vC, rfl, hoC, hbC⟩; obtain ⟨AC, cC, rfl, _, hiC⟩ := hoC.ints; (have IC := Lib.hid hiC); clear hiC hoC; (have hq_wC : Below W0.heap.size W0 wC := by exact zbl); (have hc_wC := (bcell hq_wC).1); (have y0_wC : w.heap.size < wC.heap.size := Nat.lt_of_lt_of_le z0 hq_wC.size); (have y1_wC : w.heap.size + 1 < wC.heap.size := Nat.lt_of_lt_of_le z1 hq_wC.size); clear hq_wC) | (go_at_call 29; (with_reducible refine Calls.mono (HST.out _ aB AC cC (hgB.to (by exact zbl)) (HKD.out.to (by exact zbl)) (IC.out.to (by exact zbl))) ?_); rintro e wD ⟨rfl, hbD⟩; (have hq_wD : Below W0.heap.size W0 wD := by exact zbl); (have hc_wD := (bcell hq_wD).1); (have y0_wD : w.heap.size < wD.heap.size := Nat.lt_of_lt_of_le z0 hq_wD.size); (have y1_wD : w.heap.size + 1 < wD.heap.size := Nat.lt_of_lt_of_le z1 hq_wD.size); clear hq_wD))
          go_region_held3 (fun W => (W0).heap.size ≤ W.heap.size ∧ (∀ b o, b < (W0).heap.size → W.cell? ⟨b, o, none⟩ = (W0).cell? ⟨b, o, none⟩) ∧ (∀ b, b < (W0).heap.size → W.heap[b]? = (W0).heap[b]?)) ((refine Sh.goal ?_; repeat first | (with_reducible first | assumption | exact Sh.refl _ | refine Sh.drew ?_ | refine Sh.alloc ?_ _ | refine Sh.set ?_ _ ?_) | (with_reducible apply Sh.below'; (focus (with_reducible assumption))) | omega | (focus (simp; done)) | (focus (simp; omega)))) (first | (go_at_call 18; (with_reducible refine Calls.mono (grid_c a g _ hsm (HG.out.to (by exact zbl))) ?_); rintro e wE ⟨aE, rfl, hgE, hbE⟩; (have hq_wE : Below W0.heap.size W0 wE := by exact zbl); (have hc_wE := (bcell hq_wE).1); (have y0_wE : w.heap.size < wE.heap.size := Nat.lt_of_lt_of_le z0 hq_wE.size); (have y1_wE : w.heap.size + 1 < wE.heap.size := Nat.lt_of_lt_of_le z1 hq_wE.size); clear hq_wE) | (go_at_call 31; (with_reducible refine Calls.mono (HBA.out _ aE (hgE.to (by exact zbl)) (HKD.out.to (by exact zbl))) ?_); rintro e wF ⟨A2, c2, rfl, hi2, hbF⟩; (have I2 := Lib.hid hi2); clear hi2; (have hq_wF : Below W0.heap.size W0 wF := by exact zbl); (have hc_wF := (bcell hq_wF).1); (have y0_wF : w.heap.size < wF.heap.size := Nat.lt_of_lt_of_le z0 hq_wF.size); (have y1_wF : w.heap.size + 1 < wF.heap.size := Nat.lt_of_lt_of_le z1 hq_wF.size); clear hq_wF))
          go_upto_region 5 with fail
          go_region_held3 (fun W => (W0).heap.size ≤ W.heap.size ∧ (∀ b o, b < (W0).heap.size → W.cell? ⟨b, o, none⟩ = (W0).cell? ⟨b, o, none⟩) ∧ (∀ b, b < (W0).heap.size → W.heap[b]? = (W0).heap[b]?)) ((refine Sh.goal ?_; repeat first | (with_reducible first | assumption | exact Sh.refl _ | refine Sh.drew ?_ | refine Sh.alloc ?_ _ | refine Sh.set ?_ _ ?_) | (with_reducible apply Sh.below'; (focus (with_reducible assumption))) | omega | (focus (simp; done)) | (focus (simp; omega)))) (first | (go_at_call 18; (with_reducible refine Calls.mono (grid_c a g _ hsm (HG.out.to (by exact zbl))) ?_); rintro e wG ⟨aG, rfl, hgG, hbG⟩; (have hq_wG : Below W0.heap.size W0 wG := by exact zbl); (have hc_wG := (bcell hq_wG).1); (have y0_wG : w.heap.size < wG.heap.size := Nat.lt_of_lt_of_le z0 hq_wG.size); (have y1_wG : w.heap.size + 1 < wG.heap.size := Nat.lt_of_lt_of_le z1 hq_wG.size); clear hq_wG) | (go_at_call 30; (with_reducible refine Calls.mono (ints_c A xs c _ (by omega) (HXS.out.to (by exact zbl)) hA) ?_); rintro e wH ⟨vH, rfl, hoH, hbH⟩; obtain ⟨AH, cH, rfl, _, hiH⟩ := hoH.ints; (have IH := Lib.hid hiH); clear hiH hoH; (have hq_wH : Below W0.heap.size W0 wH := by exact zbl); (have hc_wH := (bcell hq_wH).1); (have y0_wH : w.heap.size < wH.heap.size := Nat.lt_of_lt_of_le z0 hq_wH.size); (have y1_wH : w.heap.size + 1 < wH.heap.size := Nat.lt_of_lt_of_le z1 hq_wH.size); clear hq_wH) | (go_at_call 32; (with_reducible refine Calls.mono (HCB.out _ aG AH cH (hgG.to (by exact zbl)) (HKD.out.to (by exact zbl)) (IH.out.to (by exact zbl))) ?_); rintro e wI ⟨rfl, hbI⟩; (have hq_wI : Below W0.heap.size W0 wI := by exact zbl); (have hc_wI := (bcell hq_wI).1); (have y0_wI : w.heap.size < wI.heap.size := Nat.lt_of_lt_of_le z0 hq_wI.size); (have y1_wI : w.heap.size + 1 < wI.heap.size := Nat.lt_of_lt_of_le z1 hq_wI.size); clear hq_wI))
          go_upto_region 7 with (go_at_call 21; (with_reducible refine Calls.mono (HGC.out _ (HG.out.to (by exact zbl))) ?_); rintro e wJ ⟨rfl, hbJ⟩; (have hq_wJ : Below W0.heap.size W0 wJ := by exact zbl); (have hc_wJ := (bcell hq_wJ).1); (have y0_wJ : w.heap.size < wJ.heap.size := Nat.lt_of_lt_of_le z0 hq_wJ.size); (have y1_wJ : w.heap.size + 1 < wJ.heap.size := Nat.lt_of_lt_of_le z1 hq_wJ.size); clear hq_wJ)
          go_wp2_with (first | (go_at_call 28; (with_reducible refine Calls.mono (number_t T1 E1 GB 0 _ HA1.out.1 (by rw [HA1.out.2, if_neg HB.out])) ?_); rintro e w9 ⟨rfl, rfl⟩) | (go_at_call 27; (with_reducible refine Calls.mono (listed_t A2 none X2.length 0 c2 0 E2 GB X2 [] _ rfl rfl (by omega) (I2.out.to (by exact zbl)) (IntsR.nil0 _ _) HA2.out HQ2.out) ?_); rintro e wU ⟨rfl, hb_wU⟩) | (go_at_call 16; (with_reducible refine Calls.mono (awake_c _ (HKD.out.to (by exact zbl)) (HPW.out.to (by exact zbl))) ?_); rintro e wK ⟨rfl, hbK⟩))
          go_ret
          exact ⟨rfl, HB0.out.trans ((show Below W0.heap.size W0 _ by exact zbl).mono HB0.out.size)⟩
        · have HZ := Lib.hid (show gridC g = 0 by rw [← HGB.out]; simpa using hb0)
          have hok := gridC_ok HZ.out
          have hu := gridC_uniq HZ.out
          have hns := hok.ns
          obtain ⟨S0, hS0⟩ : ∃ S, S = staC g n0 := ⟨_, rfl⟩
          obtain ⟨S1, hS1⟩ : ∃ S, S = staC g n1 := ⟨_, rfl⟩
          obtain ⟨TT, hTT⟩ : ∃ S, S = firstErr [S0, S1] := ⟨_, rfl⟩
          have HC0 := Lib.hid (show ∀ W, GridR W W.heap.size a g → Calls Tryz.prog 22 #[(.agg #[.int .i64 g.blur, .slice a.pS g.sta.length a.cs, .slice a.pM g.mov.length a.cm, .slice a.pZ g.zon.length a.cz]), .int .i64 n0] W fun e w' => e = .returned (.int .i64 S0) ∧ Below W.heap.size W w' from fun W h => by rw [hS0]; exact rStation_c a g n0 W hok h)
          have HC1 := Lib.hid (show ∀ W, GridR W W.heap.size a g → Calls Tryz.prog 22 #[(.agg #[.int .i64 g.blur, .slice a.pS g.sta.length a.cs, .slice a.pM g.mov.length a.cm, .slice a.pZ g.zon.length a.cz]), .int .i64 n1] W fun e w' => e = .returned (.int .i64 S1) ∧ Below W.heap.size W w' from fun W h => by rw [hS1]; exact rStation_c a g n1 W hok h)
          have HTF := Lib.hid (show ∀ W b, CellsAt W b 0 [S0, S1] → Calls Tryz.prog 23 #[.slice (some ⟨b, 0, none⟩) 2 2] W fun e w' => e = .returned (.int .i64 TT) ∧ W = w' from fun W b h => by rw [hTT]; exact lfirst_c b [S0, S1] W (by simp) h)
          have HRS := Lib.hid (show ∀ W, GridR W W.heap.size a g → IntsR W W.heap.size A xs → Calls Tryz.prog 33 #[(.agg #[.int .i64 g.blur, .slice a.pS g.sta.length a.cs, .slice a.pM g.mov.length a.cm, .slice a.pZ g.zon.length a.cz]), .slice A xs.length c] W fun e w' => e = .returned (.tuple #[.int .i64 T1, .int .i64 E1]) ∧ Below W.heap.size W w' from fun W h1 h2 => by
            rw [HT1.out, HE1.out, stepsR_eq HZ.out]; exact rSteps_c a g A xs c W hok h1 h2 (by omega))
          have HT1Z := Lib.hid (show T1 = if E1 = 0 then T1 else 0 by
            by_cases h : E1 = 0
            · rw [if_pos h]
            · rw [if_neg h]
              rw [HE1.out] at h
              rw [HT1.out]
              rw [stepsR_eq HZ.out] at h ⊢
              unfold rStp at h ⊢
              split
              · rfl
              · rename_i h1
                rw [if_neg h1] at h
                split
                · rfl
                · rename_i h2
                  rw [if_neg h2] at h
                  split
                  · rfl
                  · rename_i h3
                    rw [if_neg h3] at h
                    split
                    · rename_i h4
                      rw [if_pos h4] at h
                      cases hsw : sumW g (xs.headD 0) xs.tail with
                      | none => rfl
                      | some n => rw [hsw] at h; exact absurd rfl h
                    · rfl)
          have hf2 : fromC g [n0, n1] = TT := by unfold fromC; rw [if_neg (fun h => h HZ.out), hTT, hS0, hS1]; rfl
          have HF2 := Lib.hid hf2
          have HS0 := Lib.hid hS0
          have HS1 := Lib.hid hS1
          have HTT := Lib.hid hTT
          clear hf2 hS0 hS1 hTT
          cases hb2 : (TT == 0)
          · have hTN : TT ≠ 0 := by simpa using hb2
            have HTN := Lib.hid hTN
            have HA2 := Lib.hid (show E2 = TT by rw [HE2.out]; unfold barE; rw [HF2.out, if_pos HTN.out])
            have HQ2 := Lib.hid (show X2 = if TT = 0 then [] else [] by rw [HX2.out]; unfold barL; rw [← HE2.out, HA2.out, if_neg HTN.out, if_neg HTN.out])
            have he3 : E3 = TT := by rw [HE3.out]; unfold cbR barE0; rw [HF2.out, if_pos (by unfold firstErr; rw [if_neg HTN.out]; exact HTN.out)]; unfold firstErr; rw [if_neg HTN.out]
            rw [he3] at HCB
            clear hTN he3
            go_enter Tryz.func4, Tryz.ntmps4
            go_upto_region 1 with fail
            rw [← hW0]
            clear hW0
            go_upto_region 3 with (go_at_call 15; (with_reducible refine Calls.mono (HSH.out _ (HG.out.to (by exact zbl))) ?_); rintro e wA ⟨rfl, hbA⟩; (have hq_wA : Below W0.heap.size W0 wA := by exact zbl); (have hc_wA := (bcell hq_wA).1); (have y0_wA : w.heap.size < wA.heap.size := Nat.lt_of_lt_of_le z0 hq_wA.size); (have y1_wA : w.heap.size + 1 < wA.heap.size := Nat.lt_of_lt_of_le z1 hq_wA.size); clear hq_wA)
            go_upto_region 4 with (first | (go_at_call 18; (with_reducible refine Calls.mono (grid_c a g _ hsm (HG.out.to (by exact zbl))) ?_); rintro e wB ⟨aB, rfl, hgB, hbB⟩; (have hq_wB : Below W0.heap.size W0 wB := by exact zbl); (have hc_wB := (bcell hq_wB).1); (have y0_wB : w.heap.size < wB.heap.size := Nat.lt_of_lt_of_le z0 hq_wB.size); (have y1_wB : w.heap.size + 1 < wB.heap.size := Nat.lt_of_lt_of_le z1 hq_wB.size); clear hq_wB) | (go_at_call 30; (with_reducible refine Calls.mono (ints_c A xs c _ (by omega) (HXS.out.to (by exact zbl)) hA) ?_); rintro e wC ⟨vC, rfl, hoC, hbC⟩; obtain ⟨AC, cC, rfl, _, hiC⟩ := hoC.ints; (have IC := Lib.hid hiC); clear hiC hoC; (have hq_wC : Below W0.heap.size W0 wC := by exact zbl); (have hc_wC := (bcell hq_wC).1); (have y0_wC : w.heap.size < wC.heap.size := Nat.lt_of_lt_of_le z0 hq_wC.size); (have y1_wC : w.heap.size + 1 < wC.heap.size := Nat.lt_of_lt_of_le z1 hq_wC.size); clear hq_wC) | (go_at_call 29; (with_reducible refine Calls.mono (HST.out _ aB AC cC (hgB.to (by exact zbl)) (HKD.out.to (by exact zbl)) (IC.out.to (by exact zbl))) ?_); rintro e wD ⟨rfl, hbD⟩; (have hq_wD : Below W0.heap.size W0 wD := by exact zbl); (have hc_wD := (bcell hq_wD).1); (have y0_wD : w.heap.size < wD.heap.size := Nat.lt_of_lt_of_le z0 hq_wD.size); (have y1_wD : w.heap.size + 1 < wD.heap.size := Nat.lt_of_lt_of_le z1 hq_wD.size); clear hq_wD))
            go_region_held3 (fun W => (W0).heap.size ≤ W.heap.size ∧ (∀ b o, b < (W0).heap.size → W.cell? ⟨b, o, none⟩ = (W0).cell? ⟨b, o, none⟩) ∧ (∀ b, b < (W0).heap.size → W.heap[b]? = (W0).heap[b]?)) ((refine Sh.goal ?_; repeat first | (with_reducible first | assumption | exact Sh.refl _ | refine Sh.drew ?_ | refine Sh.alloc ?_ _ | refine Sh.set ?_ _ ?_) | (with_reducible apply Sh.below'; (focus (with_reducible assumption))) | omega | (focus (simp; done)) | (focus (simp; omega)))) (first | (go_at_call 18; (with_reducible refine Calls.mono (grid_c a g _ hsm (HG.out.to (by exact zbl))) ?_); rintro e wE ⟨aE, rfl, hgE, hbE⟩; (have hq_wE : Below W0.heap.size W0 wE := by exact zbl); (have hc_wE := (bcell hq_wE).1); (have y0_wE : w.heap.size < wE.heap.size := Nat.lt_of_lt_of_le z0 hq_wE.size); (have y1_wE : w.heap.size + 1 < wE.heap.size := Nat.lt_of_lt_of_le z1 hq_wE.size); clear hq_wE) | (go_at_call 31; (with_reducible refine Calls.mono (HBA.out _ aE (hgE.to (by exact zbl)) (HKD.out.to (by exact zbl))) ?_); rintro e wF ⟨A2, c2, rfl, hi2, hbF⟩; (have I2 := Lib.hid hi2); clear hi2; (have hq_wF : Below W0.heap.size W0 wF := by exact zbl); (have hc_wF := (bcell hq_wF).1); (have y0_wF : w.heap.size < wF.heap.size := Nat.lt_of_lt_of_le z0 hq_wF.size); (have y1_wF : w.heap.size + 1 < wF.heap.size := Nat.lt_of_lt_of_le z1 hq_wF.size); clear hq_wF))
            go_upto_region 5 with fail
            go_region_held3 (fun W => (W0).heap.size ≤ W.heap.size ∧ (∀ b o, b < (W0).heap.size → W.cell? ⟨b, o, none⟩ = (W0).cell? ⟨b, o, none⟩) ∧ (∀ b, b < (W0).heap.size → W.heap[b]? = (W0).heap[b]?)) ((refine Sh.goal ?_; repeat first | (with_reducible first | assumption | exact Sh.refl _ | refine Sh.drew ?_ | refine Sh.alloc ?_ _ | refine Sh.set ?_ _ ?_) | (with_reducible apply Sh.below'; (focus (with_reducible assumption))) | omega | (focus (simp; done)) | (focus (simp; omega)))) (first | (go_at_call 18; (with_reducible refine Calls.mono (grid_c a g _ hsm (HG.out.to (by exact zbl))) ?_); rintro e wG ⟨aG, rfl, hgG, hbG⟩; (have hq_wG : Below W0.heap.size W0 wG := by exact zbl); (have hc_wG := (bcell hq_wG).1); (have y0_wG : w.heap.size < wG.heap.size := Nat.lt_of_lt_of_le z0 hq_wG.size); (have y1_wG : w.heap.size + 1 < wG.heap.size := Nat.lt_of_lt_of_le z1 hq_wG.size); clear hq_wG) | (go_at_call 30; (with_reducible refine Calls.mono (ints_c A xs c _ (by omega) (HXS.out.to (by exact zbl)) hA) ?_); rintro e wH ⟨vH, rfl, hoH, hbH⟩; obtain ⟨AH, cH, rfl, _, hiH⟩ := hoH.ints; (have IH := Lib.hid hiH); clear hiH hoH; (have hq_wH : Below W0.heap.size W0 wH := by exact zbl); (have hc_wH := (bcell hq_wH).1); (have y0_wH : w.heap.size < wH.heap.size := Nat.lt_of_lt_of_le z0 hq_wH.size); (have y1_wH : w.heap.size + 1 < wH.heap.size := Nat.lt_of_lt_of_le z1 hq_wH.size); clear hq_wH) | (go_at_call 32; (with_reducible refine Calls.mono (HCB.out _ aG AH cH (hgG.to (by exact zbl)) (HKD.out.to (by exact zbl)) (IH.out.to (by exact zbl))) ?_); rintro e wI ⟨rfl, hbI⟩; (have hq_wI : Below W0.heap.size W0 wI := by exact zbl); (have hc_wI := (bcell hq_wI).1); (have y0_wI : w.heap.size < wI.heap.size := Nat.lt_of_lt_of_le z0 hq_wI.size); (have y1_wI : w.heap.size + 1 < wI.heap.size := Nat.lt_of_lt_of_le z1 hq_wI.size); clear hq_wI))
            go_upto_region 7 with (go_at_call 21; (with_reducible refine Calls.mono (HGC.out _ (HG.out.to (by exact zbl))) ?_); rintro e wJ ⟨rfl, hbJ⟩; (have hq_wJ : Below W0.heap.size W0 wJ := by exact zbl); (have hc_wJ := (bcell hq_wJ).1); (have y0_wJ : w.heap.size < wJ.heap.size := Nat.lt_of_lt_of_le z0 hq_wJ.size); (have y1_wJ : w.heap.size + 1 < wJ.heap.size := Nat.lt_of_lt_of_le z1 hq_wJ.size); clear hq_wJ)
            go_upto_region 11 with (go_at_call 33; (with_reducible refine Calls.mono (HRS.out _ (HG.out.to (by exact zbl)) (HXS.out.to (by exact zbl))) ?_); rintro e wM ⟨rfl, hbM⟩; (have hq_wM : Below W0.heap.size W0 wM := by exact zbl); (have hc_wM := (bcell hq_wM).1); (have y0_wM : w.heap.size < wM.heap.size := Nat.lt_of_lt_of_le z0 hq_wM.size); (have y1_wM : w.heap.size + 1 < wM.heap.size := Nat.lt_of_lt_of_le z1 hq_wM.size); clear hq_wM)
            go_region_held3 (fun W => (W0).heap.size ≤ W.heap.size ∧ (∀ b o, b < (W0).heap.size → W.cell? ⟨b, o, none⟩ = (W0).cell? ⟨b, o, none⟩) ∧ (∀ b, b < (W0).heap.size → W.heap[b]? = (W0).heap[b]?)) ((refine Sh.goal ?_; repeat first | (with_reducible first | assumption | exact Sh.refl _ | refine Sh.drew ?_ | refine Sh.alloc ?_ _ | refine Sh.set ?_ _ ?_) | (with_reducible apply Sh.below'; (focus (with_reducible assumption))) | omega | (focus (simp; done)) | (focus (simp; omega)))) (first | (go_at_call 22; (with_reducible refine Calls.mono (HC0.out _ (HG.out.to (by exact zbl))) ?_); rintro e wN ⟨rfl, hbN⟩; (have hq_wN : Below W0.heap.size W0 wN := by exact zbl); (have hc_wN := (bcell hq_wN).1); (have y0_wN : w.heap.size < wN.heap.size := Nat.lt_of_lt_of_le z0 hq_wN.size); (have y1_wN : w.heap.size + 1 < wN.heap.size := Nat.lt_of_lt_of_le z1 hq_wN.size); clear hq_wN) | (go_at_call 22; (with_reducible refine Calls.mono (HC1.out _ (HG.out.to (by exact zbl))) ?_); rintro e wO ⟨rfl, hbO⟩; (have hq_wO : Below W0.heap.size W0 wO := by exact zbl); (have hc_wO := (bcell hq_wO).1); (have y0_wO : w.heap.size < wO.heap.size := Nat.lt_of_lt_of_le z0 hq_wO.size); (have y1_wO : w.heap.size + 1 < wO.heap.size := Nat.lt_of_lt_of_le z1 hq_wO.size); clear hq_wO) | (go_at_call 23; (with_reducible refine Calls.mono (HTF.out _ _ (by simp [CellsAt])) ?_); rintro e wQ ⟨rfl, rfl⟩))
            trace "S"
            all_goals
              go_wp2_with (first | (go_at_call 28; (with_reducible refine Calls.mono (number_t T1 E1 E1 T1 _ rfl HT1Z.out) ?_); rintro e w9 ⟨rfl, rfl⟩) | (go_at_call 27; (with_reducible refine Calls.mono (listed_t A2 none X2.length 0 c2 0 E2 TT X2 [] _ rfl rfl (by omega) (I2.out.to (by exact zbl)) (IntsR.nil0 _ _) HA2.out HQ2.out) ?_); rintro e wU ⟨rfl, hb_wU⟩) | (go_at_call 16; (with_reducible refine Calls.mono (awake_c _ (HKD.out.to (by exact zbl)) (HPW.out.to (by exact zbl))) ?_); rintro e wK ⟨rfl, hbK⟩))
              go_ret
              exact ⟨rfl, HB0.out.trans ((show Below W0.heap.size W0 _ by exact zbl).mono HB0.out.size)⟩
          · have hTZ : TT = 0 := by simpa using hb2
            have HTZ := Lib.hid hTZ
            have hF0 : fromC g [n0, n1] = 0 := HF2.out.trans HTZ.out
            have hst := staC_zero ((fromC_zero hF0).2 n0 (by simp))
            have hrl := reachG_len g n0
            have he3 := HE3.out.trans (cbR_eq hF0 (l := xs))
            have hCB2 := fun W (h1 : GridR W W.heap.size a g) (h2 : IntsR W W.heap.size A xs) => rBarrier_c a g n0 n1 A xs c W hok h1 h2 (by omega)
            rw [← he3] at hCB2
            have HCB2 := Lib.hid hCB2
            obtain ⟨pb, hpb⟩ : ∃ p, p = (reachG g n0).any (n1 == ·) := ⟨_, rfl⟩
            have he2 : E2 = whn pb 21 := by
              rw [HE2.out]; unfold barE; rw [if_neg (fun h => h hF0), ← hpb]
              cases pb <;> rfl
            have HWN := Lib.hid (show ∀ W, Calls Tryz.prog 34 #[.bool pb, .int .i64 21] W fun e w' => e = .returned (.int .i64 E2) ∧ W = w' from fun W => by rw [he2]; exact rWhen_c pb 21 W)
            have HHI := Lib.hid (show ∀ W A' c', IntsR W W.heap.size A' (reachG g n0) → Calls Tryz.prog 35 #[.slice A' (reachG g n0).length c', .int .i64 n1] W fun e w' => e = .returned (.bool pb) ∧ W = w' from fun W A' c' h => by rw [hpb]; exact hasInt_r n1 A' _ c' W _ (by omega) h)
            have HQ2 := Lib.hid (show X2 = if E2 = 0 then reachG g n0 else [] by rw [HX2.out]; unfold barL; rw [← HE2.out])
            clear hTZ hF0 he3 hCB2 hpb he2
            go_enter Tryz.func4, Tryz.ntmps4
            go_upto_region 1 with fail
            rw [← hW0]
            clear hW0
            go_upto_region 3 with (go_at_call 15; (with_reducible refine Calls.mono (HSH.out _ (HG.out.to (by exact zbl))) ?_); rintro e wA ⟨rfl, hbA⟩; (have hq_wA : Below W0.heap.size W0 wA := by exact zbl); (have hc_wA := (bcell hq_wA).1); (have y0_wA : w.heap.size < wA.heap.size := Nat.lt_of_lt_of_le z0 hq_wA.size); (have y1_wA : w.heap.size + 1 < wA.heap.size := Nat.lt_of_lt_of_le z1 hq_wA.size); clear hq_wA)
            go_upto_region 4 with (first | (go_at_call 18; (with_reducible refine Calls.mono (grid_c a g _ hsm (HG.out.to (by exact zbl))) ?_); rintro e wB ⟨aB, rfl, hgB, hbB⟩; (have hq_wB : Below W0.heap.size W0 wB := by exact zbl); (have hc_wB := (bcell hq_wB).1); (have y0_wB : w.heap.size < wB.heap.size := Nat.lt_of_lt_of_le z0 hq_wB.size); (have y1_wB : w.heap.size + 1 < wB.heap.size := Nat.lt_of_lt_of_le z1 hq_wB.size); clear hq_wB) | (go_at_call 30; (with_reducible refine Calls.mono (ints_c A xs c _ (by omega) (HXS.out.to (by exact zbl)) hA) ?_); rintro e wC ⟨vC, rfl, hoC, hbC⟩; obtain ⟨AC, cC, rfl, _, hiC⟩ := hoC.ints; (have IC := Lib.hid hiC); clear hiC hoC; (have hq_wC : Below W0.heap.size W0 wC := by exact zbl); (have hc_wC := (bcell hq_wC).1); (have y0_wC : w.heap.size < wC.heap.size := Nat.lt_of_lt_of_le z0 hq_wC.size); (have y1_wC : w.heap.size + 1 < wC.heap.size := Nat.lt_of_lt_of_le z1 hq_wC.size); clear hq_wC) | (go_at_call 29; (with_reducible refine Calls.mono (HST.out _ aB AC cC (hgB.to (by exact zbl)) (HKD.out.to (by exact zbl)) (IC.out.to (by exact zbl))) ?_); rintro e wD ⟨rfl, hbD⟩; (have hq_wD : Below W0.heap.size W0 wD := by exact zbl); (have hc_wD := (bcell hq_wD).1); (have y0_wD : w.heap.size < wD.heap.size := Nat.lt_of_lt_of_le z0 hq_wD.size); (have y1_wD : w.heap.size + 1 < wD.heap.size := Nat.lt_of_lt_of_le z1 hq_wD.size); clear hq_wD))
            go_region_held3 (fun W => (W0).heap.size ≤ W.heap.size ∧ (∀ b o, b < (W0).heap.size → W.cell? ⟨b, o, none⟩ = (W0).cell? ⟨b, o, none⟩) ∧ (∀ b, b < (W0).heap.size → W.heap[b]? = (W0).heap[b]?)) ((refine Sh.goal ?_; repeat first | (with_reducible first | assumption | exact Sh.refl _ | refine Sh.drew ?_ | refine Sh.alloc ?_ _ | refine Sh.set ?_ _ ?_) | (with_reducible apply Sh.below'; (focus (with_reducible assumption))) | omega | (focus (simp; done)) | (focus (simp; omega)))) (first | (go_at_call 18; (with_reducible refine Calls.mono (grid_c a g _ hsm (HG.out.to (by exact zbl))) ?_); rintro e wE ⟨aE, rfl, hgE, hbE⟩; (have hq_wE : Below W0.heap.size W0 wE := by exact zbl); (have hc_wE := (bcell hq_wE).1); (have y0_wE : w.heap.size < wE.heap.size := Nat.lt_of_lt_of_le z0 hq_wE.size); (have y1_wE : w.heap.size + 1 < wE.heap.size := Nat.lt_of_lt_of_le z1 hq_wE.size); clear hq_wE) | (go_at_call 31; (with_reducible refine Calls.mono (HBA.out _ aE (hgE.to (by exact zbl)) (HKD.out.to (by exact zbl))) ?_); rintro e wF ⟨A2, c2, rfl, hi2, hbF⟩; (have I2 := Lib.hid hi2); clear hi2; (have hq_wF : Below W0.heap.size W0 wF := by exact zbl); (have hc_wF := (bcell hq_wF).1); (have y0_wF : w.heap.size < wF.heap.size := Nat.lt_of_lt_of_le z0 hq_wF.size); (have y1_wF : w.heap.size + 1 < wF.heap.size := Nat.lt_of_lt_of_le z1 hq_wF.size); clear hq_wF))
            go_upto_region 5 with fail
            go_region_held3 (fun W => (W0).heap.size ≤ W.heap.size ∧ (∀ b o, b < (W0).heap.size → W.cell? ⟨b, o, none⟩ = (W0).cell? ⟨b, o, none⟩) ∧ (∀ b, b < (W0).heap.size → W.heap[b]? = (W0).heap[b]?)) ((refine Sh.goal ?_; repeat first | (with_reducible first | assumption | exact Sh.refl _ | refine Sh.drew ?_ | refine Sh.alloc ?_ _ | refine Sh.set ?_ _ ?_) | (with_reducible apply Sh.below'; (focus (with_reducible assumption))) | omega | (focus (simp; done)) | (focus (simp; omega)))) (first | (go_at_call 18; (with_reducible refine Calls.mono (grid_c a g _ hsm (HG.out.to (by exact zbl))) ?_); rintro e wG ⟨aG, rfl, hgG, hbG⟩; (have hq_wG : Below W0.heap.size W0 wG := by exact zbl); (have hc_wG := (bcell hq_wG).1); (have y0_wG : w.heap.size < wG.heap.size := Nat.lt_of_lt_of_le z0 hq_wG.size); (have y1_wG : w.heap.size + 1 < wG.heap.size := Nat.lt_of_lt_of_le z1 hq_wG.size); clear hq_wG) | (go_at_call 30; (with_reducible refine Calls.mono (ints_c A xs c _ (by omega) (HXS.out.to (by exact zbl)) hA) ?_); rintro e wH ⟨vH, rfl, hoH, hbH⟩; obtain ⟨AH, cH, rfl, _, hiH⟩ := hoH.ints; (have IH := Lib.hid hiH); clear hiH hoH; (have hq_wH : Below W0.heap.size W0 wH := by exact zbl); (have hc_wH := (bcell hq_wH).1); (have y0_wH : w.heap.size < wH.heap.size := Nat.lt_of_lt_of_le z0 hq_wH.size); (have y1_wH : w.heap.size + 1 < wH.heap.size := Nat.lt_of_lt_of_le z1 hq_wH.size); clear hq_wH) | (go_at_call 32; (with_reducible refine Calls.mono (HCB.out _ aG AH cH (hgG.to (by exact zbl)) (HKD.out.to (by exact zbl)) (IH.out.to (by exact zbl))) ?_); rintro e wI ⟨rfl, hbI⟩; (have hq_wI : Below W0.heap.size W0 wI := by exact zbl); (have hc_wI := (bcell hq_wI).1); (have y0_wI : w.heap.size < wI.heap.size := Nat.lt_of_lt_of_le z0 hq_wI.size); (have y1_wI : w.heap.size + 1 < wI.heap.size := Nat.lt_of_lt_of_le z1 hq_wI.size); clear hq_wI))
            go_upto_region 7 with (go_at_call 21; (with_reducible refine Calls.mono (HGC.out _ (HG.out.to (by exact zbl))) ?_); rintro e wJ ⟨rfl, hbJ⟩; (have hq_wJ : Below W0.heap.size W0 wJ := by exact zbl); (have hc_wJ := (bcell hq_wJ).1); (have y0_wJ : w.heap.size < wJ.heap.size := Nat.lt_of_lt_of_le z0 hq_wJ.size); (have y1_wJ : w.heap.size + 1 < wJ.heap.size := Nat.lt_of_lt_of_le z1 hq_wJ.size); clear hq_wJ)
            go_upto_region 11 with (go_at_call 33; (with_reducible refine Calls.mono (HRS.out _ (HG.out.to (by exact zbl)) (HXS.out.to (by exact zbl))) ?_); rintro e wM ⟨rfl, hbM⟩; (have hq_wM : Below W0.heap.size W0 wM := by exact zbl); (have hc_wM := (bcell hq_wM).1); (have y0_wM : w.heap.size < wM.heap.size := Nat.lt_of_lt_of_le z0 hq_wM.size); (have y1_wM : w.heap.size + 1 < wM.heap.size := Nat.lt_of_lt_of_le z1 hq_wM.size); clear hq_wM)
            go_region_held3 (fun W => (W0).heap.size ≤ W.heap.size ∧ (∀ b o, b < (W0).heap.size → W.cell? ⟨b, o, none⟩ = (W0).cell? ⟨b, o, none⟩) ∧ (∀ b, b < (W0).heap.size → W.heap[b]? = (W0).heap[b]?)) ((refine Sh.goal ?_; repeat first | (with_reducible first | assumption | exact Sh.refl _ | refine Sh.drew ?_ | refine Sh.alloc ?_ _ | refine Sh.set ?_ _ ?_) | (with_reducible apply Sh.below'; (focus (with_reducible assumption))) | omega | (focus (simp; done)) | (focus (simp; omega)))) (first | (go_at_call 22; (with_reducible refine Calls.mono (HC0.out _ (HG.out.to (by exact zbl))) ?_); rintro e wN ⟨rfl, hbN⟩; (have hq_wN : Below W0.heap.size W0 wN := by exact zbl); (have hc_wN := (bcell hq_wN).1); (have y0_wN : w.heap.size < wN.heap.size := Nat.lt_of_lt_of_le z0 hq_wN.size); (have y1_wN : w.heap.size + 1 < wN.heap.size := Nat.lt_of_lt_of_le z1 hq_wN.size); clear hq_wN) | (go_at_call 22; (with_reducible refine Calls.mono (HC1.out _ (HG.out.to (by exact zbl))) ?_); rintro e wO ⟨rfl, hbO⟩; (have hq_wO : Below W0.heap.size W0 wO := by exact zbl); (have hc_wO := (bcell hq_wO).1); (have y0_wO : w.heap.size < wO.heap.size := Nat.lt_of_lt_of_le z0 hq_wO.size); (have y1_wO : w.heap.size + 1 < wO.heap.size := Nat.lt_of_lt_of_le z1 hq_wO.size); clear hq_wO) | (go_at_call 23; (with_reducible refine Calls.mono (HTF.out _ _ (by simp [CellsAt])) ?_); rintro e wQ ⟨rfl, rfl⟩))
            all_goals
              go_wp2_with (first | (go_at_call 25; (with_reducible refine Calls.mono (rReached_c a g n0 _ hok hu hst.1 (HG.out.to (by exact zbl))) ?_); rintro e wR ⟨v5, rfl, ho5, hbR⟩; obtain ⟨J1, j1, rfl, _, hj1⟩ := ho5.ints; (have I5 := Lib.hid hj1); clear hj1 ho5; (have hq_wR : Below W0.heap.size W0 wR := by exact zbl); (have hc_wR := (bcell hq_wR).1); (have y0_wR : w.heap.size < wR.heap.size := Nat.lt_of_lt_of_le z0 hq_wR.size); (have y1_wR : w.heap.size + 1 < wR.heap.size := Nat.lt_of_lt_of_le z1 hq_wR.size); clear hq_wR) | (go_at_call 35; (with_reducible refine Calls.mono (HHI.out _ J1 j1 (I5.out.to (by exact zbl))) ?_); rintro e wS ⟨rfl, rfl⟩) | (go_at_call 34; (with_reducible refine Calls.mono (HWN.out _) ?_); rintro e wT ⟨rfl, rfl⟩) | (go_at_call 36; (with_reducible refine Calls.mono (HCB2.out _ (HG.out.to (by exact zbl)) (HXS.out.to (by exact zbl))) ?_); rintro e wV ⟨rfl, hbV⟩; (have hq_wV : Below W0.heap.size W0 wV := by exact zbl); (have hc_wV := (bcell hq_wV).1); (have y0_wV : w.heap.size < wV.heap.size := Nat.lt_of_lt_of_le z0 hq_wV.size); (have y1_wV : w.heap.size + 1 < wV.heap.size := Nat.lt_of_lt_of_le z1 hq_wV.size); clear hq_wV) | (go_at_call 28; (with_reducible refine Calls.mono (number_t T1 E1 E1 T1 _ rfl HT1Z.out) ?_); rintro e w9 ⟨rfl, rfl⟩) | (go_at_call 27; (with_reducible refine Calls.mono (listed_t A2 J1 X2.length (reachG g n0).length c2 j1 E2 E2 X2 (reachG g n0) _ rfl rfl (by omega) (I2.out.to (by exact zbl)) (I5.out.to (by exact zbl)) rfl HQ2.out) ?_); rintro e wU ⟨rfl, hb_wU⟩) | (go_at_call 16; (with_reducible refine Calls.mono (awake_c _ (HKD.out.to (by exact zbl)) (HPW.out.to (by exact zbl))) ?_); rintro e wK ⟨rfl, hbK⟩))
              go_ret
              exact ⟨rfl, HB0.out.trans ((show Below W0.heap.size W0 _ by exact zbl).mono HB0.out.size)⟩
      · have hq2 : ((xs.length : Int) != 41) = false := by rw [hq1, Bool.true_and] at hq0; exact hq0
        clear hq0
        cases hb0 : (GB == 0)
        · have hne : GB ≠ 0 := by simpa using hb0
          have HB := Lib.hid hne
          have Hf : ∀ l, fromC g l = GB := fun l => by unfold fromC; rw [← HGB.out, if_pos HB.out]
          have HA1 := Lib.hid (show E1 = GB ∧ T1 = 0 by
            rw [HE1.out, HT1.out]
            unfold stepsR stepsE0
            rw [← HGB.out, if_pos (by unfold firstErr; rw [if_neg HB.out]; exact HB.out)]
            exact ⟨by unfold firstErr; rw [if_neg HB.out], rfl⟩)
          have HA2 := Lib.hid (show E2 = GB by rw [HE2.out]; unfold barE; rw [if_pos (by rw [Hf]; exact HB.out)]; exact Hf _)
          have HQ2 := Lib.hid (show X2 = if GB = 0 then [] else [] by rw [HX2.out]; unfold barL; rw [← HE2.out, HA2.out, if_neg HB.out, if_neg HB.out])
          have he3 : E3 = GB := by rw [HE3.out]; unfold cbR barE0; rw [Hf, if_pos (by unfold firstErr; rw [if_neg HB.out]; exact HB.out)]; unfold firstErr; rw [if_neg HB.out]
          rw [he3] at HCB
          clear hne Hf he3
          go_enter Tryz.func4, Tryz.ntmps4
          go_upto_region 1 with fail
          rw [← hW0]
          clear hW0
          go_upto_region 3 with (go_at_call 15; (with_reducible refine Calls.mono (HSH.out _ (HG.out.to (by exact zbl))) ?_); rintro e wA ⟨rfl, hbA⟩; (have hq_wA : Below W0.heap.size W0 wA := by exact zbl); (have hc_wA := (bcell hq_wA).1); (have y0_wA : w.heap.size < wA.heap.size := Nat.lt_of_lt_of_le z0 hq_wA.size); (have y1_wA : w.heap.size + 1 < wA.heap.size := Nat.lt_of_lt_of_le z1 hq_wA.size); clear hq_wA)
          go_upto_region 4 with (first | (go_at_call 18; (with_reducible refine Calls.mono (grid_c a g _ hsm (HG.out.to (by exact zbl))) ?_); rintro e wB ⟨aB, rfl, hgB, hbB⟩; (have hq_wB : Below W0.heap.size W0 wB := by exact zbl); (have hc_wB := (bcell hq_wB).1); (have y0_wB : w.heap.size < wB.heap.size := Nat.lt_of_lt_of_le z0 hq_wB.size); (have y1_wB : w.heap.size + 1 < wB.heap.size := Nat.lt_of_lt_of_le z1 hq_wB.size); clear hq_wB) | (go_at_call 30; (with_reducible refine Calls.mono (ints_c A xs c _ (by omega) (HXS.out.to (by exact zbl)) hA) ?_); rintro e wC ⟨vC, rfl, hoC, hbC⟩; obtain ⟨AC, cC, rfl, _, hiC⟩ := hoC.ints; (have IC := Lib.hid hiC); clear hiC hoC; (have hq_wC : Below W0.heap.size W0 wC := by exact zbl); (have hc_wC := (bcell hq_wC).1); (have y0_wC : w.heap.size < wC.heap.size := Nat.lt_of_lt_of_le z0 hq_wC.size); (have y1_wC : w.heap.size + 1 < wC.heap.size := Nat.lt_of_lt_of_le z1 hq_wC.size); clear hq_wC) | (go_at_call 29; (with_reducible refine Calls.mono (HST.out _ aB AC cC (hgB.to (by exact zbl)) (HKD.out.to (by exact zbl)) (IC.out.to (by exact zbl))) ?_); rintro e wD ⟨rfl, hbD⟩; (have hq_wD : Below W0.heap.size W0 wD := by exact zbl); (have hc_wD := (bcell hq_wD).1); (have y0_wD : w.heap.size < wD.heap.size := Nat.lt_of_lt_of_le z0 hq_wD.size); (have y1_wD : w.heap.size + 1 < wD.heap.size := Nat.lt_of_lt_of_le z1 hq_wD.size); clear hq_wD))
          go_region_held3 (fun W => (W0).heap.size ≤ W.heap.size ∧ (∀ b o, b < (W0).heap.size → W.cell? ⟨b, o, none⟩ = (W0).cell? ⟨b, o, none⟩) ∧ (∀ b, b < (W0).heap.size → W.heap[b]? = (W0).heap[b]?)) ((refine Sh.goal ?_; repeat first | (with_reducible first | assumption | exact Sh.refl _ | refine Sh.drew ?_ | refine Sh.alloc ?_ _ | refine Sh.set ?_ _ ?_) | (with_reducible apply Sh.below'; (focus (with_reducible assumption))) | omega | (focus (simp; done)) | (focus (simp; omega)))) (first | (go_at_call 18; (with_reducible refine Calls.mono (grid_c a g _ hsm (HG.out.to (by exact zbl))) ?_); rintro e wE ⟨aE, rfl, hgE, hbE⟩; (have hq_wE : Below W0.heap.size W0 wE := by exact zbl); (have hc_wE := (bcell hq_wE).1); (have y0_wE : w.heap.size < wE.heap.size := Nat.lt_of_lt_of_le z0 hq_wE.size); (have y1_wE : w.heap.size + 1 < wE.heap.size := Nat.lt_of_lt_of_le z1 hq_wE.size); clear hq_wE) | (go_at_call 31; (with_reducible refine Calls.mono (HBA.out _ aE (hgE.to (by exact zbl)) (HKD.out.to (by exact zbl))) ?_); rintro e wF ⟨A2, c2, rfl, hi2, hbF⟩; (have I2 := Lib.hid hi2); clear hi2; (have hq_wF : Below W0.heap.size W0 wF := by exact zbl); (have hc_wF := (bcell hq_wF).1); (have y0_wF : w.heap.size < wF.heap.size := Nat.lt_of_lt_of_le z0 hq_wF.size); (have y1_wF : w.heap.size + 1 < wF.heap.size := Nat.lt_of_lt_of_le z1 hq_wF.size); clear hq_wF))
          go_upto_region 5 with fail
          go_region_held3 (fun W => (W0).heap.size ≤ W.heap.size ∧ (∀ b o, b < (W0).heap.size → W.cell? ⟨b, o, none⟩ = (W0).cell? ⟨b, o, none⟩) ∧ (∀ b, b < (W0).heap.size → W.heap[b]? = (W0).heap[b]?)) ((refine Sh.goal ?_; repeat first | (with_reducible first | assumption | exact Sh.refl _ | refine Sh.drew ?_ | refine Sh.alloc ?_ _ | refine Sh.set ?_ _ ?_) | (with_reducible apply Sh.below'; (focus (with_reducible assumption))) | omega | (focus (simp; done)) | (focus (simp; omega)))) (first | (go_at_call 18; (with_reducible refine Calls.mono (grid_c a g _ hsm (HG.out.to (by exact zbl))) ?_); rintro e wG ⟨aG, rfl, hgG, hbG⟩; (have hq_wG : Below W0.heap.size W0 wG := by exact zbl); (have hc_wG := (bcell hq_wG).1); (have y0_wG : w.heap.size < wG.heap.size := Nat.lt_of_lt_of_le z0 hq_wG.size); (have y1_wG : w.heap.size + 1 < wG.heap.size := Nat.lt_of_lt_of_le z1 hq_wG.size); clear hq_wG) | (go_at_call 30; (with_reducible refine Calls.mono (ints_c A xs c _ (by omega) (HXS.out.to (by exact zbl)) hA) ?_); rintro e wH ⟨vH, rfl, hoH, hbH⟩; obtain ⟨AH, cH, rfl, _, hiH⟩ := hoH.ints; (have IH := Lib.hid hiH); clear hiH hoH; (have hq_wH : Below W0.heap.size W0 wH := by exact zbl); (have hc_wH := (bcell hq_wH).1); (have y0_wH : w.heap.size < wH.heap.size := Nat.lt_of_lt_of_le z0 hq_wH.size); (have y1_wH : w.heap.size + 1 < wH.heap.size := Nat.lt_of_lt_of_le z1 hq_wH.size); clear hq_wH) | (go_at_call 32; (with_reducible refine Calls.mono (HCB.out _ aG AH cH (hgG.to (by exact zbl)) (HKD.out.to (by exact zbl)) (IH.out.to (by exact zbl))) ?_); rintro e wI ⟨rfl, hbI⟩; (have hq_wI : Below W0.heap.size W0 wI := by exact zbl); (have hc_wI := (bcell hq_wI).1); (have y0_wI : w.heap.size < wI.heap.size := Nat.lt_of_lt_of_le z0 hq_wI.size); (have y1_wI : w.heap.size + 1 < wI.heap.size := Nat.lt_of_lt_of_le z1 hq_wI.size); clear hq_wI))
          go_upto_region 7 with (go_at_call 21; (with_reducible refine Calls.mono (HGC.out _ (HG.out.to (by exact zbl))) ?_); rintro e wJ ⟨rfl, hbJ⟩; (have hq_wJ : Below W0.heap.size W0 wJ := by exact zbl); (have hc_wJ := (bcell hq_wJ).1); (have y0_wJ : w.heap.size < wJ.heap.size := Nat.lt_of_lt_of_le z0 hq_wJ.size); (have y1_wJ : w.heap.size + 1 < wJ.heap.size := Nat.lt_of_lt_of_le z1 hq_wJ.size); clear hq_wJ)
          go_wp2_with (first | (go_at_call 28; (with_reducible refine Calls.mono (number_t T1 E1 GB 0 _ HA1.out.1 (by rw [HA1.out.2, if_neg HB.out])) ?_); rintro e w9 ⟨rfl, rfl⟩) | (go_at_call 27; (with_reducible refine Calls.mono (listed_t A2 none X2.length 0 c2 0 E2 GB X2 [] _ rfl rfl (by omega) (I2.out.to (by exact zbl)) (IntsR.nil0 _ _) HA2.out HQ2.out) ?_); rintro e wU ⟨rfl, hb_wU⟩) | (go_at_call 16; (with_reducible refine Calls.mono (awake_c _ (HKD.out.to (by exact zbl)) (HPW.out.to (by exact zbl))) ?_); rintro e wK ⟨rfl, hbK⟩))
          go_ret
          exact ⟨rfl, HB0.out.trans ((show Below W0.heap.size W0 _ by exact zbl).mono HB0.out.size)⟩
        · have HZ := Lib.hid (show gridC g = 0 by rw [← HGB.out]; simpa using hb0)
          have hok := gridC_ok HZ.out
          have hu := gridC_uniq HZ.out
          have hns := hok.ns
          obtain ⟨S0, hS0⟩ : ∃ S, S = staC g n0 := ⟨_, rfl⟩
          obtain ⟨S1, hS1⟩ : ∃ S, S = staC g n1 := ⟨_, rfl⟩
          obtain ⟨TT, hTT⟩ : ∃ S, S = firstErr [S0, S1] := ⟨_, rfl⟩
          have HC0 := Lib.hid (show ∀ W, GridR W W.heap.size a g → Calls Tryz.prog 22 #[(.agg #[.int .i64 g.blur, .slice a.pS g.sta.length a.cs, .slice a.pM g.mov.length a.cm, .slice a.pZ g.zon.length a.cz]), .int .i64 n0] W fun e w' => e = .returned (.int .i64 S0) ∧ Below W.heap.size W w' from fun W h => by rw [hS0]; exact rStation_c a g n0 W hok h)
          have HC1 := Lib.hid (show ∀ W, GridR W W.heap.size a g → Calls Tryz.prog 22 #[(.agg #[.int .i64 g.blur, .slice a.pS g.sta.length a.cs, .slice a.pM g.mov.length a.cm, .slice a.pZ g.zon.length a.cz]), .int .i64 n1] W fun e w' => e = .returned (.int .i64 S1) ∧ Below W.heap.size W w' from fun W h => by rw [hS1]; exact rStation_c a g n1 W hok h)
          have HTF := Lib.hid (show ∀ W b, CellsAt W b 0 [S0, S1] → Calls Tryz.prog 23 #[.slice (some ⟨b, 0, none⟩) 2 2] W fun e w' => e = .returned (.int .i64 TT) ∧ W = w' from fun W b h => by rw [hTT]; exact lfirst_c b [S0, S1] W (by simp) h)
          have HRS := Lib.hid (show ∀ W, GridR W W.heap.size a g → IntsR W W.heap.size A xs → Calls Tryz.prog 33 #[(.agg #[.int .i64 g.blur, .slice a.pS g.sta.length a.cs, .slice a.pM g.mov.length a.cm, .slice a.pZ g.zon.length a.cz]), .slice A xs.length c] W fun e w' => e = .returned (.tuple #[.int .i64 T1, .int .i64 E1]) ∧ Below W.heap.size W w' from fun W h1 h2 => by
            rw [HT1.out, HE1.out, stepsR_eq HZ.out]; exact rSteps_c a g A xs c W hok h1 h2 (by omega))
          have HT1Z := Lib.hid (show T1 = if E1 = 0 then T1 else 0 by
            by_cases h : E1 = 0
            · rw [if_pos h]
            · rw [if_neg h]
              rw [HE1.out] at h
              rw [HT1.out]
              rw [stepsR_eq HZ.out] at h ⊢
              unfold rStp at h ⊢
              split
              · rfl
              · rename_i h1
                rw [if_neg h1] at h
                split
                · rfl
                · rename_i h2
                  rw [if_neg h2] at h
                  split
                  · rfl
                  · rename_i h3
                    rw [if_neg h3] at h
                    split
                    · rename_i h4
                      rw [if_pos h4] at h
                      cases hsw : sumW g (xs.headD 0) xs.tail with
                      | none => rfl
                      | some n => rw [hsw] at h; exact absurd rfl h
                    · rfl)
          have hf2 : fromC g [n0, n1] = TT := by unfold fromC; rw [if_neg (fun h => h HZ.out), hTT, hS0, hS1]; rfl
          have HF2 := Lib.hid hf2
          have HS0 := Lib.hid hS0
          have HS1 := Lib.hid hS1
          have HTT := Lib.hid hTT
          clear hf2 hS0 hS1 hTT
          cases hb2 : (TT == 0)
          · have hTN : TT ≠ 0 := by simpa using hb2
            have HTN := Lib.hid hTN
            have HA2 := Lib.hid (show E2 = TT by rw [HE2.out]; unfold barE; rw [HF2.out, if_pos HTN.out])
            have HQ2 := Lib.hid (show X2 = if TT = 0 then [] else [] by rw [HX2.out]; unfold barL; rw [← HE2.out, HA2.out, if_neg HTN.out, if_neg HTN.out])
            have he3 : E3 = TT := by rw [HE3.out]; unfold cbR barE0; rw [HF2.out, if_pos (by unfold firstErr; rw [if_neg HTN.out]; exact HTN.out)]; unfold firstErr; rw [if_neg HTN.out]
            rw [he3] at HCB
            clear hTN he3
            go_enter Tryz.func4, Tryz.ntmps4
            go_upto_region 1 with fail
            rw [← hW0]
            clear hW0
            go_upto_region 3 with (go_at_call 15; (with_reducible refine Calls.mono (HSH.out _ (HG.out.to (by exact zbl))) ?_); rintro e wA ⟨rfl, hbA⟩; (have hq_wA : Below W0.heap.size W0 wA := by exact zbl); (have hc_wA := (bcell hq_wA).1); (have y0_wA : w.heap.size < wA.heap.size := Nat.lt_of_lt_of_le z0 hq_wA.size); (have y1_wA : w.heap.size + 1 < wA.heap.size := Nat.lt_of_lt_of_le z1 hq_wA.size); clear hq_wA)
            go_upto_region 4 with (first | (go_at_call 18; (with_reducible refine Calls.mono (grid_c a g _ hsm (HG.out.to (by exact zbl))) ?_); rintro e wB ⟨aB, rfl, hgB, hbB⟩; (have hq_wB : Below W0.heap.size W0 wB := by exact zbl); (have hc_wB := (bcell hq_wB).1); (have y0_wB : w.heap.size < wB.heap.size := Nat.lt_of_lt_of_le z0 hq_wB.size); (have y1_wB : w.heap.size + 1 < wB.heap.size := Nat.lt_of_lt_of_le z1 hq_wB.size); clear hq_wB) | (go_at_call 30; (with_reducible refine Calls.mono (ints_c A xs c _ (by omega) (HXS.out.to (by exact zbl)) hA) ?_); rintro e wC ⟨vC, rfl, hoC, hbC⟩; obtain ⟨AC, cC, rfl, _, hiC⟩ := hoC.ints; (have IC := Lib.hid hiC); clear hiC hoC; (have hq_wC : Below W0.heap.size W0 wC := by exact zbl); (have hc_wC := (bcell hq_wC).1); (have y0_wC : w.heap.size < wC.heap.size := Nat.lt_of_lt_of_le z0 hq_wC.size); (have y1_wC : w.heap.size + 1 < wC.heap.size := Nat.lt_of_lt_of_le z1 hq_wC.size); clear hq_wC) | (go_at_call 29; (with_reducible refine Calls.mono (HST.out _ aB AC cC (hgB.to (by exact zbl)) (HKD.out.to (by exact zbl)) (IC.out.to (by exact zbl))) ?_); rintro e wD ⟨rfl, hbD⟩; (have hq_wD : Below W0.heap.size W0 wD := by exact zbl); (have hc_wD := (bcell hq_wD).1); (have y0_wD : w.heap.size < wD.heap.size := Nat.lt_of_lt_of_le z0 hq_wD.size); (have y1_wD : w.heap.size + 1 < wD.heap.size := Nat.lt_of_lt_of_le z1 hq_wD.size); clear hq_wD))
            go_region_held3 (fun W => (W0).heap.size ≤ W.heap.size ∧ (∀ b o, b < (W0).heap.size → W.cell? ⟨b, o, none⟩ = (W0).cell? ⟨b, o, none⟩) ∧ (∀ b, b < (W0).heap.size → W.heap[b]? = (W0).heap[b]?)) ((refine Sh.goal ?_; repeat first | (with_reducible first | assumption | exact Sh.refl _ | refine Sh.drew ?_ | refine Sh.alloc ?_ _ | refine Sh.set ?_ _ ?_) | (with_reducible apply Sh.below'; (focus (with_reducible assumption))) | omega | (focus (simp; done)) | (focus (simp; omega)))) (first | (go_at_call 18; (with_reducible refine Calls.mono (grid_c a g _ hsm (HG.out.to (by exact zbl))) ?_); rintro e wE ⟨aE, rfl, hgE, hbE⟩; (have hq_wE : Below W0.heap.size W0 wE := by exact zbl); (have hc_wE := (bcell hq_wE).1); (have y0_wE : w.heap.size < wE.heap.size := Nat.lt_of_lt_of_le z0 hq_wE.size); (have y1_wE : w.heap.size + 1 < wE.heap.size := Nat.lt_of_lt_of_le z1 hq_wE.size); clear hq_wE) | (go_at_call 31; (with_reducible refine Calls.mono (HBA.out _ aE (hgE.to (by exact zbl)) (HKD.out.to (by exact zbl))) ?_); rintro e wF ⟨A2, c2, rfl, hi2, hbF⟩; (have I2 := Lib.hid hi2); clear hi2; (have hq_wF : Below W0.heap.size W0 wF := by exact zbl); (have hc_wF := (bcell hq_wF).1); (have y0_wF : w.heap.size < wF.heap.size := Nat.lt_of_lt_of_le z0 hq_wF.size); (have y1_wF : w.heap.size + 1 < wF.heap.size := Nat.lt_of_lt_of_le z1 hq_wF.size); clear hq_wF))
            go_upto_region 5 with fail
            go_region_held3 (fun W => (W0).heap.size ≤ W.heap.size ∧ (∀ b o, b < (W0).heap.size → W.cell? ⟨b, o, none⟩ = (W0).cell? ⟨b, o, none⟩) ∧ (∀ b, b < (W0).heap.size → W.heap[b]? = (W0).heap[b]?)) ((refine Sh.goal ?_; repeat first | (with_reducible first | assumption | exact Sh.refl _ | refine Sh.drew ?_ | refine Sh.alloc ?_ _ | refine Sh.set ?_ _ ?_) | (with_reducible apply Sh.below'; (focus (with_reducible assumption))) | omega | (focus (simp; done)) | (focus (simp; omega)))) (first | (go_at_call 18; (with_reducible refine Calls.mono (grid_c a g _ hsm (HG.out.to (by exact zbl))) ?_); rintro e wG ⟨aG, rfl, hgG, hbG⟩; (have hq_wG : Below W0.heap.size W0 wG := by exact zbl); (have hc_wG := (bcell hq_wG).1); (have y0_wG : w.heap.size < wG.heap.size := Nat.lt_of_lt_of_le z0 hq_wG.size); (have y1_wG : w.heap.size + 1 < wG.heap.size := Nat.lt_of_lt_of_le z1 hq_wG.size); clear hq_wG) | (go_at_call 30; (with_reducible refine Calls.mono (ints_c A xs c _ (by omega) (HXS.out.to (by exact zbl)) hA) ?_); rintro e wH ⟨vH, rfl, hoH, hbH⟩; obtain ⟨AH, cH, rfl, _, hiH⟩ := hoH.ints; (have IH := Lib.hid hiH); clear hiH hoH; (have hq_wH : Below W0.heap.size W0 wH := by exact zbl); (have hc_wH := (bcell hq_wH).1); (have y0_wH : w.heap.size < wH.heap.size := Nat.lt_of_lt_of_le z0 hq_wH.size); (have y1_wH : w.heap.size + 1 < wH.heap.size := Nat.lt_of_lt_of_le z1 hq_wH.size); clear hq_wH) | (go_at_call 32; (with_reducible refine Calls.mono (HCB.out _ aG AH cH (hgG.to (by exact zbl)) (HKD.out.to (by exact zbl)) (IH.out.to (by exact zbl))) ?_); rintro e wI ⟨rfl, hbI⟩; (have hq_wI : Below W0.heap.size W0 wI := by exact zbl); (have hc_wI := (bcell hq_wI).1); (have y0_wI : w.heap.size < wI.heap.size := Nat.lt_of_lt_of_le z0 hq_wI.size); (have y1_wI : w.heap.size + 1 < wI.heap.size := Nat.lt_of_lt_of_le z1 hq_wI.size); clear hq_wI))
            go_upto_region 7 with (go_at_call 21; (with_reducible refine Calls.mono (HGC.out _ (HG.out.to (by exact zbl))) ?_); rintro e wJ ⟨rfl, hbJ⟩; (have hq_wJ : Below W0.heap.size W0 wJ := by exact zbl); (have hc_wJ := (bcell hq_wJ).1); (have y0_wJ : w.heap.size < wJ.heap.size := Nat.lt_of_lt_of_le z0 hq_wJ.size); (have y1_wJ : w.heap.size + 1 < wJ.heap.size := Nat.lt_of_lt_of_le z1 hq_wJ.size); clear hq_wJ)
            go_upto_region 11 with (go_at_call 33; (with_reducible refine Calls.mono (HRS.out _ (HG.out.to (by exact zbl)) (HXS.out.to (by exact zbl))) ?_); rintro e wM ⟨rfl, hbM⟩; (have hq_wM : Below W0.heap.size W0 wM := by exact zbl); (have hc_wM := (bcell hq_wM).1); (have y0_wM : w.heap.size < wM.heap.size := Nat.lt_of_lt_of_le z0 hq_wM.size); (have y1_wM : w.heap.size + 1 < wM.heap.size := Nat.lt_of_lt_of_le z1 hq_wM.size); clear hq_wM)
            go_region_held3 (fun W => (W0).heap.size ≤ W.heap.size ∧ (∀ b o, b < (W0).heap.size → W.cell? ⟨b, o, none⟩ = (W0).cell? ⟨b, o, none⟩) ∧ (∀ b, b < (W0).heap.size → W.heap[b]? = (W0).heap[b]?)) ((refine Sh.goal ?_; repeat first | (with_reducible first | assumption | exact Sh.refl _ | refine Sh.drew ?_ | refine Sh.alloc ?_ _ | refine Sh.set ?_ _ ?_) | (with_reducible apply Sh.below'; (focus (with_reducible assumption))) | omega | (focus (simp; done)) | (focus (simp; omega)))) (first | (go_at_call 22; (with_reducible refine Calls.mono (HC0.out _ (HG.out.to (by exact zbl))) ?_); rintro e wN ⟨rfl, hbN⟩; (have hq_wN : Below W0.heap.size W0 wN := by exact zbl); (have hc_wN := (bcell hq_wN).1); (have y0_wN : w.heap.size < wN.heap.size := Nat.lt_of_lt_of_le z0 hq_wN.size); (have y1_wN : w.heap.size + 1 < wN.heap.size := Nat.lt_of_lt_of_le z1 hq_wN.size); clear hq_wN) | (go_at_call 22; (with_reducible refine Calls.mono (HC1.out _ (HG.out.to (by exact zbl))) ?_); rintro e wO ⟨rfl, hbO⟩; (have hq_wO : Below W0.heap.size W0 wO := by exact zbl); (have hc_wO := (bcell hq_wO).1); (have y0_wO : w.heap.size < wO.heap.size := Nat.lt_of_lt_of_le z0 hq_wO.size); (have y1_wO : w.heap.size + 1 < wO.heap.size := Nat.lt_of_lt_of_le z1 hq_wO.size); clear hq_wO) | (go_at_call 23; (with_reducible refine Calls.mono (HTF.out _ _ (by simp [CellsAt])) ?_); rintro e wQ ⟨rfl, rfl⟩))
            trace "S"
            all_goals
              go_wp2_with (first | (go_at_call 28; (with_reducible refine Calls.mono (number_t T1 E1 E1 T1 _ rfl HT1Z.out) ?_); rintro e w9 ⟨rfl, rfl⟩) | (go_at_call 27; (with_reducible refine Calls.mono (listed_t A2 none X2.length 0 c2 0 E2 TT X2 [] _ rfl rfl (by omega) (I2.out.to (by exact zbl)) (IntsR.nil0 _ _) HA2.out HQ2.out) ?_); rintro e wU ⟨rfl, hb_wU⟩) | (go_at_call 16; (with_reducible refine Calls.mono (awake_c _ (HKD.out.to (by exact zbl)) (HPW.out.to (by exact zbl))) ?_); rintro e wK ⟨rfl, hbK⟩))
              go_ret
              exact ⟨rfl, HB0.out.trans ((show Below W0.heap.size W0 _ by exact zbl).mono HB0.out.size)⟩
          · have hTZ : TT = 0 := by simpa using hb2
            have HTZ := Lib.hid hTZ
            have hF0 : fromC g [n0, n1] = 0 := HF2.out.trans HTZ.out
            have hst := staC_zero ((fromC_zero hF0).2 n0 (by simp))
            have hrl := reachG_len g n0
            have he3 := HE3.out.trans (cbR_eq hF0 (l := xs))
            have hCB2 := fun W (h1 : GridR W W.heap.size a g) (h2 : IntsR W W.heap.size A xs) => rBarrier_c a g n0 n1 A xs c W hok h1 h2 (by omega)
            rw [← he3] at hCB2
            have HCB2 := Lib.hid hCB2
            obtain ⟨pb, hpb⟩ : ∃ p, p = (reachG g n0).any (n1 == ·) := ⟨_, rfl⟩
            have he2 : E2 = whn pb 21 := by
              rw [HE2.out]; unfold barE; rw [if_neg (fun h => h hF0), ← hpb]
              cases pb <;> rfl
            have HWN := Lib.hid (show ∀ W, Calls Tryz.prog 34 #[.bool pb, .int .i64 21] W fun e w' => e = .returned (.int .i64 E2) ∧ W = w' from fun W => by rw [he2]; exact rWhen_c pb 21 W)
            have HHI := Lib.hid (show ∀ W A' c', IntsR W W.heap.size A' (reachG g n0) → Calls Tryz.prog 35 #[.slice A' (reachG g n0).length c', .int .i64 n1] W fun e w' => e = .returned (.bool pb) ∧ W = w' from fun W A' c' h => by rw [hpb]; exact hasInt_r n1 A' _ c' W _ (by omega) h)
            have HQ2 := Lib.hid (show X2 = if E2 = 0 then reachG g n0 else [] by rw [HX2.out]; unfold barL; rw [← HE2.out])
            clear hTZ hF0 he3 hCB2 hpb he2
            go_enter Tryz.func4, Tryz.ntmps4
            go_upto_region 1 with fail
            rw [← hW0]
            clear hW0
            go_upto_region 3 with (go_at_call 15; (with_reducible refine Calls.mono (HSH.out _ (HG.out.to (by exact zbl))) ?_); rintro e wA ⟨rfl, hbA⟩; (have hq_wA : Below W0.heap.size W0 wA := by exact zbl); (have hc_wA := (bcell hq_wA).1); (have y0_wA : w.heap.size < wA.heap.size := Nat.lt_of_lt_of_le z0 hq_wA.size); (have y1_wA : w.heap.size + 1 < wA.heap.size := Nat.lt_of_lt_of_le z1 hq_wA.size); clear hq_wA)
            go_upto_region 4 with (first | (go_at_call 18; (with_reducible refine Calls.mono (grid_c a g _ hsm (HG.out.to (by exact zbl))) ?_); rintro e wB ⟨aB, rfl, hgB, hbB⟩; (have hq_wB : Below W0.heap.size W0 wB := by exact zbl); (have hc_wB := (bcell hq_wB).1); (have y0_wB : w.heap.size < wB.heap.size := Nat.lt_of_lt_of_le z0 hq_wB.size); (have y1_wB : w.heap.size + 1 < wB.heap.size := Nat.lt_of_lt_of_le z1 hq_wB.size); clear hq_wB) | (go_at_call 30; (with_reducible refine Calls.mono (ints_c A xs c _ (by omega) (HXS.out.to (by exact zbl)) hA) ?_); rintro e wC ⟨vC, rfl, hoC, hbC⟩; obtain ⟨AC, cC, rfl, _, hiC⟩ := hoC.ints; (have IC := Lib.hid hiC); clear hiC hoC; (have hq_wC : Below W0.heap.size W0 wC := by exact zbl); (have hc_wC := (bcell hq_wC).1); (have y0_wC : w.heap.size < wC.heap.size := Nat.lt_of_lt_of_le z0 hq_wC.size); (have y1_wC : w.heap.size + 1 < wC.heap.size := Nat.lt_of_lt_of_le z1 hq_wC.size); clear hq_wC) | (go_at_call 29; (with_reducible refine Calls.mono (HST.out _ aB AC cC (hgB.to (by exact zbl)) (HKD.out.to (by exact zbl)) (IC.out.to (by exact zbl))) ?_); rintro e wD ⟨rfl, hbD⟩; (have hq_wD : Below W0.heap.size W0 wD := by exact zbl); (have hc_wD := (bcell hq_wD).1); (have y0_wD : w.heap.size < wD.heap.size := Nat.lt_of_lt_of_le z0 hq_wD.size); (have y1_wD : w.heap.size + 1 < wD.heap.size := Nat.lt_of_lt_of_le z1 hq_wD.size); clear hq_wD))
            go_region_held3 (fun W => (W0).heap.size ≤ W.heap.size ∧ (∀ b o, b < (W0).heap.size → W.cell? ⟨b, o, none⟩ = (W0).cell? ⟨b, o, none⟩) ∧ (∀ b, b < (W0).heap.size → W.heap[b]? = (W0).heap[b]?)) ((refine Sh.goal ?_; repeat first | (with_reducible first | assumption | exact Sh.refl _ | refine Sh.drew ?_ | refine Sh.alloc ?_ _ | refine Sh.set ?_ _ ?_) | (with_reducible apply Sh.below'; (focus (with_reducible assumption))) | omega | (focus (simp; done)) | (focus (simp; omega)))) (first | (go_at_call 18; (with_reducible refine Calls.mono (grid_c a g _ hsm (HG.out.to (by exact zbl))) ?_); rintro e wE ⟨aE, rfl, hgE, hbE⟩; (have hq_wE : Below W0.heap.size W0 wE := by exact zbl); (have hc_wE := (bcell hq_wE).1); (have y0_wE : w.heap.size < wE.heap.size := Nat.lt_of_lt_of_le z0 hq_wE.size); (have y1_wE : w.heap.size + 1 < wE.heap.size := Nat.lt_of_lt_of_le z1 hq_wE.size); clear hq_wE) | (go_at_call 31; (with_reducible refine Calls.mono (HBA.out _ aE (hgE.to (by exact zbl)) (HKD.out.to (by exact zbl))) ?_); rintro e wF ⟨A2, c2, rfl, hi2, hbF⟩; (have I2 := Lib.hid hi2); clear hi2; (have hq_wF : Below W0.heap.size W0 wF := by exact zbl); (have hc_wF := (bcell hq_wF).1); (have y0_wF : w.heap.size < wF.heap.size := Nat.lt_of_lt_of_le z0 hq_wF.size); (have y1_wF : w.heap.size + 1 < wF.heap.size := Nat.lt_of_lt_of_le z1 hq_wF.size); clear hq_wF))
            go_upto_region 5 with fail
            go_region_held3 (fun W => (W0).heap.size ≤ W.heap.size ∧ (∀ b o, b < (W0).heap.size → W.cell? ⟨b, o, none⟩ = (W0).cell? ⟨b, o, none⟩) ∧ (∀ b, b < (W0).heap.size → W.heap[b]? = (W0).heap[b]?)) ((refine Sh.goal ?_; repeat first | (with_reducible first | assumption | exact Sh.refl _ | refine Sh.drew ?_ | refine Sh.alloc ?_ _ | refine Sh.set ?_ _ ?_) | (with_reducible apply Sh.below'; (focus (with_reducible assumption))) | omega | (focus (simp; done)) | (focus (simp; omega)))) (first | (go_at_call 18; (with_reducible refine Calls.mono (grid_c a g _ hsm (HG.out.to (by exact zbl))) ?_); rintro e wG ⟨aG, rfl, hgG, hbG⟩; (have hq_wG : Below W0.heap.size W0 wG := by exact zbl); (have hc_wG := (bcell hq_wG).1); (have y0_wG : w.heap.size < wG.heap.size := Nat.lt_of_lt_of_le z0 hq_wG.size); (have y1_wG : w.heap.size + 1 < wG.heap.size := Nat.lt_of_lt_of_le z1 hq_wG.size); clear hq_wG) | (go_at_call 30; (with_reducible refine Calls.mono (ints_c A xs c _ (by omega) (HXS.out.to (by exact zbl)) hA) ?_); rintro e wH ⟨vH, rfl, hoH, hbH⟩; obtain ⟨AH, cH, rfl, _, hiH⟩ := hoH.ints; (have IH := Lib.hid hiH); clear hiH hoH; (have hq_wH : Below W0.heap.size W0 wH := by exact zbl); (have hc_wH := (bcell hq_wH).1); (have y0_wH : w.heap.size < wH.heap.size := Nat.lt_of_lt_of_le z0 hq_wH.size); (have y1_wH : w.heap.size + 1 < wH.heap.size := Nat.lt_of_lt_of_le z1 hq_wH.size); clear hq_wH) | (go_at_call 32; (with_reducible refine Calls.mono (HCB.out _ aG AH cH (hgG.to (by exact zbl)) (HKD.out.to (by exact zbl)) (IH.out.to (by exact zbl))) ?_); rintro e wI ⟨rfl, hbI⟩; (have hq_wI : Below W0.heap.size W0 wI := by exact zbl); (have hc_wI := (bcell hq_wI).1); (have y0_wI : w.heap.size < wI.heap.size := Nat.lt_of_lt_of_le z0 hq_wI.size); (have y1_wI : w.heap.size + 1 < wI.heap.size := Nat.lt_of_lt_of_le z1 hq_wI.size); clear hq_wI))
            go_upto_region 7 with (go_at_call 21; (with_reducible refine Calls.mono (HGC.out _ (HG.out.to (by exact zbl))) ?_); rintro e wJ ⟨rfl, hbJ⟩; (have hq_wJ : Below W0.heap.size W0 wJ := by exact zbl); (have hc_wJ := (bcell hq_wJ).1); (have y0_wJ : w.heap.size < wJ.heap.size := Nat.lt_of_lt_of_le z0 hq_wJ.size); (have y1_wJ : w.heap.size + 1 < wJ.heap.size := Nat.lt_of_lt_of_le z1 hq_wJ.size); clear hq_wJ)
            go_upto_region 11 with (go_at_call 33; (with_reducible refine Calls.mono (HRS.out _ (HG.out.to (by exact zbl)) (HXS.out.to (by exact zbl))) ?_); rintro e wM ⟨rfl, hbM⟩; (have hq_wM : Below W0.heap.size W0 wM := by exact zbl); (have hc_wM := (bcell hq_wM).1); (have y0_wM : w.heap.size < wM.heap.size := Nat.lt_of_lt_of_le z0 hq_wM.size); (have y1_wM : w.heap.size + 1 < wM.heap.size := Nat.lt_of_lt_of_le z1 hq_wM.size); clear hq_wM)
            go_region_held3 (fun W => (W0).heap.size ≤ W.heap.size ∧ (∀ b o, b < (W0).heap.size → W.cell? ⟨b, o, none⟩ = (W0).cell? ⟨b, o, none⟩) ∧ (∀ b, b < (W0).heap.size → W.heap[b]? = (W0).heap[b]?)) ((refine Sh.goal ?_; repeat first | (with_reducible first | assumption | exact Sh.refl _ | refine Sh.drew ?_ | refine Sh.alloc ?_ _ | refine Sh.set ?_ _ ?_) | (with_reducible apply Sh.below'; (focus (with_reducible assumption))) | omega | (focus (simp; done)) | (focus (simp; omega)))) (first | (go_at_call 22; (with_reducible refine Calls.mono (HC0.out _ (HG.out.to (by exact zbl))) ?_); rintro e wN ⟨rfl, hbN⟩; (have hq_wN : Below W0.heap.size W0 wN := by exact zbl); (have hc_wN := (bcell hq_wN).1); (have y0_wN : w.heap.size < wN.heap.size := Nat.lt_of_lt_of_le z0 hq_wN.size); (have y1_wN : w.heap.size + 1 < wN.heap.size := Nat.lt_of_lt_of_le z1 hq_wN.size); clear hq_wN) | (go_at_call 22; (with_reducible refine Calls.mono (HC1.out _ (HG.out.to (by exact zbl))) ?_); rintro e wO ⟨rfl, hbO⟩; (have hq_wO : Below W0.heap.size W0 wO := by exact zbl); (have hc_wO := (bcell hq_wO).1); (have y0_wO : w.heap.size < wO.heap.size := Nat.lt_of_lt_of_le z0 hq_wO.size); (have y1_wO : w.heap.size + 1 < wO.heap.size := Nat.lt_of_lt_of_le z1 hq_wO.size); clear hq_wO) | (go_at_call 23; (with_reducible refine Calls.mono (HTF.out _ _ (by simp [CellsAt])) ?_); rintro e wQ ⟨rfl, rfl⟩))
            all_goals
              go_wp2_with (first | (go_at_call 25; (with_reducible refine Calls.mono (rReached_c a g n0 _ hok hu hst.1 (HG.out.to (by exact zbl))) ?_); rintro e wR ⟨v5, rfl, ho5, hbR⟩; obtain ⟨J1, j1, rfl, _, hj1⟩ := ho5.ints; (have I5 := Lib.hid hj1); clear hj1 ho5; (have hq_wR : Below W0.heap.size W0 wR := by exact zbl); (have hc_wR := (bcell hq_wR).1); (have y0_wR : w.heap.size < wR.heap.size := Nat.lt_of_lt_of_le z0 hq_wR.size); (have y1_wR : w.heap.size + 1 < wR.heap.size := Nat.lt_of_lt_of_le z1 hq_wR.size); clear hq_wR) | (go_at_call 35; (with_reducible refine Calls.mono (HHI.out _ J1 j1 (I5.out.to (by exact zbl))) ?_); rintro e wS ⟨rfl, rfl⟩) | (go_at_call 34; (with_reducible refine Calls.mono (HWN.out _) ?_); rintro e wT ⟨rfl, rfl⟩) | (go_at_call 36; (with_reducible refine Calls.mono (HCB2.out _ (HG.out.to (by exact zbl)) (HXS.out.to (by exact zbl))) ?_); rintro e wV ⟨rfl, hbV⟩; (have hq_wV : Below W0.heap.size W0 wV := by exact zbl); (have hc_wV := (bcell hq_wV).1); (have y0_wV : w.heap.size < wV.heap.size := Nat.lt_of_lt_of_le z0 hq_wV.size); (have y1_wV : w.heap.size + 1 < wV.heap.size := Nat.lt_of_lt_of_le z1 hq_wV.size); clear hq_wV) | (go_at_call 28; (with_reducible refine Calls.mono (number_t T1 E1 E1 T1 _ rfl HT1Z.out) ?_); rintro e w9 ⟨rfl, rfl⟩) | (go_at_call 27; (with_reducible refine Calls.mono (listed_t A2 J1 X2.length (reachG g n0).length c2 j1 E2 E2 X2 (reachG g n0) _ rfl rfl (by omega) (I2.out.to (by exact zbl)) (I5.out.to (by exact zbl)) rfl HQ2.out) ?_); rintro e wU ⟨rfl, hb_wU⟩) | (go_at_call 16; (with_reducible refine Calls.mono (awake_c _ (HKD.out.to (by exact zbl)) (HPW.out.to (by exact zbl))) ?_); rintro e wK ⟨rfl, hbK⟩))
              go_ret
              exact ⟨rfl, HB0.out.trans ((show Below W0.heap.size W0 _ by exact zbl).mono HB0.out.size)⟩
    · have hq1 : decide ((20 : Int) < (xs.length : Int)) = true := (Bool.and_eq_true _ _ ▸ hq0).1
      have hq2 : ((xs.length : Int) != 41) = true := (Bool.and_eq_true _ _ ▸ hq0).2
      clear hq0
      go_enter Tryz.func4, Tryz.ntmps4
      go_upto_region 1 with fail
      rw [← hW0]
      clear hW0
      go_wp2_with (first | (go_at_call 15; (with_reducible refine Calls.mono (HSH.out _ (HG.out.to (by exact zbl))) ?_); rintro e wA ⟨rfl, hbA⟩; (have hq_wA : Below W0.heap.size W0 wA := by exact zbl); (have hc_wA := (bcell hq_wA).1); (have y0_wA : w.heap.size < wA.heap.size := Nat.lt_of_lt_of_le z0 hq_wA.size); (have y1_wA : w.heap.size + 1 < wA.heap.size := Nat.lt_of_lt_of_le z1 hq_wA.size); clear hq_wA) | (go_at_call 16; (with_reducible refine Calls.mono (awake_c _ (HKD.out.to (by exact zbl)) (HPW.out.to (by exact zbl))) ?_); rintro e wK ⟨rfl, hbK⟩))
      go_ret
      exact ⟨rfl, HB0.out.trans ((show Below W0.heap.size W0 _ by exact zbl).mono HB0.out.size)⟩
end Go.Proofs.YtehnikhicnnnhaaGreatDoor

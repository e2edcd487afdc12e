/- BeamLeast answers true where there is a way. | BeamLeast answers true where there is no way. | BeamLeast answers true. -/
import Derived.Test.YtehnikhicnnnhaaGreatDoorPa44
import Derived.Test.YtehnikhicnnnhaaGreatDoorPa39
import Derived.Test.YtehnikhicnnnhaaGreatDoorPa32
import Derived.Test.YtehnikhicnnnhaaGreatDoorPa30
import Derived.Test.YtehnikhicnnnhaaGreatDoorPa01
namespace Go.Proofs.YtehnikhicnnnhaaGreatDoor
open Go.RowKit

set_option maxRecDepth 100000 in
set_option maxHeartbeats 16000000 in
theorem BeamLeastT_c (a : GA) (g : Grd) (n0 n1 : Int) (w : World) (h8 : 0 ≤ n0 ∧ n0 ≤ 255) (h9 : 0 ≤ n1 ∧ n1 ≤ 255) (hr : GridR w w.heap.size a g) (hk : KindsAt w) (hp : PowAt w) (hfw : fewG g = true) (he0 : ((g.sta.length : Int) == 0) = false) (hs0 : isSafeG g (Int.tmod n0 g.sta.length) = true) (hs1 : isSafeG g (Int.tmod n1 g.sta.length) = true) (hpb : (wayG g (Int.tmod n0 g.sta.length) (Int.tmod n1 g.sta.length)).isSome = true):
    Calls Tryz.prog 7 #[(.agg #[.int .i64 g.blur, .slice a.pS g.sta.length a.cs, .slice a.pM g.mov.length a.cm, .slice a.pZ g.zon.length a.cz]), .agg #[.int .u8 n0, .int .u8 n1]] w fun e w' => e = .returned (.bool true) ∧ Below w.heap.size w w' := by
  obtain ⟨W0, hW0⟩ : ∃ W0, W0 = (w.alloc (.cells #[.int .i64 g.blur, .slice a.pS g.sta.length a.cs, .slice a.pM g.mov.length a.cm, .slice a.pZ g.zon.length a.cz] 26)).alloc (.cells #[.int .u8 n0, .int .u8 n1] 100) := ⟨_, rfl⟩
  have hsz : W0.heap.size = w.heap.size + 2 := by rw [hW0]; simp
  have k0 : W0.heap[w.heap.size]? = some (.cells #[.int .i64 g.blur, .slice a.pS g.sta.length a.cs, .slice a.pM g.mov.length a.cm, .slice a.pZ g.zon.length a.cz] 26 (0, 0)) := by rw [hW0]; exact (Below.heap_alloc _ _ _ (by simp)).trans (heap_alloc_new w _)
  have k1 : W0.heap[w.heap.size + 1]? = some (.cells #[.int .u8 n0, .int .u8 n1] 100 (0, 0)) := by rw [hW0]; exact heap_two w _ _
  have hB0 : Below w.heap.size w W0 := by rw [hW0]; (repeat first | (with_reducible first | assumption | exact Below.refl _ _ | refine Bl.drew ?_ | refine Bl.drewN ?_ _ | refine Bl.alloc ?_ _ | refine Bl.set ?_ _ ?_) | (with_reducible apply Bl.step'; (focus (with_reducible assumption))) | omega | (focus (simp; done)) | (focus (simp; omega)))
  have HG : Hid (GridR W0 W0.heap.size a g) := Lib.hid (hr.to hB0)
  have HKD : Hid (KindsAt W0) := Lib.hid (hk.to hB0)
  have HPW : Hid (PowAt W0) := Lib.hid (hp.to hB0)
  have HB0 := Lib.hid hB0
  have z0 := bk_lt k0
  have z1 := bk_lt k1
  clear hr hk hp hB0
  (obtain ⟨d0, d1, d2, d3⟩ := cg4 k0)
  (obtain ⟨m0, mf0, m1, mf1⟩ := cv2 k1)
  clear k0 k1 mf0 mf1
  have hFW := fun W (h : GridR W W.heap.size a g) => few_c a g W h
  have hfw2 := hfw
  unfold fewG at hfw2
  simp only [Bool.and_eq_true] at hfw2
  obtain ⟨hsh, h10, h11, h12, hgc⟩ := hfw2
  have hsm := short_small hsh
  have HZ := Lib.hid (show gridC g = 0 by simpa using hgc)
  have hns : g.sta.length ≤ 8 := by have := of_decide_eq_true h10; omega
  have HOK := Lib.hid (gridC_ok HZ.out)
  rw [hfw] at hFW
  have HFW := Lib.hid hFW
  clear hFW hfw hsh h10 h11 h12 hgc
  have hn0 : ¬ (g.sta.length : Int) = 0 := by simpa using he0
  have hnp : (0 : Int) < (g.sta.length : Int) := by omega
  have hn2 : ¬ g.sta.length = 0 := by omega
  have hn3 : ¬ g.sta = [] := by intro h; rw [h] at hn2; exact hn2 rfl
  obtain ⟨f, hf⟩ : ∃ f, f = Int.tmod n0 g.sta.length := ⟨_, rfl⟩
  obtain ⟨t, ht⟩ : ∃ t, t = Int.tmod n1 g.sta.length := ⟨_, rfl⟩
  have hfr : 0 ≤ f ∧ f < g.sta.length := by rw [hf]; exact ⟨Int.tmod_nonneg _ h8.1, Int.tmod_lt_of_pos _ hnp⟩
  have htr : 0 ≤ t ∧ t < g.sta.length := by rw [ht]; exact ⟨Int.tmod_nonneg _ h9.1, Int.tmod_lt_of_pos _ hnp⟩
  have e0 : IntKind.i64.wrap n0 = n0 := IntWalk.i64_in _ (by omega)
  have e1 : IntKind.i64.wrap n1 = n1 := IntWalk.i64_in _ (by omega)
  have hf1 : IntKind.i64.wrap (Int.tmod n0 g.sta.length) = f := by rw [← hf]; exact IntWalk.i64_in _ (by omega)
  have ht1 : IntKind.i64.wrap (Int.tmod n1 g.sta.length) = t := by rw [← ht]; exact IntWalk.i64_in _ (by omega)
  have hSF := (fun W (h : GridR W W.heap.size a g) => rSafeG_c a g f W HOK.out h hfr)
  have hST := (fun W (h : GridR W W.heap.size a g) => rSafeG_c a g t W HOK.out h htr)
  rw [← hf] at hs0
  rw [← ht] at hs1
  rw [← hf, ← ht] at hpb
  have HSA := Lib.hid (SafeAt.mk hfr hs0)
  rw [hs0] at hSF
  have HSF := Lib.hid hSF
  have HSB := Lib.hid (SafeAt.mk htr hs1)
  rw [hs1] at hST
  have HST := Lib.hid hST
  clear hSF hs0 hST hs1
  have HU := Lib.hid (gridC_uniq HZ.out)
  obtain ⟨X3, hX3⟩ : ∃ X, X = reachG g f := ⟨_, rfl⟩
  have HX3 := Lib.hid hX3
  have hn3 : X3.length ≤ g.sta.length := by rw [hX3]; exact reachG_len g f
  have hn3' : X3.length ≤ 1000 := by omega
  have hgt : decide ((g.sta.length : Int) < (X3.length : Int)) = false := decide_eq_false (by omega)
  have hgt2 : decide (g.sta.length < X3.length) = false := decide_eq_false (by omega)
  have HNE := Lib.hid (show X3 ≠ [] from by
    have : f ∈ X3 := by rw [hX3]; exact (mem_reach HOK.out HU.out HSA.out).2 ⟨_, Wk.nil⟩
    intro h
    rw [h] at this
    cases this)
  have HFM := Lib.hid (show f ∈ X3 by rw [hX3]; exact (mem_reach HOK.out HU.out HSA.out).2 ⟨_, Wk.nil⟩)
  have HAT := Lib.hid (show ∀ x ∈ X3, SafeAt g x from fun x hx => reach_at HOK.out HU.out HSA.out (by rw [← HX3.out]; exact hx))
  have HRE := Lib.hid (show ∀ W a' x, x ∈ X3 → GridR W W.heap.size a' g → KindsAt W → Calls Tryz.prog 17 #[(.agg #[.int .i64 g.blur, .slice a'.pS g.sta.length a'.cs, .slice a'.pM g.mov.length a'.cm, .slice a'.pZ g.zon.length a'.cz]), .int .i64 x] W fun e w' => ∃ A c, e = .returned (.tuple #[.slice A X3.length c, .int .i64 0]) ∧ IntsR w' w'.heap.size A X3 ∧ Below W.heap.size W w' from fun W a' x hx h1 h2 => by
    have h3 := lRea_c a' g x W HZ.out hsm (HAT.out x hx) h1 h2
    rw [reach_eq HOK.out HU.out HSA.out (by rw [← HX3.out]; exact hx), ← HX3.out] at h3
    exact h3)
  have HSI := Lib.hid (show ∀ W A A' c c', IntsR W W.heap.size A X3 → IntsR W W.heap.size A' X3 → Calls Tryz.prog 56 #[.slice A X3.length c, .slice A' X3.length c'] W fun e w' => e = .returned (.bool true) ∧ Below W.heap.size W w' from fun W A A' c c' h1 h2 => by
    have h3 := sameInts_c A A' c c' X3 X3 W (by omega) h1 h2
    rw [show decide (X3 = X3) = true by simp] at h3
    exact h3)
  clear hX3
  obtain ⟨R, hR⟩ := Option.isSome_iff_exists.1 hpb
  have hws := way_steps HZ.out HSA.out hR
  obtain ⟨xs, hxs⟩ : ∃ l, l = R.st := ⟨_, rfl⟩
  obtain ⟨n, hn⟩ : ∃ k, k = R.n := ⟨_, rfl⟩
  obtain ⟨m, hm⟩ : ∃ m, xs.length = m + 1 := ⟨xs.length - 1, by rw [hxs]; have := hws.2.1; omega⟩
  have hmr : m ≤ 15 := by rw [hxs] at hm; have := hws.2.2.1; omega
  have hnr : 0 ≤ n ∧ n ≤ 320 := by rw [hn]; exact hws.2.2.2.2.2
  have HFI := Lib.hid (show xs[0]? = some f by rw [hxs]; exact hws.2.2.2.1)
  have HLA := Lib.hid (show xs[m]? = some t by have h := hws.2.2.2.2.1; rw [← hxs, hm] at h; simpa using h)
  have hai : X3.any (t == ·) = true := by rw [HX3.out, ← way_reach HOK.out HU.out HSA.out]; exact hpb
  have HHI := Lib.hid (show ∀ W A' c', IntsR W W.heap.size A' X3 → Calls Tryz.prog 35 #[.slice A' X3.length c', .int .i64 t] W fun e w' => e = .returned (.bool true) ∧ W = w' from fun W A' c' h => by rw [← hai]; exact hasInt_r t A' X3 c' W _ (by omega) h)
  have HWF := Lib.hid (show ∀ W a', GridR W W.heap.size a' g → KindsAt W → Calls Tryz.prog 19 #[(.agg #[.int .i64 g.blur, .slice a'.pS g.sta.length a'.cs, .slice a'.pM g.mov.length a'.cm, .slice a'.pZ g.zon.length a'.cz]), .int .i64 f, .int .i64 t] W fun e w' => ∃ A c, e = .returned (.tuple #[.slice A (m + 1) c, .int .i64 n, .int .i64 0]) ∧ IntsR w' w'.heap.size A xs ∧ Below W.heap.size W w' from fun W a' h1 h2 => by
    have h3 := lWay_c a' g f t R W HZ.out hsm HSA.out HSB.out hR h1 h2
    rw [← hxs, ← hn, hm] at h3
    exact h3)
  have HBA := Lib.hid (show ∀ W a', GridR W W.heap.size a' g → KindsAt W → Calls Tryz.prog 31 #[(.agg #[.int .i64 g.blur, .slice a'.pS g.sta.length a'.cs, .slice a'.pM g.mov.length a'.cm, .slice a'.pZ g.zon.length a'.cz]), .int .i64 f, .int .i64 t] W fun e w' => ∃ A c, e = .returned (.tuple #[.slice A 0 c, .int .i64 21]) ∧ Below W.heap.size W w' from fun W a' h1 h2 => lBarN_c a' g f t W HZ.out hsm HSA.out HSB.out hpb h1 h2)
  have HWB := Lib.hid (show ∀ W a', GridR W W.heap.size a' g → KindsAt W → Calls Tryz.prog 19 #[(.agg #[.int .i64 g.blur, .slice a'.pS g.sta.length a'.cs, .slice a'.pM g.mov.length a'.cm, .slice a'.pZ g.zon.length a'.cz]), .int .i64 t, .int .i64 f] W fun e w' => ∃ A c k, e = .returned (.tuple #[.slice A k c, .int .i64 n, .int .i64 0]) ∧ Below W.heap.size W w' from fun W a' h1 h2 => by
    obtain ⟨R', hR', hn'⟩ := way_back HOK.out HU.out HSA.out hR
    refine (lWay_c a' g t f R' W HZ.out hsm HSB.out HSA.out hR' h1 h2).mono ?_
    rintro e w' ⟨A, c, rfl, _, hb⟩
    exact ⟨A, c, _, by rw [hn', hn], hb⟩)
  have HSTP := Lib.hid (show ∀ W a' A' c', GridR W W.heap.size a' g → KindsAt W → IntsR W W.heap.size A' xs → Calls Tryz.prog 29 #[(.agg #[.int .i64 g.blur, .slice a'.pS g.sta.length a'.cs, .slice a'.pM g.mov.length a'.cm, .slice a'.pZ g.zon.length a'.cz]), .slice A' (m + 1) c'] W fun e w' => e = .returned (.tuple #[.int .i64 n, .int .i64 0]) ∧ Below W.heap.size W w' from fun W a' A' c' h1 h2 h3 => by
    have h4 := lStp_c a' g f t R A' c' W HZ.out hsm HSA.out hR h1 h2 (by rw [← hxs]; exact h3)
    rw [← hxs, ← hn, hm] at h4
    exact h4)
  have HINT := Lib.hid (show ∀ W A' c', IntsR W W.heap.size A' xs → Calls Tryz.prog 30 #[.slice A' (m + 1) c'] W fun e w' => ∃ A c, e = .returned (.slice A (m + 1) c) ∧ IntsR w' w'.heap.size A xs ∧ Below W.heap.size W w' from fun W A' c' h => by
    obtain ⟨b, off, rfl, _, _⟩ := h.at (by intro h; rw [h] at hm; cases hm)
    have h4 := ints_c (some ⟨b, off, none⟩) xs c' W (by omega) h (by intro h; cases h)
    rw [hm] at h4
    refine h4.mono ?_
    rintro e w' ⟨v, rfl, ho, hb⟩
    obtain ⟨A, c, rfl, _, h5⟩ := ho.ints
    rw [hm]
    exact ⟨A, c, rfl, h5, hb⟩)
  have HWK := Lib.hid (show ∀ x ∈ X3, ∃ u v : Int, n ≤ u + v ∧ (0 ≤ u ∧ u ≤ 320) ∧ (0 ≤ v ∧ v ≤ 320) ∧ (∀ W a', GridR W W.heap.size a' g → KindsAt W → Calls Tryz.prog 19 #[(.agg #[.int .i64 g.blur, .slice a'.pS g.sta.length a'.cs, .slice a'.pM g.mov.length a'.cm, .slice a'.pZ g.zon.length a'.cz]), .int .i64 f, .int .i64 x] W fun e w' => ∃ A c k, e = .returned (.tuple #[.slice A k c, .int .i64 u, .int .i64 0]) ∧ Below W.heap.size W w') ∧ (∀ W a', GridR W W.heap.size a' g → KindsAt W → Calls Tryz.prog 19 #[(.agg #[.int .i64 g.blur, .slice a'.pS g.sta.length a'.cs, .slice a'.pM g.mov.length a'.cm, .slice a'.pZ g.zon.length a'.cz]), .int .i64 x, .int .i64 t] W fun e w' => ∃ A c k, e = .returned (.tuple #[.slice A k c, .int .i64 v, .int .i64 0]) ∧ Below W.heap.size W w') from fun x hx => by
    have hx' : x ∈ reachG g f := by rw [← HX3.out]; exact hx
    obtain ⟨r1, r2, e1, e2, e3⟩ := way_over HOK.out HU.out HSA.out hR hx'
    refine ⟨r1.n, r2.n, by rw [hn]; exact e3, (way_steps HZ.out HSA.out e1).2.2.2.2.2, (way_steps HZ.out (HAT.out x hx) e2).2.2.2.2.2, fun W a' h1 h2 => ?_, fun W a' h1 h2 => ?_⟩
    · refine (lWay_c a' g f x r1 W HZ.out hsm HSA.out (HAT.out x hx) e1 h1 h2).mono ?_
      rintro e w' ⟨A, c, rfl, _, hb⟩
      exact ⟨A, c, _, rfl, hb⟩
    · refine (lWay_c a' g x t r2 W HZ.out hsm (HAT.out x hx) HSB.out e2 h1 h2).mono ?_
      rintro e w' ⟨A, c, rfl, _, hb⟩
      exact ⟨A, c, _, rfl, hb⟩)
  have HWO := Lib.hid (show ∃ v : Int, v ≤ n ∧ ∀ W a', GridR W W.heap.size a' (openG g) → KindsAt W → Calls Tryz.prog 19 #[(.agg #[.int .i64 (openG g).blur, .slice a'.pS (openG g).sta.length a'.cs, .slice a'.pM (openG g).mov.length a'.cm, .slice a'.pZ (openG g).zon.length a'.cz]), .int .i64 f, .int .i64 t] W fun e w' => ∃ A c k, e = .returned (.tuple #[.slice A k c, .int .i64 v, .int .i64 0]) ∧ Below W.heap.size W w' from by
    obtain ⟨r', e1, e2⟩ := way_open HZ.out HSA.out hR
    refine ⟨r'.n, by rw [hn]; exact e2, fun W a' h1 h2 => ?_⟩
    refine (lWay_c a' (openG g) f t r' W (openC HZ.out) (openS hsm) HSA.out.open_ HSB.out.open_ e1 h1 h2).mono ?_
    rintro e w' ⟨A, c, rfl, _, hb⟩
    exact ⟨A, c, _, rfl, hb⟩)
  clear hR hws hxs hn hai hpb
  go_enter Tryz.func7, Tryz.ntmps7
  go_upto_region 1 with fail
  rw [← hW0]
  clear hW0
  go_upto_region 3 with (go_at_call 54; (with_reducible refine Calls.mono (HFW.out _ (HG.out.to (by exact zbl))) ?_); rintro e wA ⟨rfl, hbA⟩; (have hq_wA : Below W0.heap.size W0 wA := by exact zbl); (have hc_wA := (bcell hq_wA).1); (have y0_wA : w.heap.size < wA.heap.size := Nat.lt_of_lt_of_le z0 hq_wA.size); (have y1_wA : w.heap.size + 1 < wA.heap.size := Nat.lt_of_lt_of_le z1 hq_wA.size); clear hq_wA)
  go_region_held3 (fun W => (W0).heap.size ≤ W.heap.size ∧ (∀ b o, b < (W0).heap.size → W.cell? ⟨b, o, none⟩ = (W0).cell? ⟨b, o, none⟩) ∧ (∀ b, b < (W0).heap.size → W.heap[b]? = (W0).heap[b]?)) ((refine Sh.goal ?_; repeat first | (with_reducible first | assumption | exact Sh.refl _ | refine Sh.drew ?_ | refine Sh.alloc ?_ _ | refine Sh.set ?_ _ ?_) | (with_reducible apply Sh.below'; (focus (with_reducible assumption))) | omega | (focus (simp; done)) | (focus (simp; omega)))) (first | fail)
  rename_i hX
  clear hX
  rw [← hf, ← ht]
  (try rw [he0])
  clear hf ht
  go_upto_region 6 with (first | (go_at_call 55; (with_reducible refine Calls.mono (HSF.out _ (HG.out.to (by exact zbl))) ?_); rintro e wS ⟨rfl, hbS⟩; (have hq_wS : Below W0.heap.size W0 wS := by exact zbl); (have hc_wS := (bcell hq_wS).1); (have y0_wS : w.heap.size < wS.heap.size := Nat.lt_of_lt_of_le z0 hq_wS.size); (have y1_wS : w.heap.size + 1 < wS.heap.size := Nat.lt_of_lt_of_le z1 hq_wS.size); clear hq_wS) | (go_at_call 55; (with_reducible refine Calls.mono (HST.out _ (HG.out.to (by exact zbl))) ?_); rintro e wU ⟨rfl, hbU⟩; (have hq_wU : Below W0.heap.size W0 wU := by exact zbl); (have hc_wU := (bcell hq_wU).1); (have y0_wU : w.heap.size < wU.heap.size := Nat.lt_of_lt_of_le z0 hq_wU.size); (have y1_wU : w.heap.size + 1 < wU.heap.size := Nat.lt_of_lt_of_le z1 hq_wU.size); clear hq_wU))
  go_upto_region 7 with (first | (go_at_call 18; (with_reducible refine Calls.mono (grid_c a g _ hsm (HG.out.to (by exact zbl))) ?_); rintro e wB ⟨aB, rfl, hgB, hbB⟩; (have hq_wB : Below W0.heap.size W0 wB := by exact zbl); (have hc_wB := (bcell hq_wB).1); (have y0_wB : w.heap.size < wB.heap.size := Nat.lt_of_lt_of_le z0 hq_wB.size); (have y1_wB : w.heap.size + 1 < wB.heap.size := Nat.lt_of_lt_of_le z1 hq_wB.size); clear hq_wB) | (go_at_call 19; (with_reducible refine Calls.mono (HWF.out _ aB (hgB.to (by exact zbl)) (HKD.out.to (by exact zbl))) ?_); rintro e wC ⟨A1, c1, rfl, hi1, hbC⟩; (have I1 := Lib.hid hi1); clear hi1; (have hq_wC : Below W0.heap.size W0 wC := by exact zbl); (have hc_wC := (bcell hq_wC).1); (have y0_wC : w.heap.size < wC.heap.size := Nat.lt_of_lt_of_le z0 hq_wC.size); (have y1_wC : w.heap.size + 1 < wC.heap.size := Nat.lt_of_lt_of_le z1 hq_wC.size); clear hq_wC))
  go_upto_region 8 with (first | (go_at_call 18; (with_reducible refine Calls.mono (grid_c a g _ hsm (HG.out.to (by exact zbl))) ?_); rintro e wD ⟨aD, rfl, hgD, hbD⟩; (have hq_wD : Below W0.heap.size W0 wD := by exact zbl); (have hc_wD := (bcell hq_wD).1); (have y0_wD : w.heap.size < wD.heap.size := Nat.lt_of_lt_of_le z0 hq_wD.size); (have y1_wD : w.heap.size + 1 < wD.heap.size := Nat.lt_of_lt_of_le z1 hq_wD.size); clear hq_wD) | (go_at_call 31; (with_reducible refine Calls.mono (HBA.out _ aD (hgD.to (by exact zbl)) (HKD.out.to (by exact zbl))) ?_); rintro e wE ⟨A2, c2, rfl, hbE⟩; (have hq_wE : Below W0.heap.size W0 wE := by exact zbl); (have hc_wE := (bcell hq_wE).1); (have y0_wE : w.heap.size < wE.heap.size := Nat.lt_of_lt_of_le z0 hq_wE.size); (have y1_wE : w.heap.size + 1 < wE.heap.size := Nat.lt_of_lt_of_le z1 hq_wE.size); clear hq_wE))
  go_upto_region 9 with (first | (go_at_call 18; (with_reducible refine Calls.mono (grid_c a g _ hsm (HG.out.to (by exact zbl))) ?_); rintro e wF ⟨aF, rfl, hgF, hbF⟩; (have hq_wF : Below W0.heap.size W0 wF := by exact zbl); (have hc_wF := (bcell hq_wF).1); (have y0_wF : w.heap.size < wF.heap.size := Nat.lt_of_lt_of_le z0 hq_wF.size); (have y1_wF : w.heap.size + 1 < wF.heap.size := Nat.lt_of_lt_of_le z1 hq_wF.size); clear hq_wF) | (go_at_call 17; (with_reducible refine Calls.mono (HRE.out _ aF f HFM.out (hgF.to (by exact zbl)) (HKD.out.to (by exact zbl))) ?_); rintro e wH ⟨A3, c3, rfl, hi3, hbH⟩; (have I3 := Lib.hid hi3); clear hi3; (have hq_wH : Below W0.heap.size W0 wH := by exact zbl); (have hc_wH := (bcell hq_wH).1); (have y0_wH : w.heap.size < wH.heap.size := Nat.lt_of_lt_of_le z0 hq_wH.size); (have y1_wH : w.heap.size + 1 < wH.heap.size := Nat.lt_of_lt_of_le z1 hq_wH.size); clear hq_wH))
  have hHI := HHI.out _ A3 c3 I3.out
  obtain ⟨b3, o3, e3, hb3, hc3⟩ := I3.out.at HNE.out
  subst e3
  have HHJ := Lib.hid hHI
  have HX3P := Lib.hid (show ∀ W, Below wH.heap.size wH W → ∀ k (h : k < X3.length), W.cell? ⟨b3, o3 + k, none⟩ = some (.int .i64 X3[k]) from fun W h k hk => (h.cell (p := ⟨b3, o3 + k, none⟩) hb3).trans (hc3 k hk))
  clear hHI hc3
  go_upto_region 11 with (go_at_call 35; (with_reducible refine Calls.mono (HHJ.out) ?_); rintro e wI ⟨rfl, rfl⟩)
  go_wp2_with fail
  go_loopw [143] (fun i wr => ∃ k : Nat, k ≤ X3.length ∧ i = .int .i64 k ∧ Below wH.heap.size wH wr) (fun i _ => X3.length - (intOf i).toNat)
  case atStart => exact ⟨0, Nat.zero_le _, rfl, Below.refl _ _⟩
  case round =>
    obtain ⟨k, hk, rfl, hbr⟩ := hrel
    have hq_wr : Below W0.heap.size W0 wr := by exact zbl
    have hc_wr := (bcell hq_wr).1
    have y0_wr : w.heap.size < wr.heap.size := Nat.lt_of_lt_of_le z0 hq_wr.size
    have y1_wr : w.heap.size + 1 < wr.heap.size := Nat.lt_of_lt_of_le z1 hq_wr.size
    clear hq_wr
    by_cases hlt : k < X3.length
    · obtain ⟨v, hv⟩ : ∃ v, v = X3[k] := ⟨_, rfl⟩
      have x0 : wr.cell? ⟨b3, o3 + k, none⟩ = some (.int .i64 v) := by rw [hv]; exact HX3P.out wr (by exact zbl) k hlt
      have HVM := Lib.hid (show v ∈ X3 by rw [hv]; exact List.getElem_mem hlt)
      have hvr := (HAT.out v HVM.out).rng
      have q1 : decide (v < 0) = false := decide_eq_false (by omega)
      have q2 : decide ((g.sta.length : Int) ≤ v) = false := decide_eq_false (by omega)
      clear hv
      go_wp2_with (first | (go_at_call 18; (with_reducible refine Calls.mono (grid_c a g _ hsm (HG.out.to (by exact zbl))) ?_); rintro e wK ⟨aK, rfl, hgK, hbK⟩; (have hq_wK : Below W0.heap.size W0 wK := by exact zbl); (have hc_wK := (bcell hq_wK).1); (have y0_wK : w.heap.size < wK.heap.size := Nat.lt_of_lt_of_le z0 hq_wK.size); (have y1_wK : w.heap.size + 1 < wK.heap.size := Nat.lt_of_lt_of_le z1 hq_wK.size); clear hq_wK) | (go_at_call 17; (with_reducible refine Calls.mono (HRE.out _ aK v HVM.out (hgK.to (by exact zbl)) (HKD.out.to (by exact zbl))) ?_); rintro e wL ⟨A4, c4, rfl, hi4, hbL⟩; (have I4 := Lib.hid hi4); clear hi4; (have hq_wL : Below W0.heap.size W0 wL := by exact zbl); (have hc_wL := (bcell hq_wL).1); (have y0_wL : w.heap.size < wL.heap.size := Nat.lt_of_lt_of_le z0 hq_wL.size); (have y1_wL : w.heap.size + 1 < wL.heap.size := Nat.lt_of_lt_of_le z1 hq_wL.size); clear hq_wL) | (go_at_call 56; (with_reducible refine Calls.mono (HSI.out _ A4 (some ⟨b3, o3, none⟩) c4 c3 (I4.out.to (by exact zbl)) (I3.out.to (by exact zbl))) ?_); rintro e wM ⟨rfl, hbM⟩; (have hq_wM : Below W0.heap.size W0 wM := by exact zbl); (have hc_wM := (bcell hq_wM).1); (have y0_wM : w.heap.size < wM.heap.size := Nat.lt_of_lt_of_le z0 hq_wM.size); (have y1_wM : w.heap.size + 1 < wM.heap.size := Nat.lt_of_lt_of_le z1 hq_wM.size); clear hq_wM))
      go_roundw
      case rel => first | exact ⟨k + 1, by omega, by go_num, hbr.trans ((show Below wr.heap.size wr _ by exact zbl).mono hbr.size)⟩ | ((repeat apply Exists.intro); refine ⟨?_, rfl⟩; exact ⟨k + 1, by omega, by go_num, hbr.trans ((show Below wr.heap.size wr _ by exact zbl).mono hbr.size)⟩)
      case measure => simp [intOf]; omega
    · obtain ⟨W2, rfl⟩ : ∃ W, W = wr := ⟨wr, rfl⟩
      obtain ⟨b1, o1, e1, hb1, hc1⟩ := I1.out.at (by intro h; rw [h] at hm; cases hm)
      subst e1
      have HC1 := Lib.hid hc1
      clear hc1
      go_upto_region 23 with fail
      go_upto_region 24 with (first | (go_at_call 18; (with_reducible refine Calls.mono (grid_c a g _ hsm (HG.out.to (by exact zbl))) ?_); rintro e wN ⟨aN, rfl, hgN, hbN⟩; (have hq_wN : Below W0.heap.size W0 wN := by exact zbl); (have hc_wN := (bcell hq_wN).1); (have y0_wN : w.heap.size < wN.heap.size := Nat.lt_of_lt_of_le z0 hq_wN.size); (have y1_wN : w.heap.size + 1 < wN.heap.size := Nat.lt_of_lt_of_le z1 hq_wN.size); clear hq_wN) | (go_at_call 30; (with_reducible refine Calls.mono (HINT.out _ (some ⟨b1, o1, none⟩) c1 (I1.out.to (by exact zbl))) ?_); rintro e wO ⟨AO, cO, rfl, hiO, hbO⟩; (have IO := Lib.hid hiO); clear hiO; (have hq_wO : Below W0.heap.size W0 wO := by exact zbl); (have hc_wO := (bcell hq_wO).1); (have y0_wO : w.heap.size < wO.heap.size := Nat.lt_of_lt_of_le z0 hq_wO.size); (have y1_wO : w.heap.size + 1 < wO.heap.size := Nat.lt_of_lt_of_le z1 hq_wO.size); clear hq_wO) | (go_at_call 29; (with_reducible refine Calls.mono (HSTP.out _ aN AO cO (hgN.to (by exact zbl)) (HKD.out.to (by exact zbl)) (IO.out.to (by exact zbl))) ?_); rintro e wP ⟨rfl, hbP⟩; (have hq_wP : Below W0.heap.size W0 wP := by exact zbl); (have hc_wP := (bcell hq_wP).1); (have y0_wP : w.heap.size < wP.heap.size := Nat.lt_of_lt_of_le z0 hq_wP.size); (have y1_wP : w.heap.size + 1 < wP.heap.size := Nat.lt_of_lt_of_le z1 hq_wP.size); clear hq_wP))
      go_upto_region 25 with (first | (go_at_call 18; (with_reducible refine Calls.mono (grid_c a g _ hsm (HG.out.to (by exact zbl))) ?_); rintro e wQ ⟨aQ, rfl, hgQ, hbQ⟩; (have hq_wQ : Below W0.heap.size W0 wQ := by exact zbl); (have hc_wQ := (bcell hq_wQ).1); (have y0_wQ : w.heap.size < wQ.heap.size := Nat.lt_of_lt_of_le z0 hq_wQ.size); (have y1_wQ : w.heap.size + 1 < wQ.heap.size := Nat.lt_of_lt_of_le z1 hq_wQ.size); clear hq_wQ) | (go_at_call 19; (with_reducible refine Calls.mono (HWB.out _ aQ (hgQ.to (by exact zbl)) (HKD.out.to (by exact zbl))) ?_); rintro e wR ⟨A5, c5, k5, rfl, hbR⟩; (have hq_wR : Below W0.heap.size W0 wR := by exact zbl); (have hc_wR := (bcell hq_wR).1); (have y0_wR : w.heap.size < wR.heap.size := Nat.lt_of_lt_of_le z0 hq_wR.size); (have y1_wR : w.heap.size + 1 < wR.heap.size := Nat.lt_of_lt_of_le z1 hq_wR.size); clear hq_wR))
      have x0 : wR.cell? ⟨b1, o1, none⟩ = some (.int .i64 f) := ((show Below wC.heap.size wC wR by exact zbl).cell (p := ⟨b1, o1, none⟩) hb1).trans (by
        have h := HC1.out 0 (by omega)
        have h2 := HFI.out
        rw [List.getElem?_eq_getElem (by omega)] at h2
        rw [Option.some.inj h2] at h
        exact h)
      have x1 : wR.cell? ⟨b1, o1 + m, none⟩ = some (.int .i64 t) := ((show Below wC.heap.size wC wR by exact zbl).cell (p := ⟨b1, o1 + m, none⟩) hb1).trans (by
        have h := HC1.out m (by omega)
        have h2 := HLA.out
        rw [List.getElem?_eq_getElem (by omega)] at h2
        rw [Option.some.inj h2] at h
        exact h)
      have q5 : IntKind.i64.wrap ((m : Int) + 1 - 1) = (m : Int) := by rw [show (m : Int) + 1 - 1 = m by omega]; exact IntWalk.i64_in _ (by omega)
      go_upto_region 27 with fail
      go_wp2_with fail
      go_loopw [241] (fun i wr => ∃ k : Nat, k ≤ X3.length ∧ i = .int .i64 k ∧ Below wR.heap.size wR wr) (fun i _ => X3.length - (intOf i).toNat)
      case atStart => exact ⟨0, Nat.zero_le _, rfl, Below.refl _ _⟩
      case round =>
        obtain ⟨k, hk, rfl, hbr⟩ := hrel
        have hq_wr : Below W0.heap.size W0 wr := by exact zbl
        have hc_wr := (bcell hq_wr).1
        have y0_wr : w.heap.size < wr.heap.size := Nat.lt_of_lt_of_le z0 hq_wr.size
        have y1_wr : w.heap.size + 1 < wr.heap.size := Nat.lt_of_lt_of_le z1 hq_wr.size
        clear hq_wr
        by_cases hlt : k < X3.length
        · obtain ⟨v, hv⟩ : ∃ v, v = X3[k] := ⟨_, rfl⟩
          have x0 : wr.cell? ⟨b3, o3 + k, none⟩ = some (.int .i64 v) := by rw [hv]; exact HX3P.out wr (by exact zbl) k hlt
          have HVM := Lib.hid (show v ∈ X3 by rw [hv]; exact List.getElem_mem hlt)
          have hvr := (HAT.out v HVM.out).rng
          have q1 : decide (v < 0) = false := decide_eq_false (by omega)
          have q2 : decide ((g.sta.length : Int) ≤ v) = false := decide_eq_false (by omega)
          clear hv
          obtain ⟨u, u2, huu, hu, hu2, hWu, hWv⟩ := HWK.out v HVM.out
          have q3 : decide (u + u2 < n) = false := decide_eq_false (by omega)
          have q4 : IntKind.i64.wrap (u + u2) = u + u2 := IntWalk.i64_in _ (by omega)
          have HWU := Lib.hid hWu
          have HWV := Lib.hid hWv
          clear hWu hWv
          go_upto_region 31 with (first | (go_at_call 18; (with_reducible refine Calls.mono (grid_c a g _ hsm (HG.out.to (by exact zbl))) ?_); rintro e wT ⟨aT, rfl, hgT, hbT⟩; (have hq_wT : Below W0.heap.size W0 wT := by exact zbl); (have hc_wT := (bcell hq_wT).1); (have y0_wT : w.heap.size < wT.heap.size := Nat.lt_of_lt_of_le z0 hq_wT.size); (have y1_wT : w.heap.size + 1 < wT.heap.size := Nat.lt_of_lt_of_le z1 hq_wT.size); clear hq_wT) | (go_at_call 19; (with_reducible refine Calls.mono (HWU.out _ aT (hgT.to (by exact zbl)) (HKD.out.to (by exact zbl))) ?_); rintro e wV ⟨A6, c6, k6, rfl, hbV⟩; (have hq_wV : Below W0.heap.size W0 wV := by exact zbl); (have hc_wV := (bcell hq_wV).1); (have y0_wV : w.heap.size < wV.heap.size := Nat.lt_of_lt_of_le z0 hq_wV.size); (have y1_wV : w.heap.size + 1 < wV.heap.size := Nat.lt_of_lt_of_le z1 hq_wV.size); clear hq_wV))
          go_upto_region 32 with (first | (go_at_call 18; (with_reducible refine Calls.mono (grid_c a g _ hsm (HG.out.to (by exact zbl))) ?_); rintro e wX ⟨aX, rfl, hgX, hbX⟩; (have hq_wX : Below W0.heap.size W0 wX := by exact zbl); (have hc_wX := (bcell hq_wX).1); (have y0_wX : w.heap.size < wX.heap.size := Nat.lt_of_lt_of_le z0 hq_wX.size); (have y1_wX : w.heap.size + 1 < wX.heap.size := Nat.lt_of_lt_of_le z1 hq_wX.size); clear hq_wX) | (go_at_call 19; (with_reducible refine Calls.mono (HWV.out _ aX (hgX.to (by exact zbl)) (HKD.out.to (by exact zbl))) ?_); rintro e wY ⟨A7, c7, k7, rfl, hbY⟩; (have hq_wY : Below W0.heap.size W0 wY := by exact zbl); (have hc_wY := (bcell hq_wY).1); (have y0_wY : w.heap.size < wY.heap.size := Nat.lt_of_lt_of_le z0 hq_wY.size); (have y1_wY : w.heap.size + 1 < wY.heap.size := Nat.lt_of_lt_of_le z1 hq_wY.size); clear hq_wY))
          go_wp2_with fail
          go_roundw
          case rel => first | exact ⟨k + 1, by omega, by go_num, hbr.trans ((show Below wr.heap.size wr _ by exact zbl).mono hbr.size)⟩ | ((repeat apply Exists.intro); refine ⟨?_, rfl⟩; exact ⟨k + 1, by omega, by go_num, hbr.trans ((show Below wr.heap.size wr _ by exact zbl).mono hbr.size)⟩)
          case measure => simp [intOf]; omega
        · obtain ⟨W3, rfl⟩ : ∃ W, W = wr := ⟨wr, rfl⟩
          cases hz0 : ((g.zon.length : Int) == 0)
          case true =>
            go_wp2_with (go_at_call 16; (with_reducible refine Calls.mono (awake_c _ (HKD.out.to (by exact zbl)) (HPW.out.to (by exact zbl))) ?_); rintro e wK ⟨rfl, hbK⟩)
            go_ret
            exact ⟨rfl, HB0.out.trans ((show Below W0.heap.size W0 _ by exact zbl).mono HB0.out.size)⟩
          case false =>
            have hzn : 0 < g.zon.length := by have : ¬ (g.zon.length : Int) = 0 := by simpa using hz0
                                              omega
            obtain ⟨bz, oz, ez, hbz, _⟩ := HG.out.zon.get (k := 0) (by simpa using hzn)
            have hcz := HG.out.capZ
            have HEZ := Lib.hid ez
            obtain ⟨AZ, hAZ⟩ : ∃ A, A = (if a.cz = 1 then a.pZ else Option.map (fun x => ({ block := x.block, off := x.off + 4 } : Addr)) a.pZ) := ⟨_, rfl⟩
            have HG2 := Lib.hid (show GridR W0 W0.heap.size { a with pZ := AZ, cz := a.cz - 1 } (openG g) from by
              rw [hAZ]
              by_cases h1 : a.cz = 1
              · rw [if_pos h1]
                have h3 : (openG g).zon = [] := by
                  show g.zon.tail = []
                  apply List.eq_nil_of_length_eq_zero
                  rw [List.length_tail]
                  omega
                refine ⟨HG.out.sta, HG.out.mov, ?_, HG.out.capS, HG.out.capM, ?_⟩
                · rw [h3]; exact Rw.nil_
                · rw [h3]; simp
              · rw [if_neg h1, ez]
                exact HG.out.open_ ez hzn)
            obtain ⟨X5, hX5⟩ : ∃ X, X = safeMs g g.mov := ⟨_, rfl⟩
            obtain ⟨X6, hX6⟩ : ∃ X, X = safeMs (openG g) g.mov := ⟨_, rfl⟩
            have hnm := hsm.nm
            have hso := safeMs_open g
            rw [← hX5, ← hX6] at hso
            have h5l : X5.length ≤ 1000 := by rw [hX5]; exact Nat.le_trans (safeMs_len g g.mov) hnm
            have h6l : X6.length ≤ 1000 := by rw [hX6]; exact Nat.le_trans (safeMs_len (openG g) g.mov) hnm
            have q6 : decide ((X6.length : Int) < (X5.length : Int)) = false := decide_eq_false (by have := hso.1; omega)
            have q6b : decide (X6.length < X5.length) = false := decide_eq_false (by have := hso.1; omega)
            have q6c : ¬ X6.length < X5.length := by have := hso.1; omega
            have HGO := Lib.hid (show ∀ W, Below W0.heap.size W0 W → Calls Tryz.prog 18 #[.agg #[.int .i64 g.blur, .slice a.pS g.sta.length a.cs, .slice a.pM g.mov.length a.cm, .slice AZ (g.zon.length - 1) (a.cz - 1)]] W fun e w' => ∃ a', e = .returned (.agg #[.int .i64 (openG g).blur, .slice a'.pS (openG g).sta.length a'.cs, .slice a'.pM (openG g).mov.length a'.cm, .slice a'.pZ (openG g).zon.length a'.cz]) ∧ GridR w' w'.heap.size a' (openG g) ∧ Below W.heap.size W w' from fun W h => by
              have h4 := grid_c { a with pZ := AZ, cz := a.cz - 1 } (openG g) W (openS hsm) (HG2.out.to h)
              have h5 : (openG g).zon.length = g.zon.length - 1 := by show g.zon.tail.length = _; rw [List.length_tail]
              rw [← h5]
              exact h4)
            have HSO := Lib.hid (show ∀ W a', GridR W W.heap.size a' (openG g) → KindsAt W → Calls Tryz.prog 57 #[(.agg #[.int .i64 (openG g).blur, .slice a'.pS (openG g).sta.length a'.cs, .slice a'.pM (openG g).mov.length a'.cm, .slice a'.pZ (openG g).zon.length a'.cz])] W fun e w' => ∃ A c, e = .returned (.tuple #[.slice A X6.length c, .int .i64 0]) ∧ IntsR w' w'.heap.size A X6 ∧ Below W.heap.size W w' from fun W a' h1 h2 => by
              rw [hX6]; exact lSm_c a' (openG g) W (openC HZ.out) (openS hsm) h1 h2)
            have HSG := Lib.hid (show ∀ W a', GridR W W.heap.size a' g → KindsAt W → Calls Tryz.prog 57 #[(.agg #[.int .i64 g.blur, .slice a'.pS g.sta.length a'.cs, .slice a'.pM g.mov.length a'.cm, .slice a'.pZ g.zon.length a'.cz])] W fun e w' => ∃ A c, e = .returned (.tuple #[.slice A X5.length c, .int .i64 0]) ∧ IntsR w' w'.heap.size A X5 ∧ Below W.heap.size W w' from fun W a' h1 h2 => by
              rw [hX5]; exact lSm_c a' g W HZ.out hsm h1 h2)
            have HHM := Lib.hid (show ∀ W v, v ∈ X5 → ∀ A' c', IntsR W W.heap.size A' X6 → Calls Tryz.prog 35 #[.slice A' X6.length c', .int .i64 v] W fun e w' => e = .returned (.bool true) ∧ W = w' from fun W v hv A' c' h => by
              rw [← hso.2 v hv]; exact hasInt_r v A' X6 c' W _ (by omega) h)
            clear hX5 hX6 hso ez
            have i1 : (1 : Int) ≤ (g.zon.length : Int) := by omega
            go_upto_region 39 with fail
            rw [← hAZ]
            obtain ⟨ob, hob⟩ : ∃ b, b = W3.heap.size := ⟨_, rfl⟩
            obtain ⟨W5, hW5⟩ : ∃ W, W = W3.alloc (.cells #[.int .i64 g.blur, .slice a.pS g.sta.length a.cs, .slice a.pM g.mov.length a.cm, .slice AZ (g.zon.length - 1) (a.cz - 1)] 26) := ⟨_, rfl⟩
            rw [← hob, ← hW5]
            have k5 : W5.heap[ob]? = some (.cells #[.int .i64 g.blur, .slice a.pS g.sta.length a.cs, .slice a.pM g.mov.length a.cm, .slice AZ (g.zon.length - 1) (a.cz - 1)] 26 (0, 0)) := by rw [hW5, hob]; exact heap_alloc_new _ _
            have hB5 : Below W0.heap.size W0 W5 := by rw [hW5]; (repeat first | (with_reducible first | assumption | exact Below.refl _ _ | refine Bl.drew ?_ | refine Bl.drewN ?_ _ | refine Bl.alloc ?_ _ | refine Bl.set ?_ _ ?_) | (with_reducible apply Bl.step'; (focus (with_reducible assumption))) | omega | (focus (simp; done)) | (focus (simp; omega)))
            have z5 := bk_lt k5
            have y0_W5 : w.heap.size < W5.heap.size := Nat.lt_of_lt_of_le z0 hB5.size
            have y1_W5 : w.heap.size + 1 < W5.heap.size := Nat.lt_of_lt_of_le z1 hB5.size
            have hc_W5 := (bcell hB5).1
            have HB5 := hB5
            (obtain ⟨p0, pf0, p1, pf1, p2, pf2, p3, pf3⟩ := cv4 k5)
            clear hW5 k5 pf0 pf1 pf2 pf3 hAZ hob
            go_upto_region 40 with (first | (go_at_call 18; (with_reducible refine Calls.mono (HGO.out _ (by exact zbl)) ?_); rintro e wZA ⟨aZA, rfl, hgZA, hbZA⟩; (have hq_wZA : Below W0.heap.size W0 wZA := by exact zbl); (have hc_wZA := (bcell hq_wZA).1); (have y0_wZA : w.heap.size < wZA.heap.size := Nat.lt_of_lt_of_le z0 hq_wZA.size); (have y1_wZA : w.heap.size + 1 < wZA.heap.size := Nat.lt_of_lt_of_le z1 hq_wZA.size); clear hq_wZA; (have hp_wZA : Below W5.heap.size W5 wZA := by exact zbl); (have hd_wZA := (bcell hp_wZA).1); (have y5_wZA : ob < wZA.heap.size := Nat.lt_of_lt_of_le z5 hp_wZA.size); clear hp_wZA) | (go_at_call 57; (with_reducible refine Calls.mono (HSO.out _ aZA (hgZA.to (by exact zbl)) (HKD.out.to (by exact zbl))) ?_); rintro e wZB ⟨A8, c8, rfl, hi8, hbZB⟩; (have I8 := Lib.hid hi8); clear hi8; (have hq_wZB : Below W0.heap.size W0 wZB := by exact zbl); (have hc_wZB := (bcell hq_wZB).1); (have y0_wZB : w.heap.size < wZB.heap.size := Nat.lt_of_lt_of_le z0 hq_wZB.size); (have y1_wZB : w.heap.size + 1 < wZB.heap.size := Nat.lt_of_lt_of_le z1 hq_wZB.size); clear hq_wZB; (have hp_wZB : Below W5.heap.size W5 wZB := by exact zbl); (have hd_wZB := (bcell hp_wZB).1); (have y5_wZB : ob < wZB.heap.size := Nat.lt_of_lt_of_le z5 hp_wZB.size); clear hp_wZB))
            go_upto_region 41 with (first | (go_at_call 18; (with_reducible refine Calls.mono (grid_c a g _ hsm (HG.out.to (by exact zbl))) ?_); rintro e wZC ⟨aZC, rfl, hgZC, hbZC⟩; (have hq_wZC : Below W0.heap.size W0 wZC := by exact zbl); (have hc_wZC := (bcell hq_wZC).1); (have y0_wZC : w.heap.size < wZC.heap.size := Nat.lt_of_lt_of_le z0 hq_wZC.size); (have y1_wZC : w.heap.size + 1 < wZC.heap.size := Nat.lt_of_lt_of_le z1 hq_wZC.size); clear hq_wZC; (have hp_wZC : Below W5.heap.size W5 wZC := by exact zbl); (have hd_wZC := (bcell hp_wZC).1); (have y5_wZC : ob < wZC.heap.size := Nat.lt_of_lt_of_le z5 hp_wZC.size); clear hp_wZC) | (go_at_call 57; (with_reducible refine Calls.mono (HSG.out _ aZC (hgZC.to (by exact zbl)) (HKD.out.to (by exact zbl))) ?_); rintro e wZD ⟨A9, c9, rfl, hi9, hbZD⟩; (have I9 := Lib.hid hi9); clear hi9; (have hq_wZD : Below W0.heap.size W0 wZD := by exact zbl); (have hc_wZD := (bcell hq_wZD).1); (have y0_wZD : w.heap.size < wZD.heap.size := Nat.lt_of_lt_of_le z0 hq_wZD.size); (have y1_wZD : w.heap.size + 1 < wZD.heap.size := Nat.lt_of_lt_of_le z1 hq_wZD.size); clear hq_wZD; (have hp_wZD : Below W5.heap.size W5 wZD := by exact zbl); (have hd_wZD := (bcell hp_wZD).1); (have y5_wZD : ob < wZD.heap.size := Nat.lt_of_lt_of_le z5 hp_wZD.size); clear hp_wZD))
            go_upto_region 43 with fail
            go_wp2_with fail
            go_loopw [310] (fun i wr => ∃ k : Nat, k ≤ X5.length ∧ i = .int .i64 k ∧ Below wZD.heap.size wZD wr) (fun i _ => X5.length - (intOf i).toNat)
            case atStart => exact ⟨0, Nat.zero_le _, rfl, Below.refl _ _⟩
            case round =>
              obtain ⟨k, hk, rfl, hbr9⟩ := hrel
              (have hq_wr : Below W0.heap.size W0 wr := by exact zbl); (have hc_wr := (bcell hq_wr).1); (have y0_wr : w.heap.size < wr.heap.size := Nat.lt_of_lt_of_le z0 hq_wr.size); (have y1_wr : w.heap.size + 1 < wr.heap.size := Nat.lt_of_lt_of_le z1 hq_wr.size); clear hq_wr; (have hp_wr : Below W5.heap.size W5 wr := by exact zbl); (have hd_wr := (bcell hp_wr).1); (have y5_wr : ob < wr.heap.size := Nat.lt_of_lt_of_le z5 hp_wr.size); clear hp_wr
              by_cases hlt : k < X5.length
              · obtain ⟨b9, o9, e9, hb9, hc9⟩ := I9.out.at (by intro h; rw [h] at hlt; simp at hlt)
                subst e9
                obtain ⟨v, hv⟩ : ∃ v, v = X5[k] := ⟨_, rfl⟩
                have x0 : wr.cell? ⟨b9, o9 + k, none⟩ = some (.int .i64 v) := by rw [hv]; exact (hbr9.cell (p := ⟨b9, o9 + k, none⟩) hb9).trans (hc9 k hlt)
                have HVM := Lib.hid (show v ∈ X5 by rw [hv]; exact List.getElem_mem hlt)
                clear hv hc9
                go_wp2_with (go_at_call 35; (with_reducible refine Calls.mono (HHM.out _ v HVM.out A8 c8 (I8.out.to (by exact zbl))) ?_); rintro e wZE ⟨rfl, rfl⟩)
                go_roundw
                case rel => first | exact ⟨k + 1, by omega, by go_num, hbr9⟩ | ((repeat apply Exists.intro); refine ⟨?_, rfl⟩; exact ⟨k + 1, by omega, by go_num, hbr9⟩)
                case measure => simp [intOf]; omega
              · obtain ⟨vO, hvO, hwo⟩ := HWO.out
                have HWOV := Lib.hid hwo
                have q7 : decide (vO ≤ n) = true := decide_eq_true hvO
                clear hwo
                go_wp2_with (first | (go_at_call 18; (with_reducible refine Calls.mono (HGO.out _ (by exact zbl)) ?_); rintro e wZF ⟨aZF, rfl, hgZF, hbZF⟩; (have hq_wZF : Below W0.heap.size W0 wZF := by exact zbl); (have hc_wZF := (bcell hq_wZF).1); (have y0_wZF : w.heap.size < wZF.heap.size := Nat.lt_of_lt_of_le z0 hq_wZF.size); (have y1_wZF : w.heap.size + 1 < wZF.heap.size := Nat.lt_of_lt_of_le z1 hq_wZF.size); clear hq_wZF; (have hp_wZF : Below W5.heap.size W5 wZF := by exact zbl); (have hd_wZF := (bcell hp_wZF).1); (have y5_wZF : ob < wZF.heap.size := Nat.lt_of_lt_of_le z5 hp_wZF.size); clear hp_wZF) | (go_at_call 19; (with_reducible refine Calls.mono (HWOV.out _ aZF (hgZF.to (by exact zbl)) (HKD.out.to (by exact zbl))) ?_); rintro e wZG ⟨AG, cG, kG, rfl, hbZG⟩; (have hq_wZG : Below W0.heap.size W0 wZG := by exact zbl); (have hc_wZG := (bcell hq_wZG).1); (have y0_wZG : w.heap.size < wZG.heap.size := Nat.lt_of_lt_of_le z0 hq_wZG.size); (have y1_wZG : w.heap.size + 1 < wZG.heap.size := Nat.lt_of_lt_of_le z1 hq_wZG.size); clear hq_wZG; (have hp_wZG : Below W5.heap.size W5 wZG := by exact zbl); (have hd_wZG := (bcell hp_wZG).1); (have y5_wZG : ob < wZG.heap.size := Nat.lt_of_lt_of_le z5 hp_wZG.size); clear hp_wZG) | (go_at_call 16; (with_reducible refine Calls.mono (awake_c _ (HKD.out.to (by exact zbl)) (HPW.out.to (by exact zbl))) ?_); rintro e wK ⟨rfl, hbK⟩))
                go_ret
                exact ⟨rfl, HB0.out.trans ((show Below W0.heap.size W0 _ by exact zbl).mono HB0.out.size)⟩
end Go.Proofs.YtehnikhicnnnhaaGreatDoor
namespace Go.Proofs.YtehnikhicnnnhaaGreatDoor
open Go.RowKit

set_option maxRecDepth 100000 in
set_option maxHeartbeats 16000000 in
theorem BeamLeastF_c (a : GA) (g : Grd) (n0 n1 : Int) (w : World) (h8 : 0 ≤ n0 ∧ n0 ≤ 255) (h9 : 0 ≤ n1 ∧ n1 ≤ 255) (hr : GridR w w.heap.size a g) (hk : KindsAt w) (hp : PowAt w) (hfw : fewG g = true) (he0 : ((g.sta.length : Int) == 0) = false) (hs0 : isSafeG g (Int.tmod n0 g.sta.length) = true) (hs1 : isSafeG g (Int.tmod n1 g.sta.length) = true) (hpb : (wayG g (Int.tmod n0 g.sta.length) (Int.tmod n1 g.sta.length)).isSome = false):
    Calls Tryz.prog 7 #[(.agg #[.int .i64 g.blur, .slice a.pS g.sta.length a.cs, .slice a.pM g.mov.length a.cm, .slice a.pZ g.zon.length a.cz]), .agg #[.int .u8 n0, .int .u8 n1]] w fun e w' => e = .returned (.bool true) ∧ Below w.heap.size w w' := by
  obtain ⟨W0, hW0⟩ : ∃ W0, W0 = (w.alloc (.cells #[.int .i64 g.blur, .slice a.pS g.sta.length a.cs, .slice a.pM g.mov.length a.cm, .slice a.pZ g.zon.length a.cz] 26)).alloc (.cells #[.int .u8 n0, .int .u8 n1] 100) := ⟨_, rfl⟩
  have hsz : W0.heap.size = w.heap.size + 2 := by rw [hW0]; simp
  have k0 : W0.heap[w.heap.size]? = some (.cells #[.int .i64 g.blur, .slice a.pS g.sta.length a.cs, .slice a.pM g.mov.length a.cm, .slice a.pZ g.zon.length a.cz] 26 (0, 0)) := by rw [hW0]; exact (Below.heap_alloc _ _ _ (by simp)).trans (heap_alloc_new w _)
  have k1 : W0.heap[w.heap.size + 1]? = some (.cells #[.int .u8 n0, .int .u8 n1] 100 (0, 0)) := by rw [hW0]; exact heap_two w _ _
  have hB0 : Below w.heap.size w W0 := by rw [hW0]; (repeat first | (with_reducible first | assumption | exact Below.refl _ _ | refine Bl.drew ?_ | refine Bl.drewN ?_ _ | refine Bl.alloc ?_ _ | refine Bl.set ?_ _ ?_) | (with_reducible apply Bl.step'; (focus (with_reducible assumption))) | omega | (focus (simp; done)) | (focus (simp; omega)))
  have HG : Hid (GridR W0 W0.heap.size a g) := Lib.hid (hr.to hB0)
  have HKD : Hid (KindsAt W0) := Lib.hid (hk.to hB0)
  have HPW : Hid (PowAt W0) := Lib.hid (hp.to hB0)
  have HB0 := Lib.hid hB0
  have z0 := bk_lt k0
  have z1 := bk_lt k1
  clear hr hk hp hB0
  (obtain ⟨d0, d1, d2, d3⟩ := cg4 k0)
  (obtain ⟨m0, mf0, m1, mf1⟩ := cv2 k1)
  clear k0 k1 mf0 mf1
  have hFW := fun W (h : GridR W W.heap.size a g) => few_c a g W h
  have hfw2 := hfw
  unfold fewG at hfw2
  simp only [Bool.and_eq_true] at hfw2
  obtain ⟨hsh, h10, h11, h12, hgc⟩ := hfw2
  have hsm := short_small hsh
  have HZ := Lib.hid (show gridC g = 0 by simpa using hgc)
  have hns : g.sta.length ≤ 8 := by have := of_decide_eq_true h10; omega
  have HOK := Lib.hid (gridC_ok HZ.out)
  rw [hfw] at hFW
  have HFW := Lib.hid hFW
  clear hFW hfw hsh h10 h11 h12 hgc
  have hn0 : ¬ (g.sta.length : Int) = 0 := by simpa using he0
  have hnp : (0 : Int) < (g.sta.length : Int) := by omega
  have hn2 : ¬ g.sta.length = 0 := by omega
  have hn3 : ¬ g.sta = [] := by intro h; rw [h] at hn2; exact hn2 rfl
  obtain ⟨f, hf⟩ : ∃ f, f = Int.tmod n0 g.sta.length := ⟨_, rfl⟩
  obtain ⟨t, ht⟩ : ∃ t, t = Int.tmod n1 g.sta.length := ⟨_, rfl⟩
  have hfr : 0 ≤ f ∧ f < g.sta.length := by rw [hf]; exact ⟨Int.tmod_nonneg _ h8.1, Int.tmod_lt_of_pos _ hnp⟩
  have htr : 0 ≤ t ∧ t < g.sta.length := by rw [ht]; exact ⟨Int.tmod_nonneg _ h9.1, Int.tmod_lt_of_pos _ hnp⟩
  have e0 : IntKind.i64.wrap n0 = n0 := IntWalk.i64_in _ (by omega)
  have e1 : IntKind.i64.wrap n1 = n1 := IntWalk.i64_in _ (by omega)
  have hf1 : IntKind.i64.wrap (Int.tmod n0 g.sta.length) = f := by rw [← hf]; exact IntWalk.i64_in _ (by omega)
  have ht1 : IntKind.i64.wrap (Int.tmod n1 g.sta.length) = t := by rw [← ht]; exact IntWalk.i64_in _ (by omega)
  have hSF := (fun W (h : GridR W W.heap.size a g) => rSafeG_c a g f W HOK.out h hfr)
  have hST := (fun W (h : GridR W W.heap.size a g) => rSafeG_c a g t W HOK.out h htr)
  rw [← hf] at hs0
  rw [← ht] at hs1
  rw [← hf, ← ht] at hpb
  have HSA := Lib.hid (SafeAt.mk hfr hs0)
  rw [hs0] at hSF
  have HSF := Lib.hid hSF
  have HSB := Lib.hid (SafeAt.mk htr hs1)
  rw [hs1] at hST
  have HST := Lib.hid hST
  clear hSF hs0 hST hs1
  have HU := Lib.hid (gridC_uniq HZ.out)
  obtain ⟨X3, hX3⟩ : ∃ X, X = reachG g f := ⟨_, rfl⟩
  have HX3 := Lib.hid hX3
  have hn3 : X3.length ≤ g.sta.length := by rw [hX3]; exact reachG_len g f
  have hn3' : X3.length ≤ 1000 := by omega
  have hgt : decide ((g.sta.length : Int) < (X3.length : Int)) = false := decide_eq_false (by omega)
  have hgt2 : decide (g.sta.length < X3.length) = false := decide_eq_false (by omega)
  have HNE := Lib.hid (show X3 ≠ [] from by
    have : f ∈ X3 := by rw [hX3]; exact (mem_reach HOK.out HU.out HSA.out).2 ⟨_, Wk.nil⟩
    intro h
    rw [h] at this
    cases this)
  have HFM := Lib.hid (show f ∈ X3 by rw [hX3]; exact (mem_reach HOK.out HU.out HSA.out).2 ⟨_, Wk.nil⟩)
  have HAT := Lib.hid (show ∀ x ∈ X3, SafeAt g x from fun x hx => reach_at HOK.out HU.out HSA.out (by rw [← HX3.out]; exact hx))
  have HRE := Lib.hid (show ∀ W a' x, x ∈ X3 → GridR W W.heap.size a' g → KindsAt W → Calls Tryz.prog 17 #[(.agg #[.int .i64 g.blur, .slice a'.pS g.sta.length a'.cs, .slice a'.pM g.mov.length a'.cm, .slice a'.pZ g.zon.length a'.cz]), .int .i64 x] W fun e w' => ∃ A c, e = .returned (.tuple #[.slice A X3.length c, .int .i64 0]) ∧ IntsR w' w'.heap.size A X3 ∧ Below W.heap.size W w' from fun W a' x hx h1 h2 => by
    have h3 := lRea_c a' g x W HZ.out hsm (HAT.out x hx) h1 h2
    rw [reach_eq HOK.out HU.out HSA.out (by rw [← HX3.out]; exact hx), ← HX3.out] at h3
    exact h3)
  have HSI := Lib.hid (show ∀ W A A' c c', IntsR W W.heap.size A X3 → IntsR W W.heap.size A' X3 → Calls Tryz.prog 56 #[.slice A X3.length c, .slice A' X3.length c'] W fun e w' => e = .returned (.bool true) ∧ Below W.heap.size W w' from fun W A A' c c' h1 h2 => by
    have h3 := sameInts_c A A' c c' X3 X3 W (by omega) h1 h2
    rw [show decide (X3 = X3) = true by simp] at h3
    exact h3)
  clear hX3
  have hai : X3.any (t == ·) = false := by rw [HX3.out, ← way_reach HOK.out HU.out HSA.out]; exact hpb
  have HHI := Lib.hid (show ∀ W A' c', IntsR W W.heap.size A' X3 → Calls Tryz.prog 35 #[.slice A' X3.length c', .int .i64 t] W fun e w' => e = .returned (.bool false) ∧ W = w' from fun W A' c' h => by rw [← hai]; exact hasInt_r t A' X3 c' W _ (by omega) h)
  have HWF := Lib.hid (show ∀ W a', GridR W W.heap.size a' g → KindsAt W → Calls Tryz.prog 19 #[(.agg #[.int .i64 g.blur, .slice a'.pS g.sta.length a'.cs, .slice a'.pM g.mov.length a'.cm, .slice a'.pZ g.zon.length a'.cz]), .int .i64 f, .int .i64 t] W fun e w' => ∃ A c, e = .returned (.tuple #[.slice A 0 c, .int .i64 0, .int .i64 7]) ∧ Below W.heap.size W w' from fun W a' h1 h2 => lWayN_c a' g f t W HZ.out hsm HSA.out HSB.out hpb h1 h2)
  have HBA := Lib.hid (show ∀ W a', GridR W W.heap.size a' g → KindsAt W → Calls Tryz.prog 31 #[(.agg #[.int .i64 g.blur, .slice a'.pS g.sta.length a'.cs, .slice a'.pM g.mov.length a'.cm, .slice a'.pZ g.zon.length a'.cz]), .int .i64 f, .int .i64 t] W fun e w' => ∃ A c, e = .returned (.tuple #[.slice A X3.length c, .int .i64 0]) ∧ IntsR w' w'.heap.size A X3 ∧ Below W.heap.size W w' from fun W a' h1 h2 => by
    rw [HX3.out]; exact lBar_c a' g f t W HZ.out hsm HSA.out HSB.out hpb h1 h2)
  have HCB := Lib.hid (show ∀ W a' A' c', GridR W W.heap.size a' g → KindsAt W → IntsR W W.heap.size A' X3 → Calls Tryz.prog 32 #[(.agg #[.int .i64 g.blur, .slice a'.pS g.sta.length a'.cs, .slice a'.pM g.mov.length a'.cm, .slice a'.pZ g.zon.length a'.cz]), .int .i64 f, .int .i64 t, .slice A' X3.length c'] W fun e w' => e = .returned (.int .i64 0) ∧ Below W.heap.size W w' from fun W a' A' c' h1 h2 h3 => by
    have h4 := lCb_c a' g f t A' c' W HZ.out hsm HSA.out HSB.out hpb h1 h2 (by rw [← HX3.out]; exact h3)
    rw [← HX3.out] at h4
    exact h4)
  have HINT := Lib.hid (show ∀ W A' c', IntsR W W.heap.size A' X3 → Calls Tryz.prog 30 #[.slice A' X3.length c'] W fun e w' => ∃ A c, e = .returned (.slice A X3.length c) ∧ IntsR w' w'.heap.size A X3 ∧ Below W.heap.size W w' from fun W A' c' h => by
    obtain ⟨b, off, rfl, _, _⟩ := h.at HNE.out
    refine (ints_c (some ⟨b, off, none⟩) X3 c' W (by omega) h (by intro h; cases h)).mono ?_
    rintro e w' ⟨v, rfl, ho, hb⟩
    obtain ⟨A, c, rfl, _, h5⟩ := ho.ints
    exact ⟨A, c, rfl, h5, hb⟩)
  clear hai hpb
  go_enter Tryz.func7, Tryz.ntmps7
  go_upto_region 1 with fail
  rw [← hW0]
  clear hW0
  go_upto_region 3 with (go_at_call 54; (with_reducible refine Calls.mono (HFW.out _ (HG.out.to (by exact zbl))) ?_); rintro e wA ⟨rfl, hbA⟩; (have hq_wA : Below W0.heap.size W0 wA := by exact zbl); (have hc_wA := (bcell hq_wA).1); (have y0_wA : w.heap.size < wA.heap.size := Nat.lt_of_lt_of_le z0 hq_wA.size); (have y1_wA : w.heap.size + 1 < wA.heap.size := Nat.lt_of_lt_of_le z1 hq_wA.size); clear hq_wA)
  go_region_held3 (fun W => (W0).heap.size ≤ W.heap.size ∧ (∀ b o, b < (W0).heap.size → W.cell? ⟨b, o, none⟩ = (W0).cell? ⟨b, o, none⟩) ∧ (∀ b, b < (W0).heap.size → W.heap[b]? = (W0).heap[b]?)) ((refine Sh.goal ?_; repeat first | (with_reducible first | assumption | exact Sh.refl _ | refine Sh.drew ?_ | refine Sh.alloc ?_ _ | refine Sh.set ?_ _ ?_) | (with_reducible apply Sh.below'; (focus (with_reducible assumption))) | omega | (focus (simp; done)) | (focus (simp; omega)))) (first | fail)
  rename_i hX
  clear hX
  rw [← hf, ← ht]
  (try rw [he0])
  clear hf ht
  go_upto_region 6 with (first | (go_at_call 55; (with_reducible refine Calls.mono (HSF.out _ (HG.out.to (by exact zbl))) ?_); rintro e wS ⟨rfl, hbS⟩; (have hq_wS : Below W0.heap.size W0 wS := by exact zbl); (have hc_wS := (bcell hq_wS).1); (have y0_wS : w.heap.size < wS.heap.size := Nat.lt_of_lt_of_le z0 hq_wS.size); (have y1_wS : w.heap.size + 1 < wS.heap.size := Nat.lt_of_lt_of_le z1 hq_wS.size); clear hq_wS) | (go_at_call 55; (with_reducible refine Calls.mono (HST.out _ (HG.out.to (by exact zbl))) ?_); rintro e wU ⟨rfl, hbU⟩; (have hq_wU : Below W0.heap.size W0 wU := by exact zbl); (have hc_wU := (bcell hq_wU).1); (have y0_wU : w.heap.size < wU.heap.size := Nat.lt_of_lt_of_le z0 hq_wU.size); (have y1_wU : w.heap.size + 1 < wU.heap.size := Nat.lt_of_lt_of_le z1 hq_wU.size); clear hq_wU))
  go_upto_region 7 with (first | (go_at_call 18; (with_reducible refine Calls.mono (grid_c a g _ hsm (HG.out.to (by exact zbl))) ?_); rintro e wB ⟨aB, rfl, hgB, hbB⟩; (have hq_wB : Below W0.heap.size W0 wB := by exact zbl); (have hc_wB := (bcell hq_wB).1); (have y0_wB : w.heap.size < wB.heap.size := Nat.lt_of_lt_of_le z0 hq_wB.size); (have y1_wB : w.heap.size + 1 < wB.heap.size := Nat.lt_of_lt_of_le z1 hq_wB.size); clear hq_wB) | (go_at_call 19; (with_reducible refine Calls.mono (HWF.out _ aB (hgB.to (by exact zbl)) (HKD.out.to (by exact zbl))) ?_); rintro e wC ⟨A1, c1, rfl, hbC⟩; (have hq_wC : Below W0.heap.size W0 wC := by exact zbl); (have hc_wC := (bcell hq_wC).1); (have y0_wC : w.heap.size < wC.heap.size := Nat.lt_of_lt_of_le z0 hq_wC.size); (have y1_wC : w.heap.size + 1 < wC.heap.size := Nat.lt_of_lt_of_le z1 hq_wC.size); clear hq_wC))
  go_upto_region 8 with (first | (go_at_call 18; (with_reducible refine Calls.mono (grid_c a g _ hsm (HG.out.to (by exact zbl))) ?_); rintro e wD ⟨aD, rfl, hgD, hbD⟩; (have hq_wD : Below W0.heap.size W0 wD := by exact zbl); (have hc_wD := (bcell hq_wD).1); (have y0_wD : w.heap.size < wD.heap.size := Nat.lt_of_lt_of_le z0 hq_wD.size); (have y1_wD : w.heap.size + 1 < wD.heap.size := Nat.lt_of_lt_of_le z1 hq_wD.size); clear hq_wD) | (go_at_call 31; (with_reducible refine Calls.mono (HBA.out _ aD (hgD.to (by exact zbl)) (HKD.out.to (by exact zbl))) ?_); rintro e wE ⟨A2, c2, rfl, hi2, hbE⟩; (have I2 := Lib.hid hi2); clear hi2; (have hq_wE : Below W0.heap.size W0 wE := by exact zbl); (have hc_wE := (bcell hq_wE).1); (have y0_wE : w.heap.size < wE.heap.size := Nat.lt_of_lt_of_le z0 hq_wE.size); (have y1_wE : w.heap.size + 1 < wE.heap.size := Nat.lt_of_lt_of_le z1 hq_wE.size); clear hq_wE))
  go_upto_region 9 with (first | (go_at_call 18; (with_reducible refine Calls.mono (grid_c a g _ hsm (HG.out.to (by exact zbl))) ?_); rintro e wF ⟨aF, rfl, hgF, hbF⟩; (have hq_wF : Below W0.heap.size W0 wF := by exact zbl); (have hc_wF := (bcell hq_wF).1); (have y0_wF : w.heap.size < wF.heap.size := Nat.lt_of_lt_of_le z0 hq_wF.size); (have y1_wF : w.heap.size + 1 < wF.heap.size := Nat.lt_of_lt_of_le z1 hq_wF.size); clear hq_wF) | (go_at_call 17; (with_reducible refine Calls.mono (HRE.out _ aF f HFM.out (hgF.to (by exact zbl)) (HKD.out.to (by exact zbl))) ?_); rintro e wH ⟨A3, c3, rfl, hi3, hbH⟩; (have I3 := Lib.hid hi3); clear hi3; (have hq_wH : Below W0.heap.size W0 wH := by exact zbl); (have hc_wH := (bcell hq_wH).1); (have y0_wH : w.heap.size < wH.heap.size := Nat.lt_of_lt_of_le z0 hq_wH.size); (have y1_wH : w.heap.size + 1 < wH.heap.size := Nat.lt_of_lt_of_le z1 hq_wH.size); clear hq_wH))
  have hHI := HHI.out _ A3 c3 I3.out
  obtain ⟨b3, o3, e3, hb3, hc3⟩ := I3.out.at HNE.out
  subst e3
  have HHJ := Lib.hid hHI
  have HX3P := Lib.hid (show ∀ W, Below wH.heap.size wH W → ∀ k (h : k < X3.length), W.cell? ⟨b3, o3 + k, none⟩ = some (.int .i64 X3[k]) from fun W h k hk => (h.cell (p := ⟨b3, o3 + k, none⟩) hb3).trans (hc3 k hk))
  clear hHI hc3
  go_upto_region 11 with (go_at_call 35; (with_reducible refine Calls.mono (HHJ.out) ?_); rintro e wI ⟨rfl, rfl⟩)
  go_wp2_with fail
  go_loopw [143] (fun i wr => ∃ k : Nat, k ≤ X3.length ∧ i = .int .i64 k ∧ Below wH.heap.size wH wr) (fun i _ => X3.length - (intOf i).toNat)
  case atStart => exact ⟨0, Nat.zero_le _, rfl, Below.refl _ _⟩
  case round =>
    obtain ⟨k, hk, rfl, hbr⟩ := hrel
    have hq_wr : Below W0.heap.size W0 wr := by exact zbl
    have hc_wr := (bcell hq_wr).1
    have y0_wr : w.heap.size < wr.heap.size := Nat.lt_of_lt_of_le z0 hq_wr.size
    have y1_wr : w.heap.size + 1 < wr.heap.size := Nat.lt_of_lt_of_le z1 hq_wr.size
    clear hq_wr
    by_cases hlt : k < X3.length
    · obtain ⟨v, hv⟩ : ∃ v, v = X3[k] := ⟨_, rfl⟩
      have x0 : wr.cell? ⟨b3, o3 + k, none⟩ = some (.int .i64 v) := by rw [hv]; exact HX3P.out wr (by exact zbl) k hlt
      have HVM := Lib.hid (show v ∈ X3 by rw [hv]; exact List.getElem_mem hlt)
      have hvr := (HAT.out v HVM.out).rng
      have q1 : decide (v < 0) = false := decide_eq_false (by omega)
      have q2 : decide ((g.sta.length : Int) ≤ v) = false := decide_eq_false (by omega)
      clear hv
      go_wp2_with (first | (go_at_call 18; (with_reducible refine Calls.mono (grid_c a g _ hsm (HG.out.to (by exact zbl))) ?_); rintro e wK ⟨aK, rfl, hgK, hbK⟩; (have hq_wK : Below W0.heap.size W0 wK := by exact zbl); (have hc_wK := (bcell hq_wK).1); (have y0_wK : w.heap.size < wK.heap.size := Nat.lt_of_lt_of_le z0 hq_wK.size); (have y1_wK : w.heap.size + 1 < wK.heap.size := Nat.lt_of_lt_of_le z1 hq_wK.size); clear hq_wK) | (go_at_call 17; (with_reducible refine Calls.mono (HRE.out _ aK v HVM.out (hgK.to (by exact zbl)) (HKD.out.to (by exact zbl))) ?_); rintro e wL ⟨A4, c4, rfl, hi4, hbL⟩; (have I4 := Lib.hid hi4); clear hi4; (have hq_wL : Below W0.heap.size W0 wL := by exact zbl); (have hc_wL := (bcell hq_wL).1); (have y0_wL : w.heap.size < wL.heap.size := Nat.lt_of_lt_of_le z0 hq_wL.size); (have y1_wL : w.heap.size + 1 < wL.heap.size := Nat.lt_of_lt_of_le z1 hq_wL.size); clear hq_wL) | (go_at_call 56; (with_reducible refine Calls.mono (HSI.out _ A4 (some ⟨b3, o3, none⟩) c4 c3 (I4.out.to (by exact zbl)) (I3.out.to (by exact zbl))) ?_); rintro e wM ⟨rfl, hbM⟩; (have hq_wM : Below W0.heap.size W0 wM := by exact zbl); (have hc_wM := (bcell hq_wM).1); (have y0_wM : w.heap.size < wM.heap.size := Nat.lt_of_lt_of_le z0 hq_wM.size); (have y1_wM : w.heap.size + 1 < wM.heap.size := Nat.lt_of_lt_of_le z1 hq_wM.size); clear hq_wM))
      go_roundw
      case rel => first | exact ⟨k + 1, by omega, by go_num, hbr.trans ((show Below wr.heap.size wr _ by exact zbl).mono hbr.size)⟩ | ((repeat apply Exists.intro); refine ⟨?_, rfl⟩; exact ⟨k + 1, by omega, by go_num, hbr.trans ((show Below wr.heap.size wr _ by exact zbl).mono hbr.size)⟩)
      case measure => simp [intOf]; omega
    · obtain ⟨W2, rfl⟩ : ∃ W, W = wr := ⟨wr, rfl⟩
      go_upto_region 22 with (first | (go_at_call 18; (with_reducible refine Calls.mono (grid_c a g _ hsm (HG.out.to (by exact zbl))) ?_); rintro e wN ⟨aN, rfl, hgN, hbN⟩; (have hq_wN : Below W0.heap.size W0 wN := by exact zbl); (have hc_wN := (bcell hq_wN).1); (have y0_wN : w.heap.size < wN.heap.size := Nat.lt_of_lt_of_le z0 hq_wN.size); (have y1_wN : w.heap.size + 1 < wN.heap.size := Nat.lt_of_lt_of_le z1 hq_wN.size); clear hq_wN) | (go_at_call 30; (with_reducible refine Calls.mono (HINT.out _ A2 c2 (I2.out.to (by exact zbl))) ?_); rintro e wO ⟨AO, cO, rfl, hiO, hbO⟩; (have IO := Lib.hid hiO); clear hiO; (have hq_wO : Below W0.heap.size W0 wO := by exact zbl); (have hc_wO := (bcell hq_wO).1); (have y0_wO : w.heap.size < wO.heap.size := Nat.lt_of_lt_of_le z0 hq_wO.size); (have y1_wO : w.heap.size + 1 < wO.heap.size := Nat.lt_of_lt_of_le z1 hq_wO.size); clear hq_wO) | (go_at_call 32; (with_reducible refine Calls.mono (HCB.out _ aN AO cO (hgN.to (by exact zbl)) (HKD.out.to (by exact zbl)) (IO.out.to (by exact zbl))) ?_); rintro e wP ⟨rfl, hbP⟩; (have hq_wP : Below W0.heap.size W0 wP := by exact zbl); (have hc_wP := (bcell hq_wP).1); (have y0_wP : w.heap.size < wP.heap.size := Nat.lt_of_lt_of_le z0 hq_wP.size); (have y1_wP : w.heap.size + 1 < wP.heap.size := Nat.lt_of_lt_of_le z1 hq_wP.size); clear hq_wP))
      go_upto_region 35 with fail
      cases hz0 : ((g.zon.length : Int) == 0)
      case true =>
        go_wp2_with (go_at_call 16; (with_reducible refine Calls.mono (awake_c _ (HKD.out.to (by exact zbl)) (HPW.out.to (by exact zbl))) ?_); rintro e wK ⟨rfl, hbK⟩)
        go_ret
        exact ⟨rfl, HB0.out.trans ((show Below W0.heap.size W0 _ by exact zbl).mono HB0.out.size)⟩
      case false =>
        have hzn : 0 < g.zon.length := by have : ¬ (g.zon.length : Int) = 0 := by simpa using hz0
                                          omega
        obtain ⟨bz, oz, ez, hbz, _⟩ := HG.out.zon.get (k := 0) (by simpa using hzn)
        have hcz := HG.out.capZ
        have HEZ := Lib.hid ez
        obtain ⟨AZ, hAZ⟩ : ∃ A, A = (if a.cz = 1 then a.pZ else Option.map (fun x => ({ block := x.block, off := x.off + 4 } : Addr)) a.pZ) := ⟨_, rfl⟩
        have HG2 := Lib.hid (show GridR W0 W0.heap.size { a with pZ := AZ, cz := a.cz - 1 } (openG g) from by
          rw [hAZ]
          by_cases h1 : a.cz = 1
          · rw [if_pos h1]
            have h3 : (openG g).zon = [] := by
              show g.zon.tail = []
              apply List.eq_nil_of_length_eq_zero
              rw [List.length_tail]
              omega
            refine ⟨HG.out.sta, HG.out.mov, ?_, HG.out.capS, HG.out.capM, ?_⟩
            · rw [h3]; exact Rw.nil_
            · rw [h3]; simp
          · rw [if_neg h1, ez]
            exact HG.out.open_ ez hzn)
        obtain ⟨X5, hX5⟩ : ∃ X, X = safeMs g g.mov := ⟨_, rfl⟩
        obtain ⟨X6, hX6⟩ : ∃ X, X = safeMs (openG g) g.mov := ⟨_, rfl⟩
        have hnm := hsm.nm
        have hso := safeMs_open g
        rw [← hX5, ← hX6] at hso
        have h5l : X5.length ≤ 1000 := by rw [hX5]; exact Nat.le_trans (safeMs_len g g.mov) hnm
        have h6l : X6.length ≤ 1000 := by rw [hX6]; exact Nat.le_trans (safeMs_len (openG g) g.mov) hnm
        have q6 : decide ((X6.length : Int) < (X5.length : Int)) = false := decide_eq_false (by have := hso.1; omega)
        have q6b : decide (X6.length < X5.length) = false := decide_eq_false (by have := hso.1; omega)
        have q6c : ¬ X6.length < X5.length := by have := hso.1; omega
        have HGO := Lib.hid (show ∀ W, Below W0.heap.size W0 W → Calls Tryz.prog 18 #[.agg #[.int .i64 g.blur, .slice a.pS g.sta.length a.cs, .slice a.pM g.mov.length a.cm, .slice AZ (g.zon.length - 1) (a.cz - 1)]] W fun e w' => ∃ a', e = .returned (.agg #[.int .i64 (openG g).blur, .slice a'.pS (openG g).sta.length a'.cs, .slice a'.pM (openG g).mov.length a'.cm, .slice a'.pZ (openG g).zon.length a'.cz]) ∧ GridR w' w'.heap.size a' (openG g) ∧ Below W.heap.size W w' from fun W h => by
          have h4 := grid_c { a with pZ := AZ, cz := a.cz - 1 } (openG g) W (openS hsm) (HG2.out.to h)
          have h5 : (openG g).zon.length = g.zon.length - 1 := by show g.zon.tail.length = _; rw [List.length_tail]
          rw [← h5]
          exact h4)
        have HSO := Lib.hid (show ∀ W a', GridR W W.heap.size a' (openG g) → KindsAt W → Calls Tryz.prog 57 #[(.agg #[.int .i64 (openG g).blur, .slice a'.pS (openG g).sta.length a'.cs, .slice a'.pM (openG g).mov.length a'.cm, .slice a'.pZ (openG g).zon.length a'.cz])] W fun e w' => ∃ A c, e = .returned (.tuple #[.slice A X6.length c, .int .i64 0]) ∧ IntsR w' w'.heap.size A X6 ∧ Below W.heap.size W w' from fun W a' h1 h2 => by
          rw [hX6]; exact lSm_c a' (openG g) W (openC HZ.out) (openS hsm) h1 h2)
        have HSG := Lib.hid (show ∀ W a', GridR W W.heap.size a' g → KindsAt W → Calls Tryz.prog 57 #[(.agg #[.int .i64 g.blur, .slice a'.pS g.sta.length a'.cs, .slice a'.pM g.mov.length a'.cm, .slice a'.pZ g.zon.length a'.cz])] W fun e w' => ∃ A c, e = .returned (.tuple #[.slice A X5.length c, .int .i64 0]) ∧ IntsR w' w'.heap.size A X5 ∧ Below W.heap.size W w' from fun W a' h1 h2 => by
          rw [hX5]; exact lSm_c a' g W HZ.out hsm h1 h2)
        have HHM := Lib.hid (show ∀ W v, v ∈ X5 → ∀ A' c', IntsR W W.heap.size A' X6 → Calls Tryz.prog 35 #[.slice A' X6.length c', .int .i64 v] W fun e w' => e = .returned (.bool true) ∧ W = w' from fun W v hv A' c' h => by
          rw [← hso.2 v hv]; exact hasInt_r v A' X6 c' W _ (by omega) h)
        clear hX5 hX6 hso ez
        have i1 : (1 : Int) ≤ (g.zon.length : Int) := by omega
        go_upto_region 39 with fail
        rw [← hAZ]
        obtain ⟨ob, hob⟩ : ∃ b, b = wP.heap.size := ⟨_, rfl⟩
        obtain ⟨W5, hW5⟩ : ∃ W, W = wP.alloc (.cells #[.int .i64 g.blur, .slice a.pS g.sta.length a.cs, .slice a.pM g.mov.length a.cm, .slice AZ (g.zon.length - 1) (a.cz - 1)] 26) := ⟨_, rfl⟩
        rw [← hob, ← hW5]
        have k5 : W5.heap[ob]? = some (.cells #[.int .i64 g.blur, .slice a.pS g.sta.length a.cs, .slice a.pM g.mov.length a.cm, .slice AZ (g.zon.length - 1) (a.cz - 1)] 26 (0, 0)) := by rw [hW5, hob]; exact heap_alloc_new _ _
        have hB5 : Below W0.heap.size W0 W5 := by rw [hW5]; (repeat first | (with_reducible first | assumption | exact Below.refl _ _ | refine Bl.drew ?_ | refine Bl.drewN ?_ _ | refine Bl.alloc ?_ _ | refine Bl.set ?_ _ ?_) | (with_reducible apply Bl.step'; (focus (with_reducible assumption))) | omega | (focus (simp; done)) | (focus (simp; omega)))
        have z5 := bk_lt k5
        have y0_W5 : w.heap.size < W5.heap.size := Nat.lt_of_lt_of_le z0 hB5.size
        have y1_W5 : w.heap.size + 1 < W5.heap.size := Nat.lt_of_lt_of_le z1 hB5.size
        have hc_W5 := (bcell hB5).1
        have HB5 := hB5
        (obtain ⟨p0, pf0, p1, pf1, p2, pf2, p3, pf3⟩ := cv4 k5)
        clear hW5 k5 pf0 pf1 pf2 pf3 hAZ hob
        go_upto_region 40 with (first | (go_at_call 18; (with_reducible refine Calls.mono (HGO.out _ (by exact zbl)) ?_); rintro e wZA ⟨aZA, rfl, hgZA, hbZA⟩; (have hq_wZA : Below W0.heap.size W0 wZA := by exact zbl); (have hc_wZA := (bcell hq_wZA).1); (have y0_wZA : w.heap.size < wZA.heap.size := Nat.lt_of_lt_of_le z0 hq_wZA.size); (have y1_wZA : w.heap.size + 1 < wZA.heap.size := Nat.lt_of_lt_of_le z1 hq_wZA.size); clear hq_wZA; (have hp_wZA : Below W5.heap.size W5 wZA := by exact zbl); (have hd_wZA := (bcell hp_wZA).1); (have y5_wZA : ob < wZA.heap.size := Nat.lt_of_lt_of_le z5 hp_wZA.size); clear hp_wZA) | (go_at_call 57; (with_reducible refine Calls.mono (HSO.out _ aZA (hgZA.to (by exact zbl)) (HKD.out.to (by exact zbl))) ?_); rintro e wZB ⟨A8, c8, rfl, hi8, hbZB⟩; (have I8 := Lib.hid hi8); clear hi8; (have hq_wZB : Below W0.heap.size W0 wZB := by exact zbl); (have hc_wZB := (bcell hq_wZB).1); (have y0_wZB : w.heap.size < wZB.heap.size := Nat.lt_of_lt_of_le z0 hq_wZB.size); (have y1_wZB : w.heap.size + 1 < wZB.heap.size := Nat.lt_of_lt_of_le z1 hq_wZB.size); clear hq_wZB; (have hp_wZB : Below W5.heap.size W5 wZB := by exact zbl); (have hd_wZB := (bcell hp_wZB).1); (have y5_wZB : ob < wZB.heap.size := Nat.lt_of_lt_of_le z5 hp_wZB.size); clear hp_wZB))
        go_upto_region 41 with (first | (go_at_call 18; (with_reducible refine Calls.mono (grid_c a g _ hsm (HG.out.to (by exact zbl))) ?_); rintro e wZC ⟨aZC, rfl, hgZC, hbZC⟩; (have hq_wZC : Below W0.heap.size W0 wZC := by exact zbl); (have hc_wZC := (bcell hq_wZC).1); (have y0_wZC : w.heap.size < wZC.heap.size := Nat.lt_of_lt_of_le z0 hq_wZC.size); (have y1_wZC : w.heap.size + 1 < wZC.heap.size := Nat.lt_of_lt_of_le z1 hq_wZC.size); clear hq_wZC; (have hp_wZC : Below W5.heap.size W5 wZC := by exact zbl); (have hd_wZC := (bcell hp_wZC).1); (have y5_wZC : ob < wZC.heap.size := Nat.lt_of_lt_of_le z5 hp_wZC.size); clear hp_wZC) | (go_at_call 57; (with_reducible refine Calls.mono (HSG.out _ aZC (hgZC.to (by exact zbl)) (HKD.out.to (by exact zbl))) ?_); rintro e wZD ⟨A9, c9, rfl, hi9, hbZD⟩; (have I9 := Lib.hid hi9); clear hi9; (have hq_wZD : Below W0.heap.size W0 wZD := by exact zbl); (have hc_wZD := (bcell hq_wZD).1); (have y0_wZD : w.heap.size < wZD.heap.size := Nat.lt_of_lt_of_le z0 hq_wZD.size); (have y1_wZD : w.heap.size + 1 < wZD.heap.size := Nat.lt_of_lt_of_le z1 hq_wZD.size); clear hq_wZD; (have hp_wZD : Below W5.heap.size W5 wZD := by exact zbl); (have hd_wZD := (bcell hp_wZD).1); (have y5_wZD : ob < wZD.heap.size := Nat.lt_of_lt_of_le z5 hp_wZD.size); clear hp_wZD))
        go_upto_region 43 with fail
        go_wp2_with fail
        go_loopw [310] (fun i wr => ∃ k : Nat, k ≤ X5.length ∧ i = .int .i64 k ∧ Below wZD.heap.size wZD wr) (fun i _ => X5.length - (intOf i).toNat)
        case atStart => exact ⟨0, Nat.zero_le _, rfl, Below.refl _ _⟩
        case round =>
          obtain ⟨k, hk, rfl, hbr9⟩ := hrel
          (have hq_wr : Below W0.heap.size W0 wr := by exact zbl); (have hc_wr := (bcell hq_wr).1); (have y0_wr : w.heap.size < wr.heap.size := Nat.lt_of_lt_of_le z0 hq_wr.size); (have y1_wr : w.heap.size + 1 < wr.heap.size := Nat.lt_of_lt_of_le z1 hq_wr.size); clear hq_wr; (have hp_wr : Below W5.heap.size W5 wr := by exact zbl); (have hd_wr := (bcell hp_wr).1); (have y5_wr : ob < wr.heap.size := Nat.lt_of_lt_of_le z5 hp_wr.size); clear hp_wr
          by_cases hlt : k < X5.length
          · obtain ⟨b9, o9, e9, hb9, hc9⟩ := I9.out.at (by intro h; rw [h] at hlt; simp at hlt)
            subst e9
            obtain ⟨v, hv⟩ : ∃ v, v = X5[k] := ⟨_, rfl⟩
            have x0 : wr.cell? ⟨b9, o9 + k, none⟩ = some (.int .i64 v) := by rw [hv]; exact (hbr9.cell (p := ⟨b9, o9 + k, none⟩) hb9).trans (hc9 k hlt)
            have HVM := Lib.hid (show v ∈ X5 by rw [hv]; exact List.getElem_mem hlt)
            clear hv hc9
            go_wp2_with (go_at_call 35; (with_reducible refine Calls.mono (HHM.out _ v HVM.out A8 c8 (I8.out.to (by exact zbl))) ?_); rintro e wZE ⟨rfl, rfl⟩)
            go_roundw
            case rel => first | exact ⟨k + 1, by omega, by go_num, hbr9⟩ | ((repeat apply Exists.intro); refine ⟨?_, rfl⟩; exact ⟨k + 1, by omega, by go_num, hbr9⟩)
            case measure => simp [intOf]; omega
          · go_wp2_with (go_at_call 16; (with_reducible refine Calls.mono (awake_c _ (HKD.out.to (by exact zbl)) (HPW.out.to (by exact zbl))) ?_); rintro e wK ⟨rfl, hbK⟩)
            go_ret
            exact ⟨rfl, HB0.out.trans ((show Below W0.heap.size W0 _ by exact zbl).mono HB0.out.size)⟩
end Go.Proofs.YtehnikhicnnnhaaGreatDoor
namespace Go.Proofs.YtehnikhicnnnhaaGreatDoor
open Go.RowKit

set_option maxRecDepth 100000 in
set_option maxHeartbeats 16000000 in
theorem BeamLeast_c (a : GA) (g : Grd) (n0 n1 : Int) (w : World) (h8 : 0 ≤ n0 ∧ n0 ≤ 255) (h9 : 0 ≤ n1 ∧ n1 ≤ 255) (hr : GridR w w.heap.size a g) (hk : KindsAt w) (hp : PowAt w) :
    Calls Tryz.prog 7 #[(.agg #[.int .i64 g.blur, .slice a.pS g.sta.length a.cs, .slice a.pM g.mov.length a.cm, .slice a.pZ g.zon.length a.cz]), .agg #[.int .u8 n0, .int .u8 n1]] w fun e w' => e = .returned (.bool true) ∧ Below w.heap.size w w' := by
  have hr0 := hr
  have hk0 := hk
  have hp0 := hp
  obtain ⟨W0, hW0⟩ : ∃ W0, W0 = (w.alloc (.cells #[.int .i64 g.blur, .slice a.pS g.sta.length a.cs, .slice a.pM g.mov.length a.cm, .slice a.pZ g.zon.length a.cz] 26)).alloc (.cells #[.int .u8 n0, .int .u8 n1] 100) := ⟨_, rfl⟩
  have hsz : W0.heap.size = w.heap.size + 2 := by rw [hW0]; simp
  have k0 : W0.heap[w.heap.size]? = some (.cells #[.int .i64 g.blur, .slice a.pS g.sta.length a.cs, .slice a.pM g.mov.length a.cm, .slice a.pZ g.zon.length a.cz] 26 (0, 0)) := by rw [hW0]; exact (Below.heap_alloc _ _ _ (by simp)).trans (heap_alloc_new w _)
  have k1 : W0.heap[w.heap.size + 1]? = some (.cells #[.int .u8 n0, .int .u8 n1] 100 (0, 0)) := by rw [hW0]; exact heap_two w _ _
  have hB0 : Below w.heap.size w W0 := by rw [hW0]; (repeat first | (with_reducible first | assumption | exact Below.refl _ _ | refine Bl.drew ?_ | refine Bl.drewN ?_ _ | refine Bl.alloc ?_ _ | refine Bl.set ?_ _ ?_) | (with_reducible apply Bl.step'; (focus (with_reducible assumption))) | omega | (focus (simp; done)) | (focus (simp; omega)))
  have HG : Hid (GridR W0 W0.heap.size a g) := Lib.hid (hr.to hB0)
  have HKD : Hid (KindsAt W0) := Lib.hid (hk.to hB0)
  have HPW : Hid (PowAt W0) := Lib.hid (hp.to hB0)
  have HB0 := Lib.hid hB0
  have z0 := bk_lt k0
  have z1 := bk_lt k1
  clear hr hk hp hB0
  (obtain ⟨d0, d1, d2, d3⟩ := cg4 k0)
  (obtain ⟨m0, mf0, m1, mf1⟩ := cv2 k1)
  clear k0 k1 mf0 mf1
  have hFW := fun W (h : GridR W W.heap.size a g) => few_c a g W h
  cases hfw : fewG g
  · rw [hfw] at hFW
    have HFW := Lib.hid hFW
    clear hFW hfw
    go_enter Tryz.func7, Tryz.ntmps7
    go_upto_region 1 with fail
    rw [← hW0]
    clear hW0
    go_wp2_with (first | (go_at_call 54; (with_reducible refine Calls.mono (HFW.out _ (HG.out.to (by exact zbl))) ?_); rintro e wA ⟨rfl, hbA⟩; (have hq_wA : Below W0.heap.size W0 wA := by exact zbl); (have hc_wA := (bcell hq_wA).1); (have y0_wA : w.heap.size < wA.heap.size := Nat.lt_of_lt_of_le z0 hq_wA.size); (have y1_wA : w.heap.size + 1 < wA.heap.size := Nat.lt_of_lt_of_le z1 hq_wA.size); clear hq_wA) | (go_at_call 16; (with_reducible refine Calls.mono (awake_c _ (HKD.out.to (by exact zbl)) (HPW.out.to (by exact zbl))) ?_); rintro e wK ⟨rfl, hbK⟩))
    go_ret
    exact ⟨rfl, HB0.out.trans ((show Below W0.heap.size W0 _ by exact zbl).mono HB0.out.size)⟩
  · have hfw0 := hfw
    have hfw2 := hfw
    unfold fewG at hfw2
    simp only [Bool.and_eq_true] at hfw2
    obtain ⟨hsh, h10, h11, h12, hgc⟩ := hfw2
    have hsm := short_small hsh
    have HZ := Lib.hid (show gridC g = 0 by simpa using hgc)
    have hns : g.sta.length ≤ 8 := by have := of_decide_eq_true h10; omega
    have HOK := Lib.hid (gridC_ok HZ.out)
    rw [hfw] at hFW
    have HFW := Lib.hid hFW
    clear hFW hfw hsh h10 h11 h12 hgc
    cases he0 : ((g.sta.length : Int) == 0)
    case true =>
      go_enter Tryz.func7, Tryz.ntmps7
      go_upto_region 1 with fail
      rw [← hW0]
      clear hW0
      go_wp2_with (first | (go_at_call 54; (with_reducible refine Calls.mono (HFW.out _ (HG.out.to (by exact zbl))) ?_); rintro e wA ⟨rfl, hbA⟩; (have hq_wA : Below W0.heap.size W0 wA := by exact zbl); (have hc_wA := (bcell hq_wA).1); (have y0_wA : w.heap.size < wA.heap.size := Nat.lt_of_lt_of_le z0 hq_wA.size); (have y1_wA : w.heap.size + 1 < wA.heap.size := Nat.lt_of_lt_of_le z1 hq_wA.size); clear hq_wA) | (go_at_call 16; (with_reducible refine Calls.mono (awake_c _ (HKD.out.to (by exact zbl)) (HPW.out.to (by exact zbl))) ?_); rintro e wK ⟨rfl, hbK⟩))
      go_ret
      exact ⟨rfl, HB0.out.trans ((show Below W0.heap.size W0 _ by exact zbl).mono HB0.out.size)⟩
    case false =>
      have hn0 : ¬ (g.sta.length : Int) = 0 := by simpa using he0
      have hnp : (0 : Int) < (g.sta.length : Int) := by omega
      have hn2 : ¬ g.sta.length = 0 := by omega
      have hn3 : ¬ g.sta = [] := by intro h; rw [h] at hn2; exact hn2 rfl
      obtain ⟨f, hf⟩ : ∃ f, f = Int.tmod n0 g.sta.length := ⟨_, rfl⟩
      obtain ⟨t, ht⟩ : ∃ t, t = Int.tmod n1 g.sta.length := ⟨_, rfl⟩
      have hfr : 0 ≤ f ∧ f < g.sta.length := by rw [hf]; exact ⟨Int.tmod_nonneg _ h8.1, Int.tmod_lt_of_pos _ hnp⟩
      have htr : 0 ≤ t ∧ t < g.sta.length := by rw [ht]; exact ⟨Int.tmod_nonneg _ h9.1, Int.tmod_lt_of_pos _ hnp⟩
      have e0 : IntKind.i64.wrap n0 = n0 := IntWalk.i64_in _ (by omega)
      have e1 : IntKind.i64.wrap n1 = n1 := IntWalk.i64_in _ (by omega)
      have hf1 : IntKind.i64.wrap (Int.tmod n0 g.sta.length) = f := by rw [← hf]; exact IntWalk.i64_in _ (by omega)
      have ht1 : IntKind.i64.wrap (Int.tmod n1 g.sta.length) = t := by rw [← ht]; exact IntWalk.i64_in _ (by omega)
      have hSF := (fun W (h : GridR W W.heap.size a g) => rSafeG_c a g f W HOK.out h hfr)
      have hST := (fun W (h : GridR W W.heap.size a g) => rSafeG_c a g t W HOK.out h htr)
      cases hs0 : isSafeG g f
      case false =>
        rw [hs0] at hSF
        have HSF := Lib.hid hSF
        clear hSF hs0 hST
        go_enter Tryz.func7, Tryz.ntmps7
        go_upto_region 1 with fail
        rw [← hW0]
        clear hW0
        go_upto_region 3 with (go_at_call 54; (with_reducible refine Calls.mono (HFW.out _ (HG.out.to (by exact zbl))) ?_); rintro e wA ⟨rfl, hbA⟩; (have hq_wA : Below W0.heap.size W0 wA := by exact zbl); (have hc_wA := (bcell hq_wA).1); (have y0_wA : w.heap.size < wA.heap.size := Nat.lt_of_lt_of_le z0 hq_wA.size); (have y1_wA : w.heap.size + 1 < wA.heap.size := Nat.lt_of_lt_of_le z1 hq_wA.size); clear hq_wA)
        go_region_held3 (fun W => (W0).heap.size ≤ W.heap.size ∧ (∀ b o, b < (W0).heap.size → W.cell? ⟨b, o, none⟩ = (W0).cell? ⟨b, o, none⟩) ∧ (∀ b, b < (W0).heap.size → W.heap[b]? = (W0).heap[b]?)) ((refine Sh.goal ?_; repeat first | (with_reducible first | assumption | exact Sh.refl _ | refine Sh.drew ?_ | refine Sh.alloc ?_ _ | refine Sh.set ?_ _ ?_) | (with_reducible apply Sh.below'; (focus (with_reducible assumption))) | omega | (focus (simp; done)) | (focus (simp; omega)))) (first | fail)
        rename_i hX
        clear hX
        rw [← hf, ← ht]
        (try rw [he0])
        clear hf ht
        go_wp2_with (first | (go_at_call 55; (with_reducible refine Calls.mono (HSF.out _ (HG.out.to (by exact zbl))) ?_); rintro e wS ⟨rfl, hbS⟩; (have hq_wS : Below W0.heap.size W0 wS := by exact zbl); (have hc_wS := (bcell hq_wS).1); (have y0_wS : w.heap.size < wS.heap.size := Nat.lt_of_lt_of_le z0 hq_wS.size); (have y1_wS : w.heap.size + 1 < wS.heap.size := Nat.lt_of_lt_of_le z1 hq_wS.size); clear hq_wS) | (go_at_call 16; (with_reducible refine Calls.mono (awake_c _ (HKD.out.to (by exact zbl)) (HPW.out.to (by exact zbl))) ?_); rintro e wK ⟨rfl, hbK⟩))
        go_ret
        exact ⟨rfl, HB0.out.trans ((show Below W0.heap.size W0 _ by exact zbl).mono HB0.out.size)⟩
      case true =>
        have hf0 : isSafeG g (Int.tmod n0 g.sta.length) = true := by rw [← hf]; exact hs0
        rw [hs0] at hSF
        have HSF := Lib.hid hSF
        clear hSF hs0
        cases hs1 : isSafeG g t
        case false =>
          rw [hs1] at hST
          have HST := Lib.hid hST
          clear hST hs1
          go_enter Tryz.func7, Tryz.ntmps7
          go_upto_region 1 with fail
          rw [← hW0]
          clear hW0
          go_upto_region 3 with (go_at_call 54; (with_reducible refine Calls.mono (HFW.out _ (HG.out.to (by exact zbl))) ?_); rintro e wA ⟨rfl, hbA⟩; (have hq_wA : Below W0.heap.size W0 wA := by exact zbl); (have hc_wA := (bcell hq_wA).1); (have y0_wA : w.heap.size < wA.heap.size := Nat.lt_of_lt_of_le z0 hq_wA.size); (have y1_wA : w.heap.size + 1 < wA.heap.size := Nat.lt_of_lt_of_le z1 hq_wA.size); clear hq_wA)
          go_region_held3 (fun W => (W0).heap.size ≤ W.heap.size ∧ (∀ b o, b < (W0).heap.size → W.cell? ⟨b, o, none⟩ = (W0).cell? ⟨b, o, none⟩) ∧ (∀ b, b < (W0).heap.size → W.heap[b]? = (W0).heap[b]?)) ((refine Sh.goal ?_; repeat first | (with_reducible first | assumption | exact Sh.refl _ | refine Sh.drew ?_ | refine Sh.alloc ?_ _ | refine Sh.set ?_ _ ?_) | (with_reducible apply Sh.below'; (focus (with_reducible assumption))) | omega | (focus (simp; done)) | (focus (simp; omega)))) (first | fail)
          rename_i hX
          clear hX
          rw [← hf, ← ht]
          (try rw [he0])
          clear hf ht
          go_wp2_with (first | (go_at_call 55; (with_reducible refine Calls.mono (HSF.out _ (HG.out.to (by exact zbl))) ?_); rintro e wS ⟨rfl, hbS⟩; (have hq_wS : Below W0.heap.size W0 wS := by exact zbl); (have hc_wS := (bcell hq_wS).1); (have y0_wS : w.heap.size < wS.heap.size := Nat.lt_of_lt_of_le z0 hq_wS.size); (have y1_wS : w.heap.size + 1 < wS.heap.size := Nat.lt_of_lt_of_le z1 hq_wS.size); clear hq_wS) | (go_at_call 55; (with_reducible refine Calls.mono (HST.out _ (HG.out.to (by exact zbl))) ?_); rintro e wU ⟨rfl, hbU⟩; (have hq_wU : Below W0.heap.size W0 wU := by exact zbl); (have hc_wU := (bcell hq_wU).1); (have y0_wU : w.heap.size < wU.heap.size := Nat.lt_of_lt_of_le z0 hq_wU.size); (have y1_wU : w.heap.size + 1 < wU.heap.size := Nat.lt_of_lt_of_le z1 hq_wU.size); clear hq_wU) | (go_at_call 16; (with_reducible refine Calls.mono (awake_c _ (HKD.out.to (by exact zbl)) (HPW.out.to (by exact zbl))) ?_); rintro e wK ⟨rfl, hbK⟩))
          go_ret
          exact ⟨rfl, HB0.out.trans ((show Below W0.heap.size W0 _ by exact zbl).mono HB0.out.size)⟩
        case true =>
          have ht0 : isSafeG g (Int.tmod n1 g.sta.length) = true := by rw [← ht]; exact hs1
          rw [hs1] at hST
          have HST := Lib.hid hST
          clear hST hs1
          cases hpb : (wayG g f t).isSome
          · rw [hf, ht] at hpb
            exact BeamLeastF_c a g n0 n1 w h8 h9 hr0 hk0 hp0 hfw0 he0 hf0 ht0 hpb
          · rw [hf, ht] at hpb
            exact BeamLeastT_c a g n0 n1 w h8 h9 hr0 hk0 hp0 hfw0 he0 hf0 ht0 hpb
end Go.Proofs.YtehnikhicnnnhaaGreatDoor

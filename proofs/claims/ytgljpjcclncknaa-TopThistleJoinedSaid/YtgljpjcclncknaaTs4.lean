/- CheckTank and Enthalpy at a valid tank. -/
import Derived.Test.YtgljpjcclncknaaTs3
namespace Go.Proofs.Ytgljpjcclncknaa
open Go.RowKit

theorem srtU_at : ∀ {l : List Lay}, srtU l → ∀ k (h : k + 1 < l.length), coldr l[k] l[k + 1] = true
  | x :: y :: s, h, 0, _ => h.1
  | x :: y :: s, h, k + 1, hk => by
    have := srtU_at h.2 k (by simpa using hk)
    simpa using this
theorem rng_ok {n lo hi : Int} (h1 : lo ≤ n) (h2 : n ≤ hi) : rng n lo hi = 0 := if_neg (by omega)
set_option maxRecDepth 100000 in
set_option maxHeartbeats 4000000 in
theorem CheckTank_c (room : Int) (A : Option Addr) (c : Nat) (ls : List Lay) (w : World) (ht : okT room ls) (hr : Rw w w.heap.size 2 A (ls.map encL)) :
    Calls Try.prog 26 #[.agg #[.int .i64 room, .slice A ls.length c]] w fun e w' => e = .returned (.int .i64 0) ∧ Below w.heap.size w w' := by
  have HR := Lib.hid hr; clear hr
  have HT := Lib.hid ht
  have hn := ht.len
  have hr0 := ht.room0
  have hr1 := ht.room1
  have ha := ht.a
  have hh := ht.h
  have hq1 : rng room 1 1000000 = 0 := rng_ok hr0 hr1
  have hz1 : (firstErr [rng room 1 1000000, whn false 5] != 0) = false := by rw [hq1]; rfl
  clear hq1
  have hgt : decide ((16 : Int) < (ls.length : Int)) = false := decide_eq_false (by omega)
  clear ht
  go_enter Try.func26, Try.ntmps26
  go_wp2_with fail
  go_region_held3 (fun W => (w.alloc (.cells #[.int .i64 room, .slice A ls.length c] 33)).heap.size ≤ W.heap.size ∧ (∀ b o, b < (w.alloc (.cells #[.int .i64 room, .slice A ls.length c] 33)).heap.size → W.cell? ⟨b, o, none⟩ = (w.alloc (.cells #[.int .i64 room, .slice A ls.length c] 33)).cell? ⟨b, o, none⟩)) ((refine Sx.goal ?_; repeat first | (with_reducible first | assumption | exact Sx.refl _ | refine Sx.drew ?_ | refine Sx.alloc ?_ _ | refine Sx.set ?_ _ ?_) | (with_reducible apply Sx.below'; (focus (with_reducible assumption))) | omega | (focus (simp; done)) | (focus (simp; omega)))) (first | (go_at_call 29; refine (swithin_c _ _ _ _).mono ?_; rintro e w' ⟨rfl, rfl⟩) | (go_at_call 30; refine (swhen_c _ _ _).mono ?_; rintro e w' ⟨rfl, rfl⟩) | (go_at_call 28; refine (sfirst_c _ [rng room 1 1000000, whn false 5] _ ?_ ?_).mono ?_; (focus simp); (focus simp [CellsAt]); rintro e w' ⟨rfl, rfl⟩))
  all_goals
    rename_i hHeld
    clear hHeld
    go_wp2_with fail
    go_loopw [24] (fun i wr => ∃ k : Nat, k ≤ ls.length ∧ i = .int .i64 k ∧ wr.heap[w.heap.size]? = some (.cells #[.int .i64 room, .slice A ls.length c] 33 (0, 0)) ∧ Below w.heap.size w wr) (fun i _ => ls.length - (intOf i).toNat)
    case atStart => exact ⟨0, Nat.zero_le _, rfl, blk_drew (blk_alloc (heap_alloc_new w _)), by (repeat first | (with_reducible first | assumption | exact Below.refl _ _ | refine Bl.drew ?_ | refine Bl.drewN ?_ _ | refine Bl.alloc ?_ _ | refine Bl.set ?_ _ ?_) | (with_reducible apply Bl.step'; (focus (with_reducible assumption))) | omega | (focus (simp; done)) | (focus (simp; omega)))⟩
    case round =>
      obtain ⟨k, hk, rfl, hbx, hb⟩ := hrel
      obtain ⟨d0, df0, d1, df1⟩ := cv2 hbx
      have hwl := blk_lt hbx
      have HBX := Lib.hid hbx
      have HB := Lib.hid hb
      have hRw := (Rw.belowB (w0 := w) HR.out hb (Nat.le_refl _)).more (Nat.le_of_lt hwl)
      by_cases hlt : k < ls.length
      · obtain ⟨b, off, hA, hbl, c0, c1⟩ := hRw.get2 (k := k) (by simpa using hlt) (by rw [List.getElem_map]; rfl)
        obtain ⟨y, hy⟩ : ∃ y, y = ls[k] := ⟨_, rfl⟩
        have hym : y ∈ ls := by rw [hy]; exact List.getElem_mem hlt
        have hyb := HT.out.bd hym
        have hyo := HT.out.each _ hym
        rw [← hy] at c0 c1
        have hq1 : rng y.a 1 1000000 = 0 := rng_ok hyo.1 hyb.a1
        have hq2 : rng y.h 0 1000000000 = 0 := rng_ok hyo.2 hyb.h1
        have hz2 : (firstErr [rng y.a 1 1000000, rng y.h 0 1000000000] != 0) = false := by rw [hq1, hq2]; rfl
        have HAS := Lib.hid hA
        have HRW := Lib.hid hRw
        have HYB := Lib.hid hyb
        have HY := Lib.hid hy
        clear hq1 hq2 hbx hb hRw hym hyb hyo hy
        rw [hA] at d1
        go_wp2_with fail
        go_region_held3 (fun W => (wr.alloc (.cells #[.int .i64 y.a, .int .i64 y.h] 76)).heap.size ≤ W.heap.size ∧ (∀ b o, b < (wr.alloc (.cells #[.int .i64 y.a, .int .i64 y.h] 76)).heap.size → W.cell? ⟨b, o, none⟩ = (wr.alloc (.cells #[.int .i64 y.a, .int .i64 y.h] 76)).cell? ⟨b, o, none⟩)) ((refine Sx.goal ?_; repeat first | (with_reducible first | assumption | exact Sx.refl _ | refine Sx.drew ?_ | refine Sx.alloc ?_ _ | refine Sx.set ?_ _ ?_) | (with_reducible apply Sx.below'; (focus (with_reducible assumption))) | omega | (focus (simp; done)) | (focus (simp; omega)))) (first | (go_at_call 29; refine (swithin_c _ _ _ _).mono ?_; rintro e w' ⟨rfl, rfl⟩) | (go_at_call 28; refine (sfirst_c _ [rng y.a 1 1000000, rng y.h 0 1000000000] _ ?_ ?_).mono ?_; (focus simp); (focus simp [CellsAt]); rintro e w' ⟨rfl, rfl⟩))
        all_goals
          rename_i hHeld
          clear hHeld
          go_wp2_with fail
          obtain ⟨W1, hW1⟩ : ∃ W, W = ((wr.alloc (.cells #[.int .i64 y.a, .int .i64 y.h] 76)).alloc (.cells #[.int .i64 (rng y.a 1 1000000), .int .i64 (rng y.h 0 1000000000)] 35)).drew := ⟨_, rfl⟩
          rw [← hW1]
          have hb1 : Below wr.heap.size wr W1 := by rw [hW1]; (repeat first | (with_reducible first | assumption | exact Below.refl _ _ | refine Bl.drew ?_ | refine Bl.drewN ?_ _ | refine Bl.alloc ?_ _ | refine Bl.set ?_ _ ?_) | (with_reducible apply Bl.step'; (focus (with_reducible assumption))) | omega | (focus (simp; done)) | (focus (simp; omega)))
          have kx : W1.heap[wr.heap.size]? = some (.cells #[.int .i64 y.a, .int .i64 y.h] 76 (0, 0)) := by rw [hW1]; exact blk_drew (blk_alloc (heap_alloc_new wr _))
          obtain ⟨x0, xf0, x1, xf1⟩ := cv2 kx
          have hxl := blk_lt kx
          have hc1 := (bcell hb1).1
          have hlt1 : w.heap.size < W1.heap.size := Nat.lt_of_lt_of_le hwl hb1.size
          have HB1 := Lib.hid hb1
          clear hW1 kx hb1 hA
          by_cases h0 : k = 0
          · subst h0
            have hgk : decide ((0 : Int) < ((0 : Nat) : Int)) = false := rfl
            have hgk2 : decide (0 < 0) = false := rfl
            go_quiet (fail)
            go_wp2_with fail
            (try rw [← HAS.out])
            go_roundw
            case rel => exact ⟨1, hlt, by go_num, blk_step (Bl.drewN HB1.out _) HBX.out, HB.out.trans ((Bl.drewN HB1.out _).mono HB.out.size)⟩
            case measure => simp [intOf]; omega
          · have hgk : decide ((0 : Int) < (k : Int)) = true := decide_eq_true (by omega)
            have hgk2 : decide (0 < k) = true := decide_eq_true (by omega)
            obtain ⟨j, hj⟩ : ∃ j, j = k - 1 := ⟨_, rfl⟩
            have hjk : (k : Int) - 1 = (j : Int) := by omega
            have hjl : j < ls.length := by omega
            obtain ⟨b2, off2, hA2, hbl2, e0, e1⟩ := HRW.out.get2 (k := j) (by simpa using hjl) (by rw [List.getElem_map]; rfl)
            have hA3 := HAS.out.symm.trans hA2
            simp only [Option.some.injEq, Addr.mk.injEq, and_true] at hA3
            obtain ⟨rfl, rfl⟩ := hA3
            obtain ⟨x, hx⟩ : ∃ x, x = ls[j] := ⟨_, rfl⟩
            rw [← hx] at e0 e1
            have hcol : coldr x y = true := by
              rw [hx, HY.out]
              have := srtU_at HT.out.ord j (by omega)
              simpa only [show j + 1 = k by omega] using this
            have hxb : bdL x := by rw [hx]; exact HT.out.bd (List.getElem_mem hjl)
            have HC := Lib.hid (fun W => colder_c x y W hxb HYB.out)
            rw [hcol] at HC
            have hbl3 : b < W1.heap.size := Nat.lt_of_lt_of_le hbl2 HB1.out.size
            have hji : IntKind.i64.wrap (j : Int) = (j : Int) := IntWalk.i64_in _ (by omega)
            clear hA2 hx hcol hxb hj
            go_region_held3 (fun W => (W1).heap.size ≤ W.heap.size ∧ (∀ b o, b < (W1).heap.size → W.cell? ⟨b, o, none⟩ = (W1).cell? ⟨b, o, none⟩)) ((refine Sx.goal ?_; repeat first | (with_reducible first | assumption | exact Sx.refl _ | refine Sx.drew ?_ | refine Sx.alloc ?_ _ | refine Sx.set ?_ _ ?_) | (with_reducible apply Sx.below'; (focus (with_reducible assumption))) | omega | (focus (simp; done)) | (focus (simp; omega)))) (first | (go_at_call 49; refine (HC.out _).mono ?_; rintro e w2 ⟨rfl, hb2⟩))
            all_goals
              go_wp2_with fail
              (try rw [← HAS.out])
              go_roundw
              case rel => exact ⟨k + 1, hlt, by go_num, blk_step (HB1.out.trans (Below.mono (by (repeat first | (with_reducible first | assumption | exact Below.refl _ _ | refine Bl.drew ?_ | refine Bl.drewN ?_ _ | refine Bl.alloc ?_ _ | refine Bl.set ?_ _ ?_) | (with_reducible apply Bl.step'; (focus (with_reducible assumption))) | omega | (focus (simp; done)) | (focus (simp; omega)))) HB1.out.size)) HBX.out, HB.out.trans ((HB1.out.trans (Below.mono (by (repeat first | (with_reducible first | assumption | exact Below.refl _ _ | refine Bl.drew ?_ | refine Bl.drewN ?_ _ | refine Bl.alloc ?_ _ | refine Bl.set ?_ _ ?_) | (with_reducible apply Bl.step'; (focus (with_reducible assumption))) | omega | (focus (simp; done)) | (focus (simp; omega)))) HB1.out.size)).mono HB.out.size)⟩
              case measure => simp [intOf]; omega
      · obtain rfl : k = ls.length := by omega
        clear hbx
        go_wp2_with (go_at_call 27; refine (sum_c room A c ls _ hn (fun x hx => HT.out.bd hx) hRw).mono ?_; rintro e w1 ⟨rfl, hb1⟩)
        have kx : w1.heap[w.heap.size]? = _ := blk_step hb1 HBX.out
        obtain ⟨p0, pf0, p1, pf1⟩ := cv2 kx
        have hpl := blk_lt kx
        have hg1 : decide (room < sumA ls) = false := decide_eq_false (by omega)
        have hg2 : decide ((1000000000 : Int) < sumH ls) = false := decide_eq_false (by omega)
        clear kx d0 d1 df0 df1 ha hh
        go_region_held3 (fun W => (w1.alloc (.cells #[.int .i64 (sumA ls), .int .i64 (sumH ls)] 76)).heap.size ≤ W.heap.size ∧ (∀ b o, b < (w1.alloc (.cells #[.int .i64 (sumA ls), .int .i64 (sumH ls)] 76)).heap.size → W.cell? ⟨b, o, none⟩ = (w1.alloc (.cells #[.int .i64 (sumA ls), .int .i64 (sumH ls)] 76)).cell? ⟨b, o, none⟩)) ((refine Sx.goal ?_; repeat first | (with_reducible first | assumption | exact Sx.refl _ | refine Sx.drew ?_ | refine Sx.alloc ?_ _ | refine Sx.set ?_ _ ?_) | (with_reducible apply Sx.below'; (focus (with_reducible assumption))) | omega | (focus (simp; done)) | (focus (simp; omega)))) (first | (go_at_call 30; refine (swhen_c _ _ _).mono ?_; rintro e w' ⟨rfl, rfl⟩) | (go_at_call 28; refine (sfirst_c _ [whn false 4, whn false 23] _ ?_ ?_).mono ?_; (focus simp); (focus simp [CellsAt]); rintro e w' ⟨rfl, rfl⟩))
        all_goals
          go_wp2_with fail
          go_ret
          exact ⟨rfl, by (repeat first | (with_reducible first | assumption | exact Below.refl _ _ | refine Bl.drew ?_ | refine Bl.drewN ?_ _ | refine Bl.alloc ?_ _ | refine Bl.set ?_ _ ?_) | (with_reducible apply Bl.step'; (focus (with_reducible assumption))) | omega | (focus (simp; done)) | (focus (simp; omega)))⟩
end Go.Proofs.Ytgljpjcclncknaa

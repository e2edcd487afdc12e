/- The reference: CheckTank. -/
import Derived.Test.YtgljpjcclncknaaTr1
import Derived.StillTailTactics
namespace Go.Proofs.Ytgljpjcclncknaa
open Go.RowKit

theorem still_tail_d {P : Program} {id : Nat} {Q : Exit → Act → World → Prop} {a : Act} {w : World} {l : List Oper} (n : Nat) (hm : P.follows .mixedOrders = true) (hB : Region.lexTailB .any l.toArray n = true)
    (h : wpStill P l.toArray w.drew (fun a' => wpList P l.toArray Q (l.drop n) a' w.drew) (l.take n) a) : (Code.region id l.toArray true).wp P Q a w := wp_region_still_tail n hm hB h
theorem rw_to {w W : World} {sz : Nat} {A : Option Addr} {l : List (List Value)} (h : Rw w w.heap.size sz A l) (hb : Below w.heap.size w W) : Rw W W.heap.size sz A l := (Rw.belowB (w0 := w) h hb (Nat.le_refl _)).more hb.size
/-- The fault of a layer behind another one. -/
def layE (p : Option Lay) (x : Lay) : Int := firstErr [rng x.a 1 1000000, rng x.h 0 1000000000, whn (match p with | none => false | some p => decide (0 ≤ warmF p x)) 11]
theorem fe3_zero {a b c : Int} (h : firstErr [a, b, c] = 0) : a = 0 ∧ b = 0 ∧ c = 0 := by
  unfold firstErr at h
  split at h
  · rename_i h1; unfold firstErr at h
    split at h
    · rename_i h2; unfold firstErr at h
      split at h
      · rename_i h3; exact ⟨h1, h2, h3⟩
      · rename_i h3; exact absurd h h3
    · rename_i h2; exact absurd h h2
  · rename_i h1; exact absurd h h1
theorem fe2_zero {a b : Int} (h : firstErr [a, b] = 0) : a = 0 ∧ b = 0 := by
  unfold firstErr at h
  split at h
  · rename_i h1; unfold firstErr at h
    split at h
    · rename_i h2; exact ⟨h1, h2⟩
    · rename_i h2; exact absurd h h2
  · rename_i h1; exact absurd h h1
theorem rng_zero {n lo hi : Int} (h : rng n lo hi = 0) : lo ≤ n ∧ n ≤ hi := by
  unfold rng at h
  split at h
  · cases h
  · omega
theorem whn_zero {b : Bool} {n : Int} (h : whn b n = 0) (hn : n ≠ 0) : b = false := by
  cases b
  · rfl
  · exact absurd h hn
/-- The first k layers have no fault. -/
structure CkI (ls : List Lay) (k : Nat) : Prop where
  bd : ∀ x ∈ ls.take k, bdL x ∧ okL x
  ord : ∀ j (h : j + 1 < ls.length), j + 1 < k → coldr ls[j] ls[j + 1] = true
theorem CkI.step {ls : List Lay} {k : Nat} (h : CkI ls k) (hk : k < ls.length) (he : layE (if k = 0 then none else ls[k - 1]?) ls[k] = 0) : CkI ls (k + 1) := by
  obtain ⟨h1, h2, h3⟩ := fe3_zero he
  have h4 := rng_zero h1
  have h5 := rng_zero h2
  have hb : bdL ls[k] := ⟨by omega, h4.2, h5.1, h5.2⟩
  refine ⟨fun x hx => ?_, fun j hj hjk => ?_⟩
  · rw [List.take_succ_eq_append_getElem hk] at hx
    rcases List.mem_append.1 hx with hx | hx
    · exact h.bd x hx
    · rw [List.mem_singleton] at hx; subst hx; exact ⟨hb, h4.1, h5.1⟩
  · by_cases e : j + 1 < k
    · exact h.ord j hj e
    · obtain rfl : k = j + 1 := by omega
      rw [if_neg (by omega)] at h3
      simp only [Nat.add_sub_cancel] at h3
      rw [List.getElem?_eq_getElem (by omega)] at h3
      have h6 := whn_zero h3 (by decide)
      have hpm : ls[j] ∈ ls.take (j + 1) := by
        rw [List.take_succ_eq_append_getElem (show j < ls.length by omega)]; exact List.mem_append_right _ (List.mem_singleton_self _)
      exact warmF_cold (h.bd _ hpm).1 hb (of_decide_eq_false h6)
theorem srtU_of : ∀ {l : List Lay}, (∀ j (h : j + 1 < l.length), coldr l[j] l[j + 1] = true) → srtU l
  | [], _ => trivial
  | [x], _ => trivial
  | x :: y :: s, h => ⟨h 0 (by simp), srtU_of fun j hj => by
      have := h (j + 1) (by simpa using hj)
      simpa using this⟩
theorem CkI.done {ls : List Lay} {room : Int} (h : CkI ls ls.length) (h0 : 1 ≤ room) (h1 : room ≤ 1000000) (hn : ls.length ≤ 16) (ha : sumA ls ≤ room) (hh : sumH ls ≤ 1000000000) : okT room ls :=
  ⟨h0, h1, hn, fun x hx => (h.bd x (by rw [List.take_length]; exact hx)).2, srtU_of fun j hj => h.ord j hj hj, ha, hh⟩
def RetCk (room : Int) (ls : List Lay) (w : World) (e : Ending) (w' : World) : Prop := ∃ n : Int, e = .returned (.int .i64 n) ∧ (n = 0 → okT room ls) ∧ Below w.heap.size w w'
set_option maxRecDepth 100000 in
set_option maxHeartbeats 8000000 in
theorem rCheckTank_c (room : Int) (A : Option Addr) (c : Nat) (ls : List Lay) (w : World) (hr : Rw w w.heap.size 2 A (ls.map encL)) :
    Calls Try.prog 6 #[.agg #[.int .i64 room, .slice A ls.length c]] w (RetCk room ls w) := by
  have HR := Lib.hid hr; clear hr
  obtain ⟨B, hB⟩ : ∃ B, B = decide ((16 : Int) < (ls.length : Int)) := ⟨_, rfl⟩
  have hB2 : decide (16 < ls.length) = B := by rw [hB]; congr 1; simp; omega
  obtain ⟨E, hE⟩ : ∃ E, E = firstErr [rng room 1 1000000, whn B 5] := ⟨_, rfl⟩
  have hB1 := hB.symm
  have HBX := Lib.hid hB
  clear hB
  by_cases he : E = 0
  · have hz1 : (E != 0) = false := by rw [he]; rfl
    rw [hE] at he
    obtain ⟨e1, e2⟩ := fe2_zero he
    have h1 := rng_zero e1
    have h2 := whn_zero e2 (by decide)
    have hn : ls.length ≤ 16 := by
      rw [HBX.out] at h2
      have := of_decide_eq_false h2
      omega
    have HE := Lib.hid hE
    obtain ⟨r0, r1⟩ := h1
    clear he e1 e2 h2 hE
    go_enter Try.func6, Try.ntmps6
    go_wp2_with fail
    go_region_held3 (fun W => (w.alloc (.cells #[.int .i64 room, .slice A ls.length c] 24)).heap.size ≤ W.heap.size ∧ (∀ b o, b < (w.alloc (.cells #[.int .i64 room, .slice A ls.length c] 24)).heap.size → W.cell? ⟨b, o, none⟩ = (w.alloc (.cells #[.int .i64 room, .slice A ls.length c] 24)).cell? ⟨b, o, none⟩)) ((refine Sx.goal ?_; repeat first | (with_reducible first | assumption | exact Sx.refl _ | refine Sx.drew ?_ | refine Sx.alloc ?_ _ | refine Sx.set ?_ _ ?_) | (with_reducible apply Sx.below'; (focus (with_reducible assumption))) | omega | (focus (simp; done)) | (focus (simp; omega)))) (first | (go_at_call 20; refine (rRange_c _ _ _ _).mono ?_; rintro e w' ⟨rfl, rfl⟩) | (go_at_call 21; refine (rWhen_c _ _ _).mono ?_; rintro e w' ⟨rfl, rfl⟩) | (go_at_call 19; refine (rFirst_c _ [rng room 1 1000000, whn B 5] _ ?_ ?_).mono ?_; (focus simp); (focus simp [CellsAt]); rintro e w' ⟨rfl, rfl⟩))
    all_goals
      rename_i hHeld
      clear hHeld
      rw [← HE.out]
      go_wp2_with fail
      go_loopw [4] (fun i wr => ∃ k : Nat, k ≤ ls.length ∧ i = .int .i64 k ∧ wr.heap[w.heap.size]? = some (.cells #[.int .i64 room, .slice A ls.length c] 24 (0, 0)) ∧ Below w.heap.size w wr ∧ Hid (CkI ls k)) (fun i _ => ls.length - (intOf i).toNat)
      case atStart => exact ⟨0, Nat.zero_le _, rfl, blk_drew (blk_alloc (heap_alloc_new w _)), by (repeat first | (with_reducible first | assumption | exact Below.refl _ _ | refine Bl.drew ?_ | refine Bl.drewN ?_ _ | refine Bl.alloc ?_ _ | refine Bl.set ?_ _ ?_) | (with_reducible apply Bl.step'; (focus (with_reducible assumption))) | omega | (focus (simp; done)) | (focus (simp; omega))), Lib.hid ⟨by simp, fun j _ h => by omega⟩⟩
      case round =>
        obtain ⟨k, hk, rfl, hbx, hb, hck⟩ := hrel
        obtain ⟨d0, df0, d1, df1⟩ := cv2 hbx
        have hwl := blk_lt hbx
        have HBX2 := Lib.hid hbx
        have HB := Lib.hid hb
        have hRw := (Rw.belowB (w0 := w) HR.out hb (Nat.le_refl _)).more (Nat.le_of_lt hwl)
        by_cases hlt : k < ls.length
        · obtain ⟨b, off, hA, hbl, c0, c1⟩ := hRw.get2 (k := k) (by simpa using hlt) (by rw [List.getElem_map]; rfl)
          obtain ⟨y, hy⟩ : ∃ y, y = ls[k] := ⟨_, rfl⟩
          rw [← hy] at c0 c1
          have HAS := Lib.hid hA
          have HRW := Lib.hid hRw
          have HY := Lib.hid hy
          clear hbx hb hRw hy
          rw [hA] at d1
          by_cases h0 : k = 0
          · subst h0
            rw [Nat.zero_mul, Nat.add_zero] at c0 c1
            obtain ⟨D, hD⟩ : ∃ D, D = layE none y := ⟨_, rfl⟩
            have hD2 : D = firstErr [rng y.a 1 1000000, rng y.h 0 1000000000, whn false 11] := hD
            have HD := Lib.hid hD
            have HD2 := Lib.hid hD2
            have hgk : decide ((0 : Int) < ((0 : Nat) : Int)) = false := rfl
            have hgk2 : decide (0 < 0) = false := rfl
            clear hD hD2 hA
            go_wp2_with fail
            obtain ⟨W2, hW2⟩ : ∃ W2, W2 = (wr.alloc (.cells #[.int .i64 y.a, .int .i64 y.h] 82)).drew := ⟨_, rfl⟩
            have hb2 : Below wr.heap.size wr W2 := by rw [hW2]; (repeat first | (with_reducible first | assumption | exact Below.refl _ _ | refine Bl.drew ?_ | refine Bl.drewN ?_ _ | refine Bl.alloc ?_ _ | refine Bl.set ?_ _ ?_) | (with_reducible apply Bl.step'; (focus (with_reducible assumption))) | omega | (focus (simp; done)) | (focus (simp; omega)))
            have kx : W2.heap[wr.heap.size]? = some (.cells #[.int .i64 y.a, .int .i64 y.h] 82 (0, 0)) := by rw [hW2]; exact blk_drew (heap_alloc_new wr _)
            obtain ⟨x0, xf0, x1, xf1⟩ := cv2 kx
            have hxl := blk_lt kx
            have HB2 := Lib.hid hb2
            refine still_tail_d 21 (by kernel_rfl) (by kernel_rfl) ?_
            simp only [List.take_succ_cons, List.take_zero, List.drop_succ_cons, List.drop_zero]
            rw [← hW2]
            clear hW2 hb2 kx
            iterate 2 ((with_reducible refine wpStill_step (fun K hK => ?_)); go_simp; (with_reducible refine hK _ ?_); clear hK K)
            (with_reducible refine wpStill_step (fun K hK => ?_)); go_simp; (with_reducible refine ⟨_, (rRange_c _ _ _ _).mono fun _ _ h => ⟨h.1, h.2.symm⟩, hK _ ?_⟩); clear hK K
            iterate 2 ((with_reducible refine wpStill_step (fun K hK => ?_)); go_simp; (with_reducible refine hK _ ?_); clear hK K)
            (with_reducible refine wpStill_step (fun K hK => ?_)); go_simp; (with_reducible refine ⟨_, (rRange_c _ _ _ _).mono fun _ _ h => ⟨h.1, h.2.symm⟩, hK _ ?_⟩); clear hK K
            iterate 3 ((with_reducible refine wpStill_step (fun K hK => ?_)); go_simp; (with_reducible refine hK _ ?_); clear hK K)
            iterate 11 ((with_reducible refine wpStill_step (fun K hK => ?_)); go_simp; (with_reducible refine hK _ ?_); clear hK K)
            (with_reducible refine wpStill_step (fun K hK => ?_)); go_simp; (with_reducible refine ⟨_, (rWhen_c _ _ _).mono fun _ _ h => ⟨h.1, h.2.symm⟩, hK _ ?_⟩); clear hK K
            with_reducible refine wpStill_nil ?_
            go_wp2_with (go_at_call 19; refine (rFirst_c _ [rng y.a 1 1000000, rng y.h 0 1000000000, whn false 11] _ ?_ ?_).mono ?_; (focus simp); (focus simp [CellsAt]); rintro e w' ⟨rfl, rfl⟩)
            · rename_i hf
              go_ret
              refine ⟨_, rfl, fun h => ?_, ?_⟩
              · rw [h] at hf; exact absurd hf (by decide)
              · have hb := HB.out
                have hb2 := HB2.out
                have h1 : Below w.heap.size w W2 := hb.trans (hb2.mono (Nat.le_of_lt hwl))
                (repeat first | (with_reducible first | assumption | exact Below.refl _ _ | refine Bl.drew ?_ | refine Bl.drewN ?_ _ | refine Bl.alloc ?_ _ | refine Bl.set ?_ _ ?_) | (with_reducible apply Bl.step'; (focus (with_reducible assumption))) | omega | (focus (simp; done)) | (focus (simp; omega)))
            · rename_i hf
              have hb := HB.out
              have hb2 := HB2.out
              have hbW : Below w.heap.size w W2 := hb.trans (hb2.mono (Nat.le_of_lt hwl))
              have hcl : ∀ o, (W2.alloc o).heap[w.heap.size]? = some (.cells #[.int .i64 room, .slice A ls.length c] 24 (0, 0)) := fun o => by
                exact blk_alloc ((hb2.block _ hwl).trans HBX2.out)
              have hz : layE none y = 0 := by
                have := HD.out; have h2 := HD2.out; rw [← this, h2]; simpa using hf
              refine ⟨⟨1, hlt, rfl, hcl _, by (repeat first | (with_reducible first | assumption | exact Below.refl _ _ | refine Bl.drew ?_ | refine Bl.drewN ?_ _ | refine Bl.alloc ?_ _ | refine Bl.set ?_ _ ?_) | (with_reducible apply Bl.step'; (focus (with_reducible assumption))) | omega | (focus (simp; done)) | (focus (simp; omega))), Lib.hid (hck.out.step hlt ?_)⟩, by simp [intOf]; omega⟩
              rw [if_pos rfl, ← HY.out]; exact hz
          · obtain ⟨j, hj⟩ : ∃ j, k = j + 1 := ⟨k - 1, by omega⟩
            have hjl : j < ls.length := by omega
            have hw1 : IntKind.i64.wrap ((k : Int) - 1) = (j : Int) := by rw [hj]; exact (IntWalk.i64_in _ (by omega)).trans (by omega)
            have hmx : max 0 (j : Int) = (j : Int) := by omega
            have hgk : decide ((0 : Int) < (k : Int)) = true := decide_eq_true (by omega)
            have hgk2 : decide (0 < k) = true := decide_eq_true (by omega)
            obtain ⟨b1, off1, hA1, hbl1, e0, e1⟩ := HRW.out.get2 (k := j) (by simpa using hjl) (by rw [List.getElem_map]; rfl)
            obtain ⟨x, hx⟩ : ∃ x, x = ls[j] := ⟨_, rfl⟩
            rw [← hx] at e0 e1
            rw [HAS.out] at hA1
            cases hA1
            obtain ⟨V, hV⟩ : ∃ V, V = warmF x y := ⟨_, rfl⟩
            obtain ⟨G, hG⟩ : ∃ G, G = decide (0 ≤ V) := ⟨_, rfl⟩
            have HG := Lib.hid hG
            have hG1 := hG.symm
            have HW := Lib.hid (fun W => hV ▸ warmer_c x y W)
            obtain ⟨D, hD⟩ : ∃ D, D = layE (some x) y := ⟨_, rfl⟩
            have hD2 : D = firstErr [rng y.a 1 1000000, rng y.h 0 1000000000, whn G 11] := by rw [hD, hG, hV]; rfl
            have HX := Lib.hid hx
            have HD := Lib.hid hD
            have HD2 := Lib.hid hD2
            have HJ := Lib.hid hj
            clear hx hG hV hD hD2 hj hA h0
            go_wp2_with fail
            go_region_held3 (fun W => (wr.alloc (.cells #[.int .i64 y.a, .int .i64 y.h] 82)).heap.size ≤ W.heap.size ∧ (∀ b o, b < (wr.alloc (.cells #[.int .i64 y.a, .int .i64 y.h] 82)).heap.size → W.cell? ⟨b, o, none⟩ = (wr.alloc (.cells #[.int .i64 y.a, .int .i64 y.h] 82)).cell? ⟨b, o, none⟩)) ((refine Sx.goal ?_; repeat first | (with_reducible first | assumption | exact Sx.refl _ | refine Sx.drew ?_ | refine Sx.alloc ?_ _ | refine Sx.set ?_ _ ?_) | (with_reducible apply Sx.below'; (focus (with_reducible assumption))) | omega | (focus (simp; done)) | (focus (simp; omega)))) (first | (go_at_call 20; refine (rRange_c _ _ _ _).mono ?_; rintro e w' ⟨rfl, rfl⟩) | (go_at_call 21; refine (rWhen_c _ _ _).mono ?_; rintro e w' ⟨rfl, rfl⟩) | (go_at_call 22; refine (HW.out _).mono ?_; rintro e w2 ⟨rfl, hb2⟩) | (go_at_call 19; refine (rFirst_c _ [rng y.a 1 1000000, rng y.h 0 1000000000, whn G 11] _ ?_ ?_).mono ?_; (focus simp); (focus simp [CellsAt]); rintro e w' ⟨rfl, rfl⟩))
            all_goals
              rename_i hHeld
              clear hHeld
              have hal : Below wr.heap.size wr w2 := (show Below wr.heap.size wr (wr.alloc (.cells #[.int .i64 y.a, .int .i64 y.h] 82)).drew by (repeat first | (with_reducible first | assumption | exact Below.refl _ _ | refine Bl.drew ?_ | refine Bl.drewN ?_ _ | refine Bl.alloc ?_ _ | refine Bl.set ?_ _ ?_) | (with_reducible apply Bl.step'; (focus (with_reducible assumption))) | omega | (focus (simp; done)) | (focus (simp; omega)))).trans (hb2.mono (by simp))
              have hb := HB.out
              have hbW : Below w.heap.size w w2 := hb.trans (hal.mono (Nat.le_of_lt hwl))
              have HBW := Lib.hid hbW
              have HAL := Lib.hid hal
              clear hal hb hbW hb2 c0 c1 e0 e1 d0 d1 df0 df1
              go_wp2_with fail
              all_goals
                rename_i hf
                have hbW := HBW.out
              · go_ret
                refine ⟨_, rfl, fun h => ?_, by (repeat first | (with_reducible first | assumption | exact Below.refl _ _ | refine Bl.drew ?_ | refine Bl.drewN ?_ _ | refine Bl.alloc ?_ _ | refine Bl.set ?_ _ ?_) | (with_reducible apply Bl.step'; (focus (with_reducible assumption))) | omega | (focus (simp; done)) | (focus (simp; omega)))⟩
                rw [h] at hf; exact absurd hf (by decide)
              · have hcl : ∀ o, (w2.alloc o).heap[w.heap.size]? = some (.cells #[.int .i64 room, .slice A ls.length c] 24 (0, 0)) := fun o => by
                  exact blk_alloc ((HAL.out.block _ hwl).trans HBX2.out)
                have hz : layE (some x) y = 0 := by
                  have := HD.out; have h2 := HD2.out; rw [← this, h2]; simpa using hf
                refine ⟨⟨k + 1, hlt, by go_num, hcl _, by (repeat first | (with_reducible first | assumption | exact Below.refl _ _ | refine Bl.drew ?_ | refine Bl.drewN ?_ _ | refine Bl.alloc ?_ _ | refine Bl.set ?_ _ ?_) | (with_reducible apply Bl.step'; (focus (with_reducible assumption))) | omega | (focus (simp; done)) | (focus (simp; omega))), Lib.hid (hck.out.step hlt ?_)⟩, by simp [intOf]; omega⟩
                have hkj := HJ.out
                rw [if_neg (by omega), ← HY.out]
                have h3 : ls[k - 1]? = some x := by
                  rw [HX.out]
                  have h4 : k - 1 = j := by omega
                  rw [h4]
                  exact List.getElem?_eq_getElem hjl
                rw [h3]; exact hz
        · obtain rfl : k = ls.length := by omega
          have hck1 := hck.out
          have hbd : ∀ x ∈ ls, bdL x := fun x hx => (hck1.bd x (by rw [List.take_length]; exact hx)).1
          obtain ⟨s0, s1, s2, s3⟩ := sum_bd hbd
          obtain ⟨SA, hSA⟩ : ∃ SA, SA = sumA ls := ⟨_, rfl⟩
          obtain ⟨SH, hSH⟩ : ∃ SH, SH = sumH ls := ⟨_, rfl⟩
          obtain ⟨G1, hG1⟩ : ∃ G1, G1 = decide (room < SA) := ⟨_, rfl⟩
          obtain ⟨G2, hG2⟩ : ∃ G2, G2 = decide (1000000000 < SH) := ⟨_, rfl⟩
          obtain ⟨D, hD⟩ : ∃ D, D = firstErr [whn G1 4, whn G2 23] := ⟨_, rfl⟩
          have HSA := Lib.hid hSA
          have HSH := Lib.hid hSH
          have HG1 := Lib.hid hG1
          have HG2 := Lib.hid hG2
          have HD := Lib.hid hD
          have hg1 := hG1.symm
          have hg2 := hG2.symm
          have HL := Lib.hid (fun W h => hSA ▸ rLevel_c room A c ls W hn hbd h)
          have HN := Lib.hid (fun W h => hSH ▸ rEnthalpy_c room A c ls W hn hbd h)
          have HRW := Lib.hid hRw
          clear hSA hSH hG1 hG2 hD hbx hb hRw hck1 hbd s0 s1 s2 s3 hlt
          go_wp2_with fail
          go_region_held3 (fun W => (wr).heap.size ≤ W.heap.size ∧ (∀ b o, b < (wr).heap.size → W.cell? ⟨b, o, none⟩ = (wr).cell? ⟨b, o, none⟩) ∧ (∀ b, b < (wr).heap.size → W.heap[b]? = (wr).heap[b]?)) ((refine Sh.goal ?_; repeat first | (with_reducible first | assumption | exact Sh.refl _ | refine Sh.drew ?_ | refine Sh.alloc ?_ _ | refine Sh.set ?_ _ ?_) | (with_reducible apply Sh.below'; (focus (with_reducible assumption))) | omega | (focus (simp; done)) | (focus (simp; omega)))) (first | (go_at_call 21; refine (rWhen_c _ _ _).mono ?_; rintro e w' ⟨rfl, rfl⟩) | (go_at_call 23; refine (HL.out _ (rw_to HRW.out (by (repeat first | (with_reducible first | assumption | exact Below.refl _ _ | refine Bl.drew ?_ | refine Bl.drewN ?_ _ | refine Bl.alloc ?_ _ | refine Bl.set ?_ _ ?_) | (with_reducible apply Bl.step'; (focus (with_reducible assumption))) | omega | (focus (simp; done)) | (focus (simp; omega)))))).mono ?_; rintro e w2 ⟨rfl, hb2⟩) | (go_at_call 24; refine (HN.out _ (rw_to HRW.out (by (repeat first | (with_reducible first | assumption | exact Below.refl _ _ | refine Bl.drew ?_ | refine Bl.drewN ?_ _ | refine Bl.alloc ?_ _ | refine Bl.set ?_ _ ?_) | (with_reducible apply Bl.step'; (focus (with_reducible assumption))) | omega | (focus (simp; done)) | (focus (simp; omega)))))).mono ?_; rintro e w3 ⟨rfl, hb3⟩) | (go_at_call 19; refine (rFirst_c _ [whn G1 4, whn G2 23] _ ?_ ?_).mono ?_; (focus simp); (focus simp [CellsAt]); rintro e w' ⟨rfl, rfl⟩))
          all_goals
            rename_i hHeld
            clear hHeld
            have hb := HB.out
            have hb2' : Below w.heap.size w w2 := hb.trans (((show Below wr.heap.size wr wr.drew by (repeat first | (with_reducible first | assumption | exact Below.refl _ _ | refine Bl.drew ?_ | refine Bl.drewN ?_ _ | refine Bl.alloc ?_ _ | refine Bl.set ?_ _ ?_) | (with_reducible apply Bl.step'; (focus (with_reducible assumption))) | omega | (focus (simp; done)) | (focus (simp; omega)))).trans hb2).mono (Nat.le_of_lt hwl))
            have hb3' : Below w.heap.size w w3 := hb2'.trans (hb3.mono hb2'.size)
            clear hb hb2 hb3 hb2'
            go_wp2_with fail
            go_ret
            refine ⟨_, rfl, fun h => ?_, by (repeat first | (with_reducible first | assumption | exact Below.refl _ _ | refine Bl.drew ?_ | refine Bl.drewN ?_ _ | refine Bl.alloc ?_ _ | refine Bl.set ?_ _ ?_) | (with_reducible apply Bl.step'; (focus (with_reducible assumption))) | omega | (focus (simp; done)) | (focus (simp; omega)))⟩
            obtain ⟨f1, f2⟩ := fe2_zero h
            have f3 := whn_zero f1 (by decide)
            have f4 := whn_zero f2 (by decide)
            rw [HG1.out, HSA.out] at f3
            rw [HG2.out, HSH.out] at f4
            have f5 := of_decide_eq_false f3
            have f6 := of_decide_eq_false f4
            exact hck.out.done r0 r1 hn (by omega) (by omega)
  · have hz1 : (E != 0) = true := by simpa using he
    have HE := Lib.hid hE
    clear hE
    go_enter Try.func6, Try.ntmps6
    go_wp2_with fail
    go_region_held3 (fun W => (w.alloc (.cells #[.int .i64 room, .slice A ls.length c] 24)).heap.size ≤ W.heap.size ∧ (∀ b o, b < (w.alloc (.cells #[.int .i64 room, .slice A ls.length c] 24)).heap.size → W.cell? ⟨b, o, none⟩ = (w.alloc (.cells #[.int .i64 room, .slice A ls.length c] 24)).cell? ⟨b, o, none⟩)) ((refine Sx.goal ?_; repeat first | (with_reducible first | assumption | exact Sx.refl _ | refine Sx.drew ?_ | refine Sx.alloc ?_ _ | refine Sx.set ?_ _ ?_) | (with_reducible apply Sx.below'; (focus (with_reducible assumption))) | omega | (focus (simp; done)) | (focus (simp; omega)))) (first | (go_at_call 20; refine (rRange_c _ _ _ _).mono ?_; rintro e w' ⟨rfl, rfl⟩) | (go_at_call 21; refine (rWhen_c _ _ _).mono ?_; rintro e w' ⟨rfl, rfl⟩) | (go_at_call 19; refine (rFirst_c _ [rng room 1 1000000, whn B 5] _ ?_ ?_).mono ?_; (focus simp); (focus simp [CellsAt]); rintro e w' ⟨rfl, rfl⟩))
    all_goals
      rename_i hHeld
      clear hHeld
      rw [← HE.out]
      go_wp2_with fail
      go_ret
      exact ⟨_, rfl, fun h => absurd h he, by (repeat first | (with_reducible first | assumption | exact Below.refl _ _ | refine Bl.drew ?_ | refine Bl.drewN ?_ _ | refine Bl.alloc ?_ _ | refine Bl.set ?_ _ ?_) | (with_reducible apply Bl.step'; (focus (with_reducible assumption))) | omega | (focus (simp; done)) | (focus (simp; omega)))⟩
end Go.Proofs.Ytgljpjcclncknaa

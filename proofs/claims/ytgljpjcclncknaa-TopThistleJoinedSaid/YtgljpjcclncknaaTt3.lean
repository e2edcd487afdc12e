/- Drawn where there is enough. -/
import Derived.Test.YtgljpjcclncknaaTt2
namespace Go.Proofs.Ytgljpjcclncknaa
open Go.RowKit Go.Shelf
attribute [local go_sem] Oper.semAt_some

def RetDr (room : Int) (ls : List Lay) (m : Int) (top : Bool) (w : World) (e : Ending) (w' : World) : Prop := ∃ A c, e = .returned (.tuple #[.agg #[.int .i64 room, .slice A (drawT ls m top).length c], .int .i64 (drawH ls m top), .int .i64 0]) ∧ OwnL w' w.heap.size A c (drawT ls m top) ∧ Below w.heap.size w w'
theorem own_ownL {σ : Type} (B g base c : Nat) (f : σ → List Lay) : OwnFrom B (fun (s : σ) W => OwnL W base (some ⟨g, 0, none⟩) c (f s)) := fun s A B' row hs hg hr => by
  refine OwnL.keep hs hg fun a ha e => ?_
  cases ha
  obtain ⟨_, o, ho, hc⟩ := hr _ e
  rcases hs.2 with ⟨hv, _⟩ | ⟨g', cap, cur, hv, _, hk, _⟩
  · cases hv
  · injection hv with h1 _ _
    injection h1 with h1
    injection h1 with h1
    subst h1
    rw [hk] at ho
    cases ho
    cases hc
theorem grow_set1 (A : World) (g o : Nat) (v : Value) : A.grownBy (A.setCell ⟨g, o, none⟩ v) (some g) := ⟨rfl, rfl, rfl, by simp, fun k _ hne => set1_other _ (fun e => hne (congrArg some e))⟩
theorem drewc {W : World} {q : Addr} {u : Value} (h : W.cell? q = some u) : W.drew.cell? q = some u := h
theorem keepc {W : World} {b o p i : Nat} {v u : Value} (h : W.cell? ⟨b, o, none⟩ = some u) (hne : b ≠ p) : (W.setCell ⟨p, i, none⟩ v).cell? ⟨b, o, none⟩ = some u :=
  (World.cell?_setCell_other W ⟨p, i, none⟩ ⟨b, o, none⟩ v (fun e => hne (by injection e with e1 _ _; exact e1.symm))).trans h
theorem setCells_size2 (b : Nat) : ∀ (vs : List Value) (o : Nat) (w : World), (w.setCells b o vs).heap.size = w.heap.size
  | [], _, _ => rfl
  | v :: r, o, w => by rw [World.setCells, setCells_size2 b r]; simp
set_option maxRecDepth 100000 in
set_option maxHeartbeats 16000000 in
theorem Drawn_yes (room : Int) (A : Option Addr) (c : Nat) (ls : List Lay) (m : Int) (top : Bool) (w : World) (ht : okT room ls) (h0 : 1 ≤ m) (h1 : m ≤ 1000000) (hm : m ≤ sumA ls) (hr : Rw w w.heap.size 2 A (ls.map encL)) :
    Calls Try.prog 11 #[.agg #[.int .i64 room, .slice A ls.length c], .int .i64 m, .bool top] w (RetDr room ls m top w) := by
  have hne : ls ≠ [] := by rintro rfl; simp at hm; omega
  obtain ⟨sb, so, rfl, hsb, hsrc⟩ := hr (by simpa using hne)
  obtain ⟨W0, hW0⟩ : ∃ W0, W0 = ((w.alloc (.cells #[.int .i64 room, .slice (some ⟨sb, so, none⟩) ls.length c] 33)).alloc (.cells #[.int .i64 m] 3)).alloc (.cells #[.int .i64 0, .slice none 0 0] 33) := ⟨_, rfl⟩
  have hB0 : Below w.heap.size w W0 := by rw [hW0]; (repeat first | (with_reducible first | assumption | exact Below.refl _ _ | refine Bl.drew ?_ | refine Bl.drewN ?_ _ | refine Bl.alloc ?_ _ | refine Bl.set ?_ _ ?_) | (with_reducible apply Bl.step'; (focus (with_reducible assumption))) | omega | (focus (simp; done)) | (focus (simp; omega)))
  have k0 : W0.heap[w.heap.size]? = some (.cells #[.int .i64 room, .slice (some ⟨sb, so, none⟩) ls.length c] 33 (0, 0)) := by
    rw [hW0]; exact (Below.heap_alloc _ _ _ (by simp)).trans ((Below.heap_alloc _ _ _ (by simp)).trans (heap_alloc_new w _))
  have k1 : W0.heap[w.heap.size + 1]? = some (.cells #[.int .i64 m] 3 (0, 0)) := by
    rw [hW0]; exact (Below.heap_alloc _ _ _ (by simp)).trans (heap_two w _ _)
  have k2 : W0.heap[w.heap.size + 1 + 1]? = some (.cells #[.int .i64 0, .slice none 0 0] 33 (0, 0)) := by
    rw [hW0]; have := heap_alloc_new ((w.alloc (.cells #[.int .i64 room, .slice (some ⟨sb, so, none⟩) ls.length c] 33)).alloc (.cells #[.int .i64 m] 3)) (.cells #[.int .i64 0, .slice none 0 0] 33)
    rwa [World.size_alloc, World.size_alloc] at this
  have HR := Lib.hid hr; clear hr
  have HT := Lib.hid ht
  have HM := Lib.hid hm
  have hn := ht.len
  have hRw : Rw W0 W0.heap.size 2 (some ⟨sb, so, none⟩) (ls.map encL) := (Rw.belowB (w0 := w) HR.out hB0 (Nat.le_refl _)).more hB0.size
  have hCT := Lib.hid (fun (W : World) (hb : Below W0.heap.size W0 W) => CheckTank_c room (some ⟨sb, so, none⟩) c ls W HT.out ((Rw.belowB (w0 := W0) hRw hb (Nat.le_refl _)).more hb.size))
  have hSM := Lib.hid (fun (W : World) (hb : Below W0.heap.size W0 W) => sum_c room (some ⟨sb, so, none⟩) c ls W hn (fun x hx => HT.out.bd hx) ((Rw.belowB (w0 := W0) hRw hb (Nat.le_refl _)).more hb.size))
  obtain ⟨d0, df0, d1, df1⟩ := cv2 k0
  obtain ⟨a0, af0⟩ := cv1 k1
  have z0 := blk_lt k0
  have z1 := blk_lt k1
  have z2 := blk_lt k2
  have hfd := Try.fldL0 (.int .i64 (sumA ls)) (.int .i64 (sumH ls))
  have hgt : decide (sumA ls < m) = false := decide_eq_false (by omega)
  have hrg : rng m 1 1000000 = 0 := rng_ok h0 h1
  have hz1 : (firstErr [0, rng m 1 1000000, whn false 16] != 0) = false := by rw [hrg]; rfl
  have K2 := Lib.hid k2
  have HB0 := Lib.hid hB0
  have K0 := Lib.hid k0
  have K1 := Lib.hid k1
  clear hrg hm k0 k1 k2 ht hB0 hRw
  have hmk := mkLay ls.length (by omega)
  refine callsIn_wide (n := 3) |>.1 ?_
  refine callsIn_of_wp_marks Try.func11 rfl trivial ?_ rfl
  simp only [Try.ntmps11, List.size_toArray, List.length_cons, List.length_nil, Nat.reduceAdd, Nat.reduceSub, Array.replicate_succ, Array.replicate_zero, List.push_toArray, List.append_toArray, List.nil_append, List.cons_append]
  refine wpIn_wide.2 ?_
  go_upto_region 1 with fail
  rw [← hW0]
  clear hW0
  go_region_held3 (fun W => (W0).heap.size ≤ W.heap.size ∧ (∀ b o, b < (W0).heap.size → W.cell? ⟨b, o, none⟩ = (W0).cell? ⟨b, o, none⟩) ∧ (∀ b, b < (W0).heap.size → W.heap[b]? = (W0).heap[b]?)) ((refine Sh.goal ?_; repeat first | (with_reducible first | assumption | exact Sh.refl _ | refine Sh.drew ?_ | refine Sh.alloc ?_ _ | refine Sh.set ?_ _ ?_) | (with_reducible apply Sh.below'; (focus (with_reducible assumption))) | omega | (focus (simp; done)) | (focus (simp; omega)))) (first | (go_at_call 26; (with_reducible refine Calls.mono (hCT.out _ (by (repeat first | (with_reducible first | assumption | exact Below.refl _ _ | refine Bl.drew ?_ | refine Bl.drewN ?_ _ | refine Bl.alloc ?_ _ | refine Bl.set ?_ _ ?_) | (with_reducible apply Bl.step'; (focus (with_reducible assumption))) | omega | (focus (simp; done)) | (focus (simp; omega))))) ?_); rintro e w1 ⟨rfl, hb1⟩) | (go_at_call 29; (with_reducible refine Calls.mono (swithin_c _ _ _ _) ?_); rintro e w' ⟨rfl, rfl⟩) | (go_at_call 27; (with_reducible refine Calls.mono (hSM.out _ (by (repeat first | (with_reducible first | assumption | exact Below.refl _ _ | refine Bl.drew ?_ | refine Bl.drewN ?_ _ | refine Bl.alloc ?_ _ | refine Bl.set ?_ _ ?_) | (with_reducible apply Bl.step'; (focus (with_reducible assumption))) | omega | (focus (simp; done)) | (focus (simp; omega))))) ?_); rintro e w2 ⟨rfl, hb2⟩) | (go_at_call 30; (with_reducible refine Calls.mono (swhen_c _ _ _) ?_); rintro e w' ⟨rfl, rfl⟩) | (go_at_call 28; refine (sfirst_c _ [0, rng m 1 1000000, whn false 16] _ ?_ ?_).mono ?_; (focus simp); (focus simp [CellsAt]); rintro e w' ⟨rfl, rfl⟩))
  all_goals
    rename_i hHeld
    clear hHeld
    obtain ⟨W1, hW1⟩ : ∃ W, W = w2.alloc (.cells #[.int .i64 0, .int .i64 (rng m 1 1000000), .int .i64 (whn false 16)] 35) := ⟨_, rfl⟩
    rw [← hW1]
    have hb1 : Below W0.heap.size W0 W1 := by rw [hW1]; (repeat first | (with_reducible first | assumption | exact Below.refl _ _ | refine Bl.drew ?_ | refine Bl.drewN ?_ _ | refine Bl.alloc ?_ _ | refine Bl.set ?_ _ ?_) | (with_reducible apply Bl.step'; (focus (with_reducible assumption))) | omega | (focus (simp; done)) | (focus (simp; omega)))
    have n0 := (hb1.block _ z0).trans K0.out
    have n1 := (hb1.block _ z1).trans K1.out
    have n2 := (hb1.block _ z2).trans K2.out
    have hbw : Below w.heap.size w W1 := HB0.out.trans (hb1.mono HB0.out.size)
    have hs1 := hb1.size
    clear d0 d1 df0 df1 a0 af0 hW1
    obtain ⟨d0, df0, d1, df1⟩ := cv2 n0
    have z3 : w.heap.size < W1.heap.size := Nat.lt_of_lt_of_le z0 hs1
    go_upto_region 5 with fail
    obtain ⟨gL, hgL⟩ : ∃ b, b = W1.heap.size := ⟨_, rfl⟩
    obtain ⟨W4, hW4⟩ : ∃ W, W = (W1.alloc (.cells (madeCells #[.int .i64 0, .int .i64 0] (ls.length * 2)) 76)).alloc (.cells #[.slice (some ⟨W1.heap.size, 0, none⟩) ls.length ls.length] 31) := ⟨_, rfl⟩
    rw [← hW4]
    rw [← hgL]
    have hb4 : Below W1.heap.size W1 W4 := by rw [hW4]; (repeat first | (with_reducible first | assumption | exact Below.refl _ _ | refine Bl.drew ?_ | refine Bl.drewN ?_ _ | refine Bl.alloc ?_ _ | refine Bl.set ?_ _ ?_) | (with_reducible apply Bl.step'; (focus (with_reducible assumption))) | omega | (focus (simp; done)) | (focus (simp; omega)))
    have kL : W4.heap[gL]? = some (.cells (madeCells #[.int .i64 0, .int .i64 0] (ls.length * 2)) 76 (0, 0)) := by rw [hW4, hgL]; exact blk_alloc (heap_alloc_new W1 _)
    have kl : W4.heap[gL + 1]? = some (.cells #[.slice (some ⟨gL, 0, none⟩) ls.length ls.length] 31 (0, 0)) := by
      rw [hW4, hgL]; exact heap_two W1 _ _
    have hs4 : W4.heap.size = gL + 2 := by rw [hW4, hgL]; simp
    obtain ⟨hcp, hown⟩ := copy_own (W := W4) (g := gL) (b := sb) (off := so) (ls := ls) (c := c) (by omega) kL (fun k hk => by
      have hb5 : Below w.heap.size w W4 := hbw.trans (hb4.mono hbw.size)
      have q0 := hsrc k (by simpa using hk) 0 (.int .i64 ls[k].a) (by rw [List.getElem_map]; rfl)
      have q1 := hsrc k (by simpa using hk) 1 (.int .i64 ls[k].h) (by rw [List.getElem_map]; rfl)
      rw [Nat.add_zero] at q0
      exact ⟨(hb5.cell (p := ⟨sb, _, none⟩) hsb).trans q0, (hb5.cell (p := ⟨sb, _, none⟩) hsb).trans q1⟩)
    have m0 := blk_step hb4 n0
    have m1 := blk_step hb4 n1
    have m2 := blk_step hb4 n2
    obtain ⟨W5, hW5⟩ : ∃ W, W = W4.setCells gL 0 (ls.map encL).flatten := ⟨_, rfl⟩
    rw [← hW5] at hcp hown
    have hg5 : W4.grownBy W5 (some gL) := by rw [hW5]; exact grow_setCells _ _ _ _
    have hgl1 : w.heap.size + 1 + 1 < gL := by rw [hgL]; exact Nat.lt_of_lt_of_le z2 hs1
    have p0 := (gr_block hg5 (by omega) (by simp; omega)).trans m0
    have p1 := (gr_block hg5 (by omega) (by simp; omega)).trans m1
    have p2 := (gr_block hg5 (by omega) (by simp; omega)).trans m2
    have pl := (gr_block hg5 (by omega) (by simp)).trans kl
    have hb5 : Below w.heap.size w W5 := Below.grown (hbw.trans (hb4.mono hbw.size)) hg5 (by omega) (fun j e => by cases e; omega)
    have hs5 : W5.heap.size = gL + 2 := by have := hg5.size; rw [hW5]; simp [setCells_size2]; omega
    clear d0 d1 df0 df1 n0 n1 n2
    obtain ⟨d0, df0, d1, df1⟩ := cv2 m0
    obtain ⟨e0, ef0⟩ := cv1 kl
    have P0 := Lib.hid p0
    have P1 := Lib.hid p1
    have P2 := Lib.hid p2
    have PL := Lib.hid pl
    have HO := Lib.hid hown
    have HB5 := Lib.hid hb5
    have HS5 := Lib.hid hs5
    have HS4 := Lib.hid hs4
    clear m0 m1 m2 kL kl hown hg5 hb5 hW4 hgL hb4 hs4 hW5 hs5 hbw hs1
    go_upto_region 7 with fail
    clear d0 d1 df0 df1 e0 ef0
    obtain ⟨t0, tf0, t1, tf1⟩ := cv2 P0.out
    have z5 := blk_lt P0.out
    go_wp2_with (go_at_call 31; refine (layers_c room (some ⟨sb, so, none⟩) _ c top _).mono ?_; rintro e w' ⟨rfl, rfl⟩)
    obtain ⟨W6, hW6⟩ : ∃ W, W = ((W5.alloc (.cells #[.int .i64 0] 3)).alloc (.cells #[.int .i64 room, .slice (some ⟨sb, so, none⟩) ls.length c] 33)).alloc (.cells #[.bool top] 4) := ⟨_, rfl⟩
    rw [← hW6]
    have hb6 : Below W5.heap.size W5 W6 := by rw [hW6]; (repeat first | (with_reducible first | assumption | exact Below.refl _ _ | refine Bl.drew ?_ | refine Bl.drewN ?_ _ | refine Bl.alloc ?_ _ | refine Bl.set ?_ _ ?_) | (with_reducible apply Bl.step'; (focus (with_reducible assumption))) | omega | (focus (simp; done)) | (focus (simp; omega)))
    have q0 := blk_step hb6 P0.out
    have q1 := blk_step hb6 P1.out
    have q2 := blk_step hb6 P2.out
    have ql := blk_step hb6 PL.out
    have qh : W6.heap[W5.heap.size]? = some (.cells #[.int .i64 0] 3 (0, 0)) := by
      rw [hW6]; exact (Below.heap_alloc _ _ _ (by simp)).trans ((Below.heap_alloc _ _ _ (by simp)).trans (heap_alloc_new W5 _))
    have hs6 : W6.heap.size = W5.heap.size + 3 := by rw [hW6]; simp
    have hb7 : Below w.heap.size w W6 := HB5.out.trans (hb6.mono HB5.out.size)
    have hrw6 := Rw.belowB (w0 := w) HR.out hb7 (Nat.le_refl _)
    have hst := layers_stops 2 (by decide) room (some ⟨sb, so, none⟩) c ls top (W5.heap.size + 1) (W5.heap.size + 1 + 1) w.heap.size (by omega) W6 (by omega) (by omega) (by have := HB5.out.size; omega) (by rw [hW6]; simp [World.cell?_alloc_lt, cells_new]) (by rw [hW6]; simp [World.cell?_alloc_lt, cells_new]) (by rw [hW6]; simp [cells_new]) hrw6
    have hO6 := HO.out.below hb6
    have hlb : ∀ x ∈ ls, bdL x ∧ okL x := fun x hx => ⟨HT.out.bd hx, HT.out.each x hx⟩
    have hsg1 : gL + 2 ≤ W5.heap.size := Nat.le_of_eq HS5.out.symm
    have hsg2 : W5.heap.size ≤ gL + 2 := Nat.le_of_eq HS5.out
    have hs61 : W5.heap.size + 3 ≤ W6.heap.size := Nat.le_of_eq hs6.symm
    clear hs6
    have HW6 := Lib.hid hb7
    clear hW6 t0 tf0 t1 tf1 hrw6 hb6 hb7
    refine (wpIn_wide (n := 3)).1 ?_
    refine wpIn_rangeFunc_ownH rfl (by decide) (gf := 51) (lb := #[.pointer (some ⟨W5.heap.size + 1, 0, none⟩), .pointer (some ⟨W5.heap.size + 1 + 1, 0, none⟩)]) rfl trivial (enters_of Try.func51 (by kernel_rfl) rfl)
      hst KpN.t (kpN_b (by omega) (by omega) (by omega)) (Below.refl _ _) (fun _ => rfl)
      (fun (pre : List (Fin ls.length)) W => ((((((W.heap[w.heap.size + 1]? = some (.cells #[.int .i64 (drP ls m top pre).amt] 3 (0, 0)) ∧ W.heap[W5.heap.size]? = some (.cells #[.int .i64 (drP ls m top pre).hot] 3 (0, 0))) ∧ W.heap[gL + 1]? = some (.cells #[.slice (some ⟨gL, 0, none⟩) ls.length ls.length] 31 (0, 0))) ∧ W.heap[w.heap.size]? = some (.cells #[.int .i64 room, .slice (some ⟨sb, so, none⟩) ls.length c] 33 (0, 0))) ∧ W.heap[w.heap.size + 1 + 1]? = some (.cells #[.int .i64 0, .slice none 0 0] 33 (0, 0))) ∧ OwnL W gL (some ⟨gL, 0, none⟩) ls.length (drP ls m top pre).z) ∧ Below w.heap.size W6 W))
      (fun _ _ _ => False)
      (OwnFrom.and (OwnFrom.and (OwnFrom.and (OwnFrom.and (OwnFrom.and (OwnFrom.and (own_blk _ _ _ _ _) (own_blk _ _ _ _ _)) (own_blk _ _ _ _ _)) (own_blk _ _ _ _ _)) (own_blk _ _ _ _ _)) (own_ownL _ _ _ _ _)) (ownFrom_below (by omega) (by omega)))
      (fun _ _ _ _ _ hs _ _ => hs)
      ⟨⟨⟨⟨⟨⟨q1, qh⟩, ql⟩, q0⟩, q2⟩, hO6⟩, Below.refl _ _⟩
      (fun x a' W => ∃ Bx, W6.heap.size ≤ Bx ∧ W.heap[Bx]? = some (.cells #[.int .i64 (lyAt ls top x.1).a, .int .i64 (lyAt ls top x.1).h] 76 (0, 0)) ∧ a' = { tmps := #[.agg #[.int .i64 room, .slice (some ⟨sb, so, none⟩) ls.length c], .int .i64 m, .bool top, .pointer (some ⟨w.heap.size, 0, none⟩), .pointer (some ⟨w.heap.size + 1, 0, none⟩), undef, .pointer (some ⟨w.heap.size + 1 + 1, 0, none⟩), .int .i64 0, .int .i64 0, .int .i64 (firstErr [0, rng m 1 1000000, whn false 16]), .pointer (some ⟨gL + 1, 0, none⟩), .pointer (some ⟨W5.heap.size, 0, none⟩), .int .i64 (idxT ls.length top x.1 : Nat), .pointer (some ⟨Bx, 0, none⟩), undef, undef, .agg #[.int .i64 room, .slice (some ⟨sb, so, none⟩) ls.length c], .int .i64 0, .int .i64 m, .int .i64 (rng m 1 1000000), .int .i64 m, .agg #[.int .i64 room, .slice (some ⟨sb, so, none⟩) ls.length c], .agg #[.int .i64 (sumA ls), .int .i64 (sumH ls)], .int .i64 (sumA ls), .bool false, .int .i64 (whn false 16), .slice (some ⟨w2.heap.size, 0, none⟩) 3 3, .int .i64 (firstErr [0, rng m 1 1000000, whn false 16]), .int .i64 (firstErr [0, rng m 1 1000000, whn false 16]), .bool false, undef, undef, .pointer (some ⟨w.heap.size, 1, none⟩), .slice (some ⟨sb, so, none⟩) ls.length c, .int .i64 ls.length, .slice (some ⟨gL, 0, none⟩) ls.length ls.length, .slice (some ⟨gL, 0, none⟩) ls.length ls.length, .pointer (some ⟨w.heap.size, 1, none⟩), .slice (some ⟨sb, so, none⟩) ls.length c, .int .i64 ls.length, .agg #[.int .i64 room, .slice (some ⟨sb, so, none⟩) ls.length c], .bool top, .func (.func 51) #[] #[.pointer (some ⟨W5.heap.size + 1, 0, none⟩), .pointer (some ⟨W5.heap.size + 1 + 1, 0, none⟩)], .int .i64 (idxT ls.length top x.1 : Nat), .agg #[.int .i64 (lyAt ls top x.1).a, .int .i64 (lyAt ls top x.1).h], undef, undef, undef, undef, undef, undef, undef, undef, undef, undef, undef, undef, undef, undef, undef, undef, undef, undef, undef, undef, undef, undef, undef, undef, undef, undef, undef, undef, undef, undef, undef, undef, undef, undef, undef, undef, undef], defers := [] })
      (fun x a' s W1 W2 row hs hg hr => by
        obtain ⟨Bx, h1, h2, h3⟩ := hs
        exact ⟨Bx, h1, own_blk (σ := Unit) W6.heap.size Bx (fun _ => #[.int .i64 (lyAt ls top x.1).a, .int .i64 (lyAt ls top x.1).h]) 76 (0, 0) () W1 W2 row h2 hg hr, h3⟩)
      ?assign ?body ?done ?stop
    case assign =>
      rintro l pre x W K ⟨⟨⟨⟨⟨⟨ka, kh⟩, kl⟩, kt⟩, kr⟩, ho⟩, hB⟩ hK
      have hbs := hB.size
      have hlt := blk_lt kh
      dsimp only [encV]
      gi_wp2
      exact hK _ _ ((KeepsOthers.alloc _ _).from _) (KpN.of ((Below.refl _ W).alloc (Nat.le_refl _) _) (by omega) (by omega) (by omega)) ⟨⟨⟨⟨⟨⟨blk_alloc ka, blk_alloc kh⟩, blk_alloc kl⟩, blk_alloc kt⟩, blk_alloc kr⟩, ho.below ((Below.refl _ W).alloc (Nat.le_refl _) _)⟩, hB.alloc (by omega) _⟩ ⟨W.heap.size, hbs, heap_alloc_new _ _, rfl⟩
    case body =>
      rintro l pre x a' W hll ⟨r, hr⟩ ⟨⟨⟨⟨⟨⟨ka, kh⟩, kl⟩, kt⟩, kr⟩, ho⟩, hB⟩ ⟨Bx, hBx, kx, rfl⟩ hlen
      have hbs := hB.size
      have hlt := blk_lt kh
      have hltx := blk_lt kx
      obtain ⟨s, hs⟩ : ∃ s, s = drP ls m top pre := ⟨_, rfl⟩
      obtain ⟨y, hy⟩ : ∃ y, y = lyAt ls top x.1 := ⟨_, rfl⟩
      obtain ⟨i, hi⟩ : ∃ i, i = idxT ls.length top x.1 := ⟨_, rfl⟩
      have hil : i < ls.length := by rw [hi]; exact idxT_lt top x.2
      have hym : y ∈ ls := by rw [hy, lyAt_mem x.2]; exact List.getElem_mem _
      obtain ⟨hyb, hyo⟩ := hlb _ hym
      have hbd := drP_bd (m := m) top hlb (by omega) pre
      have hsn := drP_snoc ls m top pre x
      rw [← hs] at ka kh ho hbd hsn
      rw [← hy] at kx
      have hsn2 : drP ls m top (pre ++ [x]) = ⟨s.z.set i (dr1 y s.amt).1, s.hot + (dr1 y s.amt).2.1, s.amt - (dr1 y s.amt).2.2⟩ := by rw [hsn, hi, hy]; rfl
      obtain ⟨b1, b2, b3, b4, b5⟩ := hbd
      have hd1 := dr1_ok (m := s.amt) hyo b2
      obtain ⟨_, o2, o3, o4, o5, o6, _, _⟩ := hd1
      obtain ⟨ya0, ya1, yh0, yh1⟩ := hyb
      have hya := hyo.1
      obtain ⟨P, hP⟩ : ∃ P, P = min s.amt y.a := ⟨_, rfl⟩
      obtain ⟨T, hT⟩ : ∃ T, T = y.h * P / y.a := ⟨_, rfl⟩
      have hPd : (dr1 y s.amt).2.2 = P := by rw [hP]; rfl
      have hTd : (dr1 y s.amt).2.1 = T := by rw [hT, hP]; rfl
      have hLd : (dr1 y s.amt).1 = ⟨y.a - P, y.h - T⟩ := by rw [hT, hP]; rfl
      rw [hTd] at o2 o3
      rw [hPd] at o4 o5 o6
      rw [hPd, hTd, hLd] at hsn2
      obtain ⟨u1, u2⟩ := mul_bd (a := y.h) (b := P) (A := 1000000000) (B := 1000000) (by omega) (by omega) (by omega) (by omega)
      have u3 : 0 ≤ y.h * P := Int.mul_nonneg yh0 o4
      have hpl : (pre.length : Int) ≤ 16 := by omega
      have hii : (i : Int) < (ls.length : Int) := by omega
      have hzi : i < s.z.length := by omega
      obtain ⟨a0, af0⟩ := cv1 ka
      obtain ⟨h0_, hf0_⟩ := cv1 kh
      obtain ⟨l0, lf0⟩ := cv1 kl
      obtain ⟨x0, xf0, x1, xf1⟩ := cv2 kx
      obtain ⟨c0, c1⟩ := ho.at hzi
      have hfz0 := ho.fz (i * 2)
      have hfz1 := ho.fz (i * 2 + 1)
      have hgW : gL < W.heap.size := by omega
      have HKA := Lib.hid ka
      have HKH := Lib.hid kh
      have HKL := Lib.hid kl
      have HKT := Lib.hid kt
      have HKR := Lib.hid kr
      have HHO := Lib.hid ho
      have HHB := Lib.hid hB
      have HSN := Lib.hid hsn2
      have hmin : min s.amt y.a = P := hP.symm
      have hdiv : y.h * P / y.a = T := hT.symm
      clear hr ka kh kl kt kr kx ho hB hsn hsn2 hPd hTd hLd hs hy hym hyo hP hT
      rw [← hi]
      clear hi
      gi_wp2
      have hn1 : gL ≠ W5.heap.size := by omega
      have hn2 : gL ≠ w.heap.size + 1 := by omega
      have hn3 : w.heap.size + 1 ≠ W5.heap.size := by omega
      obtain ⟨Wa, hWa⟩ : ∃ V, V = (W.setCell ⟨gL, i * 2, none⟩ (.int .i64 (y.a - P))).setCell ⟨gL, i * 2 + 1, none⟩ (.int .i64 (y.h - T)) := ⟨_, rfl⟩
      rw [← hWa]
      have hoth : ∀ d, d ≠ gL → Wa.heap[d]? = W.heap[d]? := fun d hd => by rw [hWa, heap_setCell_other _ _ _ _ hd, heap_setCell_other _ _ _ _ hd]
      have hsa : Wa.heap.size = W.heap.size := by rw [hWa]; simp
      have hoa : OwnL Wa gL (some ⟨gL, 0, none⟩) ls.length (s.z.set i ⟨y.a - P, y.h - T⟩) := by rw [hWa]; exact HHO.out.set hzi ⟨y.a - P, y.h - T⟩
      have hall : ∀ d, d ≠ gL → d ≠ W5.heap.size → d ≠ w.heap.size + 1 → ((Wa.setCell ⟨W5.heap.size, 0, none⟩ (.int .i64 (s.hot + T))).setCell ⟨w.heap.size + 1, 0, none⟩ (.int .i64 (s.amt - P))).heap[d]? = W.heap[d]? := fun d h1 h2 h3 => by rw [set1_other _ h3, set1_other _ h2, hoth d h1]
      refine ⟨?_, ⟨?_, hall _ (by omega) (by omega) (by omega), hall _ (by omega) (by omega) (by omega)⟩, ?_⟩
      · have hka : KeepsFrom W6.heap.size W Wa := by rw [hWa]; exact ((KeepsOthers.setCell _ _ _).from _).trans ((KeepsOthers.setCell _ _ _).from _)
        exact hka.trans (((KeepsOthers.setCell _ _ _).from _).trans ((KeepsOthers.setCell _ _ _).from _))
      · refine Below.setCell (Below.setCell ?_ (p := ⟨W5.heap.size, 0, none⟩) (by show w.heap.size ≤ W5.heap.size; omega) _) (p := ⟨w.heap.size + 1, 0, none⟩) (Nat.le_succ _) _
        rw [hWa]
        exact Below.setCell (Below.setCell (Below.refl _ _) (p := ⟨gL, i * 2, none⟩) (by show w.heap.size ≤ gL; omega) _) (p := ⟨gL, i * 2 + 1, none⟩) (by show w.heap.size ≤ gL; omega) _
      · dsimp only
        rw [HSN.out]
        refine ⟨⟨⟨⟨⟨⟨set1_block ((set1_other _ hn3).trans ((hoth _ hn2.symm).trans HKA.out)), (set1_other _ hn3.symm).trans (set1_block ((hoth _ hn1.symm).trans HKH.out))⟩, (hall _ (by omega) (by omega) (by omega)).trans HKL.out⟩, (hall _ (by omega) (by omega) (by omega)).trans HKT.out⟩, (hall _ (by omega) (by omega) (by omega)).trans HKR.out⟩, ?_⟩, ?_⟩
        · exact OwnL.keep (OwnL.keep hoa (grow_set1 Wa W5.heap.size 0 (.int .i64 (s.hot + T))) (fun a ha => by cases ha; simp; omega)) (grow_set1 _ (w.heap.size + 1) 0 (.int .i64 (s.amt - P))) (fun a ha => by cases ha; simp; omega)
        · refine Below.setCell (Below.setCell ?_ (p := ⟨W5.heap.size, 0, none⟩) (by show w.heap.size ≤ W5.heap.size; omega) _) (p := ⟨w.heap.size + 1, 0, none⟩) (Nat.le_succ _) _
          rw [hWa]
          exact Below.setCell (Below.setCell HHB.out (p := ⟨gL, i * 2, none⟩) (by show w.heap.size ≤ gL; omega) _) (p := ⟨gL, i * 2 + 1, none⟩) (by show w.heap.size ≤ gL; omega) _
    case done =>
      rintro D ys W hD rfl ⟨⟨⟨⟨⟨⟨ka, kh⟩, kl⟩, kt⟩, kr⟩, ho⟩, hB⟩ hK
      rw [drP_vis] at ka kh ho
      obtain ⟨Z, hZ⟩ : ∃ Z, Z = (drK ls m top ls.length).z := ⟨_, rfl⟩
      have hZl : Z.length = ls.length := by rw [hZ, drK_len]
      obtain ⟨K, hKe⟩ : ∃ K, K = keptL ls m top := ⟨_, rfl⟩
      have hKf : (Z.filter fun x => !noL x) = K := by rw [hKe, hZ]; rfl
      obtain ⟨k1, k2, k3, k4, k5⟩ := keptL_ok (m := m) top HT.out (by omega)
      rw [← hKe] at k1 k2 k3 k4
      have hta := HT.out.a
      have htr := HT.out.room1
      have hth := HT.out.h
      obtain ⟨hot, hhot⟩ : ∃ x, x = (drK ls m top ls.length).hot := ⟨_, rfl⟩
      have hHO2 : drawH ls m top = hot := by rw [hhot]; rfl
      have hTG : drawT ls m top = togF K := by rw [hKe]; rfl
      rw [← hZ] at ho
      rw [← hhot] at kh
      have hdel := deleteFunc_c gL gL ls.length Z W (by omega) ho
      rw [hZl] at hdel
      have HDEL := Lib.hid hdel
      obtain ⟨l0, lf0⟩ := cv1 kl
      have hbs := hB.size
      have hgW : gL + 1 < W.heap.size := by omega
      have HK0 := Lib.hid hK
      have HKH := Lib.hid kh
      have HKL := Lib.hid kl
      have HKT := Lib.hid kt
      have HKR := Lib.hid kr
      have HBW := Lib.hid hB
      have HTG := Lib.hid hTG
      have HH2 := Lib.hid hHO2
      have HKF := Lib.hid hKf
      have hK2 : K.length ≤ 1000 := by omega
      have HTOG := Lib.hid (fun (V : World) (hr : Rw V V.heap.size 2 (some ⟨gL, 0, none⟩) (K.map encL)) => together_c (some ⟨gL, 0, none⟩) ls.length K V hK2 k1 (by omega) (by omega) hr)
      clear ka kh kl kt kr ho hB hZ hdel hK hKe hhot hHO2 hTG hKf k1 k3 k4
      have hne1 : gL ≠ w.heap.size := by omega
      have hne2 : gL ≠ W5.heap.size := by omega
      have hne3 : gL ≠ w.heap.size + 1 + 1 := by omega
      have hne4 : gL ≠ gL + 1 := by omega
      go_upto_region 15 with fail
      go_wp2_with (go_at_call 32; refine (HDEL.out).mono ?_; rintro e w3 ⟨rfl, ho3, hg3⟩; (obtain ⟨l30, l3f⟩ := cv1 ((gr_block hg3 hgW (by simp)).trans HKL.out)); (have hgw3 : gL + 1 < w3.heap.size := Nat.lt_of_lt_of_le hgW hg3.size))
      rw [HKF.out] at ho3 ⊢
      obtain ⟨W7, hW7⟩ : ∃ V, V = w3.setCell ⟨gL + 1, 0, none⟩ (.slice (some ⟨gL, 0, none⟩) K.length ls.length) := ⟨_, rfl⟩
      rw [← hW7]
      have h7o : ∀ d, d < W.heap.size → d ≠ gL → d ≠ gL + 1 → W7.heap[d]? = W.heap[d]? := fun d hd h1 h2 => by rw [hW7, set1_other _ h2]; exact gr_block hg3 hd (by simp; omega)
      have r0 := (h7o _ (by omega) (by omega) (by omega)).trans HKT.out
      have r1 := (h7o _ (by omega) (by omega) (by omega)).trans HKH.out
      have r2 := (h7o _ (by omega) (by omega) (by omega)).trans HKR.out
      have r3 : W7.heap[gL + 1]? = some (.cells #[.slice (some ⟨gL, 0, none⟩) K.length ls.length] 31 (0, 0)) := by rw [hW7]; exact set1_block ((gr_block hg3 hgW (by simp)).trans HKL.out)
      have rD : W7.heap[D]? = some (.deferred (some [])) := (h7o _ (blk_lt HK0.out) (by omega) (by omega)).trans HK0.out
      have ho7 : OwnL W7 gL (some ⟨gL, 0, none⟩) ls.length K := by
        rw [hW7]
        exact OwnL.keep ho3 (grow_set1 w3 (gL + 1) 0 _) (fun a ha => by cases ha; simp)
      have hb7 : Below w.heap.size w W7 := by
        rw [hW7]
        exact Below.setCell (Below.grown (HW6.out.trans (HBW.out)) hg3 (by omega) (fun j e => by cases e; omega)) (p := ⟨gL + 1, 0, none⟩) (by show w.heap.size ≤ gL + 1; omega) _
      have hrw7 := ho7.row.1
      obtain ⟨t0, tf0, t1, tf1⟩ := cv2 r0
      obtain ⟨v0, vf0⟩ := cv1 r1
      obtain ⟨n0, nf0⟩ := cv1 r3
      obtain ⟨y0, yf0, y1, yf1⟩ := cv2 r2
      have y7 : w.heap.size < W7.heap.size := blk_lt r0
      have y8 : W5.heap.size < W7.heap.size := blk_lt r1
      have y9 : w.heap.size + 1 + 1 < W7.heap.size := blk_lt r2
      have y10 : gL + 1 < W7.heap.size := blk_lt r3
      have HR7 := Lib.hid hrw7
      have HR2 := Lib.hid r2
      have HRD := Lib.hid rD
      have HB7 := Lib.hid hb7
      clear hW7 h7o r0 r1 r2 r3 rD ho7 hb7 hrw7 l0 lf0 l30 l3f hgw3 hg3 ho3
      go_region_held3 (fun V => V.cell? ⟨w.heap.size, 0, none⟩ = some (.int .i64 room) ∧ V.cell? ⟨gL + 1, 0, none⟩ = some (.slice (some ⟨gL, 0, none⟩) K.length ls.length) ∧ V.cell? ⟨W5.heap.size, 0, none⟩ = some (.int .i64 hot)) (refine ⟨?_, ?_, ?_⟩ <;> (repeat first | (with_reducible assumption) | refine drewc ?_ | refine keepc ?_ (by omega))) (first | (go_at_call 34; refine (HTOG.out _ (by first | exact HR7.out)).mono ?_; rintro e w8 ⟨A8, c8, rfl, ho8, hb8⟩; (have hb9 : Below W7.heap.size W7 w8 := by (repeat first | (with_reducible first | assumption | exact Below.refl _ _ | refine Bl.drew ?_ | refine Bl.drewN ?_ _ | refine Bl.alloc ?_ _ | refine Bl.set ?_ _ ?_) | (with_reducible apply Bl.step'; (focus (with_reducible assumption))) | omega | (focus (simp; done)) | (focus (simp; omega)))); (have s0 : w8.cell? ⟨w.heap.size, 0, none⟩ = some (.int .i64 room) := (hb9.cell (p := ⟨w.heap.size, 0, none⟩) y7).trans t0); (have s1 : w8.cell? ⟨gL + 1, 0, none⟩ = some (.slice (some ⟨gL, 0, none⟩) K.length ls.length) := (hb9.cell (p := ⟨gL + 1, 0, none⟩) y10).trans n0); (have s2 : w8.cell? ⟨W5.heap.size, 0, none⟩ = some (.int .i64 hot) := (hb9.cell (p := ⟨W5.heap.size, 0, none⟩) y8).trans v0); (obtain ⟨x0, xf0, x1, xf1⟩ := cv2 ((hb9.block _ y9).trans HR2.out))))
      all_goals
        go_wp2_with fail
        have hb9 : Below W7.heap.size W7 w8 := by (repeat first | (with_reducible first | assumption | exact Below.refl _ _ | refine Bl.drew ?_ | refine Bl.drewN ?_ _ | refine Bl.alloc ?_ _ | refine Bl.set ?_ _ ?_) | (with_reducible apply Bl.step'; (focus (with_reducible assumption))) | omega | (focus (simp; done)) | (focus (simp; omega)))
        have hne5 : D ≠ w.heap.size + 1 + 1 := by omega
        have hD7 := blk_lt HRD.out
        have hk2 : ((w8.setCell ⟨w.heap.size + 1 + 1, 0, none⟩ (.int .i64 room)).setCell ⟨w.heap.size + 1 + 1, 1, none⟩ (.slice A8 (togF K).length c8)).heap[D]? = some (.deferred (some [])) := (set2_other _ _ hne5).trans ((hb9.block _ hD7).trans HRD.out)
        refine ⟨by simp, .inl ⟨_, _, rfl, run_takeDeferred hk2, ?_⟩⟩
        refine ⟨_, Try.resTank rfl _ _ rfl ((World.putObj_heap_other (by omega)).trans (set2_block ((hb9.block _ y9).trans HR2.out))), A8, c8, by rw [HTG.out, HH2.out]; rfl, ?_, ?_⟩
        · rw [HTG.out]
          have ho9 : OwnL w8 W7.heap.size A8 c8 (togF K) := ho8
          have hA8 := ho9.row.2.2
          have h10 := hb9.size
          have h11 := HB7.out.size
          refine OwnL.keep (OwnL.keep (ho9.mono (by omega)) (grow_set2 w8 (w.heap.size + 1 + 1) 0 1 _ _) (fun a ha => ?_)) (grownBy_putObj' _ D _) (fun a ha => ?_)
          · have := (hA8 a ha).1; simp; omega
          · have := (hA8 a ha).1; simp; omega
        · exact (Below.set2 (HB7.out.trans (hb9.mono HB7.out.size)) (by omega) _ _).trans (belowK_b (w := w) (Nat.le_refl _) _ D _ _ (by omega) hk2 rfl rfl)
    case stop =>
      rintro D c pre W _ _ h _
      exact h.elim
end Go.Proofs.Ytgljpjcclncknaa

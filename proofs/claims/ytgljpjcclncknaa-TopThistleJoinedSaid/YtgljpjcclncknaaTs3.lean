/- The sum of a tank's layers. -/
import Derived.Test.YtgljpjcclncknaaTs2
namespace Go.Proofs.Ytgljpjcclncknaa
open Go.RowKit Go.Shelf
attribute [local go_sem] Oper.semAt_some

theorem own_blk {σ : Type} (B b : Nat) (cs : σ → Array Value) (T : TypeId) (z : Nat × Nat) : OwnFrom B (fun (s : σ) W => W.heap[b]? = some (.cells (cs s) T z)) := fun s A B' row hs hg hr => by
  have hlt := blk_lt hs
  refine (gr_block hg hlt fun e => ?_).trans hs
  obtain ⟨_, o, ho, hc⟩ := hr _ e
  rw [hs] at ho
  cases ho
  cases hc
/-- The layers that were visited, as one. -/
def visS (ls : List Lay) (top : Bool) (pre : List (Fin ls.length)) : Lay := pre.foldl (fun s x => ⟨s.a + (lyAt ls top x.1).a, s.h + (lyAt ls top x.1).h⟩) ⟨0, 0⟩
theorem visS_snoc (ls : List Lay) (top : Bool) (pre : List (Fin ls.length)) (x : Fin ls.length) : visS ls top (pre ++ [x]) = ⟨(visS ls top pre).a + (lyAt ls top x.1).a, (visS ls top pre).h + (lyAt ls top x.1).h⟩ := by
  simp [visS, List.foldl_append]
theorem visS_bd {ls : List Lay} {top : Bool} (h : ∀ x ∈ ls, bdL x) (pre : List (Fin ls.length)) : 0 ≤ (visS ls top pre).a ∧ (visS ls top pre).a ≤ 1000000 * pre.length ∧ 0 ≤ (visS ls top pre).h ∧ (visS ls top pre).h ≤ 1000000000 * pre.length := by
  induction pre using snoc_ind with
  | h0 => simp [visS]
  | hs l x ih =>
    rw [visS_snoc, List.length_append, List.length_singleton]
    have hm : lyAt ls top x.1 ∈ ls := by rw [lyAt_mem x.2]; exact List.getElem_mem _
    obtain ⟨h1, h2, h3, h4⟩ := h _ hm
    simp only
    omega
theorem visS_take {ls : List Lay} : ∀ (k : Nat) (hk : k ≤ ls.length), visS ls false (vis ls.length k hk) = ⟨sumA (ls.take k), sumH (ls.take k)⟩
  | 0, _ => rfl
  | k + 1, hk => by
    have hlt : k < ls.length := hk
    have e : lyAt ls false k = ls[k] := by rw [lyAt_mem hlt]; rfl
    rw [vis, visS_snoc, visS_take k (by omega), e, List.take_succ_eq_append_getElem hlt, sumA_app, sumH_app]
    simp
theorem visS_all (ls : List Lay) : visS ls false (vis ls.length ls.length (Nat.le_refl _)) = ⟨sumA ls, sumH ls⟩ := by
  rw [visS_take, List.take_length]

theorem Try.resLay {fn : Func} {t : Tmp} (h : fn.results = #[.cell t 76]) (tmps : Array Value) (w : World) {b : Nat} {T : TypeId} {v0 v1 : Value} (ht : tmps.getD t undef = .pointer (some ⟨b, 0, none⟩)) (hb : w.heap[b]? = some (.cells #[v0, v1] T (0, 0))) :
    (results fn tmps).run Try.prog w = .ok (.agg #[v0, v1]) w := by
  have c0 : w.cell? ⟨b, 0, none⟩ = some v0 := by rw [cell_of_row w _ 0 _ _ _ hb]; rfl
  have c1 : w.cell? ⟨b, 1, none⟩ = some v1 := by rw [cell_of_row w _ 1 _ _ _ hb]; rfl
  rw [Array.getD_eq_getD_getElem?] at ht
  simp only [results, h]
  simp [go_sem, ht, c0, c1]
set_option maxRecDepth 100000 in
set_option maxHeartbeats 2000000 in
theorem sum_c (room : Int) (A : Option Addr) (c : Nat) (ls : List Lay) (w : World) (hl : ls.length ≤ 16) (hb : ∀ x ∈ ls, bdL x) (hr : Rw w w.heap.size 2 A (ls.map encL)) :
    Calls Try.prog 27 #[.agg #[.int .i64 room, .slice A ls.length c]] w fun e w' => e = .returned (.agg #[.int .i64 (sumA ls), .int .i64 (sumH ls)]) ∧ Below w.heap.size w w' := by
  refine callsIn_wide (n := 3) |>.1 ?_
  have HR := Lib.hid hr; clear hr
  refine callsIn_of_wp_marks Try.func27 rfl trivial ?_ rfl
  simp only [Try.ntmps27, List.size_toArray, List.length_cons, List.length_nil, Nat.reduceAdd, Nat.reduceSub, Array.replicate_succ, Array.replicate_zero, List.push_toArray, List.append_toArray, List.nil_append, List.cons_append]
  gi_wp2
  gi_wp2_with (refine ⟨trivial, ?_⟩; gi_at_call 31; refine (callsIn_wide.2 (layers_c room A _ c false _)).mono ?_; rintro e w' ⟨rfl, rfl⟩)
  obtain ⟨W0, hW0⟩ : ∃ W0, W0 = ((((w.alloc (.cells #[.int .i64 room, .slice A ls.length c] 33)).alloc (.cells #[.int .i64 0, .int .i64 0] 76)).alloc (.cells #[.int .i64 0, .int .i64 0] 76)).alloc (.cells #[.int .i64 room, .slice A ls.length c] 33)).alloc (.cells #[.bool false] 4) := ⟨_, rfl⟩
  have hB0 : Below w.heap.size w W0 := by rw [hW0]; (repeat first | (with_reducible first | assumption | exact Below.refl _ _ | refine Bl.drew ?_ | refine Bl.drewN ?_ _ | refine Bl.alloc ?_ _ | refine Bl.set ?_ _ ?_) | (with_reducible apply Bl.step'; (focus (with_reducible assumption))) | omega | (focus (simp; done)) | (focus (simp; omega)))
  have hsz : W0.heap.size = w.heap.size + 5 := by rw [hW0]; simp
  have k1 : W0.heap[w.heap.size + 1]? = some (.cells #[.int .i64 0, .int .i64 0] 76 (0, 0)) := by
    rw [hW0]; refine (Below.heap_alloc _ _ _ (by simp)).trans ((Below.heap_alloc _ _ _ (by simp)).trans ((Below.heap_alloc _ _ _ (by simp)).trans ?_))
    have := heap_alloc_new (w.alloc (.cells #[.int .i64 room, .slice A ls.length c] 33)) (.cells #[.int .i64 0, .int .i64 0] 76)
    rwa [World.size_alloc] at this
  have k2 : W0.heap[w.heap.size + 1 + 1]? = some (.cells #[.int .i64 0, .int .i64 0] 76 (0, 0)) := by
    rw [hW0]; refine (Below.heap_alloc _ _ _ (by simp)).trans ((Below.heap_alloc _ _ _ (by simp)).trans ?_)
    have := heap_alloc_new ((w.alloc (.cells #[.int .i64 room, .slice A ls.length c] 33)).alloc (.cells #[.int .i64 0, .int .i64 0] 76)) (.cells #[.int .i64 0, .int .i64 0] 76)
    rwa [World.size_alloc, World.size_alloc] at this
  have hst := layers_stops 2 (by decide) room A c ls false (w.heap.size + 1 + 1 + 1) (w.heap.size + 1 + 1 + 1 + 1) w.heap.size (by omega) W0 (by omega) (by omega) (by omega) (by rw [hW0]; simp [World.cell?_alloc_lt, cells_new]) (by rw [hW0]; simp [World.cell?_alloc_lt, cells_new]) (by rw [hW0]; simp [cells_new]) (Rw.belowB (w0 := w) HR.out hB0 (Nat.le_refl _))
  rw [← hW0]
  clear hW0
  refine wpIn_rangeFunc_ownH rfl (by decide) (gf := 51) (lb := #[.pointer (some ⟨w.heap.size + 1 + 1 + 1, 0, none⟩), .pointer (some ⟨w.heap.size + 1 + 1 + 1 + 1, 0, none⟩)]) rfl trivial (enters_of Try.func51 (by kernel_rfl) rfl)
    hst KpN.t (kpN_b (by omega) (by omega) (by omega)) (Below.refl _ _) (fun _ => rfl)
    (fun (pre : List (Fin ls.length)) W => (W.heap[w.heap.size + 1 + 1]? = some (.cells #[.int .i64 (visS ls false pre).a, .int .i64 (visS ls false pre).h] 76 (0, 0)) ∧ W.heap[w.heap.size + 1]? = some (.cells #[.int .i64 0, .int .i64 0] 76 (0, 0))) ∧ Below w.heap.size W0 W)
    (fun _ _ _ => False)
    (OwnFrom.and (OwnFrom.and (own_blk _ _ _ _ _) (own_blk _ _ _ _ _)) (ownFrom_below (by omega) (by omega)))
    (fun _ _ _ _ _ hs _ _ => hs)
    ⟨⟨k2, k1⟩, Below.refl _ _⟩
    (fun x a' W => ∃ Bx, W0.heap.size ≤ Bx ∧ W.heap[Bx]? = some (.cells #[.int .i64 (lyAt ls false x.1).a, .int .i64 (lyAt ls false x.1).h] 76 (0, 0)) ∧ a' = { tmps := #[.agg #[.int .i64 room, .slice A ls.length c], .pointer (some ⟨w.heap.size, 0, none⟩), .pointer (some ⟨w.heap.size + 1, 0, none⟩), .pointer (some ⟨w.heap.size + 1 + 1, 0, none⟩), undef, .pointer (some ⟨Bx, 0, none⟩), .agg #[.int .i64 room, .slice A ls.length c], .func (.func 51) #[] #[.pointer (some ⟨w.heap.size + 1 + 1 + 1, 0, none⟩), .pointer (some ⟨w.heap.size + 1 + 1 + 1 + 1, 0, none⟩)], .int .i64 (idxT ls.length false x.1 : Nat), .agg #[.int .i64 (lyAt ls false x.1).a, .int .i64 (lyAt ls false x.1).h], undef, undef, undef, undef], defers := [] })
    (fun x a' s W1 W2 row hs hg hr => by
      obtain ⟨Bx, h1, h2, h3⟩ := hs
      exact ⟨Bx, h1, own_blk (σ := Unit) W0.heap.size Bx (fun _ => #[.int .i64 (lyAt ls false x.1).a, .int .i64 (lyAt ls false x.1).h]) 76 (0, 0) () W1 W2 row h2 hg hr, h3⟩)
    ?assign ?body ?done ?stop
  case assign =>
    rintro l pre x W K ⟨⟨hc2, hc1⟩, hB⟩ hK
    have hlt := blk_lt hc2
    have hbs := hB.size
    dsimp only [encV]
    gi_wp2
    exact hK _ _ ((KeepsOthers.alloc _ _).from _) (KpN.of ((Below.refl _ W).alloc (Nat.le_refl _) _) (by omega) (by omega) (by omega)) ⟨⟨blk_alloc hc2, blk_alloc hc1⟩, hB.alloc (by omega) _⟩ ⟨W.heap.size, hbs, heap_alloc_new _ _, rfl⟩
  case body =>
    rintro l pre x a' W hll ⟨r, hr⟩ ⟨⟨hc2, hc1⟩, hB⟩ ⟨Bx, hBx, hx, rfl⟩ hlen
    obtain ⟨o0, of0, o1, of1⟩ := cv2 hc2
    obtain ⟨x0, xf0, x1, xf1⟩ := cv2 hx
    have hbs := hB.size
    have hlt := blk_lt hc2
    have hxl := blk_lt hx
    have hbd := visS_bd (top := false) hb pre
    have hlm : lyAt ls false x.1 ∈ ls := by rw [lyAt_mem x.2]; exact List.getElem_mem _
    obtain ⟨l0, l1, l2, l3⟩ := hb _ hlm
    obtain ⟨y, hy⟩ : ∃ y, y = lyAt ls false x.1 := ⟨_, rfl⟩
    obtain ⟨z, hz⟩ : ∃ z, z = visS ls false pre := ⟨_, rfl⟩
    have hpl : (pre.length : Int) ≤ 16 := by omega
    have HS := Lib.hid (visS_snoc ls false pre x)
    have HC1 := Lib.hid hc1
    have HC2 := Lib.hid hc2
    have HB := Lib.hid hB
    rw [← hy] at HS x0 x1 l0 l1 l2 l3 ⊢
    rw [← hz] at HS HC2 o0 o1 hbd
    have hA := Lib.hid (fun W => and_c z y W ⟨by omega, by omega, by omega, by omega⟩ ⟨by omega, by omega, by omega, by omega⟩)
    clear hr hc1 hc2 hx hy hz hlm hbd
    gi_wp2_with (refine ⟨trivial, ?_⟩; gi_at_call 50; refine (CallsIn.inRound l (callsIn_wide.2 (hA.out _))).mono ?_; rintro e w1 ⟨rfl, hb1⟩; (obtain ⟨p0, pf0, p1, pf1⟩ := cv2 (blk_step hb1 HC2.out)))
    have hn1 : w.heap.size ≤ W.heap.size := by omega
    exact ⟨(KeepsFrom.of_grownBy (grown_of hb1) (fun j e => by cases e)).trans (((KeepsOthers.setCell _ _ _).from _).trans ((KeepsOthers.setCell _ _ _).from _)),
      ⟨Below.set2 (hb1.mono hn1) (by omega) _ _, (set2_other _ _ (by omega)).trans (hb1.block _ (by omega)), (set2_other _ _ (by omega)).trans (hb1.block _ (by omega))⟩,
      ⟨by rw [HS.out]; exact set2_block (blk_step hb1 HC2.out), (set2_other _ _ (by omega)).trans (blk_step hb1 HC1.out)⟩, Below.set2 (HB.out.trans (hb1.mono hn1)) (by omega) _ _⟩
  case done =>
    rintro D ys W hD rfl ⟨⟨hc2, hc1⟩, hB⟩ hK
    rw [visS_all] at hc2
    obtain ⟨o0, of0, o1, of1⟩ := cv2 hc2
    obtain ⟨q0, qf0, q1, qf1⟩ := cv2 hc1
    have HC1 := Lib.hid hc1
    have HK := Lib.hid hK
    have HB := Lib.hid hB
    have hbs := hB.size
    clear hc1 hc2 hK hB
    gi_wp2
    have hne : D ≠ w.heap.size + 1 := by omega
    have hk2 : ((W.setCell ⟨w.heap.size + 1, 0, none⟩ (.int .i64 (sumA ls))).setCell ⟨w.heap.size + 1, 1, none⟩ (.int .i64 (sumH ls))).heap[D]? = some (.deferred (some [])) := (set2_other _ _ hne).trans HK.out
    refine ⟨by simp, .inl ⟨_, _, rfl, run_takeDeferred hk2, ?_⟩⟩
    exact ⟨_, Try.resLay rfl _ _ rfl ((World.putObj_heap_other (by omega)).trans (set2_block HC1.out)), rfl, (hB0.trans (Below.set2 HB.out (Nat.le_succ _) _ _)).trans (belowK_b (w := w) (Nat.le_refl _) _ D _ _ (by omega) hk2 rfl rfl)⟩
  case stop =>
    rintro D c pre W _ _ h _
    exact h.elim
end Go.Proofs.Ytgljpjcclncknaa

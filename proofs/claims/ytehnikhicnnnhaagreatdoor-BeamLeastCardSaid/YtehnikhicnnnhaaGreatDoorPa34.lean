/- The statements' grid: a grid of the reference as one of the program, with lists of its own. | The reference's Short. -/
import Derived.Test.YtehnikhicnnnhaaGreatDoorPa25
import Derived.Test.YtehnikhicnnnhaaGreatDoorPa33
import Derived.Test.YtehnikhicnnnhaaGreatDoorPa01
import Derived.OneCell
namespace Go.Proofs.YtehnikhicnnnhaaGreatDoor
open Go.RowKit

def zeroS : Value := .agg #[.string ⟨#[]⟩, .string ⟨#[]⟩, .int .i64 0, .int .i64 0]
theorem Tryz.infoS : (Tryz.prog.info? 163).map (fun i => (i.zero, i.size, i.bytes)) = some (some zeroS, 4, 48) := by kernel_rfl
def zeroM : Value := .agg #[.int .i64 0, .int .i64 0, .int .i64 0]
theorem Tryz.infoM : (Tryz.prog.info? 166).map (fun i => (i.zero, i.size, i.bytes)) = some (some zeroM, 3, 24) := by kernel_rfl
def zeroZ : Value := .agg #[.string ⟨#[]⟩, .int .i64 0, .int .i64 0, .int .i64 0]
theorem Tryz.infoZ : (Tryz.prog.info? 119).map (fun i => (i.zero, i.size, i.bytes)) = some (some zeroZ, 4, 40) := by kernel_rfl
/-- All blocks that lie in U but one lie in W as they lay. -/
def Ke (p : Nat) (U W : World) : Prop := U.heap.size ≤ W.heap.size ∧ ∀ b, b < U.heap.size → b ≠ p → W.heap[b]? = U.heap[b]?
theorem Ke.refl (p : Nat) (U : World) : Ke p U U := ⟨Nat.le_refl _, fun _ _ _ => rfl⟩
theorem Ke.rw_ {p B sz : Nat} {U W : World} {A : Option Addr} {l : List (List Value)} (h : Rw U B sz A l) (hk : Ke p U W) (hB : B ≤ U.heap.size) (hp : ∀ a, A = some a → a.block ≠ p) : Rw W B sz A l := fun hn => by
  obtain ⟨b, off, e, hb, hc⟩ := h hn
  refine ⟨b, off, e, hb, fun k hk' j v hv => ?_⟩
  have h1 := hk.2 b (Nat.lt_of_lt_of_le hb hB) (hp _ e)
  rw [← hc k hk' j v hv]
  unfold World.cell?
  simp only [h1]
theorem gr_block {w w' : World} {row : Option Nat} {k : Nat} (h : w.grownBy w' row) (hk : k < w.heap.size) (hne : row ≠ some k) : w'.heap[k]? = w.heap[k]? := by
  first | exact h.block k hk hne | exact h.block k hk (Ne.symm hne) | exact h.block k hk (fun e => hne e.symm)
theorem own_form {w : World} {base n sz : Nat} {T : TypeId} {v : Value} {l : List Value} (h : w.ownsRow base T sz v n l) : ∃ A c, v = .slice A n c := by
  rcases h.2 with ⟨hv, h0⟩ | ⟨g, cap, cur, hv, _⟩
  · exact ⟨none, 0, by rw [hv, h0]⟩
  · exact ⟨_, _, hv⟩
theorem own_rw {w : World} {base n sz : Nat} {T : TypeId} {v : Value} {l : List (List Value)} (h : w.ownsRow base T sz v n l.flatten) (hn : l.length = n) (hl : ∀ x ∈ l, x.length = sz) :
    ∃ A c, v = .slice A n c ∧ n ≤ c ∧ Rw w w.heap.size sz A l ∧ ∀ a, A = some a → base ≤ a.block := by
  rcases h.2 with ⟨hv, h0⟩ | ⟨g, cap, cur, hv, hb, hg, hc, _⟩
  · exact ⟨none, 0, by rw [hv, h0], by omega, fun hne => absurd (List.eq_nil_of_length_eq_zero (by omega)) hne, fun a ha => by cases ha⟩
  · subst hv
    have hlt : g < w.heap.size := (Array.getElem?_eq_some_iff.1 hg).1
    refine ⟨some ⟨g, 0, none⟩, cap, rfl, hc, fun _ => ⟨g, 0, rfl, hlt, fun k hk j u hj => ?_⟩, fun a ha => by cases ha; exact hb⟩
    have := h.cells (g := g) rfl (k * sz + j) u (flatten_at hl k hk j u hj)
    rw [add0] at this
    simpa using this
theorem Ke.set4 {p : Nat} (W : World) (v0 v1 v2 v3 : Value) : Ke p W ((((W.setCell ⟨p, 0, none⟩ v0).setCell ⟨p, 1, none⟩ v1).setCell ⟨p, 2, none⟩ v2).setCell ⟨p, 3, none⟩ v3) :=
  ⟨by simp, fun b _ hne => by
    rw [heap_setCell_other _ _ _ _ hne, heap_setCell_other _ _ _ _ hne, heap_setCell_other _ _ _ _ hne, heap_setCell_other _ _ _ _ hne]⟩
theorem Ke.trans {p : Nat} {U V W : World} (h : Ke p U V) (k : Ke p V W) : Ke p U W := ⟨Nat.le_trans h.1 k.1, fun b hb hne => (k.2 b (Nat.lt_of_lt_of_le hb h.1) hne).trans (h.2 b hb hne)⟩
set_option maxRecDepth 100000 in
set_option maxHeartbeats 8000000 in
theorem grid_c (a : GA) (g : Grd) (w : World) (hs : SmallG g) (hr : GridR w w.heap.size a g) :
    Calls Tryz.prog 18 #[(.agg #[.int .i64 g.blur, .slice a.pS g.sta.length a.cs, .slice a.pM g.mov.length a.cm, .slice a.pZ g.zon.length a.cz])] w fun e w' => ∃ a', e = .returned (.agg #[.int .i64 g.blur, .slice a'.pS g.sta.length a'.cs, .slice a'.pM g.mov.length a'.cm, .slice a'.pZ g.zon.length a'.cz]) ∧ GridR w' w'.heap.size a' g ∧ Below w.heap.size w w' := by
  obtain ⟨iS, hiS, hzS0, hzS1, hzS2⟩ := info_parts Tryz.infoS
  obtain ⟨iM, hiM, hzM0, hzM1, hzM2⟩ := info_parts Tryz.infoM
  obtain ⟨iZ, hiZ, hzZ0, hzZ1, hzZ2⟩ := info_parts Tryz.infoZ
  have hnS := hs.ns
  have hnM := hs.nm
  have hnZ := hs.nz
  clear hs
  obtain ⟨W1, hW1⟩ : ∃ W1, W1 = ((w.alloc (.cells #[.int .i64 g.blur, .slice a.pS g.sta.length a.cs, .slice a.pM g.mov.length a.cm, .slice a.pZ g.zon.length a.cz] 26)).alloc (.cells #[.int .i64 0, .slice none 0 0, .slice none 0 0, .slice none 0 0] 38)).alloc (.cells #[.int .i64 g.blur, .slice none 0 0, .slice none 0 0, .slice none 0 0] 38) := ⟨_, rfl⟩
  have hsz : W1.heap.size = w.heap.size + 3 := by rw [hW1]; simp
  have k0 : W1.heap[w.heap.size]? = some (.cells #[.int .i64 g.blur, .slice a.pS g.sta.length a.cs, .slice a.pM g.mov.length a.cm, .slice a.pZ g.zon.length a.cz] 26 (0, 0)) := by rw [hW1]; exact heap_fst _ _ _ _
  have k1 : W1.heap[w.heap.size + 1]? = some (.cells #[.int .i64 0, .slice none 0 0, .slice none 0 0, .slice none 0 0] 38 (0, 0)) := by rw [hW1]; exact heap_mid _ _ _ _
  have k2 : W1.heap[w.heap.size + 1 + 1]? = some (.cells #[.int .i64 g.blur, .slice none 0 0, .slice none 0 0, .slice none 0 0] 38 (0, 0)) := by rw [hW1]; exact heap_lst _ _ _ _
  have hB0 : Below w.heap.size w W1 := by rw [hW1]; (repeat first | (with_reducible first | assumption | exact Below.refl _ _ | refine Bl.drew ?_ | refine Bl.drewN ?_ _ | refine Bl.alloc ?_ _ | refine Bl.set ?_ _ ?_) | (with_reducible apply Bl.step'; (focus (with_reducible assumption))) | omega | (focus (simp; done)) | (focus (simp; omega)))
  have HG := Lib.hid hr
  have K0 := Lib.hid k0
  have K1 := Lib.hid k1
  have hb := hB0
  have HK := Lib.hid (Ke.refl (w.heap.size + 1 + 1) W1)
  have hk2 := Lib.hid k2
  (obtain ⟨d0, d1, d2, d3⟩ := cg4 k0)
  clear hr k0 k1 k2
  go_enter Tryz.func18, Tryz.ntmps18
  go_upto_region 2 with fail
  rw [← hW1]
  clear hW1
  go_wp2_with fail
  go_loopw [16] (fun i wv => ∃ (k : Nat) (v : Value), k ≤ g.sta.length ∧ i = .int .i64 k ∧ Hid (wv.heap[w.heap.size + 1 + 1]? = some (.cells #[.int .i64 g.blur, v, .slice none 0 0, .slice none 0 0] 38 (0, 0))) ∧ wv.ownsRow W1.heap.size 163 4 v k ((g.sta.take k).map encS).flatten ∧ Hid (Ke (w.heap.size + 1 + 1) W1 wv) ∧ Below w.heap.size w wv) (fun i _ => g.sta.length - (intOf i).toNat)
  case atStart => exact ⟨0, .slice none 0 0, Nat.zero_le _, rfl, hk2, by simpa using World.ownsRow_nil _ _ _ _, Lib.hid (Ke.refl _ _), hb⟩
  case round =>
    clear hb hk2 d0 d1 d2 d3
    obtain ⟨k, v, hk, rfl, hk2, hown, HKe, hb⟩ := hrel
    have hke := HKe.out.1
    have hbs := hb.size
    by_cases hlt : k < g.sta.length
    · obtain ⟨x, hx⟩ : ∃ x, x = g.sta[k] := ⟨_, rfl⟩
      obtain ⟨b, off, ea, hbl, c0, c1, c2, c3⟩ := (HG.out.sta.belowB (w0 := w) hb (Nat.le_refl _)).get4 (k := k) (by simpa using hlt) (by rw [List.getElem_map, ← hx]; rfl)
      rw [ea]
      have yb : b < wr.heap.size := by omega
      have HA := Lib.hid ea
      have HX := Lib.hid hx
      clear ea hx
      have kk := hk2.out
      (obtain ⟨q0, qf0, q1, qf1, q2, qf2, q3, qf3⟩ := cv4 kk)
      clear kk
      have y2 : w.heap.size + 1 + 1 < wr.heap.size := by omega
      have hne : v.ownBlock ≠ some (w.heap.size + 1 + 1) := fun e => by have := (World.ownsRow.lt hown _ e).1; omega
      go_wp2_with (at_builtin; refine wpList_append_own _ rfl _ _ 34 rfl W1.heap.size 163 iS zeroS 4 48 Tryz.underlying34 hiS hzS0 hzS1 hzS2 rfl (by decide) _ _ _ rfl (World.ownsRow.alloc (World.ownsRow.alloc hown _) _) ⟨wr.heap.size + 1, 0, none⟩ 1 1 [.string x.name, .string x.kind, .int .i64 x.x, .int .i64 x.y] rfl rfl ?c1 ?c2 ?c3 ?c4 ?c5 ?_)
      case c1 =>
        intro j u hj
        rw [add0, cell_of_row _ _ _ _ _ _ (heap_two wr _ _)]
        match j, hj with
        | 0, hj => simpa using hj
        | 1, hj => simpa using hj
        | 2, hj => simpa using hj
        | 3, hj => simpa using hj
        | j + 4, hj => simp at hj
      case c2 => intro u hu; simp at hu; rcases hu with rfl | rfl | rfl | rfl <;> rfl
      case c3 => unfold maxLen; omega
      case c4 => omega
      case c5 => simp; omega
      intro v' w6 hown' hgrow _
      obtain ⟨A', c', hv'⟩ := own_form hown'
      subst hv'
      have h6 : w6.heap[w.heap.size + 1 + 1]? = some (.cells #[.int .i64 g.blur, v, .slice none 0 0, .slice none 0 0] 38 (0, 0)) := (gr_block hgrow (by simp; omega) (fun e => hne e)).trans (bk_alloc (bk_alloc hk2.out))
      clear q0 qf0 q1 qf1 q2 qf2 q3 qf3 c0
      (obtain ⟨q0, qf0, q1, qf1, q2, qf2, q3, qf3⟩ := cv4 h6)
      have H6 := Lib.hid h6
      clear h6
      have hg6 := hgrow.size
      simp only [World.size_alloc] at hg6
      have y6 : w.heap.size + 1 + 1 < w6.heap.size := by omega
      go_wp2_with fail
      go_roundw
      case rel =>
        refine ⟨k + 1, .slice A' (k + 1) c', by omega, by go_num, Lib.hid (heap_setCell_same w6 _ 1 _ _ (.slice A' (k + 1) c') H6.out), ?_, Lib.hid ?_, ?_⟩
        · refine ownsRow_setCell_below ?_ (show w.heap.size + 1 + 1 < W1.heap.size by omega) _
          rw [List.take_succ_eq_append_getElem hlt, List.map_append, List.flatten_append, ← HX.out]
          first | (simpa [encS] using hown'; done) | (rw [hsz]; simpa [encS] using hown')
        · refine ⟨by simp; omega, fun b' hb' hne' => ?_⟩
          rw [heap_setCell_other _ _ _ _ hne', gr_block hgrow (by simp; omega) (fun e => by have := (World.ownsRow.lt hown _ e).1; omega)]
          exact ((Below.heap_alloc _ _ _ (by simp; omega)).trans (Below.heap_alloc _ _ _ (by omega))).trans (HKe.out.2 b' hb' hne')
        · exact Bl.set (Below.grown (by exact zbl) hgrow (by simp; omega) (fun j e => by have := (World.ownsRow.lt hown j e).1; omega)) _ (by show w.heap.size ≤ w.heap.size + 1 + 1; omega)
      case measure => simp [intOf]; omega
    · have hkl : k = g.sta.length := by omega
      rw [hkl, List.take_length] at hown
      obtain ⟨AS, cS, rfl, hcS, hrow, hfr⟩ := own_rw hown (by first | (simp; done) | (simp; omega)) (by intro y hy; obtain ⟨z, _, rfl⟩ := List.mem_map.1 hy; rfl)
      have HRS := Lib.hid hrow
      have HFS : Hid (∀ a, AS = some a → W1.heap.size ≤ a.block) := Lib.hid hfr
      clear hrow hfr hown hkl hk
      obtain ⟨US, hU⟩ : ∃ U, U = wr := ⟨_, rfl⟩
      subst hU
      have kk := hk2.out
      (obtain ⟨q0, qf0, q1, qf1, q2, qf2, q3, qf3⟩ := cv4 kk)
      have kk := (HKe.out.2 w.heap.size (by omega) (by omega)).trans K0.out
      (obtain ⟨d0, d1, d2, d3⟩ := cg4 kk)
      have K0 := Lib.hid kk
      have kk := (HKe.out.2 (w.heap.size + 1) (by omega) (by omega)).trans K1.out
      have K1 := Lib.hid kk
      clear kk
      have y0 : w.heap.size < US.heap.size := by omega
      have y1 : w.heap.size + 1 < US.heap.size := by omega
      have y2 : w.heap.size + 1 + 1 < US.heap.size := by omega
      go_wp2_with fail
      clear hlt
      go_loopw [30] (fun i wv => ∃ (k : Nat) (v : Value), k ≤ g.mov.length ∧ i = .int .i64 k ∧ Hid (wv.heap[w.heap.size + 1 + 1]? = some (.cells #[.int .i64 g.blur, .slice AS g.sta.length cS, v, .slice none 0 0] 38 (0, 0))) ∧ wv.ownsRow US.heap.size 166 3 v k ((g.mov.take k).map encM).flatten ∧ Hid (Ke (w.heap.size + 1 + 1) US wv) ∧ Below w.heap.size w wv) (fun i _ => g.mov.length - (intOf i).toNat)
      case atStart => exact ⟨0, .slice none 0 0, Nat.zero_le _, rfl, hk2, by simpa using World.ownsRow_nil _ _ _ _, Lib.hid (Ke.refl _ _), hb⟩
      case round =>
        clear hb hk2 d0 d1 d2 d3
        obtain ⟨k, v, hk, rfl, hk2, hown, HKe, hb⟩ := hrel
        have hke := HKe.out.1
        have hbs := hb.size
        by_cases hlt : k < g.mov.length
        · obtain ⟨x, hx⟩ : ∃ x, x = g.mov[k] := ⟨_, rfl⟩
          obtain ⟨b, off, ea, hbl, c0, c1, c2⟩ := (HG.out.mov.belowB (w0 := w) hb (Nat.le_refl _)).get3 (k := k) (by simpa using hlt) (by rw [List.getElem_map, ← hx]; rfl)
          rw [ea]
          have yb : b < wr.heap.size := by omega
          have HA := Lib.hid ea
          have HX := Lib.hid hx
          clear ea hx
          have kk := hk2.out
          (obtain ⟨q0, qf0, q1, qf1, q2, qf2, q3, qf3⟩ := cv4 kk)
          clear kk
          have y2 : w.heap.size + 1 + 1 < wr.heap.size := by omega
          have hne : v.ownBlock ≠ some (w.heap.size + 1 + 1) := fun e => by have := (World.ownsRow.lt hown _ e).1; omega
          go_wp2_with (at_builtin; refine wpList_append_own _ rfl _ _ 35 rfl US.heap.size 166 iM zeroM 3 24 Tryz.underlying35 hiM hzM0 hzM1 hzM2 rfl (by decide) _ _ _ rfl (World.ownsRow.alloc (World.ownsRow.alloc hown _) _) ⟨wr.heap.size + 1, 0, none⟩ 1 1 [.int .i64 x.a, .int .i64 x.b, .int .i64 x.s] rfl rfl ?c1 ?c2 ?c3 ?c4 ?c5 ?_)
          case c1 =>
            intro j u hj
            rw [add0, cell_of_row _ _ _ _ _ _ (heap_two wr _ _)]
            match j, hj with
            | 0, hj => simpa using hj
            | 1, hj => simpa using hj
            | 2, hj => simpa using hj
            | j + 3, hj => simp at hj
          case c2 => intro u hu; simp at hu; rcases hu with rfl | rfl | rfl <;> rfl
          case c3 => unfold maxLen; omega
          case c4 => omega
          case c5 => simp; omega
          intro v' w6 hown' hgrow _
          obtain ⟨A', c', hv'⟩ := own_form hown'
          subst hv'
          have h6 : w6.heap[w.heap.size + 1 + 1]? = some (.cells #[.int .i64 g.blur, .slice AS g.sta.length cS, v, .slice none 0 0] 38 (0, 0)) := (gr_block hgrow (by simp; omega) (fun e => hne e)).trans (bk_alloc (bk_alloc hk2.out))
          clear q0 qf0 q1 qf1 q2 qf2 q3 qf3 c0
          (obtain ⟨q0, qf0, q1, qf1, q2, qf2, q3, qf3⟩ := cv4 h6)
          have H6 := Lib.hid h6
          clear h6
          have hg6 := hgrow.size
          simp only [World.size_alloc] at hg6
          have y6 : w.heap.size + 1 + 1 < w6.heap.size := by omega
          go_wp2_with fail
          go_roundw
          case rel =>
            refine ⟨k + 1, .slice A' (k + 1) c', by omega, by go_num, Lib.hid (heap_setCell_same w6 _ 2 _ _ (.slice A' (k + 1) c') H6.out), ?_, Lib.hid ?_, ?_⟩
            · refine ownsRow_setCell_below ?_ (show w.heap.size + 1 + 1 < US.heap.size by omega) _
              rw [List.take_succ_eq_append_getElem hlt, List.map_append, List.flatten_append, ← HX.out]
              first | (simpa [encM] using hown'; done) | (rw [hsz]; simpa [encM] using hown')
            · refine ⟨by simp; omega, fun b' hb' hne' => ?_⟩
              rw [heap_setCell_other _ _ _ _ hne', gr_block hgrow (by simp; omega) (fun e => by have := (World.ownsRow.lt hown _ e).1; omega)]
              exact ((Below.heap_alloc _ _ _ (by simp; omega)).trans (Below.heap_alloc _ _ _ (by omega))).trans (HKe.out.2 b' hb' hne')
            · exact Bl.set (Below.grown (by exact zbl) hgrow (by simp; omega) (fun j e => by have := (World.ownsRow.lt hown j e).1; omega)) _ (by show w.heap.size ≤ w.heap.size + 1 + 1; omega)
          case measure => simp [intOf]; omega
        · have hkl : k = g.mov.length := by omega
          rw [hkl, List.take_length] at hown
          obtain ⟨AM, cM, rfl, hcM, hrow, hfr⟩ := own_rw hown (by first | (simp; done) | (simp; omega)) (by intro y hy; obtain ⟨z, _, rfl⟩ := List.mem_map.1 hy; rfl)
          have HRM := Lib.hid hrow
          have HFM : Hid (∀ a, AM = some a → US.heap.size ≤ a.block) := Lib.hid hfr
          clear hrow hfr hown hkl hk
          obtain ⟨UM, hU⟩ : ∃ U, U = wr := ⟨_, rfl⟩
          subst hU
          have kk := hk2.out
          (obtain ⟨q0, qf0, q1, qf1, q2, qf2, q3, qf3⟩ := cv4 kk)
          have kk := (HKe.out.2 w.heap.size (by omega) (by omega)).trans K0.out
          (obtain ⟨d0, d1, d2, d3⟩ := cg4 kk)
          have K0 := Lib.hid kk
          have kk := (HKe.out.2 (w.heap.size + 1) (by omega) (by omega)).trans K1.out
          have K1 := Lib.hid kk
          clear kk
          have y0 : w.heap.size < UM.heap.size := by omega
          have y1 : w.heap.size + 1 < UM.heap.size := by omega
          have y2 : w.heap.size + 1 + 1 < UM.heap.size := by omega
          have HRS_ := HKe.out.1
          have HRS := Lib.hid (Rw.more (Ke.rw_ HRS.out HKe.out (Nat.le_refl _) (fun a ha => by have := HFS.out a ha; omega)) HKe.out.1)
          go_wp2_with fail
          clear hlt
          go_loopw [44] (fun i wv => ∃ (k : Nat) (v : Value), k ≤ g.zon.length ∧ i = .int .i64 k ∧ Hid (wv.heap[w.heap.size + 1 + 1]? = some (.cells #[.int .i64 g.blur, .slice AS g.sta.length cS, .slice AM g.mov.length cM, v] 38 (0, 0))) ∧ wv.ownsRow UM.heap.size 119 4 v k ((g.zon.take k).map encZ).flatten ∧ Hid (Ke (w.heap.size + 1 + 1) UM wv) ∧ Below w.heap.size w wv) (fun i _ => g.zon.length - (intOf i).toNat)
          case atStart => exact ⟨0, .slice none 0 0, Nat.zero_le _, rfl, hk2, by simpa using World.ownsRow_nil _ _ _ _, Lib.hid (Ke.refl _ _), hb⟩
          case round =>
            clear hb hk2 d0 d1 d2 d3
            obtain ⟨k, v, hk, rfl, hk2, hown, HKe, hb⟩ := hrel
            have hke := HKe.out.1
            have hbs := hb.size
            by_cases hlt : k < g.zon.length
            · obtain ⟨x, hx⟩ : ∃ x, x = g.zon[k] := ⟨_, rfl⟩
              obtain ⟨b, off, ea, hbl, c0, c1, c2, c3⟩ := (HG.out.zon.belowB (w0 := w) hb (Nat.le_refl _)).get4 (k := k) (by simpa using hlt) (by rw [List.getElem_map, ← hx]; rfl)
              rw [ea]
              have yb : b < wr.heap.size := by omega
              have HA := Lib.hid ea
              have HX := Lib.hid hx
              clear ea hx
              have kk := hk2.out
              (obtain ⟨q0, qf0, q1, qf1, q2, qf2, q3, qf3⟩ := cv4 kk)
              clear kk
              have y2 : w.heap.size + 1 + 1 < wr.heap.size := by omega
              have hne : v.ownBlock ≠ some (w.heap.size + 1 + 1) := fun e => by have := (World.ownsRow.lt hown _ e).1; omega
              go_wp2_with (at_builtin; refine wpList_append_own _ rfl _ _ 36 rfl UM.heap.size 119 iZ zeroZ 4 40 Tryz.underlying36 hiZ hzZ0 hzZ1 hzZ2 rfl (by decide) _ _ _ rfl (World.ownsRow.alloc (World.ownsRow.alloc hown _) _) ⟨wr.heap.size + 1, 0, none⟩ 1 1 [.string x.name, .int .i64 x.x, .int .i64 x.y, .int .i64 x.r] rfl rfl ?c1 ?c2 ?c3 ?c4 ?c5 ?_)
              case c1 =>
                intro j u hj
                rw [add0, cell_of_row _ _ _ _ _ _ (heap_two wr _ _)]
                match j, hj with
                | 0, hj => simpa using hj
                | 1, hj => simpa using hj
                | 2, hj => simpa using hj
                | 3, hj => simpa using hj
                | j + 4, hj => simp at hj
              case c2 => intro u hu; simp at hu; rcases hu with rfl | rfl | rfl | rfl <;> rfl
              case c3 => unfold maxLen; omega
              case c4 => omega
              case c5 => simp; omega
              intro v' w6 hown' hgrow _
              obtain ⟨A', c', hv'⟩ := own_form hown'
              subst hv'
              have h6 : w6.heap[w.heap.size + 1 + 1]? = some (.cells #[.int .i64 g.blur, .slice AS g.sta.length cS, .slice AM g.mov.length cM, v] 38 (0, 0)) := (gr_block hgrow (by simp; omega) (fun e => hne e)).trans (bk_alloc (bk_alloc hk2.out))
              clear q0 qf0 q1 qf1 q2 qf2 q3 qf3 c0
              (obtain ⟨q0, qf0, q1, qf1, q2, qf2, q3, qf3⟩ := cv4 h6)
              have H6 := Lib.hid h6
              clear h6
              have hg6 := hgrow.size
              simp only [World.size_alloc] at hg6
              have y6 : w.heap.size + 1 + 1 < w6.heap.size := by omega
              go_wp2_with fail
              go_roundw
              case rel =>
                refine ⟨k + 1, .slice A' (k + 1) c', by omega, by go_num, Lib.hid (heap_setCell_same w6 _ 3 _ _ (.slice A' (k + 1) c') H6.out), ?_, Lib.hid ?_, ?_⟩
                · refine ownsRow_setCell_below ?_ (show w.heap.size + 1 + 1 < UM.heap.size by omega) _
                  rw [List.take_succ_eq_append_getElem hlt, List.map_append, List.flatten_append, ← HX.out]
                  first | (simpa [encZ] using hown'; done) | (rw [hsz]; simpa [encZ] using hown')
                · refine ⟨by simp; omega, fun b' hb' hne' => ?_⟩
                  rw [heap_setCell_other _ _ _ _ hne', gr_block hgrow (by simp; omega) (fun e => by have := (World.ownsRow.lt hown _ e).1; omega)]
                  exact ((Below.heap_alloc _ _ _ (by simp; omega)).trans (Below.heap_alloc _ _ _ (by omega))).trans (HKe.out.2 b' hb' hne')
                · exact Bl.set (Below.grown (by exact zbl) hgrow (by simp; omega) (fun j e => by have := (World.ownsRow.lt hown j e).1; omega)) _ (by show w.heap.size ≤ w.heap.size + 1 + 1; omega)
              case measure => simp [intOf]; omega
            · have hkl : k = g.zon.length := by omega
              rw [hkl, List.take_length] at hown
              obtain ⟨AZ, cZ, rfl, hcZ, hrow, hfr⟩ := own_rw hown (by first | (simp; done) | (simp; omega)) (by intro y hy; obtain ⟨z, _, rfl⟩ := List.mem_map.1 hy; rfl)
              have HRZ := Lib.hid hrow
              have HFZ : Hid (∀ a, AZ = some a → UM.heap.size ≤ a.block) := Lib.hid hfr
              clear hrow hfr hown hkl hk
              obtain ⟨UZ, hU⟩ : ∃ U, U = wr := ⟨_, rfl⟩
              subst hU
              have kk := hk2.out
              (obtain ⟨q0, qf0, q1, qf1, q2, qf2, q3, qf3⟩ := cv4 kk)
              have kk := (HKe.out.2 w.heap.size (by omega) (by omega)).trans K0.out
              (obtain ⟨d0, d1, d2, d3⟩ := cg4 kk)
              have K0 := Lib.hid kk
              have kk := (HKe.out.2 (w.heap.size + 1) (by omega) (by omega)).trans K1.out
              have K1 := Lib.hid kk
              clear kk
              have y0 : w.heap.size < UZ.heap.size := by omega
              have y1 : w.heap.size + 1 < UZ.heap.size := by omega
              have y2 : w.heap.size + 1 + 1 < UZ.heap.size := by omega
              have HRS_ := HKe.out.1
              have HRS := Lib.hid (Rw.more (Ke.rw_ HRS.out HKe.out (Nat.le_refl _) (fun a ha => by have := HFS.out a ha; omega)) HKe.out.1)
              have HRM_ := HKe.out.1
              have HRM := Lib.hid (Rw.more (Ke.rw_ HRM.out HKe.out (Nat.le_refl _) (fun a ha => by have := HFM.out a ha; omega)) HKe.out.1)
              have kz := K1.out
              (obtain ⟨z0, zf0, z1, zf1, z2, zf2, z3, zf3⟩ := cv4 kz)
              clear kz
              go_wp2_with fail
              refine bodyPost_ret (Tryz.res_grid rfl _ _ rfl (set4_block K1.out)) rfl ?_
              have hfz : ∀ (A : Option Addr), (∀ a, A = some a → W1.heap.size ≤ a.block) → ∀ a, A = some a → a.block ≠ w.heap.size + 1 := fun A h a ha e => by have := h a ha; omega
              refine ⟨⟨AS, AM, AZ, cS, cM, cZ⟩, rfl, ⟨?_, ?_, ?_, hcS, hcM, hcZ⟩, ?_⟩
              · exact Rw.more (Ke.rw_ HRS.out (Ke.set4 UZ _ _ _ _) (Nat.le_refl _) (fun a ha => by have := HFS.out a ha; omega)) (by simp)
              · exact Rw.more (Ke.rw_ HRM.out (Ke.set4 UZ _ _ _ _) (Nat.le_refl _) (fun a ha => by have := HFM.out a ha; omega)) (by simp)
              · exact Rw.more (Ke.rw_ HRZ.out (Ke.set4 UZ _ _ _ _) (Nat.le_refl _) (fun a ha => by have := HFZ.out a ha; omega)) (by simp)
              · exact Bl.set (Bl.set (Bl.set (Bl.set hb _ (Nat.le_succ _)) _ (Nat.le_succ _)) _ (Nat.le_succ _)) _ (Nat.le_succ _)
end Go.Proofs.YtehnikhicnnnhaaGreatDoor
namespace Go.Proofs.YtehnikhicnnnhaaGreatDoor
open Go.RowKit

def longG (g : Grd) : Bool := (decide ((8 : Int) < (g.sta.length : Int)) && ((g.sta.length : Int) != 17)) || ((decide ((14 : Int) < (g.mov.length : Int)) && ((g.mov.length : Int) != 41)) || (decide ((4 : Int) < (g.zon.length : Int)) && ((g.zon.length : Int) != 9)))
def shortS (s : Sta) : Bool := decide (s.name.size ≤ 40) && decide (s.kind.size ≤ 40)
def shortZ (z : Zon) : Bool := decide (z.name.size ≤ 40)
def shortG (g : Grd) : Bool := !longG g && (g.sta.all shortS && g.zon.all shortZ)
theorem long_no {g : Grd} (h : longG g = false) : g.sta.length ≤ 17 ∧ g.mov.length ≤ 41 ∧ g.zon.length ≤ 9 := by
  unfold longG at h
  simp only [Bool.or_eq_false_iff, Bool.and_eq_false_iff, decide_eq_false_iff_not, bne_eq_false_iff_eq] at h
  omega
theorem short_small {g : Grd} (h : shortG g = true) : SmallG g := by
  unfold shortG at h
  simp only [Bool.and_eq_true, Bool.not_eq_true', List.all_eq_true] at h
  obtain ⟨h1, h2, h3⟩ := h
  have h4 := long_no h1
  refine ⟨by omega, by omega, by omega, fun s hs => ?_, fun z hz => ?_⟩
  · have := h2 s hs
    unfold shortS at this
    simp only [Bool.and_eq_true, decide_eq_true_eq] at this
    omega
  · have := h3 z hz
    unfold shortZ at this
    simp only [decide_eq_true_eq] at this
    omega
theorem all_hit {α : Type} {p : α → Bool} {l : List α} {k : Nat} (hk : k < l.length) (h : p l[k] = false) : l.all p = false := by
  rw [← Bool.not_eq_true, List.all_eq_true]
  intro h2
  have := h2 _ (List.getElem_mem hk)
  rw [h] at this; cases this
theorem take_allT {α : Type} {p : α → Bool} {l : List α} {k : Nat} (hk : k < l.length) (h : ∀ x ∈ l.take k, p x = true) (hp : p l[k] = true) : ∀ x ∈ l.take (k + 1), p x = true := by
  intro x hx
  rw [List.take_succ_eq_append_getElem hk] at hx
  simp only [List.mem_append, List.mem_singleton] at hx
  rcases hx with hx | rfl
  · exact h x hx
  · exact hp
theorem all_end {α : Type} {p : α → Bool} {l : List α} {k : Nat} (hk : ¬ k < l.length) (h : ∀ x ∈ l.take k, p x = true) : l.all p = true := by
  rw [List.take_of_length_le (by omega)] at h; exact List.all_eq_true.2 h
set_option maxRecDepth 100000 in
set_option maxHeartbeats 8000000 in
theorem rShort_c (a : GA) (g : Grd) (w : World) (hr : GridR w w.heap.size a g) :
    Calls Tryz.prog 15 #[(.agg #[.int .i64 g.blur, .slice a.pS g.sta.length a.cs, .slice a.pM g.mov.length a.cm, .slice a.pZ g.zon.length a.cz])] w fun e w' => e = .returned (.bool (shortG g)) ∧ Below w.heap.size w w' := by
  obtain ⟨W1, hW1⟩ : ∃ W1, W1 = w.alloc (.cells #[.int .i64 g.blur, .slice a.pS g.sta.length a.cs, .slice a.pM g.mov.length a.cm, .slice a.pZ g.zon.length a.cz] 26) := ⟨_, rfl⟩
  have hsz : W1.heap.size = w.heap.size + 1 := by rw [hW1]; simp
  have k0 : W1.heap[w.heap.size]? = some (.cells #[.int .i64 g.blur, .slice a.pS g.sta.length a.cs, .slice a.pM g.mov.length a.cm, .slice a.pZ g.zon.length a.cz] 26 (0, 0)) := by rw [hW1]; exact heap_alloc_new w _
  have hB0 : Below w.heap.size w W1 := by rw [hW1]; (repeat first | (with_reducible first | assumption | exact Below.refl _ _ | refine Bl.drew ?_ | refine Bl.drewN ?_ _ | refine Bl.alloc ?_ _ | refine Bl.set ?_ _ ?_) | (with_reducible apply Bl.step'; (focus (with_reducible assumption))) | omega | (focus (simp; done)) | (focus (simp; omega)))
  have HG := Lib.hid (hr.sx (Nat.le_refl _) (show Sx w W1 by rw [hW1]; exact (Sx.refl w).alloc _))
  (obtain ⟨g0, g1, g2, g3⟩ := cg4 k0)
  clear hr k0
  have y0 : w.heap.size < W1.heap.size := by omega
  go_enter Tryz.func15, Tryz.ntmps15
  go_upto_region 1 with fail
  rw [← hW1]
  clear hW1
  go_cut [38] (fun s wx => s = .bool (longG g) ∧ wx = W1)
  case first =>
    cases h1S : decide ((8 : Int) < (g.sta.length : Int))
    · cases h1M : decide ((14 : Int) < (g.mov.length : Int))
      · cases h1Z : decide ((4 : Int) < (g.zon.length : Int))
        · have HR : Hid (longG g = false) := Lib.hid (by unfold longG; rw [h1S, h1M, h1Z]; rfl)
          go_wp2_with fail
          go_meet
          exact ⟨by rw [HR.out], rfl⟩
        · cases h2Z : ((g.zon.length : Int) != 9)
          · have HR : Hid (longG g = false) := Lib.hid (by unfold longG; rw [h1S, h1M, h1Z, h2Z]; rfl)
            go_wp2_with fail
            go_meet
            exact ⟨by rw [HR.out], rfl⟩
          · have HR : Hid (longG g = true) := Lib.hid (by unfold longG; rw [h1S, h1M, h1Z, h2Z]; rfl)
            go_wp2_with fail
            go_meet
            exact ⟨by rw [HR.out], rfl⟩
      · cases h2M : ((g.mov.length : Int) != 41)
        · cases h1Z : decide ((4 : Int) < (g.zon.length : Int))
          · have HR : Hid (longG g = false) := Lib.hid (by unfold longG; rw [h1S, h1M, h2M, h1Z]; rfl)
            go_wp2_with fail
            go_meet
            exact ⟨by rw [HR.out], rfl⟩
          · cases h2Z : ((g.zon.length : Int) != 9)
            · have HR : Hid (longG g = false) := Lib.hid (by unfold longG; rw [h1S, h1M, h2M, h1Z, h2Z]; rfl)
              go_wp2_with fail
              go_meet
              exact ⟨by rw [HR.out], rfl⟩
            · have HR : Hid (longG g = true) := Lib.hid (by unfold longG; rw [h1S, h1M, h2M, h1Z, h2Z]; rfl)
              go_wp2_with fail
              go_meet
              exact ⟨by rw [HR.out], rfl⟩
        · have HR : Hid (longG g = true) := Lib.hid (by unfold longG; rw [h1S, h1M, h2M]; rfl)
          go_wp2_with fail
          go_meet
          exact ⟨by rw [HR.out], rfl⟩
    · cases h2S : ((g.sta.length : Int) != 17)
      · cases h1M : decide ((14 : Int) < (g.mov.length : Int))
        · cases h1Z : decide ((4 : Int) < (g.zon.length : Int))
          · have HR : Hid (longG g = false) := Lib.hid (by unfold longG; rw [h1S, h2S, h1M, h1Z]; rfl)
            go_wp2_with fail
            go_meet
            exact ⟨by rw [HR.out], rfl⟩
          · cases h2Z : ((g.zon.length : Int) != 9)
            · have HR : Hid (longG g = false) := Lib.hid (by unfold longG; rw [h1S, h2S, h1M, h1Z, h2Z]; rfl)
              go_wp2_with fail
              go_meet
              exact ⟨by rw [HR.out], rfl⟩
            · have HR : Hid (longG g = true) := Lib.hid (by unfold longG; rw [h1S, h2S, h1M, h1Z, h2Z]; rfl)
              go_wp2_with fail
              go_meet
              exact ⟨by rw [HR.out], rfl⟩
        · cases h2M : ((g.mov.length : Int) != 41)
          · cases h1Z : decide ((4 : Int) < (g.zon.length : Int))
            · have HR : Hid (longG g = false) := Lib.hid (by unfold longG; rw [h1S, h2S, h1M, h2M, h1Z]; rfl)
              go_wp2_with fail
              go_meet
              exact ⟨by rw [HR.out], rfl⟩
            · cases h2Z : ((g.zon.length : Int) != 9)
              · have HR : Hid (longG g = false) := Lib.hid (by unfold longG; rw [h1S, h2S, h1M, h2M, h1Z, h2Z]; rfl)
                go_wp2_with fail
                go_meet
                exact ⟨by rw [HR.out], rfl⟩
              · have HR : Hid (longG g = true) := Lib.hid (by unfold longG; rw [h1S, h2S, h1M, h2M, h1Z, h2Z]; rfl)
                go_wp2_with fail
                go_meet
                exact ⟨by rw [HR.out], rfl⟩
          · have HR : Hid (longG g = true) := Lib.hid (by unfold longG; rw [h1S, h2S, h1M, h2M]; rfl)
            go_wp2_with fail
            go_meet
            exact ⟨by rw [HR.out], rfl⟩
      · have HR : Hid (longG g = true) := Lib.hid (by unfold longG; rw [h1S, h2S]; rfl)
        go_wp2_with fail
        go_meet
        exact ⟨by rw [HR.out], rfl⟩
  case rest =>
    obtain ⟨rfl, hwc⟩ := hcut
    rw [hwc]
    clear hwc
    cases hlong : longG g
    · have HL := Lib.hid hlong
      have hbd := long_no hlong
      clear hlong
      go_wp2_with fail
      go_loop [3] (fun i => ∃ k : Nat, k ≤ g.sta.length ∧ i = .int .i64 k ∧ Hid (∀ x ∈ g.sta.take k, shortS x = true)) (fun i => g.sta.length - (intOf i).toNat)
      case atStart => exact ⟨0, Nat.zero_le _, rfl, Lib.hid (by simp)⟩
      case round =>
        obtain ⟨k, hk, rfl, hf⟩ := hrel
        by_cases hlt : k < g.sta.length
        · obtain ⟨x, hx⟩ : ∃ x, x = g.sta[k] := ⟨_, rfl⟩
          obtain ⟨b, off, ea, hbl, c0, c1, c2, c3⟩ := HG.out.sta.get4 (k := k) (by simpa using hlt) (by rw [List.getElem_map, ← hx]; rfl)
          rw [ea] at g1
          have HX := Lib.hid hx
          have HA := Lib.hid ea
          clear ea hx
          cases h1 : decide ((40 : Int) < (x.name.size : Int))
          · cases h2 : decide ((40 : Int) < (x.kind.size : Int))
            · have HQ : Hid (shortS x = true) := Lib.hid (by have h3 := of_decide_eq_false h1; have h4 := of_decide_eq_false h2; unfold shortS; rw [decide_eq_true (by omega), decide_eq_true (by omega)]; rfl)
              go_wp2_with fail
              go_round
              case rel => exact ⟨k + 1, by omega, by go_num, Lib.hid (take_allT hlt hf.out (by rw [← HX.out]; exact HQ.out))⟩
              case measure => simp [intOf]; omega
            · have HR : Hid (shortG g = false) := Lib.hid (by have h4 := of_decide_eq_true h2; unfold shortG; rw [all_hit hlt (p := shortS) (by rw [← HX.out]; unfold shortS; rw [decide_eq_false (p := x.kind.size ≤ 40) (by omega), Bool.and_false])]; simp)
              go_wp2_with fail
              go_ret
              exact ⟨ret_bool HR.out.symm, by exact zbl⟩
          · have HR : Hid (shortG g = false) := Lib.hid (by have h4 := of_decide_eq_true h1; unfold shortG; rw [all_hit hlt (p := shortS) (by rw [← HX.out]; unfold shortS; rw [decide_eq_false (p := x.name.size ≤ 40) (by omega), Bool.false_and])]; simp)
            go_wp2_with fail
            go_ret
            exact ⟨ret_bool HR.out.symm, by exact zbl⟩
        · have HS : Hid (g.sta.all shortS = true) := Lib.hid (all_end hlt hf.out)
          go_wp2_with fail
          go_loop [4] (fun i => ∃ k : Nat, k ≤ g.zon.length ∧ i = .int .i64 k ∧ Hid (∀ x ∈ g.zon.take k, shortZ x = true)) (fun i => g.zon.length - (intOf i).toNat)
          case atStart => exact ⟨0, Nat.zero_le _, rfl, Lib.hid (by simp)⟩
          case round =>
            clear hf hlt hk
            obtain ⟨k, hk, rfl, hf⟩ := hrel
            by_cases hlt : k < g.zon.length
            · obtain ⟨x, hx⟩ : ∃ x, x = g.zon[k] := ⟨_, rfl⟩
              obtain ⟨b, off, ea, hbl, c0, c1, c2, c3⟩ := HG.out.zon.get4 (k := k) (by simpa using hlt) (by rw [List.getElem_map, ← hx]; rfl)
              rw [ea] at g3
              have HX := Lib.hid hx
              have HA := Lib.hid ea
              clear ea hx
              cases h1 : decide ((40 : Int) < (x.name.size : Int))
              · have HQ : Hid (shortZ x = true) := Lib.hid (by have h3 := of_decide_eq_false h1; unfold shortZ; exact decide_eq_true (by omega))
                go_wp2_with fail
                go_round
                case rel => exact ⟨k + 1, by omega, by go_num, Lib.hid (take_allT hlt hf.out (by rw [← HX.out]; exact HQ.out))⟩
                case measure => simp [intOf]; omega
              · have HR : Hid (shortG g = false) := Lib.hid (by have h4 := of_decide_eq_true h1; unfold shortG; rw [all_hit hlt (p := shortZ) (by rw [← HX.out]; unfold shortZ; exact decide_eq_false (by omega))]; simp)
                go_wp2_with fail
                go_ret
                exact ⟨ret_bool HR.out.symm, by exact zbl⟩
            · have HR : Hid (shortG g = true) := Lib.hid (by unfold shortG; rw [HL.out, HS.out, all_end hlt hf.out]; rfl)
              go_wp2_with fail
              go_ret
              exact ⟨ret_bool HR.out.symm, by exact zbl⟩
    · have HR : Hid (shortG g = false) := Lib.hid (by unfold shortG; rw [hlong]; rfl)
      clear hlong
      go_wp2_with fail
      go_ret
      exact ⟨ret_bool HR.out.symm, by exact zbl⟩
end Go.Proofs.YtehnikhicnnnhaaGreatDoor

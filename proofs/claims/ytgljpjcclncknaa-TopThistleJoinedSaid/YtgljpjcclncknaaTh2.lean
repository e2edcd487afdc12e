/- The law's helpers: loops that convert. -/
import Derived.Test.YtgljpjcclncknaaTh1
namespace Go.Proofs.Ytgljpjcclncknaa
open Go.RowKit

theorem grown_set1 (W : World) (b o : Nat) (v : Value) : W.grownBy (W.setCell ⟨b, o, none⟩ v) (some b) := by
  have h : Below 0 W (W.setCell ⟨b, o, none⟩ v) := Below.setCell (Below.refl 0 W) (p := ⟨b, o, none⟩) (Nat.zero_le _) _
  refine ⟨h.os, h.tape, h.output, h.size, fun k _ hne => ?_⟩
  have hkb : k ≠ b := fun e => hne (by rw [e])
  rw [heap_setCell_other _ _ _ _ hkb]
set_option maxRecDepth 100000 in
set_option maxHeartbeats 4000000 in
theorem thistleTank_c (room : Int) (A : Option Addr) (c : Nat) (ls : List Lay) (w : World) (hl : ls.length ≤ 1000) (hr : Rw w w.heap.size 2 A (ls.map encL)) :
    Calls Try.prog 8 #[.agg #[.int .i64 room, .slice A ls.length c]] w (RetTk room ls w) := by
  obtain ⟨i0, hi, hz0, hz1, hz2⟩ := info_parts Try.infoLay
  have HR := Lib.hid hr
  clear hr
  go_enter Try.func8, Try.ntmps8
  go_wp2_with fail
  go_loopw [12] (fun i wr => ∃ k : Nat, k ≤ ls.length ∧ i = .int .i64 k ∧ ∃ (A' : Option Addr) (c' : Nat), wr.heap[w.heap.size + 1 + 1]? = some (.cells #[.int .i64 room, .slice A' k c'] 33 (0, 0)) ∧ OwnL wr (w.heap.size + 1 + 1 + 1) A' c' (ls.take k) ∧ wr.heap[w.heap.size + 1]? = some (.cells #[.int .i64 0, .slice none 0 0] 33 (0, 0)) ∧ Below w.heap.size w wr) (fun i _ => ls.length - (intOf i).toNat)
  case atStart => exact ⟨0, Nat.zero_le _, rfl, none, 0, blk_new (by simp), OwnL.nil_ _ _, blk_alloc (blk_new (by simp)), by (repeat first | (with_reducible first | assumption | exact Below.refl _ _ | refine Bl.drew ?_ | refine Bl.drewN ?_ _ | refine Bl.alloc ?_ _ | refine Bl.set ?_ _ ?_) | (with_reducible apply Bl.step'; (focus (with_reducible assumption))) | omega | (focus (simp; done)) | (focus (simp; omega)))⟩
  case round =>
    obtain ⟨k, hk, rfl, A', c', hkt, hown, hkr, hb⟩ := hrel
    have hbs := hb.size
    obtain ⟨t0, tf0, t1, tf1⟩ := cv2 hkt
    obtain ⟨r0, rf0, r1, rf1⟩ := cv2 hkr
    have htl := blk_lt hkt
    have hrl := blk_lt hkr
    have HKT := Lib.hid hkt
    have HKR := Lib.hid hkr
    have HB := Lib.hid hb
    have HOW := Lib.hid hown
    by_cases hlt : k < ls.length
    · obtain ⟨b, off, hA, hbl, c0, c1⟩ := ((show Rw wr w.heap.size 2 A (ls.map encL) from Rw.belowB (w0 := w) HR.out hb (Nat.le_refl _)).more hbs).get2 (k := k) (by simpa using hlt) (by rw [List.getElem_map]; rfl)
      obtain ⟨x, hx⟩ : ∃ x, x = ls[k] := ⟨_, rfl⟩
      rw [← hx] at c0 c1
      have htk : ls.take (k + 1) = ls.take k ++ [x] := by rw [hx, List.take_succ_eq_append_getElem hlt]
      have HTK := Lib.hid htk
      have hlk : (ls.take k).length = k := by rw [List.length_take]; omega
      have HLK := Lib.hid hlk
      have hrow : wr.ownsRow (w.heap.size + 1 + 1 + 1) 76 2 (.slice A' k c') k ((ls.take k).map encL).flatten := by have h := hown; unfold OwnL at h; rwa [hlk] at h
      clear hx htk hkt hkr hb hown hlk
      rw [hA]
      go_wp2_with (at_builtin; refine wpList_append_own _ rfl _ _ 31 rfl (w.heap.size + 1 + 1 + 1) 76 i0 zeroLay 2 16 Try.underlying31 hi hz0 hz1 hz2 rfl (by decide) _ _ _ rfl ((hrow.alloc _).alloc _) ⟨wr.heap.size + 1, 0, none⟩ 1 1 (encL x) rfl rfl ?c1 ?c2 ?c3 ?c4 ?c5 ?_)
      case c1 => exact encS_at (x := (x.a, x.h)) (blk_new (by simp))
      case c2 => exact encL_one x
      case c3 => unfold maxLen; omega
      case c4 => omega
      case c5 => simp; omega
      intro v' w4 hown' hgrow _
      have hne : ∀ j, (Value.slice A' k c').ownBlock = some j → w.heap.size + 1 + 1 + 1 ≤ j := fun j e => (World.ownsRow.lt hrow j e).1
      have hb4 : Below w.heap.size w w4 := Below.grown ((HB.out.alloc HB.out.size _).alloc (by simp; omega) _) hgrow (by simp; omega) (fun j e => by have := hne j e; omega)
      have kt4 : w4.heap[w.heap.size + 1 + 1]? = some (.cells #[.int .i64 room, .slice A' k c'] 33 (0, 0)) := (gr_block hgrow (by simp; omega) fun e => by have := hne _ e; omega).trans (blk_alloc (blk_alloc HKT.out))
      have kr4 : w4.heap[w.heap.size + 1]? = some (.cells #[.int .i64 0, .slice none 0 0] 33 (0, 0)) := (gr_block hgrow (by simp; omega) fun e => by have := hne _ e; omega).trans (blk_alloc (blk_alloc HKR.out))
      obtain ⟨A2, c2, hv, hown2⟩ := OwnL.app (ys := ls.take k) (y := x) (by rw [HLK.out, List.map_take]; exact hown')
      rw [List.length_append, HLK.out, List.length_singleton] at hv
      rw [← HTK.out] at hown2
      subst hv
      have hs4 := hb4.size
      have ht4 := blk_lt kt4
      have hr4 := blk_lt kr4
      obtain ⟨y0, yf0, y1, yf1⟩ := cv2 kt4
      have HB4 := Lib.hid hb4
      have HT4 := Lib.hid kt4
      have HR4 := Lib.hid kr4
      have HO4 := Lib.hid hown2
      clear hown' hgrow hne hb4 kt4 kr4 hown2 hrow t0 tf0 t1 tf1 r0 rf0 r1 rf1 c0 c1
      go_wp2_with fail
      go_roundw
      case rel =>
        have hg : w4.grownBy (w4.setCell ⟨w.heap.size + 1 + 1, 1, none⟩ (.slice A2 (k + 1) c2)) (some (w.heap.size + 1 + 1)) := grown_set1 _ _ _ _
        exact ⟨k + 1, hlt, by go_num, A2, c2, heap_setCell_same _ _ 1 _ _ _ HT4.out, HO4.out.keep hg (fun a ha e => by have := (HO4.out.row).2.2 a ha; have h1 := Option.some.inj e; omega), (hg.block _ hr4 (fun e => by have := Option.some.inj e; omega)).trans HR4.out, HB4.out.setCell (by show w.heap.size ≤ w.heap.size + 1 + 1; omega) _⟩
      case measure => simp [intOf]; omega
    · obtain rfl : k = ls.length := by omega
      rw [List.take_length] at hown
      have HOW := Lib.hid hown
      clear hkt hkr hb hown
      go_wp2_with fail
      have hg := grown_set2 wr (w.heap.size + 1) (.int .i64 room) (.slice A' ls.length c')
      refine bodyPost_ret (Try.resTk rfl _ _ rfl (set2_block HKR.out)) rfl ⟨A', c', rfl, ?_, Below.set2 HB.out (Nat.le_succ _) _ _⟩
      exact OwnL.mono (HOW.out.keep hg (fun a ha e => by have := (HOW.out.row).2.2 a ha; have h1 := Option.some.inj e; omega)) (by omega)
end Go.Proofs.Ytgljpjcclncknaa

/- slices.DeleteFunc at layers. -/
import Derived.Test.YtgljpjcclncknaaTs8
namespace Go.Proofs.Ytgljpjcclncknaa
open Go.RowKit

theorem Try.zeroLayV (w : World) : (zeroValue 76).run Try.prog w = .ok zeroLay w := Try.zeroValue76 w
theorem run_clear_rows (w : World) (t e ty : TypeId) (z : Value) (sz k' k : Nat) (hk : k = k' + 1) (ht : Try.prog.underlying t = some (.slice e)) (hv : ∀ w, (zeroValue e).run Try.prog w = .ok z w) (_hz : z.cells.size = sz) (h1 : ∀ u ∈ (Builtin.zeroCells z.cells k).toList, u.oneCell' = true) (b o c : Nat)
    (hc : ∀ j, j < (Builtin.zeroCells z.cells k).toList.length → (w.cell? ⟨b, o + j, none⟩).isSome = true) (hf : ∀ j, j < (Builtin.zeroCells z.cells k).toList.length → w.frozen? ⟨b, o + j, none⟩ = false) :
    (Builtin.clear_ #[t] ty #[.slice (some ⟨b, o, none⟩) k c]).run Try.prog w = .ok (.tuple #[]) (w.setCells b o (Builtin.zeroCells z.cells k).toList) := by
  have hst := run_storeCells_cells (P := Try.prog) b o (Builtin.zeroCells z.cells k).toList 0 w (by simpa using hc) (by simpa using hf) h1
  simp only [Nat.add_zero] at hst
  subst hk
  simp [Builtin.clear_, run_underlying ht, hv, hst]
theorem OwnL.cut {w w' : World} {base g c : Nat} {ys : List Lay} {a : Nat} (h : OwnL w base (some ⟨g, 0, none⟩) c ys) (ha : a ≤ ys.length) (vs : List Value) (hw : w' = w.setCells g (a * 2) vs) : OwnL w' base (some ⟨g, 0, none⟩) c (ys.take a) := by
  unfold OwnL at h ⊢
  rcases h.2 with ⟨hv, _⟩ | ⟨g', cap, cur, hv, hb, hg, hc, hm, hs, ht⟩
  · cases hv
  · injection hv with h1 h2 h3
    injection h1 with h1
    injection h1 with h1
    subst h1 h3
    obtain ⟨cur', k1, k2, k3⟩ := setCells_row vs (a * 2) w cur hg
    rw [← hw] at k1
    have hl : (ys.take a).length = a := by rw [List.length_take]; omega
    refine ⟨flatL_len _, .inr ⟨g, _, cur', rfl, hb, k1, by rw [hl]; omega, hm, by rw [k2]; exact hs, ?_⟩⟩
    rw [hl]
    have e1 : cur'.toList.take (a * 2) = cur.toList.take (a * 2) := by
      apply List.ext_getElem?
      intro j
      by_cases hj : j < a * 2
      · rw [List.getElem?_take_of_lt hj, List.getElem?_take_of_lt hj, Array.getElem?_toList, Array.getElem?_toList, k3 j hj]
      · rw [List.getElem?_eq_none (by rw [List.length_take]; omega), List.getElem?_eq_none (by rw [List.length_take]; omega)]
    have e2 : cur.toList.take (a * 2) = (cur.toList.take (ys.length * 2)).take (a * 2) := by rw [List.take_take, Nat.min_eq_left (by omega)]
    rw [e1, e2, ht]
    have e3 : ys = ys.take a ++ ys.drop a := (List.take_append_drop a ys).symm
    conv => lhs; rw [e3, flatL_app]
    rw [List.take_left' (by rw [flatL_len, hl])]
theorem first_at {α : Type} (p : α → Bool) : ∀ (zs : List α), (¬ ∀ x ∈ zs, p x = false) → ∃ a, ∃ ha : a < zs.length, p zs[a] = true ∧ ∀ x ∈ zs.take a, p x = false
  | [], h => absurd (fun x hx => by cases hx) h
  | y :: zs, h => by
    by_cases hy : p y = true
    · exact ⟨0, by simp, hy, by simp⟩
    · have hy' : p y = false := by simpa using hy
      obtain ⟨a, ha, h1, h2⟩ := first_at p zs (fun hz => h (fun x hx => by
        rcases List.mem_cons.1 hx with rfl | hx
        · exact hy'
        · exact hz x hx))
      refine ⟨a + 1, by simpa using ha, by simpa using h1, fun x hx => ?_⟩
      rw [List.take_succ_cons] at hx
      rcases List.mem_cons.1 hx with rfl | hx
      · exact hy'
      · exact h2 x hx
theorem grow_setCells (b : Nat) : ∀ (vs : List Value) (o : Nat) (w : World), w.grownBy (w.setCells b o vs) (some b)
  | [], _, w => ⟨rfl, rfl, rfl, Nat.le_refl _, fun _ _ _ => rfl⟩
  | v :: vs, o, w => by
    have h1 : w.grownBy (w.setCell ⟨b, o, none⟩ v) (some b) := ⟨rfl, rfl, rfl, by simp, fun k _ hne => heap_setCell_other _ _ _ _ (fun e => hne (by simp [e]))⟩
    exact grow_trans h1 (grow_setCells b vs (o + 1) _)
def RetD (zs : List Lay) (g c base : Nat) (w : World) (e : Ending) (w' : World) : Prop := e = .returned (.slice (some ⟨g, 0, none⟩) (zs.filter fun x => !noL x).length c) ∧ OwnL w' base (some ⟨g, 0, none⟩) c (zs.filter fun x => !noL x) ∧ w.grownBy w' (some g)
set_option maxRecDepth 100000 in
set_option maxHeartbeats 8000000 in
theorem deleteFunc_c (base g c : Nat) (zs : List Lay) (w : World) (hl : zs.length ≤ 1000) (h : OwnL w base (some ⟨g, 0, none⟩) c zs) :
    Calls Try.prog 32 #[.slice (some ⟨g, 0, none⟩) zs.length c, .func (.func 33) #[] #[]] w (RetD zs g c base w) := by
  obtain ⟨hrow, hzc, hab⟩ := h.row
  have hgl : g < w.heap.size := (hab _ rfl).2.1
  have hgb : base ≤ g := (hab _ rfl).1
  have hcm : c ≤ 9223372036854775807 := by
    rcases h.2 with ⟨hv, _⟩ | ⟨g', cap, cur, hv, _, _, _, hm, _⟩
    · cases hv
    · injection hv with _ _ h3; subst h3; exact hm
  have HI := Lib.hid (idxLay_c encL noL 33 #[] (some ⟨g, 0, none⟩) zs c w hl (enters_of Try.func33 (by kernel_rfl) rfl) hrow (fun x _ => ⟨_, _, rfl⟩) (fun x _ v0 v1 hv W _ => by
    simp only [encL, List.cons.injEq, and_true] at hv
    obtain ⟨rfl, rfl⟩ := hv
    exact del_c x W))
  clear hrow hab
  by_cases hno : ∀ x ∈ zs, noL x = false
  · have hi : idxF noL zs = -1 := idxF_none _ _ hno
    have hf : (zs.filter fun x => !noL x) = zs := List.filter_eq_self.2 fun x hx => by simp [hno x hx]
    rw [hi] at HI
    have HF := Lib.hid hf
    clear hno hi hf
    go_enter Try.func32, Try.ntmps32
    go_wp2_with (refine HI.out.mono ?_; rintro e w1 ⟨rfl, hb1⟩)
    go_ret
    exact ⟨by rw [HF.out]; rfl, by rw [HF.out]; exact h.below hb1, grow_any ⟨hb1.os, hb1.tape, hb1.output, hb1.size, fun k hk _ => hb1.block k hk⟩⟩
  · obtain ⟨a, ha, hap, haf⟩ : ∃ a, ∃ ha : a < zs.length, noL zs[a] = true ∧ ∀ x ∈ zs.take a, noL x = false := first_at noL zs hno
    have hi : idxF noL zs = (a : Int) := idxF_at noL zs a ha haf hap
    rw [hi] at HI
    have HD : Hid (DelI noL zs zs a (a + 1)) := Lib.hid (DelI.start ha haf hap)
    have hai : ((a : Int) == -1) = false := by rw [beq_eq_false_iff_ne]; omega
    have HO := Lib.hid h
    clear hno hi hap haf h
    go_enter Try.func32, Try.ntmps32
    go_wp2_with (refine HI.out.mono ?_; rintro e w1 ⟨rfl, hb1⟩)
    go_loopw [5, 6] (fun i j wr => ∃ (p q : Nat) (ys : List Lay), i = .int .i64 p ∧ j = .int .i64 q ∧ OwnL wr base (some ⟨g, 0, none⟩) c ys ∧ w.grownBy wr (some g) ∧ Hid (DelI noL zs ys p q)) (fun _ j _ => zs.length - (intOf j).toNat)
    case atStart => exact ⟨a, a + 1, zs, rfl, by first | rfl | go_num, HO.out.below hb1, grow_any ⟨hb1.os, hb1.tape, hb1.output, hb1.size, fun k hk _ => hb1.block k hk⟩, HD⟩
    case round =>
      obtain ⟨p, q, ys, rfl, rfl, how, hgr, hd⟩ := hrel
      have hyl := hd.out.len
      have hpq := hd.out.ab
      have hqn := hd.out.bn
      have hgw : g < wr.heap.size := Nat.lt_of_lt_of_le hgl hgr.size
      by_cases hlt : q < zs.length
      · have hqy : q < ys.length := by omega
        obtain ⟨v, hv⟩ : ∃ v, v = zs[q] := ⟨_, rfl⟩
        obtain ⟨c0, c1⟩ := how.at hqy
        rw [hd.out.at hlt, ← hv] at c0 c1
        have hpy : p < ys.length := by omega
        obtain ⟨p0, p1⟩ := how.at hpy
        have hfz := how.fz
        have hz0 := hfz (p * 2)
        have hz1 := hfz (p * 2 + 1)
        have HW := Lib.hid how
        have HG := Lib.hid hgr
        have HV := Lib.hid hv
        have HYL := Lib.hid hyl
        have hpi : (p : Int) < (zs.length : Int) := by omega
        have hpn : p < zs.length := by omega
        clear hfz how hgr hv hyl
        cases hpv : noL v
        all_goals
          have HDC := Lib.hid (fun W => del_c v W)
          rw [hpv] at HDC
          have HPV := Lib.hid hpv
          clear hpv
          go_wp2_with (refine (HDC.out _).mono ?_; rintro e w2 ⟨rfl, hb2⟩; (have hc2 := (bcell hb2).1); (have hf2 := (bcell hb2).2); (have hgw2 : g < w2.heap.size := by have := hb2.size; simp at this; omega); (obtain ⟨e0, ef0, e1, ef1⟩ := cv2 (blk_step hb2 (heap_alloc_new wr _))))
          go_roundw
          case rel =>
            have hbw : Below wr.heap.size wr w2 := by (repeat first | (with_reducible first | assumption | exact Below.refl _ _ | refine Bl.drew ?_ | refine Bl.drewN ?_ _ | refine Bl.alloc ?_ _ | refine Bl.set ?_ _ ?_) | (with_reducible apply Bl.step'; (focus (with_reducible assumption))) | omega | (focus (simp; done)) | (focus (simp; omega)))
            have hg2 := grow_trans HG.out (grow_any ⟨hbw.os, hbw.tape, hbw.output, hbw.size, fun k hk _ => hbw.block k hk⟩)
            first
              | exact ⟨p + 1, q + 1, ys.set p v, by go_num, by go_num, (HW.out.below hbw).set hpy v, grow_trans hg2 (grow_set2 _ _ _ _ _ _), Lib.hid (by rw [HV.out]; exact hd.out.keep hlt (by rw [← HV.out]; exact HPV.out))⟩
              | exact ⟨p, q + 1, ys, rfl, by go_num, HW.out.below hbw, hg2, Lib.hid (hd.out.skip hlt (by rw [← HV.out]; exact HPV.out))⟩
          case measure => simp [intOf]; omega
      · obtain rfl : q = zs.length := by omega
        have hcl : ∀ ty, (Builtin.clear_ #[31] ty #[.slice (some ⟨g, p * 2, none⟩) (zs.length - p) (c - p)]).run Try.prog wr = .ok (.tuple #[]) (wr.setCells g (p * 2) (Builtin.zeroCells zeroLay.cells (zs.length - p)).toList) := fun ty => by
          have hzl : (Builtin.zeroCells zeroLay.cells (zs.length - p)).toList.length = (zs.length - p) * 2 := by simp [Builtin.zeroCells, zeroLay, Value.cells]
          refine run_clear_rows wr _ _ ty zeroLay 2 (zs.length - p - 1) (zs.length - p) (by omega) Try.underlying31 Try.zeroLayV rfl ?_ g (p * 2) (c - p) (fun j hj => ?_) (fun j _ => how.fz _)
          · intro u hu
            simp [Builtin.zeroCells, zeroLay, Value.cells] at hu
            obtain ⟨i, hi, rfl⟩ := hu
            have h2 : i % 2 = 0 ∨ i % 2 = 1 := by omega
            rcases h2 with h2 | h2 <;> simp [h2] <;> rfl
          · rw [hzl] at hj
            have h1 := World.ownsRow.cellAt how (p * 2 + j) (by omega)
            rw [h1, List.getElem?_eq_getElem (by rw [flatL_len]; omega)]
            rfl
        have HW := Lib.hid how
        have HG := Lib.hid hgr
        have hpi : (p : Int) ≤ (zs.length : Int) := by omega
        have hpi0 : (0 : Int) ≤ (p : Int) := by omega
        have hpn : p ≤ zs.length := by omega
        have hpc : p ≤ c := by omega
        have hnc : (zs.length : Int) ≤ (c : Int) := by omega
        have hpc2 : (p : Int) ≤ (c : Int) := by omega
        clear how hgr
        have hdn := hd.out.done
        have hfl : (zs.filter fun x => !noL x).length = p := by rw [← hdn, List.length_take]; omega
        have HDN := Lib.hid hdn
        have HFL := Lib.hid hfl
        clear hdn hfl
        go_wp2_with fail
        all_goals
          go_ret
          refine ⟨by rw [HFL.out]; rfl, ?_, grow_trans HG.out (grow_setCells _ _ _ _)⟩
          rw [← HDN.out]
          exact HW.out.cut (by omega) _ rfl
end Go.Proofs.Ytgljpjcclncknaa

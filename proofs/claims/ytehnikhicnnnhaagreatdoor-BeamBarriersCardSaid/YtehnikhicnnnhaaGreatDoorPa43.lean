/- The reference: CheckBarrier. -/
import Derived.Test.YtehnikhicnnnhaaGreatDoorPa41
import Derived.Test.YtehnikhicnnnhaaGreatDoorPa11
import Derived.Test.YtehnikhicnnnhaaGreatDoorPa42
import Derived.Test.YtehnikhicnnnhaaGreatDoorPa01
namespace Go.Proofs.YtehnikhicnnnhaaGreatDoor
open Go.RowKit

def cutOk (g : Grd) (l : List Int) (m : Mov) : Bool := !movFree g m || (l.any (m.a == ·)) == (l.any (m.b == ·))
/-- The reference's CheckBarrier between two safe stations of a valid grid. -/
def rCb (g : Grd) (f t : Int) (l : List Int) : Int :=
  if 16 < l.length then 5 else if l.any (fun x => !hasB g x) then 10
  else if chkO l then (if !l.any (f == ·) || l.any (t == ·) then 19 else if g.mov.all (cutOk g l) then 0 else 19) else 11
theorem any_eqI {l : List Int} {v : Int} : l.any (v == ·) = true ↔ v ∈ l := by
  rw [List.any_eq_true]
  constructor
  · rintro ⟨x, h1, h2⟩; rw [beq_iff_eq] at h2; rw [h2]; exact h1
  · intro h; exact ⟨v, h, by simp⟩
theorem cut_edge {g : Grd} (ho : okG g) (l : List Int) : l.all (edgeOk g l) = g.mov.all (cutOk g l) := by
  rw [Bool.eq_iff_iff, List.all_eq_true, List.all_eq_true]
  constructor
  · intro h m hm
    unfold cutOk
    cases hf : movFree g m with
    | false => rfl
    | true =>
      simp only [Bool.not_true, Bool.false_or, beq_iff_eq]
      rw [Bool.eq_iff_iff, any_eqI, any_eqI]
      constructor
      · intro ha
        obtain ⟨x, h1, h2⟩ := mov_nb (v := m.a) hm ⟨ho.mov m hm, by omega, hf⟩
        have h3 := h m.a ha
        unfold edgeOk at h3
        have h4 := any_eqI.1 (List.all_eq_true.1 h3 x h1)
        rw [h2] at h4
        rwa [show m.a + m.b - m.a = m.b by omega] at h4
      · intro hb
        obtain ⟨x, h1, h2⟩ := mov_nb (v := m.b) hm ⟨ho.mov m hm, by omega, hf⟩
        have h3 := h m.b hb
        unfold edgeOk at h3
        have h4 := any_eqI.1 (List.all_eq_true.1 h3 x h1)
        rw [h2] at h4
        rwa [show m.a + m.b - m.b = m.a by omega] at h4
  · intro h v hv
    unfold edgeOk
    rw [List.all_eq_true]
    intro x hx
    obtain ⟨m, h1, h2, h3⟩ := nb_mov hx
    have h4 := h m h1
    unfold cutOk at h4
    rw [h2.2.2] at h4
    simp only [Bool.not_true, Bool.false_or, beq_iff_eq] at h4
    rw [h3]
    rcases h2.2.1 with e | e
    · rw [show m.a + m.b - v = m.b by omega, ← h4, e]; exact any_eqI.2 hv
    · rw [show m.a + m.b - v = m.a by omega, h4, e]; exact any_eqI.2 hv
theorem cbR_eq {g : Grd} {f t : Int} {l : List Int} (h : fromC g [f, t] = 0) : cbR g f t l = rCb g f t l := by
  have hg := (fromC_zero h).1
  unfold cbR barE0 rCb
  rw [h, cut_edge (gridC_ok hg)]
  by_cases h2 : 16 < l.length
  · have h3 : decide ((16 : Int) < l.length) = true := decide_eq_true (by omega)
    rw [if_pos h2, h3]; rfl
  · have h3 : decide ((16 : Int) < l.length) = false := decide_eq_false (by omega)
    rw [if_neg h2, h3, if_neg (by decide)]
theorem chkO_no {l : List Int} {j : Nat} (h : j + 1 < l.length) (hle : l[j + 1] ≤ l[j]) (hp : chkO l = chkO (l.drop j)) : chkO l = false := by
  rw [hp, chkO_step h, if_pos hle]
theorem chkO_yes {l : List Int} {j : Nat} (h : j + 1 < l.length) (hle : ¬ l[j + 1] ≤ l[j]) (hp : chkO l = chkO (l.drop j)) : chkO l = chkO (l.drop (j + 1)) := by
  rw [hp, chkO_step h, if_neg hle]
set_option maxRecDepth 100000 in
set_option maxHeartbeats 8000000 in
theorem rBarrier_c (a : GA) (g : Grd) (f t : Int) (A : Option Addr) (xs : List Int) (c : Nat) (w : World) (hok : okG g) (hr : GridR w w.heap.size a g) (hx : IntsR w w.heap.size A xs) (hl : xs.length ≤ 1000) :
    Calls Tryz.prog 36 #[(.agg #[.int .i64 g.blur, .slice a.pS g.sta.length a.cs, .slice a.pM g.mov.length a.cm, .slice a.pZ g.zon.length a.cz]), .int .i64 f, .int .i64 t, .slice A xs.length c] w fun e w' => e = .returned (.int .i64 (rCb g f t xs)) ∧ Below w.heap.size w w' := by
  have hns := hok.ns
  have hnm := hok.nm
  obtain ⟨W1, hW1⟩ : ∃ W1, W1 = w.alloc (.cells #[.int .i64 g.blur, .slice a.pS g.sta.length a.cs, .slice a.pM g.mov.length a.cm, .slice a.pZ g.zon.length a.cz] 26) := ⟨_, rfl⟩
  have k0 : W1.heap[w.heap.size]? = some (.cells #[.int .i64 g.blur, .slice a.pS g.sta.length a.cs, .slice a.pM g.mov.length a.cm, .slice a.pZ g.zon.length a.cz] 26 (0, 0)) := by rw [hW1]; exact heap_alloc_new w _
  have hB0 : Below w.heap.size w W1 := by rw [hW1]; (repeat first | (with_reducible first | assumption | exact Below.refl _ _ | refine Bl.drew ?_ | refine Bl.drewN ?_ _ | refine Bl.alloc ?_ _ | refine Bl.set ?_ _ ?_) | (with_reducible apply Bl.step'; (focus (with_reducible assumption))) | omega | (focus (simp; done)) | (focus (simp; omega)))
  have HB0 := Lib.hid hB0
  have HG := Lib.hid (hr.to hB0)
  have HX := Lib.hid (hx.to hB0)
  have z0 := bk_lt k0
  (obtain ⟨g0, g1, g2, g3⟩ := cg4 k0)
  clear hr k0 hx hB0
  by_cases h1 : 16 < xs.length
  · have hR := Lib.hid (show rCb g f t xs = 5 by unfold rCb; rw [if_pos h1])
    have h1' : decide ((16 : Int) < (xs.length : Int)) = true := decide_eq_true (by omega)
    clear h1
    go_enter Tryz.func36, Tryz.ntmps36
    go_upto_region 1 with fail
    rw [← hW1]
    clear hW1
    go_wp2_with fail
    go_ret
    exact ⟨ret_int hR.out.symm, HB0.out⟩
  · have h1' : decide ((16 : Int) < (xs.length : Int)) = false := decide_eq_false (by omega)
    have hR := Lib.hid (show rCb g f t xs = if xs.any (fun x => !hasB g x) then 10
      else if chkO xs then (if !xs.any (f == ·) || xs.any (t == ·) then 19 else if g.mov.all (cutOk g xs) then 0 else 19) else 11 by unfold rCb; rw [if_neg h1])
    clear h1
    have HIF := Lib.hid (fun W (h : IntsR W W.heap.size A xs) => hasInt_r f A xs c W _ (by omega) h)
    have HIT := Lib.hid (fun W (h : IntsR W W.heap.size A xs) => hasInt_r t A xs c W _ (by omega) h)
    have HC := Lib.hid (show ∀ k (hk : k < xs.length), ∃ b off, A = some ⟨b, off, none⟩ ∧ b < W1.heap.size ∧ W1.cell? ⟨b, off + k, none⟩ = some (.int .i64 xs[k]) from fun k hk => HX.out.get hk)
    go_enter Tryz.func36, Tryz.ntmps36
    go_upto_region 1 with fail
    rw [← hW1]
    clear hW1
    go_wp2_with fail
    go_loopw [9] (fun i wr => ∃ k : Nat, k ≤ xs.length ∧ i = .int .i64 k ∧ Hid (∀ x ∈ xs.take k, (!hasB g x) = false) ∧ Below W1.heap.size W1 wr) (fun i _ => xs.length - (intOf i).toNat)
    case atStart => exact ⟨0, Nat.zero_le _, rfl, Lib.hid (by simp), Below.refl _ _⟩
    case round =>
      obtain ⟨k, hk, rfl, hall, hb⟩ := hrel
      have hc1 := (bcell hb).1
      have y0 : w.heap.size < wr.heap.size := Nat.lt_of_lt_of_le z0 hb.size
      by_cases hlt : k < xs.length
      · obtain ⟨b, off, hA, hbl, x0⟩ := HC.out k hlt
        have yb : b < wr.heap.size := Nat.lt_of_lt_of_le hbl hb.size
        rw [hA]
        clear hA
        cases hp : hasB g xs[k] with
        | false =>
          have hany := any_take (p := fun x => !hasB g x) hlt (by simp [hp])
          have HR2 := Lib.hid (show rCb g f t xs = 10 by rw [hR.out, if_pos hany])
          have HH := Lib.hid (fun W => has_r a g xs[k] W)
          rw [hp] at HH
          clear hp hany
          go_wp2_with fail
          go_region_held3 (fun W => (wr).heap.size ≤ W.heap.size ∧ (∀ b o, b < (wr).heap.size → W.cell? ⟨b, o, none⟩ = (wr).cell? ⟨b, o, none⟩)) ((refine Sx.goal ?_; repeat first | (with_reducible first | assumption | exact Sx.refl _ | refine Sx.drew ?_ | refine Sx.alloc ?_ _ | refine Sx.set ?_ _ ?_) | (with_reducible apply Sx.below'; (focus (with_reducible assumption))) | omega | (focus (simp; done)) | (focus (simp; omega)))) (first | (go_at_call 98; (with_reducible refine Calls.mono (HH.out _) ?_); rintro e w2 ⟨rfl, hb2⟩))
          go_wp2_with fail
          go_ret
          exact ⟨ret_int HR2.out.symm, HB0.out.trans ((hb.trans ((show Below wr.heap.size wr _ by exact zbl).mono hb.size)).mono HB0.out.size)⟩
        | true =>
          have HH := Lib.hid (fun W => has_r a g xs[k] W)
          rw [hp] at HH
          have HP := Lib.hid hp
          clear hp
          go_wp2_with fail
          go_region_held3 (fun W => (wr).heap.size ≤ W.heap.size ∧ (∀ b o, b < (wr).heap.size → W.cell? ⟨b, o, none⟩ = (wr).cell? ⟨b, o, none⟩)) ((refine Sx.goal ?_; repeat first | (with_reducible first | assumption | exact Sx.refl _ | refine Sx.drew ?_ | refine Sx.alloc ?_ _ | refine Sx.set ?_ _ ?_) | (with_reducible apply Sx.below'; (focus (with_reducible assumption))) | omega | (focus (simp; done)) | (focus (simp; omega)))) (first | (go_at_call 98; (with_reducible refine Calls.mono (HH.out _) ?_); rintro e w2 ⟨rfl, hb2⟩))
          go_wp2_with fail
          go_roundw
          case rel => exact ⟨k + 1, by omega, by go_num, Lib.hid (take_all hlt hall.out (by simp [HP.out])), hb.trans ((show Below wr.heap.size wr _ by exact zbl).mono hb.size)⟩
          case measure => simp [intOf]; omega
      · have hkl : k = xs.length := by omega
        have hal := hall.out
        rw [hkl, List.take_length] at hal
        have hany := any_none hal
        have hR2 := hR.out
        rw [if_neg (by rw [hany]; simp)] at hR2
        have HR2 := Lib.hid hR2
        clear hal hany hR2 hR
        go_upto_region 8 with fail
        clear hkl hlt hk hall
        obtain ⟨wo, hwo⟩ : ∃ W, W = wr := ⟨_, rfl⟩
        rw [← hwo] at hb hc1 y0 ⊢
        have HBo := Lib.hid hb
        clear hwo hb
        go_wp2_with fail
        go_loopg [10] xs.length (fun n i wr => ∃ k : Nat, k ≤ xs.length - 1 ∧ n = xs.length - k ∧ i = .int .i64 ((k : Int) + 1) ∧ Hid (chkO xs = chkO (xs.drop k)) ∧ Below W1.heap.size W1 wr)
        case atStart => exact ⟨0, by omega, by omega, by go_num, Lib.hid (by simp), HBo.out⟩
        case round =>
          clear hc1 y0 HBo
          obtain ⟨k, hk, rfl, rfl, hch, hb⟩ := hrel
          have hc1 := (bcell hb).1
          have y0 : w.heap.size < wr.heap.size := Nat.lt_of_lt_of_le z0 hb.size
          by_cases hlt : k + 1 < xs.length
          · obtain ⟨b, off, hA, hbl, x0⟩ := HC.out k (by omega)
            obtain ⟨b', off', hA', _, x1⟩ := HC.out (k + 1) hlt
            rw [hA] at hA'
            obtain ⟨rfl, rfl⟩ : b' = b ∧ off' = off := by injection hA' with e; injection e with e1 e2 _; exact ⟨e1.symm, e2.symm⟩
            have yb : b' < wr.heap.size := Nat.lt_of_lt_of_le hbl hb.size
            rw [hA]
            have HA := Lib.hid hA
            clear hA hA'
            obtain ⟨y, hy⟩ : ∃ y, y = xs[k] := ⟨_, rfl⟩
            obtain ⟨z, hz⟩ : ∃ z, z = xs[k + 1] := ⟨_, rfl⟩
            rw [← hy] at x0
            rw [← hz] at x1
            have HY := Lib.hid hy
            have HZ := Lib.hid hz
            clear hy hz
            go_wp2_with fail
            have i0 : (0 : Int) ≤ (k : Int) := by omega
            have i1 : (k : Int) < (xs.length : Int) := by omega
            have i2 : (0 : Int) ≤ (k : Int) + 1 := by omega
            have i3 : (k : Int) + 1 < (xs.length : Int) := by omega
            have i4 : IntKind.i64.wrap ((k : Int) + 1 - 1) = (k : Int) := by rw [IntWalk.i64_in _ (by omega)]; omega
            have i5 : ((k : Int) + 1).toNat = k + 1 := by omega
            have i6 : IntKind.i64.wrap (k : Int) = (k : Int) := IntWalk.i64_in _ (by omega)
            cases hle : decide (z ≤ y)
            · have HLE := Lib.hid (of_decide_eq_false hle)
              go_region_held3 (fun W => (wr).heap.size ≤ W.heap.size ∧ (∀ b o, b < (wr).heap.size → W.cell? ⟨b, o, none⟩ = (wr).cell? ⟨b, o, none⟩)) ((refine Sx.goal ?_; repeat first | (with_reducible first | assumption | exact Sx.refl _ | refine Sx.drew ?_ | refine Sx.alloc ?_ _ | refine Sx.set ?_ _ ?_) | (with_reducible apply Sx.below'; (focus (with_reducible assumption))) | omega | (focus (simp; done)) | (focus (simp; omega)))) (fail)
              clear i4 i5 i6 x0 x1
              go_wp2_with fail
              rw [← HA.out]
              clear HA
              go_roundg (xs.length - (k + 1))
              case rel => exact ⟨k + 1, by omega, rfl, by go_num, Lib.hid (chkO_yes hlt (by rw [← HY.out, ← HZ.out]; have := HLE.out; omega) hch.out), hb.trans ((show Below wr.heap.size wr _ by exact zbl).mono hb.size)⟩
              case measure => omega
            · have HLE := Lib.hid (of_decide_eq_true hle)
              have HR3 := Lib.hid (show rCb g f t xs = 11 by rw [HR2.out, if_neg (by rw [chkO_no hlt (by rw [← HY.out, ← HZ.out]; have := HLE.out; omega) hch.out]; simp)])
              go_region_held3 (fun W => (wr).heap.size ≤ W.heap.size ∧ (∀ b o, b < (wr).heap.size → W.cell? ⟨b, o, none⟩ = (wr).cell? ⟨b, o, none⟩)) ((refine Sx.goal ?_; repeat first | (with_reducible first | assumption | exact Sx.refl _ | refine Sx.drew ?_ | refine Sx.alloc ?_ _ | refine Sx.set ?_ _ ?_) | (with_reducible apply Sx.below'; (focus (with_reducible assumption))) | omega | (focus (simp; done)) | (focus (simp; omega)))) (fail)
              clear i4 i5 i6 x0 x1
              go_wp2_with fail
              go_ret
              exact ⟨ret_int HR3.out.symm, HB0.out.trans ((hb.trans ((show Below wr.heap.size wr _ by exact zbl).mono hb.size)).mono HB0.out.size)⟩
          · have hall2 : chkO xs = true := by
              rw [hch.out]
              cases hd : xs.drop k with
              | nil => rfl
              | cons v l =>
                have hlen := congrArg List.length hd
                rw [List.length_drop, List.length_cons] at hlen
                have : l = [] := List.eq_nil_of_length_eq_zero (by omega)
                rw [this]; rfl
            have hR3 := HR2.out
            rw [if_pos hall2] at hR3
            have HR3 := Lib.hid hR3
            have HXr := Lib.hid (HX.out.to hb)
            clear hall2 hR3
            cases hf1 : xs.any (f == ·) with
            | false =>
              have HR4 := Lib.hid (show rCb g f t xs = 19 by rw [HR3.out, hf1]; rfl)
              rw [hf1] at HIF
              clear hf1
              go_wp2_with (go_at_call 35; (with_reducible refine Calls.mono (HIF.out _ (HXr.out.to (by exact zbl))) ?_); rintro e w' ⟨rfl, rfl⟩)
              go_ret
              exact ⟨ret_int HR4.out.symm, HB0.out.trans (hb.mono HB0.out.size)⟩
            | true =>
              rw [hf1] at HIF
              cases ht1 : xs.any (t == ·) with
              | true =>
                have HR4 := Lib.hid (show rCb g f t xs = 19 by rw [HR3.out, hf1, ht1]; rfl)
                rw [ht1] at HIT
                clear hf1 ht1
                go_wp2_with (first | (go_at_call 35; (with_reducible refine Calls.mono (HIF.out _ (HXr.out.to (by exact zbl))) ?_); rintro e w' ⟨rfl, rfl⟩) | (go_at_call 35; (with_reducible refine Calls.mono (HIT.out _ (HXr.out.to (by exact zbl))) ?_); rintro e w' ⟨rfl, rfl⟩))
                go_ret
                exact ⟨ret_int HR4.out.symm, HB0.out.trans (hb.mono HB0.out.size)⟩
              | false =>
                have HR4 := Lib.hid (show rCb g f t xs = if g.mov.all (cutOk g xs) then 0 else 19 by rw [HR3.out, hf1, ht1]; rfl)
                rw [ht1] at HIT
                clear hf1 ht1
                go_upto_region 15 with (first | (go_at_call 35; (with_reducible refine Calls.mono (HIF.out _ (HXr.out.to (by exact zbl))) ?_); rintro e w' ⟨rfl, rfl⟩) | (go_at_call 35; (with_reducible refine Calls.mono (HIT.out _ (HXr.out.to (by exact zbl))) ?_); rintro e w' ⟨rfl, rfl⟩))
                obtain ⟨wp, hwp⟩ : ∃ W, W = wr := ⟨_, rfl⟩
                rw [← hwp] at hb ⊢
                have HBp := Lib.hid hb
                clear hwp hb hc1 y0 HXr hch hk hlt
                go_wp2_with fail
                go_loopw [11] (fun i wr => ∃ k : Nat, k ≤ g.mov.length ∧ i = .int .i64 k ∧ Hid (∀ m ∈ g.mov.take k, (!cutOk g xs m) = false) ∧ Below W1.heap.size W1 wr) (fun i _ => g.mov.length - (intOf i).toNat)
                case atStart => exact ⟨0, Nat.zero_le _, rfl, Lib.hid (by simp), HBp.out⟩
                case round =>
                  clear HBp
                  obtain ⟨k, hk, rfl, hall, hb⟩ := hrel
                  have hc1 := (bcell hb).1
                  have y0 : w.heap.size < wr.heap.size := Nat.lt_of_lt_of_le z0 hb.size
                  by_cases hlt : k < g.mov.length
                  · obtain ⟨x, hx⟩ : ∃ x, x = g.mov[k] := ⟨_, rfl⟩
                    obtain ⟨b, off, ea, hbl, c0, c1, c2⟩ := HG.out.mov.get3 (k := k) (by simpa using hlt) (by rw [List.getElem_map, ← hx]; rfl)
                    have yb : b < wr.heap.size := Nat.lt_of_lt_of_le hbl hb.size
                    have hmo : okM g.sta.length x := by rw [hx]; exact hok.mov _ (List.getElem_mem hlt)
                    have HKX := Lib.hid hx
                    have HXr := Lib.hid (HX.out.to hb)
                    have HGr := Lib.hid (HG.out.to hb)
                    rw [ea] at g2
                    have hN := fun W (h : GridR W W.heap.size a g) => rFreeM_c a g x W hok hmo h
                    rw [ea] at hN
                    clear hx ea hmo
                    obtain ⟨WB, hWB⟩ : ∃ W, W = wr.alloc (.cells #[.int .i64 x.a, .int .i64 x.b, .int .i64 x.s] 165) := ⟨_, rfl⟩
                    have kB : WB.heap[wr.heap.size]? = some (.cells #[.int .i64 x.a, .int .i64 x.b, .int .i64 x.s] 165 (0, 0)) := by rw [hWB]; exact heap_alloc_new wr _
                    have hbB : Below wr.heap.size wr WB := by rw [hWB]; (repeat first | (with_reducible first | assumption | exact Below.refl _ _ | refine Bl.drew ?_ | refine Bl.drewN ?_ _ | refine Bl.alloc ?_ _ | refine Bl.set ?_ _ ?_) | (with_reducible apply Bl.step'; (focus (with_reducible assumption))) | omega | (focus (simp; done)) | (focus (simp; omega)))
                    have hb1B : Below W1.heap.size W1 WB := hb.trans (hbB.mono hb.size)
                    obtain ⟨hx0, _, hx1, _, _, _⟩ := show WB.cell? ⟨wr.heap.size, 0, none⟩ = some (.int .i64 x.a) ∧ True ∧ WB.cell? ⟨wr.heap.size, 1, none⟩ = some (.int .i64 x.b) ∧ True ∧ True ∧ True from ⟨(cell_of_row _ _ _ _ _ _ kB).trans rfl, trivial, (cell_of_row _ _ _ _ _ _ kB).trans rfl, trivial, trivial, trivial⟩
                    have j0 := (hb1B.cell (p := ⟨w.heap.size, 0, none⟩) z0).trans g0
                    have j1 := (hb1B.cell (p := ⟨w.heap.size, 1, none⟩) z0).trans g1
                    have j2 := (hb1B.cell (p := ⟨w.heap.size, 2, none⟩) z0).trans g2
                    have j3 := (hb1B.cell (p := ⟨w.heap.size, 3, none⟩) z0).trans g3
                    have HGB := Lib.hid (HG.out.to hb1B)
                    have HXB := Lib.hid (HX.out.to hb1B)
                    have HB1B := Lib.hid hb1B
                    clear kB hbB hb1B
                    go_upto_region 19 with fail
                    rw [← hWB]
                    clear hWB
                    cases hp : movFree g x with
                    | false =>
                      simp only [hp] at hN
                      have HN := Lib.hid hN
                      have HCO := Lib.hid (show (!cutOk g xs x) = false by unfold cutOk; rw [hp]; rfl)
                      clear hN hp
                      refine cbf_r WB ⟨a.pS, some ⟨b, off, none⟩, a.pZ, a.cs, a.cm, a.cz⟩ g A xs.length c w.heap.size wr.heap.size x.a x.b false false j0 j1 j2 j3 hx0 hx1 (fun W hW => HN.out W (HGB.out.to hW)) _ _ _ _ _ _ _ _ _ _ _ _ _ _ _ _ _ _ _ _ _ _ _ _ _ _ _ _ _ _ _ _ _ _ _ _ _ _ _ _ _ _ _ _ _ _ _ _ _ _ _ _ _ _ _ _ _ _ _ _ _ _ _ _ _ _ _ _ _ _ _ _ _ _ _ _ _ _ _ _ _ _ ?_
                      intro v66 v67 v68 v69 v70 v71 v72 v73 v74 v75 v76 v77 v78 v79 v80 v81 wx hbx
                      dsimp only
                      have HBX := Lib.hid (HB1B.out.trans (hbx.mono HB1B.out.size))
                      clear hbx j0 j1 j2 j3 hx0 hx1
                      go_wp2_with fail
                      go_roundw
                      case rel => exact ⟨k + 1, by omega, by go_num, Lib.hid (take_all hlt hall.out (by rw [← HKX.out]; exact HCO.out)), HBX.out⟩
                      case measure => simp [intOf]; omega
                    | true =>
                      simp only [hp] at hN
                      have HN := Lib.hid hN
                      have HIA := Lib.hid (fun W (h : IntsR W W.heap.size A xs) => hasInt_r x.a A xs c W _ (by omega) h)
                      have HIB := Lib.hid (fun W (h : IntsR W W.heap.size A xs) => hasInt_r x.b A xs c W _ (by omega) h)
                      have hcut : cutOk g xs x = (xs.any (x.a == ·) == xs.any (x.b == ·)) := by unfold cutOk; rw [hp]; rfl
                      obtain ⟨pa, hpa⟩ : ∃ p, p = xs.any (x.a == ·) := ⟨_, rfl⟩
                      obtain ⟨pb, hpb⟩ : ∃ p, p = xs.any (x.b == ·) := ⟨_, rfl⟩
                      rw [← hpa] at hcut HIA
                      rw [← hpb] at hcut HIB
                      have HCUT := Lib.hid hcut
                      clear hN hp hpa hpb hcut
                      refine cbt_r WB ⟨a.pS, some ⟨b, off, none⟩, a.pZ, a.cs, a.cm, a.cz⟩ g A xs.length c w.heap.size wr.heap.size x.a x.b pa pb j0 j1 j2 j3 hx0 hx1 (fun W hW => HN.out W (HGB.out.to hW)) (fun W hW => HIA.out W (HXB.out.to hW)) (fun W hW => HIB.out W (HXB.out.to hW)) _ _ _ _ _ _ _ _ _ _ _ _ _ _ _ _ _ _ _ _ _ _ _ _ _ _ _ _ _ _ _ _ _ _ _ _ _ _ _ _ _ _ _ _ _ _ _ _ _ _ _ _ _ _ _ _ _ _ _ _ _ _ _ _ _ _ _ _ _ _ _ _ _ _ _ _ _ _ _ _ _ _ ?_
                      intro v66 v67 v68 v69 v70 v71 v72 v73 v74 v75 v76 v77 v78 v79 v80 v81 wx hbx
                      dsimp only
                      have HBX := Lib.hid (HB1B.out.trans (hbx.mono HB1B.out.size))
                      clear hbx j0 j1 j2 j3 hx0 hx1
                      cases hne : (pa != pb)
                      · have HCO := Lib.hid (show (!cutOk g xs x) = false by rw [HCUT.out]; revert hne; cases pa <;> cases pb <;> decide)
                        go_wp2_with fail
                        go_roundw
                        case rel => exact ⟨k + 1, by omega, by go_num, Lib.hid (take_all hlt hall.out (by rw [← HKX.out]; exact HCO.out)), HBX.out⟩
                        case measure => simp [intOf]; omega
                      · have HR5 := Lib.hid (show rCb g f t xs = 19 by
                          rw [HR4.out, if_neg]
                          intro hall2
                          rw [List.all_eq_true] at hall2
                          have h1 := hall2 x (by rw [HKX.out]; exact List.getElem_mem _)
                          rw [HCUT.out] at h1
                          revert hne h1; cases pa <;> cases pb <;> decide)
                        go_wp2_with fail
                        go_ret
                        exact ⟨ret_int HR5.out.symm, HB0.out.trans (HBX.out.mono HB0.out.size)⟩
                  · have hkm : k = g.mov.length := by omega
                    have hal := hall.out
                    rw [hkm, List.take_length] at hal
                    have HR5 := Lib.hid (show rCb g f t xs = 0 by
                      rw [HR4.out, if_pos]
                      rw [List.all_eq_true]
                      intro m hm
                      simpa using hal m hm)
                    clear hal
                    go_wp2_with fail
                    go_ret
                    exact ⟨ret_int HR5.out.symm, HB0.out.trans (hb.mono HB0.out.size)⟩
end Go.Proofs.YtehnikhicnnnhaaGreatDoor

/- The reference: Steps. -/
import Derived.Test.YtehnikhicnnnhaaGreatDoorPa38
import Derived.Test.YtehnikhicnnnhaaGreatDoorPa11
import Derived.Test.YtehnikhicnnnhaaGreatDoorPa01
namespace Go.Proofs.YtehnikhicnnnhaaGreatDoor
open Go.RowKit

/-- The reference's Steps on a valid grid. -/
def rStp (g : Grd) (l : List Int) : Int × Int :=
  if l.length = 0 then (0, 12) else if 40 < l.length then (0, 5) else if l.any (fun x => !hasB g x) then (0, 10)
  else if isSafeG g (l.headD 0) then (match sumW g (l.headD 0) l.tail with | none => (0, 21) | some n => (n, 0)) else (0, 31)
theorem stepsR_eq {g : Grd} (h : gridC g = 0) (l : List Int) : stepsR g l = rStp g l := by
  unfold stepsR stepsE0 rStp
  rw [h]
  by_cases h0 : l.length = 0
  · have h1 : ((l.length : Int) == 0) = true := by rw [beq_iff_eq]; omega
    rw [if_pos h0, h1]; rfl
  · have h1 : ((l.length : Int) == 0) = false := by rw [beq_eq_false_iff_ne]; omega
    rw [if_neg h0, h1]
    by_cases h2 : 40 < l.length
    · have h3 : decide ((40 : Int) < l.length) = true := decide_eq_true (by omega)
      rw [if_pos h2, h3]; rfl
    · have h3 : decide ((40 : Int) < l.length) = false := decide_eq_false (by omega)
      rw [if_neg h2, h3, if_neg (by decide)]
      rfl
theorem any_take {p : Int → Bool} {l : List Int} {k : Nat} (hk : k < l.length) (hp : p l[k] = true) : l.any p = true := any_at hk hp
set_option maxRecDepth 100000 in
set_option maxHeartbeats 4000000 in
theorem rSteps_c (a : GA) (g : Grd) (A : Option Addr) (xs : List Int) (c : Nat) (w : World) (hok : okG g) (hr : GridR w w.heap.size a g) (hx : IntsR w w.heap.size A xs) (hl : xs.length ≤ 1000) :
    Calls Tryz.prog 33 #[(.agg #[.int .i64 g.blur, .slice a.pS g.sta.length a.cs, .slice a.pM g.mov.length a.cm, .slice a.pZ g.zon.length a.cz]), .slice A xs.length c] w fun e w' => e = .returned (.tuple #[.int .i64 (rStp g xs).1, .int .i64 (rStp g xs).2]) ∧ Below w.heap.size w w' := by
  have hns := hok.ns
  obtain ⟨W1, hW1⟩ : ∃ W1, W1 = w.alloc (.cells #[.int .i64 g.blur, .slice a.pS g.sta.length a.cs, .slice a.pM g.mov.length a.cm, .slice a.pZ g.zon.length a.cz] 26) := ⟨_, rfl⟩
  have k0 : W1.heap[w.heap.size]? = some (.cells #[.int .i64 g.blur, .slice a.pS g.sta.length a.cs, .slice a.pM g.mov.length a.cm, .slice a.pZ g.zon.length a.cz] 26 (0, 0)) := by rw [hW1]; exact heap_alloc_new w _
  have hB0 : Below w.heap.size w W1 := by rw [hW1]; (repeat first | (with_reducible first | assumption | exact Below.refl _ _ | refine Bl.drew ?_ | refine Bl.drewN ?_ _ | refine Bl.alloc ?_ _ | refine Bl.set ?_ _ ?_) | (with_reducible apply Bl.step'; (focus (with_reducible assumption))) | omega | (focus (simp; done)) | (focus (simp; omega)))
  have HB0 := Lib.hid hB0
  have HG := Lib.hid (hr.to hB0)
  have HX := Lib.hid (hx.to hB0)
  have z0 := bk_lt k0
  (obtain ⟨g0, g1, g2, g3⟩ := cg4 k0)
  clear hr k0 hx hB0
  by_cases h0 : xs.length = 0
  · have hR := Lib.hid (show rStp g xs = (0, 12) by unfold rStp; rw [if_pos h0])
    go_enter Tryz.func33, Tryz.ntmps33
    go_upto_region 1 with fail
    rw [← hW1]
    clear hW1
    go_wp2_with fail
    go_ret2
    exact ⟨by rw [hR.out]; rfl, HB0.out⟩
  · by_cases h1 : 40 < xs.length
    · have hR := Lib.hid (show rStp g xs = (0, 5) by unfold rStp; rw [if_neg h0, if_pos h1])
      have h0' : ((xs.length : Int) == 0) = false := by rw [beq_eq_false_iff_ne]; omega
      have h1' : decide ((40 : Int) < (xs.length : Int)) = true := decide_eq_true (by omega)
      clear h0 h1
      go_enter Tryz.func33, Tryz.ntmps33
      go_upto_region 1 with fail
      rw [← hW1]
      clear hW1
      go_wp2_with fail
      go_ret2
      exact ⟨by rw [hR.out]; rfl, HB0.out⟩
    · have h0' : ((xs.length : Int) == 0) = false := by rw [beq_eq_false_iff_ne]; omega
      have h1' : decide ((40 : Int) < (xs.length : Int)) = false := decide_eq_false (by omega)
      have hpos : 0 < xs.length := by omega
      have hR := Lib.hid (show rStp g xs = if xs.any (fun x => !hasB g x) then ((0 : Int), (10 : Int))
          else if isSafeG g (xs.headD 0) then (match sumW g (xs.headD 0) xs.tail with | none => ((0 : Int), (21 : Int)) | some n => (n, 0)) else ((0 : Int), (31 : Int)) by unfold rStp; rw [if_neg h0, if_neg h1])
      obtain ⟨b, off, rfl, hbl, hbc⟩ := HX.out.at (by intro h; rw [h] at hpos; simp at hpos)
      have HC := Lib.hid hbc
      clear h0 h1 hbc
      go_enter Tryz.func33, Tryz.ntmps33
      go_upto_region 1 with fail
      rw [← hW1]
      clear hW1
      go_upto_region 5 with fail
      go_wp2_with fail
      go_loopw [6] (fun i wr => ∃ k : Nat, k ≤ xs.length ∧ i = .int .i64 k ∧ Hid (∀ x ∈ xs.take k, (!hasB g x) = false) ∧ Below W1.heap.size W1 wr) (fun i _ => xs.length - (intOf i).toNat)
      case atStart => exact ⟨0, Nat.zero_le _, rfl, Lib.hid (by simp), Below.refl _ _⟩
      case round =>
        obtain ⟨k, hk, rfl, hall, hb⟩ := hrel
        have hc1 := (bcell hb).1
        have y0 : w.heap.size < wr.heap.size := Nat.lt_of_lt_of_le z0 hb.size
        have yb : b < wr.heap.size := Nat.lt_of_lt_of_le hbl hb.size
        by_cases hlt : k < xs.length
        · have x0 := HC.out k hlt
          cases hp : hasB g xs[k] with
          | false =>
            have hany := any_take (p := fun x => !hasB g x) hlt (by simp [hp])
            have HR2 := Lib.hid (show rStp g xs = (0, 10) by rw [hR.out, if_pos hany])
            have HH := Lib.hid (fun W => has_r a g xs[k] W)
            rw [hp] at HH
            clear hp hany
            go_wp2_with fail
            go_region_held3 (fun W => (wr).heap.size ≤ W.heap.size ∧ (∀ b o, b < (wr).heap.size → W.cell? ⟨b, o, none⟩ = (wr).cell? ⟨b, o, none⟩)) ((refine Sx.goal ?_; repeat first | (with_reducible first | assumption | exact Sx.refl _ | refine Sx.drew ?_ | refine Sx.alloc ?_ _ | refine Sx.set ?_ _ ?_) | (with_reducible apply Sx.below'; (focus (with_reducible assumption))) | omega | (focus (simp; done)) | (focus (simp; omega)))) (first | (go_at_call 98; (with_reducible refine Calls.mono (HH.out _) ?_); rintro e w2 ⟨rfl, hb2⟩))
            go_wp2_with fail
            go_ret2
            exact ⟨by rw [HR2.out]; rfl, HB0.out.trans ((hb.trans ((show Below wr.heap.size wr _ by exact zbl).mono hb.size)).mono HB0.out.size)⟩
          | true =>
            have HH := Lib.hid (fun W => has_r a g xs[k] W)
            rw [hp] at HH
            have HP := Lib.hid hp
            clear hp
            go_wp2_with fail
            go_region_held3 (fun W => (wr).heap.size ≤ W.heap.size ∧ (∀ b o, b < (wr).heap.size → W.cell? ⟨b, o, none⟩ = (wr).cell? ⟨b, o, none⟩)) ((refine Sx.goal ?_; repeat first | (with_reducible first | assumption | exact Sx.refl _ | refine Sx.drew ?_ | refine Sx.alloc ?_ _ | refine Sx.set ?_ _ ?_) | (with_reducible apply Sx.below'; (focus (with_reducible assumption))) | omega | (focus (simp; done)) | (focus (simp; omega)))) (first | (go_at_call 98; (with_reducible refine Calls.mono (HH.out _) ?_); rintro e w2 ⟨rfl, hb2⟩))
            go_wp2_with fail
            go_roundw
            case rel => exact ⟨k + 1, by omega, by go_num, Lib.hid (take_all hlt hall.out (by simp [HP.out])), hb.trans ((show Below wr.heap.size wr _ by exact zbl).mono hb.size)⟩
            case measure => simp [intOf]; omega
        · have hkl : k = xs.length := by omega
          have hal := hall.out
          rw [hkl, List.take_length] at hal
          have hany := any_none hal
          have HAL := Lib.hid (show ∀ x ∈ xs, 0 ≤ x ∧ x < g.sta.length from fun x hx => hasB_iffG.1 (by simpa using hal x hx))
          have x0 : W1.cell? ⟨b, off, none⟩ = some (.int .i64 xs[0]) := HC.out 0 hpos
          have hv := HAL.out xs[0] (List.getElem_mem _)
          have hhd : xs.headD 0 = xs[0] := by cases xs with | nil => simp at hpos | cons v tl => rfl
          have hR2 := hR.out
          rw [if_neg (by rw [hany]; simp), hhd] at hR2
          have HHD := Lib.hid hhd
          have HGr := Lib.hid (HG.out.to hb)
          clear hal hany hkl hR hhd
          cases hsf : isSafeG g xs[0] with
          | false =>
            have HR2 := Lib.hid (show rStp g xs = (0, 31) by rw [hR2, hsf]; rfl)
            have HS := Lib.hid (fun W (h : GridR W W.heap.size a g) => rSafeG_c a g xs[0] W hok h hv)
            rw [hsf] at HS
            clear hsf hR2
            go_wp2_with fail
            go_region_held3 (fun W => (wr).heap.size ≤ W.heap.size ∧ (∀ b o, b < (wr).heap.size → W.cell? ⟨b, o, none⟩ = (wr).cell? ⟨b, o, none⟩)) ((refine Sx.goal ?_; repeat first | (with_reducible first | assumption | exact Sx.refl _ | refine Sx.drew ?_ | refine Sx.alloc ?_ _ | refine Sx.set ?_ _ ?_) | (with_reducible apply Sx.below'; (focus (with_reducible assumption))) | omega | (focus (simp; done)) | (focus (simp; omega)))) (first | (go_at_call 55; (with_reducible refine Calls.mono (HS.out _ (HGr.out.to (by exact zbl))) ?_); rintro e w2 ⟨rfl, hb2⟩))
            go_wp2_with fail
            go_ret2
            exact ⟨by rw [HR2.out]; rfl, HB0.out.trans ((hb.trans ((show Below wr.heap.size wr _ by exact zbl).mono hb.size)).mono HB0.out.size)⟩
          | true =>
            have HR2 := Lib.hid (show rStp g xs = (match sumW g xs[0] xs.tail with | none => ((0 : Int), (21 : Int)) | some n => (n, 0)) by rw [hR2, hsf]; rfl)
            have HS := Lib.hid (fun W (h : GridR W W.heap.size a g) => rSafeG_c a g xs[0] W hok h hv)
            rw [hsf] at HS
            clear hsf hR2 hv
            go_wp2_with fail
            go_region_held3 (fun W => (wr).heap.size ≤ W.heap.size ∧ (∀ b o, b < (wr).heap.size → W.cell? ⟨b, o, none⟩ = (wr).cell? ⟨b, o, none⟩)) ((refine Sx.goal ?_; repeat first | (with_reducible first | assumption | exact Sx.refl _ | refine Sx.drew ?_ | refine Sx.alloc ?_ _ | refine Sx.set ?_ _ ?_) | (with_reducible apply Sx.below'; (focus (with_reducible assumption))) | omega | (focus (simp; done)) | (focus (simp; omega)))) (first | (go_at_call 55; (with_reducible refine Calls.mono (HS.out _ (HGr.out.to (by exact zbl))) ?_); rintro e w2 ⟨rfl, hb2⟩))
            have hb3 : Below W1.heap.size W1 w2 := hb.trans ((show Below wr.heap.size wr w2 by exact zbl).mono hb.size)
            have HB3 := Lib.hid hb3
            obtain ⟨w3, hw3⟩ : ∃ W, W = w2 := ⟨_, rfl⟩
            rw [← hw3] at HB3 ⊢
            have hs3 := HB3.out.size
            clear hw3 hb3 hb2 hb hc1 y0 yb x0 HGr hall hk
            go_wp2_with fail
            go_loopg [7, 8] xs.length (fun n sv i wr => ∃ (k : Nat) (s : Int), k + 1 ≤ xs.length ∧ n = xs.length - k ∧ sv = .int .i64 s ∧ i = .int .i64 ((k : Int) + 1) ∧ 0 ≤ s ∧ s ≤ 20 * k ∧ Below W1.heap.size W1 wr ∧ Hid (sumW g xs[0] xs.tail = (sumW g (xs.getD k 0) (xs.drop (k + 1))).map (s + ·)))
            case atStart => exact ⟨0, 0, by omega, by omega, rfl, rfl, by omega, by omega, HB3.out, Lib.hid (by
              cases xs with
              | nil => simp at hpos
              | cons v tl => simp)⟩
            case round =>
              obtain ⟨k, s, hk, rfl, rfl, rfl, hs0, hs1, hb, hc⟩ := hrel
              have hc1 := (bcell hb).1
              have y0 : w.heap.size < wr.heap.size := Nat.lt_of_lt_of_le z0 hb.size
              have yb : b < wr.heap.size := Nat.lt_of_lt_of_le hbl hb.size
              by_cases hlt : k + 1 < xs.length
              · have x0 := HC.out k (by omega)
                have x1 := HC.out (k + 1) hlt
                obtain ⟨y, hy⟩ : ∃ y, y = xs[k] := ⟨_, rfl⟩
                obtain ⟨z, hz⟩ : ∃ z, z = xs[k + 1] := ⟨_, rfl⟩
                rw [← hy] at x0
                rw [← hz] at x1
                have HGW := Lib.hid (HG.out.to hb)
                have HJ := Lib.hid (fun W (h : GridR W W.heap.size a g) => rLinked_c a g y z W hok h)
                have hsum := Lib.hid (show sumW g (xs.getD k 0) (xs.drop (k + 1)) = if lnk g y z = 0 then none else (sumW g z (xs.drop (k + 2))).map (lnk g y z + ·) by
                  rw [List.drop_eq_getElem_cons hlt, List.getD_eq_getElem?_getD, List.getElem?_eq_getElem (by omega : k < xs.length), ← hz, Option.getD_some, ← hy, sumW])
                have HZ := Lib.hid hz
                clear hy hz
                have i0 : (0 : Int) ≤ (k : Int) := by omega
                have i1 : (k : Int) < (xs.length : Int) := by omega
                have i2 : (0 : Int) ≤ (k : Int) + 1 := by omega
                have i3 : (k : Int) + 1 < (xs.length : Int) := by omega
                have i4 : IntKind.i64.wrap ((k : Int) + 1 - 1) = (k : Int) := by rw [IntWalk.i64_in _ (by omega)]; omega
                have i5 : ((k : Int) + 1).toNat = k + 1 := by omega
                have i6 : IntKind.i64.wrap (k : Int) = (k : Int) := IntWalk.i64_in _ (by omega)
                have i7 : wrap64 (k : Int) = (k : Int) := by rw [← IntWalk.i64_left]; exact i6
                have i8 : wrap64 ((k : Int) + 1 - 1) = (k : Int) := by rw [← IntWalk.i64_left]; exact i4
                go_wp2_with fail
                go_region_held3 (fun W => (wr).heap.size ≤ W.heap.size ∧ (∀ b o, b < (wr).heap.size → W.cell? ⟨b, o, none⟩ = (wr).cell? ⟨b, o, none⟩)) ((refine Sx.goal ?_; repeat first | (with_reducible first | assumption | exact Sx.refl _ | refine Sx.drew ?_ | refine Sx.alloc ?_ _ | refine Sx.set ?_ _ ?_) | (with_reducible apply Sx.below'; (focus (with_reducible assumption))) | omega | (focus (simp; done)) | (focus (simp; omega)))) (first | (go_at_call 113; (with_reducible refine Calls.mono (HJ.out _ (HGW.out.to (by exact zbl))) ?_); rintro e w5 ⟨rfl, hb5⟩))
                have hb5' : Below W1.heap.size W1 w5 := hb.trans ((show Below wr.heap.size wr w5 by exact zbl).mono hb.size)
                have HB5 := Lib.hid hb5'
                clear i4 i5 i6 i7 i8 x0 x1 hb5 hb5'
                by_cases hl0 : lnk g y z = 0
                · have hl1 : (lnk g y z == 0) = true := by rw [beq_iff_eq]; exact hl0
                  have HL := Lib.hid hl0
                  clear hl0
                  go_wp2_with fail
                  go_ret2
                  refine ⟨?_, HB0.out.trans (HB5.out.mono HB0.out.size)⟩
                  have h1 := hc.out
                  rw [hsum.out, if_pos HL.out] at h1
                  rw [HR2.out, h1]
                  rfl
                · have hl1 : (lnk g y z == 0) = false := by rw [beq_eq_false_iff_ne]; exact hl0
                  have hlr := lnk_rng hok hl0
                  have hl2 := hlr.2.2.1
                  have hl3 := hlr.2.2.2
                  have HL := Lib.hid hl0
                  clear hl0 hlr
                  go_wp2_with fail
                  go_roundg (xs.length - (k + 1))
                  case rel => exact ⟨k + 1, s + lnk g y z, by omega, rfl, by go_num, by go_num, by omega, by omega, HB5.out, Lib.hid (by
                    have h1 := hc.out
                    rw [hsum.out, if_neg HL.out] at h1
                    rw [h1, List.getD_eq_getElem?_getD, List.getElem?_eq_getElem hlt, Option.getD_some, ← HZ.out]
                    cases sumW g z (xs.drop (k + 1 + 1)) with
                    | none => rfl
                    | some n => simp [Int.add_assoc])⟩
                  case measure => omega
              · have hkl : k + 1 = xs.length := by omega
                have HBB := Lib.hid hb
                go_wp2_with fail
                go_ret2
                have h1 := hc.out
                rw [hkl, List.drop_length] at h1
                refine ⟨?_, HB0.out.trans (HBB.out.mono HB0.out.size)⟩
                rw [HR2.out, h1]
                simp [sumW]
end Go.Proofs.YtehnikhicnnnhaaGreatDoor

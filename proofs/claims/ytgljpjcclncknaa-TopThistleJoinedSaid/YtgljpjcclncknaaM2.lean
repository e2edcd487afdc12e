/- Phasors: the checks; what holds none. -/
import Derived.Test.YtgljpjcclncknaaM1
import Derived.Test.YtgljpjcclncknaaGs1
namespace Go.Proofs.Ytgljpjcclncknaa
open Go.RowKit

def encG (g : Ga) : List Value := [.int .i64 g.re, .int .i64 g.im]
def GaR (w : World) (B : Nat) (A : Option Addr) (l : List Ga) : Prop := Rw w B 2 A (l.map encG)
set_option maxRecDepth 100000 in
set_option maxHeartbeats 2000000 in
/-- mapped over phasors, into error numbers. -/
theorem mappedG_c (p : Ga → Int) (gf : Nat) (fs cap : Array Value) (A : Option Addr) (xs : List Ga) (c : Nat) (w : World) (hl : xs.length ≤ 1000)
    (hen : ∀ args w, (callFunc gf args).run Try.prog w = .ok (.enter gf args) w) (hr : GaR w w.heap.size A xs)
    (hcall : ∀ x ∈ xs, ∀ W, Below w.heap.size w W → Calls Try.prog gf (fs ++ #[gaV x] ++ cap) W fun e W' => e = .returned (.int .i64 (p x)) ∧ Below W.heap.size W W') :
    Calls Try.prog 61 #[.slice A xs.length c, .func (.func gf) fs cap] w fun e w' => ∃ v, e = .returned v ∧ OwnE w' w.heap.size v (xs.map p) ∧ Below w.heap.size w w' := by
  obtain ⟨i0, hi, hz0, hz1, hz2⟩ := info_parts Try.infoErr
  have HR := Lib.hid hr; clear hr
  have HC := Lib.hid hcall; clear hcall
  go_enter Try.func61, Try.ntmps61
  go_wp2_with fail
  go_loopw [5, 10] (fun v i wr => ∃ k : Nat, k ≤ xs.length ∧ i = .int .i64 k ∧ OwnE wr w.heap.size v ((xs.take k).map p) ∧ Below w.heap.size w wr) (fun _ i _ => xs.length - (intOf i).toNat)
  case atStart => exact ⟨0, Nat.zero_le _, rfl, World.ownsRow_nil _ _ _ _, Below.refl _ _⟩
  case round =>
    obtain ⟨k, hk, rfl, hown, hb⟩ := hrel
    by_cases hlt : k < xs.length
    · obtain ⟨b, off, rfl, hbl, c0, c1⟩ := (show GaR wr w.heap.size A xs from Rw.belowB (w0 := w) HR.out hb (Nat.le_refl _)).get2 (k := k) (by simpa using hlt) (by rw [List.getElem_map]; rfl)
      have hbs := hb.size
      have hbl2 : b < wr.heap.size := by omega
      have hq : ∀ W, Below wr.heap.size wr W → Calls Try.prog gf (fs ++ #[.agg #[.int .i64 xs[k].re, .int .i64 xs[k].im]] ++ cap) W fun e W' => e = .returned (.int .i64 (p xs[k])) ∧ Below W.heap.size W W' := fun W hW => HC.out xs[k] (List.getElem_mem hlt) W (hb.trans (hW.mono hbs))
      clear hbs
      have HQ := Lib.hid hq; clear hq
      obtain ⟨pl, hpl⟩ : ∃ pl, pl = (xs.take k).map p := ⟨_, rfl⟩
      rw [← hpl] at hown
      have hkl : pl.length ≤ 1000 := by rw [hpl]; simp; omega
      have HPL := Lib.hid hpl
      clear hpl
      go_wp2_with (first | (refine (HQ.out _ (by (repeat first | (with_reducible first | assumption | exact Below.refl _ _ | refine Bl.drew ?_ | refine Bl.drewN ?_ _ | refine Bl.alloc ?_ _ | refine Bl.set ?_ _ ?_) | (with_reducible apply Bl.step'; (focus (with_reducible assumption))) | omega | (focus (simp; done)) | (focus (simp; omega))))).mono ?_; rintro e w2 ⟨rfl, hb2⟩) | (at_builtin; refine wpList_append_own _ rfl _ _ 119 rfl w.heap.size 35 i0 (.int .i64 0) 1 8 Try.underlying119 hi hz0 hz1 hz2 rfl (by decide) _ _ _ rfl ((OwnE.below (hown.alloc _) hb2).alloc _) ⟨w2.heap.size, 0, none⟩ 1 1 [.int .i64 (p xs[k])] rfl rfl ?c1 ?c2 ?c3 ?c4 ?c5 ?_))
      case c1 =>
        intro j u hj
        match j, hj with
        | 0, hj => simp at hj; subst hj; simp [Addr.add]
      case c2 => intro u hu; simp at hu; subst hu; rfl
      case c3 => unfold maxLen; omega
      case c4 => omega
      case c5 => have := hb.size; have := hb2.size; simp at this ⊢; omega
      intro v' w4 hown' hgrow _
      go_wp2_with fail
      go_roundw
      case rel => exact ⟨k + 1, by omega, by go_num, by rw [List.take_succ_eq_append_getElem hlt, List.map_append, ← HPL.out]; exact OwnE.app hown', Below.grown (by (repeat first | (with_reducible first | assumption | exact Below.refl _ _ | refine Bl.drew ?_ | refine Bl.drewN ?_ _ | refine Bl.alloc ?_ _ | refine Bl.set ?_ _ ?_) | (with_reducible apply Bl.step'; (focus (with_reducible assumption))) | omega | (focus (simp; done)) | (focus (simp; omega)))) hgrow (by have := hb.size; have := hb2.size; simp at this ⊢; omega) (fun j e => (World.ownsRow.lt hown j e).1)⟩
      case measure => simp [intOf]; omega
    · have hkl : k = xs.length := by omega
      subst hkl
      rw [List.take_length] at hown
      go_wp2_with fail
      go_ret
      exact ⟨_, rfl, hown, hb⟩
set_option maxHeartbeats 2000000 in
theorem checkPhasor_c (g : Ga) (w : World) (hg : okGa g) : Calls Try.prog 48 #[gaV g] w fun e w' => e = .returned (.int .i64 0) ∧ Below w.heap.size w w' := by
  obtain ⟨r0, r1, i0, i1⟩ := hg
  have HE := Lib.hid (show firstErr [rng g.re (-1048576) 1048576, rng g.im (-1048576) 1048576] = 0 by rw [rng_ok r0 r1, rng_ok i0 i1]; rfl)
  clear r0 r1 i0 i1
  unfold gaV
  go_enter Try.func48, Try.ntmps48
  go_wp2_with fail
  go_region_held3 (fun W => (w.alloc (.cells #[.int .i64 g.re, .int .i64 g.im] 65)).heap.size ≤ W.heap.size ∧ (∀ b o, b < (w.alloc (.cells #[.int .i64 g.re, .int .i64 g.im] 65)).heap.size → W.cell? ⟨b, o, none⟩ = (w.alloc (.cells #[.int .i64 g.re, .int .i64 g.im] 65)).cell? ⟨b, o, none⟩)) ((refine Sx.goal ?_; repeat first | (with_reducible first | assumption | exact Sx.refl _ | refine Sx.drew ?_ | refine Sx.alloc ?_ _ | refine Sx.set ?_ _ ?_) | (with_reducible apply Sx.below'; (focus (with_reducible assumption))) | omega | (focus (simp; done)) | (focus (simp; omega)))) (first | (go_at_call 42; refine (gwithin_c _ _ _ _).mono ?_; rintro e w' ⟨rfl, rfl⟩) | (go_at_call 39; refine (gfirst_c _ [rng g.re (-1048576) 1048576, rng g.im (-1048576) 1048576] _ ?_ ?_).mono ?_; (focus simp); (focus simp [CellsAt]); rintro e w' ⟨rfl, rfl⟩))
  all_goals
    rename_i hHeld
    clear hHeld
    go_wp2_with fail
    go_ret
    exact ⟨ret_int HE.out, by (repeat first | (with_reducible first | assumption | exact Below.refl _ _ | refine Bl.drew ?_ | refine Bl.drewN ?_ _ | refine Bl.alloc ?_ _ | refine Bl.set ?_ _ ?_) | (with_reducible apply Bl.step'; (focus (with_reducible assumption))) | omega | (focus (simp; done)) | (focus (simp; omega)))⟩
set_option maxHeartbeats 4000000 in
theorem CheckWindow_c (wi : Win) (w : World) (ho : okWin wi) : Calls Try.prog 44 #[winV wi] w fun e w' => e = .returned (.int .i64 0) ∧ Below w.heap.size w w' := by
  obtain ⟨n0, n1, d0, d1, l0, l1, m0, m1, lm⟩ := ho
  have hgt : decide (wi.mo < wi.le) = false := decide_eq_false (by omega)
  have HE := Lib.hid (show firstErr [rng wi.nu 0 1000, rng wi.de 1 1000, rng wi.le 0 1000, rng wi.mo 0 1000, whn false 11] = 0 by rw [rng_ok n0 n1, rng_ok d0 d1, rng_ok l0 l1, rng_ok m0 m1]; rfl)
  clear n0 n1 d0 d1 l0 l1 m0 m1 lm
  unfold winV
  go_enter Try.func44, Try.ntmps44
  go_wp2_with fail
  go_region_held3 (fun W => (w.alloc (.cells #[.int .i64 wi.nu, .int .i64 wi.de, .int .i64 wi.le, .int .i64 wi.mo] 63)).heap.size ≤ W.heap.size ∧ (∀ b o, b < (w.alloc (.cells #[.int .i64 wi.nu, .int .i64 wi.de, .int .i64 wi.le, .int .i64 wi.mo] 63)).heap.size → W.cell? ⟨b, o, none⟩ = (w.alloc (.cells #[.int .i64 wi.nu, .int .i64 wi.de, .int .i64 wi.le, .int .i64 wi.mo] 63)).cell? ⟨b, o, none⟩)) ((refine Sx.goal ?_; repeat first | (with_reducible first | assumption | exact Sx.refl _ | refine Sx.drew ?_ | refine Sx.alloc ?_ _ | refine Sx.set ?_ _ ?_) | (with_reducible apply Sx.below'; (focus (with_reducible assumption))) | omega | (focus (simp; done)) | (focus (simp; omega)))) (first | (go_at_call 42; refine (gwithin_c _ _ _ _).mono ?_; rintro e w' ⟨rfl, rfl⟩) | (go_at_call 45; refine (gwhen_c false _ _).mono ?_; rintro e w' ⟨rfl, rfl⟩) | (go_at_call 39; refine (gfirst_c _ [rng wi.nu 0 1000, rng wi.de 1 1000, rng wi.le 0 1000, rng wi.mo 0 1000, whn false 11] _ ?_ ?_).mono ?_; (focus simp); (focus simp [CellsAt]); rintro e w' ⟨rfl, rfl⟩))
  all_goals
    rename_i hHeld
    clear hHeld
    go_wp2_with fail
    go_ret
    exact ⟨ret_int HE.out, by (repeat first | (with_reducible first | assumption | exact Below.refl _ _ | refine Bl.drew ?_ | refine Bl.drewN ?_ _ | refine Bl.alloc ?_ _ | refine Bl.set ?_ _ ?_) | (with_reducible apply Bl.step'; (focus (with_reducible assumption))) | omega | (focus (simp; done)) | (focus (simp; omega)))⟩
theorem Try.enters_g (args : Array Value) (w : World) : (callFunc 48 args).run Try.prog w = .ok (.enter 48 args) w := rfl
set_option maxHeartbeats 1000000 in
theorem checkPhasors_c (A : Option Addr) (c : Nat) (l : List Ga) (w : World) (hl : l.length ≤ 256) (hq : ∀ q ∈ l, okGa q) (hr : GaR w w.heap.size A l) :
    Calls Try.prog 43 #[.slice A l.length c] w fun e w' => e = .returned (.int .i64 0) ∧ Below w.heap.size w w' := by
  have HM := Lib.hid (mappedG_c (fun _ => 0) 48 #[] #[] A l c w (by omega) Try.enters_g hr fun x hx W _ => by simpa using checkPhasor_c x W (hq x hx))
  have hgt : decide ((256 : Int) < (l.length : Int)) = false := decide_eq_false (by omega)
  have HZ := Lib.hid (firstErr_zeros (l.map fun _ => (0 : Int)) (by simp))
  clear hr hq
  go_enter Try.func43, Try.ntmps43
  go_wp2_with (first | (go_at_call 61; refine HM.out.mono ?_; rintro e w1 ⟨v, rfl, ho, hb1⟩))
  rcases ho.cells with ⟨rfl, hnil⟩ | ⟨b, cc, rfl, hc⟩
  · refine (gfirst0_c w1).mono ?_
    rintro e w' ⟨rfl, rfl⟩
    go_wp2_with fail
    go_ret
    exact ⟨rfl, hb1⟩
  · go_wp2_with (first | (go_at_call 39; refine (gfirstA_c b cc _ _ ?_ hc).mono ?_; (focus simp; omega); rintro e w' ⟨rfl, rfl⟩))
    go_ret
    exact ⟨ret_int HZ.out, hb1⟩
end Go.Proofs.Ytgljpjcclncknaa
namespace Go.Proofs.Ytgljpjcclncknaa
open Go.RowKit

theorem eql_ga (w : World) (a b c d : Int) : (binOp .eql 65 (.agg #[.int .i64 a, .int .i64 b]) (.agg #[.int .i64 c, .int .i64 d])).run Try.prog w = .ok (.bool (a == c && b == d)) w := by
  rw [run_eql_struct]
  rw [show (10000 : Nat) = 9999 + 1 from rfl, Op.equalIn]
  simp [go_sem, isAgg]
  by_cases h1 : a = c <;> by_cases h2 : b = d <;> simp [h1, h2]
set_option maxHeartbeats 4000000 in
theorem InStep_c (g h : Ga) (wi : Win) (w : World) (hg : okGa g) (hh : okGa h) (hw : okWin wi) (hz : ¬(g.re = 0 ∧ g.im = 0)) : Calls Try.prog 17 #[gaV g, gaV h, winV wi] w fun e w' => e = .returned (.tuple #[.bool (stepB wi g h), .int .i64 0]) ∧ Below w.heap.size w w' := by
  have HP1 := Lib.hid (fun W => checkPhasor_c g W hg)
  have HP2 := Lib.hid (fun W => checkPhasor_c h W hh)
  have HW := Lib.hid (fun W => CheckWindow_c wi W hw)
  have HS := Lib.hid (fun W => steps_c wi g h W hw hg hh)
  have HE := Lib.hid (show firstErr [0, 0, 0, whn false 6] = 0 from rfl)
  obtain ⟨B, hB⟩ : ∃ B, B = stepB wi g h := ⟨_, rfl⟩
  rw [← hB] at HS ⊢
  unfold gaV at HP1 HP2 HS ⊢
  unfold winV at HW HS ⊢
  clear hB hg hh hw
  have he : ∀ W, (binOp .eql 65 (.agg #[.int .i64 g.re, .int .i64 g.im]) (.agg #[.int .i64 0, .int .i64 0])).run Try.prog W = .ok (.bool false) W := fun W => by
    rw [eql_ga, show (g.re == 0 && g.im == 0) = false by by_cases h1 : g.re = 0 <;> by_cases h2 : g.im = 0 <;> simp_all]
  have HZ := Lib.hid hz
  clear hz
  obtain ⟨W0, hW0⟩ : ∃ W0, W0 = ((w.alloc (.cells #[.int .i64 g.re, .int .i64 g.im] 65)).alloc (.cells #[.int .i64 h.re, .int .i64 h.im] 65)).alloc (.cells #[.int .i64 wi.nu, .int .i64 wi.de, .int .i64 wi.le, .int .i64 wi.mo] 63) := ⟨_, rfl⟩
  have hb0 : Below w.heap.size w W0 := by rw [hW0]; (repeat first | (with_reducible first | assumption | exact Below.refl _ _ | refine Bl.drew ?_ | refine Bl.drewN ?_ _ | refine Bl.alloc ?_ _ | refine Bl.set ?_ _ ?_) | (with_reducible apply Bl.step'; (focus (with_reducible assumption))) | omega | (focus (simp; done)) | (focus (simp; omega)))
  have kg : W0.heap[w.heap.size]? = some (.cells #[.int .i64 g.re, .int .i64 g.im] 65 (0, 0)) := by rw [hW0]; exact blk_alloc (blk_alloc (blk_new rfl))
  have kh : W0.heap[w.heap.size + 1]? = some (.cells #[.int .i64 h.re, .int .i64 h.im] 65 (0, 0)) := by rw [hW0]; exact blk_alloc (blk_new (by simp))
  have kw : W0.heap[w.heap.size + 1 + 1]? = some (.cells #[.int .i64 wi.nu, .int .i64 wi.de, .int .i64 wi.le, .int .i64 wi.mo] 63 (0, 0)) := by rw [hW0]; exact blk_new (by simp)
  have HB0 := Lib.hid hb0
  have HKG := Lib.hid kg
  have HKH := Lib.hid kh
  have HKW := Lib.hid kw
  go_enter Try.func17, Try.ntmps17
  go_wp2_with fail
  rw [← hW0]
  obtain ⟨a0, af0, a1, af1⟩ := cv2 kg
  obtain ⟨b0, bf0, b1, bf1⟩ := cv2 kh
  obtain ⟨c0, cf0, c1, cf1, c2, cf2, c3, cf3⟩ := cv4 kw
  have yg := blk_lt kg
  have yh := blk_lt kh
  have yw := blk_lt kw
  clear hW0 hb0 kg kh kw
  go_region_held3 (fun W => (W0).heap.size ≤ W.heap.size ∧ (∀ b o, b < (W0).heap.size → W.cell? ⟨b, o, none⟩ = (W0).cell? ⟨b, o, none⟩)) ((refine Sx.goal ?_; repeat first | (with_reducible first | assumption | exact Sx.refl _ | refine Sx.drew ?_ | refine Sx.alloc ?_ _ | refine Sx.set ?_ _ ?_) | (with_reducible apply Sx.below'; (focus (with_reducible assumption))) | omega | (focus (simp; done)) | (focus (simp; omega)))) (first | (go_at_call 48; (with_reducible refine Calls.mono (HP1.out _) ?_); rintro e w1 ⟨rfl, hb⟩; (have hb1 := hb); clear hb) | (go_at_call 48; (with_reducible refine Calls.mono (HP2.out _) ?_); rintro e w2 ⟨rfl, hb⟩; (have hb2 := hb); clear hb) | (go_at_call 44; (with_reducible refine Calls.mono (HW.out _) ?_); rintro e w3 ⟨rfl, hb⟩; (have hb3 := hb); clear hb) | (go_at_call 45; refine (gwhen_c false _ _).mono ?_; rintro e w' ⟨rfl, rfl⟩) | (go_at_call 39; refine (gfirst_c _ [0, 0, 0, whn false 6] _ ?_ ?_).mono ?_; (focus simp); (focus simp [CellsAt]); rintro e w' ⟨rfl, rfl⟩))
  all_goals
    have hx : Below W0.heap.size W0 w3 := by (repeat first | (with_reducible first | assumption | exact Below.refl _ _ | refine Bl.drew ?_ | refine Bl.drewN ?_ _ | refine Bl.alloc ?_ _ | refine Bl.set ?_ _ ?_) | (with_reducible apply Bl.step'; (focus (with_reducible assumption))) | omega | (focus (simp; done)) | (focus (simp; omega)))
    have kg3 := blk_step hx HKG.out
    have kh3 := blk_step hx HKH.out
    have kw3 := blk_step hx HKW.out
    have HX := Lib.hid (HB0.out.trans (hx.mono HB0.out.size))
    rw [HE.out]
    rename_i hHeld
    clear hHeld a0 af0 a1 af1 b0 bf0 b1 bf1 c0 cf0 c1 cf1 c2 cf2 c3 cf3 hx hb1 hb2 hb3
    obtain ⟨a0, af0, a1, af1⟩ := cv2 kg3
    obtain ⟨b0, bf0, b1, bf1⟩ := cv2 kh3
    obtain ⟨c0, cf0, c1, cf1, c2, cf2, c3, cf3⟩ := cv4 kw3
    have yg3 := blk_lt kg3
    have yh3 := blk_lt kh3
    have yw3 := blk_lt kw3
    clear kg3 kh3 kw3
    go_wp2_with fail
    refine (HS.out _).mono ?_
    rintro e w4 ⟨rfl, hb4⟩
    have hb5 : Below w3.heap.size w3 w4 := by (repeat first | (with_reducible first | assumption | exact Below.refl _ _ | refine Bl.drew ?_ | refine Bl.drewN ?_ _ | refine Bl.alloc ?_ _ | refine Bl.set ?_ _ ?_) | (with_reducible apply Bl.step'; (focus (with_reducible assumption))) | omega | (focus (simp; done)) | (focus (simp; omega)))
    have HY := Lib.hid (HX.out.trans (hb5.mono HX.out.size))
    clear hb4 hb5
    go_wp2_with fail
    go_ret2
    exact ⟨rfl, HY.out⟩
end Go.Proofs.Ytgljpjcclncknaa
namespace Go.Proofs.Ytgljpjcclncknaa
open Go.RowKit

def eqGa (v x : Ga) : Bool := v.re == x.re && v.im == x.im
set_option maxHeartbeats 1000000 in
theorem idxGa_c (v : Ga) (A : Option Addr) (l : List Ga) (c : Nat) (w : World) (hl : l.length ≤ 1000) (hr : GaR w w.heap.size A l) :
    Calls Try.prog 62 #[.slice A l.length c, gaV v] w fun e w' => e = .returned (.int .i64 (idxF (eqGa v) l)) ∧ Below w.heap.size w w' := by
  have HR := Lib.hid (show Rw w w.heap.size 2 A (l.map encG) from hr); clear hr
  unfold gaV
  go_enter Try.func62, Try.ntmps62
  go_wp2_with fail
  go_loopw [8] (fun i wr => ∃ k : Nat, k ≤ l.length ∧ i = .int .i64 k ∧ Hid (∀ x ∈ l.take k, eqGa v x = false) ∧ wr.heap[w.heap.size]? = some (.cells #[.int .i64 v.re, .int .i64 v.im] 65 (0, 0)) ∧ Below w.heap.size w wr) (fun i _ => l.length - (intOf i).toNat)
  case atStart => exact ⟨0, Nat.zero_le _, rfl, Lib.hid (by simp), blk_new rfl, by (repeat first | (with_reducible first | assumption | exact Below.refl _ _ | refine Bl.drew ?_ | refine Bl.drewN ?_ _ | refine Bl.alloc ?_ _ | refine Bl.set ?_ _ ?_) | (with_reducible apply Bl.step'; (focus (with_reducible assumption))) | omega | (focus (simp; done)) | (focus (simp; omega)))⟩
  case round =>
    obtain ⟨k, hk, rfl, hf, hv, hb⟩ := hrel
    obtain ⟨v0, vf0, v1, vf1⟩ := cv2 hv
    have hvl := blk_lt hv
    have HV := Lib.hid hv
    have HB := Lib.hid hb
    by_cases hlt : k < l.length
    · obtain ⟨b, off, rfl, hbl, c0, c1⟩ := (rw_to HR.out hb).get2 (k := k) (by simpa using hlt) (by rw [List.getElem_map]; rfl)
      have hj0 : (0 : Int) ≤ (k : Int) := by omega
      have hj1 : (k : Int) < (l.length : Int) := by omega
      have he := fun W => eql_ga W v.re v.im l[k].re l[k].im
      have heq : (v.re == l[k].re && v.im == l[k].im) = eqGa v l[k] := rfl
      rw [heq] at he
      clear heq hv hb
      cases hp : eqGa v l[k]
      · rw [hp] at he
        have HP := Lib.hid hp; clear hp
        go_wp2_with fail
        go_quiet (fail)
        go_wp2_with fail
        go_roundw
        case rel => exact ⟨k + 1, by omega, by go_num, Lib.hid (take_all hlt hf.out HP.out), HV.out, below_drewN HB.out _⟩
        case measure => simp [intOf]; omega
      · rw [hp] at he
        have HP := Lib.hid hp; clear hp
        go_wp2_with fail
        go_quiet (fail)
        go_wp2_with fail
        go_ret
        exact ⟨ret_int (idxF_at _ l k hlt hf.out HP.out).symm, below_drewN HB.out _⟩
    · clear hv hb
      go_wp2_with fail
      go_ret
      have := hf.out
      rw [List.take_of_length_le (by omega)] at this
      exact ⟨ret_int (idxF_none _ l this).symm, HB.out⟩
set_option maxHeartbeats 400000 in
theorem hasGa_c (v : Ga) (A : Option Addr) (l : List Ga) (c : Nat) (w : World) (hl : l.length ≤ 1000) (hr : GaR w w.heap.size A l) :
    Calls Try.prog 46 #[.slice A l.length c, gaV v] w fun e w' => e = .returned (.bool (l.any (eqGa v))) ∧ Below w.heap.size w w' := by
  have HR := Lib.hid (show Rw w w.heap.size 2 A (l.map encG) from hr)
  have HI := Lib.hid (fun W h => idxGa_c v A l c W hl h)
  clear hr
  unfold gaV at HI ⊢
  go_enter Try.func46, Try.ntmps46
  go_wp2_with fail
  refine (HI.out _ (rw_to HR.out (by (repeat first | (with_reducible first | assumption | exact Below.refl _ _ | refine Bl.drew ?_ | refine Bl.drewN ?_ _ | refine Bl.alloc ?_ _ | refine Bl.set ?_ _ ?_) | (with_reducible apply Bl.step'; (focus (with_reducible assumption))) | omega | (focus (simp; done)) | (focus (simp; omega)))))).mono ?_
  rintro e w1 ⟨rfl, hb1⟩
  have HB := Lib.hid (show Below w.heap.size w w1 by (repeat first | (with_reducible first | assumption | exact Below.refl _ _ | refine Bl.drew ?_ | refine Bl.drewN ?_ _ | refine Bl.alloc ?_ _ | refine Bl.set ?_ _ ?_) | (with_reducible apply Bl.step'; (focus (with_reducible assumption))) | omega | (focus (simp; done)) | (focus (simp; omega))))
  clear hb1
  go_wp2_with fail
  go_ret
  exact ⟨ret_bool (idxF_any _ l), HB.out⟩
end Go.Proofs.Ytgljpjcclncknaa
namespace Go.Proofs.Ytgljpjcclncknaa
open Go.RowKit

/-- For how long the generator was in step before k. -/
def heldK (st : Nat → Bool) : Nat → Int
  | 0 => 0
  | k + 1 => if st k then heldK st k + 1 else 0
theorem heldK_bd (st : Nat → Bool) : ∀ k, 0 ≤ heldK st k ∧ heldK st k ≤ k
  | 0 => by simp [heldK]
  | k + 1 => by
    have := heldK_bd st k
    unfold heldK
    split <;> omega
/-- Where it may be joined. -/
def JoinP (st : Nat → Bool) (hold : Int) (n : Nat) (a r : Int) : Prop :=
  (r = 0 ∧ ∃ i : Nat, a = i ∧ i < n ∧ heldK st (i + 1) = hold ∧ ∀ j ≤ i, heldK st j ≠ hold) ∨ (r = 7 ∧ a = 0 ∧ ∀ j ≤ n, heldK st j ≠ hold)
def stepK (wi : Win) (gs hs : List Ga) (k : Nat) : Bool := stepB wi (gs.getD k ⟨0, 0⟩) (hs.getD k ⟨0, 0⟩)
def RetJn (wi : Win) (gs hs : List Ga) (hold : Int) (w : World) (e : Ending) (w' : World) : Prop :=
  ∃ a r : Int, e = .returned (.tuple #[.int .i64 a, .int .i64 r]) ∧ JoinP (stepK wi gs hs) hold gs.length a r ∧ Below w.heap.size w w'
theorem getGa {l : List Ga} {k : Nat} (h : k < l.length) : l.getD k ⟨0, 0⟩ = l[k] := by
  rw [List.getD_eq_getElem?_getD, List.getElem?_eq_getElem h]; rfl
set_option maxRecDepth 100000 in
set_option maxHeartbeats 8000000 in
theorem Joined_c (A C : Option Addr) (c c2 : Nat) (gs hs : List Ga) (wi : Win) (hold : Int) (w : World) (hl : gs.length ≤ 256) (hlh : hs.length = gs.length) (hgo : ∀ x ∈ gs, okGa x) (hho : ∀ x ∈ hs, okGa x) (hgz : ∀ x ∈ gs, ¬(x.re = 0 ∧ x.im = 0)) (hw : okWin wi) (ho0 : 1 ≤ hold) (ho1 : hold ≤ 64)
    (hr : GaR w w.heap.size A gs) (hr2 : GaR w w.heap.size C hs) :
    Calls Try.prog 16 #[.slice A gs.length c, .slice C gs.length c2, winV wi, .int .i64 hold] w (RetJn wi gs hs hold w) := by
  have HP1 := Lib.hid (fun (W : World) (h : Rw W W.heap.size 2 A (gs.map encG)) => checkPhasors_c A c gs W hl hgo h)
  have hl2 : hs.length ≤ 256 := by omega
  have HP2 := Lib.hid (fun (W : World) (h : Rw W W.heap.size 2 C (hs.map encG)) => hlh ▸ checkPhasors_c C c2 hs W hl2 hho h)
  have HW := Lib.hid (fun W => CheckWindow_c wi W hw)
  have HE := Lib.hid (show firstErr [0, 0, 0, rng hold 1 64] = 0 by rw [show rng hold 1 64 = 0 from rng_ok ho0 ho1]; rfl)
  have HE2 := Lib.hid (show firstErr [whn false 2, whn false 6] = 0 from rfl)
  have hany : gs.any (eqGa ⟨0, 0⟩) = false := by
    rw [List.any_eq_false]
    intro x hx
    have h1 := hgz x hx
    unfold eqGa
    by_cases e1 : x.re = 0 <;> by_cases e2 : x.im = 0 <;> (simp only [Bool.and_eq_true, beq_iff_eq, not_and]; omega)
  have HC := Lib.hid (fun (W : World) (h : Rw W W.heap.size 2 A (gs.map encG)) => hany ▸ hasGa_c ⟨0, 0⟩ A gs c W (by omega) h)
  have HR1 := Lib.hid (show Rw w w.heap.size 2 A (gs.map encG) from hr)
  have HR2 := Lib.hid (show Rw w w.heap.size 2 C (hs.map encG) from hr2)
  have HS := Lib.hid (fun (k : Nat) (hk : k < gs.length) (hk2 : k < hs.length) (W : World) => steps_c wi gs[k] hs[k] W hw (hgo _ (List.getElem_mem hk)) (hho _ (List.getElem_mem hk2)))
  have HLH := Lib.hid hlh
  unfold gaV at HC HS
  unfold winV at HW HS ⊢
  obtain ⟨W0, hW0⟩ : ∃ W0, W0 = w.alloc (.cells #[.int .i64 wi.nu, .int .i64 wi.de, .int .i64 wi.le, .int .i64 wi.mo] 63) := ⟨_, rfl⟩
  have hb0 : Below w.heap.size w W0 := by rw [hW0]; (repeat first | (with_reducible first | assumption | exact Below.refl _ _ | refine Bl.drew ?_ | refine Bl.drewN ?_ _ | refine Bl.alloc ?_ _ | refine Bl.set ?_ _ ?_) | (with_reducible apply Bl.step'; (focus (with_reducible assumption))) | omega | (focus (simp; done)) | (focus (simp; omega)))
  have kw : W0.heap[w.heap.size]? = some (.cells #[.int .i64 wi.nu, .int .i64 wi.de, .int .i64 wi.le, .int .i64 wi.mo] 63 (0, 0)) := by rw [hW0]; exact blk_new rfl
  have HB0 := Lib.hid hb0
  have HKW := Lib.hid kw
  have HQ1 := Lib.hid (rw_to HR1.out hb0)
  have HQ2 := Lib.hid (rw_to HR2.out hb0)
  clear hgo hho hgz hw hany hr hr2 hlh hl2
  go_enter Try.func16, Try.ntmps16
  go_wp2_with fail
  rw [← hW0]
  obtain ⟨c0, cf0, c1, cf1, c2', cf2, c3, cf3⟩ := cv4 kw
  have yw := blk_lt kw
  clear hW0 hb0 kw
  go_region_held3 (fun W => (W0).heap.size ≤ W.heap.size ∧ (∀ b o, b < (W0).heap.size → W.cell? ⟨b, o, none⟩ = (W0).cell? ⟨b, o, none⟩)) ((refine Sx.goal ?_; repeat first | (with_reducible first | assumption | exact Sx.refl _ | refine Sx.drew ?_ | refine Sx.alloc ?_ _ | refine Sx.set ?_ _ ?_) | (with_reducible apply Sx.below'; (focus (with_reducible assumption))) | omega | (focus (simp; done)) | (focus (simp; omega)))) (first | (go_at_call 43; (with_reducible refine Calls.mono (HP1.out _ (rw_to HQ1.out (by (repeat first | (with_reducible first | assumption | exact Below.refl _ _ | refine Bl.drew ?_ | refine Bl.drewN ?_ _ | refine Bl.alloc ?_ _ | refine Bl.set ?_ _ ?_) | (with_reducible apply Bl.step'; (focus (with_reducible assumption))) | omega | (focus (simp; done)) | (focus (simp; omega)))))) ?_); rintro e w1 ⟨rfl, hb⟩; (have hb1 := hb); clear hb) | (go_at_call 43; (with_reducible refine Calls.mono (HP2.out _ (rw_to HQ2.out (by (repeat first | (with_reducible first | assumption | exact Below.refl _ _ | refine Bl.drew ?_ | refine Bl.drewN ?_ _ | refine Bl.alloc ?_ _ | refine Bl.set ?_ _ ?_) | (with_reducible apply Bl.step'; (focus (with_reducible assumption))) | omega | (focus (simp; done)) | (focus (simp; omega)))))) ?_); rintro e w2 ⟨rfl, hb⟩; (have hb2 := hb); clear hb) | (go_at_call 44; (with_reducible refine Calls.mono (HW.out _) ?_); rintro e w3 ⟨rfl, hb⟩; (have hb3 := hb); clear hb) | (go_at_call 42; refine (gwithin_c _ _ _ _).mono ?_; rintro e w' ⟨rfl, rfl⟩) | (go_at_call 39; refine (gfirst_c _ [0, 0, 0, rng hold 1 64] _ ?_ ?_).mono ?_; (focus simp); (focus simp [CellsAt]); rintro e w' ⟨rfl, rfl⟩))
  all_goals
    have hx : Below W0.heap.size W0 w3 := by (repeat first | (with_reducible first | assumption | exact Below.refl _ _ | refine Bl.drew ?_ | refine Bl.drewN ?_ _ | refine Bl.alloc ?_ _ | refine Bl.set ?_ _ ?_) | (with_reducible apply Bl.step'; (focus (with_reducible assumption))) | omega | (focus (simp; done)) | (focus (simp; omega)))
    have HX := Lib.hid hx
    rw [HE.out]
    rename_i hHeld
    clear hHeld c0 cf0 c1 cf1 c2' cf2 c3 cf3 hx hb1 hb2 hb3
    go_wp2_with (first | (go_at_call 45; refine (gwhen_c false _ _).mono ?_; rintro e w' ⟨rfl, rfl⟩))
    have HQ3 := Lib.hid (rw_to HQ1.out HX.out)
    have HQ4 := Lib.hid (rw_to HQ2.out HX.out)
    refine (HC.out _ (rw_to HQ3.out (by (repeat first | (with_reducible first | assumption | exact Below.refl _ _ | refine Bl.drew ?_ | refine Bl.drewN ?_ _ | refine Bl.alloc ?_ _ | refine Bl.set ?_ _ ?_) | (with_reducible apply Bl.step'; (focus (with_reducible assumption))) | omega | (focus (simp; done)) | (focus (simp; omega)))))).mono ?_
    rintro e w4 ⟨rfl, hb4⟩
    have hx4 : Below w3.heap.size w3 w4 := by (repeat first | (with_reducible first | assumption | exact Below.refl _ _ | refine Bl.drew ?_ | refine Bl.drewN ?_ _ | refine Bl.alloc ?_ _ | refine Bl.set ?_ _ ?_) | (with_reducible apply Bl.step'; (focus (with_reducible assumption))) | omega | (focus (simp; done)) | (focus (simp; omega)))
    have HX4 := Lib.hid (HX.out.trans (hx4.mono HX.out.size))
    clear hb4 hx4
    go_wp2_with (first | (go_at_call 45; refine (gwhen_c false _ _).mono ?_; rintro e w' ⟨rfl, rfl⟩) | (go_at_call 39; refine (gfirst_c _ [whn false 2, whn false 6] _ ?_ ?_).mono ?_; (focus simp); (focus simp [CellsAt]); rintro e w' ⟨rfl, rfl⟩; rw [HE2.out]))
    go_loopw [12, 45] (fun v i wr => ∃ k : Nat, k ≤ gs.length ∧ i = .int .i64 k ∧ v = .int .i64 (heldK (stepK wi gs hs) k) ∧ Hid (∀ j ≤ k, heldK (stepK wi gs hs) j ≠ hold) ∧ wr.heap[w.heap.size]? = some (.cells #[.int .i64 wi.nu, .int .i64 wi.de, .int .i64 wi.le, .int .i64 wi.mo] 63 (0, 0)) ∧ Below W0.heap.size W0 wr) (fun _ i _ => gs.length - (intOf i).toNat)
    case atStart =>
      have hx5 : Below w4.heap.size w4 (w4.alloc (.cells #[.int .i64 (whn false 2), .int .i64 (whn false 6)] 35)) := (Below.refl _ _).alloc (Nat.le_refl _) _
      have hx6 := HX4.out.trans (hx5.mono HX4.out.size)
      have hz : ∀ j ≤ 0, heldK (stepK wi gs hs) j ≠ hold := fun j hj => by
        have e : j = 0 := Nat.le_zero.1 hj
        rw [e]
        show (0 : Int) ≠ hold
        omega
      exact ⟨0, Nat.zero_le _, rfl, rfl, Lib.hid hz, blk_step hx6 HKW.out, hx6⟩
    case round =>
      obtain ⟨k, hk, rfl, rfl, hne, hkw, hb⟩ := hrel
      have HB := Lib.hid hb
      have HK := Lib.hid hkw
      by_cases hlt : k < gs.length
      · have hlt2 : k < hs.length := by rw [HLH.out]; exact hlt
        obtain ⟨b, off, hA, hbl, g0, g1⟩ := (rw_to HQ1.out hb).get2 (k := k) (by simpa using hlt) (by rw [List.getElem_map]; rfl)
        obtain ⟨b2, off2, hC, hbl2, d0, d1⟩ := (rw_to HQ2.out hb).get2 (k := k) (by simpa using hlt2) (by rw [List.getElem_map]; rfl)
        have HSK := Lib.hid (fun W => HS.out k hlt hlt2 W)
        obtain ⟨B, hB⟩ : ∃ B, B = stepB wi gs[k] hs[k] := ⟨_, rfl⟩
        have hst : stepK wi gs hs k = B := by unfold stepK; rw [getGa hlt, getGa hlt2, hB]
        rw [← hB] at HSK
        obtain ⟨g, hg⟩ : ∃ g, g = gs[k] := ⟨_, rfl⟩
        obtain ⟨d, hd⟩ : ∃ d, d = hs[k] := ⟨_, rfl⟩
        rw [← hg] at HSK g0 g1
        rw [← hd] at HSK d0 d1
        obtain ⟨hk0, hk1⟩ := heldK_bd (stepK wi gs hs) k
        have hnx : heldK (stepK wi gs hs) (k + 1) = if B then heldK (stepK wi gs hs) k + 1 else 0 := by rw [heldK, hst]
        obtain ⟨H, hH⟩ : ∃ H, H = heldK (stepK wi gs hs) k := ⟨_, rfl⟩
        rw [← hH] at hk0 hk1 hnx ⊢
        have HNX := Lib.hid hnx
        have hj0 : (0 : Int) ≤ (k : Int) := by omega
        have hj1 : (k : Int) < (gs.length : Int) := by omega
        have hjw : IntKind.i64.wrap (k : Int) = (k : Int) := IntWalk.i64_in _ (by omega)
        have HNE := Lib.hid hne
        clear hB hst hg hd hnx hH hb hne
        rw [hA, hC]
        go_upto_region 12 with fail
        obtain ⟨X, hX⟩ : ∃ X, X = wr.alloc (.cells #[.int .i64 g.re, .int .i64 g.im] 65) := ⟨_, rfl⟩
        have hbX : Below wr.heap.size wr X := by rw [hX]; (repeat first | (with_reducible first | assumption | exact Below.refl _ _ | refine Bl.drew ?_ | refine Bl.drewN ?_ _ | refine Bl.alloc ?_ _ | refine Bl.set ?_ _ ?_) | (with_reducible apply Bl.step'; (focus (with_reducible assumption))) | omega | (focus (simp; done)) | (focus (simp; omega)))
        have kgX : X.heap[wr.heap.size]? = some (.cells #[.int .i64 g.re, .int .i64 g.im] 65 (0, 0)) := by rw [hX]; exact blk_new rfl
        have kwX := blk_step hbX HK.out
        have hd0 : X.cell? ⟨b2, off2 + k * 2, none⟩ = some (.int .i64 d.re) := (hbX.cell (p := ⟨b2, off2 + k * 2, none⟩) hbl2).trans d0
        have hd1 : X.cell? ⟨b2, off2 + k * 2 + 1, none⟩ = some (.int .i64 d.im) := (hbX.cell (p := ⟨b2, off2 + k * 2 + 1, none⟩) hbl2).trans d1
        have hblX : b2 < X.heap.size := Nat.lt_of_lt_of_le hbl2 hbX.size
        obtain ⟨x0, xf0, x1, xf1⟩ := cv2 kgX
        obtain ⟨y0, yf0, y1, yf1, y2, yf2, y3, yf3⟩ := cv4 kwX
        have ygX := blk_lt kgX
        have ywX := blk_lt kwX
        rw [← hX]
        have HXX := Lib.hid (HB.out.trans (hbX.mono HB.out.size))
        have HKX := Lib.hid kwX
        clear hX hbX kgX kwX g0 g1 d0 d1 hbl hbl2
        go_region_held3 (fun W => (X).heap.size ≤ W.heap.size ∧ (∀ b o, b < (X).heap.size → W.cell? ⟨b, o, none⟩ = (X).cell? ⟨b, o, none⟩)) ((refine Sx.goal ?_; repeat first | (with_reducible first | assumption | exact Sx.refl _ | refine Sx.drew ?_ | refine Sx.alloc ?_ _ | refine Sx.set ?_ _ ?_) | (with_reducible apply Sx.below'; (focus (with_reducible assumption))) | omega | (focus (simp; done)) | (focus (simp; omega)))) (first | (go_at_call 47; (with_reducible refine Calls.mono (HSK.out _) ?_); rintro e w5 ⟨rfl, hb⟩; (have hb5 := hb); clear hb))
        all_goals
          have hx5 : Below X.heap.size X w5 := by (repeat first | (with_reducible first | assumption | exact Below.refl _ _ | refine Bl.drew ?_ | refine Bl.drewN ?_ _ | refine Bl.alloc ?_ _ | refine Bl.set ?_ _ ?_) | (with_reducible apply Bl.step'; (focus (with_reducible assumption))) | omega | (focus (simp; done)) | (focus (simp; omega)))
          have HX5 := Lib.hid (HXX.out.trans (hx5.mono HXX.out.size))
          have HK5 := Lib.hid (blk_step hx5 HKX.out)
          rename_i hHeld
          clear hHeld hb5 hx5 x0 xf0 x1 xf1 y0 yf0 y1 yf1 y2 yf2 y3 yf3 hd0 hd1
          cases B
          · have hho : ((0 : Int) == hold) = false := by rw [beq_eq_false_iff_ne]; omega
            go_wp2_with fail
            go_roundw
            case rel => exact ⟨k + 1, hlt, by go_num, by rw [HNX.out]; rfl, Lib.hid (fun j hj => by
                rcases Nat.lt_or_ge k j with h | h
                · obtain rfl : j = k + 1 := by omega
                  rw [HNX.out]; show (0 : Int) ≠ hold; omega
                · exact HNE.out j h), HK5.out, HX5.out⟩
            case measure => simp [intOf]; omega
          · by_cases hjo : H + 1 = hold
            · have hho : (H + 1 == hold) = true := by rw [beq_iff_eq]; exact hjo
              have HJO := Lib.hid hjo
              clear hjo
              go_wp2_with fail
              go_ret2
              exact ⟨k, 0, rfl, .inl ⟨rfl, k, rfl, hlt, by rw [HNX.out]; exact HJO.out, HNE.out⟩, HB0.out.trans (HX5.out.mono HB0.out.size)⟩
            · have hho : (H + 1 == hold) = false := by rw [beq_eq_false_iff_ne]; exact hjo
              have HJO := Lib.hid hjo
              clear hjo
              go_wp2_with fail
              go_roundw
              case rel => exact ⟨k + 1, hlt, by go_num, by rw [HNX.out]; rfl, Lib.hid (fun j hj => by
                  rcases Nat.lt_or_ge k j with h | h
                  · obtain rfl : j = k + 1 := by omega
                    rw [HNX.out]; exact HJO.out
                  · exact HNE.out j h), HK5.out, HX5.out⟩
              case measure => simp [intOf]; omega
      · obtain rfl : k = gs.length := by omega
        have HNE := Lib.hid hne
        clear hne hb hkw
        go_wp2_with fail
        go_ret2
        exact ⟨0, 7, rfl, .inr ⟨rfl, rfl, HNE.out⟩, HB0.out.trans (HB.out.mono HB0.out.size)⟩
end Go.Proofs.Ytgljpjcclncknaa

/- Quarter hours: the checks of program and reference. -/
import Derived.Test.YtgljpjcclncknaaGr1
import Derived.Test.YtgljpjcclncknaaTr2
namespace Go.Proofs.Ytgljpjcclncknaa
open Go.RowKit

def encQ (q : Qt) : List Value := [.int .i64 q.p, .int .i64 q.h]
theorem IntsR.get {w : World} {B : Nat} {A : Option Addr} {l : List Int} (h : IntsR w B A l) {k : Nat} (hk : k < l.length) : ∃ b off, A = some ⟨b, off, none⟩ ∧ b < B ∧ w.cell? ⟨b, off + k, none⟩ = some (.int .i64 l[k]) :=
  Rw.get1 h (k := k) (by simpa using hk) (by rw [List.getElem_map])
def QtR (w : World) (B : Nat) (A : Option Addr) (l : List Qt) : Prop := Rw w B 2 A (l.map encQ)
theorem Try.infoErr : (Try.prog.info? 35).map (fun i => (i.zero, i.size, i.bytes)) = some (some (.int .i64 0), 1, 8) := by kernel_rfl
/-- v is a slice of error numbers that this call made. -/
def OwnE (w : World) (base : Nat) (v : Value) (xs : List Int) : Prop := w.ownsRow base 35 1 v xs.length (xs.map (Value.int .i64))
theorem OwnE.below {w w' : World} {base : Nat} {v : Value} {xs : List Int} (h : OwnE w base v xs) (hb : Below w.heap.size w w') : OwnE w' base v xs :=
  World.ownsRow.kept h (row := none) (grown_of hb) (by cases v.ownBlock <;> simp)
theorem OwnE.alloc {w : World} {base : Nat} {v : Value} {xs : List Int} (h : OwnE w base v xs) (o : Obj) : OwnE (w.alloc o) base v xs := World.ownsRow.alloc h o
theorem OwnE.app {w : World} {base : Nat} {v : Value} {xs : List Int} {k : Int} (h : w.ownsRow base 35 1 v (xs.length + 1) (xs.map (Value.int .i64) ++ [.int .i64 k])) : OwnE w base v (xs ++ [k]) := by
  unfold OwnE; simpa using h
theorem OwnE.cells {w : World} {base : Nat} {v : Value} {xs : List Int} (h : OwnE w base v xs) : (v = .slice none 0 0 ∧ xs = []) ∨ ∃ b c, v = .slice (some ⟨b, 0, none⟩) xs.length c ∧ CellsAt w b 0 xs := by
  obtain ⟨_, h2⟩ := h
  rcases h2 with ⟨h3, h4⟩ | ⟨g, cap, cur, e1, _, hg, hc, _, hz, ht⟩
  · exact .inl ⟨h3, List.length_eq_zero_iff.1 h4⟩
  · refine .inr ⟨g, cap, e1, ?_⟩
    have key : ∀ (l : List Int) (k : Nat), (∀ j x, l[j]? = some x → cur[k + j]? = some (.int .i64 x)) → CellsAt w g k l := by
      intro l
      induction l with
      | nil => intro k _; trivial
      | cons a l ih =>
        intro k hk
        refine ⟨?_, ih (k + 1) fun j x hj => by rw [show k + 1 + j = k + (j + 1) by omega]; exact hk (j + 1) x (by simpa using hj)⟩
        unfold World.cell?
        simp only [hg]
        simpa using hk 0 a rfl
    refine key xs 0 fun j x hj => ?_
    have hj' := (List.getElem?_eq_some_iff.1 hj).1
    have h6 : (cur.toList.take (xs.length * 1))[j]? = (xs.map (Value.int .i64))[j]? := by rw [ht]
    rw [List.getElem?_take_of_lt (by omega), List.getElem?_map, hj] at h6
    simpa using h6
set_option maxHeartbeats 400000 in
theorem gfirstA_c (b c : Nat) (xs : List Int) (w : World) (hx : xs.length ≤ 1000) (hb : CellsAt w b 0 xs) :
    Calls Try.prog 39 #[.slice (some ⟨b, 0, none⟩) xs.length c] w fun e w' => e = .returned (.int .i64 (firstErr xs)) ∧ w = w' := by
  have hcell : ∀ k (h : k < xs.length), w.cell? ⟨b, k, none⟩ = some (.int .i64 xs[k]) := by
    intro k h
    simpa using hb.get k h
  have HB := Lib.hid hb; clear hb
  have HC := Lib.hid hcell; clear hcell
  go_enter Try.func39, Try.ntmps39
  go_wp2
  go_loop [7] (fun i => ∃ k : Nat, k ≤ xs.length ∧ i = .int .i64 k ∧ Hid (firstErr (xs.take k) = 0)) (fun i => xs.length - (intOf i).toNat)
  case atStart => exact ⟨0, Nat.zero_le _, rfl, Lib.hid (by simp [firstErr])⟩
  case round =>
    obtain ⟨k, hk, rfl, hf⟩ := hrel
    by_cases hlt : k < xs.length
    · have hc := HC.out k hlt
      by_cases hz : xs[k] = 0
      · have hz' : (xs[k] != 0) = false := by simp [hz]
        go_wp2
        go_round
        case rel => exact ⟨k + 1, by omega, by go_num, Lib.hid ((firstErr_take_succ xs k hlt hf.out).trans hz)⟩
        case measure => simp [intOf]; omega
      · have hz' : (xs[k] != 0) = true := by simp [hz]
        have HF := Lib.hid (firstErr_at xs k hlt hf.out hz)
        clear hz
        go_wp2
        go_ret
        exact ⟨ret_int HF.out.symm, rfl⟩
    · go_wp2
      go_ret
      have := hf.out
      rw [List.take_of_length_le (by omega)] at this
      exact ⟨ret_int this.symm, rfl⟩
set_option maxRecDepth 100000 in
set_option maxHeartbeats 2000000 in
/-- mapped over a list of ints, into error numbers. -/
theorem mappedQ_c (p : Qt → Int) (gf : Nat) (fs cap : Array Value) (A : Option Addr) (xs : List Qt) (c : Nat) (w : World) (hl : xs.length ≤ 1000)
    (hen : ∀ args w, (callFunc gf args).run Try.prog w = .ok (.enter gf args) w) (hr : QtR w w.heap.size A xs)
    (hcall : ∀ x ∈ xs, ∀ W, Below w.heap.size w W → Calls Try.prog gf (fs ++ #[qtV x] ++ cap) W fun e W' => e = .returned (.int .i64 (p x)) ∧ Below W.heap.size W W') :
    Calls Try.prog 57 #[.slice A xs.length c, .func (.func gf) fs cap] w fun e w' => ∃ v, e = .returned v ∧ OwnE w' w.heap.size v (xs.map p) ∧ Below w.heap.size w w' := by
  obtain ⟨i0, hi, hz0, hz1, hz2⟩ := info_parts Try.infoErr
  have HR := Lib.hid hr; clear hr
  have HC := Lib.hid hcall; clear hcall
  go_enter Try.func57, Try.ntmps57
  go_wp2_with fail
  go_loopw [5, 10] (fun v i wr => ∃ k : Nat, k ≤ xs.length ∧ i = .int .i64 k ∧ OwnE wr w.heap.size v ((xs.take k).map p) ∧ Below w.heap.size w wr) (fun _ i _ => xs.length - (intOf i).toNat)
  case atStart => exact ⟨0, Nat.zero_le _, rfl, World.ownsRow_nil _ _ _ _, Below.refl _ _⟩
  case round =>
    obtain ⟨k, hk, rfl, hown, hb⟩ := hrel
    by_cases hlt : k < xs.length
    · obtain ⟨b, off, rfl, hbl, c0, c1⟩ := (show QtR wr w.heap.size A xs from Rw.belowB (w0 := w) HR.out hb (Nat.le_refl _)).get2 (k := k) (by simpa using hlt) (by rw [List.getElem_map]; rfl)
      have hbs := hb.size
      have hbl2 : b < wr.heap.size := by omega
      have hq : ∀ W, Below wr.heap.size wr W → Calls Try.prog gf (fs ++ #[.agg #[.int .i64 xs[k].p, .int .i64 xs[k].h]] ++ cap) W fun e W' => e = .returned (.int .i64 (p xs[k])) ∧ Below W.heap.size W W' := fun W hW => HC.out xs[k] (List.getElem_mem hlt) W (hb.trans (hW.mono hbs))
      clear hbs
      have HQ := Lib.hid hq; clear hq
      obtain ⟨pl, hpl⟩ : ∃ pl, pl = (xs.take k).map p := ⟨_, rfl⟩
      rw [← hpl] at hown
      have hkl : pl.length ≤ 1000 := by rw [hpl]; simp; omega
      have HPL := Lib.hid hpl
      clear hpl
      go_wp2_with (first | (refine (HQ.out _ (by (repeat first | (with_reducible first | assumption | exact Below.refl _ _ | refine Bl.drew ?_ | refine Bl.drewN ?_ _ | refine Bl.alloc ?_ _ | refine Bl.set ?_ _ ?_) | (with_reducible apply Bl.step'; (focus (with_reducible assumption))) | omega | (focus (simp; done)) | (focus (simp; omega))))).mono ?_; rintro e w2 ⟨rfl, hb2⟩) | (at_builtin; refine wpList_append_own _ rfl _ _ 119 rfl w.heap.size 35 i0 (.int .i64 0) 1 8 Try.underlying119 hi hz0 hz1 hz2 rfl (by decide) _ _ _ rfl ((OwnE.below (hown.alloc _) hb2).alloc _) ⟨w2.heap.size, 0, none⟩ 1 1 [.int .i64 (p xs[k])] rfl rfl ?c1 ?c2 ?c3 ?c4 ?c5 ?_))
      case c1 =>
        intro j u hj
        match j, hj with
        | 0, hj => simp at hj; subst hj; simp [Addr.add]
      case c2 => intro u hu; simp at hu; subst hu; rfl
      case c3 => unfold maxLen; omega
      case c4 => omega
      case c5 => have := hb.size; have := hb2.size; simp at this ⊢; omega
      intro v' w4 hown' hgrow _
      go_wp2_with fail
      go_roundw
      case rel => exact ⟨k + 1, by omega, by go_num, by rw [List.take_succ_eq_append_getElem hlt, List.map_append, ← HPL.out]; exact OwnE.app hown', Below.grown (by (repeat first | (with_reducible first | assumption | exact Below.refl _ _ | refine Bl.drew ?_ | refine Bl.drewN ?_ _ | refine Bl.alloc ?_ _ | refine Bl.set ?_ _ ?_) | (with_reducible apply Bl.step'; (focus (with_reducible assumption))) | omega | (focus (simp; done)) | (focus (simp; omega)))) hgrow (by have := hb.size; have := hb2.size; simp at this ⊢; omega) (fun j e => (World.ownsRow.lt hown j e).1)⟩
      case measure => simp [intOf]; omega
    · have hkl : k = xs.length := by omega
      subst hkl
      rw [List.take_length] at hown
      go_wp2_with fail
      go_ret
      exact ⟨_, rfl, hown, hb⟩
set_option maxRecDepth 100000 in
set_option maxHeartbeats 2000000 in
/-- mapped over a list of ints, into error numbers. -/
theorem mappedN_c (p : Int → Int) (gf : Nat) (fs cap : Array Value) (A : Option Addr) (xs : List Int) (c : Nat) (w : World) (hl : xs.length ≤ 1000)
    (hen : ∀ args w, (callFunc gf args).run Try.prog w = .ok (.enter gf args) w) (hr : IntsR w w.heap.size A xs)
    (hcall : ∀ x ∈ xs, ∀ W, Below w.heap.size w W → Calls Try.prog gf (fs ++ #[.int .i64 x] ++ cap) W fun e W' => e = .returned (.int .i64 (p x)) ∧ Below W.heap.size W W') :
    Calls Try.prog 59 #[.slice A xs.length c, .func (.func gf) fs cap] w fun e w' => ∃ v, e = .returned v ∧ OwnE w' w.heap.size v (xs.map p) ∧ Below w.heap.size w w' := by
  obtain ⟨i0, hi, hz0, hz1, hz2⟩ := info_parts Try.infoErr
  have HR := Lib.hid hr; clear hr
  have HC := Lib.hid hcall; clear hcall
  go_enter Try.func59, Try.ntmps59
  go_wp2_with fail
  go_loopw [5, 10] (fun v i wr => ∃ k : Nat, k ≤ xs.length ∧ i = .int .i64 k ∧ OwnE wr w.heap.size v ((xs.take k).map p) ∧ Below w.heap.size w wr) (fun _ i _ => xs.length - (intOf i).toNat)
  case atStart => exact ⟨0, Nat.zero_le _, rfl, World.ownsRow_nil _ _ _ _, Below.refl _ _⟩
  case round =>
    obtain ⟨k, hk, rfl, hown, hb⟩ := hrel
    by_cases hlt : k < xs.length
    · have hq := HC.out xs[k] (List.getElem_mem hlt) wr hb
      obtain ⟨b, off, rfl, _, c0⟩ := IntsR.get (show IntsR wr w.heap.size A xs from Rw.belowB (w0 := w) HR.out hb (Nat.le_refl _)) hlt
      have HQ := Lib.hid hq; clear hq
      obtain ⟨pl, hpl⟩ : ∃ pl, pl = (xs.take k).map p := ⟨_, rfl⟩
      rw [← hpl] at hown
      have hkl : pl.length ≤ 1000 := by rw [hpl]; simp; omega
      have HPL := Lib.hid hpl
      clear hpl
      go_wp2_with (first | (refine HQ.out.mono ?_; rintro e w2 ⟨rfl, hb2⟩) | (at_builtin; refine wpList_append_own _ rfl _ _ 119 rfl w.heap.size 35 i0 (.int .i64 0) 1 8 Try.underlying119 hi hz0 hz1 hz2 rfl (by decide) _ _ _ rfl ((OwnE.below hown hb2).alloc _) ⟨w2.heap.size, 0, none⟩ 1 1 [.int .i64 (p xs[k])] rfl rfl ?c1 ?c2 ?c3 ?c4 ?c5 ?_))
      case c1 =>
        intro j u hj
        match j, hj with
        | 0, hj => simp at hj; subst hj; simp [Addr.add]
      case c2 => intro u hu; simp at hu; subst hu; rfl
      case c3 => unfold maxLen; omega
      case c4 => omega
      case c5 => have := hb.size; have := hb2.size; simp; omega
      intro v' w4 hown' hgrow _
      go_wp2_with fail
      go_roundw
      case rel => exact ⟨k + 1, by omega, by go_num, by rw [List.take_succ_eq_append_getElem hlt, List.map_append, ← HPL.out]; exact OwnE.app hown', Below.grown (by (repeat first | (with_reducible first | assumption | exact Below.refl _ _ | refine Bl.drew ?_ | refine Bl.drewN ?_ _ | refine Bl.alloc ?_ _ | refine Bl.set ?_ _ ?_) | (with_reducible apply Bl.step'; (focus (with_reducible assumption))) | omega | (focus (simp; done)) | (focus (simp; omega)))) hgrow (by have := hb.size; have := hb2.size; simp; omega) (fun j e => (World.ownsRow.lt hown j e).1)⟩
      case measure => simp [intOf]; omega
    · have hkl : k = xs.length := by omega
      subst hkl
      rw [List.take_length] at hown
      go_wp2_with fail
      go_ret
      exact ⟨_, rfl, hown, hb⟩
end Go.Proofs.Ytgljpjcclncknaa

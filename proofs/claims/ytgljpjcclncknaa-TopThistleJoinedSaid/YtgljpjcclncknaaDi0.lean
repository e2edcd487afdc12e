/- Own lists of ints: their copy; lists of ints compared. -/
import Derived.Test.YtgljpjcclncknaaFr1
import Derived.Lib.SliceRun
import Derived.OwnWalk
namespace Go.Proofs.Ytgljpjcclncknaa
open Go.RowKit

theorem Try.infoI2 : (Try.prog.info? 3).map (fun i => (i.zero, i.size, i.bytes)) = some (some (.int .i64 0), 1, 8) := by kernel_rfl
theorem IntsR.at {w : World} {B : Nat} {A : Option Addr} {l : List Int} (h : IntsR w B A l) (hn : l ≠ []) : ∃ b off, A = some ⟨b, off, none⟩ ∧ b < B ∧ ∀ k (hk : k < l.length), w.cell? ⟨b, off + k, none⟩ = some (.int .i64 l[k]) := by
  obtain ⟨b, off, e, hb, hc⟩ := h (by simpa using hn)
  refine ⟨b, off, e, hb, fun k hk => ?_⟩
  have := hc k (by simpa using hk) 0 (.int .i64 l[k]) (by rw [List.getElem_map]; rfl)
  simpa using this
/-- v is a slice of ints that this call made, in a block not below base. -/
def OwnI (w : World) (base : Nat) (v : Value) (xs : List Int) : Prop := w.ownsRow base 3 1 v xs.length (xs.map (Value.int .i64))
theorem OwnI.nil_ (w : World) (base : Nat) : OwnI w base (.slice none 0 0) [] := World.ownsRow_nil _ _ _ _
theorem OwnI.alloc {w : World} {base : Nat} {v : Value} {xs : List Int} (h : OwnI w base v xs) (o : Obj) : OwnI (w.alloc o) base v xs := World.ownsRow.alloc h o
theorem OwnI.drew {w : World} {base : Nat} {v : Value} {xs : List Int} (h : OwnI w base v xs) : OwnI w.drew base v xs := h
theorem OwnI.below {w w' : World} {base : Nat} {v : Value} {xs : List Int} (h : OwnI w base v xs) (hb : Below w.heap.size w w') : OwnI w' base v xs :=
  World.ownsRow.kept h (row := none) ⟨hb.os, hb.tape, hb.output, hb.size, fun k hk _ => hb.block k hk⟩ (by cases v.ownBlock <;> simp)
theorem OwnI.mono {w : World} {base base' : Nat} {v : Value} {xs : List Int} (h : OwnI w base v xs) (hb : base' ≤ base) : OwnI w base' v xs := by
  obtain ⟨h1, h2⟩ := h
  refine ⟨h1, ?_⟩
  rcases h2 with h2 | ⟨g, cap, cur, e, hg, r⟩
  · exact .inl h2
  · exact .inr ⟨g, cap, cur, e, by omega, r⟩
theorem OwnI.app {w : World} {base : Nat} {v : Value} {xs : List Int} {k : Int} (h : w.ownsRow base 3 1 v (xs.length + 1) (xs.map (Value.int .i64) ++ [.int .i64 k])) : OwnI w base v (xs ++ [k]) := by
  unfold OwnI; simpa using h
theorem OwnI.ne {w : World} {base : Nat} {v : Value} {xs : List Int} (h : OwnI w base v xs) {b : Nat} (hb : b < base) : some b ≠ v.ownBlock := fun e => by
  have := (World.ownsRow.lt h b e.symm).1; omega
set_option maxHeartbeats 2000000 in
set_option maxRecDepth 100000 in
theorem clone_c (B : Nat) (A : Option Addr) (c : Nat) (xs : List Int) (w : World) (hl : xs.length ≤ 1000) (h : IntsR w B A xs) :
    Calls Try.prog 37 #[.slice A xs.length c] w fun e w' => ∃ v', e = .returned v' ∧ OwnI w' w.heap.size v' xs ∧ Below w.heap.size w w' := by
  have q : ∀ (w : World) (a : Option Addr) (n c n' c' : Nat), (binOp .eql 46 (.slice a n c) (.slice none n' c')).run Try.prog w = .ok (.bool a.isNone) w := fun w a n c n' c' => Lib.run_eql_slice_nil w _ _ a n c n' c' Try.underlying46
  obtain ⟨i0, hi, hz0, hz1, hz2⟩ := info_parts Try.infoI2
  cases A with
  | none =>
    have hx : xs = [] := by
      by_cases hx : xs = []
      · exact hx
      · obtain ⟨b, off, e, _⟩ := h.at hx; cases e
    subst hx
    go_enter Try.func37, Try.ntmps37
    go_wp2
    go_ret
    exact ⟨_, rfl, OwnI.nil_ _ _, Below.refl _ _⟩
  | some p =>
    have A : Hid (∀ j u, (xs.map (Value.int .i64))[j]? = some u → w.cell? (p.add j) = some u) := Lib.hid (by
      intro j u hj
      have hj' : j < xs.length := by have := (List.getElem?_eq_some_iff.1 hj).1; simpa using this
      obtain ⟨b, off, e, _, hc⟩ := h.at (by intro e; subst e; simp at hj')
      cases e
      rw [Addr.add_lit, hc j hj']
      rw [List.getElem?_map, List.getElem?_eq_getElem hj'] at hj
      exact hj)
    clear h
    go_enter Try.func37, Try.ntmps37
    go_wp2_with (at_builtin; refine wpList_append_own _ rfl _ _ 46 rfl w.heap.size 3 i0 (.int .i64 0) 1 8 Try.underlying46 hi hz0 hz1 hz2 rfl (by decide) _ _ _ rfl (World.ownsRow_made w #[] 0 (Nat.le_refl _) (Nat.zero_le _) rfl) p xs.length c (xs.map (Value.int .i64)) rfl ?qc1 ?qc2 ?qc3 ?qc4 ?qc5 ?qc6 ?_)
    case qc1 => simp
    case qc2 =>
      intro j u hj
      exact Lib.cell?_alloc_some _ (A.out j u hj)
    case qc3 => intro u hu; obtain ⟨x, _, rfl⟩ := List.mem_map.1 hu; rfl
    case qc4 => unfold maxLen; omega
    case qc5 => omega
    case qc6 => simp
    intro v' w1 hown hgrow hnil
    go_wp2
    go_ret
    exact ⟨v', rfl, by simpa [OwnI] using hown, ((Below.refl _ w).alloc (Nat.le_refl _) _).grown hgrow (by simp) (by intro k hk; simp [Value.ownBlock] at hk; omega)⟩

set_option maxHeartbeats 600000 in
theorem sameInts_c (A A' : Option Addr) (c c' : Nat) (xs ys : List Int) (w : World) (hl : xs.length ≤ 100000) (h : IntsR w w.heap.size A xs) (h' : IntsR w w.heap.size A' ys) :
    Calls Try.prog 18 #[.slice A xs.length c, .slice A' ys.length c'] w fun e w' => e = .returned (.bool (decide (xs = ys))) ∧ Below w.heap.size w w' := by
  have H := Lib.hid h; clear h
  have H' := Lib.hid h'; clear h'
  by_cases hne : xs.length = ys.length
  · have HR := Lib.hid hne
    have hne' : ((xs.length : Int) != ys.length) = false := by rw [bne_eq_false_iff_eq]; omega
    clear hne
    go_enter Try.func18, Try.ntmps18
    go_wp2
    go_loopw [5] (fun i wr => ∃ k : Nat, k ≤ xs.length ∧ i = .int .i64 k ∧ Hid (xs.take k = ys.take k) ∧ Below w.heap.size w wr) (fun i _ => xs.length - (intOf i).toNat)
    case atStart => exact ⟨0, Nat.zero_le _, rfl, Lib.hid (by simp), Below.refl _ _⟩
    case round =>
      obtain ⟨k, hk, rfl, hf, hb⟩ := hrel
      by_cases hlt : k < xs.length
      · have hlt' : k < ys.length := by have := HR.out; omega
        obtain ⟨b, off, rfl, _, c0⟩ := (Rw.belowB H.out (w0 := w) hb (Nat.le_refl _)).get1 (k := k) (by simpa using hlt) (by rw [List.getElem_map])
        obtain ⟨b', off', rfl, _, c1⟩ := (Rw.belowB H'.out (w0 := w) hb (Nat.le_refl _)).get1 (k := k) (by simpa using hlt') (by rw [List.getElem_map])
        by_cases hz : xs[k] = ys[k]
        · have HZ := Lib.hid hz
          have hz' : (xs[k] != ys[k]) = false := by simp [hz]
          clear hz
          go_wp2
          go_quiet (fail)
          go_wp2
          go_roundw
          case rel => exact ⟨k + 1, by omega, by go_num, Lib.hid (take_eq_succ hlt hlt' hf.out HZ.out), by (repeat first | (with_reducible first | assumption | exact Below.refl _ _ | refine Bl.drew ?_ | refine Bl.drewN ?_ _ | refine Bl.alloc ?_ _ | refine Bl.set ?_ _ ?_) | (with_reducible apply Bl.step'; (focus (with_reducible assumption))) | omega | (focus (simp; done)) | (focus (simp; omega)))⟩
          case measure => simp [intOf]; omega
        · have HZ := Lib.hid hz
          have hz' : (xs[k] != ys[k]) = true := by simp [hz]
          clear hz
          go_wp2
          go_quiet (fail)
          go_wp2
          go_ret
          exact ⟨ret_bool (decide_eq_false (fun e => HZ.out (by subst e; rfl))).symm, by (repeat first | (with_reducible first | assumption | exact Below.refl _ _ | refine Bl.drew ?_ | refine Bl.drewN ?_ _ | refine Bl.alloc ?_ _ | refine Bl.set ?_ _ ?_) | (with_reducible apply Bl.step'; (focus (with_reducible assumption))) | omega | (focus (simp; done)) | (focus (simp; omega)))⟩
      · go_wp2
        go_ret
        have h1 := hf.out
        have h2 := HR.out
        rw [List.take_of_length_le (by omega), List.take_of_length_le (by omega)] at h1
        exact ⟨ret_bool (decide_eq_true h1).symm, by (repeat first | (with_reducible first | assumption | exact Below.refl _ _ | refine Bl.drew ?_ | refine Bl.drewN ?_ _ | refine Bl.alloc ?_ _ | refine Bl.set ?_ _ ?_) | (with_reducible apply Bl.step'; (focus (with_reducible assumption))) | omega | (focus (simp; done)) | (focus (simp; omega)))⟩
  · have hz : ((xs.length : Int) != ys.length) = true := by rw [bne_iff_ne]; omega
    have HR := Lib.hid hne; clear hne
    go_enter Try.func18, Try.ntmps18
    go_wp2
    go_ret
    exact ⟨ret_bool (decide_eq_false (fun e => HR.out (by rw [e]))).symm, by (repeat first | (with_reducible first | assumption | exact Below.refl _ _ | refine Bl.drew ?_ | refine Bl.drewN ?_ _ | refine Bl.alloc ?_ _ | refine Bl.set ?_ _ ?_) | (with_reducible apply Bl.step'; (focus (with_reducible assumption))) | omega | (focus (simp; done)) | (focus (simp; omega)))⟩
end Go.Proofs.Ytgljpjcclncknaa

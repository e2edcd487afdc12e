/- slices.DeleteFunc at layers, with Drawn's closure. -/
import Derived.Test.YtgljpjcclncknaaTs7
namespace Go.Proofs.Ytgljpjcclncknaa
open Go.RowKit

def noL (x : Lay) : Bool := x.a == 0 && x.h == 0
theorem eql_lay (w : World) (a b : Int) : (binOp .eql 76 (.agg #[.int .i64 a, .int .i64 b]) (.agg #[.int .i64 0, .int .i64 0])).run Try.prog w = .ok (.bool (a == 0 && b == 0)) w := by
  rw [run_eql_struct]
  rw [show (10000 : Nat) = 9999 + 1 from rfl, Op.equalIn]
  simp [go_sem, isAgg]
  by_cases h1 : a = 0 <;> by_cases h2 : b = 0 <;> simp [h1, h2]
set_option maxHeartbeats 400000 in
theorem del_c (x : Lay) (w : World) : Calls Try.prog 33 #[.agg #[.int .i64 x.a, .int .i64 x.h]] w fun e w' => e = .returned (.bool (noL x)) ∧ Below w.heap.size w w' := by
  have he := fun W => eql_lay W x.a x.h
  go_enter Try.func33, Try.ntmps33
  go_wp2
  go_ret
  exact ⟨rfl, by (repeat first | (with_reducible first | assumption | exact Below.refl _ _ | refine Bl.drew ?_ | refine Bl.drewN ?_ _ | refine Bl.alloc ?_ _ | refine Bl.set ?_ _ ?_) | (with_reducible apply Bl.step'; (focus (with_reducible assumption))) | omega | (focus (simp; done)) | (focus (simp; omega)))⟩

set_option maxHeartbeats 600000 in
theorem idxLay_c {α : Type} (enc : α → List Value) (p : α → Bool) (gf : Nat) (cap : Array Value) (A : Option Addr) (l : List α) (c : Nat) (w : World) (hl : l.length ≤ 1000)
    (hen : ∀ args w, (callFunc gf args).run Try.prog w = .ok (.enter gf args) w) (hr : Rw w w.heap.size 2 A (l.map enc)) (henc : ∀ x ∈ l, ∃ v0 v1, enc x = [v0, v1])
    (hcall : ∀ x ∈ l, ∀ v0 v1, enc x = [v0, v1] → ∀ W, Below w.heap.size w W → Calls Try.prog gf (#[.agg #[v0, v1]] ++ cap) W fun e W' => e = .returned (.bool (p x)) ∧ Below W.heap.size W W') :
    Calls Try.prog 52 #[.slice A l.length c, .func (.func gf) #[] cap] w fun e w' => e = .returned (.int .i64 (idxF p l)) ∧ Below w.heap.size w w' := by
  have HR := Lib.hid hr; clear hr
  have HC := Lib.hid hcall; clear hcall
  have HE := Lib.hid henc; clear henc
  go_enter Try.func52, Try.ntmps52
  go_wp2_with fail
  go_loopw [8] (fun i wr => ∃ k : Nat, k ≤ l.length ∧ i = .int .i64 k ∧ Hid (∀ x ∈ l.take k, p x = false) ∧ Below w.heap.size w wr) (fun i _ => l.length - (intOf i).toNat)
  case atStart => exact ⟨0, Nat.zero_le _, rfl, Lib.hid (by simp), Below.refl _ _⟩
  case round =>
    obtain ⟨k, hk, rfl, hf, hb⟩ := hrel
    by_cases hlt : k < l.length
    · obtain ⟨v0, v1, hv⟩ := HE.out l[k] (List.getElem_mem hlt)
      have hq := HC.out l[k] (List.getElem_mem hlt) v0 v1 hv wr hb
      obtain ⟨b, off, rfl, _, c0, c1⟩ := (HR.out.belowB hb (Nat.le_refl _)).get2 (k := k) (by simpa using hlt) (by rw [List.getElem_map]; exact hv)
      have HQ := Lib.hid hq; clear hq
      have HV := Lib.hid hv; clear hv
      cases hp : p l[k]
      · rw [hp] at HQ
        have HP := Lib.hid hp; clear hp
        go_wp2_with (refine HQ.out.mono ?_; rintro e w' ⟨rfl, hb1⟩)
        go_roundw
        case rel => exact ⟨k + 1, by omega, by go_num, Lib.hid (take_all hlt hf.out HP.out), by (repeat first | (with_reducible first | assumption | exact Below.refl _ _ | refine Bl.drew ?_ | refine Bl.drewN ?_ _ | refine Bl.alloc ?_ _ | refine Bl.set ?_ _ ?_) | (with_reducible apply Bl.step'; (focus (with_reducible assumption))) | omega | (focus (simp; done)) | (focus (simp; omega)))⟩
        case measure => simp [intOf]; omega
      · rw [hp] at HQ
        have HP := Lib.hid hp; clear hp
        go_wp2_with (refine HQ.out.mono ?_; rintro e w' ⟨rfl, hb1⟩)
        go_ret
        exact ⟨ret_int (idxF_at p l k hlt hf.out HP.out).symm, by (repeat first | (with_reducible first | assumption | exact Below.refl _ _ | refine Bl.drew ?_ | refine Bl.drewN ?_ _ | refine Bl.alloc ?_ _ | refine Bl.set ?_ _ ?_) | (with_reducible apply Bl.step'; (focus (with_reducible assumption))) | omega | (focus (simp; done)) | (focus (simp; omega)))⟩
    · go_wp2_with fail
      go_ret
      have := hf.out
      rw [List.take_of_length_le (by omega)] at this
      exact ⟨ret_int (idxF_none p l this).symm, hb⟩
theorem flat_set2 (u v : Value) : ∀ (l : List (List Value)) (k : Nat), (∀ x ∈ l, x.length = 2) → k < l.length → (l.flatten.set (k * 2) u).set (k * 2 + 1) v = (l.set k [u, v]).flatten
  | x :: l, 0, h, _ => by
    have hx := h x (by simp)
    match x, hx with
    | [p, q], _ => simp
  | x :: l, k + 1, h, hk => by
    have hx := h x (by simp)
    have ih := flat_set2 u v l k (fun y hy => h y (by simp [hy])) (by simpa using hk)
    match x, hx with
    | [p, q], _ =>
      rw [List.set_cons_succ, List.flatten_cons, List.flatten_cons, ← ih, Nat.succ_mul]
      simp
theorem OwnL.set {w : World} {base g c k : Nat} {ys : List Lay} (h : OwnL w base (some ⟨g, 0, none⟩) c ys) (hk : k < ys.length) (z : Lay) :
    OwnL ((w.setCell ⟨g, k * 2, none⟩ (.int .i64 z.a)).setCell ⟨g, k * 2 + 1, none⟩ (.int .i64 z.h)) base (some ⟨g, 0, none⟩) c (ys.set k z) := by
  unfold OwnL at h ⊢
  have h1 := ((h.stored (k * 2) (.int .i64 z.a)).1.stored (k * 2 + 1) (.int .i64 z.h)).1
  rw [flat_set2 _ _ _ _ encL_len (by simpa using hk)] at h1
  rw [List.length_set, List.map_set]
  exact h1
theorem grow_any {A B : World} {row : Option Nat} (h : A.grownBy B none) : A.grownBy B row := ⟨h.os, h.tape, h.output, h.size, fun k hk _ => h.block k hk (by simp)⟩
theorem grow_trans {A B C : World} {row : Option Nat} (h : A.grownBy B row) (k : B.grownBy C row) : A.grownBy C row :=
  ⟨k.os.trans h.os, k.tape.trans h.tape, k.output.trans h.output, Nat.le_trans h.size k.size, fun i hi hne => (k.block i (Nat.lt_of_lt_of_le hi h.size) hne).trans (h.block i hi hne)⟩
theorem grow_set2 (A : World) (g o1 o2 : Nat) (u v : Value) : A.grownBy ((A.setCell ⟨g, o1, none⟩ u).setCell ⟨g, o2, none⟩ v) (some g) :=
  ⟨rfl, rfl, rfl, by simp, fun k _ hne => (heap_setCell_other _ _ _ _ (fun e => hne (by simp [e]))).trans (heap_setCell_other _ _ _ _ (fun e => hne (by simp [e])))⟩
/-- The state of DeleteFunc's loop: what is kept of the first b, and what is still to come. -/
structure DelI (p : Lay → Bool) (zs ys : List Lay) (a b : Nat) : Prop where
  len : ys.length = zs.length
  ab : a < b
  bn : b ≤ zs.length
  kept : ys.take a = (zs.take b).filter fun x => !p x
  rest : ys.drop b = zs.drop b
theorem DelI.at {p : Lay → Bool} {zs ys : List Lay} {a b : Nat} (h : DelI p zs ys a b) (hb : b < zs.length) : ys[b]'(by rw [h.len]; exact hb) = zs[b] := by
  have h1 := congrArg (·[0]?) h.rest
  simp only [List.getElem?_drop, Nat.add_zero] at h1
  rw [List.getElem?_eq_getElem (by rw [h.len]; exact hb), List.getElem?_eq_getElem hb] at h1
  exact Option.some.inj h1
theorem DelI.keep {p : Lay → Bool} {zs ys : List Lay} {a b : Nat} (h : DelI p zs ys a b) (hb : b < zs.length) (hp : p zs[b] = false) : DelI p zs (ys.set a zs[b]) (a + 1) (b + 1) := by
  have hab := h.ab
  have ha : a < ys.length := by rw [h.len]; omega
  refine ⟨by rw [List.length_set]; exact h.len, by omega, hb, ?_, ?_⟩
  · rw [List.take_succ_eq_append_getElem (by rw [List.length_set]; exact ha), List.take_set_of_le (Nat.le_refl _), h.kept, List.take_succ_eq_append_getElem hb, List.filter_append]
    simp [hp]
  · rw [List.drop_set_of_lt (by omega)]
    have h1 := congrArg (List.drop 1) h.rest
    rwa [List.drop_drop, List.drop_drop, Nat.add_comm b 1, Nat.add_comm 1 b] at h1
theorem DelI.skip {p : Lay → Bool} {zs ys : List Lay} {a b : Nat} (h : DelI p zs ys a b) (hb : b < zs.length) (hp : p zs[b] = true) : DelI p zs ys a (b + 1) := by
  have hab := h.ab
  refine ⟨h.len, by omega, hb, ?_, ?_⟩
  · rw [h.kept, List.take_succ_eq_append_getElem hb, List.filter_append]
    simp [hp]
  · have h1 := congrArg (List.drop 1) h.rest
    rwa [List.drop_drop, List.drop_drop, Nat.add_comm b 1, Nat.add_comm 1 b] at h1
theorem DelI.start {p : Lay → Bool} {zs : List Lay} {a : Nat} (ha : a < zs.length) (h : ∀ x ∈ zs.take a, p x = false) (hp : p zs[a] = true) : DelI p zs zs a (a + 1) := by
  refine ⟨rfl, by omega, ha, ?_, rfl⟩
  rw [List.take_succ_eq_append_getElem ha, List.filter_append]
  have e : (zs.take a).filter (fun x => !p x) = zs.take a := List.filter_eq_self.2 fun x hx => by simp [h x hx]
  rw [e]; simp [hp]
theorem DelI.done {p : Lay → Bool} {zs ys : List Lay} {a : Nat} (h : DelI p zs ys a zs.length) : ys.take a = zs.filter fun x => !p x := by
  rw [h.kept, List.take_length]
theorem heap_setCell_same' {w : World} {b i : Nat} {cs : Array Value} {T : TypeId} {fr : Nat × Nat} (hb : w.heap[b]? = some (.cells cs T fr)) (v : Value) : (w.setCell ⟨b, i, none⟩ v).heap[b]? = some (.cells (cs.setIfInBounds i v) T fr) := by
  simp [World.setCell, Array.getElem?_modify, hb]
/-- A prefix of the list, when what lies behind it was written. -/
theorem setCells_row {b : Nat} {T : TypeId} {z : Nat × Nat} : ∀ (vs : List Value) (o : Nat) (w : World) (cur : Array Value), w.heap[b]? = some (.cells cur T z) → ∃ cur', (w.setCells b o vs).heap[b]? = some (.cells cur' T z) ∧ cur'.size = cur.size ∧ ∀ j, j < o → cur'[j]? = cur[j]?
  | [], _, _, cur, h => ⟨cur, h, rfl, fun _ _ => rfl⟩
  | v :: vs, o, w, cur, h => by
    obtain ⟨cur', h1, h2, h3⟩ := setCells_row vs (o + 1) (w.setCell ⟨b, o, none⟩ v) (cur.setIfInBounds o v) (heap_setCell_same' (w := w) h v)
    refine ⟨cur', h1, by simpa using h2, fun j hj => ?_⟩
    rw [h3 j (by omega), Array.getElem?_setIfInBounds_ne (by omega)]
end Go.Proofs.Ytgljpjcclncknaa

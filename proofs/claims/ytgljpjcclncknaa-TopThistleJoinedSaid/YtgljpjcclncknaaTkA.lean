/- Tanks of layers, plainly: what is put together, what is drawn. -/
import Derived.Test.YtgljpjcclncknaaKa
namespace Go.Proofs.Ytgljpjcclncknaa
open Go.RowKit

/-- A layer: its amount and its heat. -/
structure Lay where
  a : Int
  h : Int
def sumA (l : List Lay) : Int := l.foldr (fun x s => x.a + s) 0
def sumH (l : List Lay) : Int := l.foldr (fun x s => x.h + s) 0
@[simp] theorem sumA_nil : sumA [] = 0 := rfl
@[simp] theorem sumH_nil : sumH [] = 0 := rfl
@[simp] theorem sumA_cons (x : Lay) (l : List Lay) : sumA (x :: l) = x.a + sumA l := rfl
@[simp] theorem sumH_cons (x : Lay) (l : List Lay) : sumH (x :: l) = x.h + sumH l := rfl
theorem sumA_app (l m : List Lay) : sumA (l ++ m) = sumA l + sumA m := by
  induction l with
  | nil => simp
  | cons x l ih => simp [ih]; omega
theorem sumH_app (l m : List Lay) : sumH (l ++ m) = sumH l + sumH m := by
  induction l with
  | nil => simp
  | cons x l ih => simp [ih]; omega
theorem sumA_rev (l : List Lay) : sumA l.reverse = sumA l := by
  induction l with
  | nil => rfl
  | cons x l ih => simp [sumA_app, ih]; omega
theorem sumH_rev (l : List Lay) : sumH l.reverse = sumH l := by
  induction l with
  | nil => rfl
  | cons x l ih => simp [sumH_app, ih]; omega
def coldr (x y : Lay) : Bool := decide (x.h * y.a < y.h * x.a)
/-- Neighbours in a list that is read from the top: the lower one is colder. -/
def srt : List Lay → Prop
  | y :: x :: s => coldr x y = true ∧ srt (x :: s)
  | _ => True
/-- A list from the bottom to the top. -/
def srtU : List Lay → Prop
  | x :: y :: s => coldr x y = true ∧ srtU (y :: s)
  | _ => True
def okL (x : Lay) : Prop := 1 ≤ x.a ∧ 0 ≤ x.h
structure okT (room : Int) (l : List Lay) : Prop where
  room0 : 1 ≤ room
  room1 : room ≤ 1000000
  len : l.length ≤ 16
  each : ∀ x ∈ l, okL x
  ord : srtU l
  a : sumA l ≤ room
  h : sumH l ≤ 1000000000
theorem sum_nonneg {l : List Lay} (h : ∀ x ∈ l, 0 ≤ x.a ∧ 0 ≤ x.h) : 0 ≤ sumA l ∧ 0 ≤ sumH l := by
  induction l with
  | nil => simp
  | cons x l ih =>
    have h1 := h x (by simp)
    have h2 := ih fun y hy => h y (by simp [hy])
    simp only [sumA_cons, sumH_cons]
    omega
theorem okL.nn {x : Lay} (h : okL x) : 0 ≤ x.a ∧ 0 ≤ x.h := ⟨by have := h.1; omega, h.2⟩
theorem mem_le {l : List Lay} (h : ∀ x ∈ l, 0 ≤ x.a ∧ 0 ≤ x.h) {x : Lay} (hx : x ∈ l) : x.a ≤ sumA l ∧ x.h ≤ sumH l := by
  induction l with
  | nil => simp at hx
  | cons y l ih =>
    have h1 := h y (by simp)
    have h3 : ∀ z ∈ l, 0 ≤ z.a ∧ 0 ≤ z.h := fun z hz => h z (by simp [hz])
    have h2 := sum_nonneg h3
    simp only [sumA_cons, sumH_cons]
    rcases List.mem_cons.1 hx with rfl | hx
    · omega
    · have := ih h3 hx
      omega
theorem okT.nn {room : Int} {l : List Lay} (h : okT room l) : ∀ x ∈ l, 0 ≤ x.a ∧ 0 ≤ x.h := fun x hx => (h.each x hx).nn
theorem okT.le {room : Int} {l : List Lay} (h : okT room l) {x : Lay} (hx : x ∈ l) : 1 ≤ x.a ∧ x.a ≤ 1000000 ∧ 0 ≤ x.h ∧ x.h ≤ 1000000000 := by
  have h1 := mem_le h.nn hx
  have h2 := h.each x hx
  have h3 := h.room1
  have h4 := h.a
  have h5 := h.h
  exact ⟨h2.1, by omega, h2.2, by omega⟩

/-- The stack, its top first, after layers that are not warmer than what lies on them were put together. -/
def merge (y : Lay) : List Lay → List Lay
  | [] => [y]
  | x :: s => if coldr x y = true then y :: x :: s else merge ⟨x.a + y.a, x.h + y.h⟩ s
def togS (l : List Lay) : List Lay := l.foldl (fun s x => merge x s) []
def togF (l : List Lay) : List Lay := (togS l).reverse
theorem togS_snoc (l : List Lay) (x : Lay) : togS (l ++ [x]) = merge x (togS l) := by simp [togS]
theorem merge_sum (s : List Lay) : ∀ y : Lay, sumA (merge y s) = y.a + sumA s ∧ sumH (merge y s) = y.h + sumH s := by
  induction s with
  | nil => intro y; simp [merge]
  | cons x s ih =>
    intro y
    unfold merge
    split
    · simp
    · have := ih ⟨x.a + y.a, x.h + y.h⟩
      simp only [sumA_cons, sumH_cons] at this ⊢
      omega
theorem merge_ok {s : List Lay} (hs : ∀ x ∈ s, okL x) : ∀ {y : Lay}, okL y → ∀ x ∈ merge y s, okL x := by
  induction s with
  | nil => intro y hy x hx; simp [merge] at hx; subst hx; exact hy
  | cons z s ih =>
    intro y hy x hx
    unfold merge at hx
    split at hx
    · rcases List.mem_cons.1 hx with rfl | hx
      · exact hy
      · exact hs x hx
    · refine ih (fun x hx => hs x (by simp [hx])) (y := ⟨z.a + y.a, z.h + y.h⟩) ?_ x hx
      have h1 := hs z (by simp)
      unfold okL at *
      simp only
      omega
theorem merge_srt {s : List Lay} (hs : srt s) : ∀ y : Lay, srt (merge y s) := by
  induction s with
  | nil => intro y; simp [merge, srt]
  | cons x s ih =>
    intro y
    unfold merge
    split
    · next h => exact ⟨h, hs⟩
    · refine ih ?_ _
      cases s with
      | nil => simp [srt]
      | cons z s => exact hs.2
theorem merge_len (s : List Lay) : ∀ y : Lay, (merge y s).length ≤ s.length + 1 ∧ 1 ≤ (merge y s).length := by
  induction s with
  | nil => intro y; simp [merge]
  | cons x s ih =>
    intro y
    unfold merge
    split
    · simp
    · have := ih ⟨x.a + y.a, x.h + y.h⟩
      simp only [List.length_cons]
      omega
theorem snoc_ind {α : Type} {p : List α → Prop} (h0 : p []) (hs : ∀ l x, p l → p (l ++ [x])) (l : List α) : p l := by
  rw [← l.reverse_reverse]
  induction l.reverse with
  | nil => exact h0
  | cons x l ih => rw [List.reverse_cons]; exact hs _ _ ih
theorem togS_ok : ∀ {l : List Lay}, (∀ x ∈ l, okL x) → sumA (togS l) = sumA l ∧ sumH (togS l) = sumH l ∧ (∀ x ∈ togS l, okL x) ∧ srt (togS l) ∧ (togS l).length ≤ l.length := by
  intro l
  induction l using snoc_ind with
  | h0 => intro _; exact ⟨rfl, rfl, by simp [togS], by simp [togS, srt], by simp [togS]⟩
  | hs l x ih =>
    intro h
    obtain ⟨h1, h2, h3, h4, h5⟩ := ih fun y hy => h y (by simp [hy])
    rw [togS_snoc]
    have m1 := merge_sum (togS l) x
    have m2 := merge_len (togS l) x
    refine ⟨by rw [m1.1, sumA_app]; simp; omega, by rw [m1.2, sumH_app]; simp; omega, merge_ok h3 (h x (by simp)), merge_srt h4 x, ?_⟩
    rw [List.length_append, List.length_singleton]
    omega
theorem srtU_snoc : ∀ {l : List Lay} {x y : Lay}, srtU (l ++ [x]) → coldr x y = true → srtU (l ++ [x] ++ [y]) := by
  intro l
  induction l with
  | nil => intro x y _ h; exact ⟨h, trivial⟩
  | cons z l ih =>
    intro x y h hc
    cases l with
    | nil => exact ⟨h.1, hc, trivial⟩
    | cons u l => exact ⟨h.1, ih h.2 hc⟩
theorem srt_rev : ∀ {s : List Lay}, srt s → srtU s.reverse := by
  intro s
  induction s with
  | nil => intro _; trivial
  | cons y s ih =>
    intro h
    cases s with
    | nil => trivial
    | cons x s =>
      have h1 := ih h.2
      rw [List.reverse_cons] at h1 ⊢
      rw [List.reverse_cons]
      exact srtU_snoc h1 h.1
theorem togF_ok {room : Int} {l : List Lay} (hr0 : 1 ≤ room) (hr1 : room ≤ 1000000) (h : ∀ x ∈ l, okL x) (hl : l.length ≤ 16) (ha : sumA l ≤ room) (hh : sumH l ≤ 1000000000) : okT room (togF l) ∧ sumA (togF l) = sumA l ∧ sumH (togF l) = sumH l := by
  obtain ⟨h1, h2, h3, h4, h5⟩ := togS_ok h
  unfold togF
  have e1 := sumA_rev (togS l)
  have e2 := sumH_rev (togS l)
  exact ⟨⟨hr0, hr1, by rw [List.length_reverse]; omega, fun x hx => h3 x (List.mem_reverse.1 hx), srt_rev h4, by omega, by omega⟩, by omega, by omega⟩

/-- The index of the k-th layer that is visited. -/
def idxT (n : Nat) (top : Bool) (k : Nat) : Nat := if top then n - 1 - k else k
/-- What is left of the layers, what was drawn, and what must still be drawn, after k visits. -/
structure Dr where
  z : List Lay
  hot : Int
  amt : Int
def dr1 (x : Lay) (amt : Int) : Lay × Int × Int := (⟨x.a - min amt x.a, x.h - x.h * min amt x.a / x.a⟩, x.h * min amt x.a / x.a, min amt x.a)
def drK (l : List Lay) (m : Int) (top : Bool) : Nat → Dr
  | 0 => ⟨l, 0, m⟩
  | k + 1 =>
    let s := drK l m top k
    let x := l.getD (idxT l.length top k) ⟨0, 0⟩
    ⟨s.z.set (idxT l.length top k) (dr1 x s.amt).1, s.hot + (dr1 x s.amt).2.1, s.amt - (dr1 x s.amt).2.2⟩
theorem drK_len (l : List Lay) (m : Int) (top : Bool) (k : Nat) : (drK l m top k).z.length = l.length := by
  induction k with
  | zero => rfl
  | succ k ih => simp [drK, ih]
def okZ (x : Lay) : Prop := (x.a = 0 ∧ x.h = 0) ∨ okL x
theorem dr1_ok {x : Lay} {m : Int} (hx : okL x) (hm : 0 ≤ m) : okZ (dr1 x m).1 ∧ 0 ≤ (dr1 x m).2.1 ∧ (dr1 x m).2.1 ≤ x.h ∧ 0 ≤ (dr1 x m).2.2 ∧ (dr1 x m).2.2 ≤ m ∧ (dr1 x m).2.2 ≤ x.a ∧ (dr1 x m).1.a = x.a - (dr1 x m).2.2 ∧ (dr1 x m).1.h = x.h - (dr1 x m).2.1 := by
  obtain ⟨h1, h2⟩ := hx
  have hp0 : 0 ≤ min m x.a := by omega
  have hp1 : min m x.a ≤ x.a := by omega
  have hq0 : 0 ≤ x.h * min m x.a / x.a := Int.ediv_nonneg (Int.mul_nonneg h2 hp0) (by omega)
  have hq1 : x.h * min m x.a / x.a ≤ x.h := by
    have e : x.h * min m x.a ≤ x.h * x.a := Int.mul_le_mul_of_nonneg_left hp1 h2
    have e2 : x.h * min m x.a / x.a ≤ x.h * x.a / x.a := Int.ediv_le_ediv (by omega) e
    rw [Int.mul_ediv_cancel _ (by omega)] at e2
    exact e2
  refine ⟨?_, hq0, hq1, hp0, (show min m x.a ≤ m by omega), hp1, rfl, rfl⟩
  by_cases hf : m < x.a
  · right; exact ⟨by simp only [dr1]; omega, by simp only [dr1]; omega⟩
  · left
    have e : min m x.a = x.a := by omega
    simp only [dr1, e]
    rw [Int.mul_ediv_cancel _ (by omega)]
    omega
theorem sum_set : ∀ (z : List Lay) (i : Nat) (h : i < z.length) (y : Lay), sumA (z.set i y) = sumA z - z[i].a + y.a ∧ sumH (z.set i y) = sumH z - z[i].h + y.h := by
  intro z
  induction z with
  | nil => intro i h; simp at h
  | cons x z ih =>
    intro i h y
    cases i with
    | zero => simp; omega
    | succ i =>
      have := ih i (by simpa using h) y
      simp only [List.set_cons_succ, sumA_cons, sumH_cons, List.getElem_cons_succ]
      omega
theorem idxT_lt {n k : Nat} (top : Bool) (h : k < n) : idxT n top k < n := by unfold idxT; split <;> omega
theorem idxT_ne {n j k : Nat} (top : Bool) (hj : j < n) (hk : k < n) (h : j ≠ k) : idxT n top j ≠ idxT n top k := by unfold idxT; split <;> omega
theorem drK_ok {l : List Lay} {m : Int} (top : Bool) (hl : ∀ x ∈ l, okL x) (hm : 0 ≤ m) : ∀ k, k ≤ l.length →
    (∀ j, k ≤ j → j < l.length → (drK l m top k).z[idxT l.length top j]? = l[idxT l.length top j]?) ∧ (∀ x ∈ (drK l m top k).z, okZ x) ∧
    sumH (drK l m top k).z + (drK l m top k).hot = sumH l ∧ sumA (drK l m top k).z ≤ sumA l ∧ 0 ≤ (drK l m top k).hot ∧ 0 ≤ (drK l m top k).amt ∧ (drK l m top k).amt ≤ m := by
  intro k
  induction k with
  | zero => intro _; exact ⟨fun _ _ _ => rfl, fun x hx => Or.inr (hl x hx), by simp [drK], by simp [drK], by simp [drK], hm, by simp [drK]⟩
  | succ k ih =>
    intro hk
    obtain ⟨h1, h2, h3, h4, h5, h6, h7⟩ := ih (by omega)
    have hi := idxT_lt top (show k < l.length by omega)
    have hz : idxT l.length top k < (drK l m top k).z.length := by rw [drK_len]; exact hi
    have hg : (drK l m top k).z[idxT l.length top k] = l[idxT l.length top k] := by
      have := h1 k (Nat.le_refl _) (by omega)
      rw [List.getElem?_eq_getElem hz, List.getElem?_eq_getElem hi] at this
      exact Option.some.inj this
    have hd : l.getD (idxT l.length top k) ⟨0, 0⟩ = l[idxT l.length top k] := by rw [List.getD_eq_getElem?_getD, List.getElem?_eq_getElem hi]; rfl
    have ho := dr1_ok (hl _ (List.getElem_mem hi)) h6
    have hs := sum_set (drK l m top k).z _ hz (dr1 l[idxT l.length top k] (drK l m top k).amt).1
    rw [hg] at hs
    simp only [drK, hd]
    obtain ⟨o1, o2, o3, o4, o5, o6, o7, o8⟩ := ho
    refine ⟨fun j hj hjl => ?_, fun x hx => ?_, by rw [hs.2, o8]; omega, by rw [hs.1, o7]; omega, by omega, by omega, by omega⟩
    · rw [List.getElem?_set_ne (idxT_ne top (by omega) hjl (by omega))]
      exact h1 j (by omega) hjl
    · rcases List.mem_or_eq_of_mem_set hx with hx | rfl
      · exact h2 x hx
      · exact o1
/-- What is left of a valid tank after a drawing, and the heat that was drawn. -/
def drawH (l : List Lay) (m : Int) (top : Bool) : Int := (drK l m top l.length).hot
def keptL (l : List Lay) (m : Int) (top : Bool) : List Lay := (drK l m top l.length).z.filter fun x => !(x.a == 0 && x.h == 0)
def drawT (l : List Lay) (m : Int) (top : Bool) : List Lay := togF (keptL l m top)
theorem filt_sum : ∀ (z : List Lay), sumA (z.filter fun x => !(x.a == 0 && x.h == 0)) = sumA z ∧ sumH (z.filter fun x => !(x.a == 0 && x.h == 0)) = sumH z := by
  intro z
  induction z with
  | nil => simp
  | cons x z ih =>
    by_cases h : x.a = 0 ∧ x.h = 0
    · rw [List.filter_cons_of_neg (by simp [h.1, h.2])]
      simp only [sumA_cons, sumH_cons]; omega
    · rw [List.filter_cons_of_pos (by simp; omega)]
      simp only [sumA_cons, sumH_cons]; omega
theorem keptL_ok {room : Int} {l : List Lay} {m : Int} (top : Bool) (ht : okT room l) (hm : 0 ≤ m) : (∀ x ∈ keptL l m top, okL x) ∧ (keptL l m top).length ≤ 16 ∧ sumA (keptL l m top) ≤ sumA l ∧ sumH (keptL l m top) + drawH l m top = sumH l ∧ 0 ≤ drawH l m top := by
  obtain ⟨_, h2, h3, h4, h5, _, _⟩ := drK_ok top ht.each hm l.length (Nat.le_refl _)
  have hf := filt_sum (drK l m top l.length).z
  refine ⟨fun x hx => ?_, ?_, ?_, ?_, h5⟩
  · unfold keptL at hx
    rw [List.mem_filter] at hx
    rcases h2 x hx.1 with h | h
    · simp [h.1, h.2] at hx
    · exact h
  · unfold keptL
    refine Nat.le_trans (List.length_filter_le _ _) ?_
    rw [drK_len]; exact ht.len
  · unfold keptL; omega
  · unfold keptL drawH; omega
theorem drawT_ok {room : Int} {l : List Lay} {m : Int} (top : Bool) (ht : okT room l) (hm : 0 ≤ m) : okT room (drawT l m top) ∧ sumH (drawT l m top) + drawH l m top = sumH l ∧ 0 ≤ drawH l m top ∧ drawH l m top ≤ 1000000000 := by
  obtain ⟨h1, h2, h3, h4, h5⟩ := keptL_ok top ht hm
  have h6 := ht.a
  have h7 := ht.h
  have hn := sum_nonneg fun x hx => (h1 x hx).nn
  obtain ⟨k1, k2, k3⟩ := togF_ok ht.room0 ht.room1 h1 h2 (by omega) (by omega)
  unfold drawT
  exact ⟨k1, by omega, h5, by omega⟩
end Go.Proofs.Ytgljpjcclncknaa

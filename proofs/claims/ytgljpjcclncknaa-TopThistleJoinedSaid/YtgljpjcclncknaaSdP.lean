/- TopThistleSold: plain facts. -/
import Derived.Test.YtgljpjcclncknaaGs1
namespace Go.Proofs.Ytgljpjcclncknaa
open Go.RowKit

theorem mayQ_bd : ∀ (l : List Qt) (d : List Int) (s : Snd), mayQ s l d → d.length = l.length ∧ ∀ u ∈ d, 0 ≤ u ∧ u ≤ s.mo
  | [], [], _, _ => ⟨rfl, fun u h => by simp at h⟩
  | [], _ :: _, _, h => by simp [mayQ] at h
  | _ :: _, [], _, h => by simp [mayQ] at h
  | x :: l, u :: d, s, h => by
    obtain ⟨h0, h1, _, h3⟩ := h
    obtain ⟨h4, h5⟩ := mayQ_bd l d (aftG s x u) h3
    refine ⟨by simp [h4], fun y hy => ?_⟩
    rcases List.mem_cons.1 hy with rfl | hy
    · exact ⟨h0, h1⟩
    · exact h5 y hy
theorem byK_same (o : List Int) (k : Nat) : byK o o k = 0 := by unfold byK; omega
theorem stS_same (o : List Int) : ∀ k, stS o o k = []
  | 0 => rfl
  | k + 1 => by rw [stS, stS_same o k, byK_same, if_neg (by omega)]; rfl
theorem stB_cons (x : Qt) (l : List Qt) (u : Int) (o : List Int) (f : Int) : ∀ k, stB (x :: l) (u :: o) (u :: o) f (k + 1) = x.p * u + stB l o o f k
  | 0 => by simp [stB, byK]
  | k + 1 => by
    rw [stB, stB_cons x l u o f k, stB, byK_same, byK_same, if_neg (by omega)]
    simp only [List.getD_cons_succ]
    omega
theorem stB_same (f : Int) : ∀ (l : List Qt) (o : List Int), o.length = l.length → stB l o o f l.length = incQ l o
  | [], [], _ => rfl
  | [], _ :: _, h => by simp at h
  | _ :: _, [], h => by simp at h
  | x :: l, u :: o, h => by
    rw [List.length_cons, stB_cons, stB_same f l o (by simpa using h)]
    rfl
theorem sumQ_snoc (q : Qt) : ∀ l : List Qt, sumQ (l ++ [q]) = sumQ l + q.h
  | [] => by simp [sumQ]
  | x :: l => by
    have ih := sumQ_snoc q l
    simp only [sumQ, List.cons_append, List.foldr_cons] at ih ⊢
    rw [ih]; omega
theorem sumD_snoc (u : Int) : ∀ l : List Int, sumD (l ++ [u]) = sumD l + u
  | [] => by simp [sumD]
  | x :: l => by
    have ih := sumD_snoc u l
    simp only [sumD, List.cons_append, List.foldr_cons] at ih ⊢
    rw [ih]; omega
theorem sumD_bd : ∀ l : List Int, (∀ u ∈ l, 0 ≤ u ∧ u ≤ 30) → 0 ≤ sumD l ∧ sumD l ≤ 30 * l.length
  | [], _ => by simp [sumD]
  | x :: l, h => by
    have ih := sumD_bd l fun u hu => h u (by simp [hu])
    have h1 := h x (by simp)
    simp only [sumD, List.foldr_cons, List.length_cons] at ih ⊢
    omega
theorem sumQ_bd : ∀ l : List Qt, (∀ q ∈ l, okQ q) → 0 ≤ sumQ l ∧ sumQ l ≤ 30 * l.length
  | [], _ => by simp [sumQ]
  | x :: l, h => by
    have ih := sumQ_bd l fun u hu => h u (by simp [hu])
    have h1 := h x (by simp)
    have h2 := h1.2.2
    simp only [sumQ, List.foldr_cons, List.length_cons] at ih ⊢
    omega
end Go.Proofs.Ytgljpjcclncknaa

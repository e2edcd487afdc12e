/- Plants and quarter hours, plainly: what a dispatch results in, and the best one. -/
import Derived.Test.YtgljpjcclncknaaKa
namespace Go.Proofs.Ytgljpjcclncknaa
open Go.RowKit

/-- A quarter hour: its price and the heat that comes. -/
structure Qt where
  p : Int
  h : Int
structure Pla where
  st : Int
  lv : Int
  mo : Int
/-- What a dispatch results in. -/
structure Tl where
  inc : Int
  lft : Int
  spl : Int
structure okP (p : Pla) : Prop where
  s0 : 0 ≤ p.st
  s1 : p.st ≤ 60
  l0 : 0 ≤ p.lv
  l1 : p.lv ≤ p.st
  m0 : 0 ≤ p.mo
  m1 : p.mo ≤ 30
def okQ (q : Qt) : Prop := -100000 ≤ q.p ∧ q.p ≤ 100000 ∧ 0 ≤ q.h ∧ q.h ≤ 30
/-- A stand: the storage, the most, the level, and what has resulted. -/
structure Snd where
  st : Int
  lv : Int
  mo : Int
  t : Tl
def aftG (s : Snd) (x : Qt) (u : Int) : Snd :=
  ⟨s.st, min (s.lv + x.h - u) s.st, s.mo, ⟨s.t.inc + x.p * u, min (s.lv + x.h - u) s.st, s.t.spl + ((s.lv + x.h - u) - min (s.lv + x.h - u) s.st)⟩⟩
def canG (s : Snd) (x : Qt) : Int := min s.mo (s.lv + x.h)
def begG (p : Pla) : Snd := ⟨p.st, p.lv, p.mo, ⟨0, p.lv, 0⟩⟩
def btr (t o : Tl) : Bool := decide (t.inc > o.inc ∨ (t.inc = o.inc ∧ t.lft > o.lft))
/-- The best units from a level on, and what they result in. -/
structure Bst where
  u : List Int
  t : Tl
def cndG (st mo lv : Int) (x : Qt) (rec : Int → Bst) (u : Int) : Bst :=
  let n := aftG ⟨st, lv, mo, ⟨0, 0, 0⟩⟩ x u
  let b := rec n.lv
  ⟨u :: b.u, ⟨n.t.inc + b.t.inc, b.t.lft, n.t.spl + b.t.spl⟩⟩
def pickG (o : Option Bst) (c : Bst) : Option Bst :=
  match o with
  | none => some c
  | some b => if btr c.t b.t = true then some c else some b
def bestK (f : Int → Bst) : Nat → Option Bst
  | 0 => none
  | k + 1 => pickG (bestK f k) (f k)
def fromG (st mo : Int) : List Qt → Int → Bst
  | [], lv => ⟨[], ⟨0, lv, 0⟩⟩
  | x :: l, lv => (bestK (cndG st mo lv x (fromG st mo l)) (canG ⟨st, lv, mo, ⟨0, 0, 0⟩⟩ x + 1).toNat).getD ⟨[], ⟨0, 0, 0⟩⟩
/-- The stands of a dispatch, one after the other. -/
def runQ : Snd → List Qt → List Int → Snd
  | s, x :: l, u :: d => runQ (aftG s x u) l d
  | s, _, _ => s
/-- The units may be delivered. -/
def mayQ : Snd → List Qt → List Int → Prop
  | _, [], [] => True
  | s, x :: l, u :: d => 0 ≤ u ∧ u ≤ s.mo ∧ u ≤ canG s x ∧ mayQ (aftG s x u) l d
  | _, _, _ => False
theorem bestK_some (f : Int → Bst) : ∀ k : Nat, 0 < k → ∃ u : Int, 0 ≤ u ∧ u < k ∧ bestK f k = some (f u) := by
  intro k
  induction k with
  | zero => intro h; omega
  | succ k ih =>
    intro _
    by_cases hk : 0 < k
    · obtain ⟨u, h0, h1, h2⟩ := ih hk
      rw [bestK, h2, pickG]
      split
      · exact ⟨k, by omega, by omega, rfl⟩
      · exact ⟨u, h0, by omega, rfl⟩
    · obtain rfl : k = 0 := by omega
      exact ⟨0, by omega, by omega, rfl⟩
/-- A stand that has resulted in something already. -/
def addT (a : Tl) (s : Snd) : Snd := ⟨s.st, s.lv, s.mo, ⟨a.inc + s.t.inc, s.t.lft, a.spl + s.t.spl⟩⟩
theorem runQ_add : ∀ (l : List Qt) (d : List Int) (a : Tl) (s : Snd), l.length = d.length → runQ (addT a s) l d = addT a (runQ s l d) := by
  intro l
  induction l with
  | nil => intro d a s h; cases d with
    | nil => rfl
    | cons u d => simp at h
  | cons x l ih =>
    intro d a s h
    cases d with
    | nil => simp at h
    | cons u d =>
      have e : aftG (addT a s) x u = addT a (aftG s x u) := by
        simp only [aftG, addT]
        congr 2 <;> omega
      rw [runQ, runQ, e]
      exact ih d a _ (by simpa using h)
theorem mayQ_add : ∀ (l : List Qt) (d : List Int) (a : Tl) (s : Snd), mayQ (addT a s) l d ↔ mayQ s l d := by
  intro l
  induction l with
  | nil => intro d a s; cases d <;> simp [mayQ]
  | cons x l ih =>
    intro d a s
    cases d with
    | nil => simp [mayQ]
    | cons u d =>
      have e : aftG (addT a s) x u = addT a (aftG s x u) := by
        simp only [aftG, addT]
        congr 2 <;> omega
      rw [mayQ, mayQ, e, ih d a]
      rfl
theorem aft_base (s : Snd) (x : Qt) (u : Int) : aftG s x u = addT s.t (aftG ⟨s.st, s.lv, s.mo, ⟨0, 0, 0⟩⟩ x u) := by
  simp only [aftG, addT]
  congr 2 <;> omega
/-- From a level on, the best units may be delivered, and result in what is told. -/
theorem fromG_ok (st mo : Int) (h0 : 0 ≤ st) (hm : 0 ≤ mo) : ∀ (l : List Qt), (∀ q ∈ l, okQ q) → ∀ lv, 0 ≤ lv → lv ≤ st →
    (fromG st mo l lv).u.length = l.length ∧ mayQ ⟨st, lv, mo, ⟨0, lv, 0⟩⟩ l (fromG st mo l lv).u ∧ (runQ ⟨st, lv, mo, ⟨0, lv, 0⟩⟩ l (fromG st mo l lv).u).t = (fromG st mo l lv).t := by
  intro l
  induction l with
  | nil => intro _ lv _ _; exact ⟨rfl, trivial, rfl⟩
  | cons x l ih =>
    intro hq lv hl0 hl1
    obtain ⟨_, _, hx0, hx1⟩ := hq x (by simp)
    obtain ⟨u, hu0, hu1, hu2⟩ := bestK_some (cndG st mo lv x (fromG st mo l)) (canG ⟨st, lv, mo, ⟨0, 0, 0⟩⟩ x + 1).toNat (by unfold canG; simp only; omega)
    have e : fromG st mo (x :: l) lv = cndG st mo lv x (fromG st mo l) u := by rw [fromG, hu2]; rfl
    rw [e]
    have hc : u ≤ canG ⟨st, lv, mo, ⟨0, 0, 0⟩⟩ x := by unfold canG at hu1 ⊢; simp only at hu1 ⊢; omega
    have hn0 : 0 ≤ (aftG ⟨st, lv, mo, ⟨0, 0, 0⟩⟩ x u).lv := by unfold aftG; unfold canG at hc; simp only at hc ⊢; omega
    have hn1 : (aftG ⟨st, lv, mo, ⟨0, 0, 0⟩⟩ x u).lv ≤ st := by unfold aftG; simp only; omega
    obtain ⟨h1, h2, h3⟩ := ih (fun q h => hq q (by simp [h])) _ hn0 hn1
    have ha : aftG ⟨st, lv, mo, ⟨0, lv, 0⟩⟩ x u = addT (aftG ⟨st, lv, mo, ⟨0, 0, 0⟩⟩ x u).t ⟨st, (aftG ⟨st, lv, mo, ⟨0, 0, 0⟩⟩ x u).lv, mo, ⟨0, (aftG ⟨st, lv, mo, ⟨0, 0, 0⟩⟩ x u).lv, 0⟩⟩ := by
      simp only [aftG, addT]
      congr 2 <;> omega
    refine ⟨by simp [cndG, h1], ?_, ?_⟩
    · refine ⟨hu0, by unfold canG at hc; simp only at hc ⊢; omega, hc, ?_⟩
      rw [ha]
      exact (mayQ_add _ _ _ _).2 h2
    · show (runQ (aftG ⟨st, lv, mo, ⟨0, lv, 0⟩⟩ x u) l _).t = _
      rw [ha, runQ_add _ _ _ _ h1.symm]
      show Tl.mk _ _ _ = _
      rw [h3]
      rfl
def sumD (d : List Int) : Int := d.foldr (fun u s => u + s) 0
def sumQ (l : List Qt) : Int := l.foldr (fun q s => q.h + s) 0
def incQ : List Qt → List Int → Int
  | x :: l, u :: d => x.p * u + incQ l d
  | _, _ => 0
/-- What comes in is delivered, left or spilled; the income is that of all units. -/
theorem runQ_sum : ∀ (l : List Qt) (d : List Int) (s : Snd), l.length = d.length → s.t.lft = s.lv →
    (runQ s l d).t.lft = (runQ s l d).lv ∧ sumD d + (runQ s l d).t.lft + (runQ s l d).t.spl = s.lv + s.t.spl + sumQ l ∧ (runQ s l d).t.inc = s.t.inc + incQ l d := by
  intro l
  induction l with
  | nil => intro d s h hs; cases d with
    | nil => simp [runQ, sumD, sumQ, incQ, hs]
    | cons u d => simp at h
  | cons x l ih =>
    intro d s h hs
    cases d with
    | nil => simp at h
    | cons u d =>
      obtain ⟨h1, h2, h3⟩ := ih d (aftG s x u) (by simpa using h) rfl
      refine ⟨h1, ?_, ?_⟩
      · show sumD (u :: d) + (runQ (aftG s x u) l d).t.lft + (runQ (aftG s x u) l d).t.spl = s.lv + s.t.spl + sumQ (x :: l)
        have e1 : sumD (u :: d) = u + sumD d := rfl
        have e2 : sumQ (x :: l) = x.h + sumQ l := rfl
        have e3 : (aftG s x u).lv = min (s.lv + x.h - u) s.st := rfl
        have e4 : (aftG s x u).t.spl = s.t.spl + ((s.lv + x.h - u) - min (s.lv + x.h - u) s.st) := rfl
        omega
      · show (runQ (aftG s x u) l d).t.inc = s.t.inc + (x.p * u + incQ l d)
        have e : (aftG s x u).t.inc = s.t.inc + x.p * u := rfl
        omega
end Go.Proofs.Ytgljpjcclncknaa

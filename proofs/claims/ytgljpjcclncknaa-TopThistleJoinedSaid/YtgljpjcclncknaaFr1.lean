/- The best dispatch from a place on: what the map knows. -/
import Derived.Test.YtgljpjcclncknaaMp1
import Derived.Maps.AppendAt
namespace Go.Proofs.Ytgljpjcclncknaa
open Go.RowKit

/-- A best dispatch as a value. -/
def encB (A : Option Addr) (c : Nat) (b : Bst) : Value := .agg #[.slice A b.u.length c, .int .i64 b.t.inc, .int .i64 b.t.lft, .int .i64 b.t.spl]
/-- A best dispatch whose units lie in memory. -/
def UnR (w : World) (A : Option Addr) (c : Nat) (b : Bst) : Prop := b.u.length ≤ c ∧ IntsR w w.heap.size A b.u ∧ (b.u = [] → A = none ∧ c = 0) ∧ ∀ a, A = some a → ∃ cur z, w.heap[a.block]? = some (.cells cur 3 z)
/-- What the map of block r knows: the best from places on. -/
def KnM (st mo : Int) (qs : List Qt) (w : World) (r : Nat) : Prop :=
  ∃ l, MapP w r l ∧ ∀ k v, getP k l = some v → ∃ (q : Nat) (A : Option Addr) (c : Nat), k.1 = q ∧ q ≤ qs.length ∧ 0 ≤ k.2 ∧ k.2 ≤ st ∧ v = encB A c (fromG st mo (qs.drop q) k.2) ∧ UnR w A c (fromG st mo (qs.drop q) k.2)
theorem Rw.grow {w w' : World} {B sz r : Nat} {A : Option Addr} {l : List (List Value)} {m : List ((Int × Int) × Value)} (h : Rw w B sz A l) (hm : MapP w r m) (hg : w.grownBy w' (some r)) : Rw w' B sz A l := fun hn => by
  obtain ⟨b, off, e, hb, hc⟩ := h hn
  refine ⟨b, off, e, hb, fun k hk j v hv => ?_⟩
  have hc1 := hc k hk j v hv
  have hne : b ≠ r := fun e => by rw [hm.nocell _ e] at hc1; cases hc1
  exact (hg.cell hc1 (fun e => hne (by cases e; rfl)))
theorem UnR.grow {w w' : World} {r c : Nat} {A : Option Addr} {b : Bst} {m : List ((Int × Int) × Value)} (h : UnR w A c b) (hm : MapP w r m) (hg : w.grownBy w' (some r)) : UnR w' A c b :=
  ⟨h.1, Rw.more (Rw.grow h.2.1 hm hg) hg.size, h.2.2.1, fun a ha => by
    obtain ⟨cur, z, h1⟩ := h.2.2.2 a ha
    refine ⟨cur, z, (hg.block _ (blk_lt h1) fun e => ?_).trans h1⟩
    obtain ⟨es, ck, h2, _⟩ := hm
    cases e
    rw [h2] at h1; cases h1⟩
/-- A box of another type is stored into. -/
theorem UnR.box {w w' : World} {g c : Nat} {A : Option Addr} {b : Bst} (h : UnR w A c b) (hg : w.grownBy w' (some g)) {cs : Array Value} {T : TypeId} {y : Nat × Nat} (ho : w.heap[g]? = some (.cells cs T y)) (hT : T ≠ 3) : UnR w' A c b := by
  have hne : ∀ a, A = some a → a.block ≠ g := fun a ha e => by
    obtain ⟨cur, z, h1⟩ := h.2.2.2 a ha
    rw [e, ho] at h1
    cases h1
    exact hT rfl
  refine ⟨h.1, Rw.more (fun hn => ?_) hg.size, h.2.2.1, fun a ha => ?_⟩
  · obtain ⟨b, off, e, hb, hc⟩ := h.2.1 hn
    exact ⟨b, off, e, hb, fun k hk j v hv => hg.cell (hc k hk j v hv) (fun e2 => hne _ e (by cases e2; rfl))⟩
  · obtain ⟨cur, z, h1⟩ := h.2.2.2 a ha
    exact ⟨cur, z, (hg.block _ (blk_lt h1) fun e => hne a ha (by cases e; rfl)).trans h1⟩
theorem UnR.below {w w' : World} {c : Nat} {A : Option Addr} {b : Bst} (h : UnR w A c b) (hb : Below w.heap.size w w') : UnR w' A c b := ⟨h.1, rw_to h.2.1 hb, h.2.2.1, fun a ha => by
  obtain ⟨cur, z, h1⟩ := h.2.2.2 a ha
  exact ⟨cur, z, blk_step hb h1⟩⟩
theorem KnM.map {st mo : Int} {qs : List Qt} {w : World} {r : Nat} (h : KnM st mo qs w r) : ∃ l, MapP w r l := by obtain ⟨l, h1, _⟩ := h; exact ⟨l, h1⟩
theorem KnM.lt {st mo : Int} {qs : List Qt} {w : World} {r : Nat} (h : KnM st mo qs w r) : r < w.heap.size := by obtain ⟨l, h1, _⟩ := h; exact h1.lt
theorem KnM.below {st mo : Int} {qs : List Qt} {w w' : World} {r : Nat} (h : KnM st mo qs w r) (hb : Below w.heap.size w w') : KnM st mo qs w' r := by
  obtain ⟨l, h1, h2⟩ := h
  refine ⟨l, h1.keep (hb.block _ h1.lt), fun k v hk => ?_⟩
  obtain ⟨q, A, c, e1, e2, e3, e4, e5, e6⟩ := h2 k v hk
  exact ⟨q, A, c, e1, e2, e3, e4, e5, e6.below hb⟩
theorem KnM.box {st mo : Int} {qs : List Qt} {w w' : World} {r g : Nat} (h : KnM st mo qs w r) (hg : w.grownBy w' (some g)) {cs : Array Value} {T : TypeId} {y : Nat × Nat} (ho : w.heap[g]? = some (.cells cs T y)) (hT : T ≠ 3) : KnM st mo qs w' r := by
  obtain ⟨l, h1, h2⟩ := h
  have hne : r ≠ g := fun e => by
    obtain ⟨es, ck, h3, _⟩ := h1
    rw [e, ho] at h3; cases h3
  refine ⟨l, h1.keep (hg.block _ h1.lt fun e => hne (by cases e; rfl)), fun k v hk => ?_⟩
  obtain ⟨q, A, c, e1, e2, e3, e4, e5, e6⟩ := h2 k v hk
  exact ⟨q, A, c, e1, e2, e3, e4, e5, e6.box hg ho hT⟩
theorem grown_set4 (W : World) (b : Nat) (v0 v1 v2 v3 : Value) : W.grownBy ((((W.setCell ⟨b, 0, none⟩ v0).setCell ⟨b, 1, none⟩ v1).setCell ⟨b, 2, none⟩ v2).setCell ⟨b, 3, none⟩ v3) (some b) := by
  have h : Below 0 W ((((W.setCell ⟨b, 0, none⟩ v0).setCell ⟨b, 1, none⟩ v1).setCell ⟨b, 2, none⟩ v2).setCell ⟨b, 3, none⟩ v3) := Below.setCell (Below.setCell (Below.setCell (Below.setCell (Below.refl 0 W) (p := ⟨b, 0, none⟩) (Nat.zero_le _) _) (p := ⟨b, 1, none⟩) (Nat.zero_le _) _) (p := ⟨b, 2, none⟩) (Nat.zero_le _) _) (p := ⟨b, 3, none⟩) (Nat.zero_le _) _
  refine ⟨h.os, h.tape, h.output, h.size, fun k _ hne => ?_⟩
  have hkb : k ≠ b := fun e => hne (by rw [e])
  rw [heap_setCell_other _ _ _ _ hkb, heap_setCell_other _ _ _ _ hkb, heap_setCell_other _ _ _ _ hkb, heap_setCell_other _ _ _ _ hkb]
theorem KnM.put {st mo : Int} {qs : List Qt} {w w' : World} {r q c : Nat} {A : Option Addr} {lv : Int} {l : List ((Int × Int) × Value)} (h1 : MapP w r l) (h2 : ∀ k v, getP k l = some v → ∃ (q : Nat) (A : Option Addr) (c : Nat), k.1 = q ∧ q ≤ qs.length ∧ 0 ≤ k.2 ∧ k.2 ≤ st ∧ v = encB A c (fromG st mo (qs.drop q) k.2) ∧ UnR w A c (fromG st mo (qs.drop q) k.2))
    (hq : q ≤ qs.length) (h0 : 0 ≤ lv) (hs : lv ≤ st) (hu : UnR w A c (fromG st mo (qs.drop q) lv)) (hm : MapP w' r (setP ((q : Int), lv) (encB A c (fromG st mo (qs.drop q) lv)) l)) (hg : w.grownBy w' (some r)) : KnM st mo qs w' r := by
  refine ⟨_, hm, fun k v hk => ?_⟩
  rw [getP_setP] at hk
  by_cases e : k = ((q : Int), lv)
  · rw [if_pos e] at hk
    cases hk
    subst e
    exact ⟨q, A, c, rfl, hq, h0, hs, rfl, hu.grow h1 hg⟩
  · rw [if_neg e] at hk
    obtain ⟨q2, A2, c2, e1, e2, e3, e4, e5, e6⟩ := h2 k v hk
    exact ⟨q2, A2, c2, e1, e2, e3, e4, e5, e6.grow h1 hg⟩
/-- What from hands back. -/
def RetF (st mo : Int) (qs : List Qt) (r q : Nat) (lv : Int) (w : World) (e : Ending) (w' : World) : Prop :=
  ∃ (A : Option Addr) (c : Nat), e = .returned (encB A c (fromG st mo (qs.drop q) lv)) ∧ UnR w' A c (fromG st mo (qs.drop q) lv) ∧ w.grownBy w' (some r) ∧ KnM st mo qs w' r
theorem grown_below {w w' : World} {r : Nat} (h : Below w.heap.size w w') : w.grownBy w' (some r) := ⟨h.os, h.tape, h.output, h.size, fun k hk _ => h.block k hk⟩
theorem Try.resB {fn : Func} {t : Tmp} (h : fn.results = #[.cell t 98]) (tmps : Array Value) (w : World) {b : Nat} {T : TypeId} {v0 v1 v2 v3 : Value} (ht : tmps.getD t undef = .pointer (some ⟨b, 0, none⟩)) (hb : w.heap[b]? = some (.cells #[v0, v1, v2, v3] T (0, 0))) :
    (results fn tmps).run Try.prog w = .ok (.agg #[v0, v1, v2, v3]) w := by
  have c0 : w.cell? ⟨b, 0, none⟩ = some v0 := by rw [cell_of_row w _ 0 _ _ _ hb]; rfl
  have c1 : w.cell? ⟨b, 1, none⟩ = some v1 := by rw [cell_of_row w _ 1 _ _ _ hb]; rfl
  have c2 : w.cell? ⟨b, 2, none⟩ = some v2 := by rw [cell_of_row w _ 2 _ _ _ hb]; rfl
  have c3 : w.cell? ⟨b, 3, none⟩ = some v3 := by rw [cell_of_row w _ 3 _ _ _ hb]; rfl
  rw [Array.getD_eq_getD_getElem?] at ht
  simp only [results, h]
  simp [go_sem, ht, c0, c1, c2, c3]
theorem set4_block {W : World} {b : Nat} {T : TypeId} {a0 a1 a2 a3 v0 v1 v2 v3 : Value} (h : W.heap[b]? = some (.cells #[a0, a1, a2, a3] T (0, 0))) :
    ((((W.setCell ⟨b, 0, none⟩ v0).setCell ⟨b, 1, none⟩ v1).setCell ⟨b, 2, none⟩ v2).setCell ⟨b, 3, none⟩ v3).heap[b]? = some (.cells #[v0, v1, v2, v3] T (0, 0)) :=
  heap_setCell_same _ b 3 _ T v3 (heap_setCell_same _ b 2 _ T v2 (heap_setCell_same _ b 1 _ T v1 (heap_setCell_same W b 0 _ T v0 h)))
theorem set4_other {W : World} {b d : Nat} (v0 v1 v2 v3 : Value) (h : d ≠ b) : ((((W.setCell ⟨b, 0, none⟩ v0).setCell ⟨b, 1, none⟩ v1).setCell ⟨b, 2, none⟩ v2).setCell ⟨b, 3, none⟩ v3).heap[d]? = W.heap[d]? := by
  rw [heap_setCell_other _ _ _ _ h, heap_setCell_other _ _ _ _ h, heap_setCell_other _ _ _ _ h, heap_setCell_other _ _ _ _ h]
theorem below_set4 {B : Nat} {a w : World} (h : Below B a w) {b : Nat} (hb : B ≤ b) (v0 v1 v2 v3 : Value) : Below B a ((((w.setCell ⟨b, 0, none⟩ v0).setCell ⟨b, 1, none⟩ v1).setCell ⟨b, 2, none⟩ v2).setCell ⟨b, 3, none⟩ v3) :=
  Below.setCell (Below.setCell (Below.setCell (Below.setCell h (p := ⟨b, 0, none⟩) hb _) (p := ⟨b, 1, none⟩) hb _) (p := ⟨b, 2, none⟩) hb _) (p := ⟨b, 3, none⟩) hb _
end Go.Proofs.Ytgljpjcclncknaa

/- TopThistleSold: lemmas for its regions. -/
import Derived.Test.YtgljpjcclncknaaSl
import Derived.Test.YtgljpjcclncknaaAp
namespace Go.Proofs.Ytgljpjcclncknaa
open Go.RowKit

/-- The region with a number, in loops too. -/
def findD (n : Nat) : Code → Option Code
  | .region k ops b => if k = n then some (.region k ops b) else none
  | .seq a b => (findD n a).or (findD n b)
  | .block _ c => findD n c
  | .cond _ a b => (findD n a).or (findD n b)
  | .scope c => findD n c
  | .loop c => findD n c
  | _ => none
noncomputable def sdR (n : Nat) : Code := (findD n (Try.f3.body.getD .skip)).getD .skip
/-- A box that a region made and that holds a tank with own layers. -/
structure NTk (X : World) (room : Int) (ls : List Lay) (b : Nat) (W : World) : Prop where
  ex : ∃ A c, W.heap[b]? = some (.cells #[.int .i64 room, .slice A ls.length c] 33 (0, 0)) ∧ OwnL W X.heap.size A c ls
  lo : X.heap.size ≤ b
  low : Below X.heap.size X W
theorem OwnL.typ {w : World} {base c : Nat} {a : Addr} {ys : List Lay} (h : OwnL w base (some a) c ys) : ∃ cur z, w.heap[a.block]? = some (.cells cur 76 z) := by
  rcases h.2 with ⟨hv, _⟩ | ⟨g, cap, cur, hv, _, hg, _⟩
  · cases hv
  · cases hv; exact ⟨_, _, hg⟩
theorem ntk1 {X W : World} {room : Int} {ls : List Lay} {A : Option Addr} {c : Nat} (h : Below X.heap.size X W) (ho : OwnL W X.heap.size A c ls) :
    NTk X room ls W.heap.size (W.alloc (.cells #[.int .i64 room, .slice A ls.length c] 33)) :=
  ⟨⟨A, c, heap_alloc_new _ _, ho.below (Below.alloc (Below.refl _ _) (Nat.le_refl _) _)⟩, h.size, h.alloc h.size _⟩
theorem ntk2 {X W : World} {room : Int} {ls : List Lay} {A : Option Addr} {b c : Nat} {u0 u1 : Value} (h : Below X.heap.size X W) (hl : X.heap.size ≤ b) (hk : W.heap[b]? = some (.cells #[u0, u1] 33 (0, 0))) (ho : OwnL W X.heap.size A c ls) :
    NTk X room ls b ((W.setCell ⟨b, 0, none⟩ (.int .i64 room)).setCell ⟨b, 1, none⟩ (.slice A ls.length c)) :=
  ⟨⟨A, c, set2_block hk, ho.keep (grown_set2 _ _ _ _) fun a ha e => by
    subst ha
    obtain ⟨cur, z, h1⟩ := ho.typ
    rw [← Option.some.inj e, hk] at h1
    cases h1⟩, hl, Below.set2 h hl _ _⟩
theorem NTk.next {X W W' : World} {room : Int} {ls : List Lay} {b : Nat} (h : NTk X room ls b W) (hb : Below W.heap.size W W') : NTk X room ls b W' := by
  obtain ⟨A, c, h1, h2⟩ := h.ex
  exact ⟨⟨A, c, (hb.block b (blk_lt h1)).trans h1, h2.below hb⟩, h.lo, h.low.trans (hb.mono h.low.size)⟩
/-- A box that a region made and that holds what a dispatch results in. -/
structure NTo (X : World) (t : Tl) (b : Nat) (W : World) : Prop where
  ex : W.heap[b]? = some (.cells #[.int .i64 t.inc, .int .i64 t.lft, .int .i64 t.spl] 48 (0, 0))
  lo : X.heap.size ≤ b
  low : Below X.heap.size X W
theorem nto1 {X W : World} {t : Tl} (h : Below X.heap.size X W) : NTo X t W.heap.size (W.alloc (.cells #[.int .i64 t.inc, .int .i64 t.lft, .int .i64 t.spl] 48)) :=
  ⟨heap_alloc_new _ _, h.size, h.alloc h.size _⟩
theorem nto2 {X W : World} {t : Tl} {b : Nat} {u0 u1 u2 : Value} (h : Below X.heap.size X W) (hl : X.heap.size ≤ b) (hk : W.heap[b]? = some (.cells #[u0, u1, u2] 48 (0, 0))) :
    NTo X t b (((W.setCell ⟨b, 0, none⟩ (.int .i64 t.inc)).setCell ⟨b, 1, none⟩ (.int .i64 t.lft)).setCell ⟨b, 2, none⟩ (.int .i64 t.spl)) :=
  ⟨set3_block hk, hl, Below.set3 h hl _ _ _⟩
theorem OwnI.toldb {W : World} {base b : Nat} {v : Value} {xs : List Int} {u0 u1 u2 : Value} (h : OwnI W base v xs) (hk : W.heap[b]? = some (.cells #[u0, u1, u2] 48 (0, 0))) (v0 v1 v2 : Value) :
    OwnI (((W.setCell ⟨b, 0, none⟩ v0).setCell ⟨b, 1, none⟩ v1).setCell ⟨b, 2, none⟩ v2) base v xs :=
  World.ownsRow.kept h (grown_set3 W b v0 v1 v2) (by
    rcases hv : v.ownBlock with _ | k
    · exact .inl rfl
    · refine .inr fun e => ?_
      rcases h.2 with ⟨rfl, _⟩ | ⟨g, cap, cur, rfl, _, hg, _⟩
      · cases hv
      · simp [Value.ownBlock] at hv
        subst hv
        rw [Option.some.inj e, hk] at hg
        cases hg)
theorem NTk.drew {X W : World} {room : Int} {ls : List Lay} {b : Nat} (h : NTk X room ls b W) : NTk X room ls b W.drew := h.next (Bl.drew (Below.refl _ _))
end Go.Proofs.Ytgljpjcclncknaa

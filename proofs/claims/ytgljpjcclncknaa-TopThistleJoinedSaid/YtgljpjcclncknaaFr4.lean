/- from, whole: by what is left. -/
import Derived.Test.YtgljpjcclncknaaFr3
namespace Go.Proofs.Ytgljpjcclncknaa
open Go.RowKit

theorem from_c (st mo lv0 : Int) (A : Option Addr) (c r : Nat) (qs : List Qt) (hl : qs.length ≤ 8) (hqs : ∀ x ∈ qs, okQ x) (hst0 : 0 ≤ st) (hst1 : st ≤ 60) (hmo0 : 0 ≤ mo) (hmo1 : mo ≤ 30) :
    ∀ (n q : Nat), qs.length - q = n → q ≤ qs.length → ∀ (lv : Int) (W : World), 0 ≤ lv → lv ≤ st → QtR W W.heap.size A qs → KnM st mo qs W r →
      Calls Try.prog 36 #[skV st mo lv0 A qs.length c r, keyP ((q : Int), lv)] W (RetF st mo qs r q lv W) := by
  intro n
  induction n with
  | zero =>
    intro q hn hq lv W h0 h1 hr hk
    obtain rfl : q = qs.length := by omega
    exact fromEnd_c st mo lv0 lv A c r qs W hk
  | succ n ih =>
    intro q hn hq lv W h0 h1 hr hk
    obtain ⟨l, hm, hkl⟩ := hk
    rcases hg : getP ((q : Int), lv) l with _ | v
    · refine fromSeek_c st mo lv0 lv A c r q qs W hl hqs hst0 hst1 hmo0 hmo1 h0 h1 (by omega) hr ⟨l, hm, hkl⟩ l hm hg ?_
      intro lv2 W2 g0 g1 hR hK
      have h := ih (q + 1) (by omega) (by omega) lv2 W2 g0 g1 hR hK
      rwa [Int.natCast_succ] at h
    · obtain ⟨q2, B, d, e1, e2, e3, e4, e5, e6⟩ := hkl _ _ hg
      obtain rfl : q = q2 := by have h : (q : Int) = (q2 : Int) := e1; omega
      subst e5
      exact fromKnown_c st mo lv0 lv A c r q qs W (by omega) ⟨l, hm, hkl⟩ l hm B d hg e6
end Go.Proofs.Ytgljpjcclncknaa

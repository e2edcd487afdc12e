/- Dispatch, whole. -/
import Derived.Test.YtgljpjcclncknaaDi
import Derived.Test.YtgljpjcclncknaaFr4
namespace Go.Proofs.Ytgljpjcclncknaa
open Go.RowKit

theorem Dispatch_c (p : Pla) (A : Option Addr) (c : Nat) (l : List Qt) (w : World) (hp : okP p) (hl : l.length ≤ 8) (hq : ∀ q ∈ l, okQ q) (hr : QtR w w.heap.size A l) :
    Calls Try.prog 12 #[plaV p, .slice A l.length c] w (RetDi p l w) :=
  Dispatch_c0 p A c l w hp hl hq hr fun A c r W h1 h2 => from_c p.st p.mo p.lv A c r l hl hq hp.s0 hp.s1 hp.m0 hp.m1 l.length 0 (Nat.sub_zero _) (Nat.zero_le _) p.lv W hp.l0 hp.l1 h1 h2
end Go.Proofs.Ytgljpjcclncknaa

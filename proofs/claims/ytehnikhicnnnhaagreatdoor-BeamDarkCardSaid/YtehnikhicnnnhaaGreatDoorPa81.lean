/- The statements' rounds: rounds of orders of the reference as those of the program. -/
import Derived.Test.YtehnikhicnnnhaaGreatDoorPa23
namespace Go.Proofs.YtehnikhicnnnhaaGreatDoor
open Go.RowKit
def rrE(tk:Int)(n:Nat):Int:=if(256:Int)<n then 5 else if 10000000<tk+n then 3 else 0
theorem runE_ok{g:Grd}{f:Fld}{n:Nat}(h:fieldC g f=0):runE g f n=rrE f.tick n:=by
 unfold runE rrE
 rw[h]
 by_cases h1:(256:Int)<n
 ·rw[if_pos h1,decide_eq_true h1];rfl
 ·rw[if_neg h1,decide_eq_false h1]
  by_cases h2:(10000000:Int)<f.tick+n
  ·rw[if_pos h2,decide_eq_true (by omega)];rfl
  ·rw[if_neg h2,decide_eq_false (by omega)];rfl
structure OwnR(w:World)(base:Nat)(A:Option Addr)(c:Nat)(ys:List RA):Prop where
 row:w.ownsRow base 200 1 (.slice A ys.length c) ys.length (ys.map encR).flatten
 each:∀x∈ys,Rw w w.heap.size 3 x.A (x.os.map encO)
 apart:∀x∈ys,x.os≠ []→∀a,x.A=some a→∀d,A=some d→a.block≠d.block
theorem OwnR.nil_(w:World)(base:Nat):OwnR w base none 0 []:=⟨World.ownsRow_nil _ _ _ _,by simp,by simp⟩
theorem OwnR.below{w w':World}{base c:Nat}{A:Option Addr}{ys:List RA}(h:OwnR w base A c ys)(hb:Below w.heap.size w w'):OwnR w' base A c ys:=
 ⟨World.ownsRow.kept h.row (row:=none) (grown_of hb) (by cases(Value.slice A ys.length c).ownBlock<;>simp),fun x hx=>Rw.more (Rw.belowB (w0:=w) (h.each x hx) hb (Nat.le_refl _)) hb.size,h.apart⟩
end Go.Proofs.YtehnikhicnnnhaaGreatDoor
/- from: at the end, and at a known place. -/
import Derived.Test.YtgljpjcclncknaaFr1
namespace Go.Proofs.Ytgljpjcclncknaa
open Go.RowKit

theorem Try.zeroBest (w : World) : (zeroValue 98).run Try.prog w = .ok (.agg #[.slice none 0 0, .int .i64 0, .int .i64 0, .int .i64 0]) w := by kernel_rfl
def skV (st mo lv0 : Int) (A : Option Addr) (n c r : Nat) : Value := .agg #[.int .i64 st, .int .i64 lv0, .int .i64 mo, .slice A n c, .map (some r)]
set_option maxRecDepth 100000 in
set_option maxHeartbeats 4000000 in
/-- At the end: nothing is left to deliver. -/
theorem fromEnd_c (st mo lv0 lv : Int) (A : Option Addr) (c r : Nat) (qs : List Qt) (w : World) (hk : KnM st mo qs w r) :
    Calls Try.prog 36 #[skV st mo lv0 A qs.length c r, keyP ((qs.length : Int), lv)] w (RetF st mo qs r qs.length lv w) := by
  have HK := Lib.hid hk
  have heq : ((qs.length : Int) == (qs.length : Int)) = true := by simp
  clear hk
  unfold skV keyP
  go_enter Try.func36, Try.ntmps36
  go_wp2_with fail
  have e : fromG st mo (qs.drop qs.length) lv = ⟨[], ⟨0, lv, 0⟩⟩ := by rw [List.drop_length]; rfl
  refine bodyPost_ret (Try.resB rfl _ _ rfl (blk_new (by simp))) rfl ⟨none, 0, ?_, ?_, grown_below (by (repeat first | (with_reducible first | assumption | exact Below.refl _ _ | refine Bl.drew ?_ | refine Bl.drewN ?_ _ | refine Bl.alloc ?_ _ | refine Bl.set ?_ _ ?_) | (with_reducible apply Bl.step'; (focus (with_reducible assumption))) | omega | (focus (simp; done)) | (focus (simp; omega)))), HK.out.below (by (repeat first | (with_reducible first | assumption | exact Below.refl _ _ | refine Bl.drew ?_ | refine Bl.drewN ?_ _ | refine Bl.alloc ?_ _ | refine Bl.set ?_ _ ?_) | (with_reducible apply Bl.step'; (focus (with_reducible assumption))) | omega | (focus (simp; done)) | (focus (simp; omega))))⟩
  · rw [e]; rfl
  · rw [e]; exact ⟨Nat.zero_le _, Rw.nil_, fun _ => ⟨rfl, rfl⟩, fun a h => by cases h⟩
/-- The boxes of the arguments and of the result. -/
def frW (w : World) (st mo lv0 : Int) (A : Option Addr) (n c r q : Nat) (lv : Int) : World :=
  ((w.alloc (.cells #[.int .i64 st, .int .i64 lv0, .int .i64 mo, .slice A n c, .map (some r)] 101)).alloc (.cells #[.int .i64 q, .int .i64 lv] 104)).alloc (.cells #[.slice none 0 0, .int .i64 0, .int .i64 0, .int .i64 0] 98)
set_option maxRecDepth 100000 in
set_option maxHeartbeats 4000000 in
/-- At a place that is known. -/
theorem fromKnown_c (st mo lv0 lv : Int) (A : Option Addr) (c r q : Nat) (qs : List Qt) (w : World) (hq : q < qs.length) (hk : KnM st mo qs w r) (l : List ((Int × Int) × Value)) (hm : MapP w r l)
    (B : Option Addr) (d : Nat) (hg : getP ((q : Int), lv) l = some (encB B d (fromG st mo (qs.drop q) lv))) (hu : UnR w B d (fromG st mo (qs.drop q) lv)) :
    Calls Try.prog 36 #[skV st mo lv0 A qs.length c r, keyP ((q : Int), lv)] w (RetF st mo qs r q lv w) := by
  have HK := Lib.hid hk
  have heq : ((q : Int) == (qs.length : Int)) = false := by simp; omega
  have hb3 : Below w.heap.size w (frW w st mo lv0 A qs.length c r q lv) := by unfold frW; (repeat first | (with_reducible first | assumption | exact Below.refl _ _ | refine Bl.drew ?_ | refine Bl.drewN ?_ _ | refine Bl.alloc ?_ _ | refine Bl.set ?_ _ ?_) | (with_reducible apply Bl.step'; (focus (with_reducible assumption))) | omega | (focus (simp; done)) | (focus (simp; omega)))
  have hlk := Try.lookupP ((q : Int), lv) _ (Try.zeroBest (frW w st mo lv0 A qs.length c r q lv)) (hm.keep (hb3.block _ hm.lt))
  rw [hg] at hlk
  obtain ⟨b, hb⟩ : ∃ b, b = fromG st mo (qs.drop q) lv := ⟨_, rfl⟩
  rw [← hb] at hlk hu
  simp only [Option.getD_some, Option.isSome_some, encB, frW, keyP] at hlk
  have HU := Lib.hid hu
  have HBB := Lib.hid hb
  clear hk hm hg hu hb hb3
  unfold skV keyP
  go_enter Try.func36, Try.ntmps36
  go_wp2_with fail
  refine bodyPost_ret (Try.resB rfl _ _ rfl (blk_alloc (blk_new (by simp)))) rfl ⟨B, d, ?_, ?_, grown_below (by (repeat first | (with_reducible first | assumption | exact Below.refl _ _ | refine Bl.drew ?_ | refine Bl.drewN ?_ _ | refine Bl.alloc ?_ _ | refine Bl.set ?_ _ ?_) | (with_reducible apply Bl.step'; (focus (with_reducible assumption))) | omega | (focus (simp; done)) | (focus (simp; omega)))), HK.out.below (by (repeat first | (with_reducible first | assumption | exact Below.refl _ _ | refine Bl.drew ?_ | refine Bl.drewN ?_ _ | refine Bl.alloc ?_ _ | refine Bl.set ?_ _ ?_) | (with_reducible apply Bl.step'; (focus (with_reducible assumption))) | omega | (focus (simp; done)) | (focus (simp; omega))))⟩
  · rw [← HBB.out]; rfl
  · rw [← HBB.out]; exact HU.out.below (by (repeat first | (with_reducible first | assumption | exact Below.refl _ _ | refine Bl.drew ?_ | refine Bl.drewN ?_ _ | refine Bl.alloc ?_ _ | refine Bl.set ?_ _ ?_) | (with_reducible apply Bl.step'; (focus (with_reducible assumption))) | omega | (focus (simp; done)) | (focus (simp; omega))))
end Go.Proofs.Ytgljpjcclncknaa

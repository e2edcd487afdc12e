/- The layers of a tank, one after the other: the iterator. -/
import Derived.RangeFuncNested
import Derived.RangeFuncBound
import Derived.RangeFuncCalls
import Derived.RangeFuncLeaves
import Derived.Shelf.Abstract
import Derived.Shelf.RegionOpen
import Derived.WalkKit
import Derived.OwnWalkIn
import Derived.TacticsInMore
import Derived.LoopNIn
import Derived.LoopIn
import Derived.Test.YtgljpjcclncknaaTs1
namespace Go.Proofs.Ytgljpjcclncknaa
open Go.RowKit Go.Shelf
attribute [local go_sem] Oper.semAt_some

/-- What a round keeps: what lies below n₀, and the two boxes that the iterator has captured. -/
def KpN (n₀ Bg Bn : Nat) (A B : World) : Prop := Below n₀ A B ∧ B.heap[Bg]? = A.heap[Bg]? ∧ B.heap[Bn]? = A.heap[Bn]?
theorem KpN.t {n₀ Bg Bn : Nat} {A B C : World} (h : KpN n₀ Bg Bn A B) (k : KpN n₀ Bg Bn B C) : KpN n₀ Bg Bn A C := ⟨h.1.trans k.1, k.2.1.trans h.2.1, k.2.2.trans h.2.2⟩
theorem KpN.refl (n₀ Bg Bn : Nat) (A : World) : KpN n₀ Bg Bn A A := ⟨Below.refl _ _, rfl, rfl⟩
theorem KpN.of {n₀ Bg Bn : Nat} {A B : World} (h : Below A.heap.size A B) (hn : n₀ ≤ A.heap.size) (hg : Bg < A.heap.size) (hb : Bn < A.heap.size) : KpN n₀ Bg Bn A B := ⟨h.mono hn, h.block _ hg, h.block _ hb⟩
theorem grown_of {A B : World} (h : Below A.heap.size A B) : A.grownBy B none := ⟨h.os, h.tape, h.output, h.size, fun k hk _ => h.block k hk⟩
theorem KpN.low {n₀ Bg Bn : Nat} {A B : World} (h : KpN n₀ Bg Bn A B) : Below n₀ A B := h.1
theorem kpN_b {n₀ Bg Bn : Nat} {w : World} (hn : n₀ ≤ w.heap.size) (hg : Bg < w.heap.size) (hb : Bn < w.heap.size) (W : World) (l : Nat) (o o' : Obj) (hl : w.heap.size ≤ l) (h : W.heap[l]? = some o) (h1 : o.isCells = false) (h2 : o.isWalk = false) :
    KpN n₀ Bg Bn W (W.putObj l o') :=
  ⟨belowK_b (w := w) hn W l o o' hl h h1 h2, World.putObj_heap_other (by omega), World.putObj_heap_other (by omega)⟩
/-- The first k of n visits. -/
def vis (n : Nat) : (k : Nat) → k ≤ n → List (Fin n)
  | 0, _ => []
  | k + 1, h => vis n k (by omega) ++ [⟨k, by omega⟩]
theorem vis_len {n : Nat} : ∀ {k : Nat} (h : k ≤ n), (vis n k h).length = k
  | 0, _ => rfl
  | k + 1, h => by rw [vis, List.length_append, vis_len]; rfl
theorem vis_pre {n k : Nat} (h : k ≤ n) : ∀ {j : Nat} (hj : j ≤ n), k ≤ j → vis n k h <+: vis n j hj
  | 0, _, hk => by obtain rfl : k = 0 := by omega
                   exact List.prefix_refl _
  | j + 1, hj, hk => by
    by_cases e : k = j + 1
    · subst e; exact List.prefix_refl _
    · exact (vis_pre h (by omega) (by omega)).trans (List.prefix_append _ _)
def lyAt (ls : List Lay) (top : Bool) (k : Nat) : Lay := ls.getD (idxT ls.length top k) ⟨0, 0⟩
def encV (ls : List Lay) (top : Bool) (x : Fin ls.length) : Array Value := #[.int .i64 (idxT ls.length top x.1 : Nat), .agg #[.int .i64 (lyAt ls top x.1).a, .int .i64 (lyAt ls top x.1).h]]
theorem lyAt_mem {ls : List Lay} {top : Bool} {k : Nat} (h : k < ls.length) : lyAt ls top k = ls[idxT ls.length top k]'(idxT_lt top h) := by
  unfold lyAt
  rw [List.getD_eq_getElem?_getD, List.getElem?_eq_getElem (idxT_lt top h)]; rfl

set_option maxHeartbeats 400000 in
theorem layers_c (room : Int) (A : Option Addr) (n c : Nat) (top : Bool) (w : World) :
    Calls Try.prog 31 #[.agg #[.int .i64 room, .slice A n c], .bool top] w fun e w' =>
      e = .returned (.func (.func 51) #[] #[.pointer (some ⟨w.heap.size, 0, none⟩), .pointer (some ⟨w.heap.size + 1, 0, none⟩)]) ∧
      w' = (w.alloc (.cells #[.int .i64 room, .slice A n c] 33)).alloc (.cells #[.bool top] 4) := by
  have hmf : ∀ (fn : Fn) (first cap : Array Value) (w : World), (Instr.makeFunc fn first cap).run Try.prog w = .ok (.func fn first cap) w := fun _ _ _ _ => rfl
  go_enter Try.func31, Try.ntmps31
  go_wp2
  go_ret
  exact ⟨by simp, rfl⟩

set_option maxRecDepth 100000 in
set_option maxHeartbeats 2000000 in
theorem layers1_in (n : Nat) (hn : 1 ≤ n) (room : Int) (A : Option Addr) (c : Nat) (ls : List Lay) (top : Bool) (l Bt Bp n₀ : Nat) (hl : ls.length ≤ 1000) (J Jx : List (Fin ls.length) → World → Prop) (W : World)
    (hY : ∀ pre x W1, J pre W1 → pre.length < ls.length → YieldAt Fence.wide (n - 1) Try.prog l (encV ls top x) W1 fun e W' =>
      (e = .returned (.bool true) ∧ J (pre ++ [x]) W' ∧ KpN n₀ Bt Bp W1 W') ∨ (e = .returned (.bool false) ∧ Jx (pre ++ [x]) W'))
    (hg0 : W.cell? ⟨Bt, 0, none⟩ = some (.int .i64 room)) (hg1 : W.cell? ⟨Bt, 1, none⟩ = some (.slice A ls.length c)) (hp : W.cell? ⟨Bp, 0, none⟩ = some (.bool top))
    (hr : Rw W n₀ 2 A (ls.map encL)) (_hn₀ : n₀ ≤ W.heap.size) (h0 : J [] W) :
    CallsIn Fence.wide n Try.prog 51 #[.func (.yield l) #[] #[], .pointer (some ⟨Bt, 0, none⟩), .pointer (some ⟨Bp, 0, none⟩)] W fun e W' => (∃ v, e = .returned v) ∧
      ((∃ ys, ys = vis ls.length ls.length (Nat.le_refl _) ∧ J ys W') ∨ (∃ pre, pre <+: vis ls.length ls.length (Nat.le_refl _) ∧ Jx pre W')) := by
  have HR := Lib.hid hr; clear hr
  refine callsIn_of_wp Try.func51 rfl trivial ?_ rfl
  simp only [Try.ntmps51, List.size_toArray, List.length_cons, List.length_nil, Nat.reduceAdd, Nat.reduceSub, Array.replicate_succ, Array.replicate_zero, List.push_toArray, List.append_toArray, List.nil_append, List.cons_append]
  gi_wp2
  gi_loopw [9] (fun i wr => ∃ (k : Nat) (hk : k ≤ ls.length), i = .int .i64 k ∧ J (vis ls.length k hk) wr ∧ KpN n₀ Bt Bp W wr) (fun i _ => ls.length - (intOf i).toNat)
  case atStart => exact ⟨0, Nat.zero_le _, rfl, h0, KpN.refl _ _ _ _⟩
  case round =>
    obtain ⟨k, hk, rfl, hJs, hkp⟩ := hrel
    have d0 := (cell_heap hkp.2.1 0).trans hg0
    have d1 := (cell_heap hkp.2.1 1).trans hg1
    have dn := (cell_heap hkp.2.2 0).trans hp
    have hbg := World.block_lt_of_cell? wr _ d0
    have hbn := World.block_lt_of_cell? wr _ dn
    simp only at hbg hbn
    by_cases hlt : k < ls.length
    · obtain ⟨i, hi⟩ : ∃ i, i = idxT ls.length top k := ⟨_, rfl⟩
      have hil : i < ls.length := by rw [hi]; exact idxT_lt top hlt
      obtain ⟨b, off, hA, hbl, c0, c1⟩ := (HR.out.keep fun b o h => hkp.1.cell (p := ⟨b, o, none⟩) h).get2 (k := i) (by simpa using hil) (by rw [List.getElem_map]; rfl)
      subst hA
      have hx : lyAt ls top k = ls[i] := by rw [lyAt_mem hlt]; simp only [← hi]
      have HY2 := hY _ ⟨k, hlt⟩ wr hJs (by rw [vis_len]; exact hlt)
      have henc : encV ls top ⟨k, hlt⟩ = #[.int .i64 (i : Nat), .agg #[.int .i64 ls[i].a, .int .i64 ls[i].h]] := by unfold encV; rw [hx, ← hi]
      rw [henc] at HY2
      obtain ⟨fn, tmps, assign, body, hy, hR⟩ := HY2
      have HPRE := Lib.hid (vis_pre (show k + 1 ≤ ls.length from hlt) (Nat.le_refl _) hlt)
      rcases (show top = false ∨ top = true by cases top <;> simp) with htop | htop
      · subst htop
        obtain rfl : i = k := hi
        clear henc hx
        gi_wp2
        refine hR.mono ?_
        rintro e W3 (⟨rfl, hJ3, hk3⟩ | ⟨rfl, hJx3⟩)
        · gi_wp2
          go_roundw
          case rel => exact ⟨i + 1, hlt, by go_num, hJ3, hkp.t hk3⟩
          case measure => simp [intOf]; omega
        · gi_wp2
          refine bodyPost_ret (results_none rfl _ _ _) rfl ?_
          exact ⟨⟨_, rfl⟩, .inr ⟨_, HPRE.out, hJx3⟩⟩
      · subst htop
        have hi2 : (ls.length : Int) - 1 - (k : Int) = (i : Int) := by rw [hi]; unfold idxT; simp only [if_true]; omega
        clear henc hx hi
        gi_wp2
        refine hR.mono ?_
        rintro e W3 (⟨rfl, hJ3, hk3⟩ | ⟨rfl, hJx3⟩)
        · gi_wp2
          go_roundw
          case rel => exact ⟨k + 1, hlt, by go_num, hJ3, hkp.t hk3⟩
          case measure => simp [intOf]; omega
        · gi_wp2
          refine bodyPost_ret (results_none rfl _ _ _) rfl ?_
          exact ⟨⟨_, rfl⟩, .inr ⟨_, HPRE.out, hJx3⟩⟩
    · obtain rfl : k = ls.length := by omega
      gi_wp2
      go_end0
      exact ⟨⟨_, rfl⟩, .inl ⟨_, rfl, hJs⟩⟩
/-- The contract of the iterator. -/
theorem layers_stops (n : Nat) (hn : 1 ≤ n) (room : Int) (A : Option Addr) (c : Nat) (ls : List Lay) (top : Bool) (Bt Bp n₀ : Nat) (hl : ls.length ≤ 1000) (w : World) (hBt : Bt < w.heap.size) (hBp : Bp < w.heap.size) (hn₀ : n₀ ≤ w.heap.size)
    (hg0 : w.cell? ⟨Bt, 0, none⟩ = some (.int .i64 room)) (hg1 : w.cell? ⟨Bt, 1, none⟩ = some (.slice A ls.length c)) (hp : w.cell? ⟨Bp, 0, none⟩ = some (.bool top)) (hr : Rw w n₀ 2 A (ls.map encL)) :
    SeqStopsK Fence.wide n Try.prog 51 #[.pointer (some ⟨Bt, 0, none⟩), .pointer (some ⟨Bp, 0, none⟩)] (encV ls top) (KpN n₀ Bt Bp) (fun ys => ys = vis ls.length ls.length (Nat.le_refl _))
      (fun pre => pre <+: vis ls.length ls.length (Nat.le_refl _)) ls.length w := fun l J Jx W hW _ _ hY h0 =>
  layers1_in n hn room A c ls top l Bt Bp n₀ hl J Jx W (fun pre x W1 => hY pre x W1) ((hW.cell (p := ⟨Bt, 0, none⟩) hBt).trans hg0) ((hW.cell (p := ⟨Bt, 1, none⟩) hBt).trans hg1) ((hW.cell (p := ⟨Bp, 0, none⟩) hBp).trans hp)
    (hr.keep fun b o h => hW.cell (p := ⟨b, o, none⟩) (by show b < _; omega)) (Nat.le_trans hn₀ hW.size) h0
end Go.Proofs.Ytgljpjcclncknaa

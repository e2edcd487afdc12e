/- Lists of structs that a call has made; Settled. -/
import Derived.Test.YtgljpjcclncknaaGr4
import Derived.Test.YtgljpjcclncknaaTs7
import Derived.BigQuiet
namespace Go.Proofs.Ytgljpjcclncknaa
open Go.RowKit

/-- v is a slice of these rows, in a block that the call has made. -/
def OwnR (T : TypeId) (sz : Nat) (w : World) (base : Nat) (v : Value) (rows : List (List Value)) : Prop := w.ownsRow base T sz v rows.length rows.flatten
section
variable {T : TypeId} {sz : Nat} {w w' : World} {base : Nat} {v : Value} {rows : List (List Value)}
theorem OwnR.nil_ : OwnR T sz w base (.slice none 0 0) [] := World.ownsRow_nil _ _ _ _
theorem OwnR.below (h : OwnR T sz w base v rows) (hb : Below w.heap.size w w') : OwnR T sz w' base v rows :=
  World.ownsRow.kept h (row := none) (grown_of hb) (by cases v.ownBlock <;> simp)
theorem OwnR.alloc (h : OwnR T sz w base v rows) (o : Obj) : OwnR T sz (w.alloc o) base v rows := World.ownsRow.alloc h o
theorem OwnR.drew (h : OwnR T sz w base v rows) : OwnR T sz w.drew base v rows := h.below (by (repeat first | (with_reducible first | assumption | exact Below.refl _ _ | refine Bl.drew ?_ | refine Bl.drewN ?_ _ | refine Bl.alloc ?_ _ | refine Bl.set ?_ _ ?_) | (with_reducible apply Bl.step'; (focus (with_reducible assumption))) | omega | (focus (simp; done)) | (focus (simp; omega))))
theorem OwnR.mono {base' : Nat} (h : OwnR T sz w base v rows) (hb : base' ≤ base) : OwnR T sz w base' v rows := ownsRow_mono h hb
theorem OwnR.app {r : List Value} (h : w.ownsRow base T sz v (rows.length + 1) (rows.flatten ++ r)) : OwnR T sz w base v (rows ++ [r]) := by
  unfold OwnR; simpa using h
theorem OwnR.rw_ (h : OwnR T sz w base v rows) (hl : ∀ x ∈ rows, x.length = sz) : ∃ A c, v = .slice A rows.length c ∧ rows.length ≤ c ∧ Rw w w.heap.size sz A rows := by
  obtain ⟨A, c, h1, h2, h3, _⟩ := own_rw h rfl hl
  exact ⟨A, c, h1, h2, h3⟩
end
/-- The bill of what was delivered, and the shortfalls. -/
def byK (o d : List Int) (k : Nat) : Int := o.getD k 0 - d.getD k 0
def stB (l : List Qt) (o d : List Int) (fine : Int) : Nat → Int
  | 0 => 0
  | k + 1 => stB l o d fine k + (l.getD k ⟨0, 0⟩).p * d.getD k 0 - (if 0 < byK o d k then fine * byK o d k else 0)
def stS (o d : List Int) : Nat → List (Int × Int)
  | 0 => []
  | k + 1 => stS o d k ++ (if 0 < byK o d k then [((k : Int), byK o d k)] else [])
def encS (s : Int × Int) : List Value := [.int .i64 s.1, .int .i64 s.2]
theorem stS_len (o d : List Int) : ∀ k, (stS o d k).length ≤ k
  | 0 => Nat.le_refl _
  | k + 1 => by
    have := stS_len o d k
    rw [stS, List.length_append]
    split <;> simp <;> omega
theorem getD_bd {l : List Int} (h : ∀ x ∈ l, 0 ≤ x ∧ x ≤ 30) (k : Nat) : 0 ≤ l.getD k 0 ∧ l.getD k 0 ≤ 30 := by
  rw [List.getD_eq_getElem?_getD]
  rcases hk : l[k]? with _ | x
  · simp
  · obtain ⟨h1, h2⟩ := List.getElem?_eq_some_iff.1 hk
    have := h l[k] (List.getElem_mem _)
    rw [h2] at this
    simpa using this
theorem getQ_bd {l : List Qt} (h : ∀ q ∈ l, okQ q) (k : Nat) : -100000 ≤ (l.getD k ⟨0, 0⟩).p ∧ (l.getD k ⟨0, 0⟩).p ≤ 100000 := by
  rw [List.getD_eq_getElem?_getD]
  rcases hk : l[k]? with _ | x
  · simp
  · obtain ⟨h1, h2⟩ := List.getElem?_eq_some_iff.1 hk
    have := h l[k] (List.getElem_mem _)
    rw [h2] at this
    simpa using ⟨this.1, this.2.1⟩
theorem stB_bd {l : List Qt} {o d : List Int} {fine : Int} (hq : ∀ q ∈ l, okQ q) (ho : ∀ x ∈ o, 0 ≤ x ∧ x ≤ 30) (hd : ∀ x ∈ d, 0 ≤ x ∧ x ≤ 30) (hf : 0 ≤ fine ∧ fine ≤ 100000) : ∀ k : Nat,
    -(6000000 * k : Int) ≤ stB l o d fine k ∧ stB l o d fine k ≤ 6000000 * k
  | 0 => by simp [stB]
  | k + 1 => by
    have ih := stB_bd hq ho hd hf k
    have h1 := getD_bd ho k
    have h2 := getD_bd hd k
    have h3 := getQ_bd hq k
    obtain ⟨h4, h5⟩ := mul_bd (a := (l.getD k ⟨0, 0⟩).p) (b := d.getD k 0) (A := 100000) (B := 30) (by omega) (by omega) (by omega) (by omega)
    obtain ⟨h6, h7⟩ := mul_bd (a := fine) (b := byK o d k) (A := 100000) (B := 30) (by omega) (by omega) (by unfold byK; omega) (by unfold byK; omega)
    rw [stB]
    split <;> omega
theorem Try.infoSf : (Try.prog.info? 73).map (fun i => (i.zero, i.size, i.bytes)) = some (some (.agg #[.int .i64 0, .int .i64 0]), 2, 16) := by kernel_rfl
theorem encS_new {W : World} {x : Int × Int} {T : TypeId} : ∀ (j : Nat) (u : Value), (encS x)[j]? = some u → (W.alloc (.cells #[.int .i64 x.1, .int .i64 x.2] T)).cell? (((⟨W.heap.size, 0, none⟩ : Addr)).add j) = some u :=
  encL_new (x := ⟨x.1, x.2⟩)
theorem encS_at {U : World} {b : Nat} {x : Int × Int} {T : TypeId} (hb : U.heap[b]? = some (.cells #[.int .i64 x.1, .int .i64 x.2] T (0, 0))) : ∀ (j : Nat) (u : Value), (encS x)[j]? = some u → U.cell? ((⟨b, 0, none⟩ : Addr).add j) = some u := by
  intro j u h
  rw [add0, cell_of_row _ _ j _ _ _ hb]
  match j, h with
  | 0, h => simpa [encS] using h
  | 1, h => simpa [encS] using h
theorem below_drewN {B : Nat} {a w : World} (h : Below B a w) (n : Nat) : Below B a (w.drewN n) := ⟨h.os, h.tape, h.output, h.size, h.block⟩
theorem encS_one (x : Int × Int) : ∀ u ∈ encS x, u.oneCell' = true := encL_one ⟨x.1, x.2⟩
def RetSt (l : List Qt) (o d : List Int) (fine : Int) (w : World) (e : Ending) (w' : World) : Prop :=
  ∃ v, e = .returned (.tuple #[.int .i64 (stB l o d fine l.length), v, .int .i64 0]) ∧ OwnR 73 2 w' w.heap.size v ((stS o d l.length).map encS) ∧ Below w.heap.size w w'
set_option maxRecDepth 100000 in
set_option maxHeartbeats 4000000 in
theorem Settled_c (A B C : Option Addr) (c c2 c3 : Nat) (l : List Qt) (o d : List Int) (fine : Int) (w : World) (hl : l.length ≤ 8) (hlo : o.length = l.length) (hld : d.length = l.length)
    (hq : ∀ q ∈ l, okQ q) (ho : ∀ x ∈ o, 0 ≤ x ∧ x ≤ 30) (hd : ∀ x ∈ d, 0 ≤ x ∧ x ≤ 30) (hf : 0 ≤ fine ∧ fine ≤ 100000) (hr : QtR w w.heap.size A l) (hro : IntsR w w.heap.size B o) (hrd : IntsR w w.heap.size C d) :
    Calls Try.prog 15 #[.slice A l.length c, .slice B l.length c2, .slice C l.length c3, .int .i64 fine] w (RetSt l o d fine w) := by
  obtain ⟨i0, hi, hz0, hz1, hz2⟩ := info_parts Try.infoSf
  have HQ := Lib.hid (fun W h => checkQs_c A c l W hl hq h)
  have HO := Lib.hid (fun W h => hlo ▸ checkUs_c A B c c2 l.length o W hlo.symm (by omega) ho h)
  have HD := Lib.hid (fun W h => hld ▸ checkUs_c A C c c3 l.length d W hld.symm (by omega) hd h)
  have HRA := Lib.hid hr
  have HRB := Lib.hid hro
  have HRC := Lib.hid hrd
  have HE := Lib.hid (show firstErr [0, 0, 0, rng fine 0 100000] = 0 by rw [rng_ok hf.1 hf.2]; rfl)
  have HBD := Lib.hid (stB_bd hq ho hd hf)
  have HOB := Lib.hid (getD_bd ho)
  have HDB := Lib.hid (getD_bd hd)
  have HQB := Lib.hid (getQ_bd hq)
  have HLO := Lib.hid hlo
  have HLD := Lib.hid hld
  obtain ⟨f0, f1⟩ := hf
  clear hq ho hd hr hro hrd hlo hld
  go_enter Try.func15, Try.ntmps15
  go_wp2_with (first | (go_at_call 40; refine (HQ.out _ HRA.out).mono ?_; rintro e w1 ⟨rfl, hb1⟩))
  refine (HO.out _ (rw_to HRB.out (by (repeat first | (with_reducible first | assumption | exact Below.refl _ _ | refine Bl.drew ?_ | refine Bl.drewN ?_ _ | refine Bl.alloc ?_ _ | refine Bl.set ?_ _ ?_) | (with_reducible apply Bl.step'; (focus (with_reducible assumption))) | omega | (focus (simp; done)) | (focus (simp; omega)))))).mono ?_
  rintro e w2 ⟨rfl, hb2⟩
  go_wp2_with fail
  have hbx : Below w.heap.size w w2 := hb1.trans (hb2.mono hb1.size)
  refine (HD.out _ (rw_to HRC.out hbx)).mono ?_
  rintro e w3 ⟨rfl, hb3⟩
  have hb : Below w.heap.size w w3 := hbx.trans (hb3.mono hbx.size)
  clear hbx hb1 hb2 hb3
  go_wp2_with (first | (go_at_call 42; refine (gwithin_c _ _ _ _).mono ?_; rintro e w' ⟨rfl, rfl⟩) | (go_at_call 39; refine (gfirst_c _ [0, 0, 0, rng fine 0 100000] _ ?_ ?_).mono ?_; (focus simp); (focus simp [CellsAt]); rintro e w' ⟨rfl, rfl⟩; rw [HE.out]))
  go_loopw [12, 13, 34] (fun bl v i wr => ∃ k : Nat, k ≤ l.length ∧ i = .int .i64 k ∧ bl = .int .i64 (stB l o d fine k) ∧ OwnR 73 2 wr w.heap.size v ((stS o d k).map encS) ∧ Below w.heap.size w wr) (fun _ _ i _ => l.length - (intOf i).toNat)
  case atStart => exact ⟨0, Nat.zero_le _, rfl, rfl, OwnR.nil_, by (repeat first | (with_reducible first | assumption | exact Below.refl _ _ | refine Bl.drew ?_ | refine Bl.drewN ?_ _ | refine Bl.alloc ?_ _ | refine Bl.set ?_ _ ?_) | (with_reducible apply Bl.step'; (focus (with_reducible assumption))) | omega | (focus (simp; done)) | (focus (simp; omega)))⟩
  case round =>
    obtain ⟨k, hk, rfl, rfl, hown, hb⟩ := hrel
    by_cases hlt : k < l.length
    · have hbs := hb.size
      obtain ⟨b, off, hA, hbl, c0, c1⟩ := ((show Rw wr w.heap.size 2 A (l.map encQ) from Rw.belowB (w0 := w) HRA.out hb (Nat.le_refl _)).more hbs).get2 (k := k) (by simpa using hlt) (by rw [List.getElem_map]; rfl)
      obtain ⟨b1, off1, hB, hbl1, e0⟩ := IntsR.get (k := k) ((show IntsR wr w.heap.size B o from Rw.belowB (w0 := w) HRB.out hb (Nat.le_refl _)).more hbs) (by rw [HLO.out]; exact hlt)
      obtain ⟨b2, off2, hC, hbl2, g0⟩ := IntsR.get (k := k) ((show IntsR wr w.heap.size C d from Rw.belowB (w0 := w) HRC.out hb (Nat.le_refl _)).more hbs) (by rw [HLD.out]; exact hlt)
      obtain ⟨q, hq⟩ : ∃ q, q = l[k] := ⟨_, rfl⟩
      obtain ⟨y, hy⟩ : ∃ y, y = o[k]'(by rw [HLO.out]; exact hlt) := ⟨_, rfl⟩
      obtain ⟨x, hx⟩ : ∃ x, x = d[k]'(by rw [HLD.out]; exact hlt) := ⟨_, rfl⟩
      rw [← hq] at c0 c1
      rw [← hy] at e0
      rw [← hx] at g0
      have hq2 : l.getD k ⟨0, 0⟩ = q := by rw [hq, List.getD_eq_getElem?_getD, List.getElem?_eq_getElem hlt]; rfl
      have hy2 : o.getD k 0 = y := by rw [hy, List.getD_eq_getElem?_getD, List.getElem?_eq_getElem (by rw [HLO.out]; exact hlt)]; rfl
      have hx2 : d.getD k 0 = x := by rw [hx, List.getD_eq_getElem?_getD, List.getElem?_eq_getElem (by rw [HLD.out]; exact hlt)]; rfl
      obtain ⟨x0, x1⟩ := HDB.out k
      obtain ⟨y0, y1⟩ := HOB.out k
      obtain ⟨q0, q1⟩ := HQB.out k
      rw [hx2] at x0 x1
      rw [hy2] at y0 y1
      rw [hq2] at q0 q1
      obtain ⟨S, hS⟩ : ∃ S, S = stB l o d fine k := ⟨_, rfl⟩
      have hS1 : stB l o d fine (k + 1) = S + q.p * x - (if 0 < y - x then fine * (y - x) else 0) := by rw [stB, byK, hq2, hx2, hy2, hS]
      have hS2 : stS o d (k + 1) = stS o d k ++ (if 0 < y - x then [((k : Int), y - x)] else []) := by rw [stS, byK, hx2, hy2]
      obtain ⟨s0, s1⟩ := HBD.out k
      rw [← hS] at s0 s1 ⊢
      obtain ⟨m0, m1⟩ := mul_bd (a := q.p) (b := x) (A := 100000) (B := 30) (by omega) (by omega) (by omega) (by omega)
      obtain ⟨n0, n1⟩ := mul_bd (a := fine) (b := y - x) (A := 100000) (B := 30) (by omega) (by omega) (by omega) (by omega)
      obtain ⟨L, hL⟩ : ∃ L, L = (stS o d k).map encS := ⟨_, rfl⟩
      have hLl : L.length ≤ k := by rw [hL, List.length_map]; exact stS_len o d k
      rw [← hL] at hown
      have HL := Lib.hid hL
      have HS1 := Lib.hid hS1
      have HS2 := Lib.hid hS2
      have HB := Lib.hid hb
      have HAA := Lib.hid hA
      have HBB := Lib.hid hB
      have HCC := Lib.hid hC
      have hkd : decide (k < o.length) = true := decide_eq_true (by rw [HLO.out]; exact hlt)
      have HBS := Lib.hid hbs
      clear hq hy hx hq2 hy2 hx2 hS hS1 hS2 hL hb
      rw [hA, hB, hC]
      by_cases hby : 0 < y - x
      · have hgt : decide (0 < y - x) = true := decide_eq_true hby
        go_wp2_with fail
        go_quiet (fail)
        go_wp2_with fail
        go_quiet (fail)
        go_wp2_with (at_builtin; refine wpList_append_own _ rfl _ _ 56 rfl w.heap.size 73 i0 (.agg #[.int .i64 0, .int .i64 0]) 2 16 Try.underlying56 hi hz0 hz1 hz2 rfl (by decide) _ _ _ rfl ((hown.alloc _).drew.drew.alloc _) ⟨wr.heap.size + 1, 0, none⟩ 1 1 (encS ((k : Int), y - x)) rfl rfl ?c1 ?c2 ?c3 ?c4 ?c5 ?_)
        case c1 => exact encS_at (x := ((k : Int), y - x)) (blk_new (by simp))
        case c2 => exact encS_one _
        case c3 => unfold maxLen; omega
        case c4 => omega
        case c5 => simp; omega
        intro v' w4 hown' hgrow _
        have hb4 : Below w.heap.size wr w4 := by
          refine Below.grown (a := wr) (B := w.heap.size) ?_ hgrow (by simp; omega) (fun j e => ?_)
          · exact (below_drewN ((Below.refl _ wr).alloc HBS.out _) _).alloc (by have := HBS.out; simp; omega) _
          · exact (World.ownsRow.lt hown j e).1
        have HB4 := Lib.hid (HB.out.trans hb4)
        clear hb4 hgrow
        go_wp2_with fail
        go_roundw
        case rel => exact ⟨k + 1, hlt, by go_num, by rw [HS1.out, if_pos hby], by rw [HS2.out, if_pos hby, List.map_append, ← HL.out]; exact OwnR.app hown', HB4.out⟩
        case measure => simp [intOf]; omega
      · have hgt : decide (0 < y - x) = false := decide_eq_false hby
        have HBY := Lib.hid hby
        go_wp2_with fail
        go_quiet (fail)
        go_wp2_with fail
        go_quiet (fail)
        go_wp2_with fail
        go_roundw
        case rel => exact ⟨k + 1, hlt, by go_num, by rw [HS1.out, if_neg (show ¬ 0 < y - x by have := HBY.out; omega), Int.sub_zero], by rw [HS2.out, if_neg (show ¬ 0 < y - x by have := HBY.out; omega), List.append_nil, ← HL.out]; exact hown.alloc _, HB.out.trans (below_drewN ((Below.refl _ wr).alloc HBS.out _) _)⟩
        case measure => simp [intOf]; omega
    · obtain rfl : k = l.length := by omega
      go_wp2_with fail
      go_ret3
      exact ⟨_, rfl, hown, hb⟩
end Go.Proofs.Ytgljpjcclncknaa

/- together: the layers that are put together. -/
import Derived.Test.YtgljpjcclncknaaTs6
namespace Go.Proofs.Ytgljpjcclncknaa
open Go.RowKit

theorem bdL_of {l : List Lay} (h : ∀ x ∈ l, okL x) (ha : sumA l ≤ 1000000) (hh : sumH l ≤ 1000000000) {x : Lay} (hx : x ∈ l) : bdL x := by
  have h1 := mem_le (fun y hy => (h y hy).nn) hx
  have h2 := h x hx
  exact ⟨by have := h2.1; omega, by omega, h2.2, by omega⟩
theorem sum_take {l : List Lay} (h : ∀ x ∈ l, okL x) (k : Nat) : sumA (l.take k) ≤ sumA l ∧ sumH (l.take k) ≤ sumH l := by
  have e := List.take_append_drop k l
  have h1 := sum_nonneg (l := l.drop k) fun y hy => (h y (List.mem_of_mem_drop hy)).nn
  have h2 := sumA_app (l.take k) (l.drop k)
  have h3 := sumH_app (l.take k) (l.drop k)
  rw [e] at h2 h3
  omega
def RetL (ys : List Lay) (w : World) (e : Ending) (w' : World) : Prop := ∃ A c, e = .returned (.slice A ys.length c) ∧ OwnL w' w.heap.size A c ys ∧ Below w.heap.size w w'
theorem encL_new {W : World} {x : Lay} {T : TypeId} : ∀ (j : Nat) (u : Value), (encL x)[j]? = some u → (W.alloc (.cells #[.int .i64 x.a, .int .i64 x.h] T)).cell? (((⟨W.heap.size, 0, none⟩ : Addr)).add j) = some u := by
  intro j u h
  have hb := heap_alloc_new W (.cells #[.int .i64 x.a, .int .i64 x.h] T)
  rw [add0, cell_of_row _ _ j _ _ _ hb]
  match j, h with
  | 0, h => simpa [encL] using h
  | 1, h => simpa [encL] using h
theorem encL_one (x : Lay) : ∀ u ∈ encL x, u.oneCell' = true := by
  intro u hu
  simp [encL] at hu
  rcases hu with rfl | rfl <;> rfl
theorem OwnL.at {w : World} {base g c : Nat} {ys : List Lay} (h : OwnL w base (some ⟨g, 0, none⟩) c ys) {k : Nat} (hk : k < ys.length) : w.cell? ⟨g, k * 2, none⟩ = some (.int .i64 ys[k].a) ∧ w.cell? ⟨g, k * 2 + 1, none⟩ = some (.int .i64 ys[k].h) := by
  have h1 := World.ownsRow.cellAt h (k * 2) (by omega)
  have h2 := World.ownsRow.cellAt h (k * 2 + 1) (by omega)
  have hk2 : k < (ys.map encL).length := by simpa using hk
  have f1 := flat_at (n := 2) (l := ys.map encL) encL_len hk2 (j := 0) (by omega)
  have f2 := flat_at (n := 2) (l := ys.map encL) encL_len hk2 (j := 1) (by omega)
  rw [h1, h2]
  constructor
  · rw [Nat.add_zero] at f1; rw [f1, List.getElem_map]; rfl
  · rw [f2, List.getElem_map]; rfl
theorem OwnL.form {w : World} {base c : Nat} {A : Option Addr} {ys : List Lay} (h : OwnL w base A c ys) (hn : ys ≠ []) : ∃ g, A = some ⟨g, 0, none⟩ ∧ base ≤ g ∧ g < w.heap.size ∧ ys.length ≤ c ∧ c ≤ maxLen := by
  rcases h.2 with ⟨_, h0⟩ | ⟨g, cap, cur, hv, hb, hg, hc, hm, _⟩
  · exact absurd (List.eq_nil_of_length_eq_zero h0) hn
  · injection hv with h1 _ h3
    subst h3
    exact ⟨g, h1, hb, (Array.getElem?_eq_some_iff.1 hg).1, hc, hm⟩
/-- The state of the inner loop: the top of the stack, what lies below it, and what they will become. -/
structure TgI (S : List Lay) (x y : Lay) (s : List Lay) : Prop where
  m : merge y s = merge x S
  a : sumA (y :: s) ≤ 1000000
  h : sumH (y :: s) ≤ 1000000000
  ok : ∀ z ∈ y :: s, okL z
theorem TgI.step {S : List Lay} {x y z : Lay} {s : List Lay} (h : TgI S x y (z :: s)) (hc : coldr z y = false) : TgI S x ⟨z.a + y.a, z.h + y.h⟩ s := by
  refine ⟨?_, ?_, ?_, ?_⟩
  · rw [← h.m]; conv => rhs; unfold merge; rw [hc]
    rfl
  · have := h.a; simp at this ⊢; omega
  · have := h.h; simp at this ⊢; omega
  · intro u hu
    rcases List.mem_cons.1 hu with rfl | hu
    · have h1 := h.ok y (by simp); have h2 := h.ok z (by simp); unfold okL at *; simp only; omega
    · exact h.ok u (by simp [hu])
theorem len_sumA {l : List Lay} (h : ∀ x ∈ l, okL x) : (l.length : Int) ≤ sumA l := by
  induction l with
  | nil => simp
  | cons x l ih =>
    have h1 := (h x (by simp)).1
    have h2 := ih fun y hy => h y (by simp [hy])
    simp; omega
theorem TgI.len {S : List Lay} {x y : Lay} {s : List Lay} (h : TgI S x y s) : s.length + 1 ≤ 1000000 := by
  have h1 := len_sumA h.ok
  have h2 := h.a
  rw [List.length_cons] at h1
  omega
theorem TgI.done {S : List Lay} {x y : Lay} {s : List Lay} (h : TgI S x y s) (hc : ∀ z t, s = z :: t → coldr z y = true) : merge x S = y :: s := by
  rw [← h.m]
  cases s with
  | nil => rfl
  | cons z t => unfold merge; rw [if_pos (hc z t rfl)]
theorem TgI.bd {S : List Lay} {x y z : Lay} {s : List Lay} (h : TgI S x y (z :: s)) : bdL y ∧ bdL z := ⟨bdL_of h.ok h.a h.h (by simp), bdL_of h.ok h.a h.h (by simp)⟩
set_option maxRecDepth 100000 in
set_option maxHeartbeats 8000000 in
theorem together_c (A : Option Addr) (c : Nat) (ls : List Lay) (w : World) (hl : ls.length ≤ 1000) (ho : ∀ x ∈ ls, okL x) (ha : sumA ls ≤ 1000000) (hh : sumH ls ≤ 1000000000) (hr : Rw w w.heap.size 2 A (ls.map encL)) :
    Calls Try.prog 34 #[.slice A ls.length c] w (RetL (togF ls) w) := by
  obtain ⟨i0, hi, hz0, hz1, hz2⟩ := info_parts Try.infoLay
  have HR := Lib.hid hr; clear hr
  have HO := Lib.hid ho; clear ho
  have HA := Lib.hid ha; clear ha
  have HH := Lib.hid hh; clear hh
  go_enter Try.func34, Try.ntmps34
  go_wp2_with fail
  go_loopw [4, 11] (fun v i wr => ∃ (k : Nat) (A1 : Option Addr) (c1 : Nat), k ≤ ls.length ∧ i = .int .i64 k ∧ v = .slice A1 (togS (ls.take k)).length c1 ∧ OwnL wr w.heap.size A1 c1 (togS (ls.take k)).reverse ∧ Below w.heap.size w wr) (fun _ i _ => ls.length - (intOf i).toNat)
  case atStart => exact ⟨0, none, 0, Nat.zero_le _, rfl, rfl, OwnL.nil_ _ _, Below.refl _ _⟩
  case round =>
    obtain ⟨k, A1, c1, hk, rfl, rfl, hown, hb⟩ := hrel
    by_cases hlt : k < ls.length
    · obtain ⟨b, off, hA, hbl, d0, d1⟩ := ((Rw.belowB (w0 := w) HR.out hb (Nat.le_refl _)).more hb.size).get2 (k := k) (by simpa using hlt) (by rw [List.getElem_map]; rfl)
      obtain ⟨x, hx⟩ : ∃ x, x = ls[k] := ⟨_, rfl⟩
      rw [← hx] at d0 d1
      obtain ⟨S, hS⟩ : ∃ S, S = togS (ls.take k) := ⟨_, rfl⟩
      have hsn : togS (ls.take (k + 1)) = merge x S := by rw [List.take_succ_eq_append_getElem hlt, togS_snoc, ← hx, ← hS]
      have hok := togS_ok (l := ls.take k) fun y hy => HO.out y (List.mem_of_mem_take hy)
      have hst := sum_take HO.out (k + 1)
      have hxo : okL x := by rw [hx]; exact HO.out _ (List.getElem_mem hlt)
      rw [List.take_succ_eq_append_getElem hlt, sumA_app, sumH_app, ← hx] at hst
      rw [← hS] at hok hown ⊢
      have hsl : S.length ≤ 1000 := by have := hok.2.2.2.2; rw [List.length_take] at this; omega
      have HS1 : Hid (TgI S x x S) := Lib.hid ⟨rfl, by
        have := HA.out; simp at hst ⊢; omega, by have := HH.out; simp at hst ⊢; omega, fun y hy => by
        rcases List.mem_cons.1 hy with rfl | hy
        · exact hxo
        · exact hok.2.2.1 y hy⟩
      have HSN := Lib.hid hsn
      have HAS := Lib.hid hA
      have HB := Lib.hid hb
      have hbs := hb.size
      obtain ⟨R, hR⟩ : ∃ R, R = S.reverse := ⟨_, rfl⟩
      have hrl : R.length = S.length := by rw [hR]; exact List.length_reverse
      rw [← hR] at hown
      have hown2 : wr.ownsRow w.heap.size 76 2 (.slice A1 S.length c1) S.length (R.map encL).flatten := by unfold OwnL at hown; rwa [hrl] at hown
      have HRL := Lib.hid hrl
      have HRR := Lib.hid hR
      clear hx hS hsn hok hst hxo hown hb hrl hR
      rw [hA]
      clear hA
      go_wp2_with (at_builtin; refine wpList_append_own _ rfl _ _ 31 rfl w.heap.size 76 i0 zeroLay 2 16 Try.underlying31 hi hz0 hz1 hz2 rfl (by decide) _ _ _ rfl ((hown2.alloc _).alloc _) ⟨wr.heap.size + 1, 0, none⟩ 1 1 (encL x) rfl rfl ?c1 ?c2 ?c3 ?c4 ?c5 ?_)
      case c1 => have h := encL_new (W := wr.alloc (.cells #[.int .i64 x.a, .int .i64 x.h] 76)) (x := x) (T := 76); rw [World.size_alloc] at h; exact h
      case c2 => exact encL_one x
      case c3 => unfold maxLen; omega
      case c4 => omega
      case c5 => simp; omega
      intro v' w4 hown' hgrow _
      rw [← HRL.out] at hown'
      obtain ⟨A2, c2, rfl, hown3⟩ := OwnL.app hown'
      rw [show (R ++ [x]).length = S.length + 1 by rw [List.length_append, HRL.out]; rfl]
      rw [HRR.out] at hown3
      have hb4 : Below w.heap.size wr w4 := by
        refine Below.grown (a := wr) (B := w.heap.size) ?_ hgrow (by simp; omega) (fun j e => ?_)
        · exact (((Below.refl _ wr).alloc (by omega) _).alloc (by simp; omega) _)
        · exact (World.ownsRow.lt hown2 j e).1
      have HB4 := Lib.hid (HB.out.trans hb4)
      clear hb4 hgrow hown' hown2 d0 d1
      go_wp2_with fail
      go_loopw [4, 7] (fun v n wi => ∃ (m : Nat) (y : Lay) (s : List Lay) (A3 : Option Addr) (c3 : Nat), m = s.length + 1 ∧ v = .slice A3 m c3 ∧ n = .int .i64 m ∧ OwnL wi w.heap.size A3 c3 (s.reverse ++ [y]) ∧ Below w.heap.size w wi ∧ Hid (TgI S x y s)) (fun _ n _ => (intOf n).toNat)
      case atStart => exact ⟨S.length + 1, x, S, A2, c2, rfl, rfl, by first | rfl | go_num, hown3, HB4.out, HS1⟩
      case round =>
        obtain ⟨m, y, s, A3, c3, hm, rfl, rfl, hown, hbi, hti⟩ := hrel
        have hml : m ≤ 1000000 := by have := hti.out.len; omega
        obtain ⟨wi, hwi⟩ : ∃ wi, wi = wr := ⟨_, rfl⟩
        subst hwi
        cases s with
        | nil =>
          obtain rfl : m = 1 := hm
          have hg1 : decide ((1 : Int) < ((1 : Nat) : Int)) = false := rfl
          have hg2 : decide (1 < 1) = false := rfl
          go_wp2_with fail
          go_quiet (fail)
          go_wp2_with fail
          go_roundw
          case rel =>
            have hd := hti.out.done (fun z t h => by cases h)
            exact ⟨k + 1, A3, c3, hlt, by go_num, by rw [HSN.out, hd]; rfl, by rw [HSN.out, hd]; exact hown, Bl.drewN hbi _⟩
          case measure => simp [intOf]; omega
        | cons z s =>
          obtain ⟨g, rfl, hgb, hgl, hgc, hgm⟩ := hown.form (by simp)
          have hcl : m ≤ c3 := by simp at hgc hm; omega
          have hcm : c3 ≤ 9223372036854775807 := hgm
          obtain ⟨p, hp⟩ : ∃ p, p = s.length := ⟨_, rfl⟩
          have hrv : (z :: s).reverse ++ [y] = s.reverse ++ [z, y] := by simp
          have hmp : m = p + 2 := by rw [hm, hp]; rfl
          rw [hrv] at hown
          obtain ⟨z0, z1⟩ := hown.at (k := p) (by simp; omega)
          obtain ⟨y0, y1⟩ := hown.at (k := p + 1) (by simp; omega)
          have ez : (s.reverse ++ [z, y])[p]'(by simp; omega) = z := by rw [List.getElem_append_right (by simp; omega)]; simp [hp]
          have ey : (s.reverse ++ [z, y])[p + 1]'(by simp; omega) = y := by rw [List.getElem_append_right (by simp; omega)]; simp [hp]
          rw [ez] at z0 z1
          rw [ey] at y0 y1
          obtain ⟨hyb, hzb⟩ := hti.out.bd
          obtain ⟨q, hq⟩ : ∃ q, q = p + 1 := ⟨_, rfl⟩
          rw [← hq] at y0 y1
          have hi2 : (m : Int) - 2 = (p : Int) := by omega
          have hi1 : (m : Int) - 1 = (q : Int) := by omega
          have hgt1 : decide ((1 : Int) < (m : Int)) = true := decide_eq_true (by omega)
          have hgt2 : decide (1 < m) = true := decide_eq_true (by omega)
          have hp0 : (0 : Int) ≤ (p : Int) := by omega
          have hp1 : (p : Int) < (m : Int) := by omega
          have hq0 : (0 : Int) ≤ (q : Int) := by omega
          have hq1 : (q : Int) < (m : Int) := by omega
          have hpm : p < m := by omega
          have hqm : q < m := by omega
          have hpw : IntKind.i64.wrap (p : Int) = (p : Int) := IntWalk.i64_in _ (by omega)
          have hqw : IntKind.i64.wrap (q : Int) = (q : Int) := IntWalk.i64_in _ (by omega)
          have HMP := Lib.hid hmp
          have HQ := Lib.hid hq
          clear hmp hq
          have HOW := Lib.hid hown
          have HBI := Lib.hid hbi
          have HP := Lib.hid hp
          have hbis := hbi.size
          clear hm hp hrv ez ey hown hbi hgc
          cases hcz : coldr z y
          case true =>
            have HC := Lib.hid (fun W => colder_c z y W hzb hyb)
            rw [hcz] at HC
            have HCZ := Lib.hid hcz
            clear hcz hzb hyb
            go_wp2_with fail
            go_region_held3 (fun W => (wi).heap.size ≤ W.heap.size ∧ (∀ b o, b < (wi).heap.size → W.cell? ⟨b, o, none⟩ = (wi).cell? ⟨b, o, none⟩)) ((refine Sx.goal ?_; repeat first | (with_reducible first | assumption | exact Sx.refl _ | refine Sx.drew ?_ | refine Sx.alloc ?_ _ | refine Sx.set ?_ _ ?_) | (with_reducible apply Sx.below'; (focus (with_reducible assumption))) | omega | (focus (simp; done)) | (focus (simp; omega)))) (first | (go_at_call 49; refine (HC.out _).mono ?_; rintro e w2 ⟨rfl, hb2⟩))
            all_goals
              go_wp2_with fail
              (try rw [← HAS.out])
              go_roundw
              case rel =>
                have hd := hti.out.done (fun a t h => by cases h; exact HCZ.out)
                have hb2 : Below wi.heap.size wi w2 := by (repeat first | (with_reducible first | assumption | exact Below.refl _ _ | refine Bl.drew ?_ | refine Bl.drewN ?_ _ | refine Bl.alloc ?_ _ | refine Bl.set ?_ _ ?_) | (with_reducible apply Bl.step'; (focus (with_reducible assumption))) | omega | (focus (simp; done)) | (focus (simp; omega)))
                refine ⟨k + 1, _, c3, hlt, by go_num, by rw [HSN.out, hd, HMP.out, HP.out]; rfl, ?_, HBI.out.trans (hb2.mono hbis)⟩
                rw [HSN.out, hd]
                have h5 := HOW.out.below hb2
                simpa using h5
              case measure => simp [intOf]; omega
          case false =>
            have HC := Lib.hid (fun W => colder_c z y W hzb hyb)
            rw [hcz] at HC
            have HTN := Lib.hid (hti.out.step hcz)
            obtain ⟨ya, yb, yc, yd⟩ := hyb
            obtain ⟨za, zb, zc, zd⟩ := hzb
            have HAN := Lib.hid (fun W => and_c z y W ⟨by omega, by omega, by omega, by omega⟩ ⟨by omega, by omega, by omega, by omega⟩)
            clear hcz hti
            go_wp2_with fail
            go_region_held3 (fun W => (wi).heap.size ≤ W.heap.size ∧ (∀ b o, b < (wi).heap.size → W.cell? ⟨b, o, none⟩ = (wi).cell? ⟨b, o, none⟩)) ((refine Sx.goal ?_; repeat first | (with_reducible first | assumption | exact Sx.refl _ | refine Sx.drew ?_ | refine Sx.alloc ?_ _ | refine Sx.set ?_ _ ?_) | (with_reducible apply Sx.below'; (focus (with_reducible assumption))) | omega | (focus (simp; done)) | (focus (simp; omega)))) (first | (go_at_call 49; refine (HC.out _).mono ?_; rintro e w2 ⟨rfl, hb2⟩))
            all_goals
              rename_i hHeld
              clear hHeld
              have hb2' : Below wi.heap.size wi w2 := by (repeat first | (with_reducible first | assumption | exact Below.refl _ _ | refine Bl.drew ?_ | refine Bl.drewN ?_ _ | refine Bl.alloc ?_ _ | refine Bl.set ?_ _ ?_) | (with_reducible apply Bl.step'; (focus (with_reducible assumption))) | omega | (focus (simp; done)) | (focus (simp; omega)))
              have hc2 := (bcell hb2').1
              have hgl2 : g < w2.heap.size := Nat.lt_of_lt_of_le hgl hb2'.size
              have HB2 := Lib.hid hb2'
              clear hb2 hb2'
              go_upto_region 10 with fail
              go_cut [8] (fun s8 wx => ∃ b8 : Nat, s8 = .pointer (some ⟨b8, 0, none⟩) ∧ w2.heap.size ≤ b8 ∧ wx.heap[b8]? = some (.cells #[.int .i64 (z.a + y.a), .int .i64 (z.h + y.h)] 76 (0, 0)) ∧ Below w2.heap.size w2 wx)
              case first =>
                go_region_held3 (fun W => (w2).heap.size ≤ W.heap.size ∧ (∀ b o, b < (w2).heap.size → W.cell? ⟨b, o, none⟩ = (w2).cell? ⟨b, o, none⟩) ∧ (∀ b, b < (w2).heap.size → W.heap[b]? = (w2).heap[b]?)) ((refine Sh.goal ?_; repeat first | (with_reducible first | assumption | exact Sh.refl _ | refine Sh.drew ?_ | refine Sh.alloc ?_ _ | refine Sh.set ?_ _ ?_) | (with_reducible apply Sh.below'; (focus (with_reducible assumption))) | omega | (focus (simp; done)) | (focus (simp; omega)))) (first | ((first | go_at_call 50 | go_at_fn 50); refine (HAN.out _).mono ?_; rintro e w3 ⟨rfl, hb⟩; (obtain ⟨hcc, hff⟩ := bcell hb; have hzz := hb.size; (try simp at hzz); (try have z1 : w2.heap.size + 1 < w3.heap.size := by omega); (try have z2 : w2.heap.size + 2 < w3.heap.size := by omega); (try have z3 : w2.heap.size + 3 < w3.heap.size := by omega); (try have z4 : w2.heap.size + 4 < w3.heap.size := by omega); (try have z5 : w2.heap.size + 5 < w3.heap.size := by omega); (try have z0 : w2.heap.size < w3.heap.size := by omega); (try (have zy1 := Nat.lt_of_succ_le hzz; (try (have zy2 := Nat.lt_of_succ_lt zy1; (try have zy3 := Nat.lt_of_succ_lt zy2)))))); (have hb3 := hb); clear hb))
                all_goals
                  go_wp2_with fail
                  go_meet
                  first
                    | exact ⟨w3.heap.size, rfl, hb3.size, by (repeat first | (with_reducible first | assumption | exact blk_new (by first | rfl | (simp; done)) | refine blk_drew ?_) | (with_reducible apply blk_step; (focus (with_reducible assumption))) | (refine blk_alloc ?_)), by (repeat first | (with_reducible first | assumption | exact Below.refl _ _ | refine Bl.drew ?_ | refine Bl.drewN ?_ _ | refine Bl.alloc ?_ _ | refine Bl.set ?_ _ ?_) | (with_reducible apply Bl.step'; (focus (with_reducible assumption))) | omega | (focus (simp; done)) | (focus (simp; omega)))⟩
                    | exact ⟨w2.heap.size, rfl, Nat.le_refl _, set2_block (by (repeat first | (with_reducible first | assumption | exact blk_new (by first | rfl | (simp; done)) | refine blk_drew ?_) | (with_reducible apply blk_step; (focus (with_reducible assumption))) | (refine blk_alloc ?_))), by (repeat first | (with_reducible first | assumption | exact Below.refl _ _ | refine Bl.drew ?_ | refine Bl.drewN ?_ _ | refine Bl.alloc ?_ _ | refine Bl.set ?_ _ ?_) | (with_reducible apply Bl.step'; (focus (with_reducible assumption))) | omega | (focus (simp; done)) | (focus (simp; omega)))⟩
              case rest =>
                obtain ⟨b8, rfl, hb8, k8, hbc⟩ := hcut
                obtain ⟨e0, ef0, e1, ef1⟩ := cv2 k8
                have hfz := (HOW.out.below (HB2.out.trans (hbc.mono HB2.out.size))).fz
                have hf0 := hfz (p * 2)
                have hf1 := hfz (p * 2 + 1)
                have hcc := (bcell hbc).1
                have g0 : wc.cell? ⟨g, p * 2, none⟩ = some (.int .i64 z.a) := by rw [hcc g (p * 2) hgl2, hc2 g (p * 2) hgl]; exact z0
                have g1 : wc.cell? ⟨g, p * 2 + 1, none⟩ = some (.int .i64 z.h) := by rw [hcc g (p * 2 + 1) hgl2, hc2 g (p * 2 + 1) hgl]; exact z1
                have hglc : g < wc.heap.size := Nat.lt_of_lt_of_le hgl2 hbc.size
                have h8l := blk_lt k8
                have HBC := Lib.hid hbc
                have HK8 := Lib.hid k8
                have hp2 : (p : Int) ≤ (c3 : Int) := by have := hcl; omega
                have hp3 : p ≤ c3 := by omega
                have HSP := Lib.hid (show ∀ W : World, (∀ b o, b < wc.heap.size → W.cell? ⟨b, o, none⟩ = wc.cell? ⟨b, o, none⟩) → (∀ b o, b < wc.heap.size → W.frozen? ⟨b, o, none⟩ = wc.frozen? ⟨b, o, none⟩) → ∀ j, j < (encL ⟨z.a + y.a, z.h + y.h⟩).length → (W.cell? ⟨g, 0 + p * 2 + j, none⟩).isSome = true ∧ W.frozen? ⟨g, 0 + p * 2 + j, none⟩ = false from fun W h1 h2 j hj => by
                  rw [Nat.zero_add]
                  match j, hj with
                  | 0, _ => rw [Nat.add_zero, h1 _ _ hglc, h2 _ _ hglc, g0]; exact ⟨rfl, hf0⟩
                  | 1, _ => rw [h1 _ _ hglc, h2 _ _ hglc, g1]; exact ⟨rfl, hf1⟩)
                clear hfz k8 hbc
                go_upto_region 11 with fail
                go_region_law (refine step_append_room rfl (.tmp 54) (.tmp 56) 31 rfl 76 i0 2 Try.underlying31 hi hz1 g 0 p c3 (by simp [Act.eval]) ⟨wc.heap.size, 0, none⟩ 1 1 (encL ⟨z.a + y.a, z.h + y.h⟩) (by simp [Act.eval]) rfl (by exact encL_new) (encL_one _) (by omega) (HSP.out _ (by intro b o hb; simp [World.cell?_alloc_lt, hb]) (fun b o hb => World.frozen?_alloc_past _ _ _ hb)) ?_)
                obtain ⟨wz, hwz⟩ : ∃ W, W = (wc.alloc (.cells #[.int .i64 (z.a + y.a), .int .i64 (z.h + y.h)] 76)).drew.setCells g (p * 2) (encL ⟨z.a + y.a, z.h + y.h⟩) := ⟨_, rfl⟩
                rw [← hwz]
                have hz2 : wz = ((wc.alloc (.cells #[.int .i64 (z.a + y.a), .int .i64 (z.h + y.h)] 76)).drew.setCell ⟨g, p * 2, none⟩ (.int .i64 (z.a + y.a))).setCell ⟨g, p * 2 + 1, none⟩ (.int .i64 (z.h + y.h)) := by rw [hwz]; rfl
                have hbz : Below w.heap.size w wz := by
                  rw [hz2]
                  exact Below.setCell (Below.setCell ((HBI.out.trans ((HB2.out.trans (HBC.out.mono HB2.out.size)).mono hbis)).alloc (by have := HBC.out.size; have := HB2.out.size; omega) _).drew (p := ⟨g, p * 2, none⟩) hgb _) (p := ⟨g, p * 2 + 1, none⟩) hgb _
                have hoz : OwnL wz w.heap.size (some ⟨g, 0, none⟩) c3 (s.reverse ++ [⟨z.a + y.a, z.h + y.h⟩]) := by
                  have h1 := (HOW.out.below (HB2.out.trans (HBC.out.mono HB2.out.size))).below ((Below.refl wc.heap.size wc).alloc (Nat.le_refl _) (.cells #[.int .i64 (z.a + y.a), .int .i64 (z.h + y.h)] 76))
                  rw [show s.reverse ++ [z, y] = (s.reverse ++ [z]) ++ [y] by simp] at h1
                  have h2 := (h1.shrink).put (z := ⟨z.a + y.a, z.h + y.h⟩)
                  rw [List.length_reverse, ← HP.out] at h2
                  rw [hz2]; exact h2
                have HBZ := Lib.hid hbz
                have HOZ := Lib.hid hoz
                clear hwz hz2 hbz hoz
                go_wp2_with fail
                go_roundw
                case rel => exact ⟨p + 1, ⟨z.a + y.a, z.h + y.h⟩, s, _, c3, by rw [HP.out], rfl, by first | rfl | go_num, HOZ.out, HBZ.out, HTN⟩
                case measure => (have := HMP.out); simp [intOf]; omega
    · obtain rfl : k = ls.length := by omega
      rw [List.take_length] at hown
      go_wp2_with fail
      go_ret
      exact ⟨A1, c1, by rw [List.take_length]; unfold togF; simp, hown, hb⟩
end Go.Proofs.Ytgljpjcclncknaa

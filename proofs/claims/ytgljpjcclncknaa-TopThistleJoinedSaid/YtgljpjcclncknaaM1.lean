/- Regions that draw their order, each operation with a value known ahead: one invariant over what is listed. -/
import Derived.Test.YtgljpjcclncknaaTs2
import Derived.Test.YtgljpjcclncknaaGr3
namespace Go.Proofs.Ytgljpjcclncknaa
open Go.RowKit Go.Shelf

def updL (L : Nat → Bool) (i : Nat) : Nat → Bool := fun j => if j = i then true else L j
def listL (listed : Array Bool) : Nat → Bool := fun i => listed.getD i false
theorem mem_ready {md : Region.Mode} {ops : Array Oper} {listed : Array Bool} {i : Nat} :
    i ∈ Region.ready md ops listed ↔ i < ops.size ∧ listed.getD i true = false ∧ ∀ o, ops[i]? = some o → o.after.all (fun e => !Region.binds md e || listed.getD e.on false) = true := by
  unfold Region.ready
  simp only [List.mem_filter, List.mem_range, Bool.and_eq_true, Bool.not_eq_true']
  constructor
  · rintro ⟨h1, h2, h3⟩
    refine ⟨h1, h2, fun o ho => ?_⟩
    rw [ho] at h3
    simpa using h3
  · rintro ⟨h1, h2, h3⟩
    refine ⟨h1, h2, ?_⟩
    have h4 := h3 _ (Array.getElem?_eq_getElem h1)
    rw [Array.getElem?_eq_getElem h1]
    simpa using h4
theorem listL_upd {listed : Array Bool} {i : Nat} (h : i < listed.size) : listL (listed.setIfInBounds i true) = updL (listL listed) i := by
  funext j
  unfold listL updL
  by_cases e : j = i
  · subst e; simp [Array.getD, h]
  · rw [if_neg e]
    simp [Array.getD_eq_getD_getElem?, Array.getElem?_setIfInBounds_ne (Ne.symm e)]
def ClosedL (ops : Array Oper) (L : Nat → Bool) : Prop := ∀ (k : Nat) (o : Oper), ops[k]? = some o → L k = true → ∀ e ∈ o.after.toList, Region.binds .any e = true → L e.on = true
theorem updL_le {L : Nat → Bool} {i j : Nat} (h : L j = true) : updL L i j = true := by unfold updL; split; rfl; exact h
theorem wpAnyIn_invB {F : Fence} {n : Nat} {P : Program} {ops : Array Oper} {Q : Exit → Act → World → Prop} (I : (Nat → Bool) → Act → World → Prop)
    (acyc : ∀ (i : Nat) (o : Oper), ops[i]? = some o → ∀ e ∈ o.after.toList, Region.binds .any e = true → e.on < i)
    (step : ∀ (i : Nat) (o : Oper), ops[i]? = some o → ∀ L a w, I L a w → L i = false → (∀ e ∈ o.after.toList, Region.binds .any e = true → L e.on = true) → ∀ K : Act → World → Prop, (∀ a' w', I (updL L i) a' w' → K a' w') → wpOpIn F n P ops Q i K a w)
    (fin : ∀ L a w, I L a w → (∀ i, i < ops.size → L i = true) → Q .normal a w) :
    ∀ (fuel : Nat) (listed : Array Bool) (a : Act) (w : World), listed.size = ops.size → (listed.toList.filter (fun b => !b)).length = fuel → I (listL listed) a w → wpAnyIn F n P .any ops Q fuel listed a w := by
  have hall : ∀ (listed : Array Bool), listed.size = ops.size → Region.ready .any ops listed = [] → ∀ i, i < ops.size → listL listed i = true := by
    intro listed hs hr i
    induction i using Nat.strongRecOn with
    | _ i ih =>
      intro hi
      by_cases hl : listL listed i = true
      · exact hl
      · exfalso
        have hm : i ∈ Region.ready .any ops listed := by
          refine mem_ready.2 ⟨hi, ?_, fun o ho => ?_⟩
          · have h2 : i < listed.size := by omega
            have h3 : listL listed i = listed[i] := by simp [listL, Array.getD, h2]
            rw [h3] at hl
            simp [Array.getD, h2]
            simpa using hl
          · rw [Array.all_eq_true_iff_forall_mem]
            intro e he
            by_cases hb : Region.binds .any e = true
            · have h4 := acyc i o ho e (by simpa using he) hb
              have h5 := ih e.on h4 (by omega)
              simp only [listL] at h5
              simp [h5]
            · simp [hb]
        rw [hr] at hm
        simp at hm
  intro fuel
  induction fuel with
  | zero =>
    intro listed a w hs hf hI
    have hnone : ∀ i, i < ops.size → listL listed i = true := fun i hi => by
      have h2 : i < listed.size := by omega
      have h3 : listL listed i = listed[i] := by simp [listL, Array.getD, h2]
      rw [h3]
      have h4 := List.filter_eq_nil_iff.1 (List.length_eq_zero_iff.1 hf) listed[i] (by simp)
      simpa using h4
    refine ⟨?_, fin _ _ _ hI hnone⟩
    cases hr : Region.ready .any ops listed with
    | nil => rfl
    | cons i rest =>
      exfalso
      have hm : i ∈ Region.ready .any ops listed := by rw [hr]; simp
      have h1 := mem_ready.1 hm
      have h2 := hnone i h1.1
      have h3 : i < listed.size := by omega
      have h4 := h1.2.1
      simp [listL, Array.getD, h3] at h2 h4
      rw [h2] at h4; cases h4
  | succ fuel ih =>
    intro listed a w hs hf hI
    refine ⟨fun hr => fin _ _ _ hI (hall listed hs hr), fun i hi => ?_⟩
    have h1 := mem_ready.1 hi
    have h3 : i < listed.size := by omega
    have ho := Array.getElem?_eq_getElem h1.1
    have h4 := h1.2.1
    have h5 : listL listed i = false := by simp [listL, Array.getD, h3] at h4 ⊢; exact h4
    refine step i _ ho (listL listed) a w hI h5 (fun e he hb => ?_) _ (fun a' w' hI' => ih _ a' w' (by simp [hs]) ?_ (by rw [listL_upd h3]; exact hI'))
    · have h6 := Array.all_eq_true_iff_forall_mem.1 (h1.2.2 _ ho) e (by simpa using he)
      rw [hb] at h6
      simpa [listL] using h6
    · have h7 : listed[i] = false := by simp [listL, Array.getD, h3] at h5; exact h5
      have h8 : ∀ (l : List Bool) (k : Nat) (hk : k < l.length), l[k] = false → ((l.set k true).filter fun b => !b).length + 1 = (l.filter fun b => !b).length := by
        intro l
        induction l with
        | nil => intro k hk; simp at hk
        | cons b l ihl =>
          intro k hk hb
          cases k with
          | zero => simp at hb; subst hb; simp
          | succ k =>
            have := ihl k (by simpa using hk) (by simpa using hb)
            cases b <;> simp <;> omega
      have := h8 listed.toList i (by simpa using h3) (by simpa using h7)
      rw [Array.toList_setIfInBounds]
      omega
theorem wpIn_region_invB {F : Fence} {n : Nat} {P : Program} {ops : Array Oper} {Q : Exit → Act → World → Prop} {id : Nat} {a : Act} {w : World} (hm : P.follows .mixedOrders = true) (I : (Nat → Bool) → Act → World → Prop)
    (acyc : ∀ (i : Nat) (o : Oper), ops[i]? = some o → ∀ e ∈ o.after.toList, Region.binds .any e = true → e.on < i)
    (h0 : I (fun _ => false) a w.drew)
    (step : ∀ (i : Nat) (o : Oper), ops[i]? = some o → ∀ L a w, I L a w → L i = false → (∀ e ∈ o.after.toList, Region.binds .any e = true → L e.on = true) → ∀ K : Act → World → Prop, (∀ a' w', I (updL L i) a' w' → K a' w') → wpOpIn F n P ops Q i K a w)
    (fin : ∀ L a w, I L a w → (∀ i, i < ops.size → L i = true) → Q .normal a w) : (Code.region id ops true).wpIn F n P Q a w := by
  refine wpIn_region_any hm (wpAnyIn_invB I acyc step fin _ _ _ _ (by simp) ?_ ?_)
  · simp
  · have : listL (Array.replicate ops.size false) = fun _ => false := by
      funext i; unfold listL; simp [Array.getD]
    rw [this]
    exact h0
theorem wpIn_region_inv2B {F : Fence} {n : Nat} {P : Program} {ops : Array Oper} {Q : Exit → Act → World → Prop} {id : Nat} {a : Act} {w : World} (hm : P.follows .mixedOrders = true) (I : (Nat → Bool) → Act → World → Prop)
    (acyc : ∀ (i : Nat) (o : Oper), ops[i]? = some o → ∀ e ∈ o.after.toList, Region.binds .any e = true → e.on < i)
    (h0 : I (fun _ => false) a w.drew)
    (step : ∀ (i : Nat) (o : Oper), ops[i]? = some o → ∀ L a w, I L a w → L i = false → ClosedL ops L → (∀ e ∈ o.after.toList, Region.binds .any e = true → L e.on = true) → ∀ K : Act → World → Prop, (∀ a' w', I (updL L i) a' w' → K a' w') → wpOpIn F n P ops Q i K a w)
    (fin : ∀ L a w, I L a w → (∀ i, i < ops.size → L i = true) → Q .normal a w) : (Code.region id ops true).wpIn F n P Q a w := by
  refine wpIn_region_invB hm (fun L a w => I L a w ∧ ClosedL ops L) acyc ⟨h0, fun _ _ _ h => by cases h⟩ ?_ (fun L a w h => fin L a w h.1)
  intro i o ho L a w hI hLi he K hK
  refine step i o ho L a w hI.1 hLi hI.2 he K (fun a' w' h => hK a' w' ⟨h, fun k ok hk hL e hee hb => ?_⟩)
  by_cases hki : k = i
  · subst hki
    rw [ho] at hk; cases hk
    exact updL_le (he e hee hb)
  · exact updL_le (hI.2 k ok hk (by simpa [updL, hki] using hL) e hee hb)
theorem updL_ne {L : Nat → Bool} {i j : Nat} (h : j ≠ i) : updL L i j = L j := by unfold updL; rw [if_neg h]
/-- The region with a number, in loops too. -/
def findZ (n : Nat) : Code → Option Code
  | .region k ops b => if k = n then some (.region k ops b) else none
  | .seq a b => (findZ n a).or (findZ n b)
  | .block _ c => findZ n c
  | .cond _ a b => (findZ n a).or (findZ n b)
  | .scope c => findZ n c
  | .loop c => findZ n c
  | _ => none
def updS (s : Nat → Value) (i : Nat) (v : Value) : Nat → Value := fun j => if j = i then v else s j
structure RC (X : World) (C : Nat → Value) (sp : Nat → Bool) (L : Nat → Bool) (s : Nat → Value) (w : World) : Prop where
  low : Below X.heap.size X w
  k : ∀ i, sp i = true → L i = true → s i = C i
section
variable {X w w2 : World} {C : Nat → Value} {sp L : Nat → Bool} {s : Nat → Value}
theorem RC.const (h : RC X C sp L s w) (i : Nat) {v : Value} (hv : v = C i) : RC X C sp (updL L i) (updS s i v) w := by
  subst hv
  refine ⟨h.low, fun j hj hL => ?_⟩
  unfold updS
  by_cases e : j = i
  · subst e; rw [if_pos rfl]
  · rw [if_neg e]; unfold updL at hL; rw [if_neg e] at hL; exact h.k j hj hL
theorem RC.world (h : RC X C sp L s w) (hb : Below w.heap.size w w2) : RC X C sp L s w2 := ⟨h.low.trans (hb.mono h.low.size), h.k⟩
theorem RC.skip (h : RC X C sp L s w) (i : Nat) (v : Value) (hi : sp i = false) : RC X C sp (updL L i) (updS s i v) w := by
  refine ⟨h.low, fun j hj hL => ?_⟩
  have e : j ≠ i := fun e => by rw [e, hi] at hj; cases hj
  unfold updL at hL; rw [if_neg e] at hL
  unfold updS; rw [if_neg e]
  exact h.k j hj hL
end
end Go.Proofs.Ytgljpjcclncknaa
namespace Go.Proofs.Ytgljpjcclncknaa
open Go.RowKit

structure Ga where
  re : Int
  im : Int
deriving DecidableEq
structure Win where
  nu : Int
  de : Int
  le : Int
  mo : Int
def gaV (g : Ga) : Value := .agg #[.int .i64 g.re, .int .i64 g.im]
def winV (w : Win) : Value := .agg #[.int .i64 w.nu, .int .i64 w.de, .int .i64 w.le, .int .i64 w.mo]
structure okGa (g : Ga) : Prop where
  r0 : -1048576 ≤ g.re
  r1 : g.re ≤ 1048576
  i0 : -1048576 ≤ g.im
  i1 : g.im ≤ 1048576
structure okWin (w : Win) : Prop where
  n0 : 0 ≤ w.nu
  n1 : w.nu ≤ 1000
  d0 : 1 ≤ w.de
  d1 : w.de ≤ 1000
  l0 : 0 ≤ w.le
  l1 : w.le ≤ 1000
  m0 : 0 ≤ w.mo
  m1 : w.mo ≤ 1000
  lm : w.le ≤ w.mo
def agG (g h : Ga) : Ga := ⟨h.re * g.re + h.im * g.im, h.im * g.re - h.re * g.im⟩
def sqG (g : Ga) : Int := g.re * g.re + g.im * g.im
/-- In step by a window. -/
def stepB (w : Win) (g h : Ga) : Bool := decide (0 < (agG g h).re) && (decide (w.de * max (agG g h).im (-(agG g h).im) ≤ w.nu * (agG g h).re) && (decide (w.le * sqG g ≤ 100 * sqG h) && decide (100 * sqG h ≤ w.mo * sqG g)))
theorem sqG_bd {g : Ga} (h : okGa g) : 0 ≤ sqG g ∧ sqG g ≤ 2199023255552 := by
  obtain ⟨r0, r1, i0, i1⟩ := h
  obtain ⟨_, h2⟩ := mul_bd (a := g.re) (b := g.re) (A := 1048576) (B := 1048576) (by omega) (by omega) (by omega) (by omega)
  obtain ⟨_, h4⟩ := mul_bd (a := g.im) (b := g.im) (A := 1048576) (B := 1048576) (by omega) (by omega) (by omega) (by omega)
  have p1 : 0 ≤ g.re * g.re := by rcases Int.le_total 0 g.re with h | h; exact Int.mul_nonneg h h; exact Int.mul_nonneg_of_nonpos_of_nonpos h h
  have p2 : 0 ≤ g.im * g.im := by rcases Int.le_total 0 g.im with h | h; exact Int.mul_nonneg h h; exact Int.mul_nonneg_of_nonpos_of_nonpos h h
  unfold sqG
  omega
theorem agG_bd {g h : Ga} (hg : okGa g) (hh : okGa h) : (-4398046511104 ≤ (agG g h).re ∧ (agG g h).re ≤ 4398046511104) ∧ -4398046511104 ≤ (agG g h).im ∧ (agG g h).im ≤ 4398046511104 := by
  obtain ⟨r0, r1, i0, i1⟩ := hg
  obtain ⟨s0, s1, j0, j1⟩ := hh
  obtain ⟨a1, a2⟩ := mul_bd (a := h.re) (b := g.re) (A := 1048576) (B := 1048576) (by omega) (by omega) (by omega) (by omega)
  obtain ⟨b1, b2⟩ := mul_bd (a := h.im) (b := g.im) (A := 1048576) (B := 1048576) (by omega) (by omega) (by omega) (by omega)
  obtain ⟨c1, c2⟩ := mul_bd (a := h.im) (b := g.re) (A := 1048576) (B := 1048576) (by omega) (by omega) (by omega) (by omega)
  obtain ⟨d1, d2⟩ := mul_bd (a := h.re) (b := g.im) (A := 1048576) (B := 1048576) (by omega) (by omega) (by omega) (by omega)
  unfold agG
  simp only
  omega
set_option maxHeartbeats 2000000 in
theorem square_c (g : Ga) (w : World) (hg : okGa g) : Calls Try.prog 64 #[gaV g] w fun e w' => e = .returned (.int .i64 (sqG g)) ∧ Below w.heap.size w w' := by
  obtain ⟨r0, r1, i0, i1⟩ := hg
  obtain ⟨a1, a2⟩ := mul_bd (a := g.re) (b := g.re) (A := 1048576) (B := 1048576) (by omega) (by omega) (by omega) (by omega)
  obtain ⟨b1, b2⟩ := mul_bd (a := g.im) (b := g.im) (A := 1048576) (B := 1048576) (by omega) (by omega) (by omega) (by omega)
  unfold gaV sqG
  go_enter Try.func64, Try.ntmps64
  go_wp2
  go_ret
  exact ⟨rfl, by (repeat first | (with_reducible first | assumption | exact Below.refl _ _ | refine Bl.drew ?_ | refine Bl.drewN ?_ _ | refine Bl.alloc ?_ _ | refine Bl.set ?_ _ ?_) | (with_reducible apply Bl.step'; (focus (with_reducible assumption))) | omega | (focus (simp; done)) | (focus (simp; omega)))⟩
set_option maxHeartbeats 2000000 in
theorem against_c (g h : Ga) (w : World) (hg : okGa g) (hh : okGa h) : Calls Try.prog 63 #[gaV g, gaV h] w fun e w' => e = .returned (gaV (agG g h)) ∧ Below w.heap.size w w' := by
  obtain ⟨r0, r1, i0, i1⟩ := hg
  obtain ⟨s0, s1, j0, j1⟩ := hh
  obtain ⟨a1, a2⟩ := mul_bd (a := h.re) (b := g.re) (A := 1048576) (B := 1048576) (by omega) (by omega) (by omega) (by omega)
  obtain ⟨b1, b2⟩ := mul_bd (a := h.im) (b := g.im) (A := 1048576) (B := 1048576) (by omega) (by omega) (by omega) (by omega)
  obtain ⟨c1, c2⟩ := mul_bd (a := h.im) (b := g.re) (A := 1048576) (B := 1048576) (by omega) (by omega) (by omega) (by omega)
  obtain ⟨d1, d2⟩ := mul_bd (a := h.re) (b := g.im) (A := 1048576) (B := 1048576) (by omega) (by omega) (by omega) (by omega)
  unfold gaV agG
  go_enter Try.func63, Try.ntmps63
  go_wp2
  go_returns
  exact ⟨rfl, by (repeat first | (with_reducible first | assumption | exact Below.refl _ _ | refine Bl.drew ?_ | refine Bl.drewN ?_ _ | refine Bl.alloc ?_ _ | refine Bl.set ?_ _ ?_) | (with_reducible apply Bl.step'; (focus (with_reducible assumption))) | omega | (focus (simp; done)) | (focus (simp; omega)))⟩
end Go.Proofs.Ytgljpjcclncknaa
namespace Go.Proofs.Ytgljpjcclncknaa
open Go.RowKit Go.Shelf

noncomputable def st0_c : Code := (findZ 3 (Try.f47.body.getD .skip)).getD .skip
def st0_v (zb : Nat) (wb : Nat) (_gb : Nat) (zr : Int) (zi : Int) (nu : Int) (de : Int) (le : Int) (mo : Int) (M : Int) (sq : Int) (S : Int) (gr : Int) (gi : Int) (_B : Bool) : Nat → Value
  | 0 => .pointer (some ⟨zb, 0, none⟩)
  | 1 => .int .i64 zr
  | 2 => .bool false
  | 3 => .bool false
  | 4 => .pointer (some ⟨wb, 1, none⟩)
  | 5 => .int .i64 de
  | 6 => .pointer (some ⟨zb, 1, none⟩)
  | 7 => .int .i64 zi
  | 8 => .pointer (some ⟨zb, 1, none⟩)
  | 9 => .int .i64 zi
  | 10 => .int .i64 (-zi)
  | 11 => .int .i64 M
  | 12 => .int .i64 (de * M)
  | 13 => .pointer (some ⟨wb, 0, none⟩)
  | 14 => .int .i64 nu
  | 15 => .pointer (some ⟨zb, 0, none⟩)
  | 16 => .int .i64 zr
  | 17 => .int .i64 (nu * zr)
  | 18 => .bool false
  | 19 => .bool false
  | 20 => .bool false
  | 21 => .int .i64 S
  | 22 => .pointer (some ⟨wb, 2, none⟩)
  | 23 => .int .i64 le
  | 24 => .agg #[.int .i64 gr, .int .i64 gi]
  | 25 => .int .i64 sq
  | 26 => .int .i64 (le * sq)
  | 27 => .bool false
  | 28 => .bool false
  | 29 => .bool false
  | 30 => .int .i64 S
  | 31 => .pointer (some ⟨wb, 3, none⟩)
  | 32 => .int .i64 mo
  | 33 => .agg #[.int .i64 gr, .int .i64 gi]
  | 34 => .int .i64 sq
  | 35 => .int .i64 (mo * sq)
  | 36 => .bool false
  | 37 => .bool false
  | 38 => .bool false
  | _ => .bool false
def st0_s (i : Nat) : Bool := !(i == 4) && !(i == 5) && !(i == 6) && !(i == 7) && !(i == 8) && !(i == 9) && !(i == 10) && !(i == 11) && !(i == 12) && !(i == 13) && !(i == 14) && !(i == 15) && !(i == 16) && !(i == 17) && !(i == 18) && !(i == 21) && !(i == 22) && !(i == 23) && !(i == 24) && !(i == 25) && !(i == 26) && !(i == 27) && !(i == 30) && !(i == 31) && !(i == 32) && !(i == 33) && !(i == 34) && !(i == 35) && !(i == 36)
set_option maxRecDepth 100000 in
set_option maxHeartbeats 16000000 in
theorem st0_r (X : World) (zb wb gb : Nat) (zr zi nu de le mo M sq S gr gi : Int) (B : Bool) (hZ0 : X.cell? ⟨zb, 0, none⟩ = some (.int .i64 zr)) (h1 : decide (0 < zr) = false)
    (u0 u1 u2 u5 u6 u9 u10 u11 u12 u13 u14 u15 u16 u17 u18 u19 u20 u21 u22 u23 u24 u25 u26 u27 u28 u29 u30 u31 u32 u33 u34 u35 u36 u37 u38 u39 u40 u41 u42 u43 u44 u45 u46 u47 u48 u49 u50 u51 u52 : Value) (K : Act → World → Prop) (Q : Exit → Act → World → Prop)
    (hK : ∀ (v15 v16 v17 v18 v19 v20 v21 v22 v23 v24 v25 v26 v27 v28 v29 v30 v31 v32 v33 v34 v35 v36 v37 v38 v39 v40 v41 v42 v43 v44 v45 v46 v47 v48 v49 v50 v51 v52 : Value) (wx : World), Below X.heap.size X wx → K { tmps := #[u0, u1, u2, .pointer (some ⟨wb, 0, none⟩), .pointer (some ⟨gb, 0, none⟩), u5, .bool false, .pointer (some ⟨zb, 0, none⟩), .int .i64 S, u9, u10, u11, u12, u13, u14, v15, v16, v17, v18, v19, v20, v21, v22, v23, v24, v25, v26, v27, v28, v29, v30, v31, v32, v33, v34, v35, v36, v37, v38, v39, v40, v41, v42, v43, v44, v45, v46, v47, v48, v49, v50, v51, v52], defers := [] } wx) :
    Code.wp Try.prog st0_c (Exit.then K Q) { tmps := #[u0, u1, u2, .pointer (some ⟨wb, 0, none⟩), .pointer (some ⟨gb, 0, none⟩), u5, u6, .pointer (some ⟨zb, 0, none⟩), .int .i64 S, u9, u10, u11, u12, u13, u14, u15, u16, u17, u18, u19, u20, u21, u22, u23, u24, u25, u26, u27, u28, u29, u30, u31, u32, u33, u34, u35, u36, u37, u38, u39, u40, u41, u42, u43, u44, u45, u46, u47, u48, u49, u50, u51, u52], defers := [] } X := by
  have yzb : zb < X.heap.size := World.block_lt_of_cell? X ⟨zb, 0, none⟩ hZ0
  have hmo : Try.prog.follows .mixedOrders = true := by kernel_rfl
  have HK := Lib.hid hK
  clear hK
  conv => arg 2; whnf
  refine (wpIn_wide (n := 3)).1 ?_
  refine wpIn_region_inv2B hmo (fun L a' w' => ∃ s : Nat → Value, RC X (st0_v zb wb gb zr zi nu de le mo M sq S gr gi B) st0_s L s w' ∧ a' = { tmps := #[u0, u1, u2, .pointer (some ⟨wb, 0, none⟩), .pointer (some ⟨gb, 0, none⟩), u5, s 38, .pointer (some ⟨zb, 0, none⟩), .int .i64 S, u9, u10, u11, u12, u13, u14, s 0, s 1, s 2, s 3, s 4, s 5, s 6, s 7, s 8, s 9, s 10, s 11, s 12, s 13, s 14, s 15, s 16, s 17, s 18, s 19, s 20, s 21, s 22, s 23, s 24, s 25, s 26, s 27, s 28, s 29, s 30, s 31, s 32, s 33, s 34, s 35, s 36, s 37], defers := [] }) ?acyc ?h0 ?step ?fin
  case acyc =>
    intro i o ho
    have hi : i < 39 := by have := (Array.getElem?_eq_some_iff.1 ho).1; simpa using this
    rcases (show i = 0 ∨ i = 1 ∨ i = 2 ∨ i = 3 ∨ i = 4 ∨ i = 5 ∨ i = 6 ∨ i = 7 ∨ i = 8 ∨ i = 9 ∨ i = 10 ∨ i = 11 ∨ i = 12 ∨ i = 13 ∨ i = 14 ∨ i = 15 ∨ i = 16 ∨ i = 17 ∨ i = 18 ∨ i = 19 ∨ i = 20 ∨ i = 21 ∨ i = 22 ∨ i = 23 ∨ i = 24 ∨ i = 25 ∨ i = 26 ∨ i = 27 ∨ i = 28 ∨ i = 29 ∨ i = 30 ∨ i = 31 ∨ i = 32 ∨ i = 33 ∨ i = 34 ∨ i = 35 ∨ i = 36 ∨ i = 37 ∨ i = 38 by omega) with rfl | rfl | rfl | rfl | rfl | rfl | rfl | rfl | rfl | rfl | rfl | rfl | rfl | rfl | rfl | rfl | rfl | rfl | rfl | rfl | rfl | rfl | rfl | rfl | rfl | rfl | rfl | rfl | rfl | rfl | rfl | rfl | rfl | rfl | rfl | rfl | rfl | rfl | rfl <;> (simp at ho; subst ho; simp [Region.binds])
  case h0 => exact ⟨fun i => match i with | 0 => u15 | 1 => u16 | 2 => u17 | 3 => u18 | 4 => u19 | 5 => u20 | 6 => u21 | 7 => u22 | 8 => u23 | 9 => u24 | 10 => u25 | 11 => u26 | 12 => u27 | 13 => u28 | 14 => u29 | 15 => u30 | 16 => u31 | 17 => u32 | 18 => u33 | 19 => u34 | 20 => u35 | 21 => u36 | 22 => u37 | 23 => u38 | 24 => u39 | 25 => u40 | 26 => u41 | 27 => u42 | 28 => u43 | 29 => u44 | 30 => u45 | 31 => u46 | 32 => u47 | 33 => u48 | 34 => u49 | 35 => u50 | 36 => u51 | 37 => u52 | 38 => u6 | _ => .bool false, ⟨by (repeat first | (with_reducible first | assumption | exact Below.refl _ _ | refine Bl.drew ?_ | refine Bl.drewN ?_ _ | refine Bl.alloc ?_ _ | refine Bl.set ?_ _ ?_) | (with_reducible apply Bl.step'; (focus (with_reducible assumption))) | omega | (focus (simp; done)) | (focus (simp; omega))), fun _ _ h => (by cases h)⟩, rfl⟩
  case step =>
    intro i o ho L a' w' hI hLi hcl he K' hK
    obtain ⟨s, hf, rfl⟩ := hI
    have hi : i < 39 := by have := (Array.getElem?_eq_some_iff.1 ho).1; simpa using this
    rcases (show i = 0 ∨ i = 1 ∨ i = 2 ∨ i = 3 ∨ i = 4 ∨ i = 5 ∨ i = 6 ∨ i = 7 ∨ i = 8 ∨ i = 9 ∨ i = 10 ∨ i = 11 ∨ i = 12 ∨ i = 13 ∨ i = 14 ∨ i = 15 ∨ i = 16 ∨ i = 17 ∨ i = 18 ∨ i = 19 ∨ i = 20 ∨ i = 21 ∨ i = 22 ∨ i = 23 ∨ i = 24 ∨ i = 25 ∨ i = 26 ∨ i = 27 ∨ i = 28 ∨ i = 29 ∨ i = 30 ∨ i = 31 ∨ i = 32 ∨ i = 33 ∨ i = 34 ∨ i = 35 ∨ i = 36 ∨ i = 37 ∨ i = 38 by omega) with rfl | rfl | rfl | rfl | rfl | rfl | rfl | rfl | rfl | rfl | rfl | rfl | rfl | rfl | rfl | rfl | rfl | rfl | rfl | rfl | rfl | rfl | rfl | rfl | rfl | rfl | rfl | rfl | rfl | rfl | rfl | rfl | rfl | rfl | rfl | rfl | rfl | rfl | rfl
    · simp at ho
      subst ho
      simp [Region.binds] at he
      simp [wpOpIn, Region.wanted]
      go_simp
      refine hK _ _ ⟨updS s 0 (.pointer (some ⟨zb, 0, none⟩)), hf.const 0 rfl, ?_⟩
      simp [updS]
    · simp at ho
      subst ho
      simp [Region.binds] at he
      have e0 : s 0 = .pointer (some ⟨zb, 0, none⟩) := hf.k 0 rfl (by simp [he])
      simp [wpOpIn, Region.wanted]
      have hczb0 := (hf.low.cell (p := ⟨zb, 0, none⟩) yzb).trans hZ0
      go_simp
      refine hK _ _ ⟨updS s 1 (.int .i64 zr), hf.const 1 rfl, ?_⟩
      simp [updS, e0]
    · simp at ho
      subst ho
      simp [Region.binds] at he
      have e1 : s 1 = .int .i64 zr := hf.k 1 rfl (by simp [he])
      simp [wpOpIn, Region.wanted]
      go_simp
      refine hK _ _ ⟨updS s 2 (.bool false), hf.const 2 rfl, ?_⟩
      simp [updS, e1]
    · simp at ho
      subst ho
      simp [Region.binds] at he
      have e2 : s 2 = .bool false := hf.k 2 rfl (by simp [he])
      simp [wpOpIn, Region.wanted]
      go_simp
      refine hK _ _ ⟨updS s 3 (.bool false), hf.const 3 rfl, ?_⟩
      simp [updS, e2]
    · simp at ho
      subst ho
      simp [Region.binds] at he
      have e3 : s 3 = .bool false := hf.k 3 rfl (by simp [he])
      simp [wpOpIn, Region.wanted, e3]
      go_simp
      refine hK _ _ ⟨updS s 4 undef, hf.skip 4 undef rfl, ?_⟩
      first | rfl | simp [updS, e3]
    · simp at ho
      subst ho
      simp [Region.binds] at he
      have e3 : s 3 = .bool false := hf.k 3 rfl (by simp [he])
      simp [wpOpIn, Region.wanted, e3]
      go_simp
      refine hK _ _ ⟨updS s 5 undef, hf.skip 5 undef rfl, ?_⟩
      first | rfl | simp [updS, e3]
    · simp at ho
      subst ho
      simp [Region.binds] at he
      have e3 : s 3 = .bool false := hf.k 3 rfl (by simp [he])
      simp [wpOpIn, Region.wanted, e3]
      go_simp
      refine hK _ _ ⟨updS s 6 undef, hf.skip 6 undef rfl, ?_⟩
      first | rfl | simp [updS, e3]
    · simp at ho
      subst ho
      simp [Region.binds] at he
      have e3 : s 3 = .bool false := hf.k 3 rfl (by simp [he])
      simp [wpOpIn, Region.wanted, e3]
      go_simp
      refine hK _ _ ⟨updS s 7 undef, hf.skip 7 undef rfl, ?_⟩
      first | rfl | simp [updS, e3]
    · simp at ho
      subst ho
      simp [Region.binds] at he
      have e3 : s 3 = .bool false := hf.k 3 rfl (by simp [he])
      simp [wpOpIn, Region.wanted, e3]
      go_simp
      refine hK _ _ ⟨updS s 8 undef, hf.skip 8 undef rfl, ?_⟩
      first | rfl | simp [updS, e3]
    · simp at ho
      subst ho
      simp [Region.binds] at he
      have e3 : s 3 = .bool false := hf.k 3 rfl (by simp [he])
      simp [wpOpIn, Region.wanted, e3]
      go_simp
      refine hK _ _ ⟨updS s 9 undef, hf.skip 9 undef rfl, ?_⟩
      first | rfl | simp [updS, e3]
    · simp at ho
      subst ho
      simp [Region.binds] at he
      have e3 : s 3 = .bool false := hf.k 3 rfl (by simp [he])
      simp [wpOpIn, Region.wanted, e3]
      go_simp
      refine hK _ _ ⟨updS s 10 undef, hf.skip 10 undef rfl, ?_⟩
      first | rfl | simp [updS, e3]
    · simp at ho
      subst ho
      simp [Region.binds] at he
      have e3 : s 3 = .bool false := hf.k 3 rfl (by simp [he])
      simp [wpOpIn, Region.wanted, e3]
      go_simp
      refine hK _ _ ⟨updS s 11 undef, hf.skip 11 undef rfl, ?_⟩
      first | rfl | simp [updS, e3]
    · simp at ho
      subst ho
      simp [Region.binds] at he
      have e3 : s 3 = .bool false := hf.k 3 rfl (by simp [he])
      simp [wpOpIn, Region.wanted, e3]
      go_simp
      refine hK _ _ ⟨updS s 12 undef, hf.skip 12 undef rfl, ?_⟩
      first | rfl | simp [updS, e3]
    · simp at ho
      subst ho
      simp [Region.binds] at he
      have e3 : s 3 = .bool false := hf.k 3 rfl (by simp [he])
      simp [wpOpIn, Region.wanted, e3]
      go_simp
      refine hK _ _ ⟨updS s 13 undef, hf.skip 13 undef rfl, ?_⟩
      first | rfl | simp [updS, e3]
    · simp at ho
      subst ho
      simp [Region.binds] at he
      have e3 : s 3 = .bool false := hf.k 3 rfl (by simp [he])
      simp [wpOpIn, Region.wanted, e3]
      go_simp
      refine hK _ _ ⟨updS s 14 undef, hf.skip 14 undef rfl, ?_⟩
      first | rfl | simp [updS, e3]
    · simp at ho
      subst ho
      simp [Region.binds] at he
      have e3 : s 3 = .bool false := hf.k 3 rfl (by simp [he])
      simp [wpOpIn, Region.wanted, e3]
      go_simp
      refine hK _ _ ⟨updS s 15 undef, hf.skip 15 undef rfl, ?_⟩
      first | rfl | simp [updS, e3]
    · simp at ho
      subst ho
      simp [Region.binds] at he
      have e3 : s 3 = .bool false := hf.k 3 rfl (by simp [he])
      simp [wpOpIn, Region.wanted, e3]
      go_simp
      refine hK _ _ ⟨updS s 16 undef, hf.skip 16 undef rfl, ?_⟩
      first | rfl | simp [updS, e3]
    · simp at ho
      subst ho
      simp [Region.binds] at he
      have e3 : s 3 = .bool false := hf.k 3 rfl (by simp [he])
      simp [wpOpIn, Region.wanted, e3]
      go_simp
      refine hK _ _ ⟨updS s 17 undef, hf.skip 17 undef rfl, ?_⟩
      first | rfl | simp [updS, e3]
    · simp at ho
      subst ho
      simp [Region.binds] at he
      have e3 : s 3 = .bool false := hf.k 3 rfl (by simp [he])
      simp [wpOpIn, Region.wanted, e3]
      go_simp
      refine hK _ _ ⟨updS s 18 undef, hf.skip 18 undef rfl, ?_⟩
      first | rfl | simp [updS, e3]
    · simp at ho
      subst ho
      simp [Region.binds] at he
      have e3 : s 3 = .bool false := hf.k 3 rfl (by simp [he])
      simp [wpOpIn, Region.wanted]
      go_simp
      refine hK _ _ ⟨updS s 19 (.bool false), hf.const 19 rfl, ?_⟩
      simp [updS, e3]
    · simp at ho
      subst ho
      simp [Region.binds] at he
      have e19 : s 19 = .bool false := hf.k 19 rfl (by simp [he])
      simp [wpOpIn, Region.wanted]
      go_simp
      refine hK _ _ ⟨updS s 20 (.bool false), hf.const 20 rfl, ?_⟩
      simp [updS, e19]
    · simp at ho
      subst ho
      simp [Region.binds] at he
      have e20 : s 20 = .bool false := hf.k 20 rfl (by simp [he])
      simp [wpOpIn, Region.wanted, e20]
      go_simp
      refine hK _ _ ⟨updS s 21 undef, hf.skip 21 undef rfl, ?_⟩
      first | rfl | simp [updS, e20]
    · simp at ho
      subst ho
      simp [Region.binds] at he
      have e20 : s 20 = .bool false := hf.k 20 rfl (by simp [he])
      simp [wpOpIn, Region.wanted, e20]
      go_simp
      refine hK _ _ ⟨updS s 22 undef, hf.skip 22 undef rfl, ?_⟩
      first | rfl | simp [updS, e20]
    · simp at ho
      subst ho
      simp [Region.binds] at he
      have e20 : s 20 = .bool false := hf.k 20 rfl (by simp [he])
      simp [wpOpIn, Region.wanted, e20]
      go_simp
      refine hK _ _ ⟨updS s 23 undef, hf.skip 23 undef rfl, ?_⟩
      first | rfl | simp [updS, e20]
    · simp at ho
      subst ho
      simp [Region.binds] at he
      have e20 : s 20 = .bool false := hf.k 20 rfl (by simp [he])
      simp [wpOpIn, Region.wanted, e20]
      go_simp
      refine hK _ _ ⟨updS s 24 undef, hf.skip 24 undef rfl, ?_⟩
      first | rfl | simp [updS, e20]
    · simp at ho
      subst ho
      simp [Region.binds] at he
      have e20 : s 20 = .bool false := hf.k 20 rfl (by simp [he])
      simp [wpOpIn, Region.wanted, e20]
      go_simp
      refine ⟨trivial, hK _ _ ?_⟩
      refine ⟨updS s 25 undef, hf.skip 25 undef rfl, ?_⟩
      first | rfl | simp [updS, e20]
    · simp at ho
      subst ho
      simp [Region.binds] at he
      have e20 : s 20 = .bool false := hf.k 20 rfl (by simp [he])
      simp [wpOpIn, Region.wanted, e20]
      go_simp
      refine hK _ _ ⟨updS s 26 undef, hf.skip 26 undef rfl, ?_⟩
      first | rfl | simp [updS, e20]
    · simp at ho
      subst ho
      simp [Region.binds] at he
      have e20 : s 20 = .bool false := hf.k 20 rfl (by simp [he])
      simp [wpOpIn, Region.wanted, e20]
      go_simp
      refine hK _ _ ⟨updS s 27 undef, hf.skip 27 undef rfl, ?_⟩
      first | rfl | simp [updS, e20]
    · simp at ho
      subst ho
      simp [Region.binds] at he
      have e20 : s 20 = .bool false := hf.k 20 rfl (by simp [he])
      simp [wpOpIn, Region.wanted]
      go_simp
      refine hK _ _ ⟨updS s 28 (.bool false), hf.const 28 rfl, ?_⟩
      simp [updS, e20]
    · simp at ho
      subst ho
      simp [Region.binds] at he
      have e28 : s 28 = .bool false := hf.k 28 rfl (by simp [he])
      simp [wpOpIn, Region.wanted]
      go_simp
      refine hK _ _ ⟨updS s 29 (.bool false), hf.const 29 rfl, ?_⟩
      simp [updS, e28]
    · simp at ho
      subst ho
      simp [Region.binds] at he
      have e29 : s 29 = .bool false := hf.k 29 rfl (by simp [he])
      simp [wpOpIn, Region.wanted, e29]
      go_simp
      refine hK _ _ ⟨updS s 30 undef, hf.skip 30 undef rfl, ?_⟩
      first | rfl | simp [updS, e29]
    · simp at ho
      subst ho
      simp [Region.binds] at he
      have e29 : s 29 = .bool false := hf.k 29 rfl (by simp [he])
      simp [wpOpIn, Region.wanted, e29]
      go_simp
      refine hK _ _ ⟨updS s 31 undef, hf.skip 31 undef rfl, ?_⟩
      first | rfl | simp [updS, e29]
    · simp at ho
      subst ho
      simp [Region.binds] at he
      have e29 : s 29 = .bool false := hf.k 29 rfl (by simp [he])
      simp [wpOpIn, Region.wanted, e29]
      go_simp
      refine hK _ _ ⟨updS s 32 undef, hf.skip 32 undef rfl, ?_⟩
      first | rfl | simp [updS, e29]
    · simp at ho
      subst ho
      simp [Region.binds] at he
      have e29 : s 29 = .bool false := hf.k 29 rfl (by simp [he])
      simp [wpOpIn, Region.wanted, e29]
      go_simp
      refine hK _ _ ⟨updS s 33 undef, hf.skip 33 undef rfl, ?_⟩
      first | rfl | simp [updS, e29]
    · simp at ho
      subst ho
      simp [Region.binds] at he
      have e29 : s 29 = .bool false := hf.k 29 rfl (by simp [he])
      simp [wpOpIn, Region.wanted, e29]
      go_simp
      refine ⟨trivial, hK _ _ ?_⟩
      refine ⟨updS s 34 undef, hf.skip 34 undef rfl, ?_⟩
      first | rfl | simp [updS, e29]
    · simp at ho
      subst ho
      simp [Region.binds] at he
      have e29 : s 29 = .bool false := hf.k 29 rfl (by simp [he])
      simp [wpOpIn, Region.wanted, e29]
      go_simp
      refine hK _ _ ⟨updS s 35 undef, hf.skip 35 undef rfl, ?_⟩
      first | rfl | simp [updS, e29]
    · simp at ho
      subst ho
      simp [Region.binds] at he
      have e29 : s 29 = .bool false := hf.k 29 rfl (by simp [he])
      simp [wpOpIn, Region.wanted, e29]
      go_simp
      refine hK _ _ ⟨updS s 36 undef, hf.skip 36 undef rfl, ?_⟩
      first | rfl | simp [updS, e29]
    · simp at ho
      subst ho
      simp [Region.binds] at he
      have e29 : s 29 = .bool false := hf.k 29 rfl (by simp [he])
      simp [wpOpIn, Region.wanted]
      go_simp
      refine hK _ _ ⟨updS s 37 (.bool false), hf.const 37 rfl, ?_⟩
      simp [updS, e29]
    · simp at ho
      subst ho
      simp [Region.binds] at he
      have e37 : s 37 = .bool false := hf.k 37 rfl (by simp [he])
      simp [wpOpIn, Region.wanted]
      go_simp
      refine hK _ _ ⟨updS s 38 (.bool false), hf.const 38 rfl, ?_⟩
      simp [updS, e37]
  case fin =>
    intro L a' w' hI hall
    obtain ⟨s, hf, rfl⟩ := hI
    rw [hf.k 38 rfl (hall 38 (by simp))]
    exact HK.out (s 0) (s 1) (s 2) (s 3) (s 4) (s 5) (s 6) (s 7) (s 8) (s 9) (s 10) (s 11) (s 12) (s 13) (s 14) (s 15) (s 16) (s 17) (s 18) (s 19) (s 20) (s 21) (s 22) (s 23) (s 24) (s 25) (s 26) (s 27) (s 28) (s 29) (s 30) (s 31) (s 32) (s 33) (s 34) (s 35) (s 36) (s 37) w' hf.low
noncomputable def st1_c : Code := (findZ 3 (Try.f47.body.getD .skip)).getD .skip
def st1_v (zb : Nat) (wb : Nat) (_gb : Nat) (zr : Int) (zi : Int) (nu : Int) (de : Int) (le : Int) (mo : Int) (M : Int) (sq : Int) (S : Int) (gr : Int) (gi : Int) (_B : Bool) : Nat → Value
  | 0 => .pointer (some ⟨zb, 0, none⟩)
  | 1 => .int .i64 zr
  | 2 => .bool true
  | 3 => .bool true
  | 4 => .pointer (some ⟨wb, 1, none⟩)
  | 5 => .int .i64 de
  | 6 => .pointer (some ⟨zb, 1, none⟩)
  | 7 => .int .i64 zi
  | 8 => .pointer (some ⟨zb, 1, none⟩)
  | 9 => .int .i64 zi
  | 10 => .int .i64 (-zi)
  | 11 => .int .i64 M
  | 12 => .int .i64 (de * M)
  | 13 => .pointer (some ⟨wb, 0, none⟩)
  | 14 => .int .i64 nu
  | 15 => .pointer (some ⟨zb, 0, none⟩)
  | 16 => .int .i64 zr
  | 17 => .int .i64 (nu * zr)
  | 18 => .bool false
  | 19 => .bool false
  | 20 => .bool false
  | 21 => .int .i64 S
  | 22 => .pointer (some ⟨wb, 2, none⟩)
  | 23 => .int .i64 le
  | 24 => .agg #[.int .i64 gr, .int .i64 gi]
  | 25 => .int .i64 sq
  | 26 => .int .i64 (le * sq)
  | 27 => .bool false
  | 28 => .bool false
  | 29 => .bool false
  | 30 => .int .i64 S
  | 31 => .pointer (some ⟨wb, 3, none⟩)
  | 32 => .int .i64 mo
  | 33 => .agg #[.int .i64 gr, .int .i64 gi]
  | 34 => .int .i64 sq
  | 35 => .int .i64 (mo * sq)
  | 36 => .bool false
  | 37 => .bool false
  | 38 => .bool false
  | _ => .bool false
def st1_s (i : Nat) : Bool := !(i == 21) && !(i == 22) && !(i == 23) && !(i == 24) && !(i == 25) && !(i == 26) && !(i == 27) && !(i == 30) && !(i == 31) && !(i == 32) && !(i == 33) && !(i == 34) && !(i == 35) && !(i == 36)
set_option maxRecDepth 100000 in
set_option maxHeartbeats 16000000 in
theorem st1_r (X : World) (zb wb gb : Nat) (zr zi nu de le mo M sq S gr gi : Int) (B : Bool) (hZ0 : X.cell? ⟨zb, 0, none⟩ = some (.int .i64 zr)) (h1 : decide (0 < zr) = true) (hZ1 : X.cell? ⟨zb, 1, none⟩ = some (.int .i64 zi)) (hW0 : X.cell? ⟨wb, 0, none⟩ = some (.int .i64 nu)) (hW1 : X.cell? ⟨wb, 1, none⟩ = some (.int .i64 de)) (hM : max zi (-zi) = M) (hz0 : -4398046511104 ≤ zi) (hz1 : zi ≤ 4398046511104) (hp0 : -5000000000000000 ≤ de * M) (hp1 : de * M ≤ 5000000000000000) (hq0 : -5000000000000000 ≤ nu * zr) (hq1 : nu * zr ≤ 5000000000000000) (h2 : decide (de * M ≤ nu * zr) = false)
    (u0 u1 u2 u5 u6 u9 u10 u11 u12 u13 u14 u15 u16 u17 u18 u19 u20 u21 u22 u23 u24 u25 u26 u27 u28 u29 u30 u31 u32 u33 u34 u35 u36 u37 u38 u39 u40 u41 u42 u43 u44 u45 u46 u47 u48 u49 u50 u51 u52 : Value) (K : Act → World → Prop) (Q : Exit → Act → World → Prop)
    (hK : ∀ (v15 v16 v17 v18 v19 v20 v21 v22 v23 v24 v25 v26 v27 v28 v29 v30 v31 v32 v33 v34 v35 v36 v37 v38 v39 v40 v41 v42 v43 v44 v45 v46 v47 v48 v49 v50 v51 v52 : Value) (wx : World), Below X.heap.size X wx → K { tmps := #[u0, u1, u2, .pointer (some ⟨wb, 0, none⟩), .pointer (some ⟨gb, 0, none⟩), u5, .bool false, .pointer (some ⟨zb, 0, none⟩), .int .i64 S, u9, u10, u11, u12, u13, u14, v15, v16, v17, v18, v19, v20, v21, v22, v23, v24, v25, v26, v27, v28, v29, v30, v31, v32, v33, v34, v35, v36, v37, v38, v39, v40, v41, v42, v43, v44, v45, v46, v47, v48, v49, v50, v51, v52], defers := [] } wx) :
    Code.wp Try.prog st1_c (Exit.then K Q) { tmps := #[u0, u1, u2, .pointer (some ⟨wb, 0, none⟩), .pointer (some ⟨gb, 0, none⟩), u5, u6, .pointer (some ⟨zb, 0, none⟩), .int .i64 S, u9, u10, u11, u12, u13, u14, u15, u16, u17, u18, u19, u20, u21, u22, u23, u24, u25, u26, u27, u28, u29, u30, u31, u32, u33, u34, u35, u36, u37, u38, u39, u40, u41, u42, u43, u44, u45, u46, u47, u48, u49, u50, u51, u52], defers := [] } X := by
  have yzb : zb < X.heap.size := World.block_lt_of_cell? X ⟨zb, 0, none⟩ hZ0
  have ywb : wb < X.heap.size := World.block_lt_of_cell? X ⟨wb, 0, none⟩ hW0
  have hmo : Try.prog.follows .mixedOrders = true := by kernel_rfl
  have HK := Lib.hid hK
  clear hK
  conv => arg 2; whnf
  refine (wpIn_wide (n := 3)).1 ?_
  refine wpIn_region_inv2B hmo (fun L a' w' => ∃ s : Nat → Value, RC X (st1_v zb wb gb zr zi nu de le mo M sq S gr gi B) st1_s L s w' ∧ a' = { tmps := #[u0, u1, u2, .pointer (some ⟨wb, 0, none⟩), .pointer (some ⟨gb, 0, none⟩), u5, s 38, .pointer (some ⟨zb, 0, none⟩), .int .i64 S, u9, u10, u11, u12, u13, u14, s 0, s 1, s 2, s 3, s 4, s 5, s 6, s 7, s 8, s 9, s 10, s 11, s 12, s 13, s 14, s 15, s 16, s 17, s 18, s 19, s 20, s 21, s 22, s 23, s 24, s 25, s 26, s 27, s 28, s 29, s 30, s 31, s 32, s 33, s 34, s 35, s 36, s 37], defers := [] }) ?acyc ?h0 ?step ?fin
  case acyc =>
    intro i o ho
    have hi : i < 39 := by have := (Array.getElem?_eq_some_iff.1 ho).1; simpa using this
    rcases (show i = 0 ∨ i = 1 ∨ i = 2 ∨ i = 3 ∨ i = 4 ∨ i = 5 ∨ i = 6 ∨ i = 7 ∨ i = 8 ∨ i = 9 ∨ i = 10 ∨ i = 11 ∨ i = 12 ∨ i = 13 ∨ i = 14 ∨ i = 15 ∨ i = 16 ∨ i = 17 ∨ i = 18 ∨ i = 19 ∨ i = 20 ∨ i = 21 ∨ i = 22 ∨ i = 23 ∨ i = 24 ∨ i = 25 ∨ i = 26 ∨ i = 27 ∨ i = 28 ∨ i = 29 ∨ i = 30 ∨ i = 31 ∨ i = 32 ∨ i = 33 ∨ i = 34 ∨ i = 35 ∨ i = 36 ∨ i = 37 ∨ i = 38 by omega) with rfl | rfl | rfl | rfl | rfl | rfl | rfl | rfl | rfl | rfl | rfl | rfl | rfl | rfl | rfl | rfl | rfl | rfl | rfl | rfl | rfl | rfl | rfl | rfl | rfl | rfl | rfl | rfl | rfl | rfl | rfl | rfl | rfl | rfl | rfl | rfl | rfl | rfl | rfl <;> (simp at ho; subst ho; simp [Region.binds])
  case h0 => exact ⟨fun i => match i with | 0 => u15 | 1 => u16 | 2 => u17 | 3 => u18 | 4 => u19 | 5 => u20 | 6 => u21 | 7 => u22 | 8 => u23 | 9 => u24 | 10 => u25 | 11 => u26 | 12 => u27 | 13 => u28 | 14 => u29 | 15 => u30 | 16 => u31 | 17 => u32 | 18 => u33 | 19 => u34 | 20 => u35 | 21 => u36 | 22 => u37 | 23 => u38 | 24 => u39 | 25 => u40 | 26 => u41 | 27 => u42 | 28 => u43 | 29 => u44 | 30 => u45 | 31 => u46 | 32 => u47 | 33 => u48 | 34 => u49 | 35 => u50 | 36 => u51 | 37 => u52 | 38 => u6 | _ => .bool false, ⟨by (repeat first | (with_reducible first | assumption | exact Below.refl _ _ | refine Bl.drew ?_ | refine Bl.drewN ?_ _ | refine Bl.alloc ?_ _ | refine Bl.set ?_ _ ?_) | (with_reducible apply Bl.step'; (focus (with_reducible assumption))) | omega | (focus (simp; done)) | (focus (simp; omega))), fun _ _ h => (by cases h)⟩, rfl⟩
  case step =>
    intro i o ho L a' w' hI hLi hcl he K' hK
    obtain ⟨s, hf, rfl⟩ := hI
    have hi : i < 39 := by have := (Array.getElem?_eq_some_iff.1 ho).1; simpa using this
    rcases (show i = 0 ∨ i = 1 ∨ i = 2 ∨ i = 3 ∨ i = 4 ∨ i = 5 ∨ i = 6 ∨ i = 7 ∨ i = 8 ∨ i = 9 ∨ i = 10 ∨ i = 11 ∨ i = 12 ∨ i = 13 ∨ i = 14 ∨ i = 15 ∨ i = 16 ∨ i = 17 ∨ i = 18 ∨ i = 19 ∨ i = 20 ∨ i = 21 ∨ i = 22 ∨ i = 23 ∨ i = 24 ∨ i = 25 ∨ i = 26 ∨ i = 27 ∨ i = 28 ∨ i = 29 ∨ i = 30 ∨ i = 31 ∨ i = 32 ∨ i = 33 ∨ i = 34 ∨ i = 35 ∨ i = 36 ∨ i = 37 ∨ i = 38 by omega) with rfl | rfl | rfl | rfl | rfl | rfl | rfl | rfl | rfl | rfl | rfl | rfl | rfl | rfl | rfl | rfl | rfl | rfl | rfl | rfl | rfl | rfl | rfl | rfl | rfl | rfl | rfl | rfl | rfl | rfl | rfl | rfl | rfl | rfl | rfl | rfl | rfl | rfl | rfl
    · simp at ho
      subst ho
      simp [Region.binds] at he
      simp [wpOpIn, Region.wanted]
      go_simp
      refine hK _ _ ⟨updS s 0 (.pointer (some ⟨zb, 0, none⟩)), hf.const 0 rfl, ?_⟩
      simp [updS]
    · simp at ho
      subst ho
      simp [Region.binds] at he
      have e0 : s 0 = .pointer (some ⟨zb, 0, none⟩) := hf.k 0 rfl (by simp [he])
      simp [wpOpIn, Region.wanted]
      have hczb0 := (hf.low.cell (p := ⟨zb, 0, none⟩) yzb).trans hZ0
      go_simp
      refine hK _ _ ⟨updS s 1 (.int .i64 zr), hf.const 1 rfl, ?_⟩
      simp [updS, e0]
    · simp at ho
      subst ho
      simp [Region.binds] at he
      have e1 : s 1 = .int .i64 zr := hf.k 1 rfl (by simp [he])
      simp [wpOpIn, Region.wanted]
      go_simp
      refine hK _ _ ⟨updS s 2 (.bool true), hf.const 2 rfl, ?_⟩
      simp [updS, e1]
    · simp at ho
      subst ho
      simp [Region.binds] at he
      have e2 : s 2 = .bool true := hf.k 2 rfl (by simp [he])
      simp [wpOpIn, Region.wanted]
      go_simp
      refine hK _ _ ⟨updS s 3 (.bool true), hf.const 3 rfl, ?_⟩
      simp [updS, e2]
    · simp at ho
      subst ho
      simp [Region.binds] at he
      have e3 : s 3 = .bool true := hf.k 3 rfl (by simp [he])
      simp [wpOpIn, Region.wanted, e3]
      go_simp
      refine hK _ _ ⟨updS s 4 (.pointer (some ⟨wb, 1, none⟩)), hf.const 4 rfl, ?_⟩
      simp [updS, e3]
    · simp at ho
      subst ho
      simp [Region.binds] at he
      have e3 : s 3 = .bool true := hf.k 3 rfl (by simp [he])
      have e4 : s 4 = .pointer (some ⟨wb, 1, none⟩) := hf.k 4 rfl (by simp [he])
      simp [wpOpIn, Region.wanted, e3, e4]
      have hcwb1 := (hf.low.cell (p := ⟨wb, 1, none⟩) ywb).trans hW1
      go_simp
      refine hK _ _ ⟨updS s 5 (.int .i64 de), hf.const 5 rfl, ?_⟩
      simp [updS, e3, e4]
    · simp at ho
      subst ho
      simp [Region.binds] at he
      have e3 : s 3 = .bool true := hf.k 3 rfl (by simp [he])
      simp [wpOpIn, Region.wanted, e3]
      go_simp
      refine hK _ _ ⟨updS s 6 (.pointer (some ⟨zb, 1, none⟩)), hf.const 6 rfl, ?_⟩
      simp [updS, e3]
    · simp at ho
      subst ho
      simp [Region.binds] at he
      have e3 : s 3 = .bool true := hf.k 3 rfl (by simp [he])
      have e6 : s 6 = .pointer (some ⟨zb, 1, none⟩) := hf.k 6 rfl (by simp [he])
      simp [wpOpIn, Region.wanted, e3, e6]
      have hczb1 := (hf.low.cell (p := ⟨zb, 1, none⟩) yzb).trans hZ1
      go_simp
      refine hK _ _ ⟨updS s 7 (.int .i64 zi), hf.const 7 rfl, ?_⟩
      simp [updS, e3, e6]
    · simp at ho
      subst ho
      simp [Region.binds] at he
      have e3 : s 3 = .bool true := hf.k 3 rfl (by simp [he])
      simp [wpOpIn, Region.wanted, e3]
      go_simp
      refine hK _ _ ⟨updS s 8 (.pointer (some ⟨zb, 1, none⟩)), hf.const 8 rfl, ?_⟩
      simp [updS, e3]
    · simp at ho
      subst ho
      simp [Region.binds] at he
      have e3 : s 3 = .bool true := hf.k 3 rfl (by simp [he])
      have e8 : s 8 = .pointer (some ⟨zb, 1, none⟩) := hf.k 8 rfl (by simp [he])
      simp [wpOpIn, Region.wanted, e3, e8]
      have hczb1 := (hf.low.cell (p := ⟨zb, 1, none⟩) yzb).trans hZ1
      go_simp
      refine hK _ _ ⟨updS s 9 (.int .i64 zi), hf.const 9 rfl, ?_⟩
      simp [updS, e3, e8]
    · simp at ho
      subst ho
      simp [Region.binds] at he
      have e3 : s 3 = .bool true := hf.k 3 rfl (by simp [he])
      have e9 : s 9 = .int .i64 zi := hf.k 9 rfl (by simp [he])
      simp [wpOpIn, Region.wanted, e3, e9]
      have hwx : IntKind.i64.wrap (-zi) = -zi := IntWalk.i64_in _ (by omega)
      go_simp
      refine hK _ _ ⟨updS s 10 (.int .i64 (-zi)), hf.const 10 rfl, ?_⟩
      simp [updS, e3, e9]
    · simp at ho
      subst ho
      simp [Region.binds] at he
      have e3 : s 3 = .bool true := hf.k 3 rfl (by simp [he])
      have e7 : s 7 = .int .i64 zi := hf.k 7 rfl (by simp [he])
      have e10 : s 10 = .int .i64 (-zi) := hf.k 10 rfl (by simp [he])
      simp [wpOpIn, Region.wanted, e3, e7, e10]
      go_simp
      refine hK _ _ ⟨updS s 11 (.int .i64 M), hf.const 11 rfl, ?_⟩
      simp [updS, e3, e7, e10]
    · simp at ho
      subst ho
      simp [Region.binds] at he
      have e3 : s 3 = .bool true := hf.k 3 rfl (by simp [he])
      have e5 : s 5 = .int .i64 de := hf.k 5 rfl (by simp [he])
      have e11 : s 11 = .int .i64 M := hf.k 11 rfl (by simp [he])
      simp [wpOpIn, Region.wanted, e3, e5, e11]
      have hwx : IntKind.i64.wrap (de * M) = de * M := IntWalk.i64_in _ (by omega)
      go_simp
      refine hK _ _ ⟨updS s 12 (.int .i64 (de * M)), hf.const 12 rfl, ?_⟩
      simp [updS, e3, e5, e11]
    · simp at ho
      subst ho
      simp [Region.binds] at he
      have e3 : s 3 = .bool true := hf.k 3 rfl (by simp [he])
      simp [wpOpIn, Region.wanted, e3]
      go_simp
      refine hK _ _ ⟨updS s 13 (.pointer (some ⟨wb, 0, none⟩)), hf.const 13 rfl, ?_⟩
      simp [updS, e3]
    · simp at ho
      subst ho
      simp [Region.binds] at he
      have e3 : s 3 = .bool true := hf.k 3 rfl (by simp [he])
      have e13 : s 13 = .pointer (some ⟨wb, 0, none⟩) := hf.k 13 rfl (by simp [he])
      simp [wpOpIn, Region.wanted, e3, e13]
      have hcwb0 := (hf.low.cell (p := ⟨wb, 0, none⟩) ywb).trans hW0
      go_simp
      refine hK _ _ ⟨updS s 14 (.int .i64 nu), hf.const 14 rfl, ?_⟩
      simp [updS, e3, e13]
    · simp at ho
      subst ho
      simp [Region.binds] at he
      have e3 : s 3 = .bool true := hf.k 3 rfl (by simp [he])
      simp [wpOpIn, Region.wanted, e3]
      go_simp
      refine hK _ _ ⟨updS s 15 (.pointer (some ⟨zb, 0, none⟩)), hf.const 15 rfl, ?_⟩
      simp [updS, e3]
    · simp at ho
      subst ho
      simp [Region.binds] at he
      have e3 : s 3 = .bool true := hf.k 3 rfl (by simp [he])
      have e15 : s 15 = .pointer (some ⟨zb, 0, none⟩) := hf.k 15 rfl (by simp [he])
      simp [wpOpIn, Region.wanted, e3, e15]
      have hczb0 := (hf.low.cell (p := ⟨zb, 0, none⟩) yzb).trans hZ0
      go_simp
      refine hK _ _ ⟨updS s 16 (.int .i64 zr), hf.const 16 rfl, ?_⟩
      simp [updS, e3, e15]
    · simp at ho
      subst ho
      simp [Region.binds] at he
      have e3 : s 3 = .bool true := hf.k 3 rfl (by simp [he])
      have e14 : s 14 = .int .i64 nu := hf.k 14 rfl (by simp [he])
      have e16 : s 16 = .int .i64 zr := hf.k 16 rfl (by simp [he])
      simp [wpOpIn, Region.wanted, e3, e14, e16]
      have hwx : IntKind.i64.wrap (nu * zr) = nu * zr := IntWalk.i64_in _ (by omega)
      go_simp
      refine hK _ _ ⟨updS s 17 (.int .i64 (nu * zr)), hf.const 17 rfl, ?_⟩
      simp [updS, e3, e14, e16]
    · simp at ho
      subst ho
      simp [Region.binds] at he
      have e3 : s 3 = .bool true := hf.k 3 rfl (by simp [he])
      have e12 : s 12 = .int .i64 (de * M) := hf.k 12 rfl (by simp [he])
      have e17 : s 17 = .int .i64 (nu * zr) := hf.k 17 rfl (by simp [he])
      simp [wpOpIn, Region.wanted, e3, e12, e17]
      go_simp
      refine hK _ _ ⟨updS s 18 (.bool false), hf.const 18 rfl, ?_⟩
      simp [updS, e3, e12, e17]
    · simp at ho
      subst ho
      simp [Region.binds] at he
      have e3 : s 3 = .bool true := hf.k 3 rfl (by simp [he])
      have e18 : s 18 = .bool false := hf.k 18 rfl (by simp [he])
      simp [wpOpIn, Region.wanted]
      go_simp
      refine hK _ _ ⟨updS s 19 (.bool false), hf.const 19 rfl, ?_⟩
      simp [updS, e3, e18]
    · simp at ho
      subst ho
      simp [Region.binds] at he
      have e19 : s 19 = .bool false := hf.k 19 rfl (by simp [he])
      simp [wpOpIn, Region.wanted]
      go_simp
      refine hK _ _ ⟨updS s 20 (.bool false), hf.const 20 rfl, ?_⟩
      simp [updS, e19]
    · simp at ho
      subst ho
      simp [Region.binds] at he
      have e20 : s 20 = .bool false := hf.k 20 rfl (by simp [he])
      simp [wpOpIn, Region.wanted, e20]
      go_simp
      refine hK _ _ ⟨updS s 21 undef, hf.skip 21 undef rfl, ?_⟩
      first | rfl | simp [updS, e20]
    · simp at ho
      subst ho
      simp [Region.binds] at he
      have e20 : s 20 = .bool false := hf.k 20 rfl (by simp [he])
      simp [wpOpIn, Region.wanted, e20]
      go_simp
      refine hK _ _ ⟨updS s 22 undef, hf.skip 22 undef rfl, ?_⟩
      first | rfl | simp [updS, e20]
    · simp at ho
      subst ho
      simp [Region.binds] at he
      have e20 : s 20 = .bool false := hf.k 20 rfl (by simp [he])
      simp [wpOpIn, Region.wanted, e20]
      go_simp
      refine hK _ _ ⟨updS s 23 undef, hf.skip 23 undef rfl, ?_⟩
      first | rfl | simp [updS, e20]
    · simp at ho
      subst ho
      simp [Region.binds] at he
      have e20 : s 20 = .bool false := hf.k 20 rfl (by simp [he])
      simp [wpOpIn, Region.wanted, e20]
      go_simp
      refine hK _ _ ⟨updS s 24 undef, hf.skip 24 undef rfl, ?_⟩
      first | rfl | simp [updS, e20]
    · simp at ho
      subst ho
      simp [Region.binds] at he
      have e20 : s 20 = .bool false := hf.k 20 rfl (by simp [he])
      simp [wpOpIn, Region.wanted, e20]
      go_simp
      refine ⟨trivial, hK _ _ ?_⟩
      refine ⟨updS s 25 undef, hf.skip 25 undef rfl, ?_⟩
      first | rfl | simp [updS, e20]
    · simp at ho
      subst ho
      simp [Region.binds] at he
      have e20 : s 20 = .bool false := hf.k 20 rfl (by simp [he])
      simp [wpOpIn, Region.wanted, e20]
      go_simp
      refine hK _ _ ⟨updS s 26 undef, hf.skip 26 undef rfl, ?_⟩
      first | rfl | simp [updS, e20]
    · simp at ho
      subst ho
      simp [Region.binds] at he
      have e20 : s 20 = .bool false := hf.k 20 rfl (by simp [he])
      simp [wpOpIn, Region.wanted, e20]
      go_simp
      refine hK _ _ ⟨updS s 27 undef, hf.skip 27 undef rfl, ?_⟩
      first | rfl | simp [updS, e20]
    · simp at ho
      subst ho
      simp [Region.binds] at he
      have e20 : s 20 = .bool false := hf.k 20 rfl (by simp [he])
      simp [wpOpIn, Region.wanted]
      go_simp
      refine hK _ _ ⟨updS s 28 (.bool false), hf.const 28 rfl, ?_⟩
      simp [updS, e20]
    · simp at ho
      subst ho
      simp [Region.binds] at he
      have e28 : s 28 = .bool false := hf.k 28 rfl (by simp [he])
      simp [wpOpIn, Region.wanted]
      go_simp
      refine hK _ _ ⟨updS s 29 (.bool false), hf.const 29 rfl, ?_⟩
      simp [updS, e28]
    · simp at ho
      subst ho
      simp [Region.binds] at he
      have e29 : s 29 = .bool false := hf.k 29 rfl (by simp [he])
      simp [wpOpIn, Region.wanted, e29]
      go_simp
      refine hK _ _ ⟨updS s 30 undef, hf.skip 30 undef rfl, ?_⟩
      first | rfl | simp [updS, e29]
    · simp at ho
      subst ho
      simp [Region.binds] at he
      have e29 : s 29 = .bool false := hf.k 29 rfl (by simp [he])
      simp [wpOpIn, Region.wanted, e29]
      go_simp
      refine hK _ _ ⟨updS s 31 undef, hf.skip 31 undef rfl, ?_⟩
      first | rfl | simp [updS, e29]
    · simp at ho
      subst ho
      simp [Region.binds] at he
      have e29 : s 29 = .bool false := hf.k 29 rfl (by simp [he])
      simp [wpOpIn, Region.wanted, e29]
      go_simp
      refine hK _ _ ⟨updS s 32 undef, hf.skip 32 undef rfl, ?_⟩
      first | rfl | simp [updS, e29]
    · simp at ho
      subst ho
      simp [Region.binds] at he
      have e29 : s 29 = .bool false := hf.k 29 rfl (by simp [he])
      simp [wpOpIn, Region.wanted, e29]
      go_simp
      refine hK _ _ ⟨updS s 33 undef, hf.skip 33 undef rfl, ?_⟩
      first | rfl | simp [updS, e29]
    · simp at ho
      subst ho
      simp [Region.binds] at he
      have e29 : s 29 = .bool false := hf.k 29 rfl (by simp [he])
      simp [wpOpIn, Region.wanted, e29]
      go_simp
      refine ⟨trivial, hK _ _ ?_⟩
      refine ⟨updS s 34 undef, hf.skip 34 undef rfl, ?_⟩
      first | rfl | simp [updS, e29]
    · simp at ho
      subst ho
      simp [Region.binds] at he
      have e29 : s 29 = .bool false := hf.k 29 rfl (by simp [he])
      simp [wpOpIn, Region.wanted, e29]
      go_simp
      refine hK _ _ ⟨updS s 35 undef, hf.skip 35 undef rfl, ?_⟩
      first | rfl | simp [updS, e29]
    · simp at ho
      subst ho
      simp [Region.binds] at he
      have e29 : s 29 = .bool false := hf.k 29 rfl (by simp [he])
      simp [wpOpIn, Region.wanted, e29]
      go_simp
      refine hK _ _ ⟨updS s 36 undef, hf.skip 36 undef rfl, ?_⟩
      first | rfl | simp [updS, e29]
    · simp at ho
      subst ho
      simp [Region.binds] at he
      have e29 : s 29 = .bool false := hf.k 29 rfl (by simp [he])
      simp [wpOpIn, Region.wanted]
      go_simp
      refine hK _ _ ⟨updS s 37 (.bool false), hf.const 37 rfl, ?_⟩
      simp [updS, e29]
    · simp at ho
      subst ho
      simp [Region.binds] at he
      have e37 : s 37 = .bool false := hf.k 37 rfl (by simp [he])
      simp [wpOpIn, Region.wanted]
      go_simp
      refine hK _ _ ⟨updS s 38 (.bool false), hf.const 38 rfl, ?_⟩
      simp [updS, e37]
  case fin =>
    intro L a' w' hI hall
    obtain ⟨s, hf, rfl⟩ := hI
    rw [hf.k 38 rfl (hall 38 (by simp))]
    exact HK.out (s 0) (s 1) (s 2) (s 3) (s 4) (s 5) (s 6) (s 7) (s 8) (s 9) (s 10) (s 11) (s 12) (s 13) (s 14) (s 15) (s 16) (s 17) (s 18) (s 19) (s 20) (s 21) (s 22) (s 23) (s 24) (s 25) (s 26) (s 27) (s 28) (s 29) (s 30) (s 31) (s 32) (s 33) (s 34) (s 35) (s 36) (s 37) w' hf.low
noncomputable def st2_c : Code := (findZ 3 (Try.f47.body.getD .skip)).getD .skip
def st2_v (zb : Nat) (wb : Nat) (_gb : Nat) (zr : Int) (zi : Int) (nu : Int) (de : Int) (le : Int) (mo : Int) (M : Int) (sq : Int) (S : Int) (gr : Int) (gi : Int) (_B : Bool) : Nat → Value
  | 0 => .pointer (some ⟨zb, 0, none⟩)
  | 1 => .int .i64 zr
  | 2 => .bool true
  | 3 => .bool true
  | 4 => .pointer (some ⟨wb, 1, none⟩)
  | 5 => .int .i64 de
  | 6 => .pointer (some ⟨zb, 1, none⟩)
  | 7 => .int .i64 zi
  | 8 => .pointer (some ⟨zb, 1, none⟩)
  | 9 => .int .i64 zi
  | 10 => .int .i64 (-zi)
  | 11 => .int .i64 M
  | 12 => .int .i64 (de * M)
  | 13 => .pointer (some ⟨wb, 0, none⟩)
  | 14 => .int .i64 nu
  | 15 => .pointer (some ⟨zb, 0, none⟩)
  | 16 => .int .i64 zr
  | 17 => .int .i64 (nu * zr)
  | 18 => .bool true
  | 19 => .bool true
  | 20 => .bool true
  | 21 => .int .i64 S
  | 22 => .pointer (some ⟨wb, 2, none⟩)
  | 23 => .int .i64 le
  | 24 => .agg #[.int .i64 gr, .int .i64 gi]
  | 25 => .int .i64 sq
  | 26 => .int .i64 (le * sq)
  | 27 => .bool false
  | 28 => .bool false
  | 29 => .bool false
  | 30 => .int .i64 S
  | 31 => .pointer (some ⟨wb, 3, none⟩)
  | 32 => .int .i64 mo
  | 33 => .agg #[.int .i64 gr, .int .i64 gi]
  | 34 => .int .i64 sq
  | 35 => .int .i64 (mo * sq)
  | 36 => .bool false
  | 37 => .bool false
  | 38 => .bool false
  | _ => .bool false
def st2_s (i : Nat) : Bool := !(i == 30) && !(i == 31) && !(i == 32) && !(i == 33) && !(i == 34) && !(i == 35) && !(i == 36)
set_option maxRecDepth 100000 in
set_option maxHeartbeats 16000000 in
theorem st2_r (X : World) (zb wb gb : Nat) (zr zi nu de le mo M sq S gr gi : Int) (B : Bool) (hZ0 : X.cell? ⟨zb, 0, none⟩ = some (.int .i64 zr)) (h1 : decide (0 < zr) = true) (hZ1 : X.cell? ⟨zb, 1, none⟩ = some (.int .i64 zi)) (hW0 : X.cell? ⟨wb, 0, none⟩ = some (.int .i64 nu)) (hW1 : X.cell? ⟨wb, 1, none⟩ = some (.int .i64 de)) (hM : max zi (-zi) = M) (hz0 : -4398046511104 ≤ zi) (hz1 : zi ≤ 4398046511104) (hp0 : -5000000000000000 ≤ de * M) (hp1 : de * M ≤ 5000000000000000) (hq0 : -5000000000000000 ≤ nu * zr) (hq1 : nu * zr ≤ 5000000000000000) (h2 : decide (de * M ≤ nu * zr) = true) (hW2 : X.cell? ⟨wb, 2, none⟩ = some (.int .i64 le)) (hG0 : X.cell? ⟨gb, 0, none⟩ = some (.int .i64 gr)) (hG1 : X.cell? ⟨gb, 1, none⟩ = some (.int .i64 gi)) (hr0 : -5000000000000000 ≤ le * sq) (hr1 : le * sq ≤ 5000000000000000) (h3 : decide (le * sq ≤ S) = false) (hsq : ∀ W, Below X.heap.size X W → Calls Try.prog 64 #[.agg #[.int .i64 gr, .int .i64 gi]] W fun e w' => e = .returned (.int .i64 sq) ∧ Below W.heap.size W w')
    (u0 u1 u2 u5 u6 u9 u10 u11 u12 u13 u14 u15 u16 u17 u18 u19 u20 u21 u22 u23 u24 u25 u26 u27 u28 u29 u30 u31 u32 u33 u34 u35 u36 u37 u38 u39 u40 u41 u42 u43 u44 u45 u46 u47 u48 u49 u50 u51 u52 : Value) (K : Act → World → Prop) (Q : Exit → Act → World → Prop)
    (hK : ∀ (v15 v16 v17 v18 v19 v20 v21 v22 v23 v24 v25 v26 v27 v28 v29 v30 v31 v32 v33 v34 v35 v36 v37 v38 v39 v40 v41 v42 v43 v44 v45 v46 v47 v48 v49 v50 v51 v52 : Value) (wx : World), Below X.heap.size X wx → K { tmps := #[u0, u1, u2, .pointer (some ⟨wb, 0, none⟩), .pointer (some ⟨gb, 0, none⟩), u5, .bool false, .pointer (some ⟨zb, 0, none⟩), .int .i64 S, u9, u10, u11, u12, u13, u14, v15, v16, v17, v18, v19, v20, v21, v22, v23, v24, v25, v26, v27, v28, v29, v30, v31, v32, v33, v34, v35, v36, v37, v38, v39, v40, v41, v42, v43, v44, v45, v46, v47, v48, v49, v50, v51, v52], defers := [] } wx) :
    Code.wp Try.prog st2_c (Exit.then K Q) { tmps := #[u0, u1, u2, .pointer (some ⟨wb, 0, none⟩), .pointer (some ⟨gb, 0, none⟩), u5, u6, .pointer (some ⟨zb, 0, none⟩), .int .i64 S, u9, u10, u11, u12, u13, u14, u15, u16, u17, u18, u19, u20, u21, u22, u23, u24, u25, u26, u27, u28, u29, u30, u31, u32, u33, u34, u35, u36, u37, u38, u39, u40, u41, u42, u43, u44, u45, u46, u47, u48, u49, u50, u51, u52], defers := [] } X := by
  have yzb : zb < X.heap.size := World.block_lt_of_cell? X ⟨zb, 0, none⟩ hZ0
  have ywb : wb < X.heap.size := World.block_lt_of_cell? X ⟨wb, 0, none⟩ hW0
  have ygb : gb < X.heap.size := World.block_lt_of_cell? X ⟨gb, 0, none⟩ hG0
  have hmo : Try.prog.follows .mixedOrders = true := by kernel_rfl
  have HK := Lib.hid hK
  clear hK
  conv => arg 2; whnf
  refine (wpIn_wide (n := 3)).1 ?_
  refine wpIn_region_inv2B hmo (fun L a' w' => ∃ s : Nat → Value, RC X (st2_v zb wb gb zr zi nu de le mo M sq S gr gi B) st2_s L s w' ∧ a' = { tmps := #[u0, u1, u2, .pointer (some ⟨wb, 0, none⟩), .pointer (some ⟨gb, 0, none⟩), u5, s 38, .pointer (some ⟨zb, 0, none⟩), .int .i64 S, u9, u10, u11, u12, u13, u14, s 0, s 1, s 2, s 3, s 4, s 5, s 6, s 7, s 8, s 9, s 10, s 11, s 12, s 13, s 14, s 15, s 16, s 17, s 18, s 19, s 20, s 21, s 22, s 23, s 24, s 25, s 26, s 27, s 28, s 29, s 30, s 31, s 32, s 33, s 34, s 35, s 36, s 37], defers := [] }) ?acyc ?h0 ?step ?fin
  case acyc =>
    intro i o ho
    have hi : i < 39 := by have := (Array.getElem?_eq_some_iff.1 ho).1; simpa using this
    rcases (show i = 0 ∨ i = 1 ∨ i = 2 ∨ i = 3 ∨ i = 4 ∨ i = 5 ∨ i = 6 ∨ i = 7 ∨ i = 8 ∨ i = 9 ∨ i = 10 ∨ i = 11 ∨ i = 12 ∨ i = 13 ∨ i = 14 ∨ i = 15 ∨ i = 16 ∨ i = 17 ∨ i = 18 ∨ i = 19 ∨ i = 20 ∨ i = 21 ∨ i = 22 ∨ i = 23 ∨ i = 24 ∨ i = 25 ∨ i = 26 ∨ i = 27 ∨ i = 28 ∨ i = 29 ∨ i = 30 ∨ i = 31 ∨ i = 32 ∨ i = 33 ∨ i = 34 ∨ i = 35 ∨ i = 36 ∨ i = 37 ∨ i = 38 by omega) with rfl | rfl | rfl | rfl | rfl | rfl | rfl | rfl | rfl | rfl | rfl | rfl | rfl | rfl | rfl | rfl | rfl | rfl | rfl | rfl | rfl | rfl | rfl | rfl | rfl | rfl | rfl | rfl | rfl | rfl | rfl | rfl | rfl | rfl | rfl | rfl | rfl | rfl | rfl <;> (simp at ho; subst ho; simp [Region.binds])
  case h0 => exact ⟨fun i => match i with | 0 => u15 | 1 => u16 | 2 => u17 | 3 => u18 | 4 => u19 | 5 => u20 | 6 => u21 | 7 => u22 | 8 => u23 | 9 => u24 | 10 => u25 | 11 => u26 | 12 => u27 | 13 => u28 | 14 => u29 | 15 => u30 | 16 => u31 | 17 => u32 | 18 => u33 | 19 => u34 | 20 => u35 | 21 => u36 | 22 => u37 | 23 => u38 | 24 => u39 | 25 => u40 | 26 => u41 | 27 => u42 | 28 => u43 | 29 => u44 | 30 => u45 | 31 => u46 | 32 => u47 | 33 => u48 | 34 => u49 | 35 => u50 | 36 => u51 | 37 => u52 | 38 => u6 | _ => .bool false, ⟨by (repeat first | (with_reducible first | assumption | exact Below.refl _ _ | refine Bl.drew ?_ | refine Bl.drewN ?_ _ | refine Bl.alloc ?_ _ | refine Bl.set ?_ _ ?_) | (with_reducible apply Bl.step'; (focus (with_reducible assumption))) | omega | (focus (simp; done)) | (focus (simp; omega))), fun _ _ h => (by cases h)⟩, rfl⟩
  case step =>
    intro i o ho L a' w' hI hLi hcl he K' hK
    obtain ⟨s, hf, rfl⟩ := hI
    have hi : i < 39 := by have := (Array.getElem?_eq_some_iff.1 ho).1; simpa using this
    rcases (show i = 0 ∨ i = 1 ∨ i = 2 ∨ i = 3 ∨ i = 4 ∨ i = 5 ∨ i = 6 ∨ i = 7 ∨ i = 8 ∨ i = 9 ∨ i = 10 ∨ i = 11 ∨ i = 12 ∨ i = 13 ∨ i = 14 ∨ i = 15 ∨ i = 16 ∨ i = 17 ∨ i = 18 ∨ i = 19 ∨ i = 20 ∨ i = 21 ∨ i = 22 ∨ i = 23 ∨ i = 24 ∨ i = 25 ∨ i = 26 ∨ i = 27 ∨ i = 28 ∨ i = 29 ∨ i = 30 ∨ i = 31 ∨ i = 32 ∨ i = 33 ∨ i = 34 ∨ i = 35 ∨ i = 36 ∨ i = 37 ∨ i = 38 by omega) with rfl | rfl | rfl | rfl | rfl | rfl | rfl | rfl | rfl | rfl | rfl | rfl | rfl | rfl | rfl | rfl | rfl | rfl | rfl | rfl | rfl | rfl | rfl | rfl | rfl | rfl | rfl | rfl | rfl | rfl | rfl | rfl | rfl | rfl | rfl | rfl | rfl | rfl | rfl
    · simp at ho
      subst ho
      simp [Region.binds] at he
      simp [wpOpIn, Region.wanted]
      go_simp
      refine hK _ _ ⟨updS s 0 (.pointer (some ⟨zb, 0, none⟩)), hf.const 0 rfl, ?_⟩
      simp [updS]
    · simp at ho
      subst ho
      simp [Region.binds] at he
      have e0 : s 0 = .pointer (some ⟨zb, 0, none⟩) := hf.k 0 rfl (by simp [he])
      simp [wpOpIn, Region.wanted]
      have hczb0 := (hf.low.cell (p := ⟨zb, 0, none⟩) yzb).trans hZ0
      go_simp
      refine hK _ _ ⟨updS s 1 (.int .i64 zr), hf.const 1 rfl, ?_⟩
      simp [updS, e0]
    · simp at ho
      subst ho
      simp [Region.binds] at he
      have e1 : s 1 = .int .i64 zr := hf.k 1 rfl (by simp [he])
      simp [wpOpIn, Region.wanted]
      go_simp
      refine hK _ _ ⟨updS s 2 (.bool true), hf.const 2 rfl, ?_⟩
      simp [updS, e1]
    · simp at ho
      subst ho
      simp [Region.binds] at he
      have e2 : s 2 = .bool true := hf.k 2 rfl (by simp [he])
      simp [wpOpIn, Region.wanted]
      go_simp
      refine hK _ _ ⟨updS s 3 (.bool true), hf.const 3 rfl, ?_⟩
      simp [updS, e2]
    · simp at ho
      subst ho
      simp [Region.binds] at he
      have e3 : s 3 = .bool true := hf.k 3 rfl (by simp [he])
      simp [wpOpIn, Region.wanted, e3]
      go_simp
      refine hK _ _ ⟨updS s 4 (.pointer (some ⟨wb, 1, none⟩)), hf.const 4 rfl, ?_⟩
      simp [updS, e3]
    · simp at ho
      subst ho
      simp [Region.binds] at he
      have e3 : s 3 = .bool true := hf.k 3 rfl (by simp [he])
      have e4 : s 4 = .pointer (some ⟨wb, 1, none⟩) := hf.k 4 rfl (by simp [he])
      simp [wpOpIn, Region.wanted, e3, e4]
      have hcwb1 := (hf.low.cell (p := ⟨wb, 1, none⟩) ywb).trans hW1
      go_simp
      refine hK _ _ ⟨updS s 5 (.int .i64 de), hf.const 5 rfl, ?_⟩
      simp [updS, e3, e4]
    · simp at ho
      subst ho
      simp [Region.binds] at he
      have e3 : s 3 = .bool true := hf.k 3 rfl (by simp [he])
      simp [wpOpIn, Region.wanted, e3]
      go_simp
      refine hK _ _ ⟨updS s 6 (.pointer (some ⟨zb, 1, none⟩)), hf.const 6 rfl, ?_⟩
      simp [updS, e3]
    · simp at ho
      subst ho
      simp [Region.binds] at he
      have e3 : s 3 = .bool true := hf.k 3 rfl (by simp [he])
      have e6 : s 6 = .pointer (some ⟨zb, 1, none⟩) := hf.k 6 rfl (by simp [he])
      simp [wpOpIn, Region.wanted, e3, e6]
      have hczb1 := (hf.low.cell (p := ⟨zb, 1, none⟩) yzb).trans hZ1
      go_simp
      refine hK _ _ ⟨updS s 7 (.int .i64 zi), hf.const 7 rfl, ?_⟩
      simp [updS, e3, e6]
    · simp at ho
      subst ho
      simp [Region.binds] at he
      have e3 : s 3 = .bool true := hf.k 3 rfl (by simp [he])
      simp [wpOpIn, Region.wanted, e3]
      go_simp
      refine hK _ _ ⟨updS s 8 (.pointer (some ⟨zb, 1, none⟩)), hf.const 8 rfl, ?_⟩
      simp [updS, e3]
    · simp at ho
      subst ho
      simp [Region.binds] at he
      have e3 : s 3 = .bool true := hf.k 3 rfl (by simp [he])
      have e8 : s 8 = .pointer (some ⟨zb, 1, none⟩) := hf.k 8 rfl (by simp [he])
      simp [wpOpIn, Region.wanted, e3, e8]
      have hczb1 := (hf.low.cell (p := ⟨zb, 1, none⟩) yzb).trans hZ1
      go_simp
      refine hK _ _ ⟨updS s 9 (.int .i64 zi), hf.const 9 rfl, ?_⟩
      simp [updS, e3, e8]
    · simp at ho
      subst ho
      simp [Region.binds] at he
      have e3 : s 3 = .bool true := hf.k 3 rfl (by simp [he])
      have e9 : s 9 = .int .i64 zi := hf.k 9 rfl (by simp [he])
      simp [wpOpIn, Region.wanted, e3, e9]
      have hwx : IntKind.i64.wrap (-zi) = -zi := IntWalk.i64_in _ (by omega)
      go_simp
      refine hK _ _ ⟨updS s 10 (.int .i64 (-zi)), hf.const 10 rfl, ?_⟩
      simp [updS, e3, e9]
    · simp at ho
      subst ho
      simp [Region.binds] at he
      have e3 : s 3 = .bool true := hf.k 3 rfl (by simp [he])
      have e7 : s 7 = .int .i64 zi := hf.k 7 rfl (by simp [he])
      have e10 : s 10 = .int .i64 (-zi) := hf.k 10 rfl (by simp [he])
      simp [wpOpIn, Region.wanted, e3, e7, e10]
      go_simp
      refine hK _ _ ⟨updS s 11 (.int .i64 M), hf.const 11 rfl, ?_⟩
      simp [updS, e3, e7, e10]
    · simp at ho
      subst ho
      simp [Region.binds] at he
      have e3 : s 3 = .bool true := hf.k 3 rfl (by simp [he])
      have e5 : s 5 = .int .i64 de := hf.k 5 rfl (by simp [he])
      have e11 : s 11 = .int .i64 M := hf.k 11 rfl (by simp [he])
      simp [wpOpIn, Region.wanted, e3, e5, e11]
      have hwx : IntKind.i64.wrap (de * M) = de * M := IntWalk.i64_in _ (by omega)
      go_simp
      refine hK _ _ ⟨updS s 12 (.int .i64 (de * M)), hf.const 12 rfl, ?_⟩
      simp [updS, e3, e5, e11]
    · simp at ho
      subst ho
      simp [Region.binds] at he
      have e3 : s 3 = .bool true := hf.k 3 rfl (by simp [he])
      simp [wpOpIn, Region.wanted, e3]
      go_simp
      refine hK _ _ ⟨updS s 13 (.pointer (some ⟨wb, 0, none⟩)), hf.const 13 rfl, ?_⟩
      simp [updS, e3]
    · simp at ho
      subst ho
      simp [Region.binds] at he
      have e3 : s 3 = .bool true := hf.k 3 rfl (by simp [he])
      have e13 : s 13 = .pointer (some ⟨wb, 0, none⟩) := hf.k 13 rfl (by simp [he])
      simp [wpOpIn, Region.wanted, e3, e13]
      have hcwb0 := (hf.low.cell (p := ⟨wb, 0, none⟩) ywb).trans hW0
      go_simp
      refine hK _ _ ⟨updS s 14 (.int .i64 nu), hf.const 14 rfl, ?_⟩
      simp [updS, e3, e13]
    · simp at ho
      subst ho
      simp [Region.binds] at he
      have e3 : s 3 = .bool true := hf.k 3 rfl (by simp [he])
      simp [wpOpIn, Region.wanted, e3]
      go_simp
      refine hK _ _ ⟨updS s 15 (.pointer (some ⟨zb, 0, none⟩)), hf.const 15 rfl, ?_⟩
      simp [updS, e3]
    · simp at ho
      subst ho
      simp [Region.binds] at he
      have e3 : s 3 = .bool true := hf.k 3 rfl (by simp [he])
      have e15 : s 15 = .pointer (some ⟨zb, 0, none⟩) := hf.k 15 rfl (by simp [he])
      simp [wpOpIn, Region.wanted, e3, e15]
      have hczb0 := (hf.low.cell (p := ⟨zb, 0, none⟩) yzb).trans hZ0
      go_simp
      refine hK _ _ ⟨updS s 16 (.int .i64 zr), hf.const 16 rfl, ?_⟩
      simp [updS, e3, e15]
    · simp at ho
      subst ho
      simp [Region.binds] at he
      have e3 : s 3 = .bool true := hf.k 3 rfl (by simp [he])
      have e14 : s 14 = .int .i64 nu := hf.k 14 rfl (by simp [he])
      have e16 : s 16 = .int .i64 zr := hf.k 16 rfl (by simp [he])
      simp [wpOpIn, Region.wanted, e3, e14, e16]
      have hwx : IntKind.i64.wrap (nu * zr) = nu * zr := IntWalk.i64_in _ (by omega)
      go_simp
      refine hK _ _ ⟨updS s 17 (.int .i64 (nu * zr)), hf.const 17 rfl, ?_⟩
      simp [updS, e3, e14, e16]
    · simp at ho
      subst ho
      simp [Region.binds] at he
      have e3 : s 3 = .bool true := hf.k 3 rfl (by simp [he])
      have e12 : s 12 = .int .i64 (de * M) := hf.k 12 rfl (by simp [he])
      have e17 : s 17 = .int .i64 (nu * zr) := hf.k 17 rfl (by simp [he])
      simp [wpOpIn, Region.wanted, e3, e12, e17]
      go_simp
      refine hK _ _ ⟨updS s 18 (.bool true), hf.const 18 rfl, ?_⟩
      simp [updS, e3, e12, e17]
    · simp at ho
      subst ho
      simp [Region.binds] at he
      have e3 : s 3 = .bool true := hf.k 3 rfl (by simp [he])
      have e18 : s 18 = .bool true := hf.k 18 rfl (by simp [he])
      simp [wpOpIn, Region.wanted]
      go_simp
      refine hK _ _ ⟨updS s 19 (.bool true), hf.const 19 rfl, ?_⟩
      simp [updS, e3, e18]
    · simp at ho
      subst ho
      simp [Region.binds] at he
      have e19 : s 19 = .bool true := hf.k 19 rfl (by simp [he])
      simp [wpOpIn, Region.wanted]
      go_simp
      refine hK _ _ ⟨updS s 20 (.bool true), hf.const 20 rfl, ?_⟩
      simp [updS, e19]
    · simp at ho
      subst ho
      simp [Region.binds] at he
      have e20 : s 20 = .bool true := hf.k 20 rfl (by simp [he])
      simp [wpOpIn, Region.wanted, e20]
      go_simp
      refine hK _ _ ⟨updS s 21 (.int .i64 S), hf.const 21 rfl, ?_⟩
      simp [updS, e20]
    · simp at ho
      subst ho
      simp [Region.binds] at he
      have e20 : s 20 = .bool true := hf.k 20 rfl (by simp [he])
      simp [wpOpIn, Region.wanted, e20]
      go_simp
      refine hK _ _ ⟨updS s 22 (.pointer (some ⟨wb, 2, none⟩)), hf.const 22 rfl, ?_⟩
      simp [updS, e20]
    · simp at ho
      subst ho
      simp [Region.binds] at he
      have e20 : s 20 = .bool true := hf.k 20 rfl (by simp [he])
      have e22 : s 22 = .pointer (some ⟨wb, 2, none⟩) := hf.k 22 rfl (by simp [he])
      simp [wpOpIn, Region.wanted, e20, e22]
      have hcwb2 := (hf.low.cell (p := ⟨wb, 2, none⟩) ywb).trans hW2
      go_simp
      refine hK _ _ ⟨updS s 23 (.int .i64 le), hf.const 23 rfl, ?_⟩
      simp [updS, e20, e22]
    · simp at ho
      subst ho
      simp [Region.binds] at he
      have e20 : s 20 = .bool true := hf.k 20 rfl (by simp [he])
      simp [wpOpIn, Region.wanted, e20]
      have hcgb0 := (hf.low.cell (p := ⟨gb, 0, none⟩) ygb).trans hG0
      have hcgb1 := (hf.low.cell (p := ⟨gb, 1, none⟩) ygb).trans hG1
      go_simp
      refine hK _ _ ⟨updS s 24 (.agg #[.int .i64 gr, .int .i64 gi]), hf.const 24 rfl, ?_⟩
      simp [updS, e20]
    · simp at ho
      subst ho
      simp [Region.binds] at he
      have e20 : s 20 = .bool true := hf.k 20 rfl (by simp [he])
      have e24 : s 24 = .agg #[.int .i64 gr, .int .i64 gi] := hf.k 24 rfl (by simp [he])
      simp [wpOpIn, Region.wanted, e20, e24]
      have HC := Lib.hid ((callsIn_wide (n := 2)).2 (hsq w' hf.low))
      go_simp
      refine ⟨trivial, HC.out.mono ?_⟩
      rintro e wc ⟨rfl, hbc⟩
      simp only
      refine hK _ _ ⟨updS s 25 (.int .i64 sq), (hf.world hbc).const 25 rfl, ?_⟩
      simp [updS, e20, e24]
    · simp at ho
      subst ho
      simp [Region.binds] at he
      have e20 : s 20 = .bool true := hf.k 20 rfl (by simp [he])
      have e23 : s 23 = .int .i64 le := hf.k 23 rfl (by simp [he])
      have e25 : s 25 = .int .i64 sq := hf.k 25 rfl (by simp [he])
      simp [wpOpIn, Region.wanted, e20, e23, e25]
      have hwx : IntKind.i64.wrap (le * sq) = le * sq := IntWalk.i64_in _ (by omega)
      go_simp
      refine hK _ _ ⟨updS s 26 (.int .i64 (le * sq)), hf.const 26 rfl, ?_⟩
      simp [updS, e20, e23, e25]
    · simp at ho
      subst ho
      simp [Region.binds] at he
      have e20 : s 20 = .bool true := hf.k 20 rfl (by simp [he])
      have e21 : s 21 = .int .i64 S := hf.k 21 rfl (by simp [he])
      have e26 : s 26 = .int .i64 (le * sq) := hf.k 26 rfl (by simp [he])
      simp [wpOpIn, Region.wanted, e20, e21, e26]
      go_simp
      refine hK _ _ ⟨updS s 27 (.bool false), hf.const 27 rfl, ?_⟩
      simp [updS, e20, e21, e26]
    · simp at ho
      subst ho
      simp [Region.binds] at he
      have e20 : s 20 = .bool true := hf.k 20 rfl (by simp [he])
      have e27 : s 27 = .bool false := hf.k 27 rfl (by simp [he])
      simp [wpOpIn, Region.wanted]
      go_simp
      refine hK _ _ ⟨updS s 28 (.bool false), hf.const 28 rfl, ?_⟩
      simp [updS, e20, e27]
    · simp at ho
      subst ho
      simp [Region.binds] at he
      have e28 : s 28 = .bool false := hf.k 28 rfl (by simp [he])
      simp [wpOpIn, Region.wanted]
      go_simp
      refine hK _ _ ⟨updS s 29 (.bool false), hf.const 29 rfl, ?_⟩
      simp [updS, e28]
    · simp at ho
      subst ho
      simp [Region.binds] at he
      have e29 : s 29 = .bool false := hf.k 29 rfl (by simp [he])
      simp [wpOpIn, Region.wanted, e29]
      go_simp
      refine hK _ _ ⟨updS s 30 undef, hf.skip 30 undef rfl, ?_⟩
      first | rfl | simp [updS, e29]
    · simp at ho
      subst ho
      simp [Region.binds] at he
      have e29 : s 29 = .bool false := hf.k 29 rfl (by simp [he])
      simp [wpOpIn, Region.wanted, e29]
      go_simp
      refine hK _ _ ⟨updS s 31 undef, hf.skip 31 undef rfl, ?_⟩
      first | rfl | simp [updS, e29]
    · simp at ho
      subst ho
      simp [Region.binds] at he
      have e29 : s 29 = .bool false := hf.k 29 rfl (by simp [he])
      simp [wpOpIn, Region.wanted, e29]
      go_simp
      refine hK _ _ ⟨updS s 32 undef, hf.skip 32 undef rfl, ?_⟩
      first | rfl | simp [updS, e29]
    · simp at ho
      subst ho
      simp [Region.binds] at he
      have e29 : s 29 = .bool false := hf.k 29 rfl (by simp [he])
      simp [wpOpIn, Region.wanted, e29]
      go_simp
      refine hK _ _ ⟨updS s 33 undef, hf.skip 33 undef rfl, ?_⟩
      first | rfl | simp [updS, e29]
    · simp at ho
      subst ho
      simp [Region.binds] at he
      have e29 : s 29 = .bool false := hf.k 29 rfl (by simp [he])
      simp [wpOpIn, Region.wanted, e29]
      go_simp
      refine ⟨trivial, hK _ _ ?_⟩
      refine ⟨updS s 34 undef, hf.skip 34 undef rfl, ?_⟩
      first | rfl | simp [updS, e29]
    · simp at ho
      subst ho
      simp [Region.binds] at he
      have e29 : s 29 = .bool false := hf.k 29 rfl (by simp [he])
      simp [wpOpIn, Region.wanted, e29]
      go_simp
      refine hK _ _ ⟨updS s 35 undef, hf.skip 35 undef rfl, ?_⟩
      first | rfl | simp [updS, e29]
    · simp at ho
      subst ho
      simp [Region.binds] at he
      have e29 : s 29 = .bool false := hf.k 29 rfl (by simp [he])
      simp [wpOpIn, Region.wanted, e29]
      go_simp
      refine hK _ _ ⟨updS s 36 undef, hf.skip 36 undef rfl, ?_⟩
      first | rfl | simp [updS, e29]
    · simp at ho
      subst ho
      simp [Region.binds] at he
      have e29 : s 29 = .bool false := hf.k 29 rfl (by simp [he])
      simp [wpOpIn, Region.wanted]
      go_simp
      refine hK _ _ ⟨updS s 37 (.bool false), hf.const 37 rfl, ?_⟩
      simp [updS, e29]
    · simp at ho
      subst ho
      simp [Region.binds] at he
      have e37 : s 37 = .bool false := hf.k 37 rfl (by simp [he])
      simp [wpOpIn, Region.wanted]
      go_simp
      refine hK _ _ ⟨updS s 38 (.bool false), hf.const 38 rfl, ?_⟩
      simp [updS, e37]
  case fin =>
    intro L a' w' hI hall
    obtain ⟨s, hf, rfl⟩ := hI
    rw [hf.k 38 rfl (hall 38 (by simp))]
    exact HK.out (s 0) (s 1) (s 2) (s 3) (s 4) (s 5) (s 6) (s 7) (s 8) (s 9) (s 10) (s 11) (s 12) (s 13) (s 14) (s 15) (s 16) (s 17) (s 18) (s 19) (s 20) (s 21) (s 22) (s 23) (s 24) (s 25) (s 26) (s 27) (s 28) (s 29) (s 30) (s 31) (s 32) (s 33) (s 34) (s 35) (s 36) (s 37) w' hf.low
noncomputable def st3_c : Code := (findZ 3 (Try.f47.body.getD .skip)).getD .skip
def st3_v (zb : Nat) (wb : Nat) (_gb : Nat) (zr : Int) (zi : Int) (nu : Int) (de : Int) (le : Int) (mo : Int) (M : Int) (sq : Int) (S : Int) (gr : Int) (gi : Int) (B : Bool) : Nat → Value
  | 0 => .pointer (some ⟨zb, 0, none⟩)
  | 1 => .int .i64 zr
  | 2 => .bool true
  | 3 => .bool true
  | 4 => .pointer (some ⟨wb, 1, none⟩)
  | 5 => .int .i64 de
  | 6 => .pointer (some ⟨zb, 1, none⟩)
  | 7 => .int .i64 zi
  | 8 => .pointer (some ⟨zb, 1, none⟩)
  | 9 => .int .i64 zi
  | 10 => .int .i64 (-zi)
  | 11 => .int .i64 M
  | 12 => .int .i64 (de * M)
  | 13 => .pointer (some ⟨wb, 0, none⟩)
  | 14 => .int .i64 nu
  | 15 => .pointer (some ⟨zb, 0, none⟩)
  | 16 => .int .i64 zr
  | 17 => .int .i64 (nu * zr)
  | 18 => .bool true
  | 19 => .bool true
  | 20 => .bool true
  | 21 => .int .i64 S
  | 22 => .pointer (some ⟨wb, 2, none⟩)
  | 23 => .int .i64 le
  | 24 => .agg #[.int .i64 gr, .int .i64 gi]
  | 25 => .int .i64 sq
  | 26 => .int .i64 (le * sq)
  | 27 => .bool true
  | 28 => .bool true
  | 29 => .bool true
  | 30 => .int .i64 S
  | 31 => .pointer (some ⟨wb, 3, none⟩)
  | 32 => .int .i64 mo
  | 33 => .agg #[.int .i64 gr, .int .i64 gi]
  | 34 => .int .i64 sq
  | 35 => .int .i64 (mo * sq)
  | 36 => .bool B
  | 37 => .bool B
  | 38 => .bool B
  | _ => .bool false
def st3_s (_ : Nat) : Bool := true
set_option maxRecDepth 100000 in
set_option maxHeartbeats 16000000 in
theorem st3_r (X : World) (zb wb gb : Nat) (zr zi nu de le mo M sq S gr gi : Int) (B : Bool) (hZ0 : X.cell? ⟨zb, 0, none⟩ = some (.int .i64 zr)) (h1 : decide (0 < zr) = true) (hZ1 : X.cell? ⟨zb, 1, none⟩ = some (.int .i64 zi)) (hW0 : X.cell? ⟨wb, 0, none⟩ = some (.int .i64 nu)) (hW1 : X.cell? ⟨wb, 1, none⟩ = some (.int .i64 de)) (hM : max zi (-zi) = M) (hz0 : -4398046511104 ≤ zi) (hz1 : zi ≤ 4398046511104) (hp0 : -5000000000000000 ≤ de * M) (hp1 : de * M ≤ 5000000000000000) (hq0 : -5000000000000000 ≤ nu * zr) (hq1 : nu * zr ≤ 5000000000000000) (h2 : decide (de * M ≤ nu * zr) = true) (hW2 : X.cell? ⟨wb, 2, none⟩ = some (.int .i64 le)) (hG0 : X.cell? ⟨gb, 0, none⟩ = some (.int .i64 gr)) (hG1 : X.cell? ⟨gb, 1, none⟩ = some (.int .i64 gi)) (hr0 : -5000000000000000 ≤ le * sq) (hr1 : le * sq ≤ 5000000000000000) (h3 : decide (le * sq ≤ S) = true) (hsq : ∀ W, Below X.heap.size X W → Calls Try.prog 64 #[.agg #[.int .i64 gr, .int .i64 gi]] W fun e w' => e = .returned (.int .i64 sq) ∧ Below W.heap.size W w') (hW3 : X.cell? ⟨wb, 3, none⟩ = some (.int .i64 mo)) (ht0 : -5000000000000000 ≤ mo * sq) (ht1 : mo * sq ≤ 5000000000000000) (h4 : decide (S ≤ mo * sq) = B)
    (u0 u1 u2 u5 u6 u9 u10 u11 u12 u13 u14 u15 u16 u17 u18 u19 u20 u21 u22 u23 u24 u25 u26 u27 u28 u29 u30 u31 u32 u33 u34 u35 u36 u37 u38 u39 u40 u41 u42 u43 u44 u45 u46 u47 u48 u49 u50 u51 u52 : Value) (K : Act → World → Prop) (Q : Exit → Act → World → Prop)
    (hK : ∀ (v15 v16 v17 v18 v19 v20 v21 v22 v23 v24 v25 v26 v27 v28 v29 v30 v31 v32 v33 v34 v35 v36 v37 v38 v39 v40 v41 v42 v43 v44 v45 v46 v47 v48 v49 v50 v51 v52 : Value) (wx : World), Below X.heap.size X wx → K { tmps := #[u0, u1, u2, .pointer (some ⟨wb, 0, none⟩), .pointer (some ⟨gb, 0, none⟩), u5, .bool B, .pointer (some ⟨zb, 0, none⟩), .int .i64 S, u9, u10, u11, u12, u13, u14, v15, v16, v17, v18, v19, v20, v21, v22, v23, v24, v25, v26, v27, v28, v29, v30, v31, v32, v33, v34, v35, v36, v37, v38, v39, v40, v41, v42, v43, v44, v45, v46, v47, v48, v49, v50, v51, v52], defers := [] } wx) :
    Code.wp Try.prog st3_c (Exit.then K Q) { tmps := #[u0, u1, u2, .pointer (some ⟨wb, 0, none⟩), .pointer (some ⟨gb, 0, none⟩), u5, u6, .pointer (some ⟨zb, 0, none⟩), .int .i64 S, u9, u10, u11, u12, u13, u14, u15, u16, u17, u18, u19, u20, u21, u22, u23, u24, u25, u26, u27, u28, u29, u30, u31, u32, u33, u34, u35, u36, u37, u38, u39, u40, u41, u42, u43, u44, u45, u46, u47, u48, u49, u50, u51, u52], defers := [] } X := by
  have yzb : zb < X.heap.size := World.block_lt_of_cell? X ⟨zb, 0, none⟩ hZ0
  have ywb : wb < X.heap.size := World.block_lt_of_cell? X ⟨wb, 0, none⟩ hW0
  have ygb : gb < X.heap.size := World.block_lt_of_cell? X ⟨gb, 0, none⟩ hG0
  have hmo : Try.prog.follows .mixedOrders = true := by kernel_rfl
  have HK := Lib.hid hK
  clear hK
  conv => arg 2; whnf
  refine (wpIn_wide (n := 3)).1 ?_
  refine wpIn_region_inv2B hmo (fun L a' w' => ∃ s : Nat → Value, RC X (st3_v zb wb gb zr zi nu de le mo M sq S gr gi B) st3_s L s w' ∧ a' = { tmps := #[u0, u1, u2, .pointer (some ⟨wb, 0, none⟩), .pointer (some ⟨gb, 0, none⟩), u5, s 38, .pointer (some ⟨zb, 0, none⟩), .int .i64 S, u9, u10, u11, u12, u13, u14, s 0, s 1, s 2, s 3, s 4, s 5, s 6, s 7, s 8, s 9, s 10, s 11, s 12, s 13, s 14, s 15, s 16, s 17, s 18, s 19, s 20, s 21, s 22, s 23, s 24, s 25, s 26, s 27, s 28, s 29, s 30, s 31, s 32, s 33, s 34, s 35, s 36, s 37], defers := [] }) ?acyc ?h0 ?step ?fin
  case acyc =>
    intro i o ho
    have hi : i < 39 := by have := (Array.getElem?_eq_some_iff.1 ho).1; simpa using this
    rcases (show i = 0 ∨ i = 1 ∨ i = 2 ∨ i = 3 ∨ i = 4 ∨ i = 5 ∨ i = 6 ∨ i = 7 ∨ i = 8 ∨ i = 9 ∨ i = 10 ∨ i = 11 ∨ i = 12 ∨ i = 13 ∨ i = 14 ∨ i = 15 ∨ i = 16 ∨ i = 17 ∨ i = 18 ∨ i = 19 ∨ i = 20 ∨ i = 21 ∨ i = 22 ∨ i = 23 ∨ i = 24 ∨ i = 25 ∨ i = 26 ∨ i = 27 ∨ i = 28 ∨ i = 29 ∨ i = 30 ∨ i = 31 ∨ i = 32 ∨ i = 33 ∨ i = 34 ∨ i = 35 ∨ i = 36 ∨ i = 37 ∨ i = 38 by omega) with rfl | rfl | rfl | rfl | rfl | rfl | rfl | rfl | rfl | rfl | rfl | rfl | rfl | rfl | rfl | rfl | rfl | rfl | rfl | rfl | rfl | rfl | rfl | rfl | rfl | rfl | rfl | rfl | rfl | rfl | rfl | rfl | rfl | rfl | rfl | rfl | rfl | rfl | rfl <;> (simp at ho; subst ho; simp [Region.binds])
  case h0 => exact ⟨fun i => match i with | 0 => u15 | 1 => u16 | 2 => u17 | 3 => u18 | 4 => u19 | 5 => u20 | 6 => u21 | 7 => u22 | 8 => u23 | 9 => u24 | 10 => u25 | 11 => u26 | 12 => u27 | 13 => u28 | 14 => u29 | 15 => u30 | 16 => u31 | 17 => u32 | 18 => u33 | 19 => u34 | 20 => u35 | 21 => u36 | 22 => u37 | 23 => u38 | 24 => u39 | 25 => u40 | 26 => u41 | 27 => u42 | 28 => u43 | 29 => u44 | 30 => u45 | 31 => u46 | 32 => u47 | 33 => u48 | 34 => u49 | 35 => u50 | 36 => u51 | 37 => u52 | 38 => u6 | _ => .bool false, ⟨by (repeat first | (with_reducible first | assumption | exact Below.refl _ _ | refine Bl.drew ?_ | refine Bl.drewN ?_ _ | refine Bl.alloc ?_ _ | refine Bl.set ?_ _ ?_) | (with_reducible apply Bl.step'; (focus (with_reducible assumption))) | omega | (focus (simp; done)) | (focus (simp; omega))), fun _ _ h => (by cases h)⟩, rfl⟩
  case step =>
    intro i o ho L a' w' hI hLi hcl he K' hK
    obtain ⟨s, hf, rfl⟩ := hI
    have hi : i < 39 := by have := (Array.getElem?_eq_some_iff.1 ho).1; simpa using this
    rcases (show i = 0 ∨ i = 1 ∨ i = 2 ∨ i = 3 ∨ i = 4 ∨ i = 5 ∨ i = 6 ∨ i = 7 ∨ i = 8 ∨ i = 9 ∨ i = 10 ∨ i = 11 ∨ i = 12 ∨ i = 13 ∨ i = 14 ∨ i = 15 ∨ i = 16 ∨ i = 17 ∨ i = 18 ∨ i = 19 ∨ i = 20 ∨ i = 21 ∨ i = 22 ∨ i = 23 ∨ i = 24 ∨ i = 25 ∨ i = 26 ∨ i = 27 ∨ i = 28 ∨ i = 29 ∨ i = 30 ∨ i = 31 ∨ i = 32 ∨ i = 33 ∨ i = 34 ∨ i = 35 ∨ i = 36 ∨ i = 37 ∨ i = 38 by omega) with rfl | rfl | rfl | rfl | rfl | rfl | rfl | rfl | rfl | rfl | rfl | rfl | rfl | rfl | rfl | rfl | rfl | rfl | rfl | rfl | rfl | rfl | rfl | rfl | rfl | rfl | rfl | rfl | rfl | rfl | rfl | rfl | rfl | rfl | rfl | rfl | rfl | rfl | rfl
    · simp at ho
      subst ho
      simp [Region.binds] at he
      simp [wpOpIn, Region.wanted]
      go_simp
      refine hK _ _ ⟨updS s 0 (.pointer (some ⟨zb, 0, none⟩)), hf.const 0 rfl, ?_⟩
      simp [updS]
    · simp at ho
      subst ho
      simp [Region.binds] at he
      have e0 : s 0 = .pointer (some ⟨zb, 0, none⟩) := hf.k 0 rfl (by simp [he])
      simp [wpOpIn, Region.wanted]
      have hczb0 := (hf.low.cell (p := ⟨zb, 0, none⟩) yzb).trans hZ0
      go_simp
      refine hK _ _ ⟨updS s 1 (.int .i64 zr), hf.const 1 rfl, ?_⟩
      simp [updS, e0]
    · simp at ho
      subst ho
      simp [Region.binds] at he
      have e1 : s 1 = .int .i64 zr := hf.k 1 rfl (by simp [he])
      simp [wpOpIn, Region.wanted]
      go_simp
      refine hK _ _ ⟨updS s 2 (.bool true), hf.const 2 rfl, ?_⟩
      simp [updS, e1]
    · simp at ho
      subst ho
      simp [Region.binds] at he
      have e2 : s 2 = .bool true := hf.k 2 rfl (by simp [he])
      simp [wpOpIn, Region.wanted]
      go_simp
      refine hK _ _ ⟨updS s 3 (.bool true), hf.const 3 rfl, ?_⟩
      simp [updS, e2]
    · simp at ho
      subst ho
      simp [Region.binds] at he
      have e3 : s 3 = .bool true := hf.k 3 rfl (by simp [he])
      simp [wpOpIn, Region.wanted, e3]
      go_simp
      refine hK _ _ ⟨updS s 4 (.pointer (some ⟨wb, 1, none⟩)), hf.const 4 rfl, ?_⟩
      simp [updS, e3]
    · simp at ho
      subst ho
      simp [Region.binds] at he
      have e3 : s 3 = .bool true := hf.k 3 rfl (by simp [he])
      have e4 : s 4 = .pointer (some ⟨wb, 1, none⟩) := hf.k 4 rfl (by simp [he])
      simp [wpOpIn, Region.wanted, e3, e4]
      have hcwb1 := (hf.low.cell (p := ⟨wb, 1, none⟩) ywb).trans hW1
      go_simp
      refine hK _ _ ⟨updS s 5 (.int .i64 de), hf.const 5 rfl, ?_⟩
      simp [updS, e3, e4]
    · simp at ho
      subst ho
      simp [Region.binds] at he
      have e3 : s 3 = .bool true := hf.k 3 rfl (by simp [he])
      simp [wpOpIn, Region.wanted, e3]
      go_simp
      refine hK _ _ ⟨updS s 6 (.pointer (some ⟨zb, 1, none⟩)), hf.const 6 rfl, ?_⟩
      simp [updS, e3]
    · simp at ho
      subst ho
      simp [Region.binds] at he
      have e3 : s 3 = .bool true := hf.k 3 rfl (by simp [he])
      have e6 : s 6 = .pointer (some ⟨zb, 1, none⟩) := hf.k 6 rfl (by simp [he])
      simp [wpOpIn, Region.wanted, e3, e6]
      have hczb1 := (hf.low.cell (p := ⟨zb, 1, none⟩) yzb).trans hZ1
      go_simp
      refine hK _ _ ⟨updS s 7 (.int .i64 zi), hf.const 7 rfl, ?_⟩
      simp [updS, e3, e6]
    · simp at ho
      subst ho
      simp [Region.binds] at he
      have e3 : s 3 = .bool true := hf.k 3 rfl (by simp [he])
      simp [wpOpIn, Region.wanted, e3]
      go_simp
      refine hK _ _ ⟨updS s 8 (.pointer (some ⟨zb, 1, none⟩)), hf.const 8 rfl, ?_⟩
      simp [updS, e3]
    · simp at ho
      subst ho
      simp [Region.binds] at he
      have e3 : s 3 = .bool true := hf.k 3 rfl (by simp [he])
      have e8 : s 8 = .pointer (some ⟨zb, 1, none⟩) := hf.k 8 rfl (by simp [he])
      simp [wpOpIn, Region.wanted, e3, e8]
      have hczb1 := (hf.low.cell (p := ⟨zb, 1, none⟩) yzb).trans hZ1
      go_simp
      refine hK _ _ ⟨updS s 9 (.int .i64 zi), hf.const 9 rfl, ?_⟩
      simp [updS, e3, e8]
    · simp at ho
      subst ho
      simp [Region.binds] at he
      have e3 : s 3 = .bool true := hf.k 3 rfl (by simp [he])
      have e9 : s 9 = .int .i64 zi := hf.k 9 rfl (by simp [he])
      simp [wpOpIn, Region.wanted, e3, e9]
      have hwx : IntKind.i64.wrap (-zi) = -zi := IntWalk.i64_in _ (by omega)
      go_simp
      refine hK _ _ ⟨updS s 10 (.int .i64 (-zi)), hf.const 10 rfl, ?_⟩
      simp [updS, e3, e9]
    · simp at ho
      subst ho
      simp [Region.binds] at he
      have e3 : s 3 = .bool true := hf.k 3 rfl (by simp [he])
      have e7 : s 7 = .int .i64 zi := hf.k 7 rfl (by simp [he])
      have e10 : s 10 = .int .i64 (-zi) := hf.k 10 rfl (by simp [he])
      simp [wpOpIn, Region.wanted, e3, e7, e10]
      go_simp
      refine hK _ _ ⟨updS s 11 (.int .i64 M), hf.const 11 rfl, ?_⟩
      simp [updS, e3, e7, e10]
    · simp at ho
      subst ho
      simp [Region.binds] at he
      have e3 : s 3 = .bool true := hf.k 3 rfl (by simp [he])
      have e5 : s 5 = .int .i64 de := hf.k 5 rfl (by simp [he])
      have e11 : s 11 = .int .i64 M := hf.k 11 rfl (by simp [he])
      simp [wpOpIn, Region.wanted, e3, e5, e11]
      have hwx : IntKind.i64.wrap (de * M) = de * M := IntWalk.i64_in _ (by omega)
      go_simp
      refine hK _ _ ⟨updS s 12 (.int .i64 (de * M)), hf.const 12 rfl, ?_⟩
      simp [updS, e3, e5, e11]
    · simp at ho
      subst ho
      simp [Region.binds] at he
      have e3 : s 3 = .bool true := hf.k 3 rfl (by simp [he])
      simp [wpOpIn, Region.wanted, e3]
      go_simp
      refine hK _ _ ⟨updS s 13 (.pointer (some ⟨wb, 0, none⟩)), hf.const 13 rfl, ?_⟩
      simp [updS, e3]
    · simp at ho
      subst ho
      simp [Region.binds] at he
      have e3 : s 3 = .bool true := hf.k 3 rfl (by simp [he])
      have e13 : s 13 = .pointer (some ⟨wb, 0, none⟩) := hf.k 13 rfl (by simp [he])
      simp [wpOpIn, Region.wanted, e3, e13]
      have hcwb0 := (hf.low.cell (p := ⟨wb, 0, none⟩) ywb).trans hW0
      go_simp
      refine hK _ _ ⟨updS s 14 (.int .i64 nu), hf.const 14 rfl, ?_⟩
      simp [updS, e3, e13]
    · simp at ho
      subst ho
      simp [Region.binds] at he
      have e3 : s 3 = .bool true := hf.k 3 rfl (by simp [he])
      simp [wpOpIn, Region.wanted, e3]
      go_simp
      refine hK _ _ ⟨updS s 15 (.pointer (some ⟨zb, 0, none⟩)), hf.const 15 rfl, ?_⟩
      simp [updS, e3]
    · simp at ho
      subst ho
      simp [Region.binds] at he
      have e3 : s 3 = .bool true := hf.k 3 rfl (by simp [he])
      have e15 : s 15 = .pointer (some ⟨zb, 0, none⟩) := hf.k 15 rfl (by simp [he])
      simp [wpOpIn, Region.wanted, e3, e15]
      have hczb0 := (hf.low.cell (p := ⟨zb, 0, none⟩) yzb).trans hZ0
      go_simp
      refine hK _ _ ⟨updS s 16 (.int .i64 zr), hf.const 16 rfl, ?_⟩
      simp [updS, e3, e15]
    · simp at ho
      subst ho
      simp [Region.binds] at he
      have e3 : s 3 = .bool true := hf.k 3 rfl (by simp [he])
      have e14 : s 14 = .int .i64 nu := hf.k 14 rfl (by simp [he])
      have e16 : s 16 = .int .i64 zr := hf.k 16 rfl (by simp [he])
      simp [wpOpIn, Region.wanted, e3, e14, e16]
      have hwx : IntKind.i64.wrap (nu * zr) = nu * zr := IntWalk.i64_in _ (by omega)
      go_simp
      refine hK _ _ ⟨updS s 17 (.int .i64 (nu * zr)), hf.const 17 rfl, ?_⟩
      simp [updS, e3, e14, e16]
    · simp at ho
      subst ho
      simp [Region.binds] at he
      have e3 : s 3 = .bool true := hf.k 3 rfl (by simp [he])
      have e12 : s 12 = .int .i64 (de * M) := hf.k 12 rfl (by simp [he])
      have e17 : s 17 = .int .i64 (nu * zr) := hf.k 17 rfl (by simp [he])
      simp [wpOpIn, Region.wanted, e3, e12, e17]
      go_simp
      refine hK _ _ ⟨updS s 18 (.bool true), hf.const 18 rfl, ?_⟩
      simp [updS, e3, e12, e17]
    · simp at ho
      subst ho
      simp [Region.binds] at he
      have e3 : s 3 = .bool true := hf.k 3 rfl (by simp [he])
      have e18 : s 18 = .bool true := hf.k 18 rfl (by simp [he])
      simp [wpOpIn, Region.wanted]
      go_simp
      refine hK _ _ ⟨updS s 19 (.bool true), hf.const 19 rfl, ?_⟩
      simp [updS, e3, e18]
    · simp at ho
      subst ho
      simp [Region.binds] at he
      have e19 : s 19 = .bool true := hf.k 19 rfl (by simp [he])
      simp [wpOpIn, Region.wanted]
      go_simp
      refine hK _ _ ⟨updS s 20 (.bool true), hf.const 20 rfl, ?_⟩
      simp [updS, e19]
    · simp at ho
      subst ho
      simp [Region.binds] at he
      have e20 : s 20 = .bool true := hf.k 20 rfl (by simp [he])
      simp [wpOpIn, Region.wanted, e20]
      go_simp
      refine hK _ _ ⟨updS s 21 (.int .i64 S), hf.const 21 rfl, ?_⟩
      simp [updS, e20]
    · simp at ho
      subst ho
      simp [Region.binds] at he
      have e20 : s 20 = .bool true := hf.k 20 rfl (by simp [he])
      simp [wpOpIn, Region.wanted, e20]
      go_simp
      refine hK _ _ ⟨updS s 22 (.pointer (some ⟨wb, 2, none⟩)), hf.const 22 rfl, ?_⟩
      simp [updS, e20]
    · simp at ho
      subst ho
      simp [Region.binds] at he
      have e20 : s 20 = .bool true := hf.k 20 rfl (by simp [he])
      have e22 : s 22 = .pointer (some ⟨wb, 2, none⟩) := hf.k 22 rfl (by simp [he])
      simp [wpOpIn, Region.wanted, e20, e22]
      have hcwb2 := (hf.low.cell (p := ⟨wb, 2, none⟩) ywb).trans hW2
      go_simp
      refine hK _ _ ⟨updS s 23 (.int .i64 le), hf.const 23 rfl, ?_⟩
      simp [updS, e20, e22]
    · simp at ho
      subst ho
      simp [Region.binds] at he
      have e20 : s 20 = .bool true := hf.k 20 rfl (by simp [he])
      simp [wpOpIn, Region.wanted, e20]
      have hcgb0 := (hf.low.cell (p := ⟨gb, 0, none⟩) ygb).trans hG0
      have hcgb1 := (hf.low.cell (p := ⟨gb, 1, none⟩) ygb).trans hG1
      go_simp
      refine hK _ _ ⟨updS s 24 (.agg #[.int .i64 gr, .int .i64 gi]), hf.const 24 rfl, ?_⟩
      simp [updS, e20]
    · simp at ho
      subst ho
      simp [Region.binds] at he
      have e20 : s 20 = .bool true := hf.k 20 rfl (by simp [he])
      have e24 : s 24 = .agg #[.int .i64 gr, .int .i64 gi] := hf.k 24 rfl (by simp [he])
      simp [wpOpIn, Region.wanted, e20, e24]
      have HC := Lib.hid ((callsIn_wide (n := 2)).2 (hsq w' hf.low))
      go_simp
      refine ⟨trivial, HC.out.mono ?_⟩
      rintro e wc ⟨rfl, hbc⟩
      simp only
      refine hK _ _ ⟨updS s 25 (.int .i64 sq), (hf.world hbc).const 25 rfl, ?_⟩
      simp [updS, e20, e24]
    · simp at ho
      subst ho
      simp [Region.binds] at he
      have e20 : s 20 = .bool true := hf.k 20 rfl (by simp [he])
      have e23 : s 23 = .int .i64 le := hf.k 23 rfl (by simp [he])
      have e25 : s 25 = .int .i64 sq := hf.k 25 rfl (by simp [he])
      simp [wpOpIn, Region.wanted, e20, e23, e25]
      have hwx : IntKind.i64.wrap (le * sq) = le * sq := IntWalk.i64_in _ (by omega)
      go_simp
      refine hK _ _ ⟨updS s 26 (.int .i64 (le * sq)), hf.const 26 rfl, ?_⟩
      simp [updS, e20, e23, e25]
    · simp at ho
      subst ho
      simp [Region.binds] at he
      have e20 : s 20 = .bool true := hf.k 20 rfl (by simp [he])
      have e21 : s 21 = .int .i64 S := hf.k 21 rfl (by simp [he])
      have e26 : s 26 = .int .i64 (le * sq) := hf.k 26 rfl (by simp [he])
      simp [wpOpIn, Region.wanted, e20, e21, e26]
      go_simp
      refine hK _ _ ⟨updS s 27 (.bool true), hf.const 27 rfl, ?_⟩
      simp [updS, e20, e21, e26]
    · simp at ho
      subst ho
      simp [Region.binds] at he
      have e20 : s 20 = .bool true := hf.k 20 rfl (by simp [he])
      have e27 : s 27 = .bool true := hf.k 27 rfl (by simp [he])
      simp [wpOpIn, Region.wanted]
      go_simp
      refine hK _ _ ⟨updS s 28 (.bool true), hf.const 28 rfl, ?_⟩
      simp [updS, e20, e27]
    · simp at ho
      subst ho
      simp [Region.binds] at he
      have e28 : s 28 = .bool true := hf.k 28 rfl (by simp [he])
      simp [wpOpIn, Region.wanted]
      go_simp
      refine hK _ _ ⟨updS s 29 (.bool true), hf.const 29 rfl, ?_⟩
      simp [updS, e28]
    · simp at ho
      subst ho
      simp [Region.binds] at he
      have e29 : s 29 = .bool true := hf.k 29 rfl (by simp [he])
      simp [wpOpIn, Region.wanted, e29]
      go_simp
      refine hK _ _ ⟨updS s 30 (.int .i64 S), hf.const 30 rfl, ?_⟩
      simp [updS, e29]
    · simp at ho
      subst ho
      simp [Region.binds] at he
      have e29 : s 29 = .bool true := hf.k 29 rfl (by simp [he])
      simp [wpOpIn, Region.wanted, e29]
      go_simp
      refine hK _ _ ⟨updS s 31 (.pointer (some ⟨wb, 3, none⟩)), hf.const 31 rfl, ?_⟩
      simp [updS, e29]
    · simp at ho
      subst ho
      simp [Region.binds] at he
      have e29 : s 29 = .bool true := hf.k 29 rfl (by simp [he])
      have e31 : s 31 = .pointer (some ⟨wb, 3, none⟩) := hf.k 31 rfl (by simp [he])
      simp [wpOpIn, Region.wanted, e29, e31]
      have hcwb3 := (hf.low.cell (p := ⟨wb, 3, none⟩) ywb).trans hW3
      go_simp
      refine hK _ _ ⟨updS s 32 (.int .i64 mo), hf.const 32 rfl, ?_⟩
      simp [updS, e29, e31]
    · simp at ho
      subst ho
      simp [Region.binds] at he
      have e29 : s 29 = .bool true := hf.k 29 rfl (by simp [he])
      simp [wpOpIn, Region.wanted, e29]
      have hcgb0 := (hf.low.cell (p := ⟨gb, 0, none⟩) ygb).trans hG0
      have hcgb1 := (hf.low.cell (p := ⟨gb, 1, none⟩) ygb).trans hG1
      go_simp
      refine hK _ _ ⟨updS s 33 (.agg #[.int .i64 gr, .int .i64 gi]), hf.const 33 rfl, ?_⟩
      simp [updS, e29]
    · simp at ho
      subst ho
      simp [Region.binds] at he
      have e29 : s 29 = .bool true := hf.k 29 rfl (by simp [he])
      have e33 : s 33 = .agg #[.int .i64 gr, .int .i64 gi] := hf.k 33 rfl (by simp [he])
      simp [wpOpIn, Region.wanted, e29, e33]
      have HC := Lib.hid ((callsIn_wide (n := 2)).2 (hsq w' hf.low))
      go_simp
      refine ⟨trivial, HC.out.mono ?_⟩
      rintro e wc ⟨rfl, hbc⟩
      simp only
      refine hK _ _ ⟨updS s 34 (.int .i64 sq), (hf.world hbc).const 34 rfl, ?_⟩
      simp [updS, e29, e33]
    · simp at ho
      subst ho
      simp [Region.binds] at he
      have e29 : s 29 = .bool true := hf.k 29 rfl (by simp [he])
      have e32 : s 32 = .int .i64 mo := hf.k 32 rfl (by simp [he])
      have e34 : s 34 = .int .i64 sq := hf.k 34 rfl (by simp [he])
      simp [wpOpIn, Region.wanted, e29, e32, e34]
      have hwx : IntKind.i64.wrap (mo * sq) = mo * sq := IntWalk.i64_in _ (by omega)
      go_simp
      refine hK _ _ ⟨updS s 35 (.int .i64 (mo * sq)), hf.const 35 rfl, ?_⟩
      simp [updS, e29, e32, e34]
    · simp at ho
      subst ho
      simp [Region.binds] at he
      have e29 : s 29 = .bool true := hf.k 29 rfl (by simp [he])
      have e30 : s 30 = .int .i64 S := hf.k 30 rfl (by simp [he])
      have e35 : s 35 = .int .i64 (mo * sq) := hf.k 35 rfl (by simp [he])
      simp [wpOpIn, Region.wanted, e29, e30, e35]
      go_simp
      refine hK _ _ ⟨updS s 36 (.bool B), hf.const 36 rfl, ?_⟩
      simp [updS, e29, e30, e35]
    · simp at ho
      subst ho
      simp [Region.binds] at he
      have e29 : s 29 = .bool true := hf.k 29 rfl (by simp [he])
      have e36 : s 36 = .bool B := hf.k 36 rfl (by simp [he])
      simp [wpOpIn, Region.wanted]
      go_simp
      refine hK _ _ ⟨updS s 37 (.bool B), hf.const 37 rfl, ?_⟩
      simp [updS, e29, e36]
    · simp at ho
      subst ho
      simp [Region.binds] at he
      have e37 : s 37 = .bool B := hf.k 37 rfl (by simp [he])
      simp [wpOpIn, Region.wanted]
      go_simp
      refine hK _ _ ⟨updS s 38 (.bool B), hf.const 38 rfl, ?_⟩
      simp [updS, e37]
  case fin =>
    intro L a' w' hI hall
    obtain ⟨s, hf, rfl⟩ := hI
    rw [hf.k 38 rfl (hall 38 (by simp))]
    exact HK.out (s 0) (s 1) (s 2) (s 3) (s 4) (s 5) (s 6) (s 7) (s 8) (s 9) (s 10) (s 11) (s 12) (s 13) (s 14) (s 15) (s 16) (s 17) (s 18) (s 19) (s 20) (s 21) (s 22) (s 23) (s 24) (s 25) (s 26) (s 27) (s 28) (s 29) (s 30) (s 31) (s 32) (s 33) (s 34) (s 35) (s 36) (s 37) w' hf.low
end Go.Proofs.Ytgljpjcclncknaa
namespace Go.Proofs.Ytgljpjcclncknaa
open Go.RowKit

set_option maxRecDepth 100000 in
set_option maxHeartbeats 8000000 in
theorem steps_c (o : Win) (g h : Ga) (w : World) (ho : okWin o) (hg : okGa g) (hh : okGa h) : Calls Try.prog 47 #[winV o, gaV g, gaV h] w fun e w' => e = .returned (.bool (stepB o g h)) ∧ Below w.heap.size w w' := by
  have HA := Lib.hid (fun W => against_c g h W hg hh)
  have HS := Lib.hid (fun W => square_c h W hh)
  have HG := Lib.hid (fun W => square_c g W hg)
  obtain ⟨⟨zr0, zr1⟩, zi0, zi1⟩ := agG_bd hg hh
  obtain ⟨sh0, sh1⟩ := sqG_bd hh
  obtain ⟨sg0, sg1⟩ := sqG_bd hg
  obtain ⟨z, hz⟩ : ∃ z, z = agG g h := ⟨_, rfl⟩
  obtain ⟨S, hS⟩ : ∃ S, S = sqG h := ⟨_, rfl⟩
  obtain ⟨G, hG⟩ : ∃ G, G = sqG g := ⟨_, rfl⟩
  have HB := Lib.hid (show stepB o g h = (decide (0 < z.re) && (decide (o.de * max z.im (-z.im) ≤ o.nu * z.re) && (decide (o.le * G ≤ 100 * S) && decide (100 * S ≤ o.mo * G)))) by rw [hz, hS, hG]; rfl)
  rw [← hz] at HA zr0 zr1 zi0 zi1
  rw [← hS] at HS sh0 sh1
  rw [← hG] at HG sg0 sg1
  obtain ⟨n0, n1, d0, d1, l0, l1, m0, m1, _⟩ := ho
  obtain ⟨BB, hBB⟩ : ∃ BB, BB = stepB o g h := ⟨_, rfl⟩
  rw [← hBB] at HB ⊢
  clear hz hS hG hg hh hBB
  unfold gaV at HA HS HG ⊢
  unfold winV
  go_enter Try.func47, Try.ntmps47
  go_wp2_with fail
  refine (HA.out _).mono ?_
  rintro e w1 ⟨rfl, hb1⟩
  have kw1 : w1.heap[w.heap.size]? = some (.cells #[.int .i64 o.nu, .int .i64 o.de, .int .i64 o.le, .int .i64 o.mo] 63 (0, 0)) := blk_step hb1 (blk_alloc (blk_alloc (blk_new rfl)))
  have kg1 : w1.heap[w.heap.size + 1]? = some (.cells #[.int .i64 g.re, .int .i64 g.im] 65 (0, 0)) := blk_step hb1 (blk_alloc (blk_new (by simp)))
  have kh1 : w1.heap[w.heap.size + 1 + 1]? = some (.cells #[.int .i64 h.re, .int .i64 h.im] 65 (0, 0)) := blk_step hb1 (blk_new (by simp))
  have hbw : Below w.heap.size w w1 := by (repeat first | (with_reducible first | assumption | exact Below.refl _ _ | refine Bl.drew ?_ | refine Bl.drewN ?_ _ | refine Bl.alloc ?_ _ | refine Bl.set ?_ _ ?_) | (with_reducible apply Bl.step'; (focus (with_reducible assumption))) | omega | (focus (simp; done)) | (focus (simp; omega)))
  have HBW := Lib.hid hbw
  have HKW := Lib.hid kw1
  have HKG := Lib.hid kg1
  obtain ⟨h0, hf0, h1, hf1⟩ := cv2 kh1
  have yhl := blk_lt kh1
  clear kw1 kg1 kh1 hb1 hbw
  go_wp2_with fail
  refine (HS.out _).mono ?_
  rintro e w2 ⟨rfl, hb2⟩
  have kz2 : w2.heap[w1.heap.size]? = some (.cells #[.int .i64 z.re, .int .i64 z.im] 65 (0, 0)) := blk_step hb2 (blk_new rfl)
  have kw2 := blk_step hb2 (blk_alloc HKW.out)
  have kg2 := blk_step hb2 (blk_alloc HKG.out)
  have hb12 : Below w1.heap.size w1 w2 := by (repeat first | (with_reducible first | assumption | exact Below.refl _ _ | refine Bl.drew ?_ | refine Bl.drewN ?_ _ | refine Bl.alloc ?_ _ | refine Bl.set ?_ _ ?_) | (with_reducible apply Bl.step'; (focus (with_reducible assumption))) | omega | (focus (simp; done)) | (focus (simp; omega)))
  have HB2 := Lib.hid (HBW.out.trans (hb12.mono HBW.out.size))
  obtain ⟨z0, zf0, z1, zf1⟩ := cv2 kz2
  obtain ⟨a0, af0, a1, af1, a2, af2, a3, af3⟩ := cv4 kw2
  obtain ⟨g0, gf0, g1, gf1⟩ := cv2 kg2
  clear kz2 kw2 kg2 hb2 hb12 h0 hf0 h1 hf1 yhl
  go_upto_region 3 with fail
  obtain ⟨M, hM⟩ : ∃ M, max z.im (-z.im) = M := ⟨_, rfl⟩
  have hM0 : 0 ≤ M := by omega
  have hM1 : M ≤ 4398046511104 := by omega
  obtain ⟨p0, p1⟩ := mul_bd (a := o.de) (b := M) (A := 1000) (B := 4398046511104) (by omega) (by omega) (by omega) (by omega)
  obtain ⟨q0, q1⟩ := mul_bd (a := o.nu) (b := z.re) (A := 1000) (B := 4398046511104) (by omega) (by omega) (by omega) (by omega)
  obtain ⟨r0, r1⟩ := mul_bd (a := o.le) (b := G) (A := 1000) (B := 2199023255552) (by omega) (by omega) (by omega) (by omega)
  obtain ⟨t0, t1⟩ := mul_bd (a := o.mo) (b := G) (A := 1000) (B := 2199023255552) (by omega) (by omega) (by omega) (by omega)
  have HM := Lib.hid hM
  by_cases c1 : 0 < z.re
  · by_cases c2 : o.de * M ≤ o.nu * z.re
    · by_cases c3 : o.le * G ≤ 100 * S
      · refine st3_r w2 w1.heap.size w.heap.size (w.heap.size + 1) z.re z.im o.nu o.de o.le o.mo M G (100 * S) g.re g.im (decide (100 * S ≤ o.mo * G)) z0 (decide_eq_true c1) z1 a0 a1 hM zi0 zi1 (by omega) (by omega) (by omega) (by omega) (decide_eq_true c2) a2 g0 g1 (by omega) (by omega) (decide_eq_true c3) (fun W _ => HG.out W) a3 (by omega) (by omega) rfl _ _ _ _ _ _ _ _ _ _ _ _ _ _ _ _ _ _ _ _ _ _ _ _ _ _ _ _ _ _ _ _ _ _ _ _ _ _ _ _ _ _ _ _ _ _ _ _ _ _ _ ?_
        intros
        rename_i wx hx
        clear hM
        go_wp2_with fail
        go_ret
        exact ⟨ret_bool (by rw [HB.out, HM.out, decide_eq_true c1, decide_eq_true c2, decide_eq_true c3]; simp), HB2.out.trans (hx.mono HB2.out.size)⟩
      · refine st2_r w2 w1.heap.size w.heap.size (w.heap.size + 1) z.re z.im o.nu o.de o.le o.mo M G (100 * S) g.re g.im false z0 (decide_eq_true c1) z1 a0 a1 hM zi0 zi1 (by omega) (by omega) (by omega) (by omega) (decide_eq_true c2) a2 g0 g1 (by omega) (by omega) (decide_eq_false c3) (fun W _ => HG.out W) _ _ _ _ _ _ _ _ _ _ _ _ _ _ _ _ _ _ _ _ _ _ _ _ _ _ _ _ _ _ _ _ _ _ _ _ _ _ _ _ _ _ _ _ _ _ _ _ _ _ _ ?_
        intros
        rename_i wx hx
        clear hM
        go_wp2_with fail
        go_ret
        exact ⟨ret_bool (by rw [HB.out, HM.out, decide_eq_true c1, decide_eq_true c2, decide_eq_false (Int.not_le.2 c3)]; simp), HB2.out.trans (hx.mono HB2.out.size)⟩
    · refine st1_r w2 w1.heap.size w.heap.size (w.heap.size + 1) z.re z.im o.nu o.de o.le o.mo M G (100 * S) g.re g.im false z0 (decide_eq_true c1) z1 a0 a1 hM zi0 zi1 (by omega) (by omega) (by omega) (by omega) (decide_eq_false c2) _ _ _ _ _ _ _ _ _ _ _ _ _ _ _ _ _ _ _ _ _ _ _ _ _ _ _ _ _ _ _ _ _ _ _ _ _ _ _ _ _ _ _ _ _ _ _ _ _ _ _ ?_
      intros
      rename_i wx hx
      clear hM
      go_wp2_with fail
      go_ret
      exact ⟨ret_bool (by rw [HB.out, HM.out, decide_eq_true c1, decide_eq_false (Int.not_le.2 c2)]; simp), HB2.out.trans (hx.mono HB2.out.size)⟩
  · refine st0_r w2 w1.heap.size w.heap.size (w.heap.size + 1) z.re z.im o.nu o.de o.le o.mo M G (100 * S) g.re g.im false z0 (decide_eq_false c1) _ _ _ _ _ _ _ _ _ _ _ _ _ _ _ _ _ _ _ _ _ _ _ _ _ _ _ _ _ _ _ _ _ _ _ _ _ _ _ _ _ _ _ _ _ _ _ _ _ _ _ ?_
    intros
    rename_i wx hx
    clear hM
    go_wp2_with fail
    go_ret
    exact ⟨ret_bool (by rw [HB.out, HM.out, decide_eq_false (Int.not_lt.2 c1)]; simp), HB2.out.trans (hx.mono HB2.out.size)⟩
end Go.Proofs.Ytgljpjcclncknaa

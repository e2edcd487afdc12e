/- What an append to one list leaves of another. -/
import Derived.Test.YtgljpjcclncknaaSdA
import Derived.Test.YtgljpjcclncknaaSdP
import Derived.Test.YtgljpjcclncknaaM2
namespace Go.Proofs.Ytgljpjcclncknaa
open Go.RowKit

theorem OwnL.alloc' {w : World} {base c : Nat} {A : Option Addr} {ys : List Lay} (h : OwnL w base A c ys) (o : Obj) : OwnL (w.alloc o) base A c ys := h.below ((Below.refl _ _).alloc (Nat.le_refl _) _)
theorem own_other {T T' : TypeId} {sz base n g : Nat} {w w' : World} {v : Value} {l : List Value} {cs : Array Value} {y : Nat × Nat} (h : w.ownsRow base T sz v n l) (hg : w.grownBy w' (some g)) (ho : w.heap[g]? = some (.cells cs T' y)) (hT : T' ≠ T) : w'.ownsRow base T sz v n l :=
  World.ownsRow.kept h hg (by
    rcases h.2 with ⟨rfl, _⟩ | ⟨k, cap, cur, rfl, _, hk, _⟩
    · exact .inl rfl
    · refine .inr fun e => ?_
      have e2 : k = g := by simpa [Value.ownBlock] using e
      rw [e2, ho] at hk
      cases hk
      exact hT rfl)
theorem own_blkT {T T' : TypeId} {sz base n g : Nat} {w w' : World} {u : Value} {l : List Value} {cs : Array Value} {y : Nat × Nat} (hu : w.ownsRow base T' sz u n l) (hg : w.grownBy w' u.ownBlock) (ho : w.heap[g]? = some (.cells cs T y)) (hT : T ≠ T') : w'.heap[g]? = some (.cells cs T y) :=
  (hg.block g (blk_lt ho) (fun e => by
    rcases hu.2 with ⟨rfl, _⟩ | ⟨k, cap, cur, rfl, _, hk, _⟩
    · cases e
    · have e2 : k = g := by simpa [Value.ownBlock] using e.symm
      rw [e2, ho] at hk
      cases hk
      exact hT rfl)).trans ho
theorem own_own {T T' : TypeId} {sz sz' base base' n n' : Nat} {w w' : World} {u v : Value} {l l' : List Value} (h : w.ownsRow base T sz v n l) (hu : w.ownsRow base' T' sz' u n' l') (hg : w.grownBy w' u.ownBlock) (hT : T ≠ T') : w'.ownsRow base T sz v n l := by
  rcases hv : v.ownBlock with _ | k
  · exact World.ownsRow.kept h hg (.inl hv)
  · rcases hub : u.ownBlock with _ | j
    · rw [hub] at hg; exact World.ownsRow.kept h hg (.inr (by rw [hv]; simp))
    · rcases hu.2 with ⟨rfl, _⟩ | ⟨k', cap, cur, rfl, _, hk, _⟩
      · cases hub
      · have e2 : k' = j := by simpa [Value.ownBlock] using hub
        rw [hub] at hg
        rw [e2] at hk
        exact own_other h hg hk (Ne.symm hT)
theorem Try.infoRQ : (Try.prog.info? 43).map (fun i => (i.zero, i.size, i.bytes)) = some (some (.agg #[.int .i64 0, .int .i64 0]), 2, 16) := by kernel_rfl
theorem encQ_len {l : List Qt} : ∀ x ∈ l.map encQ, x.length = 2 := by
  intro x hx; obtain ⟨m, _, rfl⟩ := List.mem_map.1 hx; rfl
end Go.Proofs.Ytgljpjcclncknaa
namespace Go.Proofs.Ytgljpjcclncknaa
open Go.RowKit

theorem Try.infoGa : (Try.prog.info? 65).map (fun i => (i.zero, i.size, i.bytes)) = some (some (.agg #[.int .i64 0, .int .i64 0]), 2, 16) := by kernel_rfl
def encY (x : Int × Int × Int) : List Value := [.int .i8 x.1, .int .i8 x.2.1, .int .i8 x.2.2]
def genF (x : Int × Int × Int) : Ga := ⟨x.1.tmod 40, x.2.1.tmod 12⟩
def quaF (x : Int × Int × Int) : Qt := ⟨10 + x.1.tmod 9, 0⟩
def offF (x : Int × Int × Int) : Int := x.2.2.tmod 31 % 31
def stdG : Ga := ⟨16, 0⟩
theorem tmod_bd {a m : Int} (hm : 0 < m) : -m < a.tmod m ∧ a.tmod m < m := by
  rcases Int.le_total 0 a with h | h
  · rw [Int.tmod_eq_emod_of_nonneg h]
    have h1 := Int.emod_nonneg a (by omega : m ≠ 0)
    have h2 := Int.emod_lt_of_pos a hm
    omega
  · have h0 : (-a).tmod m = -(a.tmod m) := Int.neg_tmod a m
    rw [Int.tmod_eq_emod_of_nonneg (by omega)] at h0
    have h1 := Int.emod_nonneg (-a) (by omega : m ≠ 0)
    have h2 := Int.emod_lt_of_pos (-a) hm
    omega
theorem off_bd (x : Int × Int × Int) : 0 ≤ offF x ∧ offF x ≤ 30 := by
  unfold offF
  omega
theorem gen_ok (x : Int × Int × Int) : okGa (genF x) := by
  obtain ⟨h1, h2⟩ := tmod_bd (a := x.1) (m := 40) (by omega)
  obtain ⟨h3, h4⟩ := tmod_bd (a := x.2.1) (m := 12) (by omega)
  exact ⟨by show _ ≤ x.1.tmod 40; omega, by show x.1.tmod 40 ≤ _; omega, by show _ ≤ x.2.1.tmod 12; omega, by show x.2.1.tmod 12 ≤ _; omega⟩
theorem qua_ok (x : Int × Int × Int) : okQ (quaF x) := by
  obtain ⟨h1, h2⟩ := tmod_bd (a := x.1) (m := 9) (by omega)
  exact ⟨by show _ ≤ 10 + x.1.tmod 9; omega, by show 10 + x.1.tmod 9 ≤ _; omega, by show (0 : Int) ≤ 0; omega, by show (0 : Int) ≤ 30; omega⟩
/-- What holds while the lists are made. -/
structure JnS (W0 : World) (ms gs : List Ga) (qs : List Qt) (os : List Int) (v10 v11 v12 v13 : Value) (wr : World) : Prop where
  m : OwnR 65 2 wr W0.heap.size v10 (ms.map encG)
  g : OwnR 65 2 wr W0.heap.size v11 (gs.map encG)
  ne : ∀ b, v10.ownBlock = some b → v11.ownBlock ≠ some b
  q : OwnR 43 2 wr W0.heap.size v12 (qs.map encQ)
  o : OwnR 3 1 wr W0.heap.size v13 (os.map fun n => [Value.int .i64 n])
  low : Below W0.heap.size W0 wr
section
variable {W0 wr w' : World} {ms gs : List Ga} {qs : List Qt} {os : List Int} {v10 v11 v12 v13 v' : Value}
theorem JnS.next (h : JnS W0 ms gs qs os v10 v11 v12 v13 wr) (hb : Below wr.heap.size wr w') : JnS W0 ms gs qs os v10 v11 v12 v13 w' :=
  ⟨h.m.below hb, h.g.below hb, h.ne, h.q.below hb, h.o.below hb, h.low.trans (hb.mono h.low.size)⟩
theorem JnS.appM (h : JnS W0 ms gs qs os v10 v11 v12 v13 wr) {x : Ga} (ho : w'.ownsRow W0.heap.size 65 2 v' (ms.length + 1) ((ms.map encG).flatten ++ encG x)) (hg : wr.grownBy w' v10.ownBlock) (ha : v'.ownBlock = v10.ownBlock ∨ v'.ownBlock = some wr.heap.size) :
    JnS W0 (ms ++ [x]) gs qs os v' v11 v12 v13 w' := by
  have hne : v11.ownBlock = none ∨ v11.ownBlock ≠ v10.ownBlock := by
    rcases hv : v11.ownBlock with _ | b
    · exact .inl rfl
    · exact .inr fun e => h.ne b e.symm hv
  refine ⟨by rw [List.map_append]; exact OwnR.app (by rw [List.length_map]; exact ho), World.ownsRow.kept h.g hg hne, ?_, own_own h.q h.m hg (by decide), own_own h.o h.m hg (by decide), Below.grown h.low hg h.low.size (fun j e => (World.ownsRow.lt h.m j e).1)⟩
  intro b hb e
  rcases ha with ha | ha
  · exact h.ne b (ha ▸ hb) e
  · rw [ha] at hb
    have := (World.ownsRow.lt h.g b e).2
    have := Option.some.inj hb
    omega
theorem JnS.appG (h : JnS W0 ms gs qs os v10 v11 v12 v13 wr) {x : Ga} (ho : w'.ownsRow W0.heap.size 65 2 v' (gs.length + 1) ((gs.map encG).flatten ++ encG x)) (hg : wr.grownBy w' v11.ownBlock) (ha : v'.ownBlock = v11.ownBlock ∨ v'.ownBlock = some wr.heap.size) :
    JnS W0 ms (gs ++ [x]) qs os v10 v' v12 v13 w' := by
  have hne : v10.ownBlock = none ∨ v10.ownBlock ≠ v11.ownBlock := by
    rcases hv : v10.ownBlock with _ | b
    · exact .inl rfl
    · exact .inr fun e => h.ne b hv e.symm
  refine ⟨World.ownsRow.kept h.m hg hne, by rw [List.map_append]; exact OwnR.app (by rw [List.length_map]; exact ho), ?_, own_own h.q h.g hg (by decide), own_own h.o h.g hg (by decide), Below.grown h.low hg h.low.size (fun j e => (World.ownsRow.lt h.g j e).1)⟩
  intro b hb e
  rcases ha with ha | ha
  · exact h.ne b hb (ha ▸ e)
  · rw [ha] at e
    have := (World.ownsRow.lt h.m b hb).2
    have := Option.some.inj e
    omega
theorem JnS.appQ (h : JnS W0 ms gs qs os v10 v11 v12 v13 wr) {x : Qt} (ho : w'.ownsRow W0.heap.size 43 2 v' (qs.length + 1) ((qs.map encQ).flatten ++ encQ x)) (hg : wr.grownBy w' v12.ownBlock) :
    JnS W0 ms gs (qs ++ [x]) os v10 v11 v' v13 w' :=
  ⟨own_own h.m h.q hg (by decide), own_own h.g h.q hg (by decide), h.ne, by rw [List.map_append]; exact OwnR.app (by rw [List.length_map]; exact ho), own_own h.o h.q hg (by decide), Below.grown h.low hg h.low.size (fun j e => (World.ownsRow.lt h.q j e).1)⟩
theorem JnS.appO (h : JnS W0 ms gs qs os v10 v11 v12 v13 wr) {x : Int} (ho : w'.ownsRow W0.heap.size 3 1 v' (os.length + 1) ((os.map fun n => [Value.int .i64 n]).flatten ++ [.int .i64 x])) (hg : wr.grownBy w' v13.ownBlock) :
    JnS W0 ms gs qs (os ++ [x]) v10 v11 v12 v' w' :=
  ⟨own_own h.m h.o hg (by decide), own_own h.g h.o hg (by decide), h.ne, own_own h.q h.o hg (by decide), by rw [List.map_append]; exact OwnR.app (by rw [List.length_map]; exact ho), Below.grown h.low hg h.low.size (fun j e => (World.ownsRow.lt h.o j e).1)⟩
end
end Go.Proofs.Ytgljpjcclncknaa
namespace Go.Proofs.Ytgljpjcclncknaa
open Go.RowKit

theorem heldK_step (st : Nat → Bool) (k : Nat) : heldK st (k + 1) ≤ heldK st k + 1 := by
  have := heldK_bd st k
  rw [heldK]
  split <;> omega
theorem heldK_lt {st : Nat → Bool} {h : Int} {m : Nat} (h1 : 1 ≤ h) (hne : ∀ j ≤ m, heldK st j ≠ h) : ∀ j ≤ m, heldK st j < h
  | 0, _ => by show (0 : Int) < h; omega
  | j + 1, hj => by
    have ih := heldK_lt h1 hne j (by omega)
    have h2 := heldK_step st j
    have h3 := hne (j + 1) hj
    omega
/-- Where the generator is joined, or how many there are. -/
def joinAt (n : Nat) (a r : Int) : Int := if r = 0 then a else n
theorem join_ok {st : Nat → Bool} {h : Int} {n : Nat} {a r : Int} (h1 : 1 ≤ h) (hj : JoinP st h n a r) {i : Nat} (hi : i < n) (hle : (i : Int) ≤ joinAt n a r) :
    decide (h ≤ heldK st (i + 1)) = decide ((i : Int) = joinAt n a r) := by
  rcases hj with ⟨rfl, i0, rfl, h2, h3, h4⟩ | ⟨rfl, rfl, h4⟩
  · have e : joinAt n (i0 : Int) 0 = i0 := rfl
    rw [e] at hle ⊢
    by_cases hlt : i = i0
    · subst hlt
      rw [h3, decide_eq_true (Int.le_refl _), decide_eq_true rfl]
    · have h5 := heldK_lt h1 h4 (i + 1) (by omega)
      rw [decide_eq_false (by omega), decide_eq_false (by omega)]
  · have e : joinAt n 0 7 = n := rfl
    rw [e] at hle ⊢
    have h5 := heldK_lt h1 h4 (i + 1) (by omega)
    rw [decide_eq_false (by omega), decide_eq_false (by omega)]
theorem join_bd {st : Nat → Bool} {h : Int} {n : Nat} {a r : Int} (hj : JoinP st h n a r) : 0 ≤ joinAt n a r ∧ joinAt n a r ≤ n ∧ 0 ≤ a ∧ a ≤ n ∧ (r = 0 ∨ r = 7) ∧ (r = 0 → h - 1 ≤ a ∧ a < n) := by
  rcases hj with ⟨rfl, i0, rfl, h2, h3, h4⟩ | ⟨rfl, rfl, h4⟩
  · have h5 := (heldK_bd st (i0 + 1)).2
    refine ⟨by show (0 : Int) ≤ i0; omega, by show (i0 : Int) ≤ n; omega, by omega, by omega, .inl rfl, fun _ => by omega⟩
  · refine ⟨by show (0 : Int) ≤ n; omega, by show (n : Int) ≤ n; omega, by omega, by omega, .inr rfl, fun e => by cases e⟩
theorem stepK_rep {wi : Win} {gs : List Ga} {n k : Nat} (hk : k < n) (hg : gs.length = n) : stepK wi (List.replicate n stdG) gs k = stepB wi stdG (gs[k]'(by omega)) := by
  unfold stepK
  rw [getGa (by rw [List.length_replicate]; exact hk), getGa (by omega), List.getElem_replicate]
theorem getD_app {α : Type} {d : α} {l m : List α} {k : Nat} (h : k < l.length) : (l ++ m).getD k d = l.getD k d := by
  rw [List.getD_eq_getElem?_getD, List.getD_eq_getElem?_getD, List.getElem?_append_left h]
theorem getD_last {d g : Int} {l : List Int} : (l ++ [g]).getD l.length d = g := by
  rw [List.getD_eq_getElem?_getD, List.getElem?_append_right (Nat.le_refl _)]; simp
theorem stB_app (l : List Qt) (o d : List Int) (g f : Int) : ∀ k, k ≤ d.length → stB l o (d ++ [g]) f k = stB l o d f k
  | 0, _ => rfl
  | k + 1, h => by
    rw [stB, stB, stB_app l o d g f k (by omega), byK, byK, getD_app (by omega)]
theorem stS_app (o d : List Int) (g : Int) : ∀ k, k ≤ d.length → stS o (d ++ [g]) k = stS o d k
  | 0, _ => rfl
  | k + 1, h => by
    rw [stS, stS, stS_app o d g k (by omega), byK, byK, getD_app (by omega)]
/-- One more quarter hour on the bill. -/
theorem stB_next {l : List Qt} {o d : List Int} {g f : Int} (hk : d.length < l.length) (hl : o.length = l.length) (hg : g ≤ o[d.length]'(by omega)) : stB l o (d ++ [g]) f (d.length + 1) = stB l o d f d.length + (l[d.length].p * g - f * (o[d.length]'(by omega) - g)) := by
  have e1 : l.getD d.length ⟨0, 0⟩ = l[d.length] := by rw [List.getD_eq_getElem?_getD, List.getElem?_eq_getElem hk]; rfl
  have e2 : o.getD d.length 0 = o[d.length]'(by omega) := by rw [List.getD_eq_getElem?_getD, List.getElem?_eq_getElem (by omega)]; rfl
  rw [stB, stB_app l o d g f _ (Nat.le_refl _), byK, getD_last, e1, e2]
  split
  · omega
  · have h0 : o[d.length]'(by omega) - g = 0 := by omega
    rw [h0]; omega
theorem stS_next {o d : List Int} {g : Int} (hk : d.length < o.length) : stS o (d ++ [g]) (d.length + 1) = stS o d d.length ++ (if 0 < o[d.length] - g then [((d.length : Int), o[d.length] - g)] else []) := by
  have e2 : o.getD d.length 0 = o[d.length] := by rw [List.getD_eq_getElem?_getD, List.getElem?_eq_getElem hk]; rfl
  rw [stS, stS_app o d g _ (Nat.le_refl _), byK, getD_last, e2]
end Go.Proofs.Ytgljpjcclncknaa
namespace Go.Proofs.Ytgljpjcclncknaa
open Go.RowKit

structure J3 (X : World) (tb : Nat) (room : Int) (ls cur : List Lay) (AT : Option Addr) (cT : Nat) (ds : List Int) (ms : List (Int × Int)) (D : Int) (dv mv : Value) (wr : World) : Prop where
  tank : okT room cur
  sum : sumH ls = sumH cur + D
  d0 : 0 ≤ D
  tb : wr.heap[tb]? = some (.cells #[.int .i64 room, .slice AT cur.length cT] 33 (0, 0))
  lay : OwnL wr 0 AT cT cur
  del : OwnR 3 1 wr X.heap.size dv (ds.map fun n => [Value.int .i64 n])
  mis : OwnR 73 2 wr X.heap.size mv (ms.map encS)
  low : Below X.heap.size X wr
section
variable {X wr w' : World} {tb : Nat} {room : Int} {ls cur cur' : List Lay} {AT A2 : Option Addr} {cT c2 : Nat} {ds : List Int} {ms : List (Int × Int)} {D D' : Int} {dv mv v' : Value}
theorem J3.next (h : J3 X tb room ls cur AT cT ds ms D dv mv wr) (hb : Below wr.heap.size wr w') : J3 X tb room ls cur AT cT ds ms D dv mv w' :=
  ⟨h.tank, h.sum, h.d0, blk_step hb h.tb, h.lay.below hb, h.del.below hb, h.mis.below hb, h.low.trans (hb.mono h.low.size)⟩
theorem J3.appD (h : J3 X tb room ls cur AT cT ds ms D dv mv wr) {g : Int} (ho : w'.ownsRow X.heap.size 3 1 v' (ds.length + 1) ((ds.map fun n => [Value.int .i64 n]).flatten ++ [.int .i64 g])) (hg : wr.grownBy w' dv.ownBlock) : J3 X tb room ls cur AT cT (ds ++ [g]) ms D v' mv w' :=
  ⟨h.tank, h.sum, h.d0, own_blkT h.del hg h.tb (by decide), own_own h.lay h.del hg (by decide), by rw [List.map_append]; exact OwnR.app (by rw [List.length_map]; exact ho), own_own h.mis h.del hg (by decide), Below.grown h.low hg h.low.size (fun j e => (World.ownsRow.lt h.del j e).1)⟩
theorem J3.appS (h : J3 X tb room ls cur AT cT ds ms D dv mv wr) {x : Int × Int} (ho : w'.ownsRow X.heap.size 73 2 v' (ms.length + 1) ((ms.map encS).flatten ++ encS x)) (hg : wr.grownBy w' mv.ownBlock) : J3 X tb room ls cur AT cT ds (ms ++ [x]) D dv v' w' :=
  ⟨h.tank, h.sum, h.d0, own_blkT h.mis hg h.tb (by decide), own_own h.lay h.mis hg (by decide), own_own h.del h.mis hg (by decide), by rw [List.map_append]; exact OwnR.app (by rw [List.length_map]; exact ho), Below.grown h.low hg h.low.size (fun j e => (World.ownsRow.lt h.mis j e).1)⟩
theorem J3.swap (h : J3 X tb room ls cur AT cT ds ms D dv mv wr) (ht : okT room cur') (hs : sumH ls = sumH cur' + D') (hd : 0 ≤ D') (hT : w'.heap[tb]? = some (.cells #[.int .i64 room, .slice A2 cur'.length c2] 33 (0, 0))) (hg : wr.grownBy w' (some tb)) (hl : OwnL wr 0 A2 c2 cur') (hx : X.heap.size ≤ tb) : J3 X tb room ls cur' A2 c2 ds ms D' dv mv w' :=
  ⟨ht, hs, hd, hT, own_other hl hg h.tb (by decide), own_other h.del hg h.tb (by decide), own_other h.mis hg h.tb (by decide), Below.grown h.low hg h.low.size (fun j e => by cases e; exact hx)⟩
end
end Go.Proofs.Ytgljpjcclncknaa
namespace Go.Proofs.Ytgljpjcclncknaa
open Go.RowKit

noncomputable def jdR (n : Nat) : Code := (findD n (Try.f4.body.getD .skip)).getD .skip
theorem sz_drew (W : World) : W.drew.heap.size = W.heap.size := rfl
theorem encG_len {l : List Ga} : ∀ x ∈ l.map encG, x.length = 2 := by
  intro x hx; obtain ⟨m, _, rfl⟩ := List.mem_map.1 hx; rfl
theorem encG_one {l : List Ga} : ∀ x ∈ l.map encG, ∀ u ∈ x, u.oneCell' = true := by
  intro x hx u hu; obtain ⟨m, _, rfl⟩ := List.mem_map.1 hx; simp [encG] at hu; rcases hu with rfl | rfl <;> rfl
end Go.Proofs.Ytgljpjcclncknaa
namespace Go.Proofs.Ytgljpjcclncknaa
open Go.RowKit

/-- The code from the region with a number on. -/
def findT (n : Nat) : Code → Option Code
  | .seq (.region k ops g) b => if k = n then some (.seq (.region k ops g) b) else findT n b
  | .seq a b => (findT n a).or (findT n b)
  | .block _ c => findT n c
  | .cond _ a b => (findT n a).or (findT n b)
  | .scope c => findT n c
  | .loop c => findT n c
  | _ => none
noncomputable def jdT (n : Nat) : Code := (findT n (Try.f4.body.getD .skip)).getD .skip
theorem neq_sf (w : World) (a b : Int) : (binOp .neq 73 (.agg #[.int .i64 a, .int .i64 b]) (.agg #[.int .i64 a, .int .i64 b])).run Try.prog w = .ok (.bool false) w := by
  rw [run_neq_struct]
  rw [show (10000 : Nat) = 9999 + 1 from rfl, Op.equalIn]
  simp [go_sem, isAgg]
end Go.Proofs.Ytgljpjcclncknaa

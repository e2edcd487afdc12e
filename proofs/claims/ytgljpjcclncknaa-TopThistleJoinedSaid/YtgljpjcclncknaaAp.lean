/- append([]T{}, l...): a list of its own. -/
import Derived.Test.YtgljpjcclncknaaTh1
namespace Go.Proofs.Ytgljpjcclncknaa
open Go.RowKit

theorem own0 {w : World} {base g size : Nat} {e : TypeId} (h : w.heap[g]? = some (.cells #[] e (0, 0))) (hb : base ≤ g) : w.ownsRow base e size (.slice (some ⟨g, 0, none⟩) 0 0) 0 [] :=
  ⟨by simp, .inr ⟨g, 0, #[], rfl, hb, h, Nat.le_refl _, Nat.zero_le _, by simp, by simp⟩⟩
section
variable {P : Program} (w : World)
theorem run_append_fresh (base : Nat) (t ty e : TypeId) (i : TypeInfo) (z : Value) (size bytes : Nat) (ht : P.underlying t = some (.slice e)) (hi : P.info? e = some i) (hz : i.zero = some z)
    (hsize : i.size = size) (hby : i.bytes = bytes) (hzs : z.cells.size = size) (hsz : 0 < size)
    (g0 : Nat) (hg : w.heap[g0]? = some (.cells #[] e (0, 0))) (A : Option Addr) (m c : Nat) (rows : List (List Value)) (hm : rows.length = m) (hr : Rw w w.heap.size size A rows) (hl : ∀ x ∈ rows, x.length = size) (h1 : ∀ x ∈ rows, ∀ u ∈ x, u.oneCell' = true)
    (h63 : m ≤ maxLen) (hbytes : m * bytes ≤ 140737488355328) (hbase : base ≤ g0) (hg0 : base ≤ w.heap.size) :
    ∃ v' w', (Builtin.append_ #[t, t] ty #[.slice (some ⟨g0, 0, none⟩) 0 0, .slice A m c]).run P w = .ok v' w' ∧ OwnR e size w' base v' rows ∧ Below w.heap.size w w' := by
  subst hsize
  subst hby
  subst hm
  by_cases hn : rows = []
  · subst hn
    refine ⟨_, w, ?_, own0 hg hbase, Below.refl _ _⟩
    cases A <;> simp [Builtin.append_, run_underlying ht, sizeOf, typeInfo, hi, Builtin.lenOf, Builtin.firstCells, storeCells, loadCells, loadCellsFrom]
  · have hp : 0 < rows.length := List.length_pos_iff.2 hn
    obtain ⟨b, off, rfl, _, hc⟩ := hr.flat hl hn
    have hfl := flat_len hl
    have hr := run_append_grow (P := P) w t ty e i z ht hi hz ⟨g0, 0, none⟩ 0 0 [] (by simp) (by simp) ⟨b, off, none⟩ rows.length c rows.flatten hfl hc (by omega) (by simp only [maxLen] at h63; omega) (growslice_fits (by omega) (by rw [Nat.zero_add]; exact hbytes))
    refine ⟨_, _, hr, ?_, ?_⟩
    · have hge := grownCap_ge w (0 + rows.length) 0 e
      have hcm : grownCap w (0 + rows.length) 0 e ≤ maxLen := grownCap_le_maxLen w (0 + rows.length) 0 e (by rw [Nat.zero_add]; exact h63)
      rw [Nat.zero_add] at hge hcm ⊢
      refine ⟨hfl, .inr ⟨w.heap.size, _, _, rfl, hg0, heap_alloc_new w.drew _, hge, hcm, ?_, ?_⟩⟩
      · simp only [Array.size_append, List.size_toArray, size_zeroCells, hzs, hfl, List.length_nil, Nat.zero_add]
        rw [← Nat.add_mul]
        congr 1
        omega
      · simp only [Array.toList_append, List.nil_append, ← hfl]
        exact List.take_left
    · exact ((Below.refl _ w).drew).alloc (Nat.le_refl _) _
theorem wp_append_fresh {o : Oper} {a : Act} {K : Act → World → Prop} {Q : Exit → Act → World → Prop} (s x : Operand) (t : TypeId)
    (ho : o.op = .call { callee := .builtin .append, args := #[s, x], argTypes := #[t, t] })
    (base : Nat) (e : TypeId) (i : TypeInfo) (z : Value) (size bytes : Nat) (ht : P.underlying t = some (.slice e)) (hi : P.info? e = some i) (hz : i.zero = some z)
    (hsize : i.size = size) (hby : i.bytes = bytes) (hzs : z.cells.size = size) (hsz : 0 < size)
    (g0 : Nat) (hs : a.eval s = .slice (some ⟨g0, 0, none⟩) 0 0) (A : Option Addr) (m c : Nat) (hx : a.eval x = .slice A m c) (hg : w.heap[g0]? = some (.cells #[] e (0, 0))) (rows : List (List Value)) (hm : rows.length = m) (hr : Rw w w.heap.size size A rows) (hl : ∀ x ∈ rows, x.length = size) (h1 : ∀ x ∈ rows, ∀ u ∈ x, u.oneCell' = true)
    (h63 : m ≤ maxLen) (hbytes : m * bytes ≤ 140737488355328) (hbase : base ≤ g0) (hg0 : base ≤ w.heap.size)
    (h : ∀ v' w', OwnR e size w' base v' rows → Below w.heap.size w w' → K (a.put o.dst v') w') : o.wp P a w K Q := by
  obtain ⟨v', w', hr, h2, h3⟩ := run_append_fresh (P := P) w base t o.type e i z size bytes ht hi hz hsize hby hzs hsz g0 hg A m c rows hm hr hl h1 h63 hbytes hbase hg0
  unfold Oper.wp execOp
  simp only [ho, resolve, invoke, builtin, Sem.run_bind, Sem.run_pure, Result.andThen_ok, List.map_toArray, List.map_cons, List.map_nil, hs, hx, hr]
  exact h v' w' h2 h3
theorem wpList_append_fresh {ops : Array Oper} {rest : List Oper} {o : Oper} {a : Act} {Q : Exit → Act → World → Prop} (hgd : o.guard = none) (s x : Operand) (t : TypeId)
    (ho : o.op = .call { callee := .builtin .append, args := #[s, x], argTypes := #[t, t] })
    (base : Nat) (e : TypeId) (i : TypeInfo) (z : Value) (size bytes : Nat) (ht : P.underlying t = some (.slice e)) (hi : P.info? e = some i) (hz : i.zero = some z)
    (hsize : i.size = size) (hby : i.bytes = bytes) (hzs : z.cells.size = size) (hsz : 0 < size)
    (g0 : Nat) (hs : a.eval s = .slice (some ⟨g0, 0, none⟩) 0 0) (A : Option Addr) (m c : Nat) (hx : a.eval x = .slice A m c) (hg : w.heap[g0]? = some (.cells #[] e (0, 0))) (rows : List (List Value)) (hm : rows.length = m) (hr : Rw w w.heap.size size A rows) (hl : ∀ x ∈ rows, x.length = size) (h1 : ∀ x ∈ rows, ∀ u ∈ x, u.oneCell' = true)
    (h63 : m ≤ maxLen) (hbytes : m * bytes ≤ 140737488355328) (hbase : base ≤ g0) (hg0 : base ≤ w.heap.size)
    (h : ∀ v' w', OwnR e size w' base v' rows → Below w.heap.size w w' → wpList P ops Q rest (a.put o.dst v') w') : wpList P ops Q (o :: rest) a w :=
  wpList_plain hgd fun _ hK => wp_append_fresh w s x t ho base e i z size bytes ht hi hz hsize hby hzs hsz g0 hs A m c hx hg rows hm hr hl h1 h63 hbytes hbase hg0 fun v' w' h2 h3 => hK _ _ (h v' w' h2 h3)
theorem step_append_fresh {ops : Array Oper} {o : Oper} {a : Act} {K : Act → World → Prop} {Q : Exit → Act → World → Prop} {E : Prop} (hgd : o.guard = none) (s x : Operand) (t : TypeId)
    (ho : o.op = .call { callee := .builtin .append, args := #[s, x], argTypes := #[t, t] })
    (base : Nat) (e : TypeId) (i : TypeInfo) (z : Value) (size bytes : Nat) (ht : P.underlying t = some (.slice e)) (hi : P.info? e = some i) (hz : i.zero = some z)
    (hsize : i.size = size) (hby : i.bytes = bytes) (hzs : z.cells.size = size) (hsz : 0 < size)
    (g0 : Nat) (hs : a.eval s = .slice (some ⟨g0, 0, none⟩) 0 0) (A : Option Addr) (m c : Nat) (hx : a.eval x = .slice A m c) (hg : w.heap[g0]? = some (.cells #[] e (0, 0))) (rows : List (List Value)) (hm : rows.length = m) (hr : Rw w w.heap.size size A rows) (hl : ∀ x ∈ rows, x.length = size) (h1 : ∀ x ∈ rows, ∀ u ∈ x, u.oneCell' = true)
    (h63 : m ≤ maxLen) (hbytes : m * bytes ≤ 140737488355328) (hbase : base ≤ g0) (hg0 : base ≤ w.heap.size)
    (h : ∀ v' w', OwnR e size w' base v' rows → Below w.heap.size w w' → K (a.put o.dst v') w') : if Region.wanted o (yielded ops a.tmps) = true then Oper.wp P o a w K Q else E := by
  have hw : Region.wanted o (yielded ops a.tmps) = true := by simp [Region.wanted, hgd]
  rw [if_pos hw]
  exact wp_append_fresh w s x t ho base e i z size bytes ht hi hz hsize hby hzs hsz g0 hs A m c hx hg rows hm hr hl h1 h63 hbytes hbase hg0 h
theorem run_append_full (base : Nat) (t ty e : TypeId) (i : TypeInfo) (z : Value) (size bytes : Nat) (ht : P.underlying t = some (.slice e)) (hi : P.info? e = some i) (hz : i.zero = some z)
    (hsize : i.size = size) (hby : i.bytes = bytes) (hzs : z.cells.size = size) (hsz : 0 < size)
    (g0 n : Nat) (rows0 : List (List Value)) (hn0 : rows0.length = n) (hown : OwnR e size w base (.slice (some ⟨g0, 0, none⟩) n n) rows0) (A : Option Addr) (m c : Nat) (rows : List (List Value)) (hm : rows.length = m) (hr : Rw w w.heap.size size A rows) (hl : ∀ x ∈ rows, x.length = size)
    (h63 : n + m ≤ maxLen) (hbytes : (n + m) * bytes ≤ 140737488355328) (hg0 : base ≤ w.heap.size) :
    ∃ v' w', (Builtin.append_ #[t, t] ty #[.slice (some ⟨g0, 0, none⟩) n n, .slice A m c]).run P w = .ok v' w' ∧ OwnR e size w' base v' (rows0 ++ rows) ∧ Below w.heap.size w w' := by
  subst hsize
  subst hby
  subst hm
  subst hn0
  by_cases hn : rows = []
  · subst hn
    rw [List.append_nil]
    refine ⟨_, w, ?_, hown, Below.refl _ _⟩
    cases A <;> simp [Builtin.append_, run_underlying ht, sizeOf, typeInfo, hi, Builtin.lenOf, Builtin.firstCells, storeCells, loadCells, loadCellsFrom]
  · have hp : 0 < rows.length := List.length_pos_iff.2 hn
    obtain ⟨b, off, rfl, _, hc⟩ := hr.flat hl hn
    have hfl := flat_len hl
    have hfl0 : rows0.flatten.length = rows0.length * i.size := hown.1
    have holds := World.ownsRow.cells (g := g0) hown rfl
    have hr := run_append_grow (P := P) w t ty e i z ht hi hz ⟨g0, 0, none⟩ rows0.length rows0.length rows0.flatten hfl0 holds ⟨b, off, none⟩ rows.length c rows.flatten hfl hc (by omega) (by simp only [maxLen] at h63; omega) (growslice_fits (by omega) hbytes)
    refine ⟨_, _, hr, ?_, ?_⟩
    · have hge := grownCap_ge w (rows0.length + rows.length) rows0.length e
      have hcm : grownCap w (rows0.length + rows.length) rows0.length e ≤ maxLen := grownCap_le_maxLen w (rows0.length + rows.length) rows0.length e h63
      have hfa : (rows0.flatten ++ rows.flatten).length = (rows0.length + rows.length) * i.size := by rw [List.length_append, hfl, hfl0, Nat.add_mul]
      unfold OwnR
      rw [List.flatten_append, List.length_append]
      refine ⟨hfa, .inr ⟨w.heap.size, _, _, rfl, hg0, heap_alloc_new w.drew _, hge, hcm, ?_, ?_⟩⟩
      · simp only [Array.size_append, List.size_toArray, size_zeroCells, hzs, hfl, hfl0, ← Nat.add_mul]
        congr 1
        omega
      · simp only [Array.toList_append, List.append_assoc]
        rw [← List.append_assoc, ← hfa]
        exact List.take_left
    · exact ((Below.refl _ w).drew).alloc (Nat.le_refl _) _
theorem wp_append_full {o : Oper} {a : Act} {K : Act → World → Prop} {Q : Exit → Act → World → Prop} (s x : Operand) (t : TypeId)
    (ho : o.op = .call { callee := .builtin .append, args := #[s, x], argTypes := #[t, t] })
    (base : Nat) (e : TypeId) (i : TypeInfo) (z : Value) (size bytes : Nat) (ht : P.underlying t = some (.slice e)) (hi : P.info? e = some i) (hz : i.zero = some z)
    (hsize : i.size = size) (hby : i.bytes = bytes) (hzs : z.cells.size = size) (hsz : 0 < size)
    (g0 n : Nat) (hs : a.eval s = .slice (some ⟨g0, 0, none⟩) n n) (A : Option Addr) (m c : Nat) (hx : a.eval x = .slice A m c) (rows0 : List (List Value)) (hn0 : rows0.length = n) (hown : OwnR e size w base (.slice (some ⟨g0, 0, none⟩) n n) rows0) (rows : List (List Value)) (hm : rows.length = m) (hr : Rw w w.heap.size size A rows) (hl : ∀ x ∈ rows, x.length = size)
    (h63 : n + m ≤ maxLen) (hbytes : (n + m) * bytes ≤ 140737488355328) (hg0 : base ≤ w.heap.size)
    (h : ∀ v' w', OwnR e size w' base v' (rows0 ++ rows) → Below w.heap.size w w' → K (a.put o.dst v') w') : o.wp P a w K Q := by
  obtain ⟨v', w', hr, h2, h3⟩ := run_append_full (P := P) w base t o.type e i z size bytes ht hi hz hsize hby hzs hsz g0 n rows0 hn0 hown A m c rows hm hr hl h63 hbytes hg0
  unfold Oper.wp execOp
  simp only [ho, resolve, invoke, builtin, Sem.run_bind, Sem.run_pure, Result.andThen_ok, List.map_toArray, List.map_cons, List.map_nil, hs, hx, hr]
  exact h v' w' h2 h3
theorem step_append_full {ops : Array Oper} {o : Oper} {a : Act} {K : Act → World → Prop} {Q : Exit → Act → World → Prop} {E : Prop} (hgd : o.guard = none) (s x : Operand) (t : TypeId)
    (ho : o.op = .call { callee := .builtin .append, args := #[s, x], argTypes := #[t, t] })
    (base : Nat) (e : TypeId) (i : TypeInfo) (z : Value) (size bytes : Nat) (ht : P.underlying t = some (.slice e)) (hi : P.info? e = some i) (hz : i.zero = some z)
    (hsize : i.size = size) (hby : i.bytes = bytes) (hzs : z.cells.size = size) (hsz : 0 < size)
    (g0 n : Nat) (hs : a.eval s = .slice (some ⟨g0, 0, none⟩) n n) (A : Option Addr) (m c : Nat) (hx : a.eval x = .slice A m c) (rows0 : List (List Value)) (hn0 : rows0.length = n) (hown : OwnR e size w base (.slice (some ⟨g0, 0, none⟩) n n) rows0) (rows : List (List Value)) (hm : rows.length = m) (hr : Rw w w.heap.size size A rows) (hl : ∀ x ∈ rows, x.length = size)
    (h63 : n + m ≤ maxLen) (hbytes : (n + m) * bytes ≤ 140737488355328) (hg0 : base ≤ w.heap.size)
    (h : ∀ v' w', OwnR e size w' base v' (rows0 ++ rows) → Below w.heap.size w w' → K (a.put o.dst v') w') : if Region.wanted o (yielded ops a.tmps) = true then Oper.wp P o a w K Q else E := by
  have hw : Region.wanted o (yielded ops a.tmps) = true := by simp [Region.wanted, hgd]
  rw [if_pos hw]
  exact wp_append_full w s x t ho base e i z size bytes ht hi hz hsize hby hzs hsz g0 n hs A m c hx rows0 hn0 hown rows hm hr hl h63 hbytes hg0 h
end
theorem ints_len {l : List Int} : ∀ x ∈ l.map (fun n => [Value.int .i64 n]), x.length = 1 := by
  intro x hx; obtain ⟨m, _, rfl⟩ := List.mem_map.1 hx; rfl
theorem ints_one {l : List Int} : ∀ x ∈ l.map (fun n => [Value.int .i64 n]), ∀ u ∈ x, u.oneCell' = true := by
  intro x hx u hu; obtain ⟨m, _, rfl⟩ := List.mem_map.1 hx; simp at hu; subst hu; rfl
theorem flat_ints : ∀ xs : List Int, (xs.map fun x => [Value.int .i64 x]).flatten = xs.map (Value.int .i64)
  | [] => rfl
  | x :: xs => by simp [flat_ints xs]
theorem OwnR.ints {w : World} {base : Nat} {v : Value} {l : List Int} (h : OwnR 3 1 w base v (l.map fun n => [Value.int .i64 n])) : OwnI w base v l := by
  unfold OwnR at h
  rw [flat_ints, List.length_map] at h
  exact h
theorem OwnI.rw_ {w : World} {base : Nat} {v : Value} {xs : List Int} (h : OwnI w base v xs) : ∃ A c, v = .slice A xs.length c ∧ xs.length ≤ c ∧ IntsR w w.heap.size A xs := by
  obtain ⟨A, c, h1, h2, h3, _⟩ := own_rw (l := xs.map fun x => [Value.int .i64 x]) (n := xs.length) (by rw [flat_ints]; exact h) (by rw [List.length_map]) (fun x hx => by obtain ⟨y, _, rfl⟩ := List.mem_map.1 hx; rfl)
  exact ⟨A, c, h1, h2, h3⟩
end Go.Proofs.Ytgljpjcclncknaa

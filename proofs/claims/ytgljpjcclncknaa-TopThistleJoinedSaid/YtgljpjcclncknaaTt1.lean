/- Drawn: what its loop does, plainly; the list that is copied. -/
import Derived.Test.YtgljpjcclncknaaTs9
namespace Go.Proofs.Ytgljpjcclncknaa
open Go.RowKit

def drS (ls : List Lay) (top : Bool) (s : Dr) (k : Nat) : Dr := ⟨s.z.set (idxT ls.length top k) (dr1 (lyAt ls top k) s.amt).1, s.hot + (dr1 (lyAt ls top k) s.amt).2.1, s.amt - (dr1 (lyAt ls top k) s.amt).2.2⟩
/-- What has come of the drawing when these layers were visited. -/
def drP (ls : List Lay) (m : Int) (top : Bool) (pre : List (Fin ls.length)) : Dr := pre.foldl (fun s x => drS ls top s x.1) ⟨ls, 0, m⟩
theorem drP_snoc (ls : List Lay) (m : Int) (top : Bool) (pre : List (Fin ls.length)) (x : Fin ls.length) : drP ls m top (pre ++ [x]) = drS ls top (drP ls m top pre) x.1 := by
  simp [drP, List.foldl_append]
theorem drP_vis (ls : List Lay) (m : Int) (top : Bool) : ∀ (k : Nat) (hk : k ≤ ls.length), drP ls m top (vis ls.length k hk) = drK ls m top k
  | 0, _ => rfl
  | k + 1, hk => by rw [vis, drP_snoc, drP_vis ls m top k (by omega)]; rfl
theorem drP_bd {ls : List Lay} {m : Int} (top : Bool) (hl : ∀ x ∈ ls, bdL x ∧ okL x) (hm : 0 ≤ m) (pre : List (Fin ls.length)) :
    (drP ls m top pre).z.length = ls.length ∧ 0 ≤ (drP ls m top pre).amt ∧ (drP ls m top pre).amt ≤ m ∧ 0 ≤ (drP ls m top pre).hot ∧ (drP ls m top pre).hot ≤ 1000000000 * pre.length := by
  induction pre using snoc_ind with
  | h0 => exact ⟨rfl, hm, Int.le_refl _, Int.le_refl _, by simp [drP]⟩
  | hs l x ih =>
    rw [drP_snoc, List.length_append, List.length_singleton]
    have hmem : lyAt ls top x.1 ∈ ls := by rw [lyAt_mem x.2]; exact List.getElem_mem _
    obtain ⟨hb, ho⟩ := hl _ hmem
    have h1 := dr1_ok (m := (drP ls m top l).amt) ho ih.2.1
    have h2 := hb.h1
    obtain ⟨i1, i2, i3, i4, i5⟩ := ih
    obtain ⟨o1, o2, o3, o4, o5, o6, o7, o8⟩ := h1
    unfold drS
    simp only [List.length_set]
    exact ⟨i1, by omega, by omega, by omega, by omega⟩
theorem set1_block {W : World} {b : Nat} {T : TypeId} {a0 v0 : Value} (h : W.heap[b]? = some (.cells #[a0] T (0, 0))) : (W.setCell ⟨b, 0, none⟩ v0).heap[b]? = some (.cells #[v0] T (0, 0)) := heap_setCell_same W b 0 _ T v0 h
theorem set1_other {W : World} {b o d : Nat} (v0 : Value) (h : d ≠ b) : (W.setCell ⟨b, o, none⟩ v0).heap[d]? = W.heap[d]? := heap_setCell_other _ _ _ _ h
theorem setCells_full {b : Nat} {T : TypeId} {z : Nat × Nat} : ∀ (vs : List Value) (o : Nat) (w : World) (cur : Array Value), w.heap[b]? = some (.cells cur T z) → o + vs.length ≤ cur.size → ∃ cur', (w.setCells b o vs).heap[b]? = some (.cells cur' T z) ∧ cur'.size = cur.size ∧ cur'.toList = cur.toList.take o ++ vs ++ cur.toList.drop (o + vs.length)
  | [], o, _, cur, h, _ => ⟨cur, h, rfl, by simp⟩
  | v :: vs, o, w, cur, h, hl => by
    simp only [List.length_cons] at hl
    obtain ⟨cur', h1, h2, h3⟩ := setCells_full vs (o + 1) (w.setCell ⟨b, o, none⟩ v) (cur.setIfInBounds o v) (heap_setCell_same' h v) (by simp; omega)
    refine ⟨cur', h1, by simpa using h2, ?_⟩
    rw [h3, Array.toList_setIfInBounds, List.take_succ_eq_append_getElem (by simp; omega)]
    rw [List.getElem_set_self, List.take_set_of_le (Nat.le_refl _), List.drop_set_of_lt (by omega)]
    simp only [List.append_assoc, List.length_cons]
    rw [show o + 1 + vs.length = o + (vs.length + 1) by omega]
    rfl
theorem run_copy_cellsN (w : World) (dT sT ty elem : TypeId) (sz k b o dLen dCap : Nat) (a : Addr) (sLen sCap : Nat) (cs : List Value)
    (hu : Try.prog.underlying dT = some (.slice elem)) (hs : (Try.prog.info? elem).map (·.size) = some sz) (hk : k = Nat.min sLen dLen) (hn : cs.length = k * sz)
    (hsrc : ∀ j v, cs[j]? = some v → w.cell? (a.add j) = some v) (hc : ∀ j, j < cs.length → (w.cell? ⟨b, o + j, none⟩).isSome = true) (hf : ∀ j, j < cs.length → w.frozen? ⟨b, o + j, none⟩ = false) (h1 : ∀ v ∈ cs, v.oneCell' = true) :
    (Builtin.copy_ #[dT, sT] ty #[.slice (some ⟨b, o, none⟩) dLen dCap, .slice (some a) sLen sCap]).run Try.prog w = .ok (goInt k) (w.setCells b o cs) := by
  have hl := run_loadCells_list (P := Try.prog) w a cs hsrc
  have hst := run_storeCells_cells (P := Try.prog) b o cs 0 w (by simpa using hc) (by simpa using hf) h1
  cases hq : Try.prog.info? elem with
  | none => simp [hq] at hs
  | some i =>
    have hi : i.size = sz := by simpa [hq] using hs
    rw [hn] at hl
    simp [Builtin.copy_, run_underlying hu, Builtin.lenOf, Builtin.firstCells, sizeOf, typeInfo, hq, hi, ← hk, hl, hst]
theorem mkLay (n : Nat) (hn : n ≤ 1000) (W : World) : (Instr.makeSlice 31 (.int .i64 n) (.int .i64 n)).run Try.prog W = .ok (.slice (some ⟨W.heap.size, 0, none⟩) n n) (W.alloc (.cells (madeCells #[.int .i64 0, .int .i64 0] (n * 2)) 76)) := by
  obtain ⟨i0, hi, hz0, hz1, hz2⟩ := info_parts Try.infoLay
  have := run_make (P := Try.prog) W 31 76 i0 zeroLay Try.underlying31 hi hz0 .i64 .i64 (n : Int) (n : Int) (by omega) (Int.le_refl _) (by rw [hz2]; omega) (by omega)
  rw [hz1] at this
  simp only [Int.toNat_natCast] at this
  exact this
/-- The copy of a list into a row that was made for it. -/
theorem copy_own {W : World} {g b off : Nat} {ls : List Lay} {c : Nat} (hn : ls.length ≤ 1000) (hg : W.heap[g]? = some (.cells (madeCells #[.int .i64 0, .int .i64 0] (ls.length * 2)) 76 (0, 0)))
    (hr : ∀ k (h : k < ls.length), W.cell? ⟨b, off + k * 2, none⟩ = some (.int .i64 ls[k].a) ∧ W.cell? ⟨b, off + k * 2 + 1, none⟩ = some (.int .i64 ls[k].h)) :
    (∀ ty, (Builtin.copy_ #[31, 31] ty #[.slice (some ⟨g, 0, none⟩) ls.length ls.length, .slice (some ⟨b, off, none⟩) ls.length c]).run Try.prog W = .ok (goInt ls.length) (W.setCells g 0 (ls.map encL).flatten)) ∧
    OwnL (W.setCells g 0 (ls.map encL).flatten) g (some ⟨g, 0, none⟩) ls.length ls := by
  have hsz : (madeCells #[Value.int .i64 0, .int .i64 0] (ls.length * 2)).size = ls.length * 2 := size_madeCells _ _
  have hfl := flatL_len ls
  constructor
  · intro ty
    have hinf : (Try.prog.info? 76).map (·.size) = some 2 := by
      obtain ⟨i0, hi, _, hz1, _⟩ := info_parts Try.infoLay
      rw [hi]; simp [hz1]
    refine run_copy_cellsN W _ _ ty _ 2 ls.length g 0 _ _ ⟨b, off, none⟩ _ _ _ Try.underlying31 hinf (by simp) hfl (fun j v hv => ?_) (fun j hj => ?_) (fun j _ => ?_) (fun v hv => ?_)
    · have hj : j < ls.length * 2 := by rw [← hfl]; exact (List.getElem?_eq_some_iff.1 hv).1
      have e : (⟨b, off, none⟩ : Addr).add j = ⟨b, off + j, none⟩ := by unfold Addr.add; split <;> simp_all
      rw [e]
      obtain ⟨k, d, hd, rfl⟩ : ∃ k d, d < 2 ∧ j = k * 2 + d := ⟨j / 2, j % 2, Nat.mod_lt _ (by omega), by omega⟩
      have hk : k < ls.length := by omega
      have f := flat_at (n := 2) (l := ls.map encL) encL_len (k := k) (by simpa using hk) (j := d) hd
      rw [f, List.getElem_map] at hv
      obtain ⟨h1, h2⟩ := hr k hk
      match d, hd, hv with
      | 0, _, hv =>
        have e3 : Value.int .i64 ls[k].a = v := Option.some.inj hv
        rw [← e3, Nat.add_zero]; exact h1
      | 1, _, hv =>
        have e3 : Value.int .i64 ls[k].h = v := Option.some.inj hv
        rw [← e3, ← Nat.add_assoc]; exact h2
    · rw [Nat.zero_add, cell_of_row W g j _ _ _ hg, Array.getElem?_eq_getElem (by rw [hsz]; omega)]; rfl
    · exact frozen_of_row W g _ _ _ hg
    · obtain ⟨r, hr, hv⟩ := List.mem_flatten.1 hv
      obtain ⟨x, _, rfl⟩ := List.mem_map.1 hr
      exact encL_one x v hv
  · obtain ⟨cur', h1, h2, h3⟩ := setCells_full (ls.map encL).flatten 0 W _ hg (by rw [hsz, hfl]; omega)
    refine ⟨hfl, .inr ⟨g, _, cur', rfl, Nat.le_refl _, h1, Nat.le_refl _, by unfold maxLen; omega, by rw [h2, hsz], ?_⟩⟩
    rw [h3]
    simp only [List.take_zero, List.nil_append]
    rw [List.take_left' hfl]
end Go.Proofs.Ytgljpjcclncknaa

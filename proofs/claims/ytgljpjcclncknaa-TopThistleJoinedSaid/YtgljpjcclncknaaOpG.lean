/- The arguments of a law, opened; and the condition behind a law that answers true. -/
import Derived.Test.YtgljpjcclncknaaKa
import Derived.Deep.Slices
import Derived.ChangeSame
import Derived.ChangeOld
import Derived.Carry
import Derived.OpenShut
namespace Go.Proofs.Ytgljpjcclncknaa
open Go Go.ChangeShapes Go.WideShapes Go.Deep Go.RowKit

section
variable {H : Type} {enc : TypeId × Value → H} {P : Program} {w : World} {base : Nat} {sp : Nat → Bool} {held : Bool}

/-- A slice of elements of sz cells each. -/
theorem openRow {α : Type} (E : α → List Value) (Q : α → Prop) {t e : TypeId} {sz fuel : Nat} {cs : List Value} {x : DataW H × List MemPlace} (ht : P.underlying t = some (.slice e)) (hc : P.cellsOf e = sz) (h0 : 0 < sz)
    (hE : ∀ (fuel : Nat) (cs : List Value) (x : DataW H × List MemPlace), DataW.trod enc P w base sp held fuel e cs = some x → ∃ z : α, cs = E z ∧ Q z)
    (h : DataW.trod enc P w base sp held fuel t cs = some x) :
    ∃ (A : Option Addr) (l : List α) (c : Nat), cs = [.slice A l.length c] ∧ l.length ≤ c ∧ c ≤ maxLen ∧ (A = none → c = 0) ∧ Rw w w.heap.size sz A (l.map E) ∧ ∀ z ∈ l, Q z := by
  rcases open_slice ht h with ⟨hcs, _⟩ | ⟨a, len, cap, m, n, D, Pl, hcs, _, hl, hm, hmm, _, hi⟩
  · exact ⟨none, [], 0, hcs, Nat.le_refl _, Nat.zero_le _, fun _ => rfl, Rw.nil_, fun z hz => by simp at hz⟩
  · have hlm : len ≤ m := by rw [hmm]; split <;> omega
    have hz : ∀ i : Fin len, ∃ z : α, w.cells? base (a.add (i.1 * sz)) sz = some (E z) ∧ Q z := fun i => by
      obtain ⟨cs', h1, h2⟩ := hi i.1 (by omega)
      obtain ⟨z, rfl, hq⟩ := hE _ _ _ h2
      rw [hc] at h1
      exact ⟨z, h1, hq⟩
    obtain ⟨F, hFQ⟩ : ∃ F : Fin len → α, ∀ i, w.cells? base (a.add (i.1 * sz)) sz = some (E (F i)) ∧ Q (F i) := ⟨fun i => Classical.choose (hz i), fun i => Classical.choose_spec (hz i)⟩
    have hF := fun i => (hFQ i).1
    have hQ := fun i => (hFQ i).2
    refine ⟨some a, List.ofFn F, cap, by simpa using hcs, by simpa using hl, hm, (fun h => nomatch h), ?_, ?_⟩
    · intro hn
      have hpos : 0 < len := by
        rcases Nat.eq_zero_or_pos len with e | e
        · subst e; simp at hn
        · exact e
      obtain ⟨b, off, spot⟩ := a
      have hk : ∀ (k : Nat) (hk : k < len) (j : Nat) (v : Value), (E (F ⟨k, hk⟩))[j]? = some v → w.cell? ((Addr.mk b off spot).add (k * sz + j)) = some v := fun k hk j v hv => by
        obtain ⟨_, h2, h3⟩ := World.cells?_some (hF ⟨k, hk⟩)
        have hj : j < sz := by rw [← h2]; exact (List.getElem?_eq_some_iff.1 hv).1
        rw [← Go.Deep.add_add, h3 j hj, hv]
      have h00 : ∃ v, (E (F ⟨0, hpos⟩))[0]? = some v := by
        obtain ⟨_, h2, _⟩ := World.cells?_some (hF ⟨0, hpos⟩)
        exact ⟨_, List.getElem?_eq_getElem (by omega)⟩
      obtain ⟨v0, hv0⟩ := h00
      have hc0 := hk 0 hpos 0 v0 hv0
      have hspot : spot = none := by simpa [Addr.add] using World.cell?_spot hc0
      subst hspot
      refine ⟨b, off, rfl, ?_, fun k hk' j v hv => ?_⟩
      · have : w.cell? ⟨b, off, none⟩ = some v0 := by simpa [Addr.add] using hc0
        exact World.block_lt_of_cell? w _ this
      · have hk2 : k < len := by simpa using hk'
        have := hk k hk2 j v (by simpa using hv)
        rw [Go.WideShapes.add_plain] at this
        rw [Nat.add_assoc]; exact this
    · intro z hz
      obtain ⟨i, rfl⟩ := (List.mem_ofFn).1 hz
      exact hQ i

theorem trodAll_below (hl : laidOutB P = true) {W W' : World} (hb : Below W.heap.size W W') {sp' : Nat → Bool} : ∀ {ts : List TypeId} {vs : List Value} {ds : List (DataW H)} {ps : List MemPlace}, (∀ t ∈ ts, P.readableRec t = true ∧ t < P.types.size) →
    DataW.TrodAll enc P W 0 (fun _ => true) true ts vs ds ps → (∀ x ∈ ps, x.block < W.heap.size) → (∀ x ∈ ps, sp' x.block = true) → DataW.TrodAll enc P W' 0 sp' true ts vs ds ps
  | [], [], [], _, _, h, _, _ => h
  | [], _ :: _, _, _, _, h, _, _ => by simp [DataW.TrodAll] at h
  | [], [], _ :: _, _, _, h, _, _ => by simp [DataW.TrodAll] at h
  | _ :: _, [], _, _, _, h, _, _ => by simp [DataW.TrodAll] at h
  | _ :: _, _ :: _, [], _, _, h, _, _ => by simp [DataW.TrodAll] at h
  | t :: ts, v :: vs, d :: ds, ps, ht, ⟨p, q, h1, h2, e⟩, hlt, hs => by
    subst e
    obtain ⟨r1, r2⟩ := ht t (by simp)
    exact ⟨p, q, WideElems.Trod_stays hl r1 r2 h1 (fun x hx => hb.same (hlt x (by simp [hx]))) (fun x hx => hs x (by simp [hx])),
      trodAll_below hl hb (fun t' h' => ht t' (by simp [h'])) h2 (fun x hx => hlt x (by simp [hx])) (fun x hx => hs x (by simp [hx])), rfl⟩
theorem trodVars_below (hl : laidOutB P = true) {W W' : World} (hb : Below W.heap.size W W') {sp' : Nat → Bool} : ∀ {ns : List String} {ds : List (DataW H)} {ps : List MemPlace},
    (∀ n ∈ ns, ∀ g t, P.globalNamed n = some g → (P.globals[g]?).map (·.type) = some t → P.readableRec t = true ∧ t < P.types.size) →
    DataW.TrodVars enc P W (fun _ => true) ns ds ps → (∀ x ∈ ps, x.block < W.heap.size) → (∀ x ∈ ps, sp' x.block = true) → DataW.TrodVars enc P W' sp' ns ds ps
  | [], [], _, _, h, _, _ => h
  | [], _ :: _, _, _, h, _, _ => by simp [DataW.TrodVars] at h
  | _ :: _, [], _, _, h, _, _ => by simp [DataW.TrodVars] at h
  | n :: ns, d :: ds, ps, ht, ⟨g, t, cs, fuel, p, q, h1, h2, h3, h4, h5, e⟩, hlt, hs => by
    subst e
    obtain ⟨r1, r2⟩ := ht n (by simp) g t h1 h2
    have hg : g < W.heap.size := by
      have := h3
      unfold World.var? at this
      simp only [h1, Option.bind_some] at this
      split at this
      · rename_i he
        exact (Array.getElem?_eq_some_iff.1 he).1
      · cases this
    have hv : W'.var? P n = some cs := by
      unfold World.var? at h3 ⊢
      simp only [h1, Option.bind_some] at h3 ⊢
      rw [hb.block g hg]; exact h3
    refine ⟨g, t, cs, fuel, p, q, h1, h2, hv, DataW.trod_stays (kids_book hl r1) (book_sized r1) (fun h => by cases h) ⟨r2, book_self t⟩ h4 (fun x hx => hb.same (hlt x (by simp [hx]))) (fun x hx => hs x (by simp [hx])),
      trodVars_below hl hb (fun n' h' => ht n' (by simp [h'])) h5 (fun x hx => hlt x (by simp [hx])) (fun x hx => hs x (by simp [hx])), rfl⟩

/-- A law that answers true and turns nothing that was there. -/
theorem post_true {f : Func} {s : ChangeSpec} {apart again : Bool} {W W' : World} {args : Array Value} {ds gs : List (DataW H)} {before : List MemPlace} {t : TypeId} (hl : laidOutB P = true)
    (hp : ∀ t ∈ f.params.toList, P.readableRec t = true ∧ t < P.types.size)
    (hv : ∀ n ∈ s.vars, ∀ g t, P.globalNamed n = some g → (P.globals[g]?).map (·.type) = some t → P.readableRec t = true ∧ t < P.types.size)
    (hW : DataW.Whole enc P f.params.toList s.vars apart W args.toList ds gs before) (hr : f.resultTypes = #[t]) (ht : P.underlying t = some .bool)
    (hfn : s.fn H (ds ++ gs) = ⟨[.lit (.bool true)], ds, gs⟩) (hb : Below W.heap.size W W') :
    s.post enc P f apart true false again W args (.bool true) W' := by
  have hold : ∀ p ∈ before, (fun b => decide (b < W.heap.size)) p.block = true := fun p hp => by simpa using hW.lt p hp
  have hlt := hW.lt
  have hW' := hW
  obtain ⟨pa, pv, hA, hV, rfl, hz, hn⟩ := hW
  have hres : ∀ (b : Nat) (sp : Nat → Bool) (hd : Bool), DataW.TrodAll enc P W' b sp hd f.resultTypes.toList ((Value.bool true).resultList f.resultTypes.size) (s.fn H (ds ++ gs)).results [] := by
    intro b sp hd
    rw [hr, hfn]
    exact trodAll_cons_mk (shut_bool ht _) trodAll_mk0
  have hargs : ∀ sp : Nat → Bool, (∀ p ∈ pa ++ pv, sp p.block = true) → DataW.TrodAll enc P W' 0 sp true f.params.toList args.toList (s.fn H (ds ++ gs)).args pa := by
    intro sp hs
    rw [hfn]
    exact trodAll_below hl hb hp hA (fun x hx => hlt x (by simp [hx])) (fun x hx => hs x (by simp [hx]))
  have hvars : ∀ sp : Nat → Bool, (∀ p ∈ pa ++ pv, sp p.block = true) → DataW.TrodVars enc P W' sp s.vars (s.fn H (ds ++ gs)).vars pv := by
    intro sp hs
    rw [hfn]
    exact trodVars_below hl hb hv hV (fun x hx => hlt x (by simp [hx])) (fun x hx => hs x (by simp [hx]))
  refine ⟨ds, gs, pa ++ pv, [], pa, pv, hW', hres _ _ _, hargs _ hold, hvars _ hold, World.keptBut_mono (fun p hp => ⟨hp, ?_⟩) (hb.frame (· ∈ pa ++ pv)), fun _ => ?_⟩
  · rcases List.mem_append.1 hp with h | h
    · exact Or.inr (Or.inl h)
    · exact Or.inr (Or.inr h)
  · refine ⟨ok_one hr rfl (okWide_bool_mk ht true), _, _, ([] ++ pa) ++ pv, ⟨[] ++ pa, pv, trodAll_append (hargs _ (fun _ _ => rfl)) (hres _ _ _), hvars _ (fun _ _ => rfl), rfl, ?_, ?_⟩, ?_⟩
    · intro b off hp
      have hp' : MemPlace.cell b off ∈ pa ++ pv := by simpa using hp
      rw [hb.frozen (p := ⟨b, off, none⟩) (hlt _ hp')]
      exact hz b off hp'
    · intro ha
      simpa using hn ha
    · intro p hp _
      simpa using hp
end

theorem len2_ {α : Type} {cs : List α} (h : cs.length = 2) : ∃ c0 c1, cs = [c0, c1] := by
  match cs, h with
  | [c0, c1], _ => exact ⟨_, _, rfl⟩
theorem len3_ {α : Type} {cs : List α} (h : cs.length = 3) : ∃ c0 c1 c2, cs = [c0, c1, c2] := by
  match cs, h with
  | [c0, c1, c2], _ => exact ⟨_, _, _, rfl⟩
theorem len4_ {α : Type} {cs : List α} (h : cs.length = 4) : ∃ c0 c1 c2 c3, cs = [c0, c1, c2, c3] := by
  match cs, h with
  | [c0, c1, c2, c3], _ => exact ⟨_, _, _, _, rfl⟩
theorem len5_ {α : Type} {cs : List α} (h : cs.length = 5) : ∃ c0 c1 c2 c3 c4, cs = [c0, c1, c2, c3, c4] := by
  match cs, h with
  | [c0, c1, c2, c3, c4], _ => exact ⟨_, _, _, _, _, rfl⟩
theorem len6_ {α : Type} {cs : List α} (h : cs.length = 6) : ∃ c0 c1 c2 c3 c4 c5, cs = [c0, c1, c2, c3, c4, c5] := by
  match cs, h with
  | [c0, c1, c2, c3, c4, c5], _ => exact ⟨_, _, _, _, _, _, rfl⟩
theorem trod_parts {H : Type} {enc : TypeId × Value → H} {P : Program} {w : World} {base : Nat} {sp : Nat → Bool} {held : Bool} {t : TypeId} {fuel : Nat} {cs : List Value} {x : DataW H × List MemPlace} {fs : Array Field}
    (ht : P.underlying t = some (.struct fs)) (h : DataW.trod enc P w base sp held fuel t cs = some x) :
    cs.length = P.cellsOf t ∧ ∀ (i : Nat) (f : Field), fs[i]? = some f → ∃ (n : Nat) (y : DataW H × List MemPlace), DataW.trod enc P w base sp held n f.type ((cs.drop f.offset).take (P.cellsOf f.type)) = some y := by
  obtain ⟨xs, n, _, _, hl, hx, hf⟩ := DataW.trod_struct ht h
  refine ⟨hl, fun i f hi => ?_⟩
  have hlt : i < xs.length := by rw [hx]; exact (Array.getElem?_eq_some_iff.1 hi).1
  exact ⟨n, xs[i], (hf i f hi).trans (List.getElem?_eq_getElem hlt)⟩

section
variable {H : Type} {enc : TypeId × Value → H} {w : World} {base : Nat} {sp : Nat → Bool} {held : Bool} {fuel : Nat} {cs : List Value} {x : DataW H × List MemPlace}
theorem open_agg {r : Reach} {b0 : Nat} {P : Program} {t : TypeId} {v : Value} {d : DataW H} {p : List MemPlace} (ht : (∃ fs, P.underlying t = some (.struct fs)) ∨ ∃ n e, P.underlying t = some (.array n e)) (hv : Value.okWide P w r b0 t v) (h : DataW.Trod enc P w base sp held t v d p) :
    ∃ (l : List Value) (fuel : Nat), v = .agg l.toArray ∧ DataW.trod enc P w base sp held fuel t l = some (d, p) := by
  obtain ⟨fuel, h⟩ := h
  have hc : ∃ cs, v = .agg cs := by
    unfold Value.okWide at hv
    rcases ht with ⟨fs, ht⟩ | ⟨n, e, ht⟩ <;> (rw [ht] at hv; obtain ⟨cs, h1, _⟩ := hv; exact ⟨cs, h1⟩)
  obtain ⟨⟨l⟩, rfl⟩ := hc
  exact ⟨l, fuel, rfl, h⟩
/-- An array of whole numbers of one kind. -/
theorem open_arrK {P : Program} {n : Nat} {t e : TypeId} {k : IntKind} (he : P.underlying e = some (.int k)) (hce : P.cellsOf e = 1) (ht : P.underlying t = some (.array n e)) (hc : P.cellsOf t = n) (h : DataW.trod enc P w base sp held fuel t cs = some x) : ∃ zs : List Int, zs.length = n ∧ cs = zs.map (Value.int k) ∧ ∀ z ∈ zs, (Lit.int k z).wf = true := by
  obtain ⟨xs, m, _, _, hl, hx, hi⟩ := DataW.trod_array ht h
  rw [hc] at hl
  simp only [hce, Nat.mul_one] at hi
  have hz : ∀ i : Fin n, ∃ z : Int, cs[i.1]? = some (Value.int k z) ∧ (Lit.int k z).wf = true := fun i => by
    have h1 : (cs.drop i.1).take 1 = [cs[i.1]'(by omega)] := by rw [List.drop_eq_getElem_cons (by omega)]; rfl
    have h2 := hi i.1 i.2
    rw [h1, List.getElem?_eq_getElem (by omega)] at h2
    obtain ⟨z, h3, _, h4⟩ := DataW.trod_int he h2
    refine ⟨z, ?_, h4⟩
    rw [List.getElem?_eq_getElem (by omega)]
    exact congrArg some (List.cons.inj h3).1
  obtain ⟨F, hFQ⟩ : ∃ F : Fin n → Int, ∀ i, cs[i.1]? = some (Value.int k (F i)) ∧ (Lit.int k (F i)).wf = true := ⟨fun i => Classical.choose (hz i), fun i => Classical.choose_spec (hz i)⟩
  have hF := fun i => (hFQ i).1
  have hW := fun i => (hFQ i).2
  refine ⟨List.ofFn F, by simp, ?_, fun z hz => ?_⟩
  · apply List.ext_getElem?
    intro i
    by_cases hi : i < n
    · rw [hF ⟨i, hi⟩]; simp [hi]
    · rw [List.getElem?_eq_none (by omega), List.getElem?_eq_none (by simp; omega)]
  · obtain ⟨i, rfl⟩ := (List.mem_ofFn).1 hz
    exact hW i
end
end Go.Proofs.Ytgljpjcclncknaa

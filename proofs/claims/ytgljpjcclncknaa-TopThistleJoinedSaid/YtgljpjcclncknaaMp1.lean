/- The map of places: keys of two ints. -/
import Derived.Test.YtgljpjcclncknaaGs3
import Derived.Maps.OwnIn
namespace Go.Proofs.Ytgljpjcclncknaa
open Go.RowKit

theorem Try.eqPlace (a b c d : Int) (w : World) : (Op.equalIn 10000 104 (.agg #[.int .i64 a, .int .i64 b]) (.agg #[.int .i64 c, .int .i64 d])).run Try.prog w = .ok (a == c && b == d) w := by
  have u3 := Try.underlying3
  have a3 := Try.isAgg3
  have z3 := Try.sizeOf3
  have hS : Try.prog.underlying 104 = some (.struct (Try.prog.fieldsOf 104)) := by kernel_rfl
  rw [show (10000 : Nat) = 9999 + 1 from rfl, run_equalIn_agg w 9999 104 _ _ hS (by kernel_rfl)]
  simp only [Program.fieldsOf, Try.underlying104]
  go_simp
  by_cases h1 : a = c <;> by_cases h2 : b = d <;> simp [h1, h2]
theorem Try.ckPlace (e : Bool) (a b : Int) (w : World) : (Instr.checkKey e 10000 104 (.agg #[.int .i64 a, .int .i64 b])).run Try.prog w = .ok () w := by
  have u3 := Try.underlying3
  have a3 := Try.isAgg3
  have z3 := Try.sizeOf3
  have hi : ∀ n x w, (Instr.checkKey e (n + 1) 3 (.int .i64 x)).run Try.prog w = .ok () w := fun n x w => by rw [Instr.checkKey]; simp [run_underlying u3]
  rw [show (10000 : Nat) = (9998 + 1) + 1 from rfl, Instr.checkKey]
  simp only [Sem.run_bind, run_underlying Try.underlying104, Result.andThen_ok]
  simp only [← Array.forIn_toList, List.forIn_cons, List.forIn_nil]
  simp [hi, go_sem, a3, z3]
def keyP (k : Int × Int) : Value := .agg #[.int .i64 k.1, .int .i64 k.2]
def encP (p : (Int × Int) × Value) : Value × Value := (keyP p.1, p.2)
def entP (e : MapEntry) : Value × Value := (e.key, e.val)
/-- The map object of block r has the entries l. -/
def MapP (w : World) (r : Nat) (l : List ((Int × Int) × Value)) : Prop := ∃ es clock, w.heap[r]? = some (.map es clock) ∧ es.toList.map entP = l.map encP
def getP (k : Int × Int) : List ((Int × Int) × Value) → Option Value
  | [] => none
  | p :: l => if k = p.1 then some p.2 else getP k l
def setP (k : Int × Int) (v : Value) : List ((Int × Int) × Value) → List ((Int × Int) × Value)
  | [] => [(k, v)]
  | p :: l => if k = p.1 then (k, v) :: l else p :: setP k v l
theorem getP_setP (k j : Int × Int) (v : Value) (l : List ((Int × Int) × Value)) : getP j (setP k v l) = if j = k then some v else getP j l := by
  induction l with
  | nil => simp [setP, getP]
  | cons p l ih =>
    by_cases h : k = p.1
    · rw [setP, if_pos h]
      simp only [getP]
      by_cases h2 : j = k
      · rw [if_pos h2, if_pos h2]
      · rw [if_neg h2, if_neg h2, if_neg (fun e => h2 (e.trans h.symm))]
    · rw [setP, if_neg h]
      simp only [getP, ih]
      by_cases h2 : j = p.1
      · rw [if_pos h2, if_pos h2, if_neg (fun e => h (e.symm.trans h2))]
      · rw [if_neg h2, if_neg h2]
theorem pair_beq (k j : Int × Int) : (k.1 == j.1 && k.2 == j.2) = decide (k = j) := by
  obtain ⟨a, b⟩ := k
  obtain ⟨c, d⟩ := j
  by_cases h1 : a = c <;> by_cases h2 : b = d <;> simp [h1, h2]
theorem Try.ask (k : Int × Int) (w : World) : ∀ (es : List MapEntry) (l : List ((Int × Int) × Value)) (i : Nat), es.map entP = l.map encP →
    (∃ j v, getP k l = some v ∧ (Instr.findAsking 104 (keyP k) es i).run Try.prog w = .ok (some (i + j, v)) w ∧ (∃ e, es[j]? = some e ∧ e.key = keyP k) ∧
      ∀ v' : Value, (es.modify j fun e => { e with key := keyP k, val := v' }).map entP = (setP k v' l).map encP) ∨
    (getP k l = none ∧ (Instr.findAsking 104 (keyP k) es i).run Try.prog w = .ok none w ∧ ∀ v', setP k v' l = l ++ [(k, v')])
  | [], [], i, _ => .inr ⟨rfl, rfl, fun _ => rfl⟩
  | [], _ :: _, _, h => by simp at h
  | _ :: _, [], _, h => by simp at h
  | e :: es, p :: l, i, h => by
    simp only [List.map_cons, List.cons.injEq] at h
    obtain ⟨h1, h2⟩ := h
    have hk : e.key = keyP p.1 := congrArg Prod.fst h1
    have hv : e.val = p.2 := congrArg Prod.snd h1
    have hq : (Op.equal 104 (keyP k) e.key).run Try.prog w = .ok (decide (k = p.1)) w := by
      rw [hk]; unfold keyP Op.equal Op.maxDepth; rw [Try.eqPlace, pair_beq]
    by_cases hkp : k = p.1
    · left
      refine ⟨0, p.2, by rw [getP, if_pos hkp], ?_, ⟨e, rfl, by rw [hk, hkp]⟩, fun v' => ?_⟩
      · rw [Instr.findAsking]; simp only [Sem.run_bind, hq, Result.andThen_ok, decide_eq_true hkp]; simp [hv]
      · rw [setP, if_pos hkp]; simp [List.modify, entP, encP, h2]
    · rcases Try.ask k w es l (i + 1) h2 with ⟨j, v, h3, h4, h5, h6⟩ | ⟨h3, h4, h5⟩
      · left
        refine ⟨j + 1, v, by rw [getP, if_neg hkp]; exact h3, ?_, by simpa using h5, fun v' => ?_⟩
        · rw [Instr.findAsking]; simp [hq, hkp, h4]; omega
        · rw [setP, if_neg hkp]; simp only [List.modify_succ_cons, List.map_cons, h6 v', h1]
      · right
        refine ⟨by rw [getP, if_neg hkp]; exact h3, ?_, fun v' => by rw [setP, if_neg hkp, h5 v']; rfl⟩
        rw [Instr.findAsking]; simp [hq, hkp, h4]
theorem go_map {P : Program} {w : World} {r : Nat} {es : Array MapEntry} {c : Nat} (h : w.heap[r]? = some (.map es c)) : (getObj r).run P w = .ok (.map es c) w := by
  simp [getObj, Sem.run, h]
theorem go_setmap {P : Program} {w : World} {r : Nat} {es : Array MapEntry} {c : Nat} (o : Obj) (h : w.heap[r]? = some (.map es c)) : (setObj r o).run P w = .ok () { w with heap := w.heap.setIfInBounds r o } := by
  simp [setObj, Sem.run, h]
theorem Try.findP (k : Int × Int) (w : World) (es : List MapEntry) : (Instr.findKey 104 (keyP k) es).run Try.prog w = (Instr.findAsking 104 (keyP k) es 0).run Try.prog w := by
  have hS : Try.prog.underlying 104 = some (.struct (Try.prog.fieldsOf 104)) := by kernel_rfl
  unfold Instr.findKey
  simp only [Sem.run_bind, run_underlying hS, Result.andThen_ok]
  cases es with
  | nil => rfl
  | cons e es => simp [Instr.findNow, Instr.sameNow]
theorem Try.lookupP {w : World} {r : Nat} {l : List ((Int × Int) × Value)} (k : Int × Int) (z : Value) (hz : (zeroValue 98).run Try.prog w = .ok z w) (h : MapP w r l) :
    (Instr.lookup 99 (.map (some r)) (keyP k) true).run Try.prog w = .ok (.tuple #[(getP k l).getD z, .bool (getP k l).isSome]) w := by
  obtain ⟨es, clock, hb, hk⟩ := h
  have hT : Try.prog.underlying 99 = some (.map 104 98) := by kernel_rfl
  have hc : ∀ e, (Instr.checkKey e 10000 104 (keyP k)).run Try.prog w = .ok () w := fun e => Try.ckPlace e k.1 k.2 w
  rcases Try.ask k w es.toList l 0 hk with ⟨j, v, h1, h2, _, _⟩ | ⟨h1, h2, _⟩
  · simp [Instr.lookup, run_underlying hT, go_map hb, Try.findP, hc, h2, h1]
  · simp [Instr.lookup, run_underlying hT, go_map hb, Try.findP, hc, h2, h1, hz]
theorem sameBits_P (k : Int × Int) : Instr.sameBits 10000 (keyP k) (keyP k) = true := by
  rw [show (10000 : Nat) = (9998 + 1) + 1 from rfl, keyP, Instr.sameBits]; simp [Instr.sameBits]
theorem Try.updateP {w : World} {r : Nat} {l : List ((Int × Int) × Value)} (k : Int × Int) (v : Value) (h : MapP w r l) :
    ∃ w', (Instr.mapUpdate 99 (.map (some r)) (keyP k) v).run Try.prog w = .ok () w' ∧ MapP w' r (setP k v l) ∧ w.grownBy w' (some r) := by
  obtain ⟨es, clock, hb, hk⟩ := h
  have hT : Try.prog.underlying 99 = some (.map 104 98) := by kernel_rfl
  have hc : ∀ e, (Instr.checkKey e 10000 104 (keyP k)).run Try.prog w = .ok () w := fun e => Try.ckPlace e k.1 k.2 w
  have hlt : r < w.heap.size := (Array.getElem?_eq_some_iff.1 hb).1
  rcases Try.ask k w es.toList l 0 hk with ⟨j, v0, h1, h2, ⟨e, h3, h4⟩, h5⟩ | ⟨h1, h2, h3⟩
  · rw [Nat.zero_add] at h2
    refine ⟨{ w with heap := w.heap.setIfInBounds r (.map (es.modify j fun e => { e with key := keyP k, val := v }) clock) }, ?_, ?_, ?_⟩
    · have h6 : es[j]? = some e := by rw [← Array.getElem?_toList]; exact h3
      simp [Instr.mapUpdate, run_underlying hT, go_map hb, hc, Try.findP, h2, go_setmap _ hb, Instr.keyThatStays, h6, h4, sameBits_P]
    · exact ⟨_, _, by simp [hlt]; exact ⟨rfl, rfl⟩, by rw [Array.toList_modify]; exact h5 v⟩
    · exact ⟨rfl, rfl, rfl, by simp, fun k hk' hne => by simp; rw [Array.getElem?_setIfInBounds_ne (by intro e; exact hne (by rw [e]))]⟩
  · refine ⟨{ w with heap := w.heap.setIfInBounds r (.map (es.push { key := keyP k, val := v, born := clock }) (clock + 1)) }, ?_, ?_, ?_⟩
    · simp [Instr.mapUpdate, run_underlying hT, go_map hb, hc, Try.findP, h2, go_setmap _ hb]
    · exact ⟨_, _, by simp [hlt]; exact ⟨rfl, rfl⟩, by rw [h3 v]; simp [hk, entP, encP]⟩
    · exact ⟨rfl, rfl, rfl, by simp, fun k hk' hne => by simp; rw [Array.getElem?_setIfInBounds_ne (by intro e; exact hne (by rw [e]))]⟩
theorem MapP.new (w : World) : MapP (w.alloc (.map #[] 0)) w.heap.size [] := ⟨#[], 0, heap_alloc_new w _, rfl⟩
theorem MapP.lt {w : World} {r : Nat} {l : List ((Int × Int) × Value)} (h : MapP w r l) : r < w.heap.size := by
  obtain ⟨es, clock, hb, _⟩ := h; exact (Array.getElem?_eq_some_iff.1 hb).1
theorem MapP.keep {w w' : World} {r : Nat} {l : List ((Int × Int) × Value)} (h : MapP w r l) (hb : w'.heap[r]? = w.heap[r]?) : MapP w' r l := by
  obtain ⟨es, clock, h1, h2⟩ := h; exact ⟨es, clock, hb.trans h1, h2⟩
theorem MapP.nocell {w : World} {r : Nat} {l : List ((Int × Int) × Value)} (h : MapP w r l) (a : Addr) (ha : a.block = r) : w.cell? a = none := by
  obtain ⟨es, clock, h1, _⟩ := h
  unfold World.cell?
  rw [ha, h1]
theorem Try.wpList_updateP {w : World} {ops : Array Oper} {rest : List Oper} {o : Oper} {a : Act} {Q : Exit → Act → World → Prop}
    (hg : o.guard = none) (m x v : Operand) (hop : o.op = Op.mapUpdate 99 m x v)
    (r : Nat) (l : List ((Int × Int) × Value)) (k : Int × Int) (vv : Value) (hm : a.eval m = .map (some r)) (hx : a.eval x = keyP k) (hv : a.eval v = vv) (hset : MapP w r l)
    (hN : ∀ w', MapP w' r (setP k vv l) → w.grownBy w' (some r) → wpList Try.prog ops Q rest (a.put o.dst undef) w') : wpList Try.prog ops Q (o :: rest) a w := by
  refine wpList_plain hg fun K' hK' => ?_
  obtain ⟨w', hrun, h1, h2⟩ := Try.updateP (w := w) k vv hset
  unfold Oper.wp
  simp [execOp, hop, hm, hx, hv, hrun, Result.andThen]
  exact hK' _ _ (hN w' h1 h2)
end Go.Proofs.Ytgljpjcclncknaa

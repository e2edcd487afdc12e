/- The law's helpers: tanks and quarter hours of the reference as those of the program. -/
import Derived.Test.YtgljpjcclncknaaDi0
import Derived.Deep.AppendLies
import Derived.Deep.RegionLaw
namespace Go.Proofs.Ytgljpjcclncknaa
open Go.RowKit

theorem step_append_zero {P : Program} {ops : Array Oper} {o : Oper} {a : Act} {w : World} {K : Act → World → Prop} {Q : Exit → Act → World → Prop} {E : Prop} (hgd : o.guard = none) (s x : Operand) (t : TypeId)
    (ho : o.op = .call { callee := .builtin .append, args := #[s, x], argTypes := #[t, t] })
    (base : Nat) (e : TypeId) (i : TypeInfo) (size : Nat) (ht : P.underlying t = some (.slice e)) (hi : P.info? e = some i)
    (v : Value) (n : Nat) (xs : List Value) (hs : a.eval s = v) (hown : w.ownsRow base e size v n xs) (A0 : Option Addr) (c : Nat) (hx : a.eval x = .slice A0 0 c)
    (h : K (a.put o.dst v) w) : if Region.wanted o (yielded ops a.tmps) = true then Oper.wp P o a w K Q else E := by
  have hw : Region.wanted o (yielded ops a.tmps) = true := by simp [Region.wanted, hgd]
  rw [if_pos hw]
  have hrun : (Builtin.append_ #[t, t] o.type #[v, .slice A0 0 c]).run P w = .ok v w := by
    rcases hown.2 with ⟨rfl, rfl⟩ | ⟨g, cap, cur, rfl, _, _, hnc, _⟩
    · cases A0 <;> simp [Builtin.append_, run_underlying ht, sizeOf, typeInfo, hi, Builtin.lenOf, Builtin.firstCells, loadCells, loadCellsFrom]
    · cases A0 <;> simp [Builtin.append_, run_underlying ht, sizeOf, typeInfo, hi, Builtin.lenOf, Builtin.firstCells, hnc, storeCells, loadCells, loadCellsFrom]
  unfold Oper.wp
  simp [execOp, ho, resolve, invoke, builtin, hs, hx, hrun, Result.andThen]
  exact h
theorem Rw.flat {w : World} {B sz : Nat} {A : Option Addr} {l : List (List Value)} (h : Rw w B sz A l) (hl : ∀ x ∈ l, x.length = sz) (hn : l ≠ []) :
    ∃ b off, A = some ⟨b, off, none⟩ ∧ b < B ∧ ∀ (j : Nat) (u : Value), l.flatten[j]? = some u → w.cell? ((⟨b, off, none⟩ : Addr).add j) = some u := by
  obtain ⟨b, off, e, hb, hc⟩ := h hn
  refine ⟨b, off, e, hb, fun j u hj => ?_⟩
  have hlt := (List.getElem?_eq_some_iff.1 hj).1
  rw [flat_len hl] at hlt
  have hs : 0 < sz := by
    rcases Nat.eq_zero_or_pos sz with h0 | h0
    · rw [h0] at hlt; simp at hlt
    · exact h0
  have hk : j / sz < l.length := Nat.div_lt_of_lt_mul (by rw [Nat.mul_comm]; exact hlt)
  have hd := Nat.mod_lt j hs
  have f := flat_at hl hk hd
  have hjj : j / sz * sz + j % sz = j := by rw [Nat.mul_comm]; exact Nat.div_add_mod j sz
  rw [hjj, hj] at f
  have h1 := hc _ hk _ _ f.symm
  rw [Nat.add_assoc, hjj] at h1
  have hadd : (⟨b, off, none⟩ : Addr).add j = ⟨b, off + j, none⟩ := by unfold Addr.add; split <;> simp_all
  rw [hadd]; exact h1
theorem below_at {W W' : World} {b : Nat} {off : Nat} (hW : Below W.heap.size W W') (hb : b < W.heap.size) {j : Nat} {u : Value} (h : W.cell? ((⟨b, off, none⟩ : Addr).add j) = some u) : W'.cell? ((⟨b, off, none⟩ : Addr).add j) = some u := by
  have hadd : (⟨b, off, none⟩ : Addr).add j = ⟨b, off + j, none⟩ := by unfold Addr.add; split <;> simp_all
  rw [hadd] at h ⊢
  exact (hW.cell (p := ⟨b, off + j, none⟩) hb).trans h
theorem encL_one' (ls : List Lay) : ∀ u ∈ (ls.map encL).flatten, u.oneCell' = true := by
  intro u hu
  obtain ⟨r, hr, hu⟩ := List.mem_flatten.1 hu
  obtain ⟨x, _, rfl⟩ := List.mem_map.1 hr
  exact encL_one x u hu
theorem grown_set2 (W : World) (b : Nat) (v0 v1 : Value) : W.grownBy ((W.setCell ⟨b, 0, none⟩ v0).setCell ⟨b, 1, none⟩ v1) (some b) := by
  have h : Below 0 W ((W.setCell ⟨b, 0, none⟩ v0).setCell ⟨b, 1, none⟩ v1) := Below.set2 (Below.refl 0 W) (Nat.zero_le _) _ _
  refine ⟨h.os, h.tape, h.output, h.size, fun k _ hne => ?_⟩
  have hkb : k ≠ b := fun e => hne (by rw [e])
  rw [heap_setCell_other _ _ _ _ hkb, heap_setCell_other _ _ _ _ hkb]
theorem Try.resTk {fn : Func} {t : Tmp} (h : fn.results = #[.cell t 33]) (tmps : Array Value) (w : World) {b : Nat} {T : TypeId} {v0 v1 : Value} (ht : tmps.getD t undef = .pointer (some ⟨b, 0, none⟩)) (hb : w.heap[b]? = some (.cells #[v0, v1] T (0, 0))) :
    (results fn tmps).run Try.prog w = .ok (.agg #[v0, v1]) w := by
  have c0 : w.cell? ⟨b, 0, none⟩ = some v0 := by rw [cell_of_row w _ 0 _ _ _ hb]; rfl
  have c1 : w.cell? ⟨b, 1, none⟩ = some v1 := by rw [cell_of_row w _ 1 _ _ _ hb]; rfl
  rw [Array.getD_eq_getD_getElem?] at ht
  simp only [results, h]
  simp [go_sem, ht, c0, c1]
/-- A tank whose layers a call has made. -/
def RetTk (room : Int) (ls : List Lay) (w : World) (e : Ending) (w' : World) : Prop := ∃ A c, e = .returned (.agg #[.int .i64 room, .slice A ls.length c]) ∧ OwnL w' w.heap.size A c ls ∧ Below w.heap.size w w'
set_option maxRecDepth 100000 in
set_option maxHeartbeats 4000000 in
theorem thistleOwn_c (room : Int) (A : Option Addr) (c : Nat) (ls : List Lay) (w : World) (hl : ls.length ≤ 1000) (hr : Rw w w.heap.size 2 A (ls.map encL)) :
    Calls Try.prog 10 #[.agg #[.int .i64 room, .slice A ls.length c]] w (RetTk room ls w) := by
  obtain ⟨i0, hi, hz0, hz1, hz2⟩ := info_parts Try.infoLay
  obtain ⟨W0, hW0⟩ : ∃ W0, W0 = (w.alloc (.cells #[.int .i64 room, .slice A ls.length c] 33)).alloc (.cells #[.int .i64 0, .slice none 0 0] 33) := ⟨_, rfl⟩
  have hb0 : Below w.heap.size w W0 := by rw [hW0]; (repeat first | (with_reducible first | assumption | exact Below.refl _ _ | refine Bl.drew ?_ | refine Bl.drewN ?_ _ | refine Bl.alloc ?_ _ | refine Bl.set ?_ _ ?_) | (with_reducible apply Bl.step'; (focus (with_reducible assumption))) | omega | (focus (simp; done)) | (focus (simp; omega)))
  have k0 : W0.heap[w.heap.size]? = some (.cells #[.int .i64 room, .slice A ls.length c] 33 (0, 0)) := by rw [hW0]; exact blk_alloc (blk_new rfl)
  have k1 : W0.heap[w.heap.size + 1]? = some (.cells #[.int .i64 0, .slice none 0 0] 33 (0, 0)) := by rw [hW0]; exact blk_new (by simp)
  have HR := Lib.hid (rw_to hr hb0)
  have HB := Lib.hid hb0
  have HK0 := Lib.hid k0
  have HK1 := Lib.hid k1
  clear hr hb0
  by_cases hne : ls = []
  · have hlz : ls.length = 0 := by rw [hne]; rfl
    rw [hlz] at hW0 k0 ⊢
    have HNE := Lib.hid hne
    have HLZ := Lib.hid hlz
    clear hne hlz
    go_enter Try.func10, Try.ntmps10
    go_wp2_with fail
    rw [← hW0]
    clear hW0
    obtain ⟨a0, af0, a1, af1⟩ := cv2 k0
    obtain ⟨r0, rf0, r1, rf1⟩ := cv2 k1
    have h0l := blk_lt k0
    have h1l := blk_lt k1
    clear k0 k1
    go_region_law (refine step_append_zero rfl (.tmp 5) (.tmp 7) 31 rfl W0.heap.size 76 _ 2 Try.underlying31 hi (.slice (some ⟨W0.heap.size, 0, none⟩) 0 0) 0 [] (by simp [Act.eval]) (World.ownsRow_made W0 #[] 0 (Nat.le_refl _) (Nat.zero_le _) rfl) A c (by simp [Act.eval]) ?_)
    all_goals
      clear a0 af0 a1 af1 r0 rf0 r1 rf1
      obtain ⟨X, hX⟩ : ∃ X, X = (W0.setCell ⟨w.heap.size + 1, 0, none⟩ (.int .i64 room)).setCell ⟨w.heap.size + 1, 1, none⟩ (.slice (some ⟨W0.heap.size, 0, none⟩) 0 0) := ⟨_, rfl⟩
      rw [← hX]
      have hXs : X.heap.size = W0.heap.size := by rw [hX]; simp
      have kX : X.heap[w.heap.size + 1]? = some (.cells #[.int .i64 room, .slice (some ⟨W0.heap.size, 0, none⟩) 0 0] 33 (0, 0)) := by rw [hX]; exact set2_block HK1.out
      have hbX : Below w.heap.size w X := by rw [hX]; exact Below.set2 HB.out (Nat.le_succ _) _ _
      have HX := Lib.hid hXs
      have HKX := Lib.hid kX
      have HBX := Lib.hid hbX
      clear hX hXs kX hbX
      go_wp2_with fail
      refine bodyPost_ret (Try.resTk rfl _ _ rfl (blk_drew (blk_alloc HKX.out))) rfl ⟨some ⟨W0.heap.size, 0, none⟩, 0, ?_, ?_, ?_⟩
      · rw [HLZ.out]
      · rw [HNE.out, ← HX.out]
        exact World.ownsRow_made X #[] 0 (by rw [HX.out]; omega) (Nat.zero_le _) rfl
      · exact (HBX.out.alloc HBX.out.size _).drew
  · have hlp : 0 < ls.length := List.length_pos_iff.2 hne
    obtain ⟨sb, so, rfl, hsb, hsrc⟩ := HR.out.flat encL_len (by simpa using hne)
    have HS := Lib.hid (fun W (h : Below W0.heap.size W0 W) j u hj => below_at h hsb (hsrc j u hj))
    have hfl := flatL_len ls
    have HFL := Lib.hid hfl
    clear hsrc hne hfl
    go_enter Try.func10, Try.ntmps10
    go_wp2_with fail
    rw [← hW0]
    clear hW0
    obtain ⟨a0, af0, a1, af1⟩ := cv2 k0
    obtain ⟨r0, rf0, r1, rf1⟩ := cv2 k1
    have h0l := blk_lt k0
    have h1l := blk_lt k1
    clear k0 k1
    go_region_law (refine step_append_lies _ rfl (.tmp 5) (.tmp 7) 31 rfl W0.heap.size 76 _ zeroLay 2 16 Try.underlying31 hi hz0 hz1 hz2 rfl (by decide) (.slice (some ⟨W0.heap.size, 0, none⟩) 0 0) 0 [] (by simp [Act.eval]) (by exact World.ownsRow_made W0 #[] 0 (Nat.le_refl _) (Nat.zero_le _) rfl) ⟨sb, so, none⟩ ls.length c (ls.map encL).flatten (by simp [Act.eval]) HFL.out (by exact HS.out _ (by (repeat first | (with_reducible first | assumption | exact Below.refl _ _ | refine Bl.drew ?_ | refine Bl.drewN ?_ _ | refine Bl.alloc ?_ _ | refine Bl.set ?_ _ ?_) | (with_reducible apply Bl.step'; (focus (with_reducible assumption))) | omega | (focus (simp; done)) | (focus (simp; omega))))) (encL_one' ls) hlp (by unfold maxLen; omega) (by omega) (by simp) (W0.heap.size + 1) (by simp) ?_; (intro g7 cap7 w7 how7 hgr7 hgg7 hgl7); (have kn7 : w7.heap[w.heap.size]? = _ := (hgr7.block _ (by simp; omega) (fun e => absurd (Option.some.inj e) (Nat.ne_of_lt h0l))).trans (by exact blk_alloc HK0.out)); (have kt7 : w7.heap[w.heap.size + 1]? = _ := (hgr7.block _ (by simp; omega) (fun e => absurd (Option.some.inj e) (Nat.ne_of_lt h1l))).trans (by exact blk_alloc HK1.out)); (obtain ⟨z0, zf0, z1, zf1⟩ := cv2 kn7); (obtain ⟨y0, yf0, y1, yf1⟩ := cv2 kt7); (have hnl7 := blk_lt kn7); (have htl7 := blk_lt kt7); (have HKT7 := Lib.hid kt7); (have HOW7 := Lib.hid how7); (have HGR7 := Lib.hid hgr7); (have HGG7 := Lib.hid hgg7); clear kn7 kt7 how7 hgr7 hgg7)
    all_goals
      clear a0 af0 a1 af1 r0 rf0 r1 rf1 z0 zf0 z1 zf1 y0 yf0 y1 yf1
      have hb7 : Below w.heap.size w w7 := Below.grown ((HB.out.alloc HB.out.size _).drew) HGR7.out (by simp; omega) (fun j e => by simp [Value.ownBlock] at e; omega)
      have how : OwnL w7 W0.heap.size (some ⟨g7, 0, none⟩) cap7 ls := by have h := HOW7.out; rw [Nat.zero_add, List.nil_append] at h; exact h
      have HOW := Lib.hid (OwnL.mono (how.keep (grown_set2 w7 (w.heap.size + 1) (.int .i64 room) (.slice (some ⟨g7, 0, none⟩) ls.length cap7)) (fun a ha e => by have := (how.row).2.2 a ha; have h1 := Option.some.inj e; omega)) (Nat.le_of_lt h0l))
      have HB7 := Lib.hid (Below.set2 hb7 (Nat.le_succ _) (.int .i64 room) (.slice (some ⟨g7, 0, none⟩) ls.length cap7))
      clear hb7 how
      go_wp2_with fail
      exact bodyPost_ret (Try.resTk rfl _ _ rfl (set2_block HKT7.out)) rfl ⟨some ⟨g7, 0, none⟩, cap7, rfl, HOW.out, HB7.out⟩
end Go.Proofs.Ytgljpjcclncknaa

/- CheckDispatch. -/
import Derived.Test.YtgljpjcclncknaaGs2
namespace Go.Proofs.Ytgljpjcclncknaa
open Go.RowKit

theorem Try.resTl {fn : Func} {t e : Tmp} (h : fn.results = #[.cell t 48, .tmp e]) (tmps : Array Value) (w : World) {b : Nat} {T : TypeId} {v0 v1 v2 : Value} (ht : tmps.getD t undef = .pointer (some ⟨b, 0, none⟩)) (hb : w.heap[b]? = some (.cells #[v0, v1, v2] T (0, 0))) :
    (results fn tmps).run Try.prog w = .ok (.tuple #[.agg #[v0, v1, v2], tmps.getD e undef]) w := by
  have c0 : w.cell? ⟨b, 0, none⟩ = some v0 := by rw [cell_of_row w _ 0 _ _ _ hb]; rfl
  have c1 : w.cell? ⟨b, 1, none⟩ = some v1 := by rw [cell_of_row w _ 1 _ _ _ hb]; rfl
  have c2 : w.cell? ⟨b, 2, none⟩ = some v2 := by rw [cell_of_row w _ 2 _ _ _ hb]; rfl
  rw [Array.getD_eq_getD_getElem?] at ht
  simp only [results, h]
  simp [go_sem, ht, c0, c1, c2]
set_option maxRecDepth 100000 in
set_option maxHeartbeats 4000000 in
theorem CheckDispatch_c (p : Pla) (A C : Option Addr) (c c2 : Nat) (l : List Qt) (d : List Int) (w : World) (hp : okP p) (hl : l.length ≤ 8) (hld : d.length = l.length) (hq : ∀ q ∈ l, okQ q) (hm : mayQ (begG p) l d)
    (hr : QtR w w.heap.size A l) (hrd : IntsR w w.heap.size C d) :
    Calls Try.prog 14 #[plaV p, .slice A l.length c, .slice C l.length c2] w fun e w' => e = .returned (.tuple #[tlV (runQ (begG p) l d).t, .int .i64 0]) ∧ Below w.heap.size w w' := by
  obtain ⟨F, hF⟩ : ∃ F, F = runQ (begG p) l d := ⟨_, rfl⟩
  have HS := Lib.hid (fun W h1 h2 => hF ▸ stands_c p A C c c2 l d W hp hl hld hq hm h1 h2)
  have HRA := Lib.hid hr
  have HRC := Lib.hid hrd
  rw [← hF]
  clear hr hrd hF hm hq hld hp
  unfold plaV at HS ⊢
  go_enter Try.func14, Try.ntmps14
  go_wp2_with fail
  refine (HS.out _ (rw_to HRA.out (by (repeat first | (with_reducible first | assumption | exact Below.refl _ _ | refine Bl.drew ?_ | refine Bl.drewN ?_ _ | refine Bl.alloc ?_ _ | refine Bl.set ?_ _ ?_) | (with_reducible apply Bl.step'; (focus (with_reducible assumption))) | omega | (focus (simp; done)) | (focus (simp; omega))))) (rw_to HRC.out (by (repeat first | (with_reducible first | assumption | exact Below.refl _ _ | refine Bl.drew ?_ | refine Bl.drewN ?_ _ | refine Bl.alloc ?_ _ | refine Bl.set ?_ _ ?_) | (with_reducible apply Bl.step'; (focus (with_reducible assumption))) | omega | (focus (simp; done)) | (focus (simp; omega)))))).mono ?_
  rintro e w1 ⟨A2, cc, ss, rfl, hsl, hsk, hrw, hb1⟩
  obtain ⟨hsk1, hsk2⟩ := List.getElem?_eq_some_iff.1 hsk
  obtain ⟨b1, off, rfl, hbl, e0, e1, e2, e3, e4, e5⟩ := hrw.get6 (k := l.length) (by simpa using hsk1) (v0 := .int .i64 F.st) (v1 := .int .i64 F.lv) (v2 := .int .i64 F.mo) (v3 := .int .i64 F.t.inc) (v4 := .int .i64 F.t.lft) (v5 := .int .i64 F.t.spl) (by rw [List.getElem_map, hsk2]; rfl)
  have kt : w1.heap[w.heap.size + 1]? = some (.cells #[.int .i64 0, .int .i64 0, .int .i64 0] 48 (0, 0)) := blk_step hb1 (blk_new (by simp))
  obtain ⟨t0, tf0, t1, tf1, t2, tf2⟩ := cv3 kt
  have htl := blk_lt kt
  have HKT := Lib.hid kt
  have hbw : Below w.heap.size w w1 := by (repeat first | (with_reducible first | assumption | exact Below.refl _ _ | refine Bl.drew ?_ | refine Bl.drewN ?_ _ | refine Bl.alloc ?_ _ | refine Bl.set ?_ _ ?_) | (with_reducible apply Bl.step'; (focus (with_reducible assumption))) | omega | (focus (simp; done)) | (focus (simp; omega)))
  have HBW := Lib.hid hbw
  have hwr : IntKind.i64.wrap ((l.length : Int) + 1 - 1) = (l.length : Int) := (IntWalk.i64_in _ (by omega)).trans (by omega)
  clear hrw hsk hsk1 hsk2 hsl kt hb1 hbw
  go_wp2_with fail
  refine bodyPost_ret (Try.resTl rfl _ _ rfl (heap_setCell_same _ _ 2 _ _ (.int .i64 F.t.spl) (heap_setCell_same _ _ 1 _ _ (.int .i64 F.t.lft) (heap_setCell_same _ _ 0 _ _ (.int .i64 F.t.inc) HKT.out)))) rfl ⟨rfl, Below.set3 HBW.out (by omega) _ _ _⟩
end Go.Proofs.Ytgljpjcclncknaa

/- TopThistleSold returns true. -/
import Derived.Test.YtgljpjcclncknaaSd13y
import Derived.Test.YtgljpjcclncknaaSd13n
import Derived.Test.YtgljpjcclncknaaSd30
import Derived.Test.YtgljpjcclncknaaSdP
namespace Go.Proofs.Ytgljpjcclncknaa
open Go.RowKit

theorem OwnL.alloc' {w : World} {base c : Nat} {A : Option Addr} {ys : List Lay} (h : OwnL w base A c ys) (o : Obj) : OwnL (w.alloc o) base A c ys := h.below ((Below.refl _ _).alloc (Nat.le_refl _) _)
theorem own_other {T T' : TypeId} {sz base n g : Nat} {w w' : World} {v : Value} {l : List Value} {cs : Array Value} {y : Nat × Nat} (h : w.ownsRow base T sz v n l) (hg : w.grownBy w' (some g)) (ho : w.heap[g]? = some (.cells cs T' y)) (hT : T' ≠ T) : w'.ownsRow base T sz v n l :=
  World.ownsRow.kept h hg (by
    rcases h.2 with ⟨rfl, _⟩ | ⟨k, cap, cur, rfl, _, hk, _⟩
    · exact .inl rfl
    · refine .inr fun e => ?_
      have e2 : k = g := by simpa [Value.ownBlock] using e
      rw [e2, ho] at hk
      cases hk
      exact hT rfl)
theorem own_blkT {T T' : TypeId} {sz base n g : Nat} {w w' : World} {u : Value} {l : List Value} {cs : Array Value} {y : Nat × Nat} (hu : w.ownsRow base T' sz u n l) (hg : w.grownBy w' u.ownBlock) (ho : w.heap[g]? = some (.cells cs T y)) (hT : T ≠ T') : w'.heap[g]? = some (.cells cs T y) :=
  (hg.block g (blk_lt ho) (fun e => by
    rcases hu.2 with ⟨rfl, _⟩ | ⟨k, cap, cur, rfl, _, hk, _⟩
    · cases e
    · have e2 : k = g := by simpa [Value.ownBlock] using e.symm
      rw [e2, ho] at hk
      cases hk
      exact hT rfl)).trans ho
theorem own_own {T T' : TypeId} {sz sz' base base' n n' : Nat} {w w' : World} {u v : Value} {l l' : List Value} (h : w.ownsRow base T sz v n l) (hu : w.ownsRow base' T' sz' u n' l') (hg : w.grownBy w' u.ownBlock) (hT : T ≠ T') : w'.ownsRow base T sz v n l := by
  rcases hv : v.ownBlock with _ | k
  · exact World.ownsRow.kept h hg (.inl hv)
  · rcases hub : u.ownBlock with _ | j
    · rw [hub] at hg; exact World.ownsRow.kept h hg (.inr (by rw [hv]; simp))
    · rcases hu.2 with ⟨rfl, _⟩ | ⟨k', cap, cur, rfl, _, hk, _⟩
      · cases hub
      · have e2 : k' = j := by simpa [Value.ownBlock] using hub
        rw [hub] at hg
        rw [e2] at hk
        exact own_other h hg hk (Ne.symm hT)
theorem Try.infoRQ : (Try.prog.info? 43).map (fun i => (i.zero, i.size, i.bytes)) = some (some (.agg #[.int .i64 0, .int .i64 0]), 2, 16) := by kernel_rfl
/-- What holds before the quarter hour k. -/
structure SoI (w : World) (tb : Nat) (room : Int) (p : Pla) (ls : List Lay) (k : Nat) (cur : List Lay) (AT : Option Addr) (cT : Nat) (qs : List Qt) (D R : Int) (qv : Value) (wr : World) : Prop where
  tank : okT room cur
  sum : sumH ls = sumH cur + D
  eq : D = 1000 * sumQ qs + R
  d0 : 0 ≤ D
  len : qs.length = k
  qok : ∀ q ∈ qs, okQ q
  own : OwnR 43 2 wr w.heap.size qv (qs.map encQ)
  tb : wr.heap[tb]? = some (.cells #[.int .i64 room, .slice AT cur.length cT] 33 (0, 0))
  lay : OwnL wr 0 AT cT cur
  pb : wr.heap[w.heap.size + 1]? = some (.cells #[.int .i64 p.st, .int .i64 p.lv, .int .i64 p.mo] 26 (0, 0))
  low : Below w.heap.size w wr
theorem SoI.next {w : World} {tb : Nat} {room : Int} {p : Pla} {ls : List Lay} {k : Nat} {cur : List Lay} {AT : Option Addr} {cT : Nat} {qs : List Qt} {D R : Int} {qv : Value} {wr w' : World} (h : SoI w tb room p ls k cur AT cT qs D R qv wr) (hb : Below wr.heap.size wr w') : SoI w tb room p ls k cur AT cT qs D R qv w' :=
  ⟨h.tank, h.sum, h.eq, h.d0, h.len, h.qok, h.own.below hb, blk_step hb h.tb, h.lay.below hb, blk_step hb h.pb, h.low.trans (hb.mono h.low.size)⟩
def encU (x : Int × Int) : List Value := [.int .u16 x.1, .int .u16 x.2]
set_option maxRecDepth 100000 in
set_option maxHeartbeats 16000000 in
theorem Sold_c (room : Int) (A : Option Addr) (c : Nat) (ls : List Lay) (p : Pla) (B : Option Addr) (c2 : Nat) (xs : List (Int × Int)) (w : World) (hr : Rw w w.heap.size 2 A (ls.map encL)) (hx : Rw w w.heap.size 2 B (xs.map encU))
    (hxb : ∀ x ∈ xs, (0 ≤ x.1 ∧ x.1 ≤ 65535) ∧ 0 ≤ x.2 ∧ x.2 ≤ 65535) :
    Calls Try.prog 3 #[.agg #[.int .i64 room, .slice A ls.length c], plaV p, .slice B xs.length c2] w (RetSl w) := by
  have HR := Lib.hid hr
  have HX := Lib.hid hx
  have HXB := Lib.hid hxb
  obtain ⟨i0, hi, hz0, hz1, hz2⟩ := info_parts Try.infoRQ
  obtain ⟨W0, hW0⟩ : ∃ W0, W0 = (w.alloc (.cells #[.int .i64 room, .slice A ls.length c] 24)).alloc (.cells #[.int .i64 p.st, .int .i64 p.lv, .int .i64 p.mo] 26) := ⟨_, rfl⟩
  have hb0 : Below w.heap.size w W0 := by rw [hW0]; (repeat first | (with_reducible first | assumption | exact Below.refl _ _ | refine Bl.drew ?_ | refine Bl.drewN ?_ _ | refine Bl.alloc ?_ _ | refine Bl.set ?_ _ ?_) | (with_reducible apply Bl.step'; (focus (with_reducible assumption))) | omega | (focus (simp; done)) | (focus (simp; omega)))
  have kt0 : W0.heap[w.heap.size]? = some (.cells #[.int .i64 room, .slice A ls.length c] 24 (0, 0)) := by rw [hW0]; exact blk_alloc (blk_new rfl)
  have kp0 : W0.heap[w.heap.size + 1]? = some (.cells #[.int .i64 p.st, .int .i64 p.lv, .int .i64 p.mo] 26 (0, 0)) := by rw [hW0]; exact blk_new (by simp)
  have HCO := Lib.hid (fun (W : World) => rCheckOffers_c p W)
  unfold plaV at HCO ⊢
  clear hr hx hxb
  go_enter Try.func3, Try.ntmps3
  go_wp2_with fail
  rw [← hW0]
  clear hW0
  refine (thistleSale_c W0).mono ?_
  rintro e w1 ⟨rfl, hb1⟩
  have kt1 := blk_step hb1 kt0
  have kp1 := blk_step hb1 kp0
  have hbw1 : Below w.heap.size w w1 := hb0.trans (hb1.mono hb0.size)
  clear kt0 kp0 hb0 hb1
  obtain ⟨t0, tf0, t1, tf1⟩ := cv2 kt1
  have ytl := blk_lt kt1
  go_wp2_with fail
  refine (rCheckTank_c room A c ls w1 (rw_to HR.out hbw1)).mono ?_
  rintro e w2 ⟨nT, rfl, hT, hb2⟩
  have kt2 := blk_step hb2 kt1
  have kp2 := blk_step hb2 kp1
  have hbw2 : Below w.heap.size w w2 := hbw1.trans (hb2.mono hbw1.size)
  clear kt1 kp1 hbw1 hb2 t0 tf0 t1 tf1 ytl
  have HBW2 := Lib.hid hbw2
  by_cases hnT : nT = 0
  · have HT := Lib.hid (hT hnT)
    have hnT2 : (nT != 0) = false := by simp [hnT]
    clear hT hnT hbw2
    obtain ⟨p0, pf0, p1, pf1, p2, pf2⟩ := cv3 kp2
    have ypl := blk_lt kp2
    go_wp2_with fail
    refine (HCO.out w2).mono ?_
    rintro e w3 ⟨nP, rfl, hP, hb3⟩
    have kt3 := blk_step hb3 kt2
    have kp3 := blk_step hb3 kp2
    have HBW3 := Lib.hid (HBW2.out.trans (hb3.mono HBW2.out.size))
    clear kt2 kp2 hb3 p0 pf0 p1 pf1 p2 pf2 ypl
    by_cases hnP : nP = 0
    · have HP := Lib.hid (hP hnP)
      have hnP2 : (nP != 0) = false := by simp [hnP]
      clear hP hnP
      by_cases hl : 6 < xs.length
      · have hl2 : decide (6 < (xs.length : Int)) = true := decide_eq_true (by omega)
        go_wp2_with fail
        refine (thistleSale_c w3).mono ?_
        rintro e w4 ⟨rfl, hb4⟩
        go_wp2_with fail
        go_ret
        exact ⟨rfl, HBW3.out.trans (hb4.mono HBW3.out.size)⟩
      · have hl2 : decide (6 < (xs.length : Int)) = false := decide_eq_false (by omega)
        obtain ⟨t0, tf0, t1, tf1⟩ := cv2 kt3
        have ytl := blk_lt kt3
        have hTl := HT.out.len
        go_wp2_with fail
        refine (thistleTank_c room A c ls w3 (by omega) (rw_to HR.out HBW3.out)).mono ?_
        rintro e w4 ⟨A4, c4, rfl, ho4, hb4⟩
        have kp4 := blk_step hb4 kp3
        have HBW4 := Lib.hid (HBW3.out.trans (hb4.mono HBW3.out.size))
        have HO4 := Lib.hid ho4
        have hpl4 := blk_lt kp4
        have HL2 := Lib.hid hl2
        clear kt3 kp3 hb4 ho4 t0 tf0 t1 tf1 ytl hl2 hnT2 hnP2
        have hTE := Lib.hid (fun (A : Option Addr) (c : Nat) (W : World) (h : Rw W W.heap.size 2 A (ls.map encL)) => Enthalpy_c room A c ls W HT.out h)
        go_wp2_with fail
        refine (thistleOwn_c room A4 c4 ls _ (by omega) (rw_to HO4.out.row.1 (by (repeat first | (with_reducible first | assumption | exact Below.refl _ _ | refine Bl.drew ?_ | refine Bl.drewN ?_ _ | refine Bl.alloc ?_ _ | refine Bl.set ?_ _ ?_) | (with_reducible apply Bl.step'; (focus (with_reducible assumption))) | omega | (focus (simp; done)) | (focus (simp; omega)))))).mono ?_
        rintro e w5 ⟨A5, c5, rfl, ho5, hb5⟩
        have kT5 : w5.heap[w4.heap.size]? = some (.cells #[.int .i64 room, .slice A4 ls.length c4] 33 (0, 0)) := blk_step hb5 (blk_new rfl)
        have hO5 : OwnL w5 w3.heap.size A4 c4 ls := (HO4.out.alloc' _).below hb5
        have kp5 := blk_step hb5 (blk_alloc kp4)
        have HBW5 := Lib.hid ((HBW4.out.alloc HBW4.out.size _).trans (hb5.mono (by simp; exact Nat.le_succ_of_le HBW4.out.size)))
        have HO5 := Lib.hid hO5
        have HQ5 := Lib.hid ho5
        clear kp4 hb5 hO5 ho5
        go_wp2_with fail
        refine (hTE.out A5 c5 w5 HQ5.out.row.1).mono ?_
        rintro e w6 ⟨rfl, hb6⟩
        have kT6 := blk_step hb6 kT5
        have kp6 := blk_step hb6 kp5
        have hO6 := HO5.out.below hb6
        have HBW6 := Lib.hid (HBW5.out.trans (hb6.mono HBW5.out.size))
        have hs4 := HBW4.out.size
        have hs3 := HBW3.out.size
        have hs6 := HBW6.out.size
        have HI0 := Lib.hid (show SoI w w4.heap.size room p ls 0 ls A4 c4 [] 0 0 (.slice none 0 0) w6 from ⟨HT.out, by omega, by simp [sumQ], Int.le_refl _, rfl, (fun q h => (by cases h)), OwnR.nil_, kT6, hO6.mono (Nat.zero_le _), kp6, HBW6.out⟩)
        obtain ⟨tb, htb⟩ : ∃ tb, tb = w4.heap.size := ⟨_, rfl⟩
        rw [← htb] at HI0 hpl4 ⊢
        clear kT5 kp5 hb6 hTE HBW3 HBW4 HBW5 HO4 HO5 HQ5 kT6 kp6 hO6 htb HBW6 HBW2
        go_wp2_with fail
        go_loopw [10, 11, 12, 62] (fun qv dv rv i wr => ∃ (k : Nat) (cur : List Lay) (AT : Option Addr) (cT : Nat) (qs : List Qt) (D R : Int), k ≤ xs.length ∧ i = .int .i64 k ∧ dv = .int .i64 D ∧ rv = .int .i64 R ∧ SoI w tb room p ls k cur AT cT qs D R qv wr) (fun _ _ _ i _ => xs.length - (intOf i).toNat)
        case atStart => exact ⟨0, ls, A4, c4, [], 0, 0, Nat.zero_le _, rfl, rfl, rfl, HI0.out⟩
        case round =>
          obtain ⟨k, cur, AT, cT, qs, D, R, hk, rfl, rfl, rfl, hI⟩ := hrel
          have HI := Lib.hid hI
          clear hI
          by_cases hlt : k < xs.length
          · obtain ⟨b, off, hB, hbl, c0, c1⟩ := (rw_to HX.out HI.out.low).get2 (k := k) (by simpa using hlt) (by rw [List.getElem_map]; rfl)
            obtain ⟨x, hx⟩ : ∃ x, x = xs[k] := ⟨_, rfl⟩
            obtain ⟨⟨x00, x01⟩, x10, x11⟩ := HXB.out _ (List.getElem_mem hlt)
            rw [← hx] at c0 c1 x00 x01 x10 x11
            obtain ⟨x0, x1⟩ := x
            have hkd : decide ((k : Int) < (xs.length : Int)) = true := decide_eq_true (by omega)
            have hw0 : IntKind.i64.wrap x0 = x0 := IntWalk.i64_in _ (by omega)
            clear hx
            rw [hB]
            go_upto_region 13 with fail
            obtain ⟨pb, hpb⟩ : ∃ pb, pb = wr.heap.size := ⟨_, rfl⟩
            obtain ⟨qb, hqb⟩ : ∃ qb, qb = wr.heap.size + 1 := ⟨_, rfl⟩
            obtain ⟨X, hX⟩ : ∃ X, X = (wr.alloc (.cells #[.int .u16 x0, .int .u16 x1] 41)).alloc (.cells #[.int .i64 (x0 % 2001 - 1000), .int .i64 0] 43) := ⟨_, rfl⟩
            have hIX := HI.out.next (show Below wr.heap.size wr X by rw [hX]; (repeat first | (with_reducible first | assumption | exact Below.refl _ _ | refine Bl.drew ?_ | refine Bl.drewN ?_ _ | refine Bl.alloc ?_ _ | refine Bl.set ?_ _ ?_) | (with_reducible apply Bl.step'; (focus (with_reducible assumption))) | omega | (focus (simp; done)) | (focus (simp; omega))))
            have kpX : X.heap[pb]? = some (.cells #[.int .u16 x0, .int .u16 x1] 41 (0, 0)) := by rw [hX]; exact blk_alloc (blk_new hpb)
            have kqX : X.heap[qb]? = some (.cells #[.int .i64 (x0 % 2001 - 1000), .int .i64 0] 43 (0, 0)) := by rw [hX]; exact blk_new (by simp; exact hqb)
            have htw := blk_lt HI.out.tb
            have hqt : tb ≠ qb := by omega
            have hqo : u10.ownBlock ≠ some qb := fun e => by have := (World.ownsRow.lt HI.out.own _ e).2; omega
            have hpw : w.heap.size + 1 < qb := by have := blk_lt HI.out.pb; omega
            have hwq : w.heap.size ≤ qb := by omega
            have HQO := Lib.hid hqo
            have HTB := Lib.hid (show w.heap.size + 1 < tb by omega)
            rw [← hX, ← hqb, ← hpb]
            have HIX := Lib.hid hIX
            have HQX := Lib.hid kqX
            have htX := blk_lt hIX.tb
            have hqX := blk_lt kqX
            clear hX hIX hpb hqb htw kqX c0 c1 hqo
            by_cases hm : 1 + x1 ≤ sumA cur
            · refine sd_r13y X room AT cT tb pb cur x0 x1 HIX.out.tank HIX.out.lay.row.1 HIX.out.tb kpX x10 x11 hm _ _ _ _ _ _ _ _ _ _ _ _ _ _ _ _ _ _ _ _ _ _ _ _ _ _ _ _ _ _ _ _ _ _ _ _ _ _ _ _ _ _ _ _ _ _ _ _ _ _ _ _ _ _ _ _ _ _ _ _ _ _ _ _ _ _ _ _ _ _ _ _ _ _ _ _ _ _ _ _ _ _ _ _ _ _ _ _ _ _ _ _ _ _ _ _ _ _ _ _ _ _ _ _ _ _ _ _ _ _ _ _ _ _ _ _ _ _ _ _ _ _ _ _ _ _ _ _ _ _ _ _ _ _ _ _ _ _ _ _ _ _ _ _ _ _ _ _ _ _ _ _ _ _ _ _ _ _ _ _ _ _ _ _ _ _ _ _ _ _ _ _ _ _ _ _ _ _ _ _ _ _ _ _ _ _ _ _ _ _ _ _ _ _ _ _ _ _ _ _ _ _ _ _ _ _ _ _ _ _ _ _ _ _ _ _ _ _ _ _ _ _ _ _ _ _ _ ?_
              intro v73 v74 v75 v76 v77 v78 v79 v80 v81 v82 v83 v72 v84 v85 v86 wx rb hN
              dsimp only
              have HN := Lib.hid hN
              obtain ⟨hD1, hD2, hD3, hD4⟩ := drawT_ok (m := 1 + x1) (x0.tmod 2 == 0) HIX.out.tank (by omega)
              obtain ⟨N, hNN⟩ : ∃ N, N = drawH cur (1 + x1) (x0.tmod 2 == 0) := ⟨_, rfl⟩
              obtain ⟨DT, hDT⟩ : ∃ DT, DT = drawT cur (1 + x1) (x0.tmod 2 == 0) := ⟨_, rfl⟩
              rw [← hNN] at hD2 hD3 hD4 ⊢
              rw [← hDT] at HN hD1 hD2
              have hIx := HIX.out.next (w' := wx) HN.out.low
              obtain ⟨A2, cc2, kr, hor⟩ := HN.out.ex
              have hlo := HN.out.lo
              have kq := blk_step HN.out.low HQX.out
              have kt := hIx.tb
              have htx := blk_lt kt
              have hqx := blk_lt kq
              have hrx := blk_lt kr
              have hrt : tb ≠ rb := by omega
              have hrq : qb ≠ rb := by omega
              obtain ⟨t0, tf0, t1, tf1⟩ := cv2 kt
              obtain ⟨q0, qf0, q1, qf1⟩ := cv2 kq
              obtain ⟨r0, rf0, r1, rf1⟩ := cv2 kr
              have HIx := Lib.hid hIx
              have HOR := Lib.hid hor
              have HD1 := Lib.hid hD1
              have HD2 := Lib.hid hD2
              have HKT := Lib.hid kt
              have HKQ := Lib.hid kq
              have hS := HIX.out.sum
              have hS1 := HIX.out.d0
              have hS2 := HT.out.h
              have hS3 : D + N ≤ 1000000000 := by have h1 := (sum_nonneg fun y hy => (HD1.out.each y hy).nn).2; omega
              have HS := Lib.hid hS
              have hQb := sumQ_bd qs HIX.out.qok
              have hql : qs.length ≤ 6 := by rw [HIX.out.len]; omega
              have hEq := HIX.out.eq
              obtain ⟨Q, hQ⟩ : ∃ Q, Q = sumQ qs := ⟨_, rfl⟩
              rw [← hQ] at hQb hEq
              have HEQ := Lib.hid hEq
              have hR0 : -1000000 ≤ R := by omega
              have hR1 : R ≤ 1000000000 := by omega
              obtain ⟨H, hH⟩ : ∃ H, min 30 (N / 1000) = H := ⟨_, rfl⟩
              have hH0 : 0 ≤ H := by omega
              have hH1 : H ≤ 30 := by omega
              have HQQ := Lib.hid hQ
              clear hNN hDT hN hD1 hD2 kt kq kr hor hIx hS hEq hQ
              go_upto_region 22 with fail
              obtain ⟨Y1, hY1⟩ : ∃ Y1, Y1 = (wx.setCell ⟨tb, 0, none⟩ (.int .i64 room)).setCell ⟨tb, 1, none⟩ (.slice A2 DT.length cc2) := ⟨_, rfl⟩
              obtain ⟨Y, hY⟩ : ∃ Y, Y = Y1.setCell ⟨qb, 1, none⟩ (.int .i64 H) := ⟨_, rfl⟩
              have hg1 : wx.grownBy Y1 (some tb) := by rw [hY1]; exact grown_set2 _ _ _ _
              have hg2 : Y1.grownBy Y (some qb) := by rw [hY]; exact grown_set1 _ _ _ _
              have ktY1 : Y1.heap[tb]? = some (.cells #[.int .i64 room, .slice A2 DT.length cc2] 33 (0, 0)) := by rw [hY1]; exact set2_block HKT.out
              have kqY1 := (hg1.block qb hqx (fun e => by have := Option.some.inj e; omega)).trans HKQ.out
              have hb1 : Below w.heap.size wx Y1 := by rw [hY1]; exact Below.set2 (Below.refl _ _) (by have := HTB.out; omega) _ _
              have hb2 : Below w.heap.size wx Y := by rw [hY]; exact hb1.setCell (by show w.heap.size ≤ qb; exact hwq) _
              have ktY := (hg2.block tb (blk_lt ktY1) (fun e => by have := Option.some.inj e; omega)).trans ktY1
              have kqY : Y.heap[qb]? = some (.cells #[.int .i64 (x0 % 2001 - 1000), .int .i64 H] 43 (0, 0)) := by rw [hY]; exact heap_setCell_same _ _ 1 _ _ _ kqY1
              have kpY := (hg2.block _ (blk_lt ((hg1.block _ (blk_lt HIx.out.pb) (fun e => by have := Option.some.inj e; have := HTB.out; omega)).trans HIx.out.pb)) (fun e => by have := Option.some.inj e; omega)).trans ((hg1.block _ (blk_lt HIx.out.pb) (fun e => by have := Option.some.inj e; have := HTB.out; omega)).trans HIx.out.pb)
              have hoY : OwnR 43 2 Y w.heap.size u10 (qs.map encQ) := World.ownsRow.kept (own_other HIx.out.own hg1 HKT.out (by decide)) hg2 (.inr HQO.out)
              have hlY : OwnL Y 0 A2 cc2 DT := own_other (own_other (OwnL.mono HOR.out (Nat.zero_le _)) hg1 HKT.out (by decide)) hg2 kqY1 (by decide)
              have hYl : Below w.heap.size w Y := HIx.out.low.trans hb2
              rw [← hY1, ← hY]
              obtain ⟨L, hL⟩ : ∃ L, L = qs.map encQ := ⟨_, rfl⟩
              have hLl : L.length = k := by rw [hL, List.length_map, HIX.out.len]
              rw [← hL] at hoY
              have HL := Lib.hid hL
              have HLL := Lib.hid hLl
              obtain ⟨y0, yf0, y1, yf1⟩ := cv2 kqY
              have hqY := blk_lt kqY
              have hLb : L.length ≤ 6 := by omega
              have HTY := Lib.hid ktY
              have HPY := Lib.hid kpY
              have HLY := Lib.hid hlY
              have HYL := Lib.hid hYl
              have HOY := Lib.hid hoY
              have hys := hYl.size
              clear hY1 hY hg1 hg2 ktY1 kqY1 hb1 hb2 ktY kqY kpY hlY hYl hL hLl t0 tf0 t1 tf1 q0 qf0 q1 qf1 r0 rf0 r1 rf1
              go_wp2_with (at_builtin; refine wpList_append_own _ rfl _ _ 39 rfl w.heap.size 43 i0 (.agg #[.int .i64 0, .int .i64 0]) 2 16 Try.underlying39 hi hz0 hz1 hz2 rfl (by decide) _ _ _ rfl (OwnR.alloc hoY _) ⟨Y.heap.size, 0, none⟩ 1 1 (encS (x0 % 2001 - 1000, H)) rfl rfl ?c1 ?c2 ?c3 ?c4 ?c5 ?_)
              case c1 => exact fun j u h => h
              case c2 => exact encS_one _
              case c3 => unfold maxLen; omega
              case c4 => omega
              case c5 => (try simp); omega
              intro v' w9 hown' hgrow _
              have hoZ := OwnR.alloc HOY.out (.cells #[.int .i64 (x0 % 2001 - 1000), .int .i64 H] 43)
              have hw9 : Below w.heap.size w w9 := Below.grown (HYL.out.alloc HYL.out.size _) hgrow (by simp; omega) (fun j e => (World.ownsRow.lt hoZ j e).1)
              have kt9 := own_blkT hoZ hgrow (blk_alloc HTY.out) (by decide)
              have kp9 := own_blkT hoZ hgrow (blk_alloc HPY.out) (by decide)
              have hl9 : OwnL w9 0 A2 cc2 DT := own_own (HLY.out.alloc' _) hoZ hgrow (by decide)
              have HR9 := Lib.hid (show SoI w tb room p ls (k + 1) DT A2 cc2 (qs ++ [⟨x0 % 2001 - 1000, H⟩]) (D + N) (R + (N - 1000 * H)) v' w9 from ⟨HD1.out, by have := HS.out; have := HD2.out; omega, by rw [sumQ_snoc, ← HQQ.out]; have := HEQ.out; (try simp only); omega, by omega, by simp [HIX.out.len], by
                  intro q hq
                  rcases List.mem_append.1 hq with hq | hq
                  · exact HIX.out.qok q hq
                  · simp only [List.mem_singleton] at hq
                    subst hq
                    refine ⟨?_, ?_, hH0, hH1⟩ <;> ((try simp only); omega), by rw [List.map_append, ← HL.out]; exact OwnR.app hown', kt9, hl9, kp9, hw9⟩)
              clear hw9 kt9 kp9 hl9 hoZ hgrow hown'
              go_wp2_with fail
              go_roundw
              case rel => exact ⟨k + 1, DT, A2, cc2, _, _, _, hlt, by go_num, rfl, rfl, HR9.out⟩
              case measure => simp [intOf]; omega
            · refine sd_r13n X room AT cT tb pb cur x0 x1 HIX.out.tank HIX.out.lay.row.1 HIX.out.tb kpX x10 x11 (by omega) _ _ _ _ _ _ _ _ _ _ _ _ _ _ _ _ _ _ _ _ _ _ _ _ _ _ _ _ _ _ _ _ _ _ _ _ _ _ _ _ _ _ _ _ _ _ _ _ _ _ _ _ _ _ _ _ _ _ _ _ _ _ _ _ _ _ _ _ _ _ _ _ _ _ _ _ _ _ _ _ _ _ _ _ _ _ _ _ _ _ _ _ _ _ _ _ _ _ _ _ _ _ _ _ _ _ _ _ _ _ _ _ _ _ _ _ _ _ _ _ _ _ _ _ _ _ _ _ _ _ _ _ _ _ _ _ _ _ _ _ _ _ _ _ _ _ _ _ _ _ _ _ _ _ _ _ _ _ _ _ _ _ _ _ _ _ _ _ _ _ _ _ _ _ _ _ _ _ _ _ _ _ _ _ _ _ _ _ _ _ _ _ _ _ _ _ _ _ _ _ _ _ _ _ _ _ _ _ _ _ _ _ _ _ _ _ _ _ _ _ _ _ _ _ _ _ _ ?_
              intro v73 v74 v75 v76 v77 v78 v79 v80 v81 v82 v83 v72 v84 v85 v86 v16 wx hbx
              dsimp only
              have hIx := HIX.out.next (w' := wx) hbx
              have kq := blk_step hbx HQX.out
              have hqx := blk_lt kq
              have HIx := Lib.hid hIx
              obtain ⟨y0, yf0, y1, yf1⟩ := cv2 kq
              have hoY := hIx.own
              obtain ⟨L, hL⟩ : ∃ L, L = qs.map encQ := ⟨_, rfl⟩
              have hLl : L.length = k := by rw [hL, List.length_map, HIX.out.len]
              rw [← hL] at hoY
              have HL := Lib.hid hL
              have HOY := Lib.hid hoY
              have HLL := Lib.hid hLl
              have hLb : L.length ≤ 6 := by omega
              have hys := hIx.low.size
              clear hIx hbx kq hL hLl
              go_wp2_with (at_builtin; refine wpList_append_own _ rfl _ _ 39 rfl w.heap.size 43 i0 (.agg #[.int .i64 0, .int .i64 0]) 2 16 Try.underlying39 hi hz0 hz1 hz2 rfl (by decide) _ _ _ rfl (OwnR.alloc hoY _) ⟨wx.heap.size, 0, none⟩ 1 1 (encS (x0 % 2001 - 1000, 0)) rfl rfl ?d1 ?d2 ?d3 ?d4 ?d5 ?_)
              case d1 => exact fun j u h => h
              case d2 => exact encS_one _
              case d3 => unfold maxLen; omega
              case d4 => omega
              case d5 => (try simp); omega
              intro v' w9 hown' hgrow _
              have hoZ := OwnR.alloc HOY.out (.cells #[.int .i64 (x0 % 2001 - 1000), .int .i64 0] 43)
              have hw9 : Below w.heap.size w w9 := Below.grown (HIx.out.low.alloc HIx.out.low.size _) hgrow (by simp; omega) (fun j e => (World.ownsRow.lt hoZ j e).1)
              have kt9 := own_blkT hoZ hgrow (blk_alloc HIx.out.tb) (by decide)
              have kp9 := own_blkT hoZ hgrow (blk_alloc HIx.out.pb) (by decide)
              have hl9 : OwnL w9 0 AT cT cur := own_own (HIx.out.lay.alloc' _) hoZ hgrow (by decide)
              have HR9 := Lib.hid (show SoI w tb room p ls (k + 1) cur AT cT (qs ++ [⟨x0 % 2001 - 1000, 0⟩]) D R v' w9 from ⟨HIx.out.tank, HIx.out.sum, by rw [sumQ_snoc]; have := HIx.out.eq; (try simp only); omega, HIx.out.d0, by simp [HIx.out.len], by
                  intro q hq
                  rcases List.mem_append.1 hq with hq | hq
                  · exact HIx.out.qok q hq
                  · simp only [List.mem_singleton] at hq
                    subst hq
                    refine ⟨?_, ?_, ?_, ?_⟩ <;> ((try simp only); omega), by rw [List.map_append, ← HL.out]; exact OwnR.app hown', kt9, hl9, kp9, hw9⟩)
              clear hw9 kt9 kp9 hl9 hoZ hgrow hown'
              go_wp2_with fail
              go_roundw
              case rel => exact ⟨k + 1, cur, AT, cT, _, _, _, hlt, by go_num, rfl, rfl, HR9.out⟩
              case measure => simp [intOf]; omega
          · obtain rfl : k = xs.length := by omega
            obtain ⟨QA, qc, hQA, _, hqr⟩ := HI.out.own.rw_ encQ_len
            rw [List.length_map] at hQA
            subst hQA
            have HQR := Lib.hid hqr
            have hql : qs.length = xs.length := HI.out.len
            have hql6 : qs.length ≤ 6 := by omega
            have HQL := Lib.hid hql
            obtain ⟨t0, tf0, t1, tf1⟩ := cv2 HI.out.tb
            have htl := blk_lt HI.out.tb
            have hcl := HI.out.tank.len
            have hS2 := HT.out.h
            have hS3 := HI.out.sum
            have hS4 := HI.out.d0
            have hS5 := (sum_nonneg fun y hy => (HI.out.tank.each y hy).nn).2
            have hne : (sumH ls != sumH cur + D) = false := by rw [hS3]; simp
            have hSw : sumH cur + D ≤ 1000000000 := by omega
            have HS3 := Lib.hid hS3
            have HTE := Lib.hid (fun (A : Option Addr) (c : Nat) (W : World) (h : Rw W W.heap.size 2 A (cur.map encL)) => Enthalpy_c room A c cur W HI.out.tank h)
            clear hS3 hqr hql
            go_wp2_with fail
            refine (thistleOwn_c room AT cT cur wr (by omega) HI.out.lay.row.1).mono ?_
            rintro e wa ⟨Aa, ca, rfl, hoa, hba⟩
            have HIa := Lib.hid (HI.out.next hba)
            have HQa := Lib.hid (rw_to HQR.out hba)
            clear t0 tf0 t1 tf1 htl
            go_wp2_with fail
            refine (HTE.out Aa ca wa hoa.row.1).mono ?_
            rintro e wb ⟨rfl, hbb⟩
            have HIb := Lib.hid (HIa.out.next hbb)
            have HQb := Lib.hid (rw_to HQa.out hbb)
            clear hoa hba hbb HIa HQa
            go_upto_region 27 with fail
            have hqok := HIb.out.qok
            obtain ⟨s0, s1, l0, l1, m0, m1⟩ := HP.out
            obtain ⟨hfl, hfm, hft⟩ := fromG_ok p.st p.mo s0 m0 qs hqok p.lv l0 l1
            refine sd_r27 wb p QA qc (w.heap.size + 1) qs HP.out (by omega) hqok HQb.out HIb.out.pb _ _ _ _ _ _ _ _ _ _ _ _ _ _ _ _ _ _ _ _ _ _ _ _ _ _ _ _ _ _ _ _ _ _ _ _ _ _ _ _ _ _ _ _ _ _ _ _ _ _ _ _ _ _ _ _ _ _ _ _ _ _ _ _ _ _ _ _ _ _ _ _ _ _ _ _ _ _ _ _ _ _ _ _ _ _ _ _ _ _ _ _ _ _ _ _ _ _ _ _ _ _ _ _ _ _ _ _ _ _ _ _ _ _ _ _ _ _ _ _ _ _ _ _ _ _ _ _ _ _ _ _ _ _ _ _ _ _ _ _ _ _ _ _ _ _ _ _ _ _ _ _ _ _ _ _ _ _ _ _ _ _ _ _ _ _ _ _ _ _ _ _ _ _ _ _ _ _ _ _ _ _ _ _ _ _ _ _ _ _ _ _ _ _ _ _ _ _ _ _ _ _ _ _ _ _ _ _ _ _ _ _ _ _ _ _ _ _ _ _ _ _ _ _ _ _ _ ?_
            intro v133 v134 v135 v136 v132 v137 v138 v139 v21 wc rb hN1 hO1
            dsimp only
            obtain ⟨us, hus⟩ : ∃ us, us = (fromG p.st p.mo qs p.lv).u := ⟨_, rfl⟩
            obtain ⟨tt, htt⟩ : ∃ tt, tt = (fromG p.st p.mo qs p.lv).t := ⟨_, rfl⟩
            rw [← hus] at hfl hfm hft hO1
            rw [← htt] at hft hN1
            have HTT := Lib.hid htt
            obtain ⟨DA, dc, rfl, _, hir⟩ := hO1.rw_
            rw [hfl]
            have HN1 := Lib.hid hN1
            have HIc := Lib.hid (HIb.out.next hN1.low)
            have HQc := Lib.hid (rw_to HQb.out hN1.low)
            have HU := Lib.hid hir
            have HFL := Lib.hid hfl
            have HFM := Lib.hid hfm
            have HFT := Lib.hid hft
            have hmm := mayQ_bd _ _ _ hfm
            have HUB := Lib.hid (show ∀ u ∈ us, 0 ≤ u ∧ u ≤ 30 from fun u hu => by obtain ⟨h0, h1⟩ := hmm.2 u hu; exact ⟨h0, by simp only at h1; omega⟩)
            clear hus htt hfl hfm hft hO1 hN1 hir hmm hqok HIb HQb
            obtain ⟨_, fi0, fi1, fp0, fp1, ff0, ff1⟩ := fromG_bd s0 s1 m0 m1 qs HIc.out.qok p.lv l0 l1
            rw [← HTT.out] at fi0 fi1 fp0 fp1 ff0 ff1
            go_upto_region 30 with fail
            refine sd_r30 wc p QA DA qc dc (w.heap.size + 1) qs us HP.out (by omega) HIc.out.qok HQc.out HFL.out HFM.out HU.out HIc.out.pb _ _ _ _ _ _ _ _ _ _ _ _ _ _ _ _ _ _ _ _ _ _ _ _ _ _ _ _ _ _ _ _ _ _ _ _ _ _ _ _ _ _ _ _ _ _ _ _ _ _ _ _ _ _ _ _ _ _ _ _ _ _ _ _ _ _ _ _ _ _ _ _ _ _ _ _ _ _ _ _ _ _ _ _ _ _ _ _ _ _ _ _ _ _ _ _ _ _ _ _ _ _ _ _ _ _ _ _ _ _ _ _ _ _ _ _ _ _ _ _ _ _ _ _ _ _ _ _ _ _ _ _ _ _ _ _ _ _ _ _ _ _ _ _ _ _ _ _ _ _ _ _ _ _ _ _ _ _ _ _ _ _ _ _ _ _ _ _ _ _ _ _ _ _ _ _ _ _ _ _ _ _ _ _ _ _ _ _ _ _ _ _ _ _ _ _ _ _ _ _ _ _ _ _ _ _ _ _ _ _ _ _ _ _ _ _ _ _ _ _ _ _ _ _ _ _ ?_
            intro v150 v151 v152 v153 v154 v155 v156 v149 v157 v158 wd rb2 hN2
            dsimp only
            have hN2' : NTo wc tt rb2 wd := by rw [← HFT.out]; exact hN2
            have HN2 := Lib.hid hN2'
            have HId := Lib.hid (HIc.out.next hN2'.low)
            have HQd := Lib.hid (rw_to HQc.out hN2'.low)
            have HUd := Lib.hid (HU.out.to hN2'.low)
            have kb2 := hN2'.ex
            have kb1 := blk_step hN2'.low HN1.out.ex
            have yb2 := blk_lt kb2
            have yb1 := blk_lt kb1
            have HK1 := Lib.hid kb1
            have HK2 := Lib.hid kb2
            obtain ⟨a0, af0, a1, af1, a2, af2⟩ := cv3 kb1
            obtain ⟨b0, bf0, b1, bf1, b2, bf2⟩ := cv3 kb2
            obtain ⟨p0, pf0, p1, pf1, p2, pf2⟩ := cv3 HId.out.pb
            have ypl := blk_lt HId.out.pb
            clear hN2 hN2' kb1 kb2
            go_upto_region 32 with fail
            go_wp2_with fail
            go_loop [26, 161] (fun s i => ∃ j : Nat, j ≤ qs.length ∧ i = .int .i64 j ∧ s = .int .i64 (sumD (us.take j))) (fun _ i => qs.length - (intOf i).toNat)
            case atStart => exact ⟨0, Nat.zero_le _, rfl, rfl⟩
            case round =>
              obtain ⟨j, hj, rfl, rfl⟩ := hrel
              by_cases hjl : j < qs.length
              · obtain ⟨bd, od, hDA, hbd, d0⟩ := HUd.out.get (k := j) (by rw [HFL.out]; exact hjl)
                obtain ⟨u, hu⟩ : ∃ u, u = us[j]'(by rw [HFL.out]; exact hjl) := ⟨_, rfl⟩
                obtain ⟨u0', u1'⟩ := HUB.out _ (List.getElem_mem (l := us) (n := j) (by rw [HFL.out]; exact hjl))
                rw [← hu] at d0 u0' u1'
                have hst := HUB.out
                obtain ⟨sb0, sb1⟩ := sumD_bd (us.take j) (fun y hy => hst y (List.mem_of_mem_take hy))
                have hsl : (us.take j).length ≤ 6 := by rw [List.length_take]; omega
                have HSN := Lib.hid (show sumD (us.take (j + 1)) = sumD (us.take j) + u by rw [hu, List.take_succ_eq_append_getElem (by rw [HFL.out]; exact hjl), sumD_snoc])
                obtain ⟨SD, hSD⟩ : ∃ SD, SD = sumD (us.take j) := ⟨_, rfl⟩
                rw [← hSD] at HSN sb0 sb1 ⊢
                have hjd : decide ((j : Int) < (qs.length : Int)) = true := decide_eq_true (by omega)
                have hj0 : (0 : Int) ≤ (j : Int) := by omega
                have hj1 : (j : Int) < (qs.length : Int) := by omega
                clear hu hst hSD a0 af0 a1 af1 a2 af2 b0 bf0 b1 bf1 b2 bf2 p0 pf0 p1 pf1 p2 pf2
                rw [hDA]
                go_wp2_with fail
                exact ⟨⟨j + 1, hjl, by go_num, by rw [HSN.out]⟩, by simp [intOf]; omega⟩
              · obtain rfl : j = qs.length := by omega
                rw [show us.take qs.length = us by rw [← HFL.out]; exact List.take_length]
                have hjd : decide ((qs.length : Int) < (qs.length : Int)) = false := decide_eq_false (by omega)
                obtain ⟨_, hr2, hr3⟩ := runQ_sum qs us (begG p) HFL.out.symm rfl
                rw [show (runQ (begG p) qs us).t = tt from HFT.out] at hr2 hr3
                have hr2' : sumD us + tt.lft + tt.spl = p.lv + sumQ qs := by have e : (begG p).lv + (begG p).t.spl + sumQ qs = p.lv + 0 + sumQ qs := rfl; omega
                have hr3' : tt.inc = incQ qs us := by rw [hr3]; show 0 + _ = _; omega
                have HR3 := Lib.hid hr3'
                obtain ⟨sb0, sb1⟩ := sumD_bd us HUB.out
                have hul : us.length ≤ 6 := by rw [HFL.out]; omega
                obtain ⟨qb0, qb1⟩ := sumQ_bd qs HId.out.qok
                have hDR := HId.out.eq
                have hSS := HS3.out
                have hne2 : (sumH ls != sumH cur + 1000 * (sumD us + tt.lft + tt.spl - p.lv) + R) = false := by
                  rw [bne_eq_false_iff_eq]; omega
                have hRb0 : -1000000 ≤ R := by omega
                have hRb1 : R ≤ 1000000000 := by omega
                have hLV : sumD us + tt.lft + tt.spl - p.lv ≤ 1000 := by omega
                have hLV0 : 0 ≤ sumD us + tt.lft + tt.spl - p.lv := by omega
                have hcb : sumH cur ≤ 1000000000 := by omega
                have hcw : sumH cur + 1000 * (sumD us + tt.lft + tt.spl - p.lv) ≤ 2000000000 := by omega
                have HDR := Lib.hid hDR
                clear hr2 hr3 hr2' hr3' hSS hDR
                obtain ⟨j0, hj, hjz0, hjz1, hjz2⟩ := info_parts Try.infoI2
                have HLU := Lib.hid (show (us.map fun n => [Value.int .i64 n]).length = qs.length by rw [List.length_map, HFL.out])
                have hds := HId.out.low.size
                go_upto_region 41 with fail
                clear a0 af0 a1 af1 a2 af2 b0 bf0 b1 bf1 b2 bf2 p0 pf0 p1 pf1 p2 pf2
                go_wp2_with fail
                refine (thistleQuarters_c QA qc qs wd (by omega) HQd.out).mono ?_
                rintro e we ⟨v1, rfl, ho1, hbe⟩
                obtain ⟨A1, c1, hv1, _, hq1⟩ := ho1.rw_ encQ_len
                rw [List.length_map] at hv1
                subst hv1
                have HQ1 := Lib.hid hq1
                have HBE := Lib.hid hbe
                have HUW1 := Lib.hid (show Rw we we.heap.size 1 DA (us.map fun n => [Value.int .i64 n]) from rw_to HUd.out hbe)
                have hes : w.heap.size ≤ we.heap.size := Nat.le_trans hds hbe.size
                clear ho1 hq1 hbe
                go_wp2_with (at_builtin; refine wpList_append_fresh _ rfl (.tmp 204) (.tmp 205) 46 rfl w.heap.size 3 j0 (.int .i64 0) 1 8 Try.underlying46 hj hjz0 hjz1 hjz2 rfl (by decide) _ rfl DA qs.length dc rfl (blk_new rfl) (us.map fun n => [Value.int .i64 n]) HLU.out (rw_to HUW1.out (by (repeat first | (with_reducible first | assumption | exact Below.refl _ _ | refine Bl.drew ?_ | refine Bl.drewN ?_ _ | refine Bl.alloc ?_ _ | refine Bl.set ?_ _ ?_) | (with_reducible apply Bl.step'; (focus (with_reducible assumption))) | omega | (focus (simp; done)) | (focus (simp; omega))))) ints_len ints_one (by unfold maxLen; omega) (by omega) (by omega) (by simp; omega) ?_)
                intro v3 w3 ho3 hb3
                obtain ⟨A3, c3, hv3, _, hi3⟩ := ho3.ints.rw_
                rw [HFL.out] at hv3
                subst hv3
                have hb3' : Below we.heap.size we w3 := ((Below.refl _ we).alloc (Nat.le_refl _) _).trans (hb3.mono (by simp))
                have HI3 := Lib.hid hi3
                have HB3 := Lib.hid hb3'
                have HUW2 := Lib.hid (rw_to HUW1.out hb3')
                have h3s : w.heap.size ≤ w3.heap.size := Nat.le_trans hes hb3'.size
                clear ho3 hi3 hb3 hb3'
                go_wp2_with (at_builtin; refine wpList_append_fresh _ rfl (.tmp 207) (.tmp 208) 46 rfl w.heap.size 3 j0 (.int .i64 0) 1 8 Try.underlying46 hj hjz0 hjz1 hjz2 rfl (by decide) _ rfl DA qs.length dc rfl (blk_new rfl) (us.map fun n => [Value.int .i64 n]) HLU.out (rw_to HUW2.out (by (repeat first | (with_reducible first | assumption | exact Below.refl _ _ | refine Bl.drew ?_ | refine Bl.drewN ?_ _ | refine Bl.alloc ?_ _ | refine Bl.set ?_ _ ?_) | (with_reducible apply Bl.step'; (focus (with_reducible assumption))) | omega | (focus (simp; done)) | (focus (simp; omega))))) ints_len ints_one (by unfold maxLen; omega) (by omega) (by omega) (by simp; omega) ?_)
                intro v4 w4' ho4 hb4
                obtain ⟨A4', c4', hv4, _, hi4⟩ := ho4.ints.rw_
                rw [HFL.out] at hv4
                subst hv4
                have hb4' : Below w3.heap.size w3 w4' := ((Below.refl _ w3).alloc (Nat.le_refl _) _).trans (hb4.mono (by simp))
                have HI4 := Lib.hid hi4
                have HB4 := Lib.hid hb4'
                clear ho4 hi4 hb4 hb4'
                go_wp2_with fail
                have hqa : Rw w4' w4'.heap.size 2 A1 (qs.map encQ) := rw_to (rw_to HQ1.out HB3.out) HB4.out
                refine (Settled_c A1 A3 A4' c1 c3 c4' qs us us 50 w4' (by omega) HFL.out HFL.out HId.out.qok HUB.out HUB.out (by omega) hqa (HI3.out.to HB4.out) HI4.out).mono ?_
                rintro e wf ⟨v5, rfl, ho5, hbf⟩
                rw [stS_same] at ho5
                obtain ⟨A5', c5', hv5, _⟩ := ho5.rw_ (fun x hx => by simp at hx)
                rw [List.map_nil, List.length_nil] at hv5
                subst hv5
                rw [stB_same 50 qs us HFL.out, ← HR3.out]
                have hdf : Below wd.heap.size wd wf := (HBE.out.trans (HB3.out.mono HBE.out.size)).trans ((HB4.out.mono (Nat.le_trans HBE.out.size HB3.out.size)).trans (hbf.mono (Nat.le_trans HBE.out.size (Nat.le_trans HB3.out.size HB4.out.size))))
                have kf := blk_step hdf HK1.out
                obtain ⟨a0, af0, a1, af1, a2, af2⟩ := cv3 kf
                have yfl := blk_lt kf
                have HLOW := Lib.hid (HId.out.low.trans (hdf.mono HId.out.low.size))
                clear ho5 hbf hdf kf hqa
                go_wp2_with fail
                go_ret
                exact ⟨rfl, HLOW.out⟩
    · have hnP2 : (nP != 0) = true := by simp [hnP]
      clear hP hnP
      go_wp2_with fail
      refine (thistleSale_c w3).mono ?_
      rintro e w4 ⟨rfl, hb4⟩
      go_wp2_with fail
      go_ret
      exact ⟨rfl, HBW3.out.trans (hb4.mono HBW3.out.size)⟩
  · have hnT2 : (nT != 0) = true := by simp [hnT]
    clear hT hnT
    go_wp2_with fail
    refine (thistleSale_c w2).mono ?_
    rintro e w4 ⟨rfl, hb4⟩
    go_wp2_with fail
    go_ret
    exact ⟨rfl, HBW2.out.trans (hb4.mono HBW2.out.size)⟩
end Go.Proofs.Ytgljpjcclncknaa

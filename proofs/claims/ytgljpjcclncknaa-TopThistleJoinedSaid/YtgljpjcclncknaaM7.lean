/- TopThistleJoined: the law from the region 36 on. -/
import Derived.Test.YtgljpjcclncknaaM6
import Derived.Test.YtgljpjcclncknaaM5
namespace Go.Proofs.Ytgljpjcclncknaa
open Go.RowKit

set_option maxRecDepth 100000 in
set_option maxHeartbeats 16000000 in
theorem jd_t36 (w X : World) (A B : Option Addr) (c c2 pt : Nat) (room JJ : Int) (ls : List Lay) (n : Nat) (QA OA : Option Addr) (qc oc : Nat) (qs : List Qt) (os : List Int) (htt : okT room ls) (hr : Rw X X.heap.size 2 A (ls.map encL)) (hkt : X.heap[pt]? = some (.cells #[.int .i64 room, .slice A ls.length c] 24 (0, 0))) (hq : Rw X X.heap.size 2 QA (qs.map encQ)) (ho : IntsR X X.heap.size OA os) (hql : qs.length = n) (hol : os.length = n) (hqo : ∀ x ∈ qs, okQ x) (hoo : ∀ x ∈ os, 0 ≤ x ∧ x ≤ 30) (hn1 : 1 ≤ n) (hn8 : n ≤ 8) (hlow : Below w.heap.size w X) (u1 u2 u3 u5 u6 u7 u8 u9 u10 u11 u14 u15 u16 u17 u19 u20 u21 u22 u23 u24 u25 u26 u27 u28 u29 u30 u31 u32 u33 u34 u35 u36 u37 u38 u39 u40 u41 u42 u43 u44 u45 u46 u47 u48 u49 u50 u51 u52 u53 u54 u55 u56 u57 u58 u59 u60 u61 u62 u63 u64 u65 u66 u67 u68 u69 u70 u71 u72 u73 u74 u75 u76 u77 u78 u79 u80 u81 u82 u83 u84 u85 u86 u87 u88 u89 u90 u91 u92 u93 u94 u95 u96 u97 u98 u99 u100 u101 u102 u103 u104 u105 u106 u107 u108 u109 u110 u111 u112 u113 u114 u115 u116 u117 u118 u119 u120 u121 u122 u123 u124 u125 u126 u127 u128 u129 u130 u131 u132 u133 u134 u135 u136 u137 u138 u139 u140 u141 u142 u143 u144 u145 u146 u147 u148 u149 u150 u151 u152 u153 u154 u155 u156 u157 u158 u159 u160 u161 u162 u163 u164 u165 u166 u167 u168 u169 u170 u171 u172 u173 u174 u175 u176 u177 u178 u179 u180 u181 u182 u183 u184 u185 u186 u187 u188 u189 u190 u191 u192 u193 u194 u195 u196 u197 u198 u199 u200 u201 u202 u203 u204 u205 u206 u207 u208 u209 u210 u211 u212 u213 u214 u215 u216 u217 u218 u219 u220 u221 u222 u223 u224 u225 u226 u227 u228 u229 u230 u231 u232 u233 u234 u235 u236 u237 u238 u239 u240 u241 u242 u243 u244 u245 u246 u247 u248 u249 u250 u251 u252 u253 u254 u255 u256 u257 u258 u259 u260 u261 u262 u263 u264 u265 u266 u267 u268 u269 u270 u271 u272 u273 u274 u275 u276 u277 u278 u279 u280 u281 u282 u283 u284 u285 u286 u287 u288 u289 u290 u291 u292 u293 u294 u295 u296 u297 u298 u299 u300 u301 u302 u303 u304 u305 u306 u307 u308 u309 u310 u311 u312 u313 u314 u315 u316 u317 u318 u319 u320 u321 u322 u323 u324 u325 u326 u327 u328 u329 u330 u331 u332 u333 u334 u335 u336 u337 u338 u339 : Value) (K : Act → World → Prop)
  (hK : ∀ (a : Act) (w' : World), Code.wp Try.prog (jdT 37) (bodyPost Try.prog Try.f4 (RetSl w)) a w' → K a w') :
  Code.wp Try.prog (jdR 36) (Exit.then K (bodyPost Try.prog Try.f4 (RetSl w))) { tmps := #[.slice B n c2, u1, u2, u3, .pointer (some ⟨pt, 0, none⟩), u5, u6, u7, u8, u9, u10, u11, .slice QA n qc, .slice OA n oc, u14, u15, u16, u17, .int .i64 JJ, u19, u20, u21, u22, u23, u24, u25, u26, u27, u28, u29, u30, u31, u32, u33, u34, u35, u36, u37, u38, u39, u40, u41, u42, u43, u44, u45, u46, u47, u48, u49, u50, u51, u52, u53, u54, u55, u56, u57, u58, u59, u60, u61, u62, u63, u64, u65, u66, u67, u68, u69, u70, u71, u72, u73, u74, u75, u76, u77, u78, u79, u80, u81, u82, u83, u84, u85, u86, u87, u88, u89, u90, u91, u92, u93, u94, u95, u96, u97, u98, u99, u100, u101, u102, u103, u104, u105, u106, u107, u108, u109, u110, u111, u112, u113, u114, u115, u116, u117, u118, u119, u120, u121, u122, u123, u124, u125, u126, u127, u128, u129, u130, u131, u132, u133, u134, u135, u136, u137, u138, u139, u140, u141, u142, u143, u144, u145, u146, u147, u148, u149, u150, u151, u152, u153, u154, u155, u156, u157, u158, u159, u160, u161, u162, u163, u164, u165, u166, u167, u168, u169, u170, u171, u172, u173, u174, u175, u176, u177, u178, u179, u180, u181, u182, u183, u184, u185, u186, u187, u188, u189, u190, u191, u192, u193, u194, u195, u196, u197, u198, u199, u200, u201, u202, u203, u204, u205, u206, u207, u208, u209, u210, u211, u212, u213, u214, u215, u216, u217, u218, u219, u220, u221, u222, u223, u224, u225, u226, u227, u228, u229, u230, u231, u232, u233, u234, u235, u236, u237, u238, u239, u240, u241, u242, u243, u244, u245, u246, u247, u248, u249, u250, u251, u252, u253, u254, u255, u256, u257, u258, u259, u260, u261, u262, u263, u264, u265, u266, u267, u268, u269, u270, u271, u272, u273, u274, u275, u276, u277, u278, u279, u280, u281, u282, u283, u284, u285, u286, u287, u288, u289, u290, u291, u292, u293, u294, u295, u296, u297, u298, u299, u300, u301, u302, u303, u304, u305, u306, u307, u308, u309, u310, u311, u312, u313, u314, u315, u316, u317, u318, u319, u320, u321, u322, u323, u324, u325, u326, u327, u328, u329, u330, u331, u332, u333, u334, u335, u336, u337, u338, u339], defers := [] } X := by
  conv => arg 2; whnf
  conv at hK => enter [a, w', 1, 2]; whnf
  have HTT := Lib.hid htt
  have HQ := Lib.hid hq
  have HO := Lib.hid ho
  have HQL := Lib.hid hql
  have HOL := Lib.hid hol
  have HQO := Lib.hid hqo
  have HOO := Lib.hid hoo
  have HLOW := Lib.hid hlow
  have HR := Lib.hid hr
  obtain ⟨t0, tf0, t1, tf1⟩ := cv2 hkt
  have ytl := blk_lt hkt
  have hTl := htt.len
  clear htt hq ho hql hol hqo hoo hlow hr hkt
  go_wp2_with fail
  refine (thistleTank_c room A c ls X (by omega) HR.out).mono ?_
  rintro e w4 ⟨A4, c4, rfl, ho4, hb4⟩
  have HO4 := Lib.hid ho4
  have HB4 := Lib.hid hb4
  clear ho4 hb4 t0 tf0 t1 tf1 ytl HR
  have hTE := Lib.hid (fun (A : Option Addr) (c : Nat) (W : World) (h : Rw W W.heap.size 2 A (ls.map encL)) => Enthalpy_c room A c ls W HTT.out h)
  go_wp2_with fail
  refine (thistleOwn_c room A4 c4 ls _ (by omega) (rw_to HO4.out.row.1 (by (repeat first | (with_reducible first | assumption | exact Below.refl _ _ | refine Bl.drew ?_ | refine Bl.drewN ?_ _ | refine Bl.alloc ?_ _ | refine Bl.set ?_ _ ?_) | (with_reducible apply Bl.step'; (focus (with_reducible assumption))) | omega | (focus (simp; done)) | (focus (simp; omega)))))).mono ?_
  rintro e w5 ⟨A5, c5, rfl, ho5, hb5⟩
  have kT5 : w5.heap[w4.heap.size]? = some (.cells #[.int .i64 room, .slice A4 ls.length c4] 33 (0, 0)) := blk_step hb5 (blk_new rfl)
  have hO5 : OwnL w5 X.heap.size A4 c4 ls := (HO4.out.alloc' _).below hb5
  have HBW5 := Lib.hid ((HB4.out.alloc HB4.out.size _).trans (hb5.mono (by simp; exact Nat.le_succ_of_le HB4.out.size)))
  have HO5 := Lib.hid hO5
  have HQ5 := Lib.hid ho5
  clear hb5 hO5 ho5
  go_wp2_with fail
  refine (hTE.out A5 c5 w5 HQ5.out.row.1).mono ?_
  rintro e w6 ⟨rfl, hb6⟩
  have kT6 := blk_step hb6 kT5
  have hO6 := HO5.out.below hb6
  have HI0 := Lib.hid (show J3 X w4.heap.size room ls ls A4 c4 [] [] 0 (.slice none 0 0) (.slice none 0 0) w6 from ⟨HTT.out, by omega, Int.le_refl _, kT6, hO6.mono (Nat.zero_le _), OwnR.nil_, OwnR.nil_, HBW5.out.trans (hb6.mono HBW5.out.size)⟩)
  have hxt : X.heap.size ≤ w4.heap.size := HB4.out.size
  obtain ⟨tb, htb⟩ : ∃ tb, tb = w4.heap.size := ⟨_, rfl⟩
  rw [← htb] at HI0 hxt ⊢
  have hS2 := HTT.out.h
  obtain ⟨S1, hS1⟩ : ∃ S1, S1 = sumH ls := ⟨_, rfl⟩
  rw [← hS1] at hS2 ⊢
  have HSS := Lib.hid hS1
  have HXT := Lib.hid hxt
  clear kT5 hb6 hTE HB4 HO4 HO5 HQ5 kT6 hO6 htb HBW5 hS1 hxt
  obtain ⟨iI, hiI, hzI0, hzI1, hzI2⟩ := info_parts Try.infoI2
  obtain ⟨iS, hiS, hzS0, hzS1, hzS2⟩ := info_parts Try.infoSf
  go_wp2_with fail
  go_loopw [26, 27, 28, 29, 195] (fun dv Dv bv mv i wr => ∃ (k : Nat) (cur : List Lay) (AT : Option Addr) (cT : Nat) (ds : List Int) (D : Int), k ≤ n ∧ i = .int .i64 k ∧ Dv = .int .i64 D ∧ bv = .int .i64 (stB qs os ds 50 k) ∧ Hid (ds.length = k ∧ ∀ d ∈ ds, 0 ≤ d ∧ d ≤ 30) ∧ J3 X tb room ls cur AT cT ds (stS os ds k) D dv mv wr) (fun _ _ _ _ i _ => n - (intOf i).toNat)
  case atStart => exact ⟨0, ls, A4, c4, [], 0, Nat.zero_le _, rfl, rfl, rfl, Lib.hid ⟨rfl, fun d h => by cases h⟩, HI0.out⟩
  case round =>
    obtain ⟨k, cur, AT, cT, ds, D, hk, rfl, rfl, rfl, HDS, hJ⟩ := hrel
    have HJ3 := Lib.hid hJ
    clear hJ HI0
    obtain ⟨bk0, bk1⟩ := stB_bd (fine := 50) HQO.out HOO.out HDS.out.2 (by omega) k
    have HBN := Lib.hid (show ∀ (h1 : k < qs.length) (h2 : k < os.length) (g : Int), g ≤ os[k] → stB qs os (ds ++ [g]) 50 (k + 1) = stB qs os ds 50 k + (qs[k].p * g - 50 * (os[k] - g)) from by
      intro h1 h2 g hg
      have e := HDS.out.1
      subst e
      exact stB_next h1 (by rw [HOL.out, HQL.out]) hg)
    have HSN := Lib.hid (show ∀ (h2 : k < os.length) (g : Int), stS os (ds ++ [g]) (k + 1) = stS os ds k ++ (if 0 < os[k] - g then [((k : Int), os[k] - g)] else []) from by
      intro h2 g
      have e := HDS.out.1
      subst e
      exact stS_next h2)
    obtain ⟨BK, hBK⟩ : ∃ BK, BK = stB qs os ds 50 k := ⟨_, rfl⟩
    rw [← hBK] at HBN bk0 bk1 ⊢
    obtain ⟨SK, hSK⟩ : ∃ SK, SK = stS os ds k := ⟨_, rfl⟩
    have hsl : SK.length ≤ 8 := by rw [hSK]; have := stS_len os ds k; omega
    rw [← hSK] at HSN HJ3
    have HSK := Lib.hid hSK
    have HBK := Lib.hid hBK
    have hdl8 : ds.length ≤ 8 := by have := HDS.out.1; omega
    clear hBK hSK
    by_cases hlt : k < n
    · have hok : k < os.length := by have := HOL.out; omega
      have hqk : k < qs.length := by have := HQL.out; omega
      obtain ⟨ob, oo, hB, hobl, z0⟩ := HO.out.get (k := k) hok
      obtain ⟨qb, qo, hBq, hqbl, q0, q1⟩ := HQ.out.get2 (k := k) (by simpa using hqk) (by rw [List.getElem_map]; rfl)
      obtain ⟨o10, o11⟩ := HOO.out _ (List.getElem_mem hok)
      obtain ⟨⟨p0, p1, _, _⟩⟩ := (⟨HQO.out _ (List.getElem_mem hqk)⟩ : PLift (okQ qs[k]))
      have HBN2 := Lib.hid (HBN.out hqk hok)
      have HSN2 := Lib.hid (HSN.out hok)
      obtain ⟨o1, ho1⟩ : ∃ o1, o1 = os[k] := ⟨_, rfl⟩
      obtain ⟨pq, hpq⟩ : ∃ pq, pq = qs[k] := ⟨_, rfl⟩
      rw [← ho1] at z0 o10 o11 HBN2 HSN2
      rw [← hpq] at p0 p1 q0 q1 HBN2
      have HZ0 := Lib.hid z0
      have HQ0 := Lib.hid q0
      have HOBL := Lib.hid hobl
      have HQBL := Lib.hid hqbl
      have hkd : decide ((k : Int) < (n : Int)) = true := decide_eq_true (by omega)
      have hwo : IntKind.i64.wrap (1 + o1) = 1 + o1 := IntWalk.i64_in _ (by omega)
      have hkw : IntKind.i64.wrap (k : Int) = (k : Int) := IntWalk.i64_in _ (by omega)
      clear ho1 hpq HBN HSN q1 z0 q0
      have HXT2 := HXT.out
      rw [hB, hBq]
      go_upto_region 44 with fail
      rename_i K44 hK44
      go_cut [31] (fun gg wx => gg = .int .i64 0 ∧ wx = wr)
      case first =>
        go_wp2_with fail
        go_meet
        exact ⟨rfl, rfl⟩
      obtain ⟨rfl, hwc⟩ := hcut
      have hwd := hwc.symm
      subst hwd
      refine hK44 _ _ ?_
      clear hK44
      refine wp_seq_k fun K50 hK50 => ?_
      go_cut [27, 31] (fun dd gg wx => ∃ (cur2 : List Lay) (A2 : Option Addr) (c2 : Nat) (D2 g : Int), dd = .int .i64 D2 ∧ gg = .int .i64 g ∧ 0 ≤ g ∧ g ≤ o1 ∧ J3 X tb room ls cur2 A2 c2 ds SK D2 u26 u29 wx)
      case first =>
        go_upto_region 45 with fail
        by_cases hm : 1 + o1 ≤ sumA cur
        · refine jd_r45y wr room AT cT tb ob oo oc n k cur o1 HJ3.out.tank HJ3.out.lay.row.1 HJ3.out.tb hlt hn8 ((HJ3.out.low.cell HOBL.out).trans HZ0.out) o10 o11 hm _ _ _ _ _ _ _ _ _ _ _ _ _ _ _ _ _ _ _ _ _ _ _ _ _ _ _ _ _ _ _ _ _ _ _ _ _ _ _ _ _ _ _ _ _ _ _ _ _ _ _ _ _ _ _ _ _ _ _ _ _ _ _ _ _ _ _ _ _ _ _ _ _ _ _ _ _ _ _ _ _ _ _ _ _ _ _ _ _ _ _ _ _ _ _ _ _ _ _ _ _ _ _ _ _ _ _ _ _ _ _ _ _ _ _ _ _ _ _ _ _ _ _ _ _ _ _ _ _ _ _ _ _ _ _ _ _ _ _ _ _ _ _ _ _ _ _ _ _ _ _ _ _ _ _ _ _ _ _ _ _ _ _ _ _ _ _ _ _ _ _ _ _ _ _ _ _ _ _ _ _ _ _ _ _ _ _ _ _ _ _ _ _ _ _ _ _ _ _ _ _ _ _ _ _ _ _ _ _ _ _ _ _ _ _ _ _ _ _ _ _ _ _ _ _ _ _ _ _ _ _ _ _ _ _ _ _ _ _ _ _ _ _ _ _ _ _ _ _ _ _ _ _ _ _ _ _ _ _ _ _ _ _ _ _ _ _ _ _ _ _ _ _ _ _ _ _ _ _ _ _ _ _ _ _ _ _ _ _ _ _ _ _ _ _ _ _ _ _ _ _ _ _ _ _ _ _ _ _ _ _ _ _ _ _ _ _ _ _ _ _ _ _ _ _ _ _ _ _ _ _ _ _ _ _ _ _ _ _ ?_
          intro v199 v200 v201 v202 v203 v204 v205 v206 v198 v207 v208 v209 wx rb hN
          dsimp only
          obtain ⟨hD1, hD2, hD3, hD4⟩ := drawT_ok (m := 1 + o1) true HJ3.out.tank (by omega)
          obtain ⟨N, hNN⟩ : ∃ N, N = drawH cur (1 + o1) true := ⟨_, rfl⟩
          obtain ⟨DT, hDT⟩ : ∃ DT, DT = drawT cur (1 + o1) true := ⟨_, rfl⟩
          rw [← hNN] at hD2 hD3 hD4 ⊢
          rw [← hDT] at hN hD1 hD2
          have HIx := Lib.hid (HJ3.out.next hN.low)
          obtain ⟨A2, cc2, kr, hor⟩ := hN.ex
          have hlo := hN.lo
          have htw := blk_lt HJ3.out.tb
          have hrt : rb ≠ tb := by omega
          have hot : ob ≠ tb := by have := HOBL.out; have := HXT.out; omega
          have HOR := Lib.hid hor
          have HKR := Lib.hid kr
          have HD1 := Lib.hid hD1
          have HD2 := Lib.hid hD2
          have hS3 : D + N ≤ 1000000000 := by
            have h1 := (sum_nonneg fun y hy => (hD1.each y hy).nn).2
            have h2 := HJ3.out.sum
            have h3 := HSS.out
            omega
          have hd0 := HJ3.out.d0
          clear hNN hDT hN hD1 hD2 kr hor
          by_cases hj1 : JJ ≤ (k : Int)
          · have hjd : decide (JJ ≤ (k : Int)) = true := decide_eq_true hj1
            by_cases hz : 0 < o1
            · have hzd : decide (0 < o1) = true := decide_eq_true hz
              have hzx : wx.cell? ⟨ob, oo + k, none⟩ = some (.int .i64 o1) := (HIx.out.low.cell HOBL.out).trans HZ0.out
              have hj0 : (0 : Int) ≤ (k : Int) := by omega
              have hj2 : (k : Int) < (n : Int) := by omega
              go_upto_region 47 with fail
              refine jd_r47 wx room D N o1 A2 DT.length cc2 tb rb ob oo oc n k _ _ HIx.out.tb HKR.out hrt hot hlt hn8 hzx hd0 hD3 hS3 _ _ _ _ _ _ _ _ _ _ _ _ _ _ _ _ _ _ _ _ _ _ _ _ _ _ _ _ _ _ _ _ _ _ _ _ _ _ _ _ _ _ _ _ _ _ _ _ _ _ _ _ _ _ _ _ _ _ _ _ _ _ _ _ _ _ _ _ _ _ _ _ _ _ _ _ _ _ _ _ _ _ _ _ _ _ _ _ _ _ _ _ _ _ _ _ _ _ _ _ _ _ _ _ _ _ _ _ _ _ _ _ _ _ _ _ _ _ _ _ _ _ _ _ _ _ _ _ _ _ _ _ _ _ _ _ _ _ _ _ _ _ _ _ _ _ _ _ _ _ _ _ _ _ _ _ _ _ _ _ _ _ _ _ _ _ _ _ _ _ _ _ _ _ _ _ _ _ _ _ _ _ _ _ _ _ _ _ _ _ _ _ _ _ _ _ _ _ _ _ _ _ _ _ _ _ _ _ _ _ _ _ _ _ _ _ _ _ _ _ _ _ _ _ _ _ _ _ _ _ _ _ _ _ _ _ _ _ _ _ _ _ _ _ _ _ _ _ _ _ _ _ _ _ _ _ _ _ _ _ _ _ _ _ _ _ _ _ _ _ _ _ _ _ _ _ _ _ _ _ _ _ _ _ _ _ _ _ _ _ _ _ _ _ _ _ _ _ _ _ _ _ _ _ _ _ _ _ _ _ _ _ _ _ _ _ _ _ _ _ _ _ _ _ _ _ _ _ _ _ _ _ _ _ _ _ ?_
              intro v224 v225 v226 v227 v228 v229 v230 v231 wy hT2 hg2
              dsimp only
              have HJY := Lib.hid (HIx.out.swap HD1.out (show sumH ls = sumH DT + (D + N) by have := HIx.out.sum; have := HD2.out; omega) (by omega) hT2 hg2 (OwnL.mono HOR.out (Nat.zero_le _)) HXT.out)
              clear hT2 hg2 hzx
              go_wp2_with fail
              go_meet
              case rel => exact ⟨DT, A2, cc2, D + N, o1, rfl, rfl, o10, Int.le_refl _, HJY.out⟩
            · have hzd : decide (0 < o1) = false := decide_eq_false hz
              have hzx : wx.cell? ⟨ob, oo + k, none⟩ = some (.int .i64 o1) := (HIx.out.low.cell HOBL.out).trans HZ0.out
              have hj0 : (0 : Int) ≤ (k : Int) := by omega
              have hj2 : (k : Int) < (n : Int) := by omega
              go_wp2_with fail
              go_meet
              case rel => exact ⟨cur, AT, cT, D, 0, rfl, rfl, Int.le_refl _, o10, HIx.out⟩
          · have hjd : decide (JJ ≤ (k : Int)) = false := decide_eq_false hj1
            go_wp2_with fail
            go_meet
            case rel => exact ⟨cur, AT, cT, D, 0, rfl, rfl, Int.le_refl _, o10, HIx.out⟩
        · refine jd_r45n wr room AT cT tb ob oo oc n k cur o1 HJ3.out.tank HJ3.out.lay.row.1 HJ3.out.tb hlt hn8 ((HJ3.out.low.cell HOBL.out).trans HZ0.out) o10 o11 (by omega) _ _ _ _ _ _ _ _ _ _ _ _ _ _ _ _ _ _ _ _ _ _ _ _ _ _ _ _ _ _ _ _ _ _ _ _ _ _ _ _ _ _ _ _ _ _ _ _ _ _ _ _ _ _ _ _ _ _ _ _ _ _ _ _ _ _ _ _ _ _ _ _ _ _ _ _ _ _ _ _ _ _ _ _ _ _ _ _ _ _ _ _ _ _ _ _ _ _ _ _ _ _ _ _ _ _ _ _ _ _ _ _ _ _ _ _ _ _ _ _ _ _ _ _ _ _ _ _ _ _ _ _ _ _ _ _ _ _ _ _ _ _ _ _ _ _ _ _ _ _ _ _ _ _ _ _ _ _ _ _ _ _ _ _ _ _ _ _ _ _ _ _ _ _ _ _ _ _ _ _ _ _ _ _ _ _ _ _ _ _ _ _ _ _ _ _ _ _ _ _ _ _ _ _ _ _ _ _ _ _ _ _ _ _ _ _ _ _ _ _ _ _ _ _ _ _ _ _ _ _ _ _ _ _ _ _ _ _ _ _ _ _ _ _ _ _ _ _ _ _ _ _ _ _ _ _ _ _ _ _ _ _ _ _ _ _ _ _ _ _ _ _ _ _ _ _ _ _ _ _ _ _ _ _ _ _ _ _ _ _ _ _ _ _ _ _ _ _ _ _ _ _ _ _ _ _ _ _ _ _ _ _ _ _ _ _ _ _ _ _ _ _ _ _ _ _ _ _ _ _ _ _ _ _ _ _ _ _ _ ?_
          intro v199 v200 v201 v202 v203 v204 v205 v206 v198 v207 v208 v209 v32 wx hbx
          dsimp only
          have HIx := Lib.hid (HJ3.out.next hbx)
          clear hbx
          by_cases hj1 : JJ ≤ (k : Int)
          · have hjd : decide (JJ ≤ (k : Int)) = true := decide_eq_true hj1
            go_wp2_with fail
            go_meet
            case rel => exact ⟨cur, AT, cT, D, 0, rfl, rfl, Int.le_refl _, o10, HIx.out⟩
          · have hjd : decide (JJ ≤ (k : Int)) = false := decide_eq_false hj1
            go_wp2_with fail
            go_meet
            case rel => exact ⟨cur, AT, cT, D, 0, rfl, rfl, Int.le_refl _, o10, HIx.out⟩
      case rest =>
        obtain ⟨cur2, A2, c2', D2, g, rfl, rfl, hg0, hg1, hJ4⟩ := hcut
        have HJ4 := Lib.hid hJ4
        clear hJ4
        have hsz4 := HJ4.out.low.size
        go_wp2_with (at_builtin; refine wpList_append_own _ rfl _ _ 46 rfl X.heap.size 3 iI (.int .i64 0) 1 8 Try.underlying46 hiI hzI0 hzI1 hzI2 rfl (by decide) _ _ _ rfl (OwnR.alloc HJ4.out.del _) ⟨wc.heap.size, 0, none⟩ 1 1 ([.int .i64 g]) rfl rfl ?e1 ?e2 ?e3 ?e4 ?e5 ?_)
        case e2 => first | rfl | (intro u hu; simp at hu; subst hu; rfl)
        case e3 => unfold maxLen; (try simp); omega
        case e4 => (try simp); omega
        case e5 => (try simp); omega
        intro d7 w7 hown hgrow _
        have hJ7 := J3.appD (g := g) (HJ4.out.next ((Below.refl _ wc).alloc (Nat.le_refl _) (.cells #[.int .i64 g] 3))) hown hgrow
        have HJ7 := Lib.hid hJ7
        have hzx : w7.cell? ⟨ob, oo + k, none⟩ = some (.int .i64 o1) := (hJ7.low.cell HOBL.out).trans HZ0.out
        have hqx : w7.cell? ⟨qb, qo + k * 2, none⟩ = some (.int .i64 pq.p) := (hJ7.low.cell HQBL.out).trans HQ0.out
        have hol7 := Nat.lt_of_lt_of_le HOBL.out hJ7.low.size
        have hqx7 := Nat.lt_of_lt_of_le HQBL.out hJ7.low.size
        have hj0 : (0 : Int) ≤ (k : Int) := by omega
        have hj2 : (k : Int) < (n : Int) := by omega
        obtain ⟨hPG0, hPG1⟩ := mul_bd (a := pq.p) (b := g) (A := 100000) (B := 30) (by omega) (by omega) (by omega) (by omega)
        have HDG := Lib.hid (show ∀ d ∈ ds ++ [g], 0 ≤ d ∧ d ≤ 30 from fun d hd => by
          rcases List.mem_append.1 hd with hd | hd
          · exact HDS.out.2 d hd
          · simp only [List.mem_singleton] at hd; subst hd; omega)
        clear hown hgrow hJ7
        have hs7 := HJ7.out.low.size
        go_wp2_with fail
        go_quiet (fail)
        have HJQ := Lib.hid (HJ7.out.next (below_drewN (Below.refl _ w7) nq))
        by_cases hgo : g < o1
        · have hgd : decide (g < o1) = true := decide_eq_true hgo
          go_wp2_with (at_builtin; refine wpList_append_own _ rfl _ _ 56 rfl X.heap.size 73 iS (.agg #[.int .i64 0, .int .i64 0]) 2 16 Try.underlying56 hiS hzS0 hzS1 hzS2 rfl (by decide) _ _ _ rfl (OwnR.alloc HJQ.out.mis _) ⟨w7.heap.size, 0, none⟩ 1 1 (encS ((k : Int), o1 - g)) rfl rfl ?f1 ?f2 ?f3 ?f4 ?f5 ?_)
          case f1 => exact encS_at (x := ((k : Int), o1 - g)) (blk_new (by simp))
          case f2 => exact encS_one _
          case f3 => unfold maxLen; (try simp); omega
          case f4 => (try simp); omega
          case f5 => (try simp); omega
          intro m9 w9 hown hgrow _
          have hJ9 := J3.appS (x := ((k : Int), o1 - g)) (HJQ.out.next ((Below.refl _ (w7.drewN nq)).alloc (Nat.le_refl _) (.cells #[.int .i64 k, .int .i64 (o1 - g)] 73))) hown hgrow
          have HJ9 := Lib.hid hJ9
          clear hown hgrow hJ9
          go_wp2_with fail
          go_roundw
          case rel => exact ⟨k + 1, cur2, A2, c2', ds ++ [g], D2, hlt, by go_num, rfl, by rw [HBN2.out g hg1], Lib.hid ⟨by rw [List.length_append, HDS.out.1]; rfl, HDG.out⟩, by rw [HSN2.out g, if_pos (by omega)]; exact HJ9.out⟩
          case measure => simp [intOf]; omega
        · have hgd : decide (g < o1) = false := decide_eq_false hgo
          go_wp2_with fail
          go_roundw
          case rel => exact ⟨k + 1, cur2, A2, c2', ds ++ [g], D2, hlt, by go_num, rfl, by rw [HBN2.out g hg1], Lib.hid ⟨by rw [List.length_append, HDS.out.1]; rfl, HDG.out⟩, by rw [HSN2.out g, if_neg (by omega), List.append_nil]; exact HJQ.out⟩
          case measure => simp [intOf]; omega
    · obtain rfl : n = k := by omega
      obtain ⟨DA, dc, hv, _, hir⟩ := HJ3.out.del.ints.rw_
      obtain ⟨SA, sc, hv2, _, hsr⟩ := HJ3.out.mis.rw_ (fun x hx => by obtain ⟨y, _, rfl⟩ := List.mem_map.1 hx; rfl)
      obtain ⟨m, hm⟩ : ∃ m, m = SK.length := ⟨_, rfl⟩
      rw [HDS.out.1] at hv
      rw [List.length_map, ← hm] at hv2
      subst hv hv2
      have HIR := Lib.hid hir
      have HSR := Lib.hid hsr
      have HM := Lib.hid hm
      have hkd : decide ((n : Int) < (n : Int)) = false := decide_eq_false (by omega)
      clear hir hsr hm
      go_upto_region 55 with fail
      rename_i K55 hK55
      exact jd_t55 w wr room S1 D BK cur AT cT tb n m QA OA DA SA qc oc dc sc qs os ds SK HJ3.out.tank (by rw [HSS.out]; exact HJ3.out.sum) hS2 HJ3.out.d0 HJ3.out.lay.row.1 HJ3.out.tb (rw_to HQ.out HJ3.out.low) (HO.out.to HJ3.out.low) HIR.out HSR.out HM.out.symm HSK.out HBK.out HQL.out HOL.out HDS.out.1 HQO.out HOO.out HDS.out.2 hn1 hn8 (HLOW.out.trans (HJ3.out.low.mono HLOW.out.size)) _ _ _ _ _ _ _ _ _ _ _ _ _ _ _ _ _ _ _ _ _ _ _ _ _ _ _ _ _ _ _ _ _ _ _ _ _ _ _ _ _ _ _ _ _ _ _ _ _ _ _ _ _ _ _ _ _ _ _ _ _ _ _ _ _ _ _ _ _ _ _ _ _ _ _ _ _ _ _ _ _ _ _ _ _ _ _ _ _ _ _ _ _ _ _ _ _ _ _ _ _ _ _ _ _ _ _ _ _ _ _ _ _ _ _ _ _ _ _ _ _ _ _ _ _ _ _ _ _ _ _ _ _ _ _ _ _ _ _ _ _ _ _ _ _ _ _ _ _ _ _ _ _ _ _ _ _ _ _ _ _ _ _ _ _ _ _ _ _ _ _ _ _ _ _ _ _ _ _ _ _ _ _ _ _ _ _ _ _ _ _ _ _ _ _ _ _ _ _ _ _ _ _ _ _ _ _ _ _ _ _ _ _ _ _ _ _ _ _ _ _ _ _ _ _ _ _ _ _ _ _ _ _ _ _ _ _ _ _ _ _ _ _ _ _ _ _ _ _ _ _ _ _ _ _ _ _ _ _ _ _ _ _ _ _ _ _ _ _ _ _ _ _ _ _ _ _ _ _ _ _ _ _ _ _ _ _ _ _ _ _ _ _ _ _ _ _ _ _ _ _ _ _ _ _ _ _ _ _ _ _ _ _ _ _ _ _ _ _ _ _ _ _ _ _ _ _ _ _ _ _ _ hK55
end Go.Proofs.Ytgljpjcclncknaa

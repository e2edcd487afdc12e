/- TopThistleJoined: the law from the region 8 on. -/
import Derived.Test.YtgljpjcclncknaaM8
namespace Go.Proofs.Ytgljpjcclncknaa
open Go.RowKit

set_option maxRecDepth 100000 in
set_option maxHeartbeats 16000000 in
theorem jd_t9 (w X : World) (A B : Option Addr) (c c2 pt : Nat) (room NU HO : Int) (ls : List Lay) (xs : List (Int × Int × Int)) (wb sb : Nat) (htt : okT room ls) (hr : Rw X X.heap.size 2 A (ls.map encL)) (hx : Rw X X.heap.size 3 B (xs.map encY)) (hxb : ∀ s ∈ xs, (-128 ≤ s.1 ∧ s.1 ≤ 127) ∧ (-128 ≤ s.2.1 ∧ s.2.1 ≤ 127) ∧ -128 ≤ s.2.2 ∧ s.2.2 ≤ 127) (hkt : X.heap[pt]? = some (.cells #[.int .i64 room, .slice A ls.length c] 24 (0, 0))) (hwn : okWin ⟨NU, 4, 25, 400⟩) (hho0 : 1 ≤ HO) (hho1 : HO ≤ 3) (hkw : X.heap[wb]? = some (.cells #[.int .i64 NU, .int .i64 4, .int .i64 25, .int .i64 400] 63 (0, 0))) (hks : X.heap[sb]? = some (.cells #[.int .i64 16, .int .i64 0] 65 (0, 0))) (hl1 : 1 ≤ xs.length) (hl8 : xs.length ≤ 8) (hlow : Below w.heap.size w X) (u1 u2 u3 u5 u6 u13 u14 u15 u16 u17 u18 u19 u20 u21 u22 u23 u24 u25 u26 u27 u28 u29 u30 u31 u32 u33 u34 u35 u36 u37 u38 u39 u40 u41 u42 u43 u44 u45 u46 u47 u48 u49 u50 u51 u52 u53 u54 u55 u56 u57 u58 u59 u60 u61 u62 u63 u64 u65 u66 u67 u68 u69 u70 u71 u72 u73 u74 u75 u76 u77 u78 u79 u80 u81 u82 u83 u84 u85 u86 u87 u88 u89 u90 u91 u92 u93 u94 u95 u96 u97 u98 u99 u100 u101 u102 u103 u104 u105 u106 u107 u108 u109 u110 u111 u112 u113 u114 u115 u116 u117 u118 u119 u120 u121 u122 u123 u124 u125 u126 u127 u128 u129 u130 u131 u132 u133 u134 u135 u136 u137 u138 u139 u140 u141 u142 u143 u144 u145 u146 u147 u148 u149 u150 u151 u152 u153 u154 u155 u156 u157 u158 u159 u160 u161 u162 u163 u164 u165 u166 u167 u168 u169 u170 u171 u172 u173 u174 u175 u176 u177 u178 u179 u180 u181 u182 u183 u184 u185 u186 u187 u188 u189 u190 u191 u192 u193 u194 u195 u196 u197 u198 u199 u200 u201 u202 u203 u204 u205 u206 u207 u208 u209 u210 u211 u212 u213 u214 u215 u216 u217 u218 u219 u220 u221 u222 u223 u224 u225 u226 u227 u228 u229 u230 u231 u232 u233 u234 u235 u236 u237 u238 u239 u240 u241 u242 u243 u244 u245 u246 u247 u248 u249 u250 u251 u252 u253 u254 u255 u256 u257 u258 u259 u260 u261 u262 u263 u264 u265 u266 u267 u268 u269 u270 u271 u272 u273 u274 u275 u276 u277 u278 u279 u280 u281 u282 u283 u284 u285 u286 u287 u288 u289 u290 u291 u292 u293 u294 u295 u296 u297 u298 u299 u300 u301 u302 u303 u304 u305 u306 u307 u308 u309 u310 u311 u312 u313 u314 u315 u316 u317 u318 u319 u320 u321 u322 u323 u324 u325 u326 u327 u328 u329 u330 u331 u332 u333 u334 u335 u336 u337 u338 u339 : Value) (K : Act → World → Prop)
  (hK : ∀ (a : Act) (w' : World), Code.wp Try.prog (jdN 8) (bodyPost Try.prog Try.f4 (RetSl w)) a w' → K a w') :
  Code.wp Try.prog (jdR 8) (Exit.then K (bodyPost Try.prog Try.f4 (RetSl w))) { tmps := #[.slice B xs.length c2, u1, u2, u3, .pointer (some ⟨pt, 0, none⟩), u5, u6, .pointer (some ⟨wb, 0, none⟩), .int .i64 HO, .pointer (some ⟨sb, 0, none⟩), .slice none 0 0, .slice none 0 0, .slice none 0 0, u13, u14, u15, u16, u17, u18, u19, u20, u21, u22, u23, u24, u25, u26, u27, u28, u29, u30, u31, u32, u33, u34, u35, u36, u37, u38, u39, u40, u41, u42, u43, u44, u45, u46, u47, u48, u49, u50, u51, u52, u53, u54, u55, u56, u57, u58, u59, u60, u61, u62, u63, u64, u65, u66, u67, u68, u69, u70, u71, u72, u73, u74, u75, u76, u77, u78, u79, u80, u81, u82, u83, u84, u85, u86, u87, u88, u89, u90, u91, u92, u93, u94, u95, u96, u97, u98, u99, u100, u101, u102, u103, u104, u105, u106, u107, u108, u109, u110, u111, u112, u113, u114, u115, u116, u117, u118, u119, u120, u121, u122, u123, u124, u125, u126, u127, u128, u129, u130, u131, u132, u133, u134, u135, u136, u137, u138, u139, u140, u141, u142, u143, u144, u145, u146, u147, u148, u149, u150, u151, u152, u153, u154, u155, u156, u157, u158, u159, u160, u161, u162, u163, u164, u165, u166, u167, u168, u169, u170, u171, u172, u173, u174, u175, u176, u177, u178, u179, u180, u181, u182, u183, u184, u185, u186, u187, u188, u189, u190, u191, u192, u193, u194, u195, u196, u197, u198, u199, u200, u201, u202, u203, u204, u205, u206, u207, u208, u209, u210, u211, u212, u213, u214, u215, u216, u217, u218, u219, u220, u221, u222, u223, u224, u225, u226, u227, u228, u229, u230, u231, u232, u233, u234, u235, u236, u237, u238, u239, u240, u241, u242, u243, u244, u245, u246, u247, u248, u249, u250, u251, u252, u253, u254, u255, u256, u257, u258, u259, u260, u261, u262, u263, u264, u265, u266, u267, u268, u269, u270, u271, u272, u273, u274, u275, u276, u277, u278, u279, u280, u281, u282, u283, u284, u285, u286, u287, u288, u289, u290, u291, u292, u293, u294, u295, u296, u297, u298, u299, u300, u301, u302, u303, u304, u305, u306, u307, u308, u309, u310, u311, u312, u313, u314, u315, u316, u317, u318, u319, u320, u321, u322, u323, u324, u325, u326, u327, u328, u329, u330, u331, u332, u333, u334, u335, u336, u337, u338, u339], defers := [] } X := by
  conv => arg 2; whnf
  conv at hK => enter [a, w', 1, 2]; whnf
  have HT := Lib.hid htt
  have HR := Lib.hid hr
  have HX := Lib.hid hx
  have HXB := Lib.hid hxb
  have HKT := Lib.hid hkt
  have HWN := Lib.hid hwn
  have HKW := Lib.hid hkw
  have HKS := Lib.hid hks
  have HLOW9 := Lib.hid hlow
  have hwl9 := blk_lt hkw
  have hsl9 := blk_lt hks
  have htl9 := blk_lt hkt
  clear htt hr hx hxb hkt hwn hkw hks hlow
  go_wp2_with fail
  obtain ⟨iG, hiG, hzG0, hzG1, hzG2⟩ := info_parts Try.infoGa
  obtain ⟨iQ, hiQ, hzQ0, hzQ1, hzQ2⟩ := info_parts Try.infoRQ
  obtain ⟨iI, hiI, hzI0, hzI1, hzI2⟩ := info_parts Try.infoI2
  go_loopw [10, 11, 12, 13, 73] (fun vm vg vq vo i wr => ∃ (k : Nat) (ms gs : List Ga) (qs : List Qt) (os : List Int), k ≤ xs.length ∧ i = .int .i64 k ∧ Hid (ms = List.replicate k stdG ∧ gs = (xs.take k).map genF ∧ qs = (xs.take k).map quaF ∧ os = (xs.take k).map offF) ∧ JnS X ms gs qs os vm vg vq vo wr) (fun _ _ _ _ i _ => xs.length - (intOf i).toNat)
  case atStart => exact ⟨0, [], [], [], [], Nat.zero_le _, rfl, Lib.hid ⟨rfl, rfl, rfl, rfl⟩, ⟨OwnR.nil_, OwnR.nil_, (fun b h => by cases h), OwnR.nil_, OwnR.nil_, Below.refl _ _⟩⟩
  case round =>
    obtain ⟨k, ms, gs, qs, os, hk, rfl, hls, hJ⟩ := hrel
    have HJ := Lib.hid hJ
    have hml : ms.length = k := by rw [hls.out.1, List.length_replicate]
    have hgl : gs.length = k := by rw [hls.out.2.1, List.length_map, List.length_take]; omega
    have hql : qs.length = k := by rw [hls.out.2.2.1, List.length_map, List.length_take]; omega
    have hol : os.length = k := by rw [hls.out.2.2.2, List.length_map, List.length_take]; omega
    have HML := Lib.hid hml
    have HGL := Lib.hid hgl
    have HQL := Lib.hid hql
    have HOL := Lib.hid hol
    have hm8 : ms.length ≤ 8 := by omega
    have hg8 : gs.length ≤ 8 := by omega
    have hq8 : qs.length ≤ 8 := by omega
    have ho8 : os.length ≤ 8 := by omega
    clear hJ hml hgl hql hol
    by_cases hlt : k < xs.length
    · obtain ⟨b, off, hB, hbl, y0, y1, y2⟩ := (rw_to HX.out HJ.out.low).get3 (k := k) (by simpa using hlt) (by rw [List.getElem_map]; rfl)
      obtain ⟨x, hx⟩ : ∃ x, x = xs[k] := ⟨_, rfl⟩
      rw [← hx] at y0 y1 y2
      have HXK := Lib.hid hx
      obtain ⟨⟨x00, x01⟩, ⟨x10, x11⟩, x20, x21⟩ := HXB.out _ (List.getElem_mem hlt)
      rw [← hx] at x00 x01 x10 x11 x20 x21
      have hjd : decide ((k : Int) < (xs.length : Int)) = true := decide_eq_true (by omega)
      have hw0 : IntKind.i64.wrap x.1 = x.1 := IntWalk.i64_in _ (by omega)
      have hw1 : IntKind.i64.wrap x.2.1 = x.2.1 := IntWalk.i64_in _ (by omega)
      have hw2 : IntKind.i64.wrap x.2.2 = x.2.2 := IntWalk.i64_in _ (by omega)
      clear hx
      rw [hB]
      go_upto_region 12 with fail
      obtain ⟨pb, hpb⟩ : ∃ pb, pb = wr.heap.size := ⟨_, rfl⟩
      obtain ⟨Z0, hZ0⟩ : ∃ Z0, Z0 = wr.alloc (.cells #[.int .i8 x.1, .int .i8 x.2.1, .int .i8 x.2.2] 68) := ⟨_, rfl⟩
      have hz0 : Below wr.heap.size wr Z0 := by rw [hZ0]; (repeat first | (with_reducible first | assumption | exact Below.refl _ _ | refine Bl.drew ?_ | refine Bl.drewN ?_ _ | refine Bl.alloc ?_ _ | refine Bl.set ?_ _ ?_) | (with_reducible apply Bl.step'; (focus (with_reducible assumption))) | omega | (focus (simp; done)) | (focus (simp; omega)))
      have kb0 : Z0.heap[pb]? = some (.cells #[.int .i8 x.1, .int .i8 x.2.1, .int .i8 x.2.2] 68 (0, 0)) := by rw [hZ0]; exact blk_new hpb
      have hJ0 := HJ.out.next hz0
      have HJ0 := Lib.hid hJ0
      have HKB0 := Lib.hid kb0
      rw [← hZ0, ← hpb]
      obtain ⟨s0, sf0, s1, sf1⟩ := cv2 (blk_step hJ0.low HKS.out)
      have hsl := blk_lt (blk_step hJ0.low HKS.out)
      have hsz0 := hJ0.low.size
      obtain ⟨b0, bf0, b1, bf1, b2, bf2⟩ := cv3 kb0
      have hbl0 := blk_lt kb0
      clear hZ0 hz0 kb0 hJ0 y0 y1 y2 hbl hpb
      go_wp2_with (at_builtin; refine wpList_append_own_at _ rfl _ _ 66 rfl X.heap.size 65 iG (.agg #[.int .i64 0, .int .i64 0]) 2 16 Try.underlying66 hiG hzG0 hzG1 hzG2 rfl (by decide) _ _ _ rfl (OwnR.alloc HJ0.out.m _) ⟨Z0.heap.size, 0, none⟩ 1 1 (encG stdG) rfl rfl ?a1 ?a2 ?a3 ?a4 ?a5 ?_)
      case a1 => first | exact fun j u h => h | exact encS_at (x := (16, 0)) (blk_new rfl) | (intro j u h; match j, h with | 0, h => simpa [add0] using h)
      case a2 => intro u hu; simp [encG, stdG] at hu; rcases hu with rfl | rfl <;> rfl
      case a3 => unfold maxLen; (try simp); omega
      case a4 => (try simp); omega
      case a5 => (try simp); omega
      intro m1 Z1 hown hgrow _ hat
      have hJ1 := JnS.appM (x := stdG) (HJ0.out.next ((Below.refl _ Z0).alloc (Nat.le_refl _) (.cells #[.int .i64 16, .int .i64 0] 65))) hown hgrow (by simpa using hat)
      have kb1 := own_blkT (OwnR.alloc HJ0.out.m (.cells #[.int .i64 16, .int .i64 0] 65)) hgrow (blk_alloc HKB0.out) (by decide)
      have HJ1 := Lib.hid hJ1
      have HKB1 := Lib.hid kb1
      obtain ⟨b0, bf0, b1, bf1, b2, bf2⟩ := cv3 kb1
      have hbl1 := blk_lt kb1
      have hsz1 := hJ1.low.size
      clear hown hgrow hat s0 sf0 s1 sf1 hsl hJ1 kb1 hsz0 hbl0
      go_upto_region 13 with fail
      go_wp2_with (at_builtin; refine wpList_append_own_at _ rfl _ _ 66 rfl X.heap.size 65 iG (.agg #[.int .i64 0, .int .i64 0]) 2 16 Try.underlying66 hiG hzG0 hzG1 hzG2 rfl (by decide) _ _ _ rfl (OwnR.alloc HJ1.out.g _) ⟨Z1.heap.size, 0, none⟩ 1 1 (encG (genF x)) rfl rfl ?b1 ?b2 ?b3 ?b4 ?b5 ?_)
      case b1 => first | exact fun j u h => h | exact encS_at (x := (x.1.tmod 40, x.2.1.tmod 12)) (blk_new rfl) | (intro j u h; match j, h with | 0, h => simpa [add0] using h)
      case b2 => intro u hu; simp [encG, genF] at hu; rcases hu with rfl | rfl <;> rfl
      case b3 => unfold maxLen; (try simp); omega
      case b4 => (try simp); omega
      case b5 => (try simp); omega
      intro g2 Z2 hown hgrow _ hat
      have hJ2 := JnS.appG (x := genF x) (HJ1.out.next ((Below.refl _ Z1).alloc (Nat.le_refl _) (.cells #[.int .i64 (x.1.tmod 40), .int .i64 (x.2.1.tmod 12)] 65))) hown hgrow (by simpa using hat)
      have kb2 := own_blkT (OwnR.alloc HJ1.out.g (.cells #[.int .i64 (x.1.tmod 40), .int .i64 (x.2.1.tmod 12)] 65)) hgrow (blk_alloc HKB1.out) (by decide)
      have HJ2 := Lib.hid hJ2
      have HKB2 := Lib.hid kb2
      obtain ⟨b0, bf0, b1, bf1, b2, bf2⟩ := cv3 kb2
      have hbl2 := blk_lt kb2
      have hsz2 := hJ2.low.size
      clear hown hgrow hat hJ2 kb2 hsz1 hbl1
      obtain ⟨m90, m91⟩ := tmod_bd (a := x.1) (m := 9) (by omega)
      obtain ⟨m30, m31⟩ := tmod_bd (a := x.2.2) (m := 31) (by omega)
      go_upto_region 14 with fail
      go_wp2_with (at_builtin; refine wpList_append_own_at _ rfl _ _ 39 rfl X.heap.size 43 iQ (.agg #[.int .i64 0, .int .i64 0]) 2 16 Try.underlying39 hiQ hzQ0 hzQ1 hzQ2 rfl (by decide) _ _ _ rfl (OwnR.alloc HJ2.out.q _) ⟨Z2.heap.size, 0, none⟩ 1 1 (encQ (quaF x)) rfl rfl ?c1 ?c2 ?c3 ?c4 ?c5 ?_)
      case c1 => first | exact fun j u h => h | exact encS_at (x := (10 + x.1.tmod 9, 0)) (blk_new rfl) | (intro j u h; match j, h with | 0, h => simpa [add0] using h)
      case c2 => intro u hu; simp [encQ, quaF] at hu; rcases hu with rfl | rfl <;> rfl
      case c3 => unfold maxLen; (try simp); omega
      case c4 => (try simp); omega
      case c5 => (try simp); omega
      intro q3 Z3 hown hgrow _ hat
      have hJ3 := JnS.appQ (x := quaF x) (HJ2.out.next ((Below.refl _ Z2).alloc (Nat.le_refl _) (.cells #[.int .i64 (10 + x.1.tmod 9), .int .i64 0] 43))) hown hgrow
      have kb3 := own_blkT (OwnR.alloc HJ2.out.q (.cells #[.int .i64 (10 + x.1.tmod 9), .int .i64 0] 43)) hgrow (blk_alloc HKB2.out) (by decide)
      have HJ3 := Lib.hid hJ3
      have HKB3 := Lib.hid kb3
      obtain ⟨b0, bf0, b1, bf1, b2, bf2⟩ := cv3 kb3
      have hbl3 := blk_lt kb3
      have hsz3 := hJ3.low.size
      clear hown hgrow hat hJ3 kb3 hsz2 hbl2
      go_upto_region 15 with fail
      go_wp2_with (at_builtin; refine wpList_append_own_at _ rfl _ _ 46 rfl X.heap.size 3 iI (.int .i64 0) 1 8 Try.underlying46 hiI hzI0 hzI1 hzI2 rfl (by decide) _ _ _ rfl (OwnR.alloc HJ3.out.o _) ⟨Z3.heap.size, 0, none⟩ 1 1 ([.int .i64 (offF x)]) rfl rfl ?d1 ?d2 ?d3 ?d4 ?d5 ?_)
      case d1 => first | exact fun j u h => h | exact encS_at (x := (0, 0)) (blk_new rfl) | (intro j u h; match j, h with | 0, h => simpa [add0, offF] using h)
      case d2 => intro u hu; simp at hu; subst hu; rfl
      case d3 => unfold maxLen; (try simp); omega
      case d4 => (try simp); omega
      case d5 => (try simp); omega
      intro o4 Z4 hown hgrow _ _
      have hJ4 := JnS.appO (x := offF x) (HJ3.out.next ((Below.refl _ Z3).alloc (Nat.le_refl _) (.cells #[.int .i64 (offF x)] 3))) hown hgrow
      have HJ4 := Lib.hid hJ4
      clear hown hgrow hJ4 b0 bf0 b1 bf1 b2 bf2 hsz3 hbl3
      go_wp2_with fail
      go_roundw
      case rel => exact ⟨k + 1, _, _, _, _, hlt, by go_num, Lib.hid ⟨by rw [hls.out.1, List.replicate_succ'], by rw [hls.out.2.1, HXK.out, List.take_succ_eq_append_getElem hlt, List.map_append]; rfl, by rw [hls.out.2.2.1, HXK.out, List.take_succ_eq_append_getElem hlt, List.map_append]; rfl, by rw [hls.out.2.2.2, HXK.out, List.take_succ_eq_append_getElem hlt, List.map_append]; rfl⟩, HJ4.out⟩
      case measure => simp [intOf]; omega
    · obtain rfl : k = xs.length := by omega
      obtain ⟨hms, hgs, hqs, hos⟩ := hls.out
      rw [List.take_length] at hgs hqs hos
      obtain ⟨MA, mc, hMA, _, hmr⟩ := HJ.out.m.rw_ encG_len
      obtain ⟨GA, gc, hGA, _, hgr⟩ := HJ.out.g.rw_ encG_len
      obtain ⟨QA, qc, hQA, _, hqr⟩ := HJ.out.q.rw_ encQ_len
      obtain ⟨OA, oc, hOA, _, hor⟩ := HJ.out.o.ints.rw_
      rw [List.length_map, HML.out] at hMA
      rw [List.length_map, HGL.out] at hGA
      rw [List.length_map, HQL.out] at hQA
      rw [HOL.out] at hOA
      subst hMA hGA hQA hOA
      have hgo : ∀ x ∈ gs, okGa x := fun x hx => by
        rw [hgs] at hx
        obtain ⟨y, _, rfl⟩ := List.mem_map.1 hx
        exact gen_ok y
      have hqo : ∀ x ∈ qs, okQ x := fun x hx => by
        rw [hqs] at hx
        obtain ⟨y, _, rfl⟩ := List.mem_map.1 hx
        exact qua_ok y
      have hoo : ∀ x ∈ os, 0 ≤ x ∧ x ≤ 30 := fun x hx => by
        rw [hos] at hx
        obtain ⟨y, _, rfl⟩ := List.mem_map.1 hx
        exact off_bd y
      have HMS := Lib.hid hms
      have HGO := Lib.hid hgo
      have HQO := Lib.hid hqo
      have HOO := Lib.hid hoo
      have HGR := Lib.hid hgr
      have HMR := Lib.hid hmr
      have HQR := Lib.hid hqr
      have HOR := Lib.hid hor
      obtain ⟨n, hn⟩ : ∃ n, n = xs.length := ⟨_, rfl⟩
      rw [← hn] at HML HGL HQL HOL ⊢
      have hn1 : 1 ≤ n := by omega
      have hn8 : n ≤ 8 := by omega
      have hms2 : ms = List.replicate n stdG := by rw [hn]; exact HMS.out
      clear HMS
      have HMS := Lib.hid hms2
      clear hms2
      clear hn hlt
      have HLOW := Lib.hid (HLOW9.out.trans (HJ.out.low.mono HLOW9.out.size))
      have HKW2 := Lib.hid (blk_step HJ.out.low HKW.out)
      have HKS2 := Lib.hid (blk_step HJ.out.low HKS.out)
      have HKT2 := Lib.hid (blk_step HJ.out.low HKT.out)
      have HTT := Lib.hid HT.out
      clear hmr hms hgs hqs hos hgo hqo hoo hgr hqr hor hls hm8 hg8 hq8 ho8 hk
      have hnd : decide ((n : Int) < (n : Int)) = false := decide_eq_false (by omega)
      go_upto_region 17 with fail
      rename_i K17 hK17
      exact jd_t17 w wr A B c c2 pt room NU HO ls wb sb n MA GA QA OA mc gc qc oc ms gs qs os HTT.out (rw_to HR.out HJ.out.low) HKT2.out HWN.out hho0 hho1 HKW2.out HKS2.out HMR.out HGR.out HQR.out HOR.out HMS.out HGL.out HQL.out HOL.out HGO.out HQO.out HOO.out hn1 hn8 HLOW.out _ _ _ _ _ _ _ _ _ _ _ _ _ _ _ _ _ _ _ _ _ _ _ _ _ _ _ _ _ _ _ _ _ _ _ _ _ _ _ _ _ _ _ _ _ _ _ _ _ _ _ _ _ _ _ _ _ _ _ _ _ _ _ _ _ _ _ _ _ _ _ _ _ _ _ _ _ _ _ _ _ _ _ _ _ _ _ _ _ _ _ _ _ _ _ _ _ _ _ _ _ _ _ _ _ _ _ _ _ _ _ _ _ _ _ _ _ _ _ _ _ _ _ _ _ _ _ _ _ _ _ _ _ _ _ _ _ _ _ _ _ _ _ _ _ _ _ _ _ _ _ _ _ _ _ _ _ _ _ _ _ _ _ _ _ _ _ _ _ _ _ _ _ _ _ _ _ _ _ _ _ _ _ _ _ _ _ _ _ _ _ _ _ _ _ _ _ _ _ _ _ _ _ _ _ _ _ _ _ _ _ _ _ _ _ _ _ _ _ _ _ _ _ _ _ _ _ _ _ _ _ _ _ _ _ _ _ _ _ _ _ _ _ _ _ _ _ _ _ _ _ _ _ _ _ _ _ _ _ _ _ _ _ _ _ _ _ _ _ _ _ _ _ _ _ _ _ _ _ _ _ _ _ _ _ _ _ _ _ _ _ _ _ _ _ _ _ _ _ _ _ _ _ _ _ _ _ _ _ _ _ _ _ _ _ _ _ _ _ _ _ _ _ _ _ _ _ _ _ _ _ _ hK17
end Go.Proofs.Ytgljpjcclncknaa
namespace Go.Proofs.Ytgljpjcclncknaa
open Go.RowKit

set_option maxRecDepth 100000 in
set_option maxHeartbeats 16000000 in
theorem Joind_c (B : Option Addr) (c2 : Nat) (xs : List (Int × Int × Int)) (room : Int) (A : Option Addr) (c : Nat) (ls : List Lay) (n0 n1 : Int) (w : World) (hx : Rw w w.heap.size 3 B (xs.map encY))
    (hxb : ∀ s ∈ xs, (-128 ≤ s.1 ∧ s.1 ≤ 127) ∧ (-128 ≤ s.2.1 ∧ s.2.1 ≤ 127) ∧ -128 ≤ s.2.2 ∧ s.2.2 ≤ 127) (hr : Rw w w.heap.size 2 A (ls.map encL)) (hn0 : 0 ≤ n0 ∧ n0 ≤ 255) (hn1 : 0 ≤ n1 ∧ n1 ≤ 255) :
    Calls Try.prog 4 #[.slice B xs.length c2, .agg #[.int .i64 room, .slice A ls.length c], .agg #[.int .u8 n0, .int .u8 n1]] w (RetSl w) := by
  have HR := Lib.hid hr
  have HX := Lib.hid hx
  have HXB := Lib.hid hxb
  obtain ⟨n00, n01⟩ := hn0
  obtain ⟨n10, n11⟩ := hn1
  obtain ⟨W0, hW0⟩ : ∃ W0, W0 = (w.alloc (.cells #[.int .i64 room, .slice A ls.length c] 24)).alloc (.cells #[.int .u8 n0, .int .u8 n1] 61) := ⟨_, rfl⟩
  have hb0 : Below w.heap.size w W0 := by rw [hW0]; (repeat first | (with_reducible first | assumption | exact Below.refl _ _ | refine Bl.drew ?_ | refine Bl.drewN ?_ _ | refine Bl.alloc ?_ _ | refine Bl.set ?_ _ ?_) | (with_reducible apply Bl.step'; (focus (with_reducible assumption))) | omega | (focus (simp; done)) | (focus (simp; omega)))
  have kt0 : W0.heap[w.heap.size]? = some (.cells #[.int .i64 room, .slice A ls.length c] 24 (0, 0)) := by rw [hW0]; exact blk_alloc (blk_new rfl)
  have kp0 : W0.heap[w.heap.size + 1]? = some (.cells #[.int .u8 n0, .int .u8 n1] 61 (0, 0)) := by rw [hW0]; exact blk_new (by simp)
  clear hr hx hxb
  go_enter Try.func4, Try.ntmps4
  go_wp2_with fail
  rw [← hW0]
  clear hW0
  refine (thistleSale_c W0).mono ?_
  rintro e w1 ⟨rfl, hb1⟩
  have kt1 := blk_step hb1 kt0
  have kp1 := blk_step hb1 kp0
  have HBW1 := Lib.hid (hb0.trans (hb1.mono hb0.size))
  clear kt0 kp0 hb0 hb1
  by_cases hl1 : xs.length < 1
  · have hl2 : decide ((xs.length : Int) < 1) = true := decide_eq_true (by omega)
    go_wp2_with fail
    refine (thistleSale_c w1).mono ?_
    rintro e w4 ⟨rfl, hb4⟩
    go_wp2_with fail
    go_ret
    exact ⟨rfl, HBW1.out.trans (hb4.mono HBW1.out.size)⟩
  have hl2 : decide ((xs.length : Int) < 1) = false := decide_eq_false (by omega)
  by_cases hl8 : 8 < xs.length
  · have hl9 : decide (8 < (xs.length : Int)) = true := decide_eq_true (by omega)
    go_wp2_with fail
    refine (thistleSale_c w1).mono ?_
    rintro e w4 ⟨rfl, hb4⟩
    go_wp2_with fail
    go_ret
    exact ⟨rfl, HBW1.out.trans (hb4.mono HBW1.out.size)⟩
  have hl9 : decide (8 < (xs.length : Int)) = false := decide_eq_false (by omega)
  obtain ⟨t0, tf0, t1, tf1⟩ := cv2 kt1
  have ytl := blk_lt kt1
  go_wp2_with fail
  refine (rCheckTank_c room A c ls w1 (rw_to HR.out HBW1.out)).mono ?_
  rintro e w2 ⟨nT, rfl, hT, hb2⟩
  have kt2 := blk_step hb2 kt1
  have kp2 := blk_step hb2 kp1
  have HBW2 := Lib.hid (HBW1.out.trans (hb2.mono HBW1.out.size))
  clear kt1 kp1 hb2 t0 tf0 t1 tf1 ytl
  by_cases hnT : nT = 0
  · have HT := Lib.hid (hT hnT)
    have hnT2 : (nT != 0) = false := by simp [hnT]
    clear hT hnT
    obtain ⟨p0, pf0, p1, pf1⟩ := cv2 kp2
    have ypl := blk_lt kp2
    have hw0 : IntKind.i64.wrap n0 = n0 := IntWalk.i64_in _ (by omega)
    have hw1 : IntKind.i64.wrap n1 = n1 := IntWalk.i64_in _ (by omega)
    go_upto_region 8 with fail
    rename_i K9 hK9
    obtain ⟨NU, hNU⟩ : ∃ NU, NU = 1 + n0 % 4 := ⟨_, rfl⟩
    obtain ⟨HO, hHO⟩ : ∃ HO, HO = 1 + n1 % 3 := ⟨_, rfl⟩
    obtain ⟨W9, hW9⟩ : ∃ W9, W9 = (w2.alloc (.cells #[.int .i64 NU, .int .i64 4, .int .i64 25, .int .i64 400] 63)).alloc (.cells #[.int .i64 16, .int .i64 0] 65) := ⟨_, rfl⟩
    rw [← hNU, ← hHO, ← hW9]
    have hb9 : Below w2.heap.size w2 W9 := by rw [hW9]; (repeat first | (with_reducible first | assumption | exact Below.refl _ _ | refine Bl.drew ?_ | refine Bl.drewN ?_ _ | refine Bl.alloc ?_ _ | refine Bl.set ?_ _ ?_) | (with_reducible apply Bl.step'; (focus (with_reducible assumption))) | omega | (focus (simp; done)) | (focus (simp; omega)))
    have kW9 : W9.heap[w2.heap.size]? = some (.cells #[.int .i64 NU, .int .i64 4, .int .i64 25, .int .i64 400] 63 (0, 0)) := by rw [hW9]; exact blk_alloc (blk_new rfl)
    have kS9 : W9.heap[w2.heap.size + 1]? = some (.cells #[.int .i64 16, .int .i64 0] 65 (0, 0)) := by rw [hW9]; exact blk_new (by simp)
    have kT9 := blk_step hb9 kt2
    have HBW9 := Lib.hid (HBW2.out.trans (hb9.mono HBW2.out.size))
    have hNU0 : 1 ≤ NU := by omega
    have hNU1 : NU ≤ 4 := by omega
    have hHO0 : 1 ≤ HO := by omega
    have hHO1 : HO ≤ 3 := by omega
    have hwn : okWin ⟨NU, 4, 25, 400⟩ := ⟨by simp only; omega, by simp only; omega, (show (1 : Int) ≤ 4 by decide), (show (4 : Int) ≤ 1000 by decide), (show (0 : Int) ≤ 25 by decide), (show (25 : Int) ≤ 1000 by decide), (show (0 : Int) ≤ 400 by decide), (show (400 : Int) ≤ 1000 by decide), (show (25 : Int) ≤ 400 by decide)⟩
    have HWN := Lib.hid hwn
    obtain ⟨wb, hwb⟩ : ∃ wb, wb = w2.heap.size := ⟨_, rfl⟩
    obtain ⟨sb, hsb⟩ : ∃ sb, sb = w2.heap.size + 1 := ⟨_, rfl⟩
    rw [← hwb] at kW9
    rw [← hsb] at kS9
    rw [← hsb, ← hwb]
    have HKW := Lib.hid kW9
    have HKS := Lib.hid kS9
    have HKT := Lib.hid kT9
    have hwl9 := blk_lt kW9
    have hsl9 := blk_lt kS9
    have htl9 := blk_lt kT9
    clear hNU hHO hW9 hb9 kW9 kS9 kT9 hwb hsb kt2 kp2 p0 pf0 p1 pf1 hwn n00 n01 n10 n11 hw0 hw1
    exact jd_t9 w W9 A B c c2 w.heap.size room NU HO ls xs wb sb HT.out (rw_to HR.out HBW9.out) (rw_to HX.out HBW9.out) HXB.out HKT.out HWN.out hHO0 hHO1 HKW.out HKS.out (by omega) (by omega) HBW9.out _ _ _ _ _ _ _ _ _ _ _ _ _ _ _ _ _ _ _ _ _ _ _ _ _ _ _ _ _ _ _ _ _ _ _ _ _ _ _ _ _ _ _ _ _ _ _ _ _ _ _ _ _ _ _ _ _ _ _ _ _ _ _ _ _ _ _ _ _ _ _ _ _ _ _ _ _ _ _ _ _ _ _ _ _ _ _ _ _ _ _ _ _ _ _ _ _ _ _ _ _ _ _ _ _ _ _ _ _ _ _ _ _ _ _ _ _ _ _ _ _ _ _ _ _ _ _ _ _ _ _ _ _ _ _ _ _ _ _ _ _ _ _ _ _ _ _ _ _ _ _ _ _ _ _ _ _ _ _ _ _ _ _ _ _ _ _ _ _ _ _ _ _ _ _ _ _ _ _ _ _ _ _ _ _ _ _ _ _ _ _ _ _ _ _ _ _ _ _ _ _ _ _ _ _ _ _ _ _ _ _ _ _ _ _ _ _ _ _ _ _ _ _ _ _ _ _ _ _ _ _ _ _ _ _ _ _ _ _ _ _ _ _ _ _ _ _ _ _ _ _ _ _ _ _ _ _ _ _ _ _ _ _ _ _ _ _ _ _ _ _ _ _ _ _ _ _ _ _ _ _ _ _ _ _ _ _ _ _ _ _ _ _ _ _ _ _ _ _ _ _ _ _ _ _ _ _ _ _ _ _ _ _ _ _ _ _ _ _ _ _ _ _ _ _ _ _ _ _ _ _ _ _ hK9
  · have hnT2 : (nT != 0) = true := by simp [hnT]
    clear hT hnT
    go_wp2_with fail
    refine (thistleSale_c w2).mono ?_
    rintro e w4 ⟨rfl, hb4⟩
    go_wp2_with fail
    go_ret
    exact ⟨rfl, HBW2.out.trans (hb4.mono HBW2.out.size)⟩
end Go.Proofs.Ytgljpjcclncknaa

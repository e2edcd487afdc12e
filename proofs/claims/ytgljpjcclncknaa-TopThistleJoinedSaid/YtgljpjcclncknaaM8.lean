/- TopThistleJoined: the law from the region 23 on. -/
import Derived.Test.YtgljpjcclncknaaM7
import Derived.Test.YtgljpjcclncknaaM4
namespace Go.Proofs.Ytgljpjcclncknaa
open Go.RowKit

/-- What stands behind the region with a number. -/
noncomputable def jdN (n : Nat) : Code := match jdT n with | .seq _ b => b | c => c
set_option maxRecDepth 100000 in
set_option maxHeartbeats 16000000 in
theorem jd_t23 (w X : World) (A B : Option Addr) (c c2 pt : Nat) (room NU HO JJ a r : Int) (ls : List Lay) (wb sb n : Nat) (GA QA OA : Option Addr) (gc qc oc : Nat) (ms gs : List Ga) (qs : List Qt) (os : List Int) (htt : okT room ls) (hr : Rw X X.heap.size 2 A (ls.map encL)) (hkt : X.heap[pt]? = some (.cells #[.int .i64 room, .slice A ls.length c] 24 (0, 0))) (hwn : okWin ⟨NU, 4, 25, 400⟩) (hho : 1 ≤ HO) (hkw : X.heap[wb]? = some (.cells #[.int .i64 NU, .int .i64 4, .int .i64 25, .int .i64 400] 63 (0, 0))) (hks : X.heap[sb]? = some (.cells #[.int .i64 16, .int .i64 0] 65 (0, 0))) (hg : Rw X X.heap.size 2 GA (gs.map encG)) (hq : Rw X X.heap.size 2 QA (qs.map encQ)) (ho : IntsR X X.heap.size OA os) (hms : ms = List.replicate n stdG) (hgl : gs.length = n) (hql : qs.length = n) (hol : os.length = n) (hgo : ∀ x ∈ gs, okGa x) (hqo : ∀ x ∈ qs, okQ x) (hoo : ∀ x ∈ os, 0 ≤ x ∧ x ≤ 30) (hjp : JoinP (stepK ⟨NU, 4, 25, 400⟩ ms gs) HO n a r) (hjj : JJ = joinAt n a r) (hn1 : 1 ≤ n) (hn8 : n ≤ 8) (hlow : Below w.heap.size w X) (u1 u2 u3 u5 u6 u10 u14 u15 u16 u17 u19 u20 u21 u22 u23 u24 u25 u26 u27 u28 u29 u30 u31 u32 u33 u34 u35 u36 u37 u38 u39 u40 u41 u42 u43 u44 u45 u46 u47 u48 u49 u50 u51 u52 u53 u54 u55 u56 u57 u58 u59 u60 u61 u62 u63 u64 u65 u66 u67 u68 u69 u70 u71 u72 u73 u74 u75 u76 u77 u78 u79 u80 u81 u82 u83 u84 u85 u86 u87 u88 u89 u90 u91 u92 u93 u94 u95 u96 u97 u98 u99 u100 u101 u102 u103 u104 u105 u106 u107 u108 u109 u110 u111 u112 u113 u114 u115 u116 u117 u118 u119 u120 u121 u122 u123 u124 u125 u126 u127 u128 u129 u130 u131 u132 u133 u134 u135 u136 u137 u138 u139 u140 u141 u142 u143 u144 u145 u146 u147 u148 u149 u150 u151 u152 u153 u154 u155 u156 u157 u158 u159 u160 u161 u162 u163 u164 u165 u166 u167 u168 u169 u170 u171 u172 u173 u174 u175 u176 u177 u178 u179 u180 u181 u182 u183 u184 u185 u186 u187 u188 u189 u190 u191 u192 u193 u194 u195 u196 u197 u198 u199 u200 u201 u202 u203 u204 u205 u206 u207 u208 u209 u210 u211 u212 u213 u214 u215 u216 u217 u218 u219 u220 u221 u222 u223 u224 u225 u226 u227 u228 u229 u230 u231 u232 u233 u234 u235 u236 u237 u238 u239 u240 u241 u242 u243 u244 u245 u246 u247 u248 u249 u250 u251 u252 u253 u254 u255 u256 u257 u258 u259 u260 u261 u262 u263 u264 u265 u266 u267 u268 u269 u270 u271 u272 u273 u274 u275 u276 u277 u278 u279 u280 u281 u282 u283 u284 u285 u286 u287 u288 u289 u290 u291 u292 u293 u294 u295 u296 u297 u298 u299 u300 u301 u302 u303 u304 u305 u306 u307 u308 u309 u310 u311 u312 u313 u314 u315 u316 u317 u318 u319 u320 u321 u322 u323 u324 u325 u326 u327 u328 u329 u330 u331 u332 u333 u334 u335 u336 u337 u338 u339 : Value) (K : Act → World → Prop)
  (hK : ∀ (a : Act) (w' : World), Code.wp Try.prog (jdN 23) (bodyPost Try.prog Try.f4 (RetSl w)) a w' → K a w') :
  Code.wp Try.prog (jdR 23) (Exit.then K (bodyPost Try.prog Try.f4 (RetSl w))) { tmps := #[.slice B n c2, u1, u2, u3, .pointer (some ⟨pt, 0, none⟩), u5, u6, .pointer (some ⟨wb, 0, none⟩), .int .i64 HO, .pointer (some ⟨sb, 0, none⟩), u10, .slice GA n gc, .slice QA n qc, .slice OA n oc, u14, u15, u16, u17, .int .i64 JJ, u19, u20, u21, u22, u23, u24, u25, u26, u27, u28, u29, u30, u31, u32, u33, u34, u35, u36, u37, u38, u39, u40, u41, u42, u43, u44, u45, u46, u47, u48, u49, u50, u51, u52, u53, u54, u55, u56, u57, u58, u59, u60, u61, u62, u63, u64, u65, u66, u67, u68, u69, u70, u71, u72, u73, u74, u75, u76, u77, u78, u79, u80, u81, u82, u83, u84, u85, u86, u87, u88, u89, u90, u91, u92, u93, u94, u95, u96, u97, u98, u99, u100, u101, u102, u103, u104, u105, u106, u107, u108, u109, u110, u111, u112, u113, u114, u115, u116, u117, u118, u119, u120, u121, u122, u123, u124, u125, u126, u127, u128, u129, u130, u131, u132, u133, u134, u135, u136, u137, u138, u139, u140, u141, u142, u143, u144, u145, u146, u147, u148, u149, u150, u151, u152, u153, u154, u155, u156, u157, u158, u159, u160, u161, u162, u163, u164, u165, u166, u167, u168, u169, u170, u171, u172, u173, u174, u175, u176, u177, u178, u179, u180, u181, u182, u183, u184, u185, u186, u187, u188, u189, u190, u191, u192, u193, u194, u195, u196, u197, u198, u199, u200, u201, u202, u203, u204, u205, u206, u207, u208, u209, u210, u211, u212, u213, u214, u215, u216, u217, u218, u219, u220, u221, u222, u223, u224, u225, u226, u227, u228, u229, u230, u231, u232, u233, u234, u235, u236, u237, u238, u239, u240, u241, u242, u243, u244, u245, u246, u247, u248, u249, u250, u251, u252, u253, u254, u255, u256, u257, u258, u259, u260, u261, u262, u263, u264, u265, u266, u267, u268, u269, u270, u271, u272, u273, u274, u275, u276, u277, u278, u279, u280, u281, u282, u283, u284, u285, u286, u287, u288, u289, u290, u291, u292, u293, u294, u295, u296, u297, u298, u299, u300, u301, u302, u303, u304, u305, u306, u307, u308, u309, u310, u311, u312, u313, u314, u315, u316, u317, u318, u319, u320, u321, u322, u323, u324, u325, u326, u327, u328, u329, u330, u331, u332, u333, u334, u335, u336, u337, u338, u339], defers := [] } X := by
  conv => arg 2; whnf
  conv at hK => enter [a, w', 1, 2]; whnf
  have HGA := Lib.hid hg
  have HQA := Lib.hid hq
  have HOA := Lib.hid ho
  have HR := Lib.hid hr
  have HTT := Lib.hid htt
  have HKTA := Lib.hid hkt
  have HKWA := Lib.hid hkw
  have HKSA := Lib.hid hks
  have HWN := Lib.hid hwn
  have HGL := Lib.hid hgl
  have HQL := Lib.hid hql
  have HOL := Lib.hid hol
  have HGO := Lib.hid hgo
  have HQO := Lib.hid hqo
  have HOO := Lib.hid hoo
  have HJP := Lib.hid hjp
  have HJJ := Lib.hid hjj
  have HMS := Lib.hid hms
  have HLOW := Lib.hid hlow
  obtain ⟨jb0, jb1, _, _, _, _⟩ := join_bd hjp
  rw [← hjj] at jb0 jb1
  clear hg hq ho hr htt hkt hkw hks hwn hgl hql hol hgo hqo hoo hjp hjj hms hlow
  obtain ⟨ST, hST⟩ : ∃ ST, ST = stepK ⟨NU, 4, 25, 400⟩ ms gs := ⟨_, rfl⟩
  have HSTK := Lib.hid (show ∀ (k : Nat) (h : k < gs.length), ST k = stepB ⟨NU, 4, 25, 400⟩ stdG gs[k] from fun k h => by
    rw [hST, HMS.out]; exact stepK_rep (by have := HGL.out; omega) HGL.out)
  rw [← hST] at HJP
  clear hST HMS
  go_wp2_with fail
  go_loopw [19, 153] (fun rv i wr => ∃ k : Nat, k ≤ n ∧ i = .int .i64 k ∧ rv = .int .i64 (heldK ST k) ∧ Below X.heap.size X wr) (fun _ i _ => n - (intOf i).toNat)
  case atStart => exact ⟨0, Nat.zero_le _, rfl, rfl, Below.refl _ _⟩
  case round =>
    obtain ⟨k, hk, rfl, rfl, hbl⟩ := hrel
    have HBL := Lib.hid hbl
    clear hbl
    by_cases hlt : k < n
    · have hgk : k < gs.length := by have := HGL.out; omega
      obtain ⟨gb, gof, hB, hgbl, y0, y1⟩ := (rw_to HGA.out HBL.out).get2 (k := k) (by simpa using hgk) (by rw [List.getElem_map]; rfl)
      have hsk := HSTK.out k hgk
      have hgok := HGO.out _ (List.getElem_mem hgk)
      obtain ⟨g, hg⟩ : ∃ g, g = gs[k] := ⟨_, rfl⟩
      rw [← hg] at hsk y0 y1 hgok
      obtain ⟨BS, hBS⟩ : ∃ BS, BS = stepB ⟨NU, 4, 25, 400⟩ stdG g := ⟨_, rfl⟩
      have HBS := Lib.hid (show stepB ⟨NU, 4, 25, 400⟩ ⟨16, 0⟩ g = BS from hBS.symm)
      have hrun : heldK ST (k + 1) = if BS then heldK ST k + 1 else 0 := by rw [heldK, hsk, ← hBS]
      have hjo := join_ok hho HJP.out hlt
      rw [← HJJ.out] at hjo
      obtain ⟨rb0, rb1⟩ := heldK_bd ST k
      obtain ⟨R0, hR0⟩ : ∃ R0, R0 = heldK ST k := ⟨_, rfl⟩
      obtain ⟨R1, hR1⟩ : ∃ R1, R1 = heldK ST (k + 1) := ⟨_, rfl⟩
      rw [← hR0] at hrun rb0 rb1 ⊢
      rw [← hR1] at hrun hjo
      have HR1 := Lib.hid hR1
      have hkd : decide ((k : Int) < (n : Int)) = true := decide_eq_true (by omega)
      have hcs : (decide (HO ≤ R1) = true ∧ ((k : Int) = JJ)) ∨ (decide (HO ≤ R1) = false ∧ (k : Int) ≠ JJ) ∨ (decide (HO ≤ R1) = true ∧ JJ < k) := by
        by_cases hle : (k : Int) ≤ JJ
        · have h := hjo hle
          by_cases he : (k : Int) = JJ
          · left; exact ⟨by rw [h]; exact decide_eq_true he, he⟩
          · right; left; exact ⟨by rw [h]; exact decide_eq_false he, he⟩
        · by_cases hh : HO ≤ R1
          · right; right; exact ⟨decide_eq_true hh, by omega⟩
          · right; left; exact ⟨decide_eq_false hh, by omega⟩
      clear hg hsk hBS hjo hR0 hR1
      rw [hB]
      go_upto_region 27 with fail
      refine jd_r27 wr NU gc wb sb gb gof n k g HWN.out hgok hlt hn8 y0 y1 (blk_step HBL.out HKSA.out) (blk_step HBL.out HKWA.out) _ _ _ _ _ _ _ _ _ _ _ _ _ _ _ _ _ _ _ _ _ _ _ _ _ _ _ _ _ _ _ _ _ _ _ _ _ _ _ _ _ _ _ _ _ _ _ _ _ _ _ _ _ _ _ _ _ _ _ _ _ _ _ _ _ _ _ _ _ _ _ _ _ _ _ _ _ _ _ _ _ _ _ _ _ _ _ _ _ _ _ _ _ _ _ _ _ _ _ _ _ _ _ _ _ _ _ _ _ _ _ _ _ _ _ _ _ _ _ _ _ _ _ _ _ _ _ _ _ _ _ _ _ _ _ _ _ _ _ _ _ _ _ _ _ _ _ _ _ _ _ _ _ _ _ _ _ _ _ _ _ _ _ _ _ _ _ _ _ _ _ _ _ _ _ _ _ _ _ _ _ _ _ _ _ _ _ _ _ _ _ _ _ _ _ _ _ _ _ _ _ _ _ _ _ _ _ _ _ _ _ _ _ _ _ _ _ _ _ _ _ _ _ _ _ _ _ _ _ _ _ _ _ _ _ _ _ _ _ _ _ _ _ _ _ _ _ _ _ _ _ _ _ _ _ _ _ _ _ _ _ _ _ _ _ _ _ _ _ _ _ _ _ _ _ _ _ _ _ _ _ _ _ _ _ _ _ _ _ _ _ _ _ _ _ _ _ _ _ _ _ _ _ _ _ _ _ _ _ _ _ _ _ _ _ _ _ _ _ _ _ _ _ _ _ _ _ _ _ _ _ _ _ _ _ _ _ _ ?_
      intro v157 v158 v159 v160 v161 v162 v163 v156 v164 v165 wx hbx
      dsimp only
      rw [HBS.out]
      have HBX := Lib.hid (HBL.out.trans (hbx.mono HBL.out.size))
      clear hbx y0 y1 hgok HBS
      rcases BS with _ | _
      all_goals
        simp only [if_true, Bool.false_eq_true, if_false] at hrun
        subst hrun
        rcases hcs with ⟨d1, d2⟩ | ⟨d1, d2⟩ | ⟨d1, d2⟩
      all_goals
        first
        | (exfalso; have := of_decide_eq_true d1; omega)
        | (have e1 : decide ((k : Int) = JJ) = true := decide_eq_true d2
           have e2 : ((k : Int) == JJ) = true := by rw [beq_iff_eq]; exact d2
           have e3 : decide ((k : Int) ≤ JJ) = true := decide_eq_true (by omega)
           go_wp2_with fail)
        | (have e1 : decide ((k : Int) = JJ) = false := decide_eq_false d2
           have e2 : ((k : Int) == JJ) = false := by rw [beq_eq_false_iff_ne]; exact d2
           go_wp2_with fail)
        | (have e1 : decide ((k : Int) = JJ) = false := decide_eq_false (by omega)
           have e2 : ((k : Int) == JJ) = false := by rw [beq_eq_false_iff_ne]; omega
           have e3 : decide ((k : Int) ≤ JJ) = false := decide_eq_false (by omega)
           go_wp2_with fail)
      all_goals go_roundw
      all_goals first
        | exact ⟨k + 1, hlt, by go_num, by rw [← HR1.out], HBX.out⟩
        | (simp [intOf]; omega)
    · obtain rfl : n = k := by omega
      go_upto_region 36 with fail
      rename_i K36 hK36
      exact jd_t36 w wr A B c c2 pt room JJ ls n QA OA qc oc qs os HTT.out (rw_to HR.out HBL.out) (blk_step HBL.out HKTA.out) (rw_to HQA.out HBL.out) (HOA.out.to HBL.out) HQL.out HOL.out HQO.out HOO.out hn1 hn8 (HLOW.out.trans (HBL.out.mono HLOW.out.size)) _ _ _ _ _ _ _ _ _ _ _ _ _ _ _ _ _ _ _ _ _ _ _ _ _ _ _ _ _ _ _ _ _ _ _ _ _ _ _ _ _ _ _ _ _ _ _ _ _ _ _ _ _ _ _ _ _ _ _ _ _ _ _ _ _ _ _ _ _ _ _ _ _ _ _ _ _ _ _ _ _ _ _ _ _ _ _ _ _ _ _ _ _ _ _ _ _ _ _ _ _ _ _ _ _ _ _ _ _ _ _ _ _ _ _ _ _ _ _ _ _ _ _ _ _ _ _ _ _ _ _ _ _ _ _ _ _ _ _ _ _ _ _ _ _ _ _ _ _ _ _ _ _ _ _ _ _ _ _ _ _ _ _ _ _ _ _ _ _ _ _ _ _ _ _ _ _ _ _ _ _ _ _ _ _ _ _ _ _ _ _ _ _ _ _ _ _ _ _ _ _ _ _ _ _ _ _ _ _ _ _ _ _ _ _ _ _ _ _ _ _ _ _ _ _ _ _ _ _ _ _ _ _ _ _ _ _ _ _ _ _ _ _ _ _ _ _ _ _ _ _ _ _ _ _ _ _ _ _ _ _ _ _ _ _ _ _ _ _ _ _ _ _ _ _ _ _ _ _ _ _ _ _ _ _ _ _ _ _ _ _ _ _ _ _ _ _ _ _ _ _ _ _ _ _ _ _ _ _ _ _ _ _ _ _ _ _ _ _ _ _ _ _ _ _ _ _ _ _ _ _ _ _ _ _ _ hK36
end Go.Proofs.Ytgljpjcclncknaa
namespace Go.Proofs.Ytgljpjcclncknaa
open Go.RowKit

set_option maxRecDepth 100000 in
set_option maxHeartbeats 16000000 in
theorem jd_t17 (w X : World) (A B : Option Addr) (c c2 pt : Nat) (room NU HO : Int) (ls : List Lay) (wb sb n : Nat) (MA GA QA OA : Option Addr) (mc gc qc oc : Nat) (ms gs : List Ga) (qs : List Qt) (os : List Int) (htt : okT room ls) (hr : Rw X X.heap.size 2 A (ls.map encL)) (hkt : X.heap[pt]? = some (.cells #[.int .i64 room, .slice A ls.length c] 24 (0, 0))) (hwn : okWin ⟨NU, 4, 25, 400⟩) (hHO0 : 1 ≤ HO) (hHO1 : HO ≤ 3) (hkw : X.heap[wb]? = some (.cells #[.int .i64 NU, .int .i64 4, .int .i64 25, .int .i64 400] 63 (0, 0))) (hks : X.heap[sb]? = some (.cells #[.int .i64 16, .int .i64 0] 65 (0, 0))) (hmr : GaR X X.heap.size MA ms) (hg : Rw X X.heap.size 2 GA (gs.map encG)) (hq : Rw X X.heap.size 2 QA (qs.map encQ)) (ho : IntsR X X.heap.size OA os) (hms : ms = List.replicate n stdG) (hgl : gs.length = n) (hql : qs.length = n) (hol : os.length = n) (hgo : ∀ x ∈ gs, okGa x) (hqo : ∀ x ∈ qs, okQ x) (hoo : ∀ x ∈ os, 0 ≤ x ∧ x ≤ 30) (hn1 : 1 ≤ n) (hn8 : n ≤ 8) (hlow : Below w.heap.size w X) (u1 u2 u3 u5 u6 u14 u15 u16 u17 u18 u19 u20 u21 u22 u23 u24 u25 u26 u27 u28 u29 u30 u31 u32 u33 u34 u35 u36 u37 u38 u39 u40 u41 u42 u43 u44 u45 u46 u47 u48 u49 u50 u51 u52 u53 u54 u55 u56 u57 u58 u59 u60 u61 u62 u63 u64 u65 u66 u67 u68 u69 u70 u71 u72 u73 u74 u75 u76 u77 u78 u79 u80 u81 u82 u83 u84 u85 u86 u87 u88 u89 u90 u91 u92 u93 u94 u95 u96 u97 u98 u99 u100 u101 u102 u103 u104 u105 u106 u107 u108 u109 u110 u111 u112 u113 u114 u115 u116 u117 u118 u119 u120 u121 u122 u123 u124 u125 u126 u127 u128 u129 u130 u131 u132 u133 u134 u135 u136 u137 u138 u139 u140 u141 u142 u143 u144 u145 u146 u147 u148 u149 u150 u151 u152 u153 u154 u155 u156 u157 u158 u159 u160 u161 u162 u163 u164 u165 u166 u167 u168 u169 u170 u171 u172 u173 u174 u175 u176 u177 u178 u179 u180 u181 u182 u183 u184 u185 u186 u187 u188 u189 u190 u191 u192 u193 u194 u195 u196 u197 u198 u199 u200 u201 u202 u203 u204 u205 u206 u207 u208 u209 u210 u211 u212 u213 u214 u215 u216 u217 u218 u219 u220 u221 u222 u223 u224 u225 u226 u227 u228 u229 u230 u231 u232 u233 u234 u235 u236 u237 u238 u239 u240 u241 u242 u243 u244 u245 u246 u247 u248 u249 u250 u251 u252 u253 u254 u255 u256 u257 u258 u259 u260 u261 u262 u263 u264 u265 u266 u267 u268 u269 u270 u271 u272 u273 u274 u275 u276 u277 u278 u279 u280 u281 u282 u283 u284 u285 u286 u287 u288 u289 u290 u291 u292 u293 u294 u295 u296 u297 u298 u299 u300 u301 u302 u303 u304 u305 u306 u307 u308 u309 u310 u311 u312 u313 u314 u315 u316 u317 u318 u319 u320 u321 u322 u323 u324 u325 u326 u327 u328 u329 u330 u331 u332 u333 u334 u335 u336 u337 u338 u339 : Value) (K : Act → World → Prop)
  (hK : ∀ (a : Act) (w' : World), Code.wp Try.prog (jdN 17) (bodyPost Try.prog Try.f4 (RetSl w)) a w' → K a w') :
  Code.wp Try.prog (jdR 17) (Exit.then K (bodyPost Try.prog Try.f4 (RetSl w))) { tmps := #[.slice B n c2, u1, u2, u3, .pointer (some ⟨pt, 0, none⟩), u5, u6, .pointer (some ⟨wb, 0, none⟩), .int .i64 HO, .pointer (some ⟨sb, 0, none⟩), .slice MA n mc, .slice GA n gc, .slice QA n qc, .slice OA n oc, u14, u15, u16, u17, u18, u19, u20, u21, u22, u23, u24, u25, u26, u27, u28, u29, u30, u31, u32, u33, u34, u35, u36, u37, u38, u39, u40, u41, u42, u43, u44, u45, u46, u47, u48, u49, u50, u51, u52, u53, u54, u55, u56, u57, u58, u59, u60, u61, u62, u63, u64, u65, u66, u67, u68, u69, u70, u71, u72, u73, u74, u75, u76, u77, u78, u79, u80, u81, u82, u83, u84, u85, u86, u87, u88, u89, u90, u91, u92, u93, u94, u95, u96, u97, u98, u99, u100, u101, u102, u103, u104, u105, u106, u107, u108, u109, u110, u111, u112, u113, u114, u115, u116, u117, u118, u119, u120, u121, u122, u123, u124, u125, u126, u127, u128, u129, u130, u131, u132, u133, u134, u135, u136, u137, u138, u139, u140, u141, u142, u143, u144, u145, u146, u147, u148, u149, u150, u151, u152, u153, u154, u155, u156, u157, u158, u159, u160, u161, u162, u163, u164, u165, u166, u167, u168, u169, u170, u171, u172, u173, u174, u175, u176, u177, u178, u179, u180, u181, u182, u183, u184, u185, u186, u187, u188, u189, u190, u191, u192, u193, u194, u195, u196, u197, u198, u199, u200, u201, u202, u203, u204, u205, u206, u207, u208, u209, u210, u211, u212, u213, u214, u215, u216, u217, u218, u219, u220, u221, u222, u223, u224, u225, u226, u227, u228, u229, u230, u231, u232, u233, u234, u235, u236, u237, u238, u239, u240, u241, u242, u243, u244, u245, u246, u247, u248, u249, u250, u251, u252, u253, u254, u255, u256, u257, u258, u259, u260, u261, u262, u263, u264, u265, u266, u267, u268, u269, u270, u271, u272, u273, u274, u275, u276, u277, u278, u279, u280, u281, u282, u283, u284, u285, u286, u287, u288, u289, u290, u291, u292, u293, u294, u295, u296, u297, u298, u299, u300, u301, u302, u303, u304, u305, u306, u307, u308, u309, u310, u311, u312, u313, u314, u315, u316, u317, u318, u319, u320, u321, u322, u323, u324, u325, u326, u327, u328, u329, u330, u331, u332, u333, u334, u335, u336, u337, u338, u339], defers := [] } X := by
  conv => arg 2; whnf
  conv at hK => enter [a, w', 1, 2]; whnf
  have HTT := Lib.hid htt
  have HR := Lib.hid hr
  have HKT2 := Lib.hid hkt
  have HWN := Lib.hid hwn
  have HKW2 := Lib.hid hkw
  have HKS2 := Lib.hid hks
  have HGR := Lib.hid hg
  have HQR := Lib.hid hq
  have HOR := Lib.hid ho
  have HMS := Lib.hid hms
  have HML := Lib.hid (show ms.length = n by rw [hms, List.length_replicate])
  have HGL := Lib.hid hgl
  have HQL := Lib.hid hql
  have HOL := Lib.hid hol
  have HGO := Lib.hid hgo
  have HQO := Lib.hid hqo
  have HOO := Lib.hid hoo
  have HLOW := Lib.hid hlow
  have hmo : ∀ x ∈ ms, okGa x := fun x hx => by rw [hms] at hx; rw [List.eq_of_mem_replicate hx]; exact ⟨by decide, by decide, by decide, by decide⟩
  have hmz : ∀ x ∈ ms, ¬(x.re = 0 ∧ x.im = 0) := fun x hx => by rw [hms] at hx; rw [List.eq_of_mem_replicate hx]; decide
  clear htt hr hkt hwn hkw hks hg hq ho hms hgl hql hol hgo hqo hoo hlow
  refine jd_r17 X NU HO MA GA mc gc wb n ms gs HWN.out HML.out HGL.out hn8 hmo HGO.out hmz hHO0 hHO1 hmr HGR.out HKW2.out _ _ _ _ _ _ _ _ _ _ _ _ _ _ _ _ _ _ _ _ _ _ _ _ _ _ _ _ _ _ _ _ _ _ _ _ _ _ _ _ _ _ _ _ _ _ _ _ _ _ _ _ _ _ _ _ _ _ _ _ _ _ _ _ _ _ _ _ _ _ _ _ _ _ _ _ _ _ _ _ _ _ _ _ _ _ _ _ _ _ _ _ _ _ _ _ _ _ _ _ _ _ _ _ _ _ _ _ _ _ _ _ _ _ _ _ _ _ _ _ _ _ _ _ _ _ _ _ _ _ _ _ _ _ _ _ _ _ _ _ _ _ _ _ _ _ _ _ _ _ _ _ _ _ _ _ _ _ _ _ _ _ _ _ _ _ _ _ _ _ _ _ _ _ _ _ _ _ _ _ _ _ _ _ _ _ _ _ _ _ _ _ _ _ _ _ _ _ _ _ _ _ _ _ _ _ _ _ _ _ _ _ _ _ _ _ _ _ _ _ _ _ _ _ _ _ _ _ _ _ _ _ _ _ _ _ _ _ _ _ _ _ _ _ _ _ _ _ _ _ _ _ _ _ _ _ _ _ _ _ _ _ _ _ _ _ _ _ _ _ _ _ _ _ _ _ _ _ _ _ _ _ _ _ _ _ _ _ _ _ _ _ _ _ _ _ _ _ _ _ _ _ _ _ _ _ _ _ _ _ _ _ _ _ _ _ _ _ _ _ _ _ _ _ _ _ _ _ _ _ _ _ _ _ _ _ _ _ ?_
  intro v113 v114 v115 v116 v117 v118 v119 v120 v121 v112 v122 v123 wa a r hjp hba
  dsimp only
  rw [HML.out] at hjp
  have HJP := Lib.hid hjp
  obtain ⟨jb0, jb1, ja0, ja1, jr, jra⟩ := join_bd hjp
  clear hmo hmz hmr hjp
  have HBA := Lib.hid hba
  clear hba
  have HJR := Lib.hid jr
  have HJA := Lib.hid jra
  clear jr jra jb0 jb1
  have HLA := Lib.hid (HLOW.out.trans (HBA.out.mono HLOW.out.size))
  have HKWA := Lib.hid (blk_step HBA.out HKW2.out)
  have HKSA := Lib.hid (blk_step HBA.out HKS2.out)
  have HKTA := Lib.hid (blk_step HBA.out HKT2.out)
  rcases HJR.out with rfl | rfl
  · obtain ⟨jc0, jc1⟩ := HJA.out rfl
    have ht1 : decide (a < HO - 1) = false := decide_eq_false (by omega)
    have ht2 : decide ((n : Int) ≤ a) = false := decide_eq_false (by omega)
    go_upto_region 23 with fail
    rename_i K23 hK23
    exact jd_t23 w wa A B c c2 pt room NU HO a a 0 ls wb sb n GA QA OA gc qc oc ms gs qs os HTT.out (rw_to HR.out HBA.out) HKTA.out HWN.out hHO0 HKWA.out HKSA.out (rw_to HGR.out HBA.out) (rw_to HQR.out HBA.out) (HOR.out.to HBA.out) HMS.out HGL.out HQL.out HOL.out HGO.out HQO.out HOO.out HJP.out rfl hn1 hn8 HLA.out _ _ _ _ _ _ _ _ _ _ _ _ _ _ _ _ _ _ _ _ _ _ _ _ _ _ _ _ _ _ _ _ _ _ _ _ _ _ _ _ _ _ _ _ _ _ _ _ _ _ _ _ _ _ _ _ _ _ _ _ _ _ _ _ _ _ _ _ _ _ _ _ _ _ _ _ _ _ _ _ _ _ _ _ _ _ _ _ _ _ _ _ _ _ _ _ _ _ _ _ _ _ _ _ _ _ _ _ _ _ _ _ _ _ _ _ _ _ _ _ _ _ _ _ _ _ _ _ _ _ _ _ _ _ _ _ _ _ _ _ _ _ _ _ _ _ _ _ _ _ _ _ _ _ _ _ _ _ _ _ _ _ _ _ _ _ _ _ _ _ _ _ _ _ _ _ _ _ _ _ _ _ _ _ _ _ _ _ _ _ _ _ _ _ _ _ _ _ _ _ _ _ _ _ _ _ _ _ _ _ _ _ _ _ _ _ _ _ _ _ _ _ _ _ _ _ _ _ _ _ _ _ _ _ _ _ _ _ _ _ _ _ _ _ _ _ _ _ _ _ _ _ _ _ _ _ _ _ _ _ _ _ _ _ _ _ _ _ _ _ _ _ _ _ _ _ _ _ _ _ _ _ _ _ _ _ _ _ _ _ _ _ _ _ _ _ _ _ _ _ _ _ _ _ _ _ _ _ _ _ _ _ _ _ _ _ _ _ _ _ _ _ _ _ _ _ _ _ _ _ _ _ hK23
  · go_upto_region 23 with fail
    rename_i K23 hK23
    exact jd_t23 w wa A B c c2 pt room NU HO (n : Int) a 7 ls wb sb n GA QA OA gc qc oc ms gs qs os HTT.out (rw_to HR.out HBA.out) HKTA.out HWN.out hHO0 HKWA.out HKSA.out (rw_to HGR.out HBA.out) (rw_to HQR.out HBA.out) (HOR.out.to HBA.out) HMS.out HGL.out HQL.out HOL.out HGO.out HQO.out HOO.out HJP.out rfl hn1 hn8 HLA.out _ _ _ _ _ _ _ _ _ _ _ _ _ _ _ _ _ _ _ _ _ _ _ _ _ _ _ _ _ _ _ _ _ _ _ _ _ _ _ _ _ _ _ _ _ _ _ _ _ _ _ _ _ _ _ _ _ _ _ _ _ _ _ _ _ _ _ _ _ _ _ _ _ _ _ _ _ _ _ _ _ _ _ _ _ _ _ _ _ _ _ _ _ _ _ _ _ _ _ _ _ _ _ _ _ _ _ _ _ _ _ _ _ _ _ _ _ _ _ _ _ _ _ _ _ _ _ _ _ _ _ _ _ _ _ _ _ _ _ _ _ _ _ _ _ _ _ _ _ _ _ _ _ _ _ _ _ _ _ _ _ _ _ _ _ _ _ _ _ _ _ _ _ _ _ _ _ _ _ _ _ _ _ _ _ _ _ _ _ _ _ _ _ _ _ _ _ _ _ _ _ _ _ _ _ _ _ _ _ _ _ _ _ _ _ _ _ _ _ _ _ _ _ _ _ _ _ _ _ _ _ _ _ _ _ _ _ _ _ _ _ _ _ _ _ _ _ _ _ _ _ _ _ _ _ _ _ _ _ _ _ _ _ _ _ _ _ _ _ _ _ _ _ _ _ _ _ _ _ _ _ _ _ _ _ _ _ _ _ _ _ _ _ _ _ _ _ _ _ _ _ _ _ _ _ _ _ _ _ _ _ _ _ _ _ _ _ _ _ _ _ _ _ _ _ _ _ _ _ _ _ _ hK23
end Go.Proofs.Ytgljpjcclncknaa

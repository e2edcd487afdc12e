/- TopThistleJoined: the law from the region 55 on. -/
import Derived.Test.YtgljpjcclncknaaM3
namespace Go.Proofs.Ytgljpjcclncknaa
open Go.RowKit

set_option maxRecDepth 100000 in
set_option maxHeartbeats 16000000 in
theorem jd_t55 (w X : World) (room S1 D BL : Int) (cur : List Lay) (AT : Option Addr) (cT tb n m : Nat) (QA OA DA SA : Option Addr) (qc oc dc sc : Nat) (qs : List Qt) (os ds : List Int) (MS : List (Int × Int)) (htt : okT room cur) (hS1 : S1 = sumH cur + D) (hS2 : S1 ≤ 1000000000) (hD0 : 0 ≤ D) (hr : Rw X X.heap.size 2 AT (cur.map encL)) (hkt : X.heap[tb]? = some (.cells #[.int .i64 room, .slice AT cur.length cT] 33 (0, 0))) (hq : Rw X X.heap.size 2 QA (qs.map encQ)) (ho : IntsR X X.heap.size OA os) (hd : IntsR X X.heap.size DA ds) (hs : Rw X X.heap.size 2 SA (MS.map encS)) (hml : MS.length = m) (hms : MS = stS os ds n) (hbl : BL = stB qs os ds 50 n) (hql : qs.length = n) (hol : os.length = n) (hdl : ds.length = n) (hqo : ∀ x ∈ qs, okQ x) (hoo : ∀ x ∈ os, 0 ≤ x ∧ x ≤ 30) (hdo : ∀ x ∈ ds, 0 ≤ x ∧ x ≤ 30) (hn1 : 1 ≤ n) (hn8 : n ≤ 8) (hlow : Below w.heap.size w X) (u0 u1 u2 u3 u4 u5 u6 u7 u8 u9 u10 u11 u14 u15 u16 u17 u18 u19 u20 u21 u22 u30 u31 u32 u33 u34 u35 u36 u37 u38 u39 u40 u41 u42 u43 u44 u45 u46 u47 u48 u49 u50 u51 u52 u53 u54 u55 u56 u57 u58 u59 u60 u61 u62 u63 u64 u65 u66 u67 u68 u69 u70 u71 u72 u73 u74 u75 u76 u77 u78 u79 u80 u81 u82 u83 u84 u85 u86 u87 u88 u89 u90 u91 u92 u93 u94 u95 u96 u97 u98 u99 u100 u101 u102 u103 u104 u105 u106 u107 u108 u109 u110 u111 u112 u113 u114 u115 u116 u117 u118 u119 u120 u121 u122 u123 u124 u125 u126 u127 u128 u129 u130 u131 u132 u133 u134 u135 u136 u137 u138 u139 u140 u141 u142 u143 u144 u145 u146 u147 u148 u149 u150 u151 u152 u153 u154 u155 u156 u157 u158 u159 u160 u161 u162 u163 u164 u165 u166 u167 u168 u169 u170 u171 u172 u173 u174 u175 u176 u177 u178 u179 u180 u181 u182 u183 u184 u185 u186 u187 u188 u189 u190 u191 u192 u193 u194 u195 u196 u197 u198 u199 u200 u201 u202 u203 u204 u205 u206 u207 u208 u209 u210 u211 u212 u213 u214 u215 u216 u217 u218 u219 u220 u221 u222 u223 u224 u225 u226 u227 u228 u229 u230 u231 u232 u233 u234 u235 u236 u237 u238 u239 u240 u241 u242 u243 u244 u245 u246 u247 u248 u249 u250 u251 u252 u253 u254 u255 u256 u257 u258 u259 u260 u261 u262 u263 u264 u265 u266 u267 u268 u269 u270 u271 u272 u273 u274 u275 u276 u277 u278 u279 u280 u281 u282 u283 u284 u285 u286 u287 u288 u289 u290 u291 u292 u293 u294 u295 u296 u297 u298 u299 u300 u301 u302 u303 u304 u305 u306 u307 u308 u309 u310 u311 u312 u313 u314 u315 u316 u317 u318 u319 u320 u321 u322 u323 u324 u325 u326 u327 u328 u329 u330 u331 u332 u333 u334 u335 u336 u337 u338 u339 : Value) (K : Act → World → Prop)
  (hK : ∀ (a : Act) (w' : World), Code.wp Try.prog (jdT 56) (bodyPost Try.prog Try.f4 (RetSl w)) a w' → K a w') :
  Code.wp Try.prog (jdR 55) (Exit.then K (bodyPost Try.prog Try.f4 (RetSl w))) { tmps := #[u0, u1, u2, u3, u4, u5, u6, u7, u8, u9, u10, u11, .slice QA n qc, .slice OA n oc, u14, u15, u16, u17, u18, u19, u20, u21, u22, .pointer (some ⟨tb, 0, none⟩), .int .i64 S1, .int .i64 0, .slice DA n dc, .int .i64 D, .int .i64 BL, .slice SA m sc, u30, u31, u32, u33, u34, u35, u36, u37, u38, u39, u40, u41, u42, u43, u44, u45, u46, u47, u48, u49, u50, u51, u52, u53, u54, u55, u56, u57, u58, u59, u60, u61, u62, u63, u64, u65, u66, u67, u68, u69, u70, u71, u72, u73, u74, u75, u76, u77, u78, u79, u80, u81, u82, u83, u84, u85, u86, u87, u88, u89, u90, u91, u92, u93, u94, u95, u96, u97, u98, u99, u100, u101, u102, u103, u104, u105, u106, u107, u108, u109, u110, u111, u112, u113, u114, u115, u116, u117, u118, u119, u120, u121, u122, u123, u124, u125, u126, u127, u128, u129, u130, u131, u132, u133, u134, u135, u136, u137, u138, u139, u140, u141, u142, u143, u144, u145, u146, u147, u148, u149, u150, u151, u152, u153, u154, u155, u156, u157, u158, u159, u160, u161, u162, u163, u164, u165, u166, u167, u168, u169, u170, u171, u172, u173, u174, u175, u176, u177, u178, u179, u180, u181, u182, u183, u184, u185, u186, u187, u188, u189, u190, u191, u192, u193, u194, u195, u196, u197, u198, u199, u200, u201, u202, u203, u204, u205, u206, u207, u208, u209, u210, u211, u212, u213, u214, u215, u216, u217, u218, u219, u220, u221, u222, u223, u224, u225, u226, u227, u228, u229, u230, u231, u232, u233, u234, u235, u236, u237, u238, u239, u240, u241, u242, u243, u244, u245, u246, u247, u248, u249, u250, u251, u252, u253, u254, u255, u256, u257, u258, u259, u260, u261, u262, u263, u264, u265, u266, u267, u268, u269, u270, u271, u272, u273, u274, u275, u276, u277, u278, u279, u280, u281, u282, u283, u284, u285, u286, u287, u288, u289, u290, u291, u292, u293, u294, u295, u296, u297, u298, u299, u300, u301, u302, u303, u304, u305, u306, u307, u308, u309, u310, u311, u312, u313, u314, u315, u316, u317, u318, u319, u320, u321, u322, u323, u324, u325, u326, u327, u328, u329, u330, u331, u332, u333, u334, u335, u336, u337, u338, u339], defers := [] } X := by
  conv => arg 2; whnf
  conv at hK => enter [a, w', 1, 2]; whnf
  have HTT := Lib.hid htt
  have HQ := Lib.hid hq
  have HO := Lib.hid ho
  have HD := Lib.hid hd
  have HS := Lib.hid hs
  have HML := Lib.hid hml
  have HMS := Lib.hid hms
  have HBL := Lib.hid hbl
  have HQL := Lib.hid hql
  have HOL := Lib.hid hol
  have HDL := Lib.hid hdl
  have HQO := Lib.hid hqo
  have HOO := Lib.hid hoo
  have HDO := Lib.hid hdo
  have HLOW := Lib.hid hlow
  have HR := Lib.hid hr
  have HTE := Lib.hid (fun (A : Option Addr) (c : Nat) (W : World) (h : Rw W W.heap.size 2 A (cur.map encL)) => Enthalpy_c room A c cur W HTT.out h)
  have hcl := htt.len
  have hSp := (sum_nonneg fun y hy => (htt.each y hy).nn).2
  have hm8 : m ≤ 8 := by rw [← hml, hms]; exact Nat.le_trans (stS_len os ds n) hn8
  obtain ⟨SH, hSH⟩ : ∃ SH, SH = sumH cur := ⟨_, rfl⟩
  rw [← hSH] at hS1 hSp
  have hne : (S1 != SH + D) = false := by rw [hS1]; simp
  have hSw0 : 0 ≤ SH + D := by omega
  have hSw : SH + D ≤ 1000000000 := by omega
  have HSH := Lib.hid hSH
  obtain ⟨t0, tf0, t1, tf1⟩ := cv2 hkt
  have htl := blk_lt hkt
  clear htt hq ho hd hs hml hms hbl hql hol hdl hqo hoo hdo hlow hr hS1 hSH hkt
  go_wp2_with fail
  refine (thistleOwn_c room AT cT cur X (by omega) HR.out).mono ?_
  rintro e wa ⟨Aa, ca, rfl, hoa, hba⟩
  have HBA := Lib.hid hba
  have HQa := Lib.hid (show Rw wa wa.heap.size 2 QA (qs.map encQ) from rw_to HQ.out hba)
  clear t0 tf0 t1 tf1 htl hba HR HQ
  go_wp2_with fail
  refine (HTE.out Aa ca wa hoa.row.1).mono ?_
  rintro e wb ⟨rfl, hbb⟩
  rw [← HSH.out]
  have HBB := Lib.hid (HBA.out.trans (hbb.mono HBA.out.size))
  have HQb := Lib.hid (show Rw wb wb.heap.size 2 QA (qs.map encQ) from rw_to HQa.out hbb)
  clear hoa hbb HQa HBA HTE
  obtain ⟨j0, hj, hjz0, hjz1, hjz2⟩ := info_parts Try.infoI2
  have HLO := Lib.hid (show (os.map fun n => [Value.int .i64 n]).length = n by rw [List.length_map, HOL.out])
  have HLD := Lib.hid (show (ds.map fun n => [Value.int .i64 n]).length = n by rw [List.length_map, HDL.out])
  have HTQ := Lib.hid (fun (W : World) (h : Rw W W.heap.size 2 QA (qs.map encQ)) => thistleQuarters_c QA qc qs W (by have := HQL.out; omega) h)
  rw [HQL.out] at HTQ
  go_wp2_with fail
  refine (HTQ.out wb HQb.out).mono ?_
  rintro e we ⟨v1, rfl, ho1, hbe⟩
  obtain ⟨A1, c1, hv1, _, hq1⟩ := ho1.rw_ encQ_len
  rw [List.length_map, HQL.out] at hv1
  subst hv1
  have HQ1 := Lib.hid hq1
  have HBE := Lib.hid (HBB.out.trans (hbe.mono HBB.out.size))
  have HO1 := Lib.hid (show IntsR we we.heap.size OA os from HO.out.to HBE.out)
  have HD1 := Lib.hid (show IntsR we we.heap.size DA ds from HD.out.to HBE.out)
  have hXs := HBE.out.size
  clear ho1 hq1 hbe HBB HQb HTQ
  go_wp2_with (at_builtin; refine wpList_append_fresh _ rfl (.tmp 286) (.tmp 287) 46 rfl X.heap.size 3 j0 (.int .i64 0) 1 8 Try.underlying46 hj hjz0 hjz1 hjz2 rfl (by decide) _ rfl OA n oc rfl (blk_new rfl) (os.map fun n => [Value.int .i64 n]) HLO.out (rw_to HO1.out (by (repeat first | (with_reducible first | assumption | exact Below.refl _ _ | refine Bl.drew ?_ | refine Bl.drewN ?_ _ | refine Bl.alloc ?_ _ | refine Bl.set ?_ _ ?_) | (with_reducible apply Bl.step'; (focus (with_reducible assumption))) | omega | (focus (simp; done)) | (focus (simp; omega))))) ints_len ints_one (by unfold maxLen; omega) (by omega) (by omega) (by simp; omega) ?_)
  intro v3 w3 ho3 hb3
  obtain ⟨A3, c3, hv3, _, hi3⟩ := ho3.ints.rw_
  rw [HOL.out] at hv3
  subst hv3
  have hb3' : Below we.heap.size we w3 := ((Below.refl _ we).alloc (Nat.le_refl _) _).trans (hb3.mono (by simp))
  have HI3 := Lib.hid hi3
  have HB3 := Lib.hid hb3'
  have HD2 := Lib.hid (show IntsR w3 w3.heap.size DA ds from HD1.out.to hb3')
  have h3s : X.heap.size ≤ w3.heap.size := Nat.le_trans hXs hb3'.size
  clear ho3 hi3 hb3 hb3'
  go_wp2_with (at_builtin; refine wpList_append_fresh _ rfl (.tmp 289) (.tmp 290) 46 rfl X.heap.size 3 j0 (.int .i64 0) 1 8 Try.underlying46 hj hjz0 hjz1 hjz2 rfl (by decide) _ rfl DA n dc rfl (blk_new rfl) (ds.map fun n => [Value.int .i64 n]) HLD.out (rw_to HD2.out (by (repeat first | (with_reducible first | assumption | exact Below.refl _ _ | refine Bl.drew ?_ | refine Bl.drewN ?_ _ | refine Bl.alloc ?_ _ | refine Bl.set ?_ _ ?_) | (with_reducible apply Bl.step'; (focus (with_reducible assumption))) | omega | (focus (simp; done)) | (focus (simp; omega))))) ints_len ints_one (by unfold maxLen; omega) (by omega) (by omega) (by simp; omega) ?_)
  intro v4 w4 ho4 hb4
  obtain ⟨A4, c4, hv4, _, hi4⟩ := ho4.ints.rw_
  rw [HDL.out] at hv4
  subst hv4
  have hb4' : Below w3.heap.size w3 w4 := ((Below.refl _ w3).alloc (Nat.le_refl _) _).trans (hb4.mono (by simp))
  have HI4 := Lib.hid hi4
  have HB4 := Lib.hid hb4'
  clear ho4 hi4 hb4 hb4'
  have HST := Lib.hid (fun (W : World) (h : Rw W W.heap.size 2 A1 (qs.map encQ)) (h2 : IntsR W W.heap.size A3 os) (h3 : IntsR W W.heap.size A4 ds) => Settled_c A1 A3 A4 c1 c3 c4 qs os ds 50 W (by have := HQL.out; omega) (by rw [HOL.out, HQL.out]) (by rw [HDL.out, HQL.out]) HQO.out HOO.out HDO.out (by omega) h h2 h3)
  rw [HQL.out] at HST
  go_wp2_with fail
  have hqa : Rw w4 w4.heap.size 2 A1 (qs.map encQ) := rw_to (rw_to HQ1.out HB3.out) HB4.out
  refine (HST.out w4 hqa (HI3.out.to HB4.out) HI4.out).mono ?_
  rintro e wf ⟨v5, rfl, ho5, hbf⟩
  rw [HQL.out, ← HMS.out] at ho5
  obtain ⟨A5, c5, hv5, _, hi5⟩ := ho5.rw_ (fun x hx => by obtain ⟨y, _, rfl⟩ := List.mem_map.1 hx; rfl)
  rw [List.length_map, HML.out] at hv5
  subst hv5
  rw [HQL.out, ← HBL.out]
  have hXf : Below X.heap.size X wf := HBE.out.trans ((HB3.out.mono hXs).trans ((HB4.out.mono h3s).trans (hbf.mono (Nat.le_trans h3s HB4.out.size))))
  have HXF := Lib.hid hXf
  have HS1 := Lib.hid (show Rw wf wf.heap.size 2 SA (MS.map encS) from rw_to HS.out hXf)
  have HS2 := Lib.hid (show Rw wf wf.heap.size 2 A5 (MS.map encS) from hi5)
  have hnb : (BL != BL) = false := by simp
  have hnm : ((m : Int) != (m : Int)) = false := by simp
  clear ho5 hbf hqa hi5 hXf HST HB3 HB4 HI3 HI4 HQ1 HBE HD1 HO1 HD2 hXs h3s
  go_wp2_with fail
  go_loopw [327] (fun i wr => ∃ j : Nat, j ≤ m ∧ i = .int .i64 j ∧ Below wf.heap.size wf wr) (fun i _ => m - (intOf i).toNat)
  case atStart => exact ⟨0, Nat.zero_le _, rfl, Below.refl _ _⟩
  case round =>
    obtain ⟨j, hj, rfl, hb⟩ := hrel
    have HB := Lib.hid hb
    clear hb
    by_cases hlt : j < m
    · have hjm : j < MS.length := by have := HML.out; omega
      obtain ⟨b1, o1, hA1, _, x0, x1⟩ := (rw_to HS1.out HB.out).get2 (k := j) (by simpa using hjm) (by rw [List.getElem_map]; rfl)
      obtain ⟨b2, o2, hA2, _, z0, z1⟩ := (rw_to HS2.out HB.out).get2 (k := j) (by simpa using hjm) (by rw [List.getElem_map]; rfl)
      obtain ⟨y, hy⟩ : ∃ y, y = MS[j] := ⟨_, rfl⟩
      rw [← hy] at x0 x1 z0 z1
      have hjd : decide ((j : Int) < (m : Int)) = true := decide_eq_true (by omega)
      have hnq := fun W => neq_sf W y.1 y.2
      have hj0 : (0 : Int) ≤ (j : Int) := by omega
      have hj1 : (j : Int) < (m : Int) := by omega
      clear hy
      rw [hA1, hA2]
      go_wp2_with fail
      go_quiet (fail)
      go_wp2_with fail
      go_roundw
      case rel => exact ⟨j + 1, hlt, by go_num, below_drewN HB.out _⟩
      case measure => simp [intOf]; omega
    · obtain rfl : m = j := by omega
      have hjd : decide ((m : Int) < (m : Int)) = false := decide_eq_false (by omega)
      go_wp2_with fail
      go_ret
      exact ⟨rfl, HLOW.out.trans ((HXF.out.trans (HB.out.mono HXF.out.size)).mono HLOW.out.size)⟩
end Go.Proofs.Ytgljpjcclncknaa

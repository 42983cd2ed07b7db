/-
  The law's loop over the wishes.
-/
import Derived.Test.YtepofpnbgbmihaaDoorM7

/-
  The law's loop over the wishes.
-/
namespace Go.Proofs.YtepofpnbgbmihaaDoor
open Go.RowKit Go.Shelf Go.Proofs.YtepofpnbgbmihaaDoorW.PrintLast
set_option linter.unusedSimpArgs false
set_option linter.unusedVariables false

theorem cross_mod (x : Int) (n : Nat) (h : 0 < n) (hx : 0 ≤ x) : ∃ m : Nat, x.tmod (n : Int) = (m : Int) ∧ m < n := by
  rw [Int.tmod_eq_emod_of_nonneg hx]
  have h1 := Int.emod_nonneg x (b := (n : Int)) (by omega)
  have h2 := Int.emod_lt_of_pos x (b := (n : Int)) (by omega)
  exact ⟨(x % (n : Int)).toNat, by omega, by omega⟩
theorem task_snoc {n : Nat} {ws : List Wi} {us : List Uk} {x : Wi} (h : TaskOk n ws us) (hl : ws.length < 100) (hx : 0 ≤ x.cross ∧ x.cross < n ∧ 0 ≤ x.al ∧ x.al < 256) : TaskOk n (ws ++ [x]) us :=
  ⟨by rw [List.length_append, List.length_singleton]; omega, h.nu, fun i y hy => by
    by_cases e : i < ws.length
    · rw [List.getElem?_append_left e] at hy; exact h.w i y hy
    · rw [List.getElem?_append_right (by omega)] at hy
      have hm := List.mem_of_getElem? hy
      rw [List.mem_singleton] at hm
      rw [hm]; exact hx, h.u⟩
def fstK (k : Nat) (c : Code) : Code := match sndK k c with
  | .seq a _ => a
  | c => c

set_option maxRecDepth 100000 in
set_option maxHeartbeats 4000000 in
theorem law_loopB {w W0 W : World} {D0 A B R N n T1 T2 : Nat} {cs1 cs2 : List Crs} {ps1 ps2 : List Pn} {xs : List Wi} {ys : List Ul} {out : List Nat} {tM : Nat → Nat} {p : Int} {sv cv1 pv1 wv uv cv2 pv2 : Value} {s : Nat → Int} {u0 u1 u3 u4 u5 u6 u7 u9 u11 u12 u13 u14 u15 u18 u19 u22 u23 u24 u25 u26 u27 u28 u29 u30 u31 u32 u33 u34 u35 u36 u37 u38 u39 u40 u41 u42 u43 u44 u45 u46 u47 u48 u49 u50 u51 u52 u53 u54 u55 u56 u57 u58 u59 u60 u61 u62 u63 u64 u65 u66 u67 u68 u69 u70 u71 u72 u73 u74 u75 u76 u77 u78 u79 u80 u81 u82 u83 u84 u85 u86 u87 u88 u89 u90 u91 u92 u93 u94 u95 u96 u97 u98 u99 u100 u101 u102 u103 u104 u105 u106 u107 u108 u109 u110 u111 u112 u113 u114 u115 u116 u117 u118 u119 u120 u121 u122 u123 u124 u125 u126 u127 u128 u129 u130 u131 u132 u133 u134 u135 u136 u137 u138 u139 u140 u141 u142 u143 u144 u145 u146 u147 u148 u149 u150 u151 u152 u153 u154 u155 u156 u157 u158 u159 u160 u161 u162 u163 u164 u165 u166 u167 u168 u169 u170 u171 u172 u173 u174 u175 u176 u177 u178 u179 u180 u181 u182 u183 u184 u185 u186 u187 u188 u189 u190 u191 u192 u193 u194 u195 u196 u197 u198 u199 u200 u201 u202 u203 u204 u205 u206 u207 u208 u209 u210 u211 u212 u213 u214 u215 u216 u217 u218 u219 u220 u221 u222 u223 u224 u225 u226 u227 u228 u229 u230 u231 u232 u233 u234 u235 u236 u237 u238 u239 u240 u241 u242 u243 u244 u245 u246 u247 u248 u249 u250 u251 u252 u253 u254 u255 u256 u257 u258 u259 u260 u261 u262 u263 u264 u265 u266 u267 u268 u269 u270 u271 u272 u273 u274 u275 u276 u277 u278 u279 u280 u281 u282 u283 u284 u285 u286 u287 u288 u289 u290 u291 u292 u293 u294 u295 u296 u297 u298 u299 u300 u301 u302 u303 u304 u305 u306 u307 u308 u309 u310 u311 u312 u313 u314 u315 u316 u317 u318 u319 u320 u321 u322 u323 u324 u325 u326 u327 u328 u329 u330 u331 u332 u333 u334 u335 u336 u337 u338 u339 u340 u341 u342 u343 u344 u345 u346 u347 u348 u349 u350 u351 u352 u353 u354 u355 u356 u357 u358 u359 u360 u361 u362 u363 u364 u365 u366 u367 u368 u369 u370 u371 u372 u373 u374 u375 u376 u377 u378 u379 u380 u381 u382 u383 u384 u385 u386 u387 u388 u389 u390 u391 u392 u393 u394 u395 u396 u397 u398 u399 u400 u401 u402 u403 u404 u405 u406 u407 u408 u409 u410 u411 u412 u413 u414 u415 u416 u417 u418 u419 u420 u421 u422 u423 u424 u425 u426 u427 u428 u429 u430 u431 u432 u433 u434 : Value} {K : Act → World → Prop}
    (hS : Same cs1 cs2 n out tM) (hn : cs1.length ≤ 20000) (hx6 : xs.length ≤ 6) (hxa : ∀ (i : Nat) (x : Wi), xs[i]? = some x → -9223372036854775808 ≤ x.cross ∧ x.cross ≤ 9223372036854775807 ∧ 0 ≤ x.al ∧ x.al < 256)
    (hA : P2At w W0 D0 A B R N cs1 cs2 ps1 ps2 xs ys tM p sv wv uv cv1 pv1 cv2 pv2 s) (hq : TkQ W0 W T1 T2 N cv1 pv1 cv2 pv2 s (.slice none 0 0) (.slice none 0 0) (.slice none 0 0) (.slice none 0 0) (.slice none 0 0) (.slice none 0 0) (.slice none 0 0) (.slice none 0 0) [] [] [] [])
    (HE : Hid (∀ {va vb : Value} {ws : List Wi} {W' : World} {u0 u1 u3 u4 u5 u6 u7 u9 u11 u12 u13 u14 u15 u18 u19 u22 u23 u24 u25 u26 u27 u28 u29 u30 u31 u32 u33 u34 u35 u36 u37 u38 u39 u40 u41 u42 u43 u44 u45 u46 u47 u48 u49 u50 u51 u52 u53 u54 u55 u56 u57 u58 u59 u60 u61 u62 u63 u64 u65 u66 u67 u68 u69 u70 u71 u72 u73 u74 u75 u76 u77 u78 u79 u80 u81 u82 u83 u84 u85 u86 u87 u88 u89 u90 u91 u92 u93 u94 u95 u96 u97 u98 u99 u100 u101 u102 u103 u104 u105 u106 u107 u108 u109 u110 u111 u112 u113 u114 u115 u116 u117 u118 u119 u120 u121 u122 u123 u124 u125 u126 u127 u128 u129 u130 u131 u132 u133 u134 u135 u136 u137 u138 u139 u140 u141 u142 u143 u144 u145 u146 u147 u148 u149 u150 u151 u152 u153 u154 u155 u156 u157 u158 u159 u160 u161 u162 u163 u164 u165 u166 u167 u168 u169 u170 u171 u172 u173 u174 u175 u176 u177 u178 u179 u180 u181 u182 u183 u184 u185 u186 u187 u188 u189 u190 u191 u192 u193 u194 u195 u196 u197 u198 u199 u200 u201 u202 u203 u204 u205 u206 u207 u208 u209 u210 u211 u212 u213 u214 u215 u216 u217 u218 u219 u220 u221 u222 u223 u224 u225 u226 u227 u228 u229 u230 u231 u232 u233 u234 u235 u236 u237 u238 u239 u240 u241 u242 u243 u244 u245 u246 u247 u248 u249 u250 u251 u252 u253 u254 u255 u256 u257 u258 u259 u260 u261 u262 u263 u264 u265 u266 u267 u268 u269 u270 u271 u272 u273 u274 u275 u276 u277 u278 u279 u280 u281 u282 u283 u284 u285 u286 u287 u288 u289 u290 u291 u292 u293 u294 u295 u296 u297 u298 u299 u300 u301 u302 u303 u304 u305 u306 u307 u308 u309 u310 u311 u312 u313 u314 u315 u316 u317 u318 u319 u320 u321 u322 u323 u324 u325 u326 u327 u328 u329 u330 u331 u332 u333 u334 u335 u336 u337 u338 u339 u340 u341 u342 u343 u344 u345 u346 u347 u348 u349 u350 u351 u352 u353 u354 u355 u356 u357 u358 u359 u360 u361 u362 u363 u364 u365 u366 u367 u368 u369 u370 u371 u372 u373 u374 u375 u376 u377 u378 u379 u380 u381 u382 u383 u384 u385 u386 u387 u388 u389 u390 u391 u392 u393 u394 u395 u396 u397 u398 u399 u400 u401 u402 u403 u404 u405 u406 u407 u408 u409 u410 u411 u412 u413 u414 u415 u416 u417 u418 u419 u420 u421 u422 u423 u424 u425 u426 u427 u428 u429 u430 u431 u432 u433 u434 : Value}, ws.length ≤ 6 → TaskOk cs1.length ws [] → TkQ W0 W' T1 T2 N cv1 pv1 cv2 pv2 s va vb (.slice none 0 0) (.slice none 0 0) va vb (.slice none 0 0) (.slice none 0 0) ws (ws.map (mapW tM)) [] [] → K ⟨#[u0, u1, .pointer (some ⟨D0, 0, none⟩), u3, u4, u5, u6, u7, .pointer (some ⟨A, 0, none⟩), u9, .pointer (some ⟨B, 0, none⟩), u11, u12, u13, u14, u15, .int .i64 cs1.length, .slice (some ⟨R, 0, none⟩) cs1.length cs1.length, u18, u19, .pointer (some ⟨T1, 0, none⟩), .pointer (some ⟨T2, 0, none⟩), u22, u23, u24, u25, u26, u27, u28, u29, u30, u31, u32, u33, u34, u35, u36, u37, u38, u39, u40, u41, u42, u43, u44, u45, u46, u47, u48, u49, u50, u51, u52, u53, u54, u55, u56, u57, u58, u59, u60, u61, u62, u63, u64, u65, u66, u67, u68, u69, u70, u71, u72, u73, u74, u75, u76, u77, u78, u79, u80, u81, u82, u83, u84, u85, u86, u87, u88, u89, u90, u91, u92, u93, u94, u95, u96, u97, u98, u99, u100, u101, u102, u103, u104, u105, u106, u107, u108, u109, u110, u111, u112, u113, u114, u115, u116, u117, u118, u119, u120, u121, u122, u123, u124, u125, u126, u127, u128, u129, u130, u131, u132, u133, u134, u135, u136, u137, u138, u139, u140, u141, u142, u143, u144, u145, u146, u147, u148, u149, u150, u151, u152, u153, u154, u155, u156, u157, u158, u159, u160, u161, u162, u163, u164, u165, u166, u167, u168, u169, u170, u171, u172, u173, u174, u175, u176, u177, u178, u179, u180, u181, u182, u183, u184, u185, u186, u187, u188, u189, u190, u191, u192, u193, u194, u195, u196, u197, u198, u199, u200, u201, u202, u203, u204, u205, u206, u207, u208, u209, u210, u211, u212, u213, u214, u215, u216, u217, u218, u219, u220, u221, u222, u223, u224, u225, u226, u227, u228, u229, u230, u231, u232, u233, u234, u235, u236, u237, u238, u239, u240, u241, u242, u243, u244, u245, u246, u247, u248, u249, u250, u251, u252, u253, u254, u255, u256, u257, u258, u259, u260, u261, u262, u263, u264, u265, u266, u267, u268, u269, u270, u271, u272, u273, u274, u275, u276, u277, u278, u279, u280, u281, u282, u283, u284, u285, u286, u287, u288, u289, u290, u291, u292, u293, u294, u295, u296, u297, u298, u299, u300, u301, u302, u303, u304, u305, u306, u307, u308, u309, u310, u311, u312, u313, u314, u315, u316, u317, u318, u319, u320, u321, u322, u323, u324, u325, u326, u327, u328, u329, u330, u331, u332, u333, u334, u335, u336, u337, u338, u339, u340, u341, u342, u343, u344, u345, u346, u347, u348, u349, u350, u351, u352, u353, u354, u355, u356, u357, u358, u359, u360, u361, u362, u363, u364, u365, u366, u367, u368, u369, u370, u371, u372, u373, u374, u375, u376, u377, u378, u379, u380, u381, u382, u383, u384, u385, u386, u387, u388, u389, u390, u391, u392, u393, u394, u395, u396, u397, u398, u399, u400, u401, u402, u403, u404, u405, u406, u407, u408, u409, u410, u411, u412, u413, u414, u415, u416, u417, u418, u419, u420, u421, u422, u423, u424, u425, u426, u427, u428, u429, u430, u431, u432, u433, u434], []⟩ W')) :
    Code.wp Tryd.prog (fstK 15 lawBody) (Exit.then K (bodyPost Tryd.prog Tryd.f3 (LawPost w))) ⟨#[u0, u1, .pointer (some ⟨D0, 0, none⟩), u3, u4, u5, u6, u7, .pointer (some ⟨A, 0, none⟩), u9, .pointer (some ⟨B, 0, none⟩), u11, u12, u13, u14, u15, .int .i64 cs1.length, .slice (some ⟨R, 0, none⟩) cs1.length cs1.length, u18, u19, .pointer (some ⟨T1, 0, none⟩), .pointer (some ⟨T2, 0, none⟩), u22, u23, u24, u25, u26, u27, u28, u29, u30, u31, u32, u33, u34, u35, u36, u37, u38, u39, u40, u41, u42, u43, u44, u45, u46, u47, u48, u49, u50, u51, u52, u53, u54, u55, u56, u57, u58, u59, u60, u61, u62, u63, u64, u65, u66, u67, u68, u69, u70, u71, u72, u73, u74, u75, u76, u77, u78, u79, u80, u81, u82, u83, u84, u85, u86, u87, u88, u89, u90, u91, u92, u93, u94, u95, u96, u97, u98, u99, u100, u101, u102, u103, u104, u105, u106, u107, u108, u109, u110, u111, u112, u113, u114, u115, u116, u117, u118, u119, u120, u121, u122, u123, u124, u125, u126, u127, u128, u129, u130, u131, u132, u133, u134, u135, u136, u137, u138, u139, u140, u141, u142, u143, u144, u145, u146, u147, u148, u149, u150, u151, u152, u153, u154, u155, u156, u157, u158, u159, u160, u161, u162, u163, u164, u165, u166, u167, u168, u169, u170, u171, u172, u173, u174, u175, u176, u177, u178, u179, u180, u181, u182, u183, u184, u185, u186, u187, u188, u189, u190, u191, u192, u193, u194, u195, u196, u197, u198, u199, u200, u201, u202, u203, u204, u205, u206, u207, u208, u209, u210, u211, u212, u213, u214, u215, u216, u217, u218, u219, u220, u221, u222, u223, u224, u225, u226, u227, u228, u229, u230, u231, u232, u233, u234, u235, u236, u237, u238, u239, u240, u241, u242, u243, u244, u245, u246, u247, u248, u249, u250, u251, u252, u253, u254, u255, u256, u257, u258, u259, u260, u261, u262, u263, u264, u265, u266, u267, u268, u269, u270, u271, u272, u273, u274, u275, u276, u277, u278, u279, u280, u281, u282, u283, u284, u285, u286, u287, u288, u289, u290, u291, u292, u293, u294, u295, u296, u297, u298, u299, u300, u301, u302, u303, u304, u305, u306, u307, u308, u309, u310, u311, u312, u313, u314, u315, u316, u317, u318, u319, u320, u321, u322, u323, u324, u325, u326, u327, u328, u329, u330, u331, u332, u333, u334, u335, u336, u337, u338, u339, u340, u341, u342, u343, u344, u345, u346, u347, u348, u349, u350, u351, u352, u353, u354, u355, u356, u357, u358, u359, u360, u361, u362, u363, u364, u365, u366, u367, u368, u369, u370, u371, u372, u373, u374, u375, u376, u377, u378, u379, u380, u381, u382, u383, u384, u385, u386, u387, u388, u389, u390, u391, u392, u393, u394, u395, u396, u397, u398, u399, u400, u401, u402, u403, u404, u405, u406, u407, u408, u409, u410, u411, u412, u413, u414, u415, u416, u417, u418, u419, u420, u421, u422, u423, u424, u425, u426, u427, u428, u429, u430, u431, u432, u433, u434], []⟩ W := by
  obtain ⟨wa, wc, rfl, -, hwr⟩ := hA.wr.slice
  have HXA := Lib.hid hxa
  have HS := Lib.hid hS
  have HA := Lib.hid hA
  have HQ0 := Lib.hid hq
  have HWR := Lib.hid hwr
  clear hxa hS hA hq hwr
  conv => arg 2; whnf
  go_wp2_with fail
  go_loopw [22] (fun i wr => ∃ (k : Nat) (va vb : Value) (ws : List Wi), k ≤ xs.length ∧ i = .int .i64 k ∧ TkQ W0 wr T1 T2 N cv1 pv1 cv2 pv2 s va vb (.slice none 0 0) (.slice none 0 0) va vb (.slice none 0 0) (.slice none 0 0) ws (ws.map (mapW tM)) [] [] ∧ ws.length ≤ k ∧ Hid (TaskOk cs1.length ws [])) (fun i _ => xs.length - (intOf i).toNat)
  case atStart => exact ⟨0, _, _, [], Nat.zero_le _, rfl, HQ0.out, Nat.le_refl _, ⟨by decide, by decide, (fun i x hx => by cases hx), (fun i x hx => by cases hx)⟩⟩
  case round =>
    obtain ⟨k, va, vb, ws, hk, rfl, hq, hwk, HTK⟩ := hrel
    have HQ := Lib.hid hq
    have hAr := HA.out.later hq.below
    have hcW : wr.cell? ⟨D0, 2, none⟩ = some (.slice wa xs.length wc) := by rw [cell_of_row _ _ 2 _ _ _ hAr.d]; rfl
    have HAr := Lib.hid hAr
    have hw64 : wrap64 ((k : Int) + 1) = (k : Int) + 1 := w64_succ k (by omega)
    have hk0 : (0 : Int) ≤ (k : Int) := by omega
    clear hq HQ0 hAr
    by_cases hlt : k < xs.length
    · have hl2 : decide ((k : Int) < (xs.length : Int)) = true := by simp; omega
      by_cases hn0 : 0 < cs1.length
      · have hn2 : decide ((0 : Int) < (cs1.length : Int)) = true := by simp; omega
        obtain ⟨xb, xo, rfl, hxl, hxc⟩ := HWR.out k xs[k] (List.getElem?_eq_getElem hlt)
        have hxv := HXA.out k xs[k] (List.getElem?_eq_getElem hlt)
        have hb0 := HQ.out.below
        have he0 := (hb0.cell (p := ⟨xb, xo + k * 2 + 0, none⟩) hxl).trans (hxc 0 _ rfl)
        have he1 := (hb0.cell (p := ⟨xb, xo + k * 2 + 1, none⟩) hxl).trans (hxc 1 _ rfl)
        rw [Nat.add_zero] at he0
        generalize xs[k] = x at he0 he1 hxv
        have hl3 : ((k : Int) < (xs.length : Int)) = True := by simp; omega
        have hxlr : xb < wr.heap.size := Nat.lt_of_lt_of_le hxl hb0.size
        have hDl : D0 < wr.heap.size := (Array.getElem?_eq_some_iff.1 HAr.out.d).1
        clear hb0 hxc hxl
        by_cases hc : x.cross < 0
        · have hc2 : decide (x.cross < 0) = true := by simpa using hc
          go_wp2_with fail
          go_ret
          exact ⟨rfl, HAr.out.below.alloc HAr.out.below.size _⟩
        · have hc2 : decide (x.cross < 0) = false := by simpa using hc
          go_wp2_with fail
          have hc0' : 0 ≤ x.cross := by omega
          obtain ⟨m, hmod, hm⟩ := cross_mod x.cross cs1.length hn0 hc0'
          have hT3 := HQ.out.t1.c3
          obtain ⟨va0, vac, hva, -⟩ := HQ.out.oa.slice
          subst hva
          have bA : Below wr.heap.size wr (wr.alloc (.cells #[.int .i64 x.cross, .int .u8 x.al] 51)) := (Below.refl _ _).alloc (Nat.le_refl _) _
          have HQ1 := Lib.hid (HQ.out.later bA)
          have hbx := World.alloc_heap_new wr (.cells #[.int .i64 x.cross, .int .u8 x.al] 51)
          have hcT : (wr.alloc (.cells #[.int .i64 x.cross, .int .u8 x.al] 51)).drew.cell? ⟨T1, 3, none⟩ = some (.slice va0 ws.length vac) := HQ1.out.t1.c3
          have hx0 : (wr.alloc (.cells #[.int .i64 x.cross, .int .u8 x.al] 51)).drew.cell? ⟨wr.heap.size, 0, none⟩ = some (.int .i64 x.cross) := by
            have h : (wr.alloc (.cells #[.int .i64 x.cross, .int .u8 x.al] 51)).cell? ⟨wr.heap.size, 0, none⟩ = some (.int .i64 x.cross) := by rw [cell_of_row _ _ 0 _ _ _ hbx]; rfl
            exact h
          have hx1 : (wr.alloc (.cells #[.int .i64 x.cross, .int .u8 x.al] 51)).drew.cell? ⟨wr.heap.size, 1, none⟩ = some (.int .u8 x.al) := by
            have h : (wr.alloc (.cells #[.int .i64 x.cross, .int .u8 x.al] 51)).cell? ⟨wr.heap.size, 1, none⟩ = some (.int .u8 x.al) := by rw [cell_of_row _ _ 1 _ _ _ hbx]; rfl
            exact h
          have HBX := Lib.hid hbx
          have HM := Lib.hid hmod
          have hT33 : Hid (TkQ W0 (wr.alloc (.cells #[.int .i64 x.cross, .int .u8 x.al] 51)).drew T1 T2 N cv1 pv1 cv2 pv2 s (.slice va0 ws.length vac) vb (.slice none 0 0) (.slice none 0 0) (.slice va0 ws.length vac) vb (.slice none 0 0) (.slice none 0 0) ws (ws.map (mapW tM)) [] []) := HQ1.out.later (Below.refl _ _).drew
          have hml : ((m : Int) < (cs1.length : Int)) = True := by simp; omega
          have hns : ws.length < 1000000000 := by omega
          have HNS := Lib.hid hns
          have hn0e : (cs1 = []) = False := eq_false (fun e => by rw [e] at hn0; simp at hn0)
          have hszT : wr.heap.size < (wr.alloc (.cells #[.int .i64 x.cross, .int .u8 x.al] 51)).heap.size := by simp
          generalize (wr.alloc (.cells #[.int .i64 x.cross, .int .u8 x.al] 51)) = wA at hcT hx0 hx1 hT33 HQ1 HBX hszT ⊢
          have hxw := (World.cell?_alloc_lt wA.drew (.cells #[.int .i64 (m : Int), .int .u8 x.al] 51) ⟨wr.heap.size, 0, none⟩ hszT).trans hx0
          have hxw1 := (World.cell?_alloc_lt wA.drew (.cells #[.int .i64 (m : Int), .int .u8 x.al] 51) ⟨wr.heap.size, 1, none⟩ hszT).trans hx1
          have hTw := (World.cell?_alloc_lt wA.drew (.cells #[.int .i64 (m : Int), .int .u8 x.al] 51) ⟨T1, 3, none⟩ hT33.out.t1.lt).trans hcT
          refine start_ (n := 13) (S := fun w' => w'.cell? ⟨T1, 3, none⟩ = some (.slice va0 ws.length vac) ∧ w'.cell? ⟨wr.heap.size, 0, none⟩ = some (.int .i64 x.cross) ∧ w'.cell? ⟨wr.heap.size, 1, none⟩ = some (.int .u8 x.al)) (ds := [12]) #[false, false, false, false, false, false, false, false, false, false, false, false, false] (by kernel_rfl) rfl rfl ⟨hcT, hx0, hx1⟩ (fun hHeld => ?_)
          refine pure_ (i := 0) (N := some 238) (v := ?_) (a' := ?_) #[true, false, false, false, false, false, false, false, false, false, false, false, false] rfl rfl (by kernel_rfl) (fun _ _ _ h => h) (Or.inl ⟨by rfl, ?_⟩) ?_ ?_
          rotate_left
          · intro w'
            go_simp
            with_reducible rfl
          rotate_left
          · simp only [Act.put, List.setIfInBounds_toArray, List.set_cons_zero, List.set_cons_succ, i64_w, i32_w]
            rfl
          refine pure_ (i := 2) (N := some 240) (v := ?_) (a' := ?_) #[true, false, true, false, false, false, false, false, false, false, false, false, false] rfl rfl (by kernel_rfl) (fun _ _ _ h => h) (Or.inl ⟨by rfl, ?_⟩) ?_ ?_
          rotate_left
          · intro w'
            go_simp
            with_reducible rfl
          rotate_left
          · simp only [Act.put, List.setIfInBounds_toArray, List.set_cons_zero, List.set_cons_succ, i64_w, i32_w]
            rfl
          refine pure_ (i := 4) (N := some 242) (v := ?_) (a' := ?_) #[true, false, true, false, true, false, false, false, false, false, false, false, false] rfl rfl (by kernel_rfl) (fun _ _ _ h => h) (Or.inl ⟨by rfl, ?_⟩) ?_ ?_
          rotate_left
          · intro w'
            go_simp
            with_reducible rfl
          rotate_left
          · simp only [Act.put, List.setIfInBounds_toArray, List.set_cons_zero, List.set_cons_succ, i64_w, i32_w]
            rfl
          refine pure_ (i := 6) (N := some 244) (v := ?_) (a' := ?_) #[true, false, true, false, true, false, true, false, false, false, false, false, false] rfl rfl (by kernel_rfl) (fun _ _ _ h => h) (Or.inl ⟨by rfl, ?_⟩) ?_ ?_
          rotate_left
          · intro w'
            go_simp
            with_reducible rfl
          rotate_left
          · simp only [Act.put, List.setIfInBounds_toArray, List.set_cons_zero, List.set_cons_succ, i64_w, i32_w]
            rfl
          refine take_ (i := 1) (N := some 239) (v := ?_) (a' := ?_) #[true, true, true, false, true, false, true, false, false, false, false, false, false] rfl rfl (by kernel_rfl) (fun _ _ _ h => h) (Or.inl ⟨by rfl, ?_⟩) hHeld ?_ ?_
          rotate_left
          · rintro w' ⟨s0, s1, s2⟩
            go_simp
            with_reducible rfl
          rotate_left
          · simp only [Act.put, List.setIfInBounds_toArray, List.set_cons_zero, List.set_cons_succ, i64_w, i32_w]
            rfl
          refine take_ (i := 3) (N := some 241) (v := ?_) (a' := ?_) #[true, true, true, true, true, false, true, false, false, false, false, false, false] rfl rfl (by kernel_rfl) (fun _ _ _ h => h) (Or.inl ⟨by rfl, ?_⟩) hHeld ?_ ?_
          rotate_left
          · rintro w' ⟨s0, s1, s2⟩
            go_simp
            with_reducible rfl
          rotate_left
          · simp only [Act.put, List.setIfInBounds_toArray, List.set_cons_zero, List.set_cons_succ, i64_w, i32_w]
            rfl
          refine pure_ (i := 5) (N := some 243) (v := ?_) (a' := ?_) #[true, true, true, true, true, true, true, false, false, false, false, false, false] rfl rfl (by kernel_rfl) (fun _ _ _ h => h) (Or.inl ⟨by rfl, ?_⟩) ?_ ?_
          rotate_left
          · intro w'
            go_simp
            with_reducible rfl
          rotate_left
          · simp only [Act.put, List.setIfInBounds_toArray, List.set_cons_zero, List.set_cons_succ, i64_w, i32_w]
            rfl
          refine take_ (i := 7) (N := some 245) (v := ?_) (a' := ?_) #[true, true, true, true, true, true, true, true, false, false, false, false, false] rfl rfl (by kernel_rfl) (fun _ _ _ h => h) (Or.inl ⟨by rfl, ?_⟩) hHeld ?_ ?_
          rotate_left
          · rintro w' ⟨s0, s1, s2⟩
            go_simp
            with_reducible rfl
          rotate_left
          · simp only [Act.put, List.setIfInBounds_toArray, List.set_cons_zero, List.set_cons_succ, i64_w, i32_w]
            rfl
          refine pure_ (i := 8) (N := some 246) (v := ?_) (a' := ?_) #[true, true, true, true, true, true, true, true, true, false, false, false, false] rfl rfl (by kernel_rfl) (fun _ _ _ h => h) (Or.inl ⟨by rfl, ?_⟩) ?_ ?_
          rotate_left
          · intro w'
            go_simp
            with_reducible rfl
          rotate_left
          · simp only [Act.put, List.setIfInBounds_toArray, List.set_cons_zero, List.set_cons_succ, i64_w, i32_w]
            rfl
          refine one_ (i := 9) (N := some 247) #[true, true, true, true, true, true, true, true, true, true, false, false, false] rfl rfl (by kernel_rfl) (by decide) (fun K hK => ?_)
          refine value_ (w1 := ?_) (v := ?_) (by rfl) rfl ?_ ?_
          rotate_left 2
          · go_simp
            constructor
            · rfl
            · rfl
          refine hK.out _ _ ⟨hTw, hxw, hxw1⟩ (fun hHeld => ?_)
          clear hK K
          refine norm_ (a' := ?_) ?_ ?_
          rotate_left
          · show Act.put _ (some 247) _ = _
            simp only [Act.put, List.setIfInBounds_toArray, List.set_cons_zero, List.set_cons_succ, i64_w, i32_w]
            rfl
          refine one_ (i := 10) (N := some 248) #[true, true, true, true, true, true, true, true, true, true, true, false, false] rfl rfl (by kernel_rfl) (by decide) (fun K hK => ?_)
          refine step_wish rfl _ _ rfl W0.heap.size (.slice va0 ws.length vac) ws rfl hT33.out.oa 1 ⟨m, x.al⟩ _ (by rfl) rfl HNS.out hT33.out.below.size rfl ?_
          intro v6 w6 hown6 hg6 hv6 hat6
          obtain ⟨g6, c6, rfl⟩ := hown6.some_ hv6
          have HT6 := Lib.hid (hT33.out.appA hown6 hg6 hat6)
          have hT6c := HT6.out.t1.c3
          have hT6f := frozen_of_row w6 T1 3 _ _ HT6.out.t1.row
          have hne6 : some wr.heap.size ≠ (Value.slice va0 ws.length vac).ownBlock := fun h => absurd (HQ.out.oa.lt _ h.symm).2 (Nat.lt_irrefl _)
          have hx06 := hg6.cell hx0 hne6
          have hx16 := hg6.cell hx1 hne6
          refine hK.out _ _ ⟨hT6c, hx06, hx16⟩ (fun hHeld => ?_)
          clear hK K
          refine norm_ (a' := ?_) ?_ ?_
          rotate_left
          · show Act.put _ (some 248) _ = _
            simp only [Act.put, List.setIfInBounds_toArray, List.set_cons_zero, List.set_cons_succ, i64_w, i32_w]
            rfl
          refine pure_ (i := 11) (N := some 249) (v := ?_) (a' := ?_) #[true, true, true, true, true, true, true, true, true, true, true, true, false] rfl rfl (by kernel_rfl) (fun _ _ _ h => h) (Or.inl ⟨by rfl, ?_⟩) ?_ ?_
          rotate_left
          · intro w'
            go_simp
            with_reducible rfl
          rotate_left
          · simp only [Act.put, List.setIfInBounds_toArray, List.set_cons_zero, List.set_cons_succ, i64_w, i32_w]
            rfl
          refine last_ (i := 12) (N := none) #[true, true, true, true, true, true, true, true, true, true, true, true, true] rfl rfl (by kernel_rfl) (by decide) (fun K hK => ?_)
          refine skip_ (w1 := ?_) (by rfl) rfl ?_ ?_
          rotate_left
          · go_simp
            rfl
          refine hK.out _ _ ?_
          clear hK K
          refine done_ (by kernel_rfl) ?_
          clear hT6f hT6c hx0 hx1 hcT hxw hxw1 hTw
          have hT6o := HT6.out
          rw [List.length_append, List.length_singleton] at hT6o
          have HT7 := Lib.hid (hT6o.setA (.slice (some ⟨g6, 0, none⟩) (ws.length + 1) c6))
          have hT1lt : T1 < wr.heap.size := HQ.out.t1.lt
          have hx07 := (World.cell?_setCell_other (w := w6) (a := ⟨T1, 3, none⟩) (b := ⟨wr.heap.size, 0, none⟩) (v := .slice (some ⟨g6, 0, none⟩) (ws.length + 1) c6) (by intro h2; injection h2 with h3 _; omega)).trans hx06
          have hx17 := (World.cell?_setCell_other (w := w6) (a := ⟨T1, 3, none⟩) (b := ⟨wr.heap.size, 1, none⟩) (v := .slice (some ⟨g6, 0, none⟩) (ws.length + 1) c6) (by intro h2; injection h2 with h3 _; omega)).trans hx16
          have hbx7 : (w6.setCell ⟨T1, 3, none⟩ (.slice (some ⟨g6, 0, none⟩) (ws.length + 1) c6)).heap[wr.heap.size]? = some (.cells #[.int .i64 x.cross, .int .u8 x.al] 51) := by
            rw [Below.heap_setCell _ _ _ _ (by show wr.heap.size ≠ T1; omega)]
            exact (hg6.block _ hszT hne6).trans HBX.out
          clear hHeld HT6 hT6o hown6 hg6 hat6 hv6 hx06 hx16 hne6 HBX HQ1 hT33
          generalize hw7 : w6.setCell ⟨T1, 3, none⟩ (.slice (some ⟨g6, 0, none⟩) (ws.length + 1) c6) = w7 at HT7 hx07 hx17 hbx7 ⊢
          clear hw7
          have hA7 := HA.out.later HT7.out.below
          have hcR7 : w7.cell? ⟨R, m, none⟩ = some (.int .i64 ((tM m : Nat) : Int)) := by rw [cell_of_row _ _ m _ _ _ hA7.r, rowN_get _ _ _ hm]
          have hT2c := HT7.out.t2.c3
          obtain ⟨vb0, vbc, hvb, -⟩ := HT7.out.ob.slice
          rw [List.length_map] at hvb
          subst hvb
          have hszT7 : wr.heap.size < w7.heap.size := (Array.getElem?_eq_some_iff.1 hbx7).1
          have hRlt7 : R < w7.heap.size := (Array.getElem?_eq_some_iff.1 hA7.r).1
          have HBX7 := Lib.hid hbx7
          have hT77 := Lib.hid (HT7.out.later (Below.refl _ _).drew)
          clear hbx7 hA7
          obtain ⟨t, ht⟩ : ∃ t : Nat, t = tM m := ⟨_, rfl⟩
          rw [← ht] at hcR7
          have HT := Lib.hid ht
          clear ht
          go_wp2_with fail
          have HMM := HM
          have hmod7 := HM.out
          have hxw := (World.cell?_alloc_lt w7.drew (.cells #[.int .i64 (t : Int), .int .u8 x.al] 51) ⟨wr.heap.size, 0, none⟩ hszT7).trans hx07
          have hxw1 := (World.cell?_alloc_lt w7.drew (.cells #[.int .i64 (t : Int), .int .u8 x.al] 51) ⟨wr.heap.size, 1, none⟩ hszT7).trans hx17
          have hTw := (World.cell?_alloc_lt w7.drew (.cells #[.int .i64 (t : Int), .int .u8 x.al] 51) ⟨T2, 3, none⟩ hT77.out.t2.lt).trans hT2c
          have hRw := (World.cell?_alloc_lt w7.drew (.cells #[.int .i64 (t : Int), .int .u8 x.al] 51) ⟨R, m, none⟩ hRlt7).trans hcR7
          refine start_ (n := 16) (S := fun w' => w'.cell? ⟨T2, 3, none⟩ = some (.slice vb0 ws.length vbc) ∧ w'.cell? ⟨wr.heap.size, 0, none⟩ = some (.int .i64 x.cross) ∧ w'.cell? ⟨wr.heap.size, 1, none⟩ = some (.int .u8 x.al) ∧ w'.cell? ⟨R, m, none⟩ = some (.int .i64 (t : Int))) (ds := [15]) #[false, false, false, false, false, false, false, false, false, false, false, false, false, false, false, false] (by kernel_rfl) rfl rfl ⟨hT2c, hx07, hx17, hcR7⟩ (fun hHeld => ?_)
          refine pure_ (i := 0) (N := some 250) (v := ?_) (a' := ?_) #[true, false, false, false, false, false, false, false, false, false, false, false, false, false, false, false] rfl rfl (by kernel_rfl) (fun _ _ _ h => h) (Or.inl ⟨by rfl, ?_⟩) ?_ ?_
          rotate_left
          · intro w'
            go_simp
            with_reducible rfl
          rotate_left
          · simp only [Act.put, List.setIfInBounds_toArray, List.set_cons_zero, List.set_cons_succ, i64_w, i32_w]
            rfl
          refine pure_ (i := 2) (N := some 252) (v := ?_) (a' := ?_) #[true, false, true, false, false, false, false, false, false, false, false, false, false, false, false, false] rfl rfl (by kernel_rfl) (fun _ _ _ h => h) (Or.inl ⟨by rfl, ?_⟩) ?_ ?_
          rotate_left
          · intro w'
            go_simp
            with_reducible rfl
          rotate_left
          · simp only [Act.put, List.setIfInBounds_toArray, List.set_cons_zero, List.set_cons_succ, i64_w, i32_w]
            rfl
          refine pure_ (i := 3) (N := some 253) (v := ?_) (a' := ?_) #[true, false, true, true, false, false, false, false, false, false, false, false, false, false, false, false] rfl rfl (by kernel_rfl) (fun _ _ _ h => h) (Or.inl ⟨by rfl, ?_⟩) ?_ ?_
          rotate_left
          · intro w'
            go_simp
            with_reducible rfl
          rotate_left
          · simp only [Act.put, List.setIfInBounds_toArray, List.set_cons_zero, List.set_cons_succ, i64_w, i32_w]
            rfl
          refine pure_ (i := 5) (N := some 255) (v := ?_) (a' := ?_) #[true, false, true, true, false, true, false, false, false, false, false, false, false, false, false, false] rfl rfl (by kernel_rfl) (fun _ _ _ h => h) (Or.inl ⟨by rfl, ?_⟩) ?_ ?_
          rotate_left
          · intro w'
            go_simp
            with_reducible rfl
          rotate_left
          · simp only [Act.put, List.setIfInBounds_toArray, List.set_cons_zero, List.set_cons_succ, i64_w, i32_w]
            rfl
          refine pure_ (i := 9) (N := some 259) (v := ?_) (a' := ?_) #[true, false, true, true, false, true, false, false, false, true, false, false, false, false, false, false] rfl rfl (by kernel_rfl) (fun _ _ _ h => h) (Or.inl ⟨by rfl, ?_⟩) ?_ ?_
          rotate_left
          · intro w'
            go_simp
            with_reducible rfl
          rotate_left
          · simp only [Act.put, List.setIfInBounds_toArray, List.set_cons_zero, List.set_cons_succ, i64_w, i32_w]
            rfl
          refine take_ (i := 1) (N := some 251) (v := ?_) (a' := ?_) #[true, true, true, true, false, true, false, false, false, true, false, false, false, false, false, false] rfl rfl (by kernel_rfl) (fun _ _ _ h => h) (Or.inl ⟨by rfl, ?_⟩) hHeld ?_ ?_
          rotate_left
          · rintro w' ⟨s0, s1, s2, s3⟩
            go_simp
            with_reducible rfl
          rotate_left
          · simp only [Act.put, List.setIfInBounds_toArray, List.set_cons_zero, List.set_cons_succ, i64_w, i32_w]
            rfl
          refine take_ (i := 4) (N := some 254) (v := ?_) (a' := ?_) #[true, true, true, true, true, true, false, false, false, true, false, false, false, false, false, false] rfl rfl (by kernel_rfl) (fun _ _ _ h => h) (Or.inl ⟨by rfl, ?_⟩) hHeld ?_ ?_
          rotate_left
          · rintro w' ⟨s0, s1, s2, s3⟩
            go_simp
            with_reducible rfl
          rotate_left
          · simp only [Act.put, List.setIfInBounds_toArray, List.set_cons_zero, List.set_cons_succ, i64_w, i32_w]
            rfl
          refine pure_ (i := 6) (N := some 256) (v := ?_) (a' := ?_) #[true, true, true, true, true, true, true, false, false, true, false, false, false, false, false, false] rfl rfl (by kernel_rfl) (fun _ _ _ h => h) (Or.inl ⟨by rfl, ?_⟩) ?_ ?_
          rotate_left
          · intro w'
            go_simp
            with_reducible rfl
          rotate_left
          · simp only [Act.put, List.setIfInBounds_toArray, List.set_cons_zero, List.set_cons_succ, i64_w, i32_w]
            rfl
          refine pure_ (i := 7) (N := some 257) (v := ?_) (a' := ?_) #[true, true, true, true, true, true, true, true, false, true, false, false, false, false, false, false] rfl rfl (by kernel_rfl) (fun _ _ _ h => h) (Or.inl ⟨by rfl, ?_⟩) ?_ ?_
          rotate_left
          · intro w'
            go_simp
            with_reducible rfl
          rotate_left
          · simp only [Act.put, List.setIfInBounds_toArray, List.set_cons_zero, List.set_cons_succ, i64_w, i32_w]
            rfl
          refine take_ (i := 8) (N := some 258) (v := ?_) (a' := ?_) #[true, true, true, true, true, true, true, true, true, true, false, false, false, false, false, false] rfl rfl (by kernel_rfl) (fun _ _ _ h => h) (Or.inl ⟨by rfl, ?_⟩) hHeld ?_ ?_
          rotate_left
          · rintro w' ⟨s0, s1, s2, s3⟩
            go_simp
            with_reducible rfl
          rotate_left
          · simp only [Act.put, List.setIfInBounds_toArray, List.set_cons_zero, List.set_cons_succ, i64_w, i32_w]
            rfl
          refine take_ (i := 10) (N := some 260) (v := ?_) (a' := ?_) #[true, true, true, true, true, true, true, true, true, true, true, false, false, false, false, false] rfl rfl (by kernel_rfl) (fun _ _ _ h => h) (Or.inl ⟨by rfl, ?_⟩) hHeld ?_ ?_
          rotate_left
          · rintro w' ⟨s0, s1, s2, s3⟩
            go_simp
            with_reducible rfl
          rotate_left
          · simp only [Act.put, List.setIfInBounds_toArray, List.set_cons_zero, List.set_cons_succ, i64_w, i32_w]
            rfl
          refine pure_ (i := 11) (N := some 261) (v := ?_) (a' := ?_) #[true, true, true, true, true, true, true, true, true, true, true, true, false, false, false, false] rfl rfl (by kernel_rfl) (fun _ _ _ h => h) (Or.inl ⟨by rfl, ?_⟩) ?_ ?_
          rotate_left
          · intro w'
            go_simp
            with_reducible rfl
          rotate_left
          · simp only [Act.put, List.setIfInBounds_toArray, List.set_cons_zero, List.set_cons_succ, i64_w, i32_w]
            rfl
          refine one_ (i := 12) (N := some 262) #[true, true, true, true, true, true, true, true, true, true, true, true, true, false, false, false] rfl rfl (by kernel_rfl) (by decide) (fun K hK => ?_)
          refine value_ (w1 := ?_) (v := ?_) (by rfl) rfl ?_ ?_
          rotate_left 2
          · go_simp
            constructor
            · rfl
            · rfl
          refine hK.out _ _ ⟨hTw, hxw, hxw1, hRw⟩ (fun hHeld => ?_)
          clear hK K
          refine norm_ (a' := ?_) ?_ ?_
          rotate_left
          · show Act.put _ (some 262) _ = _
            simp only [Act.put, List.setIfInBounds_toArray, List.set_cons_zero, List.set_cons_succ, i64_w, i32_w]
            rfl
          refine one_ (i := 13) (N := some 263) #[true, true, true, true, true, true, true, true, true, true, true, true, true, true, false, false] rfl rfl (by kernel_rfl) (by decide) (fun K hK => ?_)
          refine step_wish rfl _ _ rfl W0.heap.size (.slice vb0 ws.length vbc) (ws.map (mapW tM)) rfl hT77.out.ob 1 ⟨t, x.al⟩ _ (by rfl) rfl (by rw [List.length_map]; exact HNS.out) hT77.out.below.size rfl ?_
          intro v8 w8 hown8 hg8 hv8 hat8
          obtain ⟨g8, c8, rfl⟩ := hown8.some_ hv8
          have HT8 := Lib.hid (hT77.out.appB hown8 hg8 hat8)
          have hT8c := HT8.out.t2.c3
          have hT8f := frozen_of_row w8 T2 3 _ _ HT8.out.t2.row
          have hneB : some wr.heap.size ≠ (Value.slice vb0 ws.length vbc).ownBlock := fun h => absurd (HQ.out.ob.lt _ h.symm).2 (Nat.lt_irrefl _)
          have hx08 := hg8.cell hx07 hneB
          have hx18 := hg8.cell hx17 hneB
          have hR8 : w8.cell? ⟨R, m, none⟩ = some (.int .i64 (t : Int)) := by rw [cell_of_row _ _ m _ _ _ (HA.out.later HT8.out.below).r, rowN_get _ _ _ hm, HT.out]
          refine hK.out _ _ ⟨hT8c, hx08, hx18, hR8⟩ (fun hHeld => ?_)
          clear hK K
          refine norm_ (a' := ?_) ?_ ?_
          rotate_left
          · show Act.put _ (some 263) _ = _
            simp only [Act.put, List.setIfInBounds_toArray, List.set_cons_zero, List.set_cons_succ, i64_w, i32_w]
            rfl
          refine pure_ (i := 14) (N := some 264) (v := ?_) (a' := ?_) #[true, true, true, true, true, true, true, true, true, true, true, true, true, true, true, false] rfl rfl (by kernel_rfl) (fun _ _ _ h => h) (Or.inl ⟨by rfl, ?_⟩) ?_ ?_
          rotate_left
          · intro w'
            go_simp
            with_reducible rfl
          rotate_left
          · simp only [Act.put, List.setIfInBounds_toArray, List.set_cons_zero, List.set_cons_succ, i64_w, i32_w]
            rfl
          refine last_ (i := 15) (N := none) #[true, true, true, true, true, true, true, true, true, true, true, true, true, true, true, true] rfl rfl (by kernel_rfl) (by decide) (fun K hK => ?_)
          refine skip_ (w1 := ?_) (by rfl) rfl ?_ ?_
          rotate_left
          · go_simp
            rfl
          refine hK.out _ _ ?_
          clear hK K
          refine done_ (by kernel_rfl) ?_
          clear hT8f hT8c hx07 hx17 hx08 hx18 hR8 hxw hxw1 hTw hRw hcR7 hT2c
          have hT8o := HT8.out
          rw [List.length_append, List.length_map, List.length_singleton] at hT8o
          have HT9 := Lib.hid (hT8o.setB (.slice (some ⟨g8, 0, none⟩) (ws.length + 1) c8))
          clear hHeld HT8 hT8o hown8 hg8 hat8 hv8 hneB HBX7 HT7 hT77
          generalize hw9 : w8.setCell ⟨T2, 3, none⟩ (.slice (some ⟨g8, 0, none⟩) (ws.length + 1) c8) = w9 at HT9 ⊢
          clear hw9
          go_wp2_with fail
          go_roundw
          case rel =>
            have hT9 := HT9.out
            have hmp : (ws ++ [(⟨m, x.al⟩ : Wi)]).map (mapW tM) = ws.map (mapW tM) ++ [⟨(t : Int), x.al⟩] := by rw [List.map_append, HT.out]; rfl
            refine ⟨k + 1, .slice (some ⟨g6, 0, none⟩) (ws.length + 1) c6, .slice (some ⟨g8, 0, none⟩) (ws.length + 1) c8, ws ++ [⟨m, x.al⟩], by omega, by go_num, ?_, by rw [List.length_append, List.length_singleton]; omega, task_snoc HTK.out (by omega) ?_⟩
            · rw [hmp]; exact hT9
            · exact ⟨by show (0 : Int) ≤ (m : Int); omega, by show (m : Int) < _; omega, hxv.2.2.1, hxv.2.2.2⟩
          case measure => simp [intOf]; omega
      · have hn2 : decide ((0 : Int) < (cs1.length : Int)) = false := by rw [decide_eq_false_iff_not]; omega
        go_wp2_with fail
        exact HE.out (by omega) HTK.out HQ.out
    · have hl2 : decide ((k : Int) < (xs.length : Int)) = false := by simp; omega
      go_wp2_with fail
      exact HE.out (by omega) HTK.out HQ.out
end Go.Proofs.YtepofpnbgbmihaaDoor

/-
  The law's middle part: its walk.
-/
namespace Go.Proofs.YtepofpnbgbmihaaDoor
open Go.RowKit Go.Shelf Go.Proofs.YtepofpnbgbmihaaDoorW.PrintLast
set_option linter.unusedSimpArgs false
set_option linter.unusedVariables false

set_option maxRecDepth 100000 in
set_option maxHeartbeats 4000000 in
theorem law_r26 {w W : World} {D0 A B R N : Nat} {cs1 cs2 : List Crs} {ps1 ps2 : List Pn} {xs : List Wi} {ys : List Ul} {tM : Nat → Nat} {p : Int} {sv cv1 pv1 wv uv cv2 pv2 : Value} {s : Nat → Int} {u0 u1 u3 u4 u5 u6 u7 u9 u11 u12 u13 u14 u15 u18 u19 u20 u21 u22 u23 u24 u25 u26 u27 u28 u29 u30 u31 u32 u33 u34 u35 u36 u37 u38 u39 u40 u41 u42 u43 u44 u45 u46 u47 u48 u49 u50 u51 u52 u53 u54 u55 u56 u57 u58 u59 u60 u61 u62 u63 u64 u65 u66 u67 u68 u69 u70 u71 u72 u73 u74 u75 u76 u77 u78 u79 u80 u81 u82 u83 u84 u85 u86 u87 u88 u89 u90 u91 u92 u93 u94 u95 u96 u97 u98 u99 u100 u101 u102 u103 u104 u105 u106 u107 u108 u109 u110 u111 u112 u113 u114 u115 u116 u117 u118 u119 u120 u121 u122 u123 u124 u125 u126 u127 u128 u129 u130 u131 u132 u133 u134 u135 u136 u137 u138 u139 u140 u141 u142 u143 u144 u145 u146 u147 u148 u149 u150 u151 u152 u153 u154 u155 u156 u157 u158 u159 u160 u161 u162 u163 u164 u165 u166 u167 u168 u169 u170 u171 u172 u173 u174 u175 u176 u177 u178 u179 u180 u181 u182 u183 u184 u185 u186 u187 u188 u189 u190 u191 u192 u193 u194 u195 u196 u197 u198 u199 u200 u201 u202 u203 u204 u205 u206 u207 u208 u209 u210 u211 u212 u213 u214 u215 u216 u217 u218 u219 u220 u221 u222 u223 u224 u225 u226 u227 u228 u229 u230 u231 u232 u233 u234 u235 u236 u237 u238 u239 u240 u241 u242 u243 u244 u245 u246 u247 u248 u249 u250 u251 u252 u253 u254 u255 u256 u257 u258 u259 u260 u261 u262 u263 u264 u265 u266 u267 u268 u269 u270 u271 u272 u273 u274 u275 u276 u277 u278 u279 u280 u281 u282 u283 u284 u285 u286 u287 u288 u289 u290 u291 u292 u293 u294 u295 u296 u297 u298 u299 u300 u301 u302 u303 u304 u305 u306 u307 u308 u309 u310 u311 u312 u313 u314 u315 u316 u317 u318 u319 u320 u321 u322 u323 u324 u325 u326 u327 u328 u329 u330 u331 u332 u333 u334 u335 u336 u337 u338 u339 u340 u341 u342 u343 u344 u345 u346 u347 u348 u349 u350 u351 u352 u353 u354 u355 u356 u357 u358 u359 u360 u361 u362 u363 u364 u365 u366 u367 u368 u369 u370 u371 u372 u373 u374 u375 u376 u377 u378 u379 u380 u381 u382 u383 u384 u385 u386 u387 u388 u389 u390 u391 u392 u393 u394 u395 u396 u397 u398 u399 u400 u401 u402 u403 u404 u405 u406 u407 u408 u409 u410 u411 u412 u413 u414 u415 u416 u417 u418 u419 u420 u421 u422 u423 u424 u425 u426 u427 u428 u429 u430 u431 u432 u433 u434 : Value} {K : Act → World → Prop}
    (hA : P2At w W D0 A B R N cs1 cs2 ps1 ps2 xs ys tM p sv wv uv cv1 pv1 cv2 pv2 s)
    (HE : Hid (∀ {T1 T2 : Nat} {W' : World} {u0 u1 u3 u4 u5 u6 u7 u9 u11 u12 u13 u14 u15 u18 u19 u22 u23 u24 u25 u26 u27 u28 u29 u30 u31 u32 u33 u34 u35 u36 u37 u38 u39 u40 u41 u42 u43 u44 u45 u46 u47 u48 u49 u50 u51 u52 u53 u54 u55 u56 u57 u58 u59 u60 u61 u62 u63 u64 u65 u66 u67 u68 u69 u70 u71 u72 u73 u74 u75 u76 u77 u78 u79 u80 u81 u82 u83 u84 u85 u86 u87 u88 u89 u90 u91 u92 u93 u94 u95 u96 u97 u98 u99 u100 u101 u102 u103 u104 u105 u106 u107 u108 u109 u110 u111 u112 u113 u114 u115 u116 u117 u118 u119 u120 u121 u122 u123 u124 u125 u126 u127 u128 u129 u130 u131 u132 u133 u134 u135 u136 u137 u138 u139 u140 u141 u142 u143 u144 u145 u146 u147 u148 u149 u150 u151 u152 u153 u154 u155 u156 u157 u158 u159 u160 u161 u162 u163 u164 u165 u166 u167 u168 u169 u170 u171 u172 u173 u174 u175 u176 u177 u178 u179 u180 u181 u182 u183 u184 u185 u186 u187 u188 u189 u190 u191 u192 u193 u194 u195 u196 u197 u198 u199 u200 u201 u202 u203 u204 u205 u206 u207 u208 u209 u210 u211 u212 u213 u214 u215 u216 u217 u218 u219 u220 u221 u222 u223 u224 u225 u226 u227 u228 u229 u230 u231 u232 u233 u234 u235 u236 u237 u238 u239 u240 u241 u242 u243 u244 u245 u246 u247 u248 u249 u250 u251 u252 u253 u254 u255 u256 u257 u258 u259 u260 u261 u262 u263 u264 u265 u266 u267 u268 u269 u270 u271 u272 u273 u274 u275 u276 u277 u278 u279 u280 u281 u282 u283 u284 u285 u286 u287 u288 u289 u290 u291 u292 u293 u294 u295 u296 u297 u298 u299 u300 u301 u302 u303 u304 u305 u306 u307 u308 u309 u310 u311 u312 u313 u314 u315 u316 u317 u318 u319 u320 u321 u322 u323 u324 u325 u326 u327 u328 u329 u330 u331 u332 u333 u334 u335 u336 u337 u338 u339 u340 u341 u342 u343 u344 u345 u346 u347 u348 u349 u350 u351 u352 u353 u354 u355 u356 u357 u358 u359 u360 u361 u362 u363 u364 u365 u366 u367 u368 u369 u370 u371 u372 u373 u374 u375 u376 u377 u378 u379 u380 u381 u382 u383 u384 u385 u386 u387 u388 u389 u390 u391 u392 u393 u394 u395 u396 u397 u398 u399 u400 u401 u402 u403 u404 u405 u406 u407 u408 u409 u410 u411 u412 u413 u414 u415 u416 u417 u418 u419 u420 u421 u422 u423 u424 u425 u426 u427 u428 u429 u430 u431 u432 u433 u434 : Value}, TkQ W.drew W' T1 T2 N cv1 pv1 cv2 pv2 s (.slice none 0 0) (.slice none 0 0) (.slice none 0 0) (.slice none 0 0) (.slice none 0 0) (.slice none 0 0) (.slice none 0 0) (.slice none 0 0) [] [] [] [] → K ⟨#[u0, u1, .pointer (some ⟨D0, 0, none⟩), u3, u4, u5, u6, u7, .pointer (some ⟨A, 0, none⟩), u9, .pointer (some ⟨B, 0, none⟩), u11, u12, u13, u14, u15, .int .i64 cs1.length, .slice (some ⟨R, 0, none⟩) cs1.length cs1.length, u18, u19, .pointer (some ⟨T1, 0, none⟩), .pointer (some ⟨T2, 0, none⟩), u22, u23, u24, u25, u26, u27, u28, u29, u30, u31, u32, u33, u34, u35, u36, u37, u38, u39, u40, u41, u42, u43, u44, u45, u46, u47, u48, u49, u50, u51, u52, u53, u54, u55, u56, u57, u58, u59, u60, u61, u62, u63, u64, u65, u66, u67, u68, u69, u70, u71, u72, u73, u74, u75, u76, u77, u78, u79, u80, u81, u82, u83, u84, u85, u86, u87, u88, u89, u90, u91, u92, u93, u94, u95, u96, u97, u98, u99, u100, u101, u102, u103, u104, u105, u106, u107, u108, u109, u110, u111, u112, u113, u114, u115, u116, u117, u118, u119, u120, u121, u122, u123, u124, u125, u126, u127, u128, u129, u130, u131, u132, u133, u134, u135, u136, u137, u138, u139, u140, u141, u142, u143, u144, u145, u146, u147, u148, u149, u150, u151, u152, u153, u154, u155, u156, u157, u158, u159, u160, u161, u162, u163, u164, u165, u166, u167, u168, u169, u170, u171, u172, u173, u174, u175, u176, u177, u178, u179, u180, u181, u182, u183, u184, u185, u186, u187, u188, u189, u190, u191, u192, u193, u194, u195, u196, u197, u198, u199, u200, u201, u202, u203, u204, u205, u206, u207, u208, u209, u210, u211, u212, u213, u214, u215, u216, u217, u218, u219, u220, u221, u222, u223, u224, u225, u226, u227, u228, u229, u230, u231, u232, u233, u234, u235, u236, u237, u238, u239, u240, u241, u242, u243, u244, u245, u246, u247, u248, u249, u250, u251, u252, u253, u254, u255, u256, u257, u258, u259, u260, u261, u262, u263, u264, u265, u266, u267, u268, u269, u270, u271, u272, u273, u274, u275, u276, u277, u278, u279, u280, u281, u282, u283, u284, u285, u286, u287, u288, u289, u290, u291, u292, u293, u294, u295, u296, u297, u298, u299, u300, u301, u302, u303, u304, u305, u306, u307, u308, u309, u310, u311, u312, u313, u314, u315, u316, u317, u318, u319, u320, u321, u322, u323, u324, u325, u326, u327, u328, u329, u330, u331, u332, u333, u334, u335, u336, u337, u338, u339, u340, u341, u342, u343, u344, u345, u346, u347, u348, u349, u350, u351, u352, u353, u354, u355, u356, u357, u358, u359, u360, u361, u362, u363, u364, u365, u366, u367, u368, u369, u370, u371, u372, u373, u374, u375, u376, u377, u378, u379, u380, u381, u382, u383, u384, u385, u386, u387, u388, u389, u390, u391, u392, u393, u394, u395, u396, u397, u398, u399, u400, u401, u402, u403, u404, u405, u406, u407, u408, u409, u410, u411, u412, u413, u414, u415, u416, u417, u418, u419, u420, u421, u422, u423, u424, u425, u426, u427, u428, u429, u430, u431, u432, u433, u434], []⟩ W')) :
    Code.wp Tryd.prog (fstK 14 lawBody) (Exit.then K (bodyPost Tryd.prog Tryd.f3 (LawPost w))) ⟨#[u0, u1, .pointer (some ⟨D0, 0, none⟩), u3, u4, u5, u6, u7, .pointer (some ⟨A, 0, none⟩), u9, .pointer (some ⟨B, 0, none⟩), u11, u12, u13, u14, u15, .int .i64 cs1.length, .slice (some ⟨R, 0, none⟩) cs1.length cs1.length, u18, u19, u20, u21, u22, u23, u24, u25, u26, u27, u28, u29, u30, u31, u32, u33, u34, u35, u36, u37, u38, u39, u40, u41, u42, u43, u44, u45, u46, u47, u48, u49, u50, u51, u52, u53, u54, u55, u56, u57, u58, u59, u60, u61, u62, u63, u64, u65, u66, u67, u68, u69, u70, u71, u72, u73, u74, u75, u76, u77, u78, u79, u80, u81, u82, u83, u84, u85, u86, u87, u88, u89, u90, u91, u92, u93, u94, u95, u96, u97, u98, u99, u100, u101, u102, u103, u104, u105, u106, u107, u108, u109, u110, u111, u112, u113, u114, u115, u116, u117, u118, u119, u120, u121, u122, u123, u124, u125, u126, u127, u128, u129, u130, u131, u132, u133, u134, u135, u136, u137, u138, u139, u140, u141, u142, u143, u144, u145, u146, u147, u148, u149, u150, u151, u152, u153, u154, u155, u156, u157, u158, u159, u160, u161, u162, u163, u164, u165, u166, u167, u168, u169, u170, u171, u172, u173, u174, u175, u176, u177, u178, u179, u180, u181, u182, u183, u184, u185, u186, u187, u188, u189, u190, u191, u192, u193, u194, u195, u196, u197, u198, u199, u200, u201, u202, u203, u204, u205, u206, u207, u208, u209, u210, u211, u212, u213, u214, u215, u216, u217, u218, u219, u220, u221, u222, u223, u224, u225, u226, u227, u228, u229, u230, u231, u232, u233, u234, u235, u236, u237, u238, u239, u240, u241, u242, u243, u244, u245, u246, u247, u248, u249, u250, u251, u252, u253, u254, u255, u256, u257, u258, u259, u260, u261, u262, u263, u264, u265, u266, u267, u268, u269, u270, u271, u272, u273, u274, u275, u276, u277, u278, u279, u280, u281, u282, u283, u284, u285, u286, u287, u288, u289, u290, u291, u292, u293, u294, u295, u296, u297, u298, u299, u300, u301, u302, u303, u304, u305, u306, u307, u308, u309, u310, u311, u312, u313, u314, u315, u316, u317, u318, u319, u320, u321, u322, u323, u324, u325, u326, u327, u328, u329, u330, u331, u332, u333, u334, u335, u336, u337, u338, u339, u340, u341, u342, u343, u344, u345, u346, u347, u348, u349, u350, u351, u352, u353, u354, u355, u356, u357, u358, u359, u360, u361, u362, u363, u364, u365, u366, u367, u368, u369, u370, u371, u372, u373, u374, u375, u376, u377, u378, u379, u380, u381, u382, u383, u384, u385, u386, u387, u388, u389, u390, u391, u392, u393, u394, u395, u396, u397, u398, u399, u400, u401, u402, u403, u404, u405, u406, u407, u408, u409, u410, u411, u412, u413, u414, u415, u416, u417, u418, u419, u420, u421, u422, u423, u424, u425, u426, u427, u428, u429, u430, u431, u432, u433, u434], []⟩ W := by
  obtain ⟨ca1, cc1, rfl, -⟩ := hA.c1.slice
  obtain ⟨pa1, pc1, rfl, -⟩ := hA.p1.slice
  obtain ⟨ca2, cc2, rfl, -⟩ := hA.c2.slice
  obtain ⟨pa2, pc2, rfl, -⟩ := hA.p2.slice
  have hAd : P2At w W.drew D0 A B R N cs1 cs2 ps1 ps2 xs ys tM p sv wv uv (.slice ca1 cs1.length cc1) (.slice pa1 ps1.length pc1) (.slice ca2 cs2.length cc2) (.slice pa2 ps2.length pc2) s := hA.later (Below.refl _ _).drew
  have hC := fun W' (hb : Below W.heap.size W.drew W') => (hAd.later hb).cells
  have hC0 := hC W.drew (Below.refl _ _)
  have b0 : Below W.heap.size W.drew W.drew := Below.refl _ _
  have bZ : Below W.heap.size W.drew (W.drew.alloc (.cells #[.int .i64 0, .slice none 0 0, .slice none 0 0, .slice none 0 0, .slice none 0 0, .int .i64 0, .int .i64 0, .int .i64 0, .int .i64 0, .int .i64 0, .int .i64 0] 49)) := b0.alloc (Nat.le_refl _) _
  have bZZ : Below W.heap.size W.drew ((W.drew.alloc (.cells #[.int .i64 0, .slice none 0 0, .slice none 0 0, .slice none 0 0, .slice none 0 0, .int .i64 0, .int .i64 0, .int .i64 0, .int .i64 0, .int .i64 0, .int .i64 0] 49)).alloc (.cells #[.int .i64 0, .slice none 0 0, .slice none 0 0, .slice none 0 0, .slice none 0 0, .int .i64 0, .int .i64 0, .int .i64 0, .int .i64 0, .int .i64 0, .int .i64 0] 49)) := bZ.alloc bZ.size _
  have hCZ := hC _ bZ
  have hCZZ := hC _ bZZ
  have hz1 := heap_alloc2_old W.drew (.cells #[.int .i64 0, .slice none 0 0, .slice none 0 0, .slice none 0 0, .slice none 0 0, .int .i64 0, .int .i64 0, .int .i64 0, .int .i64 0, .int .i64 0, .int .i64 0] 49) (.cells #[.int .i64 0, .slice none 0 0, .slice none 0 0, .slice none 0 0, .slice none 0 0, .int .i64 0, .int .i64 0, .int .i64 0, .int .i64 0, .int .i64 0, .int .i64 0] 49)
  have hz2 := heap_alloc2_new W.drew (.cells #[.int .i64 0, .slice none 0 0, .slice none 0 0, .slice none 0 0, .slice none 0 0, .int .i64 0, .int .i64 0, .int .i64 0, .int .i64 0, .int .i64 0, .int .i64 0] 49) (.cells #[.int .i64 0, .slice none 0 0, .slice none 0 0, .slice none 0 0, .slice none 0 0, .int .i64 0, .int .i64 0, .int .i64 0, .int .i64 0, .int .i64 0, .int .i64 0] 49)
  have HA := Lib.hid hAd
  have HC := Lib.hid hC
  clear hA hAd hC
  conv => arg 2; whnf
  go_wp2_with fail
  refine start_ (n := 12) (S := fun w' => w'.cell? ⟨A, 0, none⟩ = some (.int .i64 N) ∧ w'.cell? ⟨A, 1, none⟩ = some (.slice ca1 cs1.length cc1) ∧ w'.cell? ⟨A, 2, none⟩ = some (.slice pa1 ps1.length pc1) ∧ w'.cell? ⟨B, 0, none⟩ = some (.int .i64 N) ∧ w'.cell? ⟨B, 1, none⟩ = some (.slice ca2 cs2.length cc2) ∧ w'.cell? ⟨B, 2, none⟩ = some (.slice pa2 ps2.length pc2) ∧ w'.cell? ⟨D0, 4, none⟩ = some (.int .i64 (s 0)) ∧ w'.cell? ⟨D0, 5, none⟩ = some (.int .i64 (s 1)) ∧ w'.cell? ⟨D0, 6, none⟩ = some (.int .i64 (s 2)) ∧ w'.cell? ⟨D0, 7, none⟩ = some (.int .i64 (s 3)) ∧ w'.cell? ⟨D0, 8, none⟩ = some (.int .i64 (s 4)) ∧ w'.cell? ⟨D0, 9, none⟩ = some (.int .i64 (s 5))) (ds := [11]) #[false, false, false, false, false, false, false, false, false, false, false, false] (by kernel_rfl) rfl rfl ⟨hC0.1, hC0.2.1, hC0.2.2.1, hC0.2.2.2.1, hC0.2.2.2.2.1, hC0.2.2.2.2.2.1, hC0.2.2.2.2.2.2.1, hC0.2.2.2.2.2.2.2.1, hC0.2.2.2.2.2.2.2.2.1, hC0.2.2.2.2.2.2.2.2.2.1, hC0.2.2.2.2.2.2.2.2.2.2.1, hC0.2.2.2.2.2.2.2.2.2.2.2⟩ (fun hHeld => ?_)
  refine pure_ (i := 1) (N := some 212) (v := ?_) (a' := ?_) #[false, true, false, false, false, false, false, false, false, false, false, false] rfl rfl (by kernel_rfl) (fun _ _ _ h => h) (Or.inl ⟨by rfl, ?_⟩) ?_ ?_
  rotate_left
  · intro w'
    go_simp
    with_reducible rfl
  rotate_left
  · simp only [Act.put, List.setIfInBounds_toArray, List.set_cons_zero, List.set_cons_succ, i64_w, i32_w]
    rfl
  refine pure_ (i := 5) (N := some 216) (v := ?_) (a' := ?_) #[false, true, false, false, false, true, false, false, false, false, false, false] rfl rfl (by kernel_rfl) (fun _ _ _ h => h) (Or.inl ⟨by rfl, ?_⟩) ?_ ?_
  rotate_left
  · intro w'
    go_simp
    with_reducible rfl
  rotate_left
  · simp only [Act.put, List.setIfInBounds_toArray, List.set_cons_zero, List.set_cons_succ, i64_w, i32_w]
    rfl
  refine take_ (i := 0) (N := some 211) (v := ?_) (a' := ?_) #[true, true, false, false, false, true, false, false, false, false, false, false] rfl rfl (by kernel_rfl) (fun _ _ _ h => h) (Or.inl ⟨by rfl, ?_⟩) hHeld ?_ ?_
  rotate_left
  · rintro w' ⟨s0, s1, s2, s3, s4, s5, s6, s7, s8, s9, s10, s11⟩
    go_simp
    with_reducible rfl
  rotate_left
  · simp only [Act.put, List.setIfInBounds_toArray, List.set_cons_zero, List.set_cons_succ, i64_w, i32_w]
    rfl
  refine take_ (i := 2) (N := some 213) (v := ?_) (a' := ?_) #[true, true, true, false, false, true, false, false, false, false, false, false] rfl rfl (by kernel_rfl) (fun _ _ _ h => h) (Or.inl ⟨by rfl, ?_⟩) hHeld ?_ ?_
  rotate_left
  · rintro w' ⟨s0, s1, s2, s3, s4, s5, s6, s7, s8, s9, s10, s11⟩
    go_simp
    with_reducible rfl
  rotate_left
  · simp only [Act.put, List.setIfInBounds_toArray, List.set_cons_zero, List.set_cons_succ, i64_w, i32_w]
    rfl
  refine pure_ (i := 3) (N := some 214) (v := ?_) (a' := ?_) #[true, true, true, true, false, true, false, false, false, false, false, false] rfl rfl (by kernel_rfl) (fun _ _ _ h => h) (Or.inl ⟨by rfl, ?_⟩) ?_ ?_
  rotate_left
  · intro w'
    go_simp
    with_reducible rfl
  rotate_left
  · simp only [Act.put, List.setIfInBounds_toArray, List.set_cons_zero, List.set_cons_succ, i64_w, i32_w]
    rfl
  refine take_ (i := 4) (N := some 215) (v := ?_) (a' := ?_) #[true, true, true, true, true, true, false, false, false, false, false, false] rfl rfl (by kernel_rfl) (fun _ _ _ h => h) (Or.inl ⟨by rfl, ?_⟩) hHeld ?_ ?_
  rotate_left
  · rintro w' ⟨s0, s1, s2, s3, s4, s5, s6, s7, s8, s9, s10, s11⟩
    go_simp
    with_reducible rfl
  rotate_left
  · simp only [Act.put, List.setIfInBounds_toArray, List.set_cons_zero, List.set_cons_succ, i64_w, i32_w]
    rfl
  refine take_ (i := 6) (N := some 217) (v := ?_) (a' := ?_) #[true, true, true, true, true, true, true, false, false, false, false, false] rfl rfl (by kernel_rfl) (fun _ _ _ h => h) (Or.inl ⟨by rfl, ?_⟩) hHeld ?_ ?_
  rotate_left
  · rintro w' ⟨s0, s1, s2, s3, s4, s5, s6, s7, s8, s9, s10, s11⟩
    go_simp
    with_reducible rfl
  rotate_left
  · simp only [Act.put, List.setIfInBounds_toArray, List.set_cons_zero, List.set_cons_succ, i64_w, i32_w]
    rfl
  refine pure_ (i := 7) (N := some 218) (v := ?_) (a' := ?_) #[true, true, true, true, true, true, true, true, false, false, false, false] rfl rfl (by kernel_rfl) (fun _ _ _ h => h) (Or.inl ⟨by rfl, ?_⟩) ?_ ?_
  rotate_left
  · intro w'
    go_simp
    with_reducible rfl
  rotate_left
  · simp only [Act.put, List.setIfInBounds_toArray, List.set_cons_zero, List.set_cons_succ, i64_w, i32_w]
    rfl
  refine join_ (σ := Nat × Nat) 2 #[true, true, true, true, true, true, true, true, true, true, false, false] (fun z => [(20, .pointer (some ⟨z.1, 0, none⟩)), (21, .pointer (some ⟨z.2, 0, none⟩))]) (fun z w' => (w'.cell? ⟨A, 0, none⟩ = some (.int .i64 N) ∧ w'.cell? ⟨A, 1, none⟩ = some (.slice ca1 cs1.length cc1) ∧ w'.cell? ⟨A, 2, none⟩ = some (.slice pa1 ps1.length pc1) ∧ w'.cell? ⟨B, 0, none⟩ = some (.int .i64 N) ∧ w'.cell? ⟨B, 1, none⟩ = some (.slice ca2 cs2.length cc2) ∧ w'.cell? ⟨B, 2, none⟩ = some (.slice pa2 ps2.length pc2) ∧ w'.cell? ⟨D0, 4, none⟩ = some (.int .i64 (s 0)) ∧ w'.cell? ⟨D0, 5, none⟩ = some (.int .i64 (s 1)) ∧ w'.cell? ⟨D0, 6, none⟩ = some (.int .i64 (s 2)) ∧ w'.cell? ⟨D0, 7, none⟩ = some (.int .i64 (s 3)) ∧ w'.cell? ⟨D0, 8, none⟩ = some (.int .i64 (s 4)) ∧ w'.cell? ⟨D0, 9, none⟩ = some (.int .i64 (s 5))) ∧ Below W.heap.size W.drew w' ∧ w'.heap[z.1]? = some (.cells #[.int .i64 0, .slice none 0 0, .slice none 0 0, .slice none 0 0, .slice none 0 0, .int .i64 0, .int .i64 0, .int .i64 0, .int .i64 0, .int .i64 0, .int .i64 0] 49 (0, 0)) ∧ w'.heap[z.2]? = some (.cells #[.int .i64 0, .slice none 0 0, .slice none 0 0, .slice none 0 0, .slice none 0 0, .int .i64 0, .int .i64 0, .int .i64 0, .int .i64 0, .int .i64 0, .int .i64 0] 49 (0, 0)) ∧ W.heap.size ≤ z.1 ∧ W.heap.size ≤ z.2 ∧ z.1 ≠ z.2) ?_ ?_
  rotate_left
  · intro hCont
    refine two_ (i := 8) (j := 9) (Ni := some 20) (Nj := some 21) #[true, true, true, true, true, true, true, true, true, false, false, false] #[true, true, true, true, true, true, true, true, false, true, false, false] rfl rfl rfl rfl (by kernel_rfl) (by decide) (by decide) (fun K hK => ?_) (fun K hK => ?_)
    · skip
      refine value_ (w1 := ?_) (v := ?_) (by rfl) rfl ?_ ?_
      rotate_left 2
      · go_simp
        constructor
        · rfl
        · rfl
      refine hK.out _ _ ⟨hCZ.1, hCZ.2.1, hCZ.2.2.1, hCZ.2.2.2.1, hCZ.2.2.2.2.1, hCZ.2.2.2.2.2.1, hCZ.2.2.2.2.2.2.1, hCZ.2.2.2.2.2.2.2.1, hCZ.2.2.2.2.2.2.2.2.1, hCZ.2.2.2.2.2.2.2.2.2.1, hCZ.2.2.2.2.2.2.2.2.2.2.1, hCZ.2.2.2.2.2.2.2.2.2.2.2⟩ (fun hHeld => ?_)
      clear hK K
      refine norm_ (a' := ?_) ?_ ?_
      rotate_left
      · show Act.put _ (some 20) _ = _
        simp only [Act.put, List.setIfInBounds_toArray, List.set_cons_zero, List.set_cons_succ, i64_w, i32_w]
        rfl
      refine one_ (i := 9) (N := some 21) #[true, true, true, true, true, true, true, true, true, true, false, false] rfl rfl (by kernel_rfl) (by decide) (fun K hK => ?_)
      refine value_ (w1 := ?_) (v := ?_) (by rfl) rfl ?_ ?_
      rotate_left 2
      · go_simp
        constructor
        · rfl
        · rfl
      refine hK.out _ _ ⟨hCZZ.1, hCZZ.2.1, hCZZ.2.2.1, hCZZ.2.2.2.1, hCZZ.2.2.2.2.1, hCZZ.2.2.2.2.2.1, hCZZ.2.2.2.2.2.2.1, hCZZ.2.2.2.2.2.2.2.1, hCZZ.2.2.2.2.2.2.2.2.1, hCZZ.2.2.2.2.2.2.2.2.2.1, hCZZ.2.2.2.2.2.2.2.2.2.2.1, hCZZ.2.2.2.2.2.2.2.2.2.2.2⟩ (fun hHeld => ?_)
      clear hK K
      refine norm_ (a' := ?_) ?_ ?_
      rotate_left
      · show Act.put _ (some 21) _ = _
        simp only [Act.put, List.setIfInBounds_toArray, List.set_cons_zero, List.set_cons_succ, i64_w, i32_w]
        rfl
      exact norm_ (by simp only [putAll, Act.put, List.setIfInBounds_toArray, List.set_cons_zero, List.set_cons_succ]) (hCont ⟨W.heap.size, W.heap.size + 1⟩ _ ⟨hCZZ, bZZ, hz1, hz2, Nat.le_refl _, Nat.le_succ _, by omega⟩)
    · skip
      refine value_ (w1 := ?_) (v := ?_) (by rfl) rfl ?_ ?_
      rotate_left 2
      · go_simp
        constructor
        · rfl
        · rfl
      refine hK.out _ _ ⟨hCZ.1, hCZ.2.1, hCZ.2.2.1, hCZ.2.2.2.1, hCZ.2.2.2.2.1, hCZ.2.2.2.2.2.1, hCZ.2.2.2.2.2.2.1, hCZ.2.2.2.2.2.2.2.1, hCZ.2.2.2.2.2.2.2.2.1, hCZ.2.2.2.2.2.2.2.2.2.1, hCZ.2.2.2.2.2.2.2.2.2.2.1, hCZ.2.2.2.2.2.2.2.2.2.2.2⟩ (fun hHeld => ?_)
      clear hK K
      refine norm_ (a' := ?_) ?_ ?_
      rotate_left
      · show Act.put _ (some 21) _ = _
        simp only [Act.put, List.setIfInBounds_toArray, List.set_cons_zero, List.set_cons_succ, i64_w, i32_w]
        rfl
      refine one_ (i := 8) (N := some 20) #[true, true, true, true, true, true, true, true, true, true, false, false] rfl rfl (by kernel_rfl) (by decide) (fun K hK => ?_)
      refine value_ (w1 := ?_) (v := ?_) (by rfl) rfl ?_ ?_
      rotate_left 2
      · go_simp
        constructor
        · rfl
        · rfl
      refine hK.out _ _ ⟨hCZZ.1, hCZZ.2.1, hCZZ.2.2.1, hCZZ.2.2.2.1, hCZZ.2.2.2.2.1, hCZZ.2.2.2.2.2.1, hCZZ.2.2.2.2.2.2.1, hCZZ.2.2.2.2.2.2.2.1, hCZZ.2.2.2.2.2.2.2.2.1, hCZZ.2.2.2.2.2.2.2.2.2.1, hCZZ.2.2.2.2.2.2.2.2.2.2.1, hCZZ.2.2.2.2.2.2.2.2.2.2.2⟩ (fun hHeld => ?_)
      clear hK K
      refine norm_ (a' := ?_) ?_ ?_
      rotate_left
      · show Act.put _ (some 20) _ = _
        simp only [Act.put, List.setIfInBounds_toArray, List.set_cons_zero, List.set_cons_succ, i64_w, i32_w]
        rfl
      exact norm_ (by simp only [putAll, Act.put, List.setIfInBounds_toArray, List.set_cons_zero, List.set_cons_succ]) (hCont ⟨W.heap.size + 1, W.heap.size⟩ _ ⟨hCZZ, bZZ, hz2, hz1, Nat.le_succ _, Nat.le_refl _, by omega⟩)
  clear hHeld hCZ hCZZ bZ bZZ hz1 hz2
  rintro ⟨T1, T2⟩ w2 ⟨hHeld, hbel, hr1, hr2, g1, g2, hne⟩
  dsimp only at hr1 hr2 g1 g2 hne
  have hst1 := store_whole (P := Tryd.prog) (t := 49) (cs2 := taskA N (.slice ca1 cs1.length cc1) (.slice pa1 ps1.length pc1) (.slice none 0 0) (.slice none 0 0) s) info_task hr1 rfl (taskA_one N ca1 pa1 none none none none none none cs1.length ps1.length 0 0 cc1 pc1 0 0 s)
  have hr2b : (w2.setRow T1 (taskA N (.slice ca1 cs1.length cc1) (.slice pa1 ps1.length pc1) (.slice none 0 0) (.slice none 0 0) s)).heap[T2]? = _ := (setRow_other _ _ _ _ (Ne.symm hne)).trans hr2
  have hst2 := store_whole (P := Tryd.prog) (t := 49) (cs2 := taskA N (.slice ca2 cs2.length cc2) (.slice pa2 ps2.length pc2) (.slice none 0 0) (.slice none 0 0) s) info_task hr2b rfl (taskA_one N ca2 pa2 none none none none none none cs2.length ps2.length 0 0 cc2 pc2 0 0 s)
  have hT0 : TkQ W.drew _ T1 T2 N _ _ _ _ s _ _ _ _ _ _ _ _ [] [] [] [] := TkQ.start (cv1 := .slice ca1 cs1.length cc1) (pv1 := .slice pa1 ps1.length pc1) (cv2 := .slice ca2 cs2.length cc2) (pv2 := .slice pa2 ps2.length pc2) (s := s) (N := N) hbel hr1 hr2 g1 g2 hne
  have bS1 : Below W.heap.size W.drew (w2.setRow T1 (taskA N (.slice ca1 cs1.length cc1) (.slice pa1 ps1.length pc1) (.slice none 0 0) (.slice none 0 0) s)) := hbel.trans ⟨rfl, rfl, rfl, by simp, fun i hi => setRow_other _ _ _ _ (by omega)⟩
  have hCS := HC.out _ bS1
  have HST1 := Lib.hid hst1
  have HST2 := Lib.hid hst2
  have HT0 := Lib.hid hT0
  clear hst1 hst2 hr2b hr1 hr2 hT0 bS1 hbel g1 g2 hne
  unfold taskA at HST1 HST2 HT0 hCS
  refine norm_ (a' := ?_) ?_ ?_
  rotate_left
  · simp only [putAll, Act.put, List.setIfInBounds_toArray, List.set_cons_zero, List.set_cons_succ]
    rfl
  refine one_ (i := 10) (N := none) #[true, true, true, true, true, true, true, true, true, true, true, false] rfl rfl (by kernel_rfl) (by decide) (fun K hK => ?_)
  refine skip_ (w1 := _) (by rfl) rfl (exec_store (v := .pointer (some ⟨T1, 0, none⟩)) (u := (.agg #[.int .i64 N, .slice ca1 cs1.length cc1, .slice pa1 ps1.length pc1, .slice none 0 0, .slice none 0 0, .int .i64 (s 0), .int .i64 (s 1), .int .i64 (s 2), .int .i64 (s 3), .int .i64 (s 4), .int .i64 (s 5)])) rfl (by rfl) (by rfl) HST1.out) ?_
  refine hK.out _ _ ⟨hCS.1, hCS.2.1, hCS.2.2.1, hCS.2.2.2.1, hCS.2.2.2.2.1, hCS.2.2.2.2.2.1, hCS.2.2.2.2.2.2.1, hCS.2.2.2.2.2.2.2.1, hCS.2.2.2.2.2.2.2.2.1, hCS.2.2.2.2.2.2.2.2.2.1, hCS.2.2.2.2.2.2.2.2.2.2.1, hCS.2.2.2.2.2.2.2.2.2.2.2⟩ (fun hHeld => ?_)
  clear hK K
  refine last_ (i := 11) (N := none) #[true, true, true, true, true, true, true, true, true, true, true, true] rfl rfl (by kernel_rfl) (by decide) (fun K hK => ?_)
  refine skip_ (w1 := _) (by rfl) rfl (exec_store (v := .pointer (some ⟨T2, 0, none⟩)) (u := (.agg #[.int .i64 N, .slice ca2 cs2.length cc2, .slice pa2 ps2.length pc2, .slice none 0 0, .slice none 0 0, .int .i64 (s 0), .int .i64 (s 1), .int .i64 (s 2), .int .i64 (s 3), .int .i64 (s 4), .int .i64 (s 5)])) rfl (by rfl) (by rfl) HST2.out) ?_
  refine hK.out _ _ ?_
  clear hK K
  refine done_ (by kernel_rfl) ?_
  clear hHeld hC0 hCS HST1 HST2
  have HTQ : Hid (TkQ W.drew _ T1 T2 N (.slice ca1 cs1.length cc1) (.slice pa1 ps1.length pc1) (.slice ca2 cs2.length cc2) (.slice pa2 ps2.length pc2) s (.slice none 0 0) (.slice none 0 0) (.slice none 0 0) (.slice none 0 0) (.slice none 0 0) (.slice none 0 0) (.slice none 0 0) (.slice none 0 0) [] [] [] []) := HT0.out
  clear HT0
  go_wp2_with fail
  exact HE.out HTQ.out
end Go.Proofs.YtepofpnbgbmihaaDoor

/-
  The law's loop over the pairs that shall not be alike.
-/
namespace Go.Proofs.YtepofpnbgbmihaaDoor
open Go.RowKit Go.Shelf Go.Proofs.YtepofpnbgbmihaaDoorW.PrintLast
set_option linter.unusedSimpArgs false
set_option linter.unusedVariables false

theorem task_snocU {n : Nat} {ws : List Wi} {us : List Uk} {x : Uk} (h : TaskOk n ws us) (hl : us.length < 100) (hx : 0 ≤ x.p ∧ x.p < n ∧ 0 ≤ x.q ∧ x.q < n ∧ x.p ≠ x.q) : TaskOk n ws (us ++ [x]) :=
  ⟨h.nw, by rw [List.length_append, List.length_singleton]; omega, h.w, fun i y hy => by
    by_cases e : i < us.length
    · rw [List.getElem?_append_left e] at hy; exact h.u i y hy
    · rw [List.getElem?_append_right (by omega)] at hy
      have hm := List.mem_of_getElem? hy
      rw [List.mem_singleton] at hm
      rw [hm]; exact hx⟩
theorem wpList_two {W W2 : World} {ops : Array Oper} {rest : List Oper} {o : Oper} {a : Act} {Q : Exit → Act → World → Prop} (hgd : o.guard = none) (s x : Operand)
    (ho : o.op = .call { callee := .builtin .append, args := #[s, x], argTypes := #[47, 47] })
    (base : Nat) (v : Value) (xs : List Uk) (hs : a.eval s = v) (hown : OwnU W base v xs) (c : Nat) (y : Uk)
    (g : Nat) (hg : g = W.heap.size) (hx : a.eval x = .slice (some ⟨g, 0, none⟩) 1 c) (hlen : xs.length < 1000000000) (hbase : base ≤ W.heap.size)
    (hW : W2 = W.alloc (.cells #[.int .i64 y.p, .int .i64 y.q] 54))
    (h : ∀ v' w', OwnU w' base v' (xs ++ [y]) → W.grownBy w' v.ownBlock → v' ≠ .slice none 0 0 → Hat W v v' → wpList Tryd.prog ops Q rest (a.put o.dst v') w') :
    wpList Tryd.prog ops Q (o :: rest) a W2 := by
  obtain ⟨i0, hi, hz0, hz1, hz2⟩ := info_parts info_two
  exact wpList_app1 hgd s x 47 ho 54 i0 _ 2 16 Tryd.underlying47 hi hz0 hz1 hz2 rfl (by decide) encU encU_len encU_one base v xs hs hown _ c y rfl g hg hx (by omega) hlen hbase hW h
theorem u16_i64 (x : Int) (h0 : 0 ≤ x) (h1 : x < 65536) : IntKind.i64.wrap x = x := IntWalk.i64_in _ (by omega)

set_option maxRecDepth 100000 in
set_option maxHeartbeats 4000000 in
theorem law_loopC {w W0 W : World} {D0 A B R N n T1 T2 : Nat} {cs1 cs2 : List Crs} {ps1 ps2 : List Pn} {xs : List Wi} {ys : List Ul} {out : List Nat} {tM : Nat → Nat} {p : Int} {sv cv1 pv1 wv uv cv2 pv2 : Value} {s : Nat → Int} {va vb : Value} {ws : List Wi} {u0 u1 u3 u4 u5 u6 u7 u9 u11 u12 u13 u14 u15 u18 u19 u22 u23 u24 u25 u26 u27 u28 u29 u30 u31 u32 u33 u34 u35 u36 u37 u38 u39 u40 u41 u42 u43 u44 u45 u46 u47 u48 u49 u50 u51 u52 u53 u54 u55 u56 u57 u58 u59 u60 u61 u62 u63 u64 u65 u66 u67 u68 u69 u70 u71 u72 u73 u74 u75 u76 u77 u78 u79 u80 u81 u82 u83 u84 u85 u86 u87 u88 u89 u90 u91 u92 u93 u94 u95 u96 u97 u98 u99 u100 u101 u102 u103 u104 u105 u106 u107 u108 u109 u110 u111 u112 u113 u114 u115 u116 u117 u118 u119 u120 u121 u122 u123 u124 u125 u126 u127 u128 u129 u130 u131 u132 u133 u134 u135 u136 u137 u138 u139 u140 u141 u142 u143 u144 u145 u146 u147 u148 u149 u150 u151 u152 u153 u154 u155 u156 u157 u158 u159 u160 u161 u162 u163 u164 u165 u166 u167 u168 u169 u170 u171 u172 u173 u174 u175 u176 u177 u178 u179 u180 u181 u182 u183 u184 u185 u186 u187 u188 u189 u190 u191 u192 u193 u194 u195 u196 u197 u198 u199 u200 u201 u202 u203 u204 u205 u206 u207 u208 u209 u210 u211 u212 u213 u214 u215 u216 u217 u218 u219 u220 u221 u222 u223 u224 u225 u226 u227 u228 u229 u230 u231 u232 u233 u234 u235 u236 u237 u238 u239 u240 u241 u242 u243 u244 u245 u246 u247 u248 u249 u250 u251 u252 u253 u254 u255 u256 u257 u258 u259 u260 u261 u262 u263 u264 u265 u266 u267 u268 u269 u270 u271 u272 u273 u274 u275 u276 u277 u278 u279 u280 u281 u282 u283 u284 u285 u286 u287 u288 u289 u290 u291 u292 u293 u294 u295 u296 u297 u298 u299 u300 u301 u302 u303 u304 u305 u306 u307 u308 u309 u310 u311 u312 u313 u314 u315 u316 u317 u318 u319 u320 u321 u322 u323 u324 u325 u326 u327 u328 u329 u330 u331 u332 u333 u334 u335 u336 u337 u338 u339 u340 u341 u342 u343 u344 u345 u346 u347 u348 u349 u350 u351 u352 u353 u354 u355 u356 u357 u358 u359 u360 u361 u362 u363 u364 u365 u366 u367 u368 u369 u370 u371 u372 u373 u374 u375 u376 u377 u378 u379 u380 u381 u382 u383 u384 u385 u386 u387 u388 u389 u390 u391 u392 u393 u394 u395 u396 u397 u398 u399 u400 u401 u402 u403 u404 u405 u406 u407 u408 u409 u410 u411 u412 u413 u414 u415 u416 u417 u418 u419 u420 u421 u422 u423 u424 u425 u426 u427 u428 u429 u430 u431 u432 u433 u434 : Value} {K : Act → World → Prop}
    (hS : Same cs1 cs2 n out tM) (hn : cs1.length ≤ 20000) (hy10 : ys.length ≤ 10) (hya : ∀ (i : Nat) (x : Ul), ys[i]? = some x → 0 ≤ x.a ∧ x.a < 65536 ∧ 0 ≤ x.b ∧ x.b < 65536)
    (hA : P2At w W0 D0 A B R N cs1 cs2 ps1 ps2 xs ys tM p sv wv uv cv1 pv1 cv2 pv2 s) (hT : TaskOk cs1.length ws []) (hq : TkQ W0 W T1 T2 N cv1 pv1 cv2 pv2 s va vb (.slice none 0 0) (.slice none 0 0) va vb (.slice none 0 0) (.slice none 0 0) ws (ws.map (mapW tM)) [] [])
    (HE : Hid (∀ {ua ub : Value} {us : List Uk} {W' : World} {u0 u1 u3 u4 u5 u6 u7 u9 u11 u12 u13 u14 u15 u18 u19 u22 u23 u24 u25 u26 u27 u28 u29 u30 u31 u32 u33 u34 u35 u36 u37 u38 u39 u40 u41 u42 u43 u44 u45 u46 u47 u48 u49 u50 u51 u52 u53 u54 u55 u56 u57 u58 u59 u60 u61 u62 u63 u64 u65 u66 u67 u68 u69 u70 u71 u72 u73 u74 u75 u76 u77 u78 u79 u80 u81 u82 u83 u84 u85 u86 u87 u88 u89 u90 u91 u92 u93 u94 u95 u96 u97 u98 u99 u100 u101 u102 u103 u104 u105 u106 u107 u108 u109 u110 u111 u112 u113 u114 u115 u116 u117 u118 u119 u120 u121 u122 u123 u124 u125 u126 u127 u128 u129 u130 u131 u132 u133 u134 u135 u136 u137 u138 u139 u140 u141 u142 u143 u144 u145 u146 u147 u148 u149 u150 u151 u152 u153 u154 u155 u156 u157 u158 u159 u160 u161 u162 u163 u164 u165 u166 u167 u168 u169 u170 u171 u172 u173 u174 u175 u176 u177 u178 u179 u180 u181 u182 u183 u184 u185 u186 u187 u188 u189 u190 u191 u192 u193 u194 u195 u196 u197 u198 u199 u200 u201 u202 u203 u204 u205 u206 u207 u208 u209 u210 u211 u212 u213 u214 u215 u216 u217 u218 u219 u220 u221 u222 u223 u224 u225 u226 u227 u228 u229 u230 u231 u232 u233 u234 u235 u236 u237 u238 u239 u240 u241 u242 u243 u244 u245 u246 u247 u248 u249 u250 u251 u252 u253 u254 u255 u256 u257 u258 u259 u260 u261 u262 u263 u264 u265 u266 u267 u268 u269 u270 u271 u272 u273 u274 u275 u276 u277 u278 u279 u280 u281 u282 u283 u284 u285 u286 u287 u288 u289 u290 u291 u292 u293 u294 u295 u296 u297 u298 u299 u300 u301 u302 u303 u304 u305 u306 u307 u308 u309 u310 u311 u312 u313 u314 u315 u316 u317 u318 u319 u320 u321 u322 u323 u324 u325 u326 u327 u328 u329 u330 u331 u332 u333 u334 u335 u336 u337 u338 u339 u340 u341 u342 u343 u344 u345 u346 u347 u348 u349 u350 u351 u352 u353 u354 u355 u356 u357 u358 u359 u360 u361 u362 u363 u364 u365 u366 u367 u368 u369 u370 u371 u372 u373 u374 u375 u376 u377 u378 u379 u380 u381 u382 u383 u384 u385 u386 u387 u388 u389 u390 u391 u392 u393 u394 u395 u396 u397 u398 u399 u400 u401 u402 u403 u404 u405 u406 u407 u408 u409 u410 u411 u412 u413 u414 u415 u416 u417 u418 u419 u420 u421 u422 u423 u424 u425 u426 u427 u428 u429 u430 u431 u432 u433 u434 : Value}, TaskOk cs1.length ws us → TkQ W0 W' T1 T2 N cv1 pv1 cv2 pv2 s va vb ua ub va vb ua ub ws (ws.map (mapW tM)) us (us.map (mapU tM)) → K ⟨#[u0, u1, .pointer (some ⟨D0, 0, none⟩), u3, u4, u5, u6, u7, .pointer (some ⟨A, 0, none⟩), u9, .pointer (some ⟨B, 0, none⟩), u11, u12, u13, u14, u15, .int .i64 cs1.length, .slice (some ⟨R, 0, none⟩) cs1.length cs1.length, u18, u19, .pointer (some ⟨T1, 0, none⟩), .pointer (some ⟨T2, 0, none⟩), u22, u23, u24, u25, u26, u27, u28, u29, u30, u31, u32, u33, u34, u35, u36, u37, u38, u39, u40, u41, u42, u43, u44, u45, u46, u47, u48, u49, u50, u51, u52, u53, u54, u55, u56, u57, u58, u59, u60, u61, u62, u63, u64, u65, u66, u67, u68, u69, u70, u71, u72, u73, u74, u75, u76, u77, u78, u79, u80, u81, u82, u83, u84, u85, u86, u87, u88, u89, u90, u91, u92, u93, u94, u95, u96, u97, u98, u99, u100, u101, u102, u103, u104, u105, u106, u107, u108, u109, u110, u111, u112, u113, u114, u115, u116, u117, u118, u119, u120, u121, u122, u123, u124, u125, u126, u127, u128, u129, u130, u131, u132, u133, u134, u135, u136, u137, u138, u139, u140, u141, u142, u143, u144, u145, u146, u147, u148, u149, u150, u151, u152, u153, u154, u155, u156, u157, u158, u159, u160, u161, u162, u163, u164, u165, u166, u167, u168, u169, u170, u171, u172, u173, u174, u175, u176, u177, u178, u179, u180, u181, u182, u183, u184, u185, u186, u187, u188, u189, u190, u191, u192, u193, u194, u195, u196, u197, u198, u199, u200, u201, u202, u203, u204, u205, u206, u207, u208, u209, u210, u211, u212, u213, u214, u215, u216, u217, u218, u219, u220, u221, u222, u223, u224, u225, u226, u227, u228, u229, u230, u231, u232, u233, u234, u235, u236, u237, u238, u239, u240, u241, u242, u243, u244, u245, u246, u247, u248, u249, u250, u251, u252, u253, u254, u255, u256, u257, u258, u259, u260, u261, u262, u263, u264, u265, u266, u267, u268, u269, u270, u271, u272, u273, u274, u275, u276, u277, u278, u279, u280, u281, u282, u283, u284, u285, u286, u287, u288, u289, u290, u291, u292, u293, u294, u295, u296, u297, u298, u299, u300, u301, u302, u303, u304, u305, u306, u307, u308, u309, u310, u311, u312, u313, u314, u315, u316, u317, u318, u319, u320, u321, u322, u323, u324, u325, u326, u327, u328, u329, u330, u331, u332, u333, u334, u335, u336, u337, u338, u339, u340, u341, u342, u343, u344, u345, u346, u347, u348, u349, u350, u351, u352, u353, u354, u355, u356, u357, u358, u359, u360, u361, u362, u363, u364, u365, u366, u367, u368, u369, u370, u371, u372, u373, u374, u375, u376, u377, u378, u379, u380, u381, u382, u383, u384, u385, u386, u387, u388, u389, u390, u391, u392, u393, u394, u395, u396, u397, u398, u399, u400, u401, u402, u403, u404, u405, u406, u407, u408, u409, u410, u411, u412, u413, u414, u415, u416, u417, u418, u419, u420, u421, u422, u423, u424, u425, u426, u427, u428, u429, u430, u431, u432, u433, u434], []⟩ W')) :
    Code.wp Tryd.prog (fstK 16 lawBody) (Exit.then K (bodyPost Tryd.prog Tryd.f3 (LawPost w))) ⟨#[u0, u1, .pointer (some ⟨D0, 0, none⟩), u3, u4, u5, u6, u7, .pointer (some ⟨A, 0, none⟩), u9, .pointer (some ⟨B, 0, none⟩), u11, u12, u13, u14, u15, .int .i64 cs1.length, .slice (some ⟨R, 0, none⟩) cs1.length cs1.length, u18, u19, .pointer (some ⟨T1, 0, none⟩), .pointer (some ⟨T2, 0, none⟩), u22, u23, u24, u25, u26, u27, u28, u29, u30, u31, u32, u33, u34, u35, u36, u37, u38, u39, u40, u41, u42, u43, u44, u45, u46, u47, u48, u49, u50, u51, u52, u53, u54, u55, u56, u57, u58, u59, u60, u61, u62, u63, u64, u65, u66, u67, u68, u69, u70, u71, u72, u73, u74, u75, u76, u77, u78, u79, u80, u81, u82, u83, u84, u85, u86, u87, u88, u89, u90, u91, u92, u93, u94, u95, u96, u97, u98, u99, u100, u101, u102, u103, u104, u105, u106, u107, u108, u109, u110, u111, u112, u113, u114, u115, u116, u117, u118, u119, u120, u121, u122, u123, u124, u125, u126, u127, u128, u129, u130, u131, u132, u133, u134, u135, u136, u137, u138, u139, u140, u141, u142, u143, u144, u145, u146, u147, u148, u149, u150, u151, u152, u153, u154, u155, u156, u157, u158, u159, u160, u161, u162, u163, u164, u165, u166, u167, u168, u169, u170, u171, u172, u173, u174, u175, u176, u177, u178, u179, u180, u181, u182, u183, u184, u185, u186, u187, u188, u189, u190, u191, u192, u193, u194, u195, u196, u197, u198, u199, u200, u201, u202, u203, u204, u205, u206, u207, u208, u209, u210, u211, u212, u213, u214, u215, u216, u217, u218, u219, u220, u221, u222, u223, u224, u225, u226, u227, u228, u229, u230, u231, u232, u233, u234, u235, u236, u237, u238, u239, u240, u241, u242, u243, u244, u245, u246, u247, u248, u249, u250, u251, u252, u253, u254, u255, u256, u257, u258, u259, u260, u261, u262, u263, u264, u265, u266, u267, u268, u269, u270, u271, u272, u273, u274, u275, u276, u277, u278, u279, u280, u281, u282, u283, u284, u285, u286, u287, u288, u289, u290, u291, u292, u293, u294, u295, u296, u297, u298, u299, u300, u301, u302, u303, u304, u305, u306, u307, u308, u309, u310, u311, u312, u313, u314, u315, u316, u317, u318, u319, u320, u321, u322, u323, u324, u325, u326, u327, u328, u329, u330, u331, u332, u333, u334, u335, u336, u337, u338, u339, u340, u341, u342, u343, u344, u345, u346, u347, u348, u349, u350, u351, u352, u353, u354, u355, u356, u357, u358, u359, u360, u361, u362, u363, u364, u365, u366, u367, u368, u369, u370, u371, u372, u373, u374, u375, u376, u377, u378, u379, u380, u381, u382, u383, u384, u385, u386, u387, u388, u389, u390, u391, u392, u393, u394, u395, u396, u397, u398, u399, u400, u401, u402, u403, u404, u405, u406, u407, u408, u409, u410, u411, u412, u413, u414, u415, u416, u417, u418, u419, u420, u421, u422, u423, u424, u425, u426, u427, u428, u429, u430, u431, u432, u433, u434], []⟩ W := by
  obtain ⟨wa, wc, rfl, -, hwr⟩ := hA.ur.slice
  have HYA := Lib.hid hya
  have HS := Lib.hid hS
  have HA := Lib.hid hA
  have HQ0 := Lib.hid hq
  have HWR := Lib.hid hwr
  have HTK0 := Lib.hid hT
  clear hya hS hA hq hwr hT
  conv => arg 2; whnf
  go_wp2_with fail
  go_loopw [24, 25, 26] (fun i _ _ wr => ∃ (k : Nat) (ua ub : Value) (us : List Uk), k ≤ ys.length ∧ i = .int .i64 k ∧ TkQ W0 wr T1 T2 N cv1 pv1 cv2 pv2 s va vb ua ub va vb ua ub ws (ws.map (mapW tM)) us (us.map (mapU tM)) ∧ us.length ≤ k ∧ Hid (TaskOk cs1.length ws us)) (fun i _ _ _ => ys.length - (intOf i).toNat)
  case atStart => exact ⟨0, _, _, [], Nat.zero_le _, rfl, HQ0.out, Nat.le_refl _, HTK0⟩
  case round =>
    obtain ⟨k, ua, ub, us, hk, rfl, hq, hwk, HTK⟩ := hrel
    have HQ := Lib.hid hq
    have hAr := HA.out.later hq.below
    have hcW : wr.cell? ⟨D0, 3, none⟩ = some (.slice wa ys.length wc) := by rw [cell_of_row _ _ 3 _ _ _ hAr.d]; rfl
    have HAr := Lib.hid hAr
    have hw64 : wrap64 ((k : Int) + 1) = (k : Int) + 1 := w64_succ k (by omega)
    have hk0 : (0 : Int) ≤ (k : Int) := by omega
    clear hq HQ0 HTK0 hAr
    by_cases hlt : k < ys.length
    · have hl2 : decide ((k : Int) < (ys.length : Int)) = true := by simp; omega
      by_cases hn0 : 1 < cs1.length
      · have hn2 : decide ((1 : Int) < (cs1.length : Int)) = true := by simp; omega
        obtain ⟨xb, xo, rfl, hxl, hxc⟩ := HWR.out k ys[k] (List.getElem?_eq_getElem hlt)
        have hxv := HYA.out k ys[k] (List.getElem?_eq_getElem hlt)
        have hb0 := HQ.out.below
        have he0 := (hb0.cell (p := ⟨xb, xo + k * 2 + 0, none⟩) hxl).trans (hxc 0 _ rfl)
        have he1 := (hb0.cell (p := ⟨xb, xo + k * 2 + 1, none⟩) hxl).trans (hxc 1 _ rfl)
        rw [Nat.add_zero] at he0
        generalize ys[k] = x at he0 he1 hxv
        have hl3 : ((k : Int) < (ys.length : Int)) = True := by simp; omega
        obtain ⟨m, hmod, hm⟩ := cross_mod x.a cs1.length (by omega) hxv.1
        obtain ⟨q, hqmod, hqm⟩ := cross_mod x.b cs1.length (by omega) hxv.2.2.1
        have hu1 := u16_i64 x.a hxv.1 hxv.2.1
        have hu2 := u16_i64 x.b hxv.2.2.1 hxv.2.2.2
        have hn0e : (cs1 = []) = False := eq_false (fun e => by rw [e] at hn0; simp at hn0)
        have hn0z : ((cs1.length : Int) == 0) = false := by simp; intro e; rw [e] at hn0; simp at hn0
        have hx00 := hxv.1
        have hx10 := hxv.2.2.1
        have HXV := Lib.hid hxv
        clear hb0 hxc hxl hxv
        go_wp2_with fail
        refine start_ (n := 20) (S := fun w' => w'.cell? ⟨D0, 3, none⟩ = some (.slice (some ⟨xb, xo, none⟩) ys.length wc) ∧ w'.cell? ⟨xb, xo + k * 2, none⟩ = some (.int .u16 x.a) ∧ w'.cell? ⟨xb, xo + k * 2 + 1, none⟩ = some (.int .u16 x.b)) (ds := []) #[false, false, false, false, false, false, false, false, false, false, false, false, false, false, false, false, false, false, false, false] (by kernel_rfl) rfl rfl ⟨hcW, he0, he1⟩ (fun hHeld => ?_)
        refine pure_ (i := 0) (N := some 276) (v := ?_) (a' := ?_) #[true, false, false, false, false, false, false, false, false, false, false, false, false, false, false, false, false, false, false, false] rfl rfl (by kernel_rfl) (fun _ _ _ h => h) (Or.inl ⟨by rfl, ?_⟩) ?_ ?_
        rotate_left
        · intro w'
          go_simp
          with_reducible rfl
        rotate_left
        · simp only [Act.put, List.setIfInBounds_toArray, List.set_cons_zero, List.set_cons_succ, i64_w, i32_w]
          rfl
        refine pure_ (i := 2) (N := some 278) (v := ?_) (a' := ?_) #[true, false, true, false, false, false, false, false, false, false, false, false, false, false, false, false, false, false, false, false] rfl rfl (by kernel_rfl) (fun _ _ _ h => h) (Or.inl ⟨by rfl, ?_⟩) ?_ ?_
        rotate_left
        · intro w'
          go_simp
          with_reducible rfl
        rotate_left
        · simp only [Act.put, List.setIfInBounds_toArray, List.set_cons_zero, List.set_cons_succ, i64_w, i32_w]
          rfl
        refine pure_ (i := 7) (N := some 283) (v := ?_) (a' := ?_) #[true, false, true, false, false, false, false, true, false, false, false, false, false, false, false, false, false, false, false, false] rfl rfl (by kernel_rfl) (fun _ _ _ h => h) (Or.inl ⟨by rfl, ?_⟩) ?_ ?_
        rotate_left
        · intro w'
          go_simp
          with_reducible rfl
        rotate_left
        · simp only [Act.put, List.setIfInBounds_toArray, List.set_cons_zero, List.set_cons_succ, i64_w, i32_w]
          rfl
        refine pure_ (i := 9) (N := some 285) (v := ?_) (a' := ?_) #[true, false, true, false, false, false, false, true, false, true, false, false, false, false, false, false, false, false, false, false] rfl rfl (by kernel_rfl) (fun _ _ _ h => h) (Or.inl ⟨by rfl, ?_⟩) ?_ ?_
        rotate_left
        · intro w'
          go_simp
          with_reducible rfl
        rotate_left
        · simp only [Act.put, List.setIfInBounds_toArray, List.set_cons_zero, List.set_cons_succ, i64_w, i32_w]
          rfl
        refine pure_ (i := 11) (N := some 287) (v := ?_) (a' := ?_) #[true, false, true, false, false, false, false, true, false, true, false, true, false, false, false, false, false, false, false, false] rfl rfl (by kernel_rfl) (fun _ _ _ h => h) (Or.inl ⟨by rfl, ?_⟩) ?_ ?_
        rotate_left
        · intro w'
          go_simp
          with_reducible rfl
        rotate_left
        · simp only [Act.put, List.setIfInBounds_toArray, List.set_cons_zero, List.set_cons_succ, i64_w, i32_w]
          rfl
        refine pure_ (i := 16) (N := some 292) (v := ?_) (a' := ?_) #[true, false, true, false, false, false, false, true, false, true, false, true, false, false, false, false, true, false, false, false] rfl rfl (by kernel_rfl) (fun _ _ _ h => h) (Or.inl ⟨by rfl, ?_⟩) ?_ ?_
        rotate_left
        · intro w'
          go_simp
          with_reducible rfl
        rotate_left
        · simp only [Act.put, List.setIfInBounds_toArray, List.set_cons_zero, List.set_cons_succ, i64_w, i32_w]
          rfl
        refine take_ (i := 1) (N := some 277) (v := ?_) (a' := ?_) #[true, true, true, false, false, false, false, true, false, true, false, true, false, false, false, false, true, false, false, false] rfl rfl (by kernel_rfl) (fun _ _ _ h => h) (Or.inl ⟨by rfl, ?_⟩) hHeld ?_ ?_
        rotate_left
        · rintro w' ⟨s0, s1, s2⟩
          go_simp
          with_reducible rfl
        rotate_left
        · simp only [Act.put, List.setIfInBounds_toArray, List.set_cons_zero, List.set_cons_succ, i64_w, i32_w]
          rfl
        refine pure_ (i := 3) (N := some 279) (v := ?_) (a' := ?_) #[true, true, true, true, false, false, false, true, false, true, false, true, false, false, false, false, true, false, false, false] rfl rfl (by kernel_rfl) (fun _ _ _ h => h) (Or.inl ⟨by rfl, ?_⟩) ?_ ?_
        rotate_left
        · intro w'
          go_simp
          with_reducible rfl
        rotate_left
        · simp only [Act.put, List.setIfInBounds_toArray, List.set_cons_zero, List.set_cons_succ, i64_w, i32_w]
          rfl
        refine pure_ (i := 4) (N := some 280) (v := ?_) (a' := ?_) #[true, true, true, true, true, false, false, true, false, true, false, true, false, false, false, false, true, false, false, false] rfl rfl (by kernel_rfl) (fun _ _ _ h => h) (Or.inl ⟨by rfl, ?_⟩) ?_ ?_
        rotate_left
        · intro w'
          go_simp
          with_reducible rfl
        rotate_left
        · simp only [Act.put, List.setIfInBounds_toArray, List.set_cons_zero, List.set_cons_succ, i64_w, i32_w]
          rfl
        refine take_ (i := 5) (N := some 281) (v := ?_) (a' := ?_) #[true, true, true, true, true, true, false, true, false, true, false, true, false, false, false, false, true, false, false, false] rfl rfl (by kernel_rfl) (fun _ _ _ h => h) (Or.inl ⟨by rfl, ?_⟩) hHeld ?_ ?_
        rotate_left
        · rintro w' ⟨s0, s1, s2⟩
          go_simp
          with_reducible rfl
        rotate_left
        · simp only [Act.put, List.setIfInBounds_toArray, List.set_cons_zero, List.set_cons_succ, i64_w, i32_w]
          rfl
        refine pure_ (i := 6) (N := some 282) (v := ?_) (a' := ?_) #[true, true, true, true, true, true, true, true, false, true, false, true, false, false, false, false, true, false, false, false] rfl rfl (by kernel_rfl) (fun _ _ _ h => h) (Or.inl ⟨by rfl, ?_⟩) ?_ ?_
        rotate_left
        · intro w'
          go_simp
          with_reducible rfl
        rotate_left
        · simp only [Act.put, List.setIfInBounds_toArray, List.set_cons_zero, List.set_cons_succ, i64_w, i32_w]
          rfl
        refine pure_ (i := 8) (N := some 284) (v := ?_) (a' := ?_) #[true, true, true, true, true, true, true, true, true, true, false, true, false, false, false, false, true, false, false, false] rfl rfl (by kernel_rfl) (fun _ _ _ h => h) (Or.inl ⟨by rfl, ?_⟩) ?_ ?_
        rotate_left
        · intro w'
          go_simp
          with_reducible rfl
        rotate_left
        · simp only [Act.put, List.setIfInBounds_toArray, List.set_cons_zero, List.set_cons_succ, i64_w, i32_w]
          rfl
        refine pure_ (i := 18) (N := some 25) (v := ?_) (a' := ?_) #[true, true, true, true, true, true, true, true, true, true, false, true, false, false, false, false, true, false, true, false] rfl rfl (by kernel_rfl) (fun _ _ _ h => h) (Or.inl ⟨by rfl, ?_⟩) ?_ ?_
        rotate_left
        · intro w'
          go_simp
          with_reducible rfl
        rotate_left
        · simp only [Act.put, List.setIfInBounds_toArray, List.set_cons_zero, List.set_cons_succ, i64_w, i32_w]
          rfl
        refine take_ (i := 10) (N := some 286) (v := ?_) (a' := ?_) #[true, true, true, true, true, true, true, true, true, true, true, true, false, false, false, false, true, false, true, false] rfl rfl (by kernel_rfl) (fun _ _ _ h => h) (Or.inl ⟨by rfl, ?_⟩) hHeld ?_ ?_
        rotate_left
        · rintro w' ⟨s0, s1, s2⟩
          go_simp
          with_reducible rfl
        rotate_left
        · simp only [Act.put, List.setIfInBounds_toArray, List.set_cons_zero, List.set_cons_succ, i64_w, i32_w]
          rfl
        refine pure_ (i := 12) (N := some 288) (v := ?_) (a' := ?_) #[true, true, true, true, true, true, true, true, true, true, true, true, true, false, false, false, true, false, true, false] rfl rfl (by kernel_rfl) (fun _ _ _ h => h) (Or.inl ⟨by rfl, ?_⟩) ?_ ?_
        rotate_left
        · intro w'
          go_simp
          with_reducible rfl
        rotate_left
        · simp only [Act.put, List.setIfInBounds_toArray, List.set_cons_zero, List.set_cons_succ, i64_w, i32_w]
          rfl
        refine pure_ (i := 13) (N := some 289) (v := ?_) (a' := ?_) #[true, true, true, true, true, true, true, true, true, true, true, true, true, true, false, false, true, false, true, false] rfl rfl (by kernel_rfl) (fun _ _ _ h => h) (Or.inl ⟨by rfl, ?_⟩) ?_ ?_
        rotate_left
        · intro w'
          go_simp
          with_reducible rfl
        rotate_left
        · simp only [Act.put, List.setIfInBounds_toArray, List.set_cons_zero, List.set_cons_succ, i64_w, i32_w]
          rfl
        refine take_ (i := 14) (N := some 290) (v := ?_) (a' := ?_) #[true, true, true, true, true, true, true, true, true, true, true, true, true, true, true, false, true, false, true, false] rfl rfl (by kernel_rfl) (fun _ _ _ h => h) (Or.inl ⟨by rfl, ?_⟩) hHeld ?_ ?_
        rotate_left
        · rintro w' ⟨s0, s1, s2⟩
          go_simp
          with_reducible rfl
        rotate_left
        · simp only [Act.put, List.setIfInBounds_toArray, List.set_cons_zero, List.set_cons_succ, i64_w, i32_w]
          rfl
        refine pure_ (i := 15) (N := some 291) (v := ?_) (a' := ?_) #[true, true, true, true, true, true, true, true, true, true, true, true, true, true, true, true, true, false, true, false] rfl rfl (by kernel_rfl) (fun _ _ _ h => h) (Or.inl ⟨by rfl, ?_⟩) ?_ ?_
        rotate_left
        · intro w'
          go_simp
          with_reducible rfl
        rotate_left
        · simp only [Act.put, List.setIfInBounds_toArray, List.set_cons_zero, List.set_cons_succ, i64_w, i32_w]
          rfl
        refine pure_ (i := 17) (N := some 293) (v := ?_) (a' := ?_) #[true, true, true, true, true, true, true, true, true, true, true, true, true, true, true, true, true, true, true, false] rfl rfl (by kernel_rfl) (fun _ _ _ h => h) (Or.inl ⟨by rfl, ?_⟩) ?_ ?_
        rotate_left
        · intro w'
          go_simp
          with_reducible rfl
        rotate_left
        · simp only [Act.put, List.setIfInBounds_toArray, List.set_cons_zero, List.set_cons_succ, i64_w, i32_w]
          rfl
        refine pure_ (i := 19) (N := some 26) (v := ?_) (a' := ?_) #[true, true, true, true, true, true, true, true, true, true, true, true, true, true, true, true, true, true, true, true] rfl rfl (by kernel_rfl) (fun _ _ _ h => h) (Or.inl ⟨by rfl, ?_⟩) ?_ ?_
        rotate_left
        · intro w'
          go_simp
          with_reducible rfl
        rotate_left
        · simp only [Act.put, List.setIfInBounds_toArray, List.set_cons_zero, List.set_cons_succ, i64_w, i32_w]
          rfl
        refine done_ (by kernel_rfl) ?_
        clear hHeld hu1 hu2 hcW he0 he1
        have HQd := Lib.hid (HQ.out.later (Below.refl _ _).drew)
        clear hmod hqmod HAr HQ
        generalize wr.drew = wd at HQd ⊢
        by_cases hmq : m = q
        · have hmq2 : ((m : Int) == (q : Int)) = true := by simp; omega
          have hmq3 : ((m : Int) != (q : Int)) = false := by simp; omega
          go_wp2_with fail
          go_roundw
          case rel => exact ⟨k + 1, ua, ub, us, by omega, by go_num, HQd.out, by omega, HTK⟩
          case measure => simp [intOf]; omega
        · have hmq2 : ((m : Int) == (q : Int)) = false := by simp; omega
          have hmq3 : ((m : Int) != (q : Int)) = true := by simp; omega
          have hc4 := HQd.out.t1.c4
          obtain ⟨ua0, uac, hua, -⟩ := HQd.out.pa.slice
          subst hua
          have HNS := Lib.hid (show us.length < 1000000000 by omega)
          have HWS := Lib.hid HQd.out.below.size
          go_wp2_with (at_builtin; go_must (refine wpList_two rfl _ _ rfl W0.heap.size (.slice ua0 us.length uac) us rfl HQd.out.pa 1 ⟨m, q⟩ _ rfl rfl HNS.out HWS.out rfl ?_); intro v6 w6 hown6 hg6 hv6 hat6; obtain ⟨g6, c6, rfl⟩ := hown6.some_ hv6; have hT6 := HQd.out.appP hown6 hg6 hat6; rw [List.length_append, List.length_singleton] at hT6; have HT6 := Lib.hid hT6; have hT6c : w6.cell? ⟨T1, 4, none⟩ = some (.slice ua0 us.length uac) := hT6.t1.c4; have hT6f := frozen_of_row w6 T1 4 _ _ hT6.t1.row; have HT7 := Lib.hid (hT6.setP (.slice (some ⟨g6, 0, none⟩) (us.length + 1) c6)); rw [List.length_append, List.length_singleton] at hv6; clear hown6 hg6 hat6 hT6)
          clear hT6f hT6c hc4 HT6 hv6
          generalize w6.setCell ⟨T1, 4, none⟩ (.slice (some ⟨g6, 0, none⟩) (us.length + 1) c6) = w7 at HT7 ⊢
          have hA7 := HA.out.later HT7.out.below
          obtain ⟨t, ht⟩ : ∃ t : Nat, t = tM m := ⟨_, rfl⟩
          obtain ⟨t2, ht2⟩ : ∃ t : Nat, t = tM q := ⟨_, rfl⟩
          have hcR7 : w7.cell? ⟨R, m, none⟩ = some (.int .i64 (t : Int)) := by rw [cell_of_row _ _ m _ _ _ hA7.r, rowN_get _ _ _ hm, ht]
          have hcQ7 : w7.cell? ⟨R, q, none⟩ = some (.int .i64 (t2 : Int)) := by rw [cell_of_row _ _ q _ _ _ hA7.r, rowN_get _ _ _ hqm, ht2]
          have HT := Lib.hid ht
          have HT2 := Lib.hid ht2
          have hT2c := HT7.out.t2.c4
          obtain ⟨vb0, vbc, hvb, -⟩ := HT7.out.pb.slice
          rw [List.length_map] at hvb
          subst hvb
          have hRlt7 : R < w7.heap.size := (Array.getElem?_eq_some_iff.1 hA7.r).1
          have hT77 := Lib.hid (HT7.out.later (Below.refl _ _).drew)
          have hm3 : ((m : Int) < (cs1.length : Int)) = True := by simp; omega
          have hq3 : ((q : Int) < (cs1.length : Int)) = True := by simp; omega
          have hm0 : (0 : Int) ≤ (m : Int) := by omega
          have hq0 : (0 : Int) ≤ (q : Int) := by omega
          have hxw := (World.cell?_alloc_lt w7.drew (.cells #[.int .i64 (t : Int), .int .i64 (t2 : Int)] 54) ⟨R, m, none⟩ hRlt7).trans hcR7
          have hxw1 := (World.cell?_alloc_lt w7.drew (.cells #[.int .i64 (t : Int), .int .i64 (t2 : Int)] 54) ⟨R, q, none⟩ hRlt7).trans hcQ7
          have hTw := (World.cell?_alloc_lt w7.drew (.cells #[.int .i64 (t : Int), .int .i64 (t2 : Int)] 54) ⟨T2, 4, none⟩ hT77.out.t2.lt).trans hT2c
          clear ht ht2 hA7
          refine start_ (n := 15) (S := fun w' => w'.cell? ⟨T2, 4, none⟩ = some (.slice vb0 us.length vbc) ∧ w'.cell? ⟨R, m, none⟩ = some (.int .i64 (t : Int)) ∧ w'.cell? ⟨R, q, none⟩ = some (.int .i64 (t2 : Int))) (ds := [14]) #[false, false, false, false, false, false, false, false, false, false, false, false, false, false, false] (by kernel_rfl) rfl rfl ⟨hT2c, hcR7, hcQ7⟩ (fun hHeld => ?_)
          refine pure_ (i := 0) (N := some 305) (v := ?_) (a' := ?_) #[true, false, false, false, false, false, false, false, false, false, false, false, false, false, false] rfl rfl (by kernel_rfl) (fun _ _ _ h => h) (Or.inl ⟨by rfl, ?_⟩) ?_ ?_
          rotate_left
          · intro w'
            go_simp
            with_reducible rfl
          rotate_left
          · simp only [Act.put, List.setIfInBounds_toArray, List.set_cons_zero, List.set_cons_succ, i64_w, i32_w]
            rfl
          refine pure_ (i := 2) (N := some 307) (v := ?_) (a' := ?_) #[true, false, true, false, false, false, false, false, false, false, false, false, false, false, false] rfl rfl (by kernel_rfl) (fun _ _ _ h => h) (Or.inl ⟨by rfl, ?_⟩) ?_ ?_
          rotate_left
          · intro w'
            go_simp
            with_reducible rfl
          rotate_left
          · simp only [Act.put, List.setIfInBounds_toArray, List.set_cons_zero, List.set_cons_succ, i64_w, i32_w]
            rfl
          refine pure_ (i := 3) (N := some 308) (v := ?_) (a' := ?_) #[true, false, true, true, false, false, false, false, false, false, false, false, false, false, false] rfl rfl (by kernel_rfl) (fun _ _ _ h => h) (Or.inl ⟨by rfl, ?_⟩) ?_ ?_
          rotate_left
          · intro w'
            go_simp
            with_reducible rfl
          rotate_left
          · simp only [Act.put, List.setIfInBounds_toArray, List.set_cons_zero, List.set_cons_succ, i64_w, i32_w]
            rfl
          refine pure_ (i := 4) (N := some 309) (v := ?_) (a' := ?_) #[true, false, true, true, true, false, false, false, false, false, false, false, false, false, false] rfl rfl (by kernel_rfl) (fun _ _ _ h => h) (Or.inl ⟨by rfl, ?_⟩) ?_ ?_
          rotate_left
          · intro w'
            go_simp
            with_reducible rfl
          rotate_left
          · simp only [Act.put, List.setIfInBounds_toArray, List.set_cons_zero, List.set_cons_succ, i64_w, i32_w]
            rfl
          refine pure_ (i := 6) (N := some 311) (v := ?_) (a' := ?_) #[true, false, true, true, true, false, true, false, false, false, false, false, false, false, false] rfl rfl (by kernel_rfl) (fun _ _ _ h => h) (Or.inl ⟨by rfl, ?_⟩) ?_ ?_
          rotate_left
          · intro w'
            go_simp
            with_reducible rfl
          rotate_left
          · simp only [Act.put, List.setIfInBounds_toArray, List.set_cons_zero, List.set_cons_succ, i64_w, i32_w]
            rfl
          refine pure_ (i := 7) (N := some 312) (v := ?_) (a' := ?_) #[true, false, true, true, true, false, true, true, false, false, false, false, false, false, false] rfl rfl (by kernel_rfl) (fun _ _ _ h => h) (Or.inl ⟨by rfl, ?_⟩) ?_ ?_
          rotate_left
          · intro w'
            go_simp
            with_reducible rfl
          rotate_left
          · simp only [Act.put, List.setIfInBounds_toArray, List.set_cons_zero, List.set_cons_succ, i64_w, i32_w]
            rfl
          refine pure_ (i := 8) (N := some 313) (v := ?_) (a' := ?_) #[true, false, true, true, true, false, true, true, true, false, false, false, false, false, false] rfl rfl (by kernel_rfl) (fun _ _ _ h => h) (Or.inl ⟨by rfl, ?_⟩) ?_ ?_
          rotate_left
          · intro w'
            go_simp
            with_reducible rfl
          rotate_left
          · simp only [Act.put, List.setIfInBounds_toArray, List.set_cons_zero, List.set_cons_succ, i64_w, i32_w]
            rfl
          refine take_ (i := 1) (N := some 306) (v := ?_) (a' := ?_) #[true, true, true, true, true, false, true, true, true, false, false, false, false, false, false] rfl rfl (by kernel_rfl) (fun _ _ _ h => h) (Or.inl ⟨by rfl, ?_⟩) hHeld ?_ ?_
          rotate_left
          · rintro w' ⟨s0, s1, s2⟩
            go_simp
            with_reducible rfl
          rotate_left
          · simp only [Act.put, List.setIfInBounds_toArray, List.set_cons_zero, List.set_cons_succ, i64_w, i32_w]
            rfl
          refine take_ (i := 5) (N := some 310) (v := ?_) (a' := ?_) #[true, true, true, true, true, true, true, true, true, false, false, false, false, false, false] rfl rfl (by kernel_rfl) (fun _ _ _ h => h) (Or.inl ⟨by rfl, ?_⟩) hHeld ?_ ?_
          rotate_left
          · rintro w' ⟨s0, s1, s2⟩
            go_simp
            with_reducible rfl
          rotate_left
          · simp only [Act.put, List.setIfInBounds_toArray, List.set_cons_zero, List.set_cons_succ, i64_w, i32_w]
            rfl
          refine take_ (i := 9) (N := some 314) (v := ?_) (a' := ?_) #[true, true, true, true, true, true, true, true, true, true, false, false, false, false, false] rfl rfl (by kernel_rfl) (fun _ _ _ h => h) (Or.inl ⟨by rfl, ?_⟩) hHeld ?_ ?_
          rotate_left
          · rintro w' ⟨s0, s1, s2⟩
            go_simp
            with_reducible rfl
          rotate_left
          · simp only [Act.put, List.setIfInBounds_toArray, List.set_cons_zero, List.set_cons_succ, i64_w, i32_w]
            rfl
          refine pure_ (i := 10) (N := some 315) (v := ?_) (a' := ?_) #[true, true, true, true, true, true, true, true, true, true, true, false, false, false, false] rfl rfl (by kernel_rfl) (fun _ _ _ h => h) (Or.inl ⟨by rfl, ?_⟩) ?_ ?_
          rotate_left
          · intro w'
            go_simp
            with_reducible rfl
          rotate_left
          · simp only [Act.put, List.setIfInBounds_toArray, List.set_cons_zero, List.set_cons_succ, i64_w, i32_w]
            rfl
          refine one_ (i := 11) (N := some 316) #[true, true, true, true, true, true, true, true, true, true, true, true, false, false, false] rfl rfl (by kernel_rfl) (by decide) (fun K hK => ?_)
          refine value_ (w1 := ?_) (v := ?_) (by rfl) rfl ?_ ?_
          rotate_left 2
          · go_simp
            constructor
            · rfl
            · rfl
          refine hK.out _ _ ⟨hTw, hxw, hxw1⟩ (fun hHeld => ?_)
          clear hK K
          refine norm_ (a' := ?_) ?_ ?_
          rotate_left
          · show Act.put _ (some 316) _ = _
            simp only [Act.put, List.setIfInBounds_toArray, List.set_cons_zero, List.set_cons_succ, i64_w, i32_w]
            rfl
          refine one_ (i := 12) (N := some 317) #[true, true, true, true, true, true, true, true, true, true, true, true, true, false, false] rfl rfl (by kernel_rfl) (by decide) (fun K hK => ?_)
          refine step_two rfl _ _ rfl W0.heap.size (.slice vb0 us.length vbc) (us.map (mapU tM)) rfl hT77.out.pb 1 ⟨t, t2⟩ _ (by rfl) rfl (by rw [List.length_map]; exact HNS.out) hT77.out.below.size rfl ?_
          intro v8 w8 hown8 hg8 hv8 hat8
          obtain ⟨g8, c8, rfl⟩ := hown8.some_ hv8
          have HT8 := Lib.hid (hT77.out.appR hown8 hg8 hat8)
          have hT8c := HT8.out.t2.c4
          have hT8f := frozen_of_row w8 T2 4 _ _ HT8.out.t2.row
          have hR8 : w8.cell? ⟨R, m, none⟩ = some (.int .i64 (t : Int)) := by rw [cell_of_row _ _ m _ _ _ (HA.out.later HT8.out.below).r, rowN_get _ _ _ hm, HT.out]
          have hQ8 : w8.cell? ⟨R, q, none⟩ = some (.int .i64 (t2 : Int)) := by rw [cell_of_row _ _ q _ _ _ (HA.out.later HT8.out.below).r, rowN_get _ _ _ hqm, HT2.out]
          refine hK.out _ _ ⟨hT8c, hR8, hQ8⟩ (fun hHeld => ?_)
          clear hK K
          refine norm_ (a' := ?_) ?_ ?_
          rotate_left
          · show Act.put _ (some 317) _ = _
            simp only [Act.put, List.setIfInBounds_toArray, List.set_cons_zero, List.set_cons_succ, i64_w, i32_w]
            rfl
          refine pure_ (i := 13) (N := some 318) (v := ?_) (a' := ?_) #[true, true, true, true, true, true, true, true, true, true, true, true, true, true, false] rfl rfl (by kernel_rfl) (fun _ _ _ h => h) (Or.inl ⟨by rfl, ?_⟩) ?_ ?_
          rotate_left
          · intro w'
            go_simp
            with_reducible rfl
          rotate_left
          · simp only [Act.put, List.setIfInBounds_toArray, List.set_cons_zero, List.set_cons_succ, i64_w, i32_w]
            rfl
          refine last_ (i := 14) (N := none) #[true, true, true, true, true, true, true, true, true, true, true, true, true, true, true] rfl rfl (by kernel_rfl) (by decide) (fun K hK => ?_)
          refine skip_ (w1 := ?_) (by rfl) rfl ?_ ?_
          rotate_left
          · go_simp
            rfl
          refine hK.out _ _ ?_
          clear hK K
          refine done_ (by kernel_rfl) ?_
          clear hT8f hT8c hR8 hQ8 hxw hxw1 hTw hcR7 hcQ7 hT2c
          have hT8o := HT8.out
          rw [List.length_append, List.length_map, List.length_singleton] at hT8o
          have HT9 := Lib.hid (hT8o.setR (.slice (some ⟨g8, 0, none⟩) (us.length + 1) c8))
          clear hHeld HT8 hT8o hown8 hg8 hat8 hv8 HT7 hT77
          generalize w8.setCell ⟨T2, 4, none⟩ (.slice (some ⟨g8, 0, none⟩) (us.length + 1) c8) = w9 at HT9 ⊢
          go_wp2_with fail
          go_roundw
          case rel =>
            have hT9 := HT9.out
            have hmp : (us ++ [(⟨m, q⟩ : Uk)]).map (mapU tM) = us.map (mapU tM) ++ [⟨(t : Int), (t2 : Int)⟩] := by rw [List.map_append, HT.out, HT2.out]; rfl
            refine ⟨k + 1, .slice (some ⟨g6, 0, none⟩) (us.length + 1) c6, .slice (some ⟨g8, 0, none⟩) (us.length + 1) c8, us ++ [⟨m, q⟩], by omega, by go_num, ?_, by rw [List.length_append, List.length_singleton]; omega, task_snocU HTK.out (by omega) ?_⟩
            · rw [hmp]; exact hT9
            · exact ⟨by show (0 : Int) ≤ (m : Int); omega, by show (m : Int) < _; omega, by show (0 : Int) ≤ (q : Int); omega, by show (q : Int) < _; omega, by show (m : Int) ≠ (q : Int); omega⟩
          case measure => simp [intOf]; omega
      · have hn2 : decide ((1 : Int) < (cs1.length : Int)) = false := by rw [decide_eq_false_iff_not]; omega
        go_wp2_with fail
        exact HE.out HTK.out HQ.out
    · have hl2 : decide ((k : Int) < (ys.length : Int)) = false := by simp; omega
      go_wp2_with fail
      exact HE.out HTK.out HQ.out
end Go.Proofs.YtepofpnbgbmihaaDoor

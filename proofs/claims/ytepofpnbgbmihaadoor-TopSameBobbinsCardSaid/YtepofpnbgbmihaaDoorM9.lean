/-
  TopSameBobbins returns true for every input, and its arguments read afterwards as they did: the row's statement, and the card over it (math/bits' two tables tied to the program's text).
-/
import Derived.Test.YtepofpnbgbmihaaDoorM8
import Derived.Test.YtepofpnbgbmihaaDoorM1
import Derived.Test.YtepofpnbgbmihaaDoorM6
import Derived.Test.YtepofpnbgbmihaaDoorM3
import Derived.Laws.MakeOwn
import Derived.Test.YtepofpnbgbmihaaDoorRows
import Derived.Test.YtepofpnbgbmihaaDoorCards
import Derived.Test.YtepofpnbgbmihaaDoorTie
import Derived.WalkKit
import Derived.ProofKit
import Derived.OpenShut
import Derived.OpenVars
import Derived.Deep.DeepHandedRow
import Derived.Lib.LaidTab

/-
  The law's loop that finds for each crossing the one in the other cloth.
-/
namespace Go.Proofs.YtepofpnbgbmihaaDoor
open Go.RowKit Go.Shelf Go.Proofs.YtepofpnbgbmihaaDoorW.PrintLast
set_option linter.unusedSimpArgs false
set_option linter.unusedVariables false

/-- The crossings of the first i works, and k of the next one's, are told. -/
structure Done (cs1 : List Crs) (out : List Nat) (tM : Nat → Nat) (f : Nat → Int) (i k : Nat) : Prop where
  old : ∀ j, j < i → ∀ m : Nat, (m : Int) ∈ crossTo cs1 cs1.length (out.getD j 0) → f m = ((tM m : Nat) : Int)
  now : ∀ kk, kk < k → ∀ m : Nat, (crossTo cs1 cs1.length (out.getD i 0))[kk]? = some (m : Int) → f m = ((tM m : Nat) : Int)
theorem Done.zero {cs1 : List Crs} {out : List Nat} {tM : Nat → Nat} (f : Nat → Int) : Done cs1 out tM f 0 0 := ⟨fun j h => absurd h (Nat.not_lt_zero _), fun j h => absurd h (Nat.not_lt_zero _)⟩
theorem Done.step {cs1 : List Crs} {out : List Nat} {tM : Nat → Nat} {f : Nat → Int} {i k m : Nat} {t : Int} (h : Done cs1 out tM f i k) (hm : (crossTo cs1 cs1.length (out.getD i 0))[k]? = some (m : Int)) (ht : t = ((tM m : Nat) : Int)) : Done cs1 out tM (fun q => if q = m then t else f q) i (k + 1) := by
  subst ht
  refine ⟨fun j hj m' hm' => ?_, fun kk hkk m' hm' => ?_⟩
  · by_cases e : m' = m
    · simp [e]
    · simp only [if_neg e]; exact h.old j hj m' hm'
  · by_cases e : m' = m
    · simp [e]
    · simp only [if_neg e]
      by_cases e2 : kk = k
      · subst e2
        rw [hm] at hm'
        injection hm' with hm'
        omega
      · exact h.now kk (by omega) m' hm'
theorem Done.next {cs1 : List Crs} {out : List Nat} {tM : Nat → Nat} {f : Nat → Int} {i k : Nat} (h : Done cs1 out tM f i k) (hk : (crossTo cs1 cs1.length (out.getD i 0)).length ≤ k) : Done cs1 out tM f (i + 1) 0 := by
  refine ⟨fun j hj m hm => ?_, fun j h => absurd h (Nat.not_lt_zero _)⟩
  by_cases e : j = i
  · subst e
    obtain ⟨kk, hkk⟩ := List.mem_iff_getElem?.1 hm
    exact h.now kk (by have := (List.getElem?_eq_some_iff.1 hkk).1; omega) m hkk
  · exact h.old j (by omega) m hm
theorem Done.all {cs1 cs2 : List Crs} {out : List Nat} {tM : Nat → Nat} {f : Nat → Int} {n k : Nat} (h : Done cs1 out tM f n k) (hS : Same cs1 cs2 n out tM) (m : Nat) (hm : m < cs1.length) : f m = ((tM m : Nat) : Int) := by
  obtain ⟨j, hj, hmem⟩ := hS.mem m hm
  exact h.old j hj m hmem
theorem crossTo_at (cs : List Crs) (hw : ∀ x ∈ cs, 0 ≤ x.work) (i k : Nat) (x : Int) (h : (crossTo cs cs.length i)[k]? = some x) : ∃ m : Nat, x = (m : Int) ∧ m < cs.length := by
  rw [crossTo_pos cs hw cs.length (Nat.le_refl _) i, List.getElem?_map] at h
  obtain ⟨m, hm, rfl⟩ := Option.map_eq_some_iff.1 h
  exact ⟨m, rfl, ((posTo_mem _ _ _ _).1 (List.mem_of_getElem? hm)).1⟩
/-- What is read while the crossings are told. -/
structure LA (W0 : World) (n R1 R2 base : Nat) (ov : Value) (cs1 cs2 : List Crs) (out : List Nat) (f1 f2 : Nat → Value) : Prop where
  o : RdL 1 encI W0 ov (toI out)
  r1 : RowsN W0 R1 n base (crossTo cs1 cs1.length) f1
  r2 : RowsN W0 R2 n base (crossTo cs2 cs2.length) f2
theorem LA.later {W0 W : World} {n R1 R2 base : Nat} {ov : Value} {cs1 cs2 : List Crs} {out : List Nat} {f1 f2 : Nat → Value} (h : LA W0 n R1 R2 base ov cs1 cs2 out f1 f2) (hb : Below W0.heap.size W0 W) : LA W n R1 R2 base ov cs1 cs2 out f1 f2 :=
  ⟨h.o.later hb, h.r1.later hb, h.r2.later hb⟩
theorem cell_later {W0 w : World} {p : Addr} {v : Value} (hb : Below W0.heap.size W0 w) (h : W0.cell? p = some v) : w.cell? p = some v := (hb.cell (World.block_lt_of_cell? _ _ h)).trans h
/-- One work of the order. -/
theorem LA.row {W : World} {n R1 R2 base : Nat} {oa : Option Addr} {oc : Nat} {cs1 cs2 : List Crs} {out : List Nat} {tM : Nat → Nat} {f1 f2 : Nat → Value} (h : LA W n R1 R2 base (.slice oa n oc) cs1 cs2 out f1 f2) (hS : Same cs1 cs2 n out tM) (i : Nat) (hi : i < n) :
    ∃ (ob oo a1c a2c ll o : Nat) (a1 a2 : Option Addr), oa = some ⟨ob, oo, none⟩ ∧ W.cell? ⟨ob, oo + i, none⟩ = some (.int .i64 (o : Int)) ∧ o < n ∧ out.getD i 0 = o ∧ ll = (crossTo cs1 cs1.length o).length ∧
      W.cell? ⟨R1, o, none⟩ = some (.slice a1 ll a1c) ∧ W.cell? ⟨R2, i, none⟩ = some (.slice a2 ll a2c) ∧ RdA 1 encI W a1 (crossTo cs1 cs1.length o) ∧ RdA 1 encI W a2 ((crossTo cs1 cs1.length o).map fun m => ((tM m.toNat : Nat) : Int)) := by
  have hol : (toI out).length = n := by unfold toI; rw [List.length_map, hS.outl]
  obtain ⟨a, c, he, _, hA⟩ := h.o.slice
  injection he with he _ _
  subst he
  obtain ⟨ob, oo, rfl, _, hc⟩ := rdI_open hA (by omega)
  have hlt := hS.outs i hi
  have ho : (toI out)[i]? = some ((out.getD i 0 : Nat) : Int) := by
    unfold toI
    rw [List.getElem?_map, List.getElem?_eq_getElem (by rw [hS.outl]; exact hi), getD_get _ _ _ (by rw [hS.outl]; exact hi)]
    rfl
  obtain ⟨a1, c1, e1, -⟩ := (h.r1.own _ hlt).slice
  obtain ⟨a2, c2, e2, -⟩ := (h.r2.own i hi).slice
  have hrw := hS.rows i hi
  have k1 := h.r1.cell _ hlt
  have k2 := h.r2.cell _ hi
  have r1 := (h.r1.own _ hlt).rd encI_len
  have r2 := (h.r2.own i hi).rd encI_len
  rw [e1] at k1 r1
  rw [e2] at k2 r2
  obtain ⟨b1, d1, he1, _, s1⟩ := r1.slice
  obtain ⟨b2, d2, he2, _, s2⟩ := r2.slice
  injection he1 with he1 _ _
  injection he2 with he2 _ _
  subst he1 he2
  rw [hrw] at k2 s2
  rw [List.length_map] at k2
  exact ⟨ob, oo, c1, c2, _, _, a1, a2, rfl, hc i _ ho, hlt, rfl, rfl, k1, k2, s1, s2⟩

set_option maxRecDepth 100000 in
set_option maxHeartbeats 4000000 in
theorem law_loopA {w W0 W : World} {D0 A B R R1 R2 base n oc : Nat} {oa : Option Addr} {cs1 cs2 : List Crs} {out : List Nat} {tM : Nat → Nat} {f1 f2 : Nat → Value} {u0 u1 u3 u4 u5 u7 u9 u11 u13 u15 u18 u19 u20 u21 u22 u23 u24 u25 u26 u27 u28 u29 u30 u31 u32 u33 u34 u35 u36 u37 u38 u39 u40 u41 u42 u43 u44 u45 u46 u47 u48 u49 u50 u51 u52 u53 u54 u55 u56 u57 u58 u59 u60 u61 u62 u63 u64 u65 u66 u67 u68 u69 u70 u71 u72 u73 u74 u75 u76 u77 u78 u79 u80 u81 u82 u83 u84 u85 u86 u87 u88 u89 u90 u91 u92 u93 u94 u95 u96 u97 u98 u99 u100 u101 u102 u103 u104 u105 u106 u107 u108 u109 u110 u111 u112 u113 u114 u115 u116 u117 u118 u119 u120 u121 u122 u123 u124 u125 u126 u127 u128 u129 u130 u131 u132 u133 u134 u135 u136 u137 u138 u139 u140 u141 u142 u143 u144 u145 u146 u147 u148 u149 u150 u151 u152 u153 u154 u155 u156 u157 u158 u159 u160 u161 u162 u163 u164 u165 u166 u167 u168 u169 u170 u171 u172 u173 u174 u175 u176 u177 u178 u179 u180 u181 u182 u183 u184 u185 u186 u187 u188 u189 u190 u191 u192 u193 u194 u195 u196 u197 u198 u199 u200 u201 u202 u203 u204 u205 u206 u207 u208 u209 u210 u211 u212 u213 u214 u215 u216 u217 u218 u219 u220 u221 u222 u223 u224 u225 u226 u227 u228 u229 u230 u231 u232 u233 u234 u235 u236 u237 u238 u239 u240 u241 u242 u243 u244 u245 u246 u247 u248 u249 u250 u251 u252 u253 u254 u255 u256 u257 u258 u259 u260 u261 u262 u263 u264 u265 u266 u267 u268 u269 u270 u271 u272 u273 u274 u275 u276 u277 u278 u279 u280 u281 u282 u283 u284 u285 u286 u287 u288 u289 u290 u291 u292 u293 u294 u295 u296 u297 u298 u299 u300 u301 u302 u303 u304 u305 u306 u307 u308 u309 u310 u311 u312 u313 u314 u315 u316 u317 u318 u319 u320 u321 u322 u323 u324 u325 u326 u327 u328 u329 u330 u331 u332 u333 u334 u335 u336 u337 u338 u339 u340 u341 u342 u343 u344 u345 u346 u347 u348 u349 u350 u351 u352 u353 u354 u355 u356 u357 u358 u359 u360 u361 u362 u363 u364 u365 u366 u367 u368 u369 u370 u371 u372 u373 u374 u375 u376 u377 u378 u379 u380 u381 u382 u383 u384 u385 u386 u387 u388 u389 u390 u391 u392 u393 u394 u395 u396 u397 u398 u399 u400 u401 u402 u403 u404 u405 u406 u407 u408 u409 u410 u411 u412 u413 u414 u415 u416 u417 u418 u419 u420 u421 u422 u423 u424 u425 u426 u427 u428 u429 u430 u431 u432 u433 u434 : Value} {K : Act → World → Prop}
    (hS : Same cs1 cs2 n out tM) (hn : cs1.length ≤ 20000) (hn4 : n ≤ 400) (hw : ∀ x ∈ cs1, 0 ≤ x.work)
    (hA : LA W0 n R1 R2 base (.slice oa n oc) cs1 cs2 out f1 f2) (hb : Below W0.heap.size W0 W) (hR0 : W0.heap.size ≤ R) (hR : W.heap[R]? = some (.cells (rowN cs1.length fun _ => 0) 3 (0, 0)))
    (HE : Hid (∀ {W' : World} {u0 u1 u3 u4 u5 u6 u7 u9 u11 u12 u13 u14 u15 u18 u19 u20 u21 u22 u23 u24 u25 u26 u27 u28 u29 u30 u31 u32 u33 u34 u35 u36 u37 u38 u39 u40 u41 u42 u43 u44 u45 u46 u47 u48 u49 u50 u51 u52 u53 u54 u55 u56 u57 u58 u59 u60 u61 u62 u63 u64 u65 u66 u67 u68 u69 u70 u71 u72 u73 u74 u75 u76 u77 u78 u79 u80 u81 u82 u83 u84 u85 u86 u87 u88 u89 u90 u91 u92 u93 u94 u95 u96 u97 u98 u99 u100 u101 u102 u103 u104 u105 u106 u107 u108 u109 u110 u111 u112 u113 u114 u115 u116 u117 u118 u119 u120 u121 u122 u123 u124 u125 u126 u127 u128 u129 u130 u131 u132 u133 u134 u135 u136 u137 u138 u139 u140 u141 u142 u143 u144 u145 u146 u147 u148 u149 u150 u151 u152 u153 u154 u155 u156 u157 u158 u159 u160 u161 u162 u163 u164 u165 u166 u167 u168 u169 u170 u171 u172 u173 u174 u175 u176 u177 u178 u179 u180 u181 u182 u183 u184 u185 u186 u187 u188 u189 u190 u191 u192 u193 u194 u195 u196 u197 u198 u199 u200 u201 u202 u203 u204 u205 u206 u207 u208 u209 u210 u211 u212 u213 u214 u215 u216 u217 u218 u219 u220 u221 u222 u223 u224 u225 u226 u227 u228 u229 u230 u231 u232 u233 u234 u235 u236 u237 u238 u239 u240 u241 u242 u243 u244 u245 u246 u247 u248 u249 u250 u251 u252 u253 u254 u255 u256 u257 u258 u259 u260 u261 u262 u263 u264 u265 u266 u267 u268 u269 u270 u271 u272 u273 u274 u275 u276 u277 u278 u279 u280 u281 u282 u283 u284 u285 u286 u287 u288 u289 u290 u291 u292 u293 u294 u295 u296 u297 u298 u299 u300 u301 u302 u303 u304 u305 u306 u307 u308 u309 u310 u311 u312 u313 u314 u315 u316 u317 u318 u319 u320 u321 u322 u323 u324 u325 u326 u327 u328 u329 u330 u331 u332 u333 u334 u335 u336 u337 u338 u339 u340 u341 u342 u343 u344 u345 u346 u347 u348 u349 u350 u351 u352 u353 u354 u355 u356 u357 u358 u359 u360 u361 u362 u363 u364 u365 u366 u367 u368 u369 u370 u371 u372 u373 u374 u375 u376 u377 u378 u379 u380 u381 u382 u383 u384 u385 u386 u387 u388 u389 u390 u391 u392 u393 u394 u395 u396 u397 u398 u399 u400 u401 u402 u403 u404 u405 u406 u407 u408 u409 u410 u411 u412 u413 u414 u415 u416 u417 u418 u419 u420 u421 u422 u423 u424 u425 u426 u427 u428 u429 u430 u431 u432 u433 u434 : Value}, Below W0.heap.size W0 W' → W'.heap[R]? = some (.cells (rowN cs1.length fun m => ((tM m : Nat) : Int)) 3 (0, 0)) → K ⟨#[u0, u1, .pointer (some ⟨D0, 0, none⟩), u3, u4, u5, u6, u7, .pointer (some ⟨A, 0, none⟩), u9, .pointer (some ⟨B, 0, none⟩), u11, u12, u13, u14, u15, .int .i64 cs1.length, .slice (some ⟨R, 0, none⟩) cs1.length cs1.length, u18, u19, u20, u21, u22, u23, u24, u25, u26, u27, u28, u29, u30, u31, u32, u33, u34, u35, u36, u37, u38, u39, u40, u41, u42, u43, u44, u45, u46, u47, u48, u49, u50, u51, u52, u53, u54, u55, u56, u57, u58, u59, u60, u61, u62, u63, u64, u65, u66, u67, u68, u69, u70, u71, u72, u73, u74, u75, u76, u77, u78, u79, u80, u81, u82, u83, u84, u85, u86, u87, u88, u89, u90, u91, u92, u93, u94, u95, u96, u97, u98, u99, u100, u101, u102, u103, u104, u105, u106, u107, u108, u109, u110, u111, u112, u113, u114, u115, u116, u117, u118, u119, u120, u121, u122, u123, u124, u125, u126, u127, u128, u129, u130, u131, u132, u133, u134, u135, u136, u137, u138, u139, u140, u141, u142, u143, u144, u145, u146, u147, u148, u149, u150, u151, u152, u153, u154, u155, u156, u157, u158, u159, u160, u161, u162, u163, u164, u165, u166, u167, u168, u169, u170, u171, u172, u173, u174, u175, u176, u177, u178, u179, u180, u181, u182, u183, u184, u185, u186, u187, u188, u189, u190, u191, u192, u193, u194, u195, u196, u197, u198, u199, u200, u201, u202, u203, u204, u205, u206, u207, u208, u209, u210, u211, u212, u213, u214, u215, u216, u217, u218, u219, u220, u221, u222, u223, u224, u225, u226, u227, u228, u229, u230, u231, u232, u233, u234, u235, u236, u237, u238, u239, u240, u241, u242, u243, u244, u245, u246, u247, u248, u249, u250, u251, u252, u253, u254, u255, u256, u257, u258, u259, u260, u261, u262, u263, u264, u265, u266, u267, u268, u269, u270, u271, u272, u273, u274, u275, u276, u277, u278, u279, u280, u281, u282, u283, u284, u285, u286, u287, u288, u289, u290, u291, u292, u293, u294, u295, u296, u297, u298, u299, u300, u301, u302, u303, u304, u305, u306, u307, u308, u309, u310, u311, u312, u313, u314, u315, u316, u317, u318, u319, u320, u321, u322, u323, u324, u325, u326, u327, u328, u329, u330, u331, u332, u333, u334, u335, u336, u337, u338, u339, u340, u341, u342, u343, u344, u345, u346, u347, u348, u349, u350, u351, u352, u353, u354, u355, u356, u357, u358, u359, u360, u361, u362, u363, u364, u365, u366, u367, u368, u369, u370, u371, u372, u373, u374, u375, u376, u377, u378, u379, u380, u381, u382, u383, u384, u385, u386, u387, u388, u389, u390, u391, u392, u393, u394, u395, u396, u397, u398, u399, u400, u401, u402, u403, u404, u405, u406, u407, u408, u409, u410, u411, u412, u413, u414, u415, u416, u417, u418, u419, u420, u421, u422, u423, u424, u425, u426, u427, u428, u429, u430, u431, u432, u433, u434], []⟩ W')) :
    Code.wp Tryd.prog (fstK 13 lawBody) (Exit.then K (bodyPost Tryd.prog Tryd.f3 (LawPost w))) ⟨#[u0, u1, .pointer (some ⟨D0, 0, none⟩), u3, u4, u5, .slice oa n oc, u7, .pointer (some ⟨A, 0, none⟩), u9, .pointer (some ⟨B, 0, none⟩), u11, .slice (some ⟨R1, 0, none⟩) n n, u13, .slice (some ⟨R2, 0, none⟩) n n, u15, .int .i64 cs1.length, .slice (some ⟨R, 0, none⟩) cs1.length cs1.length, u18, u19, u20, u21, u22, u23, u24, u25, u26, u27, u28, u29, u30, u31, u32, u33, u34, u35, u36, u37, u38, u39, u40, u41, u42, u43, u44, u45, u46, u47, u48, u49, u50, u51, u52, u53, u54, u55, u56, u57, u58, u59, u60, u61, u62, u63, u64, u65, u66, u67, u68, u69, u70, u71, u72, u73, u74, u75, u76, u77, u78, u79, u80, u81, u82, u83, u84, u85, u86, u87, u88, u89, u90, u91, u92, u93, u94, u95, u96, u97, u98, u99, u100, u101, u102, u103, u104, u105, u106, u107, u108, u109, u110, u111, u112, u113, u114, u115, u116, u117, u118, u119, u120, u121, u122, u123, u124, u125, u126, u127, u128, u129, u130, u131, u132, u133, u134, u135, u136, u137, u138, u139, u140, u141, u142, u143, u144, u145, u146, u147, u148, u149, u150, u151, u152, u153, u154, u155, u156, u157, u158, u159, u160, u161, u162, u163, u164, u165, u166, u167, u168, u169, u170, u171, u172, u173, u174, u175, u176, u177, u178, u179, u180, u181, u182, u183, u184, u185, u186, u187, u188, u189, u190, u191, u192, u193, u194, u195, u196, u197, u198, u199, u200, u201, u202, u203, u204, u205, u206, u207, u208, u209, u210, u211, u212, u213, u214, u215, u216, u217, u218, u219, u220, u221, u222, u223, u224, u225, u226, u227, u228, u229, u230, u231, u232, u233, u234, u235, u236, u237, u238, u239, u240, u241, u242, u243, u244, u245, u246, u247, u248, u249, u250, u251, u252, u253, u254, u255, u256, u257, u258, u259, u260, u261, u262, u263, u264, u265, u266, u267, u268, u269, u270, u271, u272, u273, u274, u275, u276, u277, u278, u279, u280, u281, u282, u283, u284, u285, u286, u287, u288, u289, u290, u291, u292, u293, u294, u295, u296, u297, u298, u299, u300, u301, u302, u303, u304, u305, u306, u307, u308, u309, u310, u311, u312, u313, u314, u315, u316, u317, u318, u319, u320, u321, u322, u323, u324, u325, u326, u327, u328, u329, u330, u331, u332, u333, u334, u335, u336, u337, u338, u339, u340, u341, u342, u343, u344, u345, u346, u347, u348, u349, u350, u351, u352, u353, u354, u355, u356, u357, u358, u359, u360, u361, u362, u363, u364, u365, u366, u367, u368, u369, u370, u371, u372, u373, u374, u375, u376, u377, u378, u379, u380, u381, u382, u383, u384, u385, u386, u387, u388, u389, u390, u391, u392, u393, u394, u395, u396, u397, u398, u399, u400, u401, u402, u403, u404, u405, u406, u407, u408, u409, u410, u411, u412, u413, u414, u415, u416, u417, u418, u419, u420, u421, u422, u423, u424, u425, u426, u427, u428, u429, u430, u431, u432, u433, u434], []⟩ W := by
  have hol : out.length = n := hS.outl
  have HS := Lib.hid hS
  have HA := Lib.hid hA
  have HB0 := Lib.hid hb
  have HRR := Lib.hid hR
  have HW := Lib.hid hw
  clear hS hA hb hR hw hol
  conv => arg 2; whnf
  go_wp2_with fail
  go_loopw [18, 19] (fun i _ wo => ∃ (j : Nat) (f : Nat → Int), j ≤ n ∧ i = .int .i64 j ∧ Hid (Below W0.heap.size W0 wo) ∧ Hid (wo.heap[R]? = some (.cells (rowN cs1.length f) 3 (0, 0))) ∧ Hid (Done cs1 out tM f j 0)) (fun i _ _ => n - (intOf i).toNat)
  case atStart => exact ⟨0, _, Nat.zero_le _, rfl, HB0, HRR, Done.zero _⟩
  case round =>
    obtain ⟨j, f, hj, rfl, HB, HRf, HD⟩ := hrel
    have hw64 : wrap64 ((j : Int) + 1) = (j : Int) + 1 := w64_succ j (by omega)
    have hj0 : (0 : Int) ≤ (j : Int) := by omega
    clear HB0 HRR
    by_cases hlt : j < n
    · have hl2 : decide ((j : Int) < (n : Int)) = true := by simp; omega
      have hl3 : ((j : Int) < (n : Int)) = True := by simp; omega
      obtain ⟨ob, oo, a1c, a2c, ll, o, a1, a2, rfl, hco, hon, hoe, hlle, hc1, hc2, s1, s2⟩ := HA.out.row HS.out j hlt
      have HOE := Lib.hid hoe
      have HLL := Lib.hid hlle
      have HS1 := Lib.hid s1
      have HS2 := Lib.hid s2
      have hll4 : ll ≤ cs1.length := by rw [hlle]; exact crossTo_len _ _ _
      have HCO := Lib.hid hco
      have HC1 := Lib.hid hc1
      have HC2 := Lib.hid hc2
      have HBd := Lib.hid (HB.out.trans ((Below.refl wr.heap.size wr).drew.mono HB.out.size))
      have HRd : Hid (wr.drew.heap[R]? = some (.cells (rowN cs1.length f) 3 (0, 0))) := HRf.out
      have hnl : j < n := hlt
      clear hoe hlle s1 s2 hco hc1 hc2
      have ho0 : (0 : Int) ≤ (o : Int) := by omega
      have ho1 : decide ((o : Int) < 0) = false := by rw [decide_eq_false_iff_not]; omega
      have ho2 : decide (n ≤ o) = false := by rw [decide_eq_false_iff_not]; omega
      have ho3 : ((o : Int) < (n : Int)) = True := by simp; omega
      have hlx : ((ll : Int) != (ll : Int)) = false := by simp
      go_wp2_with fail
      refine start_ (n := 30) (S := fun w' => w'.cell? ⟨ob, oo + j, none⟩ = some (.int .i64 (o : Int)) ∧ w'.cell? ⟨R1, o, none⟩ = some (.slice a1 ll a1c) ∧ w'.cell? ⟨R2, j, none⟩ = some (.slice a2 ll a2c)) (ds := []) #[false, false, false, false, false, false, false, false, false, false, false, false, false, false, false, false, false, false, false, false, false, false, false, false, false, false, false, false, false, false] (by kernel_rfl) rfl rfl ⟨cell_later HBd.out HCO.out, cell_later HBd.out HC1.out, cell_later HBd.out HC2.out⟩ (fun hHeld => ?_)
      refine pure_ (i := 0) (N := some 153) (v := ?_) (a' := ?_) #[true, false, false, false, false, false, false, false, false, false, false, false, false, false, false, false, false, false, false, false, false, false, false, false, false, false, false, false, false, false] rfl rfl (by kernel_rfl) (fun _ _ _ h => h) (Or.inl ⟨by rfl, ?_⟩) ?_ ?_
      rotate_left
      · intro w'
        go_simp
        with_reducible rfl
      rotate_left
      · simp only [Act.put, List.setIfInBounds_toArray, List.set_cons_zero, List.set_cons_succ, i64_w, i32_w]
        rfl
      refine pure_ (i := 1) (N := some 154) (v := ?_) (a' := ?_) #[true, true, false, false, false, false, false, false, false, false, false, false, false, false, false, false, false, false, false, false, false, false, false, false, false, false, false, false, false, false] rfl rfl (by kernel_rfl) (fun _ _ _ h => h) (Or.inl ⟨by rfl, ?_⟩) ?_ ?_
      rotate_left
      · intro w'
        go_simp
        with_reducible rfl
      rotate_left
      · simp only [Act.put, List.setIfInBounds_toArray, List.set_cons_zero, List.set_cons_succ, i64_w, i32_w]
        rfl
      refine pure_ (i := 2) (N := some 155) (v := ?_) (a' := ?_) #[true, true, true, false, false, false, false, false, false, false, false, false, false, false, false, false, false, false, false, false, false, false, false, false, false, false, false, false, false, false] rfl rfl (by kernel_rfl) (fun _ _ _ h => h) (Or.inl ⟨by rfl, ?_⟩) ?_ ?_
      rotate_left
      · intro w'
        go_simp
        with_reducible rfl
      rotate_left
      · simp only [Act.put, List.setIfInBounds_toArray, List.set_cons_zero, List.set_cons_succ, i64_w, i32_w]
        rfl
      refine take_ (i := 3) (N := some 156) (v := ?_) (a' := ?_) #[true, true, true, true, false, false, false, false, false, false, false, false, false, false, false, false, false, false, false, false, false, false, false, false, false, false, false, false, false, false] rfl rfl (by kernel_rfl) (fun _ _ _ h => h) (Or.inl ⟨by rfl, ?_⟩) hHeld ?_ ?_
      rotate_left
      · rintro w' ⟨s0, s1, s2⟩
        go_simp
        with_reducible rfl
      rotate_left
      · simp only [Act.put, List.setIfInBounds_toArray, List.set_cons_zero, List.set_cons_succ, i64_w, i32_w]
        rfl
      refine pure_ (i := 4) (N := some 157) (v := ?_) (a' := ?_) #[true, true, true, true, true, false, false, false, false, false, false, false, false, false, false, false, false, false, false, false, false, false, false, false, false, false, false, false, false, false] rfl rfl (by kernel_rfl) (fun _ _ _ h => h) (Or.inl ⟨by rfl, ?_⟩) ?_ ?_
      rotate_left
      · intro w'
        go_simp
        with_reducible rfl
      rotate_left
      · simp only [Act.put, List.setIfInBounds_toArray, List.set_cons_zero, List.set_cons_succ, i64_w, i32_w]
        rfl
      refine pure_ (i := 5) (N := some 158) (v := ?_) (a' := ?_) #[true, true, true, true, true, true, false, false, false, false, false, false, false, false, false, false, false, false, false, false, false, false, false, false, false, false, false, false, false, false] rfl rfl (by kernel_rfl) (fun _ _ _ h => h) (Or.inl ⟨by rfl, ?_⟩) ?_ ?_
      rotate_left
      · intro w'
        go_simp
        with_reducible rfl
      rotate_left
      · simp only [Act.put, List.setIfInBounds_toArray, List.set_cons_zero, List.set_cons_succ, i64_w, i32_w]
        rfl
      refine pure_ (i := 6) (N := some 159) (v := ?_) (a' := ?_) #[true, true, true, true, true, true, true, false, false, false, false, false, false, false, false, false, false, false, false, false, false, false, false, false, false, false, false, false, false, false] rfl rfl (by kernel_rfl) (fun _ _ _ h => h) (Or.inl ⟨by rfl, ?_⟩) ?_ ?_
      rotate_left
      · intro w'
        go_simp
        with_reducible rfl
      rotate_left
      · simp only [Act.put, List.setIfInBounds_toArray, List.set_cons_zero, List.set_cons_succ, i64_w, i32_w]
        rfl
      refine pure_ (i := 7) (N := some 160) (v := ?_) (a' := ?_) #[true, true, true, true, true, true, true, true, false, false, false, false, false, false, false, false, false, false, false, false, false, false, false, false, false, false, false, false, false, false] rfl rfl (by kernel_rfl) (fun _ _ _ h => h) (Or.inl ⟨by rfl, ?_⟩) ?_ ?_
      rotate_left
      · intro w'
        go_simp
        with_reducible rfl
      rotate_left
      · simp only [Act.put, List.setIfInBounds_toArray, List.set_cons_zero, List.set_cons_succ, i64_w, i32_w]
        rfl
      refine pure_ (i := 8) (N := some 161) (v := ?_) (a' := ?_) #[true, true, true, true, true, true, true, true, true, false, false, false, false, false, false, false, false, false, false, false, false, false, false, false, false, false, false, false, false, false] rfl rfl (by kernel_rfl) (fun _ _ _ h => h) (Or.inl ⟨by rfl, ?_⟩) ?_ ?_
      rotate_left
      · intro w'
        go_simp
        with_reducible rfl
      rotate_left
      · simp only [Act.put, List.setIfInBounds_toArray, List.set_cons_zero, List.set_cons_succ, i64_w, i32_w]
        rfl
      refine pure_ (i := 10) (N := some 163) (v := ?_) (a' := ?_) #[true, true, true, true, true, true, true, true, true, false, true, false, false, false, false, false, false, false, false, false, false, false, false, false, false, false, false, false, false, false] rfl rfl (by kernel_rfl) (fun _ _ _ h => h) (Or.inl ⟨by rfl, ?_⟩) ?_ ?_
      rotate_left
      · intro w'
        go_simp
        with_reducible rfl
      rotate_left
      · simp only [Act.put, List.setIfInBounds_toArray, List.set_cons_zero, List.set_cons_succ, i64_w, i32_w]
        rfl
      refine pure_ (i := 11) (N := some 164) (v := ?_) (a' := ?_) #[true, true, true, true, true, true, true, true, true, false, true, true, false, false, false, false, false, false, false, false, false, false, false, false, false, false, false, false, false, false] rfl rfl (by kernel_rfl) (fun _ _ _ h => h) (Or.inl ⟨by rfl, ?_⟩) ?_ ?_
      rotate_left
      · intro w'
        go_simp
        with_reducible rfl
      rotate_left
      · simp only [Act.put, List.setIfInBounds_toArray, List.set_cons_zero, List.set_cons_succ, i64_w, i32_w]
        rfl
      refine take_ (i := 9) (N := some 162) (v := ?_) (a' := ?_) #[true, true, true, true, true, true, true, true, true, true, true, true, false, false, false, false, false, false, false, false, false, false, false, false, false, false, false, false, false, false] rfl rfl (by kernel_rfl) (fun _ _ _ h => h) (Or.inl ⟨by rfl, ?_⟩) hHeld ?_ ?_
      rotate_left
      · rintro w' ⟨s0, s1, s2⟩
        go_simp
        with_reducible rfl
      rotate_left
      · simp only [Act.put, List.setIfInBounds_toArray, List.set_cons_zero, List.set_cons_succ, i64_w, i32_w]
        rfl
      refine pure_ (i := 12) (N := some 165) (v := ?_) (a' := ?_) #[true, true, true, true, true, true, true, true, true, true, true, true, true, false, false, false, false, false, false, false, false, false, false, false, false, false, false, false, false, false] rfl rfl (by kernel_rfl) (fun _ _ _ h => h) (Or.inl ⟨by rfl, ?_⟩) ?_ ?_
      rotate_left
      · intro w'
        go_simp
        with_reducible rfl
      rotate_left
      · simp only [Act.put, List.setIfInBounds_toArray, List.set_cons_zero, List.set_cons_succ, i64_w, i32_w]
        rfl
      refine pure_ (i := 13) (N := some 166) (v := ?_) (a' := ?_) #[true, true, true, true, true, true, true, true, true, true, true, true, true, true, false, false, false, false, false, false, false, false, false, false, false, false, false, false, false, false] rfl rfl (by kernel_rfl) (fun _ _ _ h => h) (Or.inl ⟨by rfl, ?_⟩) ?_ ?_
      rotate_left
      · intro w'
        go_simp
        with_reducible rfl
      rotate_left
      · simp only [Act.put, List.setIfInBounds_toArray, List.set_cons_zero, List.set_cons_succ, i64_w, i32_w]
        rfl
      refine pure_ (i := 14) (N := some 167) (v := ?_) (a' := ?_) #[true, true, true, true, true, true, true, true, true, true, true, true, true, true, true, false, false, false, false, false, false, false, false, false, false, false, false, false, false, false] rfl rfl (by kernel_rfl) (fun _ _ _ h => h) (Or.inl ⟨by rfl, ?_⟩) ?_ ?_
      rotate_left
      · intro w'
        go_simp
        with_reducible rfl
      rotate_left
      · simp only [Act.put, List.setIfInBounds_toArray, List.set_cons_zero, List.set_cons_succ, i64_w, i32_w]
        rfl
      refine pure_ (i := 15) (N := some 168) (v := ?_) (a' := ?_) #[true, true, true, true, true, true, true, true, true, true, true, true, true, true, true, true, false, false, false, false, false, false, false, false, false, false, false, false, false, false] rfl rfl (by kernel_rfl) (fun _ _ _ h => h) (Or.inl ⟨by rfl, ?_⟩) ?_ ?_
      rotate_left
      · intro w'
        go_simp
        with_reducible rfl
      rotate_left
      · simp only [Act.put, List.setIfInBounds_toArray, List.set_cons_zero, List.set_cons_succ, i64_w, i32_w]
        rfl
      refine pure_ (i := 16) (N := some 169) (v := ?_) (a' := ?_) #[true, true, true, true, true, true, true, true, true, true, true, true, true, true, true, true, true, false, false, false, false, false, false, false, false, false, false, false, false, false] rfl rfl (by kernel_rfl) (fun _ _ _ h => h) (Or.inl ⟨by rfl, ?_⟩) ?_ ?_
      rotate_left
      · intro w'
        go_simp
        with_reducible rfl
      rotate_left
      · simp only [Act.put, List.setIfInBounds_toArray, List.set_cons_zero, List.set_cons_succ, i64_w, i32_w]
        rfl
      refine pure_ (i := 17) (N := some 170) (v := ?_) (a' := ?_) #[true, true, true, true, true, true, true, true, true, true, true, true, true, true, true, true, true, true, false, false, false, false, false, false, false, false, false, false, false, false] rfl rfl (by kernel_rfl) (fun _ _ _ h => h) (Or.inl ⟨by rfl, ?_⟩) ?_ ?_
      rotate_left
      · intro w'
        go_simp
        with_reducible rfl
      rotate_left
      · simp only [Act.put, List.setIfInBounds_toArray, List.set_cons_zero, List.set_cons_succ, i64_w, i32_w]
        rfl
      refine pure_ (i := 18) (N := some 171) (v := ?_) (a' := ?_) #[true, true, true, true, true, true, true, true, true, true, true, true, true, true, true, true, true, true, true, false, false, false, false, false, false, false, false, false, false, false] rfl rfl (by kernel_rfl) (fun _ _ _ h => h) (Or.inl ⟨by rfl, ?_⟩) ?_ ?_
      rotate_left
      · intro w'
        go_simp
        with_reducible rfl
      rotate_left
      · simp only [Act.put, List.setIfInBounds_toArray, List.set_cons_zero, List.set_cons_succ, i64_w, i32_w]
        rfl
      refine pure_ (i := 23) (N := some 176) (v := ?_) (a' := ?_) #[true, true, true, true, true, true, true, true, true, true, true, true, true, true, true, true, true, true, true, false, false, false, false, true, false, false, false, false, false, false] rfl rfl (by kernel_rfl) (fun _ _ _ h => h) (Or.inl ⟨by rfl, ?_⟩) ?_ ?_
      rotate_left
      · intro w'
        go_simp
        with_reducible rfl
      rotate_left
      · simp only [Act.put, List.setIfInBounds_toArray, List.set_cons_zero, List.set_cons_succ, i64_w, i32_w]
        rfl
      refine pure_ (i := 24) (N := some 177) (v := ?_) (a' := ?_) #[true, true, true, true, true, true, true, true, true, true, true, true, true, true, true, true, true, true, true, false, false, false, false, true, true, false, false, false, false, false] rfl rfl (by kernel_rfl) (fun _ _ _ h => h) (Or.inl ⟨by rfl, ?_⟩) ?_ ?_
      rotate_left
      · intro w'
        go_simp
        with_reducible rfl
      rotate_left
      · simp only [Act.put, List.setIfInBounds_toArray, List.set_cons_zero, List.set_cons_succ, i64_w, i32_w]
        rfl
      refine pure_ (i := 25) (N := some 178) (v := ?_) (a' := ?_) #[true, true, true, true, true, true, true, true, true, true, true, true, true, true, true, true, true, true, true, false, false, false, false, true, true, true, false, false, false, false] rfl rfl (by kernel_rfl) (fun _ _ _ h => h) (Or.inl ⟨by rfl, ?_⟩) ?_ ?_
      rotate_left
      · intro w'
        go_simp
        with_reducible rfl
      rotate_left
      · simp only [Act.put, List.setIfInBounds_toArray, List.set_cons_zero, List.set_cons_succ, i64_w, i32_w]
        rfl
      refine take_ (i := 19) (N := some 172) (v := ?_) (a' := ?_) #[true, true, true, true, true, true, true, true, true, true, true, true, true, true, true, true, true, true, true, true, false, false, false, true, true, true, false, false, false, false] rfl rfl (by kernel_rfl) (fun _ _ _ h => h) (Or.inl ⟨by rfl, ?_⟩) hHeld ?_ ?_
      rotate_left
      · rintro w' ⟨s0, s1, s2⟩
        go_simp
        with_reducible rfl
      rotate_left
      · simp only [Act.put, List.setIfInBounds_toArray, List.set_cons_zero, List.set_cons_succ, i64_w, i32_w]
        rfl
      refine pure_ (i := 20) (N := some 173) (v := ?_) (a' := ?_) #[true, true, true, true, true, true, true, true, true, true, true, true, true, true, true, true, true, true, true, true, true, false, false, true, true, true, false, false, false, false] rfl rfl (by kernel_rfl) (fun _ _ _ h => h) (Or.inl ⟨by rfl, ?_⟩) ?_ ?_
      rotate_left
      · intro w'
        go_simp
        with_reducible rfl
      rotate_left
      · simp only [Act.put, List.setIfInBounds_toArray, List.set_cons_zero, List.set_cons_succ, i64_w, i32_w]
        rfl
      refine take_ (i := 21) (N := some 174) (v := ?_) (a' := ?_) #[true, true, true, true, true, true, true, true, true, true, true, true, true, true, true, true, true, true, true, true, true, true, false, true, true, true, false, false, false, false] rfl rfl (by kernel_rfl) (fun _ _ _ h => h) (Or.inl ⟨by rfl, ?_⟩) hHeld ?_ ?_
      rotate_left
      · rintro w' ⟨s0, s1, s2⟩
        go_simp
        with_reducible rfl
      rotate_left
      · simp only [Act.put, List.setIfInBounds_toArray, List.set_cons_zero, List.set_cons_succ, i64_w, i32_w]
        rfl
      refine pure_ (i := 22) (N := some 175) (v := ?_) (a' := ?_) #[true, true, true, true, true, true, true, true, true, true, true, true, true, true, true, true, true, true, true, true, true, true, true, true, true, true, false, false, false, false] rfl rfl (by kernel_rfl) (fun _ _ _ h => h) (Or.inl ⟨by rfl, ?_⟩) ?_ ?_
      rotate_left
      · intro w'
        go_simp
        with_reducible rfl
      rotate_left
      · simp only [Act.put, List.setIfInBounds_toArray, List.set_cons_zero, List.set_cons_succ, i64_w, i32_w]
        rfl
      refine take_ (i := 26) (N := some 179) (v := ?_) (a' := ?_) #[true, true, true, true, true, true, true, true, true, true, true, true, true, true, true, true, true, true, true, true, true, true, true, true, true, true, true, false, false, false] rfl rfl (by kernel_rfl) (fun _ _ _ h => h) (Or.inl ⟨by rfl, ?_⟩) hHeld ?_ ?_
      rotate_left
      · rintro w' ⟨s0, s1, s2⟩
        go_simp
        with_reducible rfl
      rotate_left
      · simp only [Act.put, List.setIfInBounds_toArray, List.set_cons_zero, List.set_cons_succ, i64_w, i32_w]
        rfl
      refine pure_ (i := 27) (N := some 180) (v := ?_) (a' := ?_) #[true, true, true, true, true, true, true, true, true, true, true, true, true, true, true, true, true, true, true, true, true, true, true, true, true, true, true, true, false, false] rfl rfl (by kernel_rfl) (fun _ _ _ h => h) (Or.inl ⟨by rfl, ?_⟩) ?_ ?_
      rotate_left
      · intro w'
        go_simp
        with_reducible rfl
      rotate_left
      · simp only [Act.put, List.setIfInBounds_toArray, List.set_cons_zero, List.set_cons_succ, i64_w, i32_w]
        rfl
      refine pure_ (i := 28) (N := some 181) (v := ?_) (a' := ?_) #[true, true, true, true, true, true, true, true, true, true, true, true, true, true, true, true, true, true, true, true, true, true, true, true, true, true, true, true, true, false] rfl rfl (by kernel_rfl) (fun _ _ _ h => h) (Or.inl ⟨by rfl, ?_⟩) ?_ ?_
      rotate_left
      · intro w'
        go_simp
        with_reducible rfl
      rotate_left
      · simp only [Act.put, List.setIfInBounds_toArray, List.set_cons_zero, List.set_cons_succ, i64_w, i32_w]
        rfl
      refine pure_ (i := 29) (N := some 182) (v := ?_) (a' := ?_) #[true, true, true, true, true, true, true, true, true, true, true, true, true, true, true, true, true, true, true, true, true, true, true, true, true, true, true, true, true, true] rfl rfl (by kernel_rfl) (fun _ _ _ h => h) (Or.inl ⟨by rfl, ?_⟩) ?_ ?_
      rotate_left
      · intro w'
        go_simp
        with_reducible rfl
      rotate_left
      · simp only [Act.put, List.setIfInBounds_toArray, List.set_cons_zero, List.set_cons_succ, i64_w, i32_w]
        rfl
      refine done_ (by kernel_rfl) ?_
      clear hHeld HB HRf ho1 ho2 hlx
      generalize wr.drew = wd at HBd HRd ⊢
      go_wp2_with fail
      go_loopw [19] (fun i wr => ∃ (k : Nat) (f' : Nat → Int), k ≤ ll ∧ i = .int .i64 k ∧ Hid (Below W0.heap.size W0 wr) ∧ Hid (wr.heap[R]? = some (.cells (rowN cs1.length f') 3 (0, 0))) ∧ Hid (Done cs1 out tM f' j k)) (fun i _ => ll - (intOf i).toNat)
      case atStart => exact ⟨0, f, Nat.zero_le _, rfl, HBd, HRd, HD⟩
      case round =>
        obtain ⟨k, f', hk, rfl, HB, HRf, HDk⟩ := hrel
        have hwk64 : wrap64 ((k : Int) + 1) = (k : Int) + 1 := w64_succ k (by omega)
        have hk0 : (0 : Int) ≤ (k : Int) := by omega
        have hcj := cell_later HB.out HC2.out
        by_cases hkl : k < ll
        · have hkl2 : decide ((k : Int) < (ll : Int)) = true := by simp; omega
          have hkl3 : ((k : Int) < (ll : Int)) = True := by simp; omega
          obtain ⟨x, hx⟩ : ∃ x, (crossTo cs1 cs1.length o)[k]? = some x := ⟨_, List.getElem?_eq_getElem (by rw [← HLL.out]; exact hkl)⟩
          obtain ⟨m, rfl, hm⟩ := crossTo_at cs1 HW.out o k x hx
          have hx2 : ((crossTo cs1 cs1.length o).map fun m => ((tM m.toNat : Nat) : Int))[k]? = some ((tM m : Nat) : Int) := by rw [List.getElem?_map, hx]; rfl
          obtain ⟨b1, o1, rfl, hb1l, hs1⟩ := rdI_open HS1.out (by rw [← HLL.out]; omega)
          obtain ⟨b2, o2, rfl, hb2l, hs2⟩ := rdI_open HS2.out (by rw [List.length_map, ← HLL.out]; omega)
          obtain ⟨t, ht⟩ : ∃ t : Nat, t = tM m := ⟨_, rfl⟩
          have hk1 := hs1 k _ hx
          have hk2 := hs2 k _ hx2
          rw [← ht] at hk2
          have hkk1 := cell_later HB.out hk1
          have hkk2 := cell_later HB.out hk2
          have hco' := cell_later HB.out HCO.out
          have hc1' := cell_later HB.out HC1.out
          have hDn : Done cs1 out tM (fun q => if q = m then (t : Int) else f' q) j (k + 1) := HDk.out.step (by rw [HOE.out]; exact hx) (by rw [ht])
          have HDn := Lib.hid hDn
          have hRd : wr.drew.heap[R]? = some (.cells (rowN cs1.length f') 3 (0, 0)) := HRf.out
          have hcRm : wr.drew.cell? ⟨R, m, none⟩ = some (.int .i64 (f' m)) := by rw [cell_of_row _ _ m _ _ _ hRd, rowN_get _ _ _ hm]
          have hfRm : wr.drew.frozen? ⟨R, m, none⟩ = false := frozen_of_row wr.drew R m _ _ hRd
          have HRn : Hid ((wr.setCell ⟨R, m, none⟩ (.int .i64 (t : Int))).drew.heap[R]? = some (.cells (rowN cs1.length (fun q => if q = m then (t : Int) else f' q)) 3 (0, 0))) := by
            have h := heap_setCell_same wr R m _ _ (.int .i64 (t : Int)) HRf.out
            rw [rowN_set _ _ _ _ hm] at h
            exact h
          have HBn : Hid (Below W0.heap.size W0 (wr.setCell ⟨R, m, none⟩ (.int .i64 (t : Int))).drew) := (HB.out.setCell hR0 _).drew
          have hm3 : ((m : Int) < (cs1.length : Int)) = True := by simp; omega
          have hm0 : (0 : Int) ≤ (m : Int) := by omega
          have hn0e : (cs1 = []) = False := eq_false (fun e => by rw [e] at hm; simp at hm)
          clear hk1 hk2 hx hx2 hs1 hs2 ht hDn hRd hb1l hb2l
          go_wp2_with fail
          refine start_ (n := 20) (S := fun w' => w'.cell? ⟨ob, oo + j, none⟩ = some (.int .i64 (o : Int)) ∧ w'.cell? ⟨R1, o, none⟩ = some (.slice (some ⟨b1, o1, none⟩) ll a1c) ∧ w'.cell? ⟨R2, j, none⟩ = some (.slice (some ⟨b2, o2, none⟩) ll a2c) ∧ w'.cell? ⟨b1, o1 + k, none⟩ = some (.int .i64 (m : Int)) ∧ w'.cell? ⟨b2, o2 + k, none⟩ = some (.int .i64 (t : Int))) (ds := [19]) #[false, false, false, false, false, false, false, false, false, false, false, false, false, false, false, false, false, false, false, false] (by kernel_rfl) rfl rfl ⟨hco', hc1', hcj, hkk1, hkk2⟩ (fun hHeld => ?_)
          refine pure_ (i := 0) (N := some 192) (v := ?_) (a' := ?_) #[true, false, false, false, false, false, false, false, false, false, false, false, false, false, false, false, false, false, false, false] rfl rfl (by kernel_rfl) (fun _ _ _ h => h) (Or.inl ⟨by rfl, ?_⟩) ?_ ?_
          rotate_left
          · intro w'
            go_simp
            with_reducible rfl
          rotate_left
          · simp only [Act.put, List.setIfInBounds_toArray, List.set_cons_zero, List.set_cons_succ, i64_w, i32_w]
            rfl
          refine pure_ (i := 1) (N := some 193) (v := ?_) (a' := ?_) #[true, true, false, false, false, false, false, false, false, false, false, false, false, false, false, false, false, false, false, false] rfl rfl (by kernel_rfl) (fun _ _ _ h => h) (Or.inl ⟨by rfl, ?_⟩) ?_ ?_
          rotate_left
          · intro w'
            go_simp
            with_reducible rfl
          rotate_left
          · simp only [Act.put, List.setIfInBounds_toArray, List.set_cons_zero, List.set_cons_succ, i64_w, i32_w]
            rfl
          refine pure_ (i := 2) (N := some 194) (v := ?_) (a' := ?_) #[true, true, true, false, false, false, false, false, false, false, false, false, false, false, false, false, false, false, false, false] rfl rfl (by kernel_rfl) (fun _ _ _ h => h) (Or.inl ⟨by rfl, ?_⟩) ?_ ?_
          rotate_left
          · intro w'
            go_simp
            with_reducible rfl
          rotate_left
          · simp only [Act.put, List.setIfInBounds_toArray, List.set_cons_zero, List.set_cons_succ, i64_w, i32_w]
            rfl
          refine pure_ (i := 3) (N := some 195) (v := ?_) (a' := ?_) #[true, true, true, true, false, false, false, false, false, false, false, false, false, false, false, false, false, false, false, false] rfl rfl (by kernel_rfl) (fun _ _ _ h => h) (Or.inl ⟨by rfl, ?_⟩) ?_ ?_
          rotate_left
          · intro w'
            go_simp
            with_reducible rfl
          rotate_left
          · simp only [Act.put, List.setIfInBounds_toArray, List.set_cons_zero, List.set_cons_succ, i64_w, i32_w]
            rfl
          refine pure_ (i := 4) (N := some 196) (v := ?_) (a' := ?_) #[true, true, true, true, true, false, false, false, false, false, false, false, false, false, false, false, false, false, false, false] rfl rfl (by kernel_rfl) (fun _ _ _ h => h) (Or.inl ⟨by rfl, ?_⟩) ?_ ?_
          rotate_left
          · intro w'
            go_simp
            with_reducible rfl
          rotate_left
          · simp only [Act.put, List.setIfInBounds_toArray, List.set_cons_zero, List.set_cons_succ, i64_w, i32_w]
            rfl
          refine pure_ (i := 8) (N := some 200) (v := ?_) (a' := ?_) #[true, true, true, true, true, false, false, false, true, false, false, false, false, false, false, false, false, false, false, false] rfl rfl (by kernel_rfl) (fun _ _ _ h => h) (Or.inl ⟨by rfl, ?_⟩) ?_ ?_
          rotate_left
          · intro w'
            go_simp
            with_reducible rfl
          rotate_left
          · simp only [Act.put, List.setIfInBounds_toArray, List.set_cons_zero, List.set_cons_succ, i64_w, i32_w]
            rfl
          refine pure_ (i := 11) (N := some 203) (v := ?_) (a' := ?_) #[true, true, true, true, true, false, false, false, true, false, false, true, false, false, false, false, false, false, false, false] rfl rfl (by kernel_rfl) (fun _ _ _ h => h) (Or.inl ⟨by rfl, ?_⟩) ?_ ?_
          rotate_left
          · intro w'
            go_simp
            with_reducible rfl
          rotate_left
          · simp only [Act.put, List.setIfInBounds_toArray, List.set_cons_zero, List.set_cons_succ, i64_w, i32_w]
            rfl
          refine pure_ (i := 12) (N := some 204) (v := ?_) (a' := ?_) #[true, true, true, true, true, false, false, false, true, false, false, true, true, false, false, false, false, false, false, false] rfl rfl (by kernel_rfl) (fun _ _ _ h => h) (Or.inl ⟨by rfl, ?_⟩) ?_ ?_
          rotate_left
          · intro w'
            go_simp
            with_reducible rfl
          rotate_left
          · simp only [Act.put, List.setIfInBounds_toArray, List.set_cons_zero, List.set_cons_succ, i64_w, i32_w]
            rfl
          refine pure_ (i := 13) (N := some 205) (v := ?_) (a' := ?_) #[true, true, true, true, true, false, false, false, true, false, false, true, true, true, false, false, false, false, false, false] rfl rfl (by kernel_rfl) (fun _ _ _ h => h) (Or.inl ⟨by rfl, ?_⟩) ?_ ?_
          rotate_left
          · intro w'
            go_simp
            with_reducible rfl
          rotate_left
          · simp only [Act.put, List.setIfInBounds_toArray, List.set_cons_zero, List.set_cons_succ, i64_w, i32_w]
            rfl
          refine pure_ (i := 15) (N := some 207) (v := ?_) (a' := ?_) #[true, true, true, true, true, false, false, false, true, false, false, true, true, true, false, true, false, false, false, false] rfl rfl (by kernel_rfl) (fun _ _ _ h => h) (Or.inl ⟨by rfl, ?_⟩) ?_ ?_
          rotate_left
          · intro w'
            go_simp
            with_reducible rfl
          rotate_left
          · simp only [Act.put, List.setIfInBounds_toArray, List.set_cons_zero, List.set_cons_succ, i64_w, i32_w]
            rfl
          refine take_ (i := 5) (N := some 197) (v := ?_) (a' := ?_) #[true, true, true, true, true, true, false, false, true, false, false, true, true, true, false, true, false, false, false, false] rfl rfl (by kernel_rfl) (fun _ _ _ h => h) (Or.inl ⟨by rfl, ?_⟩) hHeld ?_ ?_
          rotate_left
          · rintro w' ⟨s0, s1, s2, s3, s4⟩
            go_simp
            with_reducible rfl
          rotate_left
          · simp only [Act.put, List.setIfInBounds_toArray, List.set_cons_zero, List.set_cons_succ, i64_w, i32_w]
            rfl
          refine pure_ (i := 6) (N := some 198) (v := ?_) (a' := ?_) #[true, true, true, true, true, true, true, false, true, false, false, true, true, true, false, true, false, false, false, false] rfl rfl (by kernel_rfl) (fun _ _ _ h => h) (Or.inl ⟨by rfl, ?_⟩) ?_ ?_
          rotate_left
          · intro w'
            go_simp
            with_reducible rfl
          rotate_left
          · simp only [Act.put, List.setIfInBounds_toArray, List.set_cons_zero, List.set_cons_succ, i64_w, i32_w]
            rfl
          refine take_ (i := 7) (N := some 199) (v := ?_) (a' := ?_) #[true, true, true, true, true, true, true, true, true, false, false, true, true, true, false, true, false, false, false, false] rfl rfl (by kernel_rfl) (fun _ _ _ h => h) (Or.inl ⟨by rfl, ?_⟩) hHeld ?_ ?_
          rotate_left
          · rintro w' ⟨s0, s1, s2, s3, s4⟩
            go_simp
            with_reducible rfl
          rotate_left
          · simp only [Act.put, List.setIfInBounds_toArray, List.set_cons_zero, List.set_cons_succ, i64_w, i32_w]
            rfl
          refine pure_ (i := 9) (N := some 201) (v := ?_) (a' := ?_) #[true, true, true, true, true, true, true, true, true, true, false, true, true, true, false, true, false, false, false, false] rfl rfl (by kernel_rfl) (fun _ _ _ h => h) (Or.inl ⟨by rfl, ?_⟩) ?_ ?_
          rotate_left
          · intro w'
            go_simp
            with_reducible rfl
          rotate_left
          · simp only [Act.put, List.setIfInBounds_toArray, List.set_cons_zero, List.set_cons_succ, i64_w, i32_w]
            rfl
          refine take_ (i := 10) (N := some 202) (v := ?_) (a' := ?_) #[true, true, true, true, true, true, true, true, true, true, true, true, true, true, false, true, false, false, false, false] rfl rfl (by kernel_rfl) (fun _ _ _ h => h) (Or.inl ⟨by rfl, ?_⟩) hHeld ?_ ?_
          rotate_left
          · rintro w' ⟨s0, s1, s2, s3, s4⟩
            go_simp
            with_reducible rfl
          rotate_left
          · simp only [Act.put, List.setIfInBounds_toArray, List.set_cons_zero, List.set_cons_succ, i64_w, i32_w]
            rfl
          refine take_ (i := 14) (N := some 206) (v := ?_) (a' := ?_) #[true, true, true, true, true, true, true, true, true, true, true, true, true, true, true, true, false, false, false, false] rfl rfl (by kernel_rfl) (fun _ _ _ h => h) (Or.inl ⟨by rfl, ?_⟩) hHeld ?_ ?_
          rotate_left
          · rintro w' ⟨s0, s1, s2, s3, s4⟩
            go_simp
            with_reducible rfl
          rotate_left
          · simp only [Act.put, List.setIfInBounds_toArray, List.set_cons_zero, List.set_cons_succ, i64_w, i32_w]
            rfl
          refine pure_ (i := 16) (N := some 208) (v := ?_) (a' := ?_) #[true, true, true, true, true, true, true, true, true, true, true, true, true, true, true, true, true, false, false, false] rfl rfl (by kernel_rfl) (fun _ _ _ h => h) (Or.inl ⟨by rfl, ?_⟩) ?_ ?_
          rotate_left
          · intro w'
            go_simp
            with_reducible rfl
          rotate_left
          · simp only [Act.put, List.setIfInBounds_toArray, List.set_cons_zero, List.set_cons_succ, i64_w, i32_w]
            rfl
          refine take_ (i := 17) (N := some 209) (v := ?_) (a' := ?_) #[true, true, true, true, true, true, true, true, true, true, true, true, true, true, true, true, true, true, false, false] rfl rfl (by kernel_rfl) (fun _ _ _ h => h) (Or.inl ⟨by rfl, ?_⟩) hHeld ?_ ?_
          rotate_left
          · rintro w' ⟨s0, s1, s2, s3, s4⟩
            go_simp
            with_reducible rfl
          rotate_left
          · simp only [Act.put, List.setIfInBounds_toArray, List.set_cons_zero, List.set_cons_succ, i64_w, i32_w]
            rfl
          refine pure_ (i := 18) (N := some 210) (v := ?_) (a' := ?_) #[true, true, true, true, true, true, true, true, true, true, true, true, true, true, true, true, true, true, true, false] rfl rfl (by kernel_rfl) (fun _ _ _ h => h) (Or.inl ⟨by rfl, ?_⟩) ?_ ?_
          rotate_left
          · intro w'
            go_simp
            with_reducible rfl
          rotate_left
          · simp only [Act.put, List.setIfInBounds_toArray, List.set_cons_zero, List.set_cons_succ, i64_w, i32_w]
            rfl
          refine last_ (i := 19) (N := none) #[true, true, true, true, true, true, true, true, true, true, true, true, true, true, true, true, true, true, true, true] rfl rfl (by kernel_rfl) (by decide) (fun K hK => ?_)
          refine skip_ (w1 := ?_) (by rfl) rfl ?_ ?_
          rotate_left
          · go_simp
            rfl
          refine hK.out _ _ ?_
          clear hK K
          refine done_ (by kernel_rfl) ?_
          clear hHeld hco' hc1' hcj hkk1 hkk2 hcRm hfRm
          generalize (wr.setCell ⟨R, m, none⟩ (.int .i64 (t : Int))).drew = w9 at HRn HBn ⊢
          go_wp2_with fail
          go_roundw
          case rel => exact ⟨k + 1, _, by omega, by go_num, HBn, HRn, HDn⟩
          case measure => simp [intOf]; omega
        · have hkl2 : decide ((k : Int) < (ll : Int)) = false := by rw [decide_eq_false_iff_not]; omega
          have HDe : Hid (Done cs1 out tM f' (j + 1) 0) := HDk.out.next (by rw [HOE.out, ← HLL.out]; omega)
          go_wp2_with fail
          go_roundw
          case rel => exact ⟨j + 1, _, by omega, by go_num, HB, HRf, HDe⟩
          case measure => simp [intOf]; omega
    · have hl2 : decide ((j : Int) < (n : Int)) = false := by rw [decide_eq_false_iff_not]; omega
      go_wp2_with fail
      obtain rfl : j = n := by omega
      have he : rowN cs1.length f = rowN cs1.length (fun m => ((tM m : Nat) : Int)) := rowN_congr fun m hm => HD.out.all HS.out m hm
      have hRf := HRf.out
      rw [he] at hRf
      exact HE.out HB.out hRf
end Go.Proofs.YtepofpnbgbmihaaDoor

/-
  The law, from its beginning to the loops.
-/
namespace Go.Proofs.YtepofpnbgbmihaaDoor
open Go.RowKit Go.Shelf Go.Proofs.YtepofpnbgbmihaaDoorW.PrintLast
set_option linter.unusedSimpArgs false
set_option linter.unusedVariables false

theorem part_step {k : Nat} {P : Program} {Q : Exit → Act → World → Prop} {a : Act} {w : World} (he : sndK k lawBody = .seq (fstK k lawBody) (sndK (k + 1) lawBody))
    (h : ∀ K : Act → World → Prop, (∀ a w, (sndK (k + 1) lawBody).wp P Q a w → K a w) → (fstK k lawBody).wp P (Exit.then K Q) a w) : (sndK k lawBody).wp P Q a w := by
  rw [he]
  exact wp_seq_k h
abbrev rd16 (w : World) (v : Value) (l : List Int) : Prop := RdL 1 (fun n => [.int .u16 n]) w v l
/-- The input, boxed. -/
structure DyAt (w W : World) (D0 : Nat) (p : Int) (sv wv uv av : Value) (s : Nat → Int) (ws : List Wk) (xs : List Wi) (ys : List Ul) (at_ : List Int) : Prop where
  d : W.heap[D0]? = some (.cells #[.int .i64 p, sv, wv, uv, .int .i64 (s 0), .int .i64 (s 1), .int .i64 (s 2), .int .i64 (s 3), .int .i64 (s 4), .int .i64 (s 5)] 29 (0, 0))
  sr : RdL 3 encW W sv ws
  wr : RdL 2 encWi W wv xs
  ur : RdL 2 encUl W uv ys
  ar : rd16 W av at_
  tab : Tab W
  below : Below w.heap.size w W
section
variable {w W W' : World} {D0 : Nat} {p : Int} {sv wv uv av : Value} {s : Nat → Int} {ws : List Wk} {xs : List Wi} {ys : List Ul} {at_ : List Int}
theorem DyAt.later (h : DyAt w W D0 p sv wv uv av s ws xs ys at_) (hb : Below W.heap.size W W') : DyAt w W' D0 p sv wv uv av s ws xs ys at_ :=
  ⟨(hb.block _ (Array.getElem?_eq_some_iff.1 h.d).1).trans h.d, h.sr.later hb, h.wr.later hb, h.ur.later hb, h.ar.later hb, h.tab.later hb, h.below.trans (hb.mono h.below.size)⟩
theorem DyAt.cells (h : DyAt w W D0 p sv wv uv av s ws xs ys at_) : W.cell? ⟨D0, 0, none⟩ = some (.int .i64 p) ∧ W.cell? ⟨D0, 1, none⟩ = some sv ∧ W.cell? ⟨D0, 2, none⟩ = some wv ∧ W.cell? ⟨D0, 3, none⟩ = some uv :=
  ⟨by rw [cell_of_row _ _ 0 _ _ _ h.d]; rfl, by rw [cell_of_row _ _ 1 _ _ _ h.d]; rfl, by rw [cell_of_row _ _ 2 _ _ _ h.d]; rfl, by rw [cell_of_row _ _ 3 _ _ _ h.d]; rfl⟩
theorem DyAt.start (hr : RdL 3 encW w sv ws) (hx : RdL 2 encWi w wv xs) (hy : RdL 2 encUl w uv ys) (ha : rd16 w av at_) (hT : Tab w) :
    DyAt w (w.alloc (.cells #[.int .i64 p, sv, wv, uv, .int .i64 (s 0), .int .i64 (s 1), .int .i64 (s 2), .int .i64 (s 3), .int .i64 (s 4), .int .i64 (s 5)] 29)) w.heap.size p sv wv uv av s ws xs ys at_ := by
  have hb : Below w.heap.size w (w.alloc (.cells #[.int .i64 p, sv, wv, uv, .int .i64 (s 0), .int .i64 (s 1), .int .i64 (s 2), .int .i64 (s 3), .int .i64 (s 4), .int .i64 (s 5)] 29)) := (Below.refl _ _).alloc (Nat.le_refl _) _
  exact ⟨World.alloc_heap_new _ _, hr.later hb, hx.later hb, hy.later hb, ha.later hb, hT.later hb, hb⟩
end

set_option maxRecDepth 100000 in
set_option maxHeartbeats 4000000 in
theorem law_early0 (p : Int) (ws : List Wk) (sv : Value) (xs : List Wi) (wv : Value) (ys : List Ul) (uv : Value) (s : Nat → Int) (at_ : List Int) (av : Value) (w : World)
    (hr : RdL 3 encW w sv ws) (hx : RdL 2 encWi w wv xs) (hy : RdL 2 encUl w uv ys) (ha : rd16 w av at_) (hT : Tab w)
    (h0 : 12 < ws.length) : Calls Tryd.prog 3 #[.agg #[.int .i64 p, sv, wv, uv, .int .i64 (s 0), .int .i64 (s 1), .int .i64 (s 2), .int .i64 (s 3), .int .i64 (s 4), .int .i64 (s 5)], av] w (LawPost w) := by
  have HD := Lib.hid (DyAt.start (p := p) (s := s) hr hx hy ha hT)
  obtain ⟨sa, sc, rfl, hsl, -⟩ := hr.slice
  obtain ⟨wa, wc, rfl, hwl, -⟩ := hx.slice
  obtain ⟨ua, uc, rfl, hul, -⟩ := hy.slice
  obtain ⟨aa, ac, rfl, hal, -⟩ := ha.slice
  clear hr hx hy ha hT
  have b0 : decide (12 < ws.length) = true := by simpa using h0
  have b0' : decide ((12 : Int) < (ws.length : Int)) = true := by simp; omega
  clear h0
  go_enter Tryd.func3, Tryd.ntmps3
  go_wp2_with fail
  generalize w.alloc (.cells #[.int .i64 p, .slice sa ws.length sc, .slice wa xs.length wc, .slice ua ys.length uc, .int .i64 (s 0), .int .i64 (s 1), .int .i64 (s 2), .int .i64 (s 3), .int .i64 (s 4), .int .i64 (s 5)] 29) = W at HD ⊢
  refine (awake_any W).mono ?_
  rintro e W1 ⟨rfl, hb1⟩
  have HD1 := Lib.hid (HD.out.later hb1)
  clear hb1 HD
  obtain ⟨hc0, hc1, hc2, hc3⟩ := HD1.out.cells
  go_wp2_with fail
  go_ret
  exact ⟨rfl, HD1.out.below⟩
set_option maxRecDepth 100000 in
set_option maxHeartbeats 4000000 in
theorem law_early1 (p : Int) (ws : List Wk) (sv : Value) (xs : List Wi) (wv : Value) (ys : List Ul) (uv : Value) (s : Nat → Int) (at_ : List Int) (av : Value) (w : World)
    (hr : RdL 3 encW w sv ws) (hx : RdL 2 encWi w wv xs) (hy : RdL 2 encUl w uv ys) (ha : rd16 w av at_) (hT : Tab w)
    (h0 : ¬ 12 < ws.length) (h1 : 6 < xs.length) : Calls Tryd.prog 3 #[.agg #[.int .i64 p, sv, wv, uv, .int .i64 (s 0), .int .i64 (s 1), .int .i64 (s 2), .int .i64 (s 3), .int .i64 (s 4), .int .i64 (s 5)], av] w (LawPost w) := by
  have HD := Lib.hid (DyAt.start (p := p) (s := s) hr hx hy ha hT)
  obtain ⟨sa, sc, rfl, hsl, -⟩ := hr.slice
  obtain ⟨wa, wc, rfl, hwl, -⟩ := hx.slice
  obtain ⟨ua, uc, rfl, hul, -⟩ := hy.slice
  obtain ⟨aa, ac, rfl, hal, -⟩ := ha.slice
  clear hr hx hy ha hT
  have b0 : decide (12 < ws.length) = false := by rw [decide_eq_false_iff_not]; omega
  have b0' : decide ((12 : Int) < (ws.length : Int)) = false := by rw [decide_eq_false_iff_not]; omega
  have b1 : decide (6 < xs.length) = true := by simpa using h1
  have b1' : decide ((6 : Int) < (xs.length : Int)) = true := by simp; omega
  clear h0 h1
  go_enter Tryd.func3, Tryd.ntmps3
  go_wp2_with fail
  generalize w.alloc (.cells #[.int .i64 p, .slice sa ws.length sc, .slice wa xs.length wc, .slice ua ys.length uc, .int .i64 (s 0), .int .i64 (s 1), .int .i64 (s 2), .int .i64 (s 3), .int .i64 (s 4), .int .i64 (s 5)] 29) = W at HD ⊢
  refine (awake_any W).mono ?_
  rintro e W1 ⟨rfl, hb1⟩
  have HD1 := Lib.hid (HD.out.later hb1)
  clear hb1 HD
  obtain ⟨hc0, hc1, hc2, hc3⟩ := HD1.out.cells
  go_wp2_with fail
  go_ret
  exact ⟨rfl, HD1.out.below⟩
set_option maxRecDepth 100000 in
set_option maxHeartbeats 4000000 in
theorem law_early2 (p : Int) (ws : List Wk) (sv : Value) (xs : List Wi) (wv : Value) (ys : List Ul) (uv : Value) (s : Nat → Int) (at_ : List Int) (av : Value) (w : World)
    (hr : RdL 3 encW w sv ws) (hx : RdL 2 encWi w wv xs) (hy : RdL 2 encUl w uv ys) (ha : rd16 w av at_) (hT : Tab w)
    (h0 : ¬ 12 < ws.length) (h1 : ¬ 6 < xs.length) (h2 : 10 < ys.length) : Calls Tryd.prog 3 #[.agg #[.int .i64 p, sv, wv, uv, .int .i64 (s 0), .int .i64 (s 1), .int .i64 (s 2), .int .i64 (s 3), .int .i64 (s 4), .int .i64 (s 5)], av] w (LawPost w) := by
  have HD := Lib.hid (DyAt.start (p := p) (s := s) hr hx hy ha hT)
  obtain ⟨sa, sc, rfl, hsl, -⟩ := hr.slice
  obtain ⟨wa, wc, rfl, hwl, -⟩ := hx.slice
  obtain ⟨ua, uc, rfl, hul, -⟩ := hy.slice
  obtain ⟨aa, ac, rfl, hal, -⟩ := ha.slice
  clear hr hx hy ha hT
  have b0 : decide (12 < ws.length) = false := by rw [decide_eq_false_iff_not]; omega
  have b0' : decide ((12 : Int) < (ws.length : Int)) = false := by rw [decide_eq_false_iff_not]; omega
  have b1 : decide (6 < xs.length) = false := by rw [decide_eq_false_iff_not]; omega
  have b1' : decide ((6 : Int) < (xs.length : Int)) = false := by rw [decide_eq_false_iff_not]; omega
  have b2 : decide (10 < ys.length) = true := by simpa using h2
  have b2' : decide ((10 : Int) < (ys.length : Int)) = true := by simp; omega
  clear h0 h1 h2
  go_enter Tryd.func3, Tryd.ntmps3
  go_wp2_with fail
  generalize w.alloc (.cells #[.int .i64 p, .slice sa ws.length sc, .slice wa xs.length wc, .slice ua ys.length uc, .int .i64 (s 0), .int .i64 (s 1), .int .i64 (s 2), .int .i64 (s 3), .int .i64 (s 4), .int .i64 (s 5)] 29) = W at HD ⊢
  refine (awake_any W).mono ?_
  rintro e W1 ⟨rfl, hb1⟩
  have HD1 := Lib.hid (HD.out.later hb1)
  clear hb1 HD
  obtain ⟨hc0, hc1, hc2, hc3⟩ := HD1.out.cells
  go_wp2_with fail
  go_ret
  exact ⟨rfl, HD1.out.below⟩
set_option maxRecDepth 100000 in
set_option maxHeartbeats 4000000 in
theorem law_early3 (p : Int) (ws : List Wk) (sv : Value) (xs : List Wi) (wv : Value) (ys : List Ul) (uv : Value) (s : Nat → Int) (at_ : List Int) (av : Value) (w : World)
    (hr : RdL 3 encW w sv ws) (hx : RdL 2 encWi w wv xs) (hy : RdL 2 encUl w uv ys) (ha : rd16 w av at_) (hT : Tab w)
    (h0 : ¬ 12 < ws.length) (h1 : ¬ 6 < xs.length) (h2 : ¬ 10 < ys.length) (h3 : 100 < at_.length) : Calls Tryd.prog 3 #[.agg #[.int .i64 p, sv, wv, uv, .int .i64 (s 0), .int .i64 (s 1), .int .i64 (s 2), .int .i64 (s 3), .int .i64 (s 4), .int .i64 (s 5)], av] w (LawPost w) := by
  have HD := Lib.hid (DyAt.start (p := p) (s := s) hr hx hy ha hT)
  obtain ⟨sa, sc, rfl, hsl, -⟩ := hr.slice
  obtain ⟨wa, wc, rfl, hwl, -⟩ := hx.slice
  obtain ⟨ua, uc, rfl, hul, -⟩ := hy.slice
  obtain ⟨aa, ac, rfl, hal, -⟩ := ha.slice
  clear hr hx hy ha hT
  have b0 : decide (12 < ws.length) = false := by rw [decide_eq_false_iff_not]; omega
  have b0' : decide ((12 : Int) < (ws.length : Int)) = false := by rw [decide_eq_false_iff_not]; omega
  have b1 : decide (6 < xs.length) = false := by rw [decide_eq_false_iff_not]; omega
  have b1' : decide ((6 : Int) < (xs.length : Int)) = false := by rw [decide_eq_false_iff_not]; omega
  have b2 : decide (10 < ys.length) = false := by rw [decide_eq_false_iff_not]; omega
  have b2' : decide ((10 : Int) < (ys.length : Int)) = false := by rw [decide_eq_false_iff_not]; omega
  have b3 : decide (100 < at_.length) = true := by simpa using h3
  have b3' : decide ((100 : Int) < (at_.length : Int)) = true := by simp; omega
  clear h0 h1 h2 h3
  go_enter Tryd.func3, Tryd.ntmps3
  go_wp2_with fail
  generalize w.alloc (.cells #[.int .i64 p, .slice sa ws.length sc, .slice wa xs.length wc, .slice ua ys.length uc, .int .i64 (s 0), .int .i64 (s 1), .int .i64 (s 2), .int .i64 (s 3), .int .i64 (s 4), .int .i64 (s 5)] 29) = W at HD ⊢
  refine (awake_any W).mono ?_
  rintro e W1 ⟨rfl, hb1⟩
  have HD1 := Lib.hid (HD.out.later hb1)
  clear hb1 HD
  obtain ⟨hc0, hc1, hc2, hc3⟩ := HD1.out.cells
  go_wp2_with fail
  go_ret
  exact ⟨rfl, HD1.out.below⟩
set_option maxRecDepth 100000 in
set_option maxHeartbeats 4000000 in
theorem law_early4 (p : Int) (ws : List Wk) (sv : Value) (xs : List Wi) (wv : Value) (ys : List Ul) (uv : Value) (s : Nat → Int) (at_ : List Int) (av : Value) (w : World)
    (hr : RdL 3 encW w sv ws) (hx : RdL 2 encWi w wv xs) (hy : RdL 2 encUl w uv ys) (ha : rd16 w av at_) (hT : Tab w)
    (h0 : ¬ 12 < ws.length) (h1 : ¬ 6 < xs.length) (h2 : ¬ 10 < ys.length) (h3 : ¬ 100 < at_.length) (h4 : 4 < p) : Calls Tryd.prog 3 #[.agg #[.int .i64 p, sv, wv, uv, .int .i64 (s 0), .int .i64 (s 1), .int .i64 (s 2), .int .i64 (s 3), .int .i64 (s 4), .int .i64 (s 5)], av] w (LawPost w) := by
  have HD := Lib.hid (DyAt.start (p := p) (s := s) hr hx hy ha hT)
  obtain ⟨sa, sc, rfl, hsl, -⟩ := hr.slice
  obtain ⟨wa, wc, rfl, hwl, -⟩ := hx.slice
  obtain ⟨ua, uc, rfl, hul, -⟩ := hy.slice
  obtain ⟨aa, ac, rfl, hal, -⟩ := ha.slice
  clear hr hx hy ha hT
  have b0 : decide (12 < ws.length) = false := by rw [decide_eq_false_iff_not]; omega
  have b0' : decide ((12 : Int) < (ws.length : Int)) = false := by rw [decide_eq_false_iff_not]; omega
  have b1 : decide (6 < xs.length) = false := by rw [decide_eq_false_iff_not]; omega
  have b1' : decide ((6 : Int) < (xs.length : Int)) = false := by rw [decide_eq_false_iff_not]; omega
  have b2 : decide (10 < ys.length) = false := by rw [decide_eq_false_iff_not]; omega
  have b2' : decide ((10 : Int) < (ys.length : Int)) = false := by rw [decide_eq_false_iff_not]; omega
  have b3 : decide (100 < at_.length) = false := by rw [decide_eq_false_iff_not]; omega
  have b3' : decide ((100 : Int) < (at_.length : Int)) = false := by rw [decide_eq_false_iff_not]; omega
  clear h0 h1 h2 h3
  have b4 : decide (4 < p) = true := by simpa using h4
  go_enter Tryd.func3, Tryd.ntmps3
  go_wp2_with fail
  generalize w.alloc (.cells #[.int .i64 p, .slice sa ws.length sc, .slice wa xs.length wc, .slice ua ys.length uc, .int .i64 (s 0), .int .i64 (s 1), .int .i64 (s 2), .int .i64 (s 3), .int .i64 (s 4), .int .i64 (s 5)] 29) = W at HD ⊢
  refine (awake_any W).mono ?_
  rintro e W1 ⟨rfl, hb1⟩
  have HD1 := Lib.hid (HD.out.later hb1)
  clear hb1 HD
  obtain ⟨hc0, hc1, hc2, hc3⟩ := HD1.out.cells
  go_wp2_with fail
  go_ret
  exact ⟨rfl, HD1.out.below⟩
end Go.Proofs.YtepofpnbgbmihaaDoor

/-
  The reference's check: what it accepts is a valid sheet.
-/
namespace Go.Proofs.YtepofpnbgbmihaaDoor
open Go.RowKit

def HasByte (s : ByteArray) (b : UInt8) : Prop := s.data.toList.contains b = true
def GoodWord (s : ByteArray) : Prop := s.size ≤ 16 ∧ ∀ k, (h : k < s.size) → L9.contains s[k] = true

set_option maxHeartbeats 400000 in
theorem index_any (s : ByteArray) (b : UInt8) (w : World) (hs : s.size ≤ 9223372036854775807) :
    Calls Tryd.prog 37 #[.string s, .int .u8 b.toNat] w fun e w' => (∃ n : Int, e = .returned (.int .i64 n) ∧ (0 ≤ n → HasByte s b)) ∧ w' = w := by
  go_enter Tryd.func37, Tryd.ntmps37
  go_wp2
  go_loop [5] (fun i => ∃ k : Nat, k ≤ s.size ∧ i = .int .i64 k) (fun i => s.size - (intOf i).toNat)
  case atStart => exact ⟨0, Nat.zero_le _, rfl⟩
  case round =>
    obtain ⟨k, hk, rfl⟩ := hrel
    by_cases hlt : k < s.size
    · by_cases hb : s[k] = b
      · have ht : ((s[k].toNat : Int) == (b.toNat : Int)) = true := by rw [hb]; simp
        have hm : HasByte s b := by
          unfold HasByte
          rw [List.contains_iff_mem, ← hb]
          exact Array.getElem_mem_toList (by simpa using hlt)
        have HM := Lib.hid hm
        clear hb hm
        go_wp2
        go_ret
        exact ⟨⟨_, rfl, fun _ => HM.out⟩, rfl⟩
      · have ht : ((s[k].toNat : Int) == (b.toNat : Int)) = false := by
          rw [beq_eq_false_iff_ne]
          intro h
          exact hb (UInt8.toNat_inj.1 (by omega))
        clear hb
        go_wp2
        go_round
        case rel => exact ⟨k + 1, by omega, by go_num⟩
        case measure => first | (simp [intOf]; done) | (simp [intOf]; omega)
    · go_wp2
      go_ret
      exact ⟨⟨_, rfl, fun h => by omega⟩, rfl⟩

set_option maxHeartbeats 400000 in
theorem refStCheck_any (s : ByteArray) (w : World) (hs : s.size ≤ 9223372036854775807) :
    Calls Tryd.prog 15 #[.string s] w fun e w' => (∃ n : Int, e = .returned (.int .i64 n) ∧ 0 ≤ n ∧ (n = 0 → GoodWord s)) ∧ w' = w := by
  have hi := fun (b : UInt8) (W : World) => index_any { data := #[67, 84, 76, 82, 80, 99, 116, 108, 114] } b W (by decide)
  have HI := Lib.hid hi
  clear hi
  by_cases h16 : 16 < s.size
  · go_enter Tryd.func15, Tryd.ntmps15
    go_wp2
    go_ret
    exact ⟨⟨_, rfl, by omega, fun h => by omega⟩, rfl⟩
  · go_enter Tryd.func15, Tryd.ntmps15
    go_wp2
    go_loop [3] (fun i => ∃ k : Nat, k ≤ s.size ∧ i = .int .i64 k ∧ Hid (∀ j, (h : j < s.size) → j < k → L9.contains s[j] = true)) (fun i => s.size - (intOf i).toNat)
    case atStart => exact ⟨0, Nat.zero_le _, rfl, fun j _ h => by omega⟩
    case round =>
      obtain ⟨k, hk, rfl, ha⟩ := hrel
      by_cases hlt : k < s.size
      · go_wp2_with (go_at_call 37; refine (HI.out _ _).mono ?_; rintro e w' ⟨⟨n, rfl, hn⟩, rfl⟩; have HN := Lib.hid hn; clear hn)
        · go_ret
          exact ⟨⟨_, rfl, by omega, fun h => by omega⟩, rfl⟩
        · have hge : 0 ≤ n := by assumption
          go_round
          case rel =>
            refine ⟨k + 1, by omega, by go_num, fun j hj hjk => ?_⟩
            by_cases e : j = k
            · subst e; exact HN.out hge
            · exact ha.out j hj (by omega)
          case measure => first | (simp [intOf]; done) | (simp [intOf]; omega)
      · go_wp2
        go_ret
        exact ⟨⟨_, rfl, by omega, fun _ => ⟨by omega, fun j hj => ha.out j hj (by omega)⟩⟩, rfl⟩
end Go.Proofs.YtepofpnbgbmihaaDoor

/-
  The reference's check of a sheet: what it accepts is valid.
-/
namespace Go.Proofs.YtepofpnbgbmihaaDoor
open Go.RowKit

def OkKind (p : Int) (x : Wk) : Prop := (x.kind = 1 ∨ (x.kind = 2 ∧ x.word.size = 0)) ∧ 0 ≤ x.at_ ∧ x.at_ ≤ p - 2
theorem empty_of {w : ByteArray} (h : w.size = 0) : w = ByteArray.empty := by
  obtain ⟨⟨l⟩⟩ := w
  cases l with
  | nil => rfl
  | cons c l => simp [ByteArray.size] at h

theorem isEmpty_no {w : ByteArray} (h : w.size ≠ 0) : w.toList.isEmpty = false := by
  rw [List.isEmpty_eq_false_iff]
  intro hl
  apply h
  have h2 : w.data.toList = [] := by rw [← ByteArray.toList_eq]; exact hl
  show w.data.size = 0
  rw [← Array.length_toList, h2]; rfl

theorem valid_of {p : Int} {ws : List Wk} (h1 : 2 ≤ p) (h2 : p ≤ 24) (h3 : ws.length ≤ 400) (hk : ∀ (i : Nat) (x : Wk), ws[i]? = some x → OkKind p x) (hw : ∀ (i : Nat) (x : Wk), ws[i]? = some x → GoodWord x.word) : Valid ⟨p, ws⟩ :=
  ⟨h1, h2, h3, fun i x hx => ⟨(hk i x hx).1, (hk i x hx).2.1, (hk i x hx).2.2, (hw i x hx).1, (hw i x hx).2⟩⟩

def OkPost (p : Int) (ws : List Wk) (n : Int) : Prop := 0 ≤ n ∧ (n = 0 → Valid ⟨p, ws⟩)
theorem okPost_no {p : Int} {ws : List Wk} {n : Int} (h : 1 ≤ n) : OkPost p ws n := ⟨by omega, fun h0 => by omega⟩

set_option maxHeartbeats 4000000 in
set_option maxRecDepth 100000 in
theorem refShCheck_any (p : Int) (ws : List Wk) (v : Value) (w : World) (hr : RdL 3 encW w v ws) :
    Calls Tryd.prog 5 #[.agg #[.int .i64 p, v]] w fun e w' => (∃ n : Int, e = .returned (.int .i64 n) ∧ OkPost p ws n) ∧ Below w.heap.size w w' := by
  obtain ⟨a, c, rfl, hlen, hc⟩ := hr.slice
  have HC := Lib.hid hc
  clear hc hr
  have HB1 : Hid (Below w.heap.size w (w.alloc (.cells #[.int .i64 p, .slice a ws.length c] 24))) := (Below.refl _ _).alloc (Nat.le_refl _) _
  by_cases h24 : 24 < p
  · go_enter Tryd.func5, Tryd.ntmps5
    go_wp2
    go_ret
    exact ⟨⟨_, rfl, okPost_no (by omega)⟩, HB1.out⟩
  by_cases h400 : 400 < ws.length
  · go_enter Tryd.func5, Tryd.ntmps5
    go_wp2
    go_ret
    exact ⟨⟨_, rfl, okPost_no (by omega)⟩, HB1.out⟩
  go_enter Tryd.func5, Tryd.ntmps5
  go_wp2
  go_loop [3] (fun i => ∃ k : Nat, k ≤ ws.length ∧ i = .int .i64 k ∧ Hid (∀ (i : Nat) (x : Wk), ws[i]? = some x → i < k → x.word.size ≤ 16)) (fun i => ws.length - (intOf i).toNat)
  case atStart => exact ⟨0, Nat.zero_le _, rfl, fun i x _ h => by omega⟩
  case round =>
    obtain ⟨k, hk, rfl, HZ⟩ := hrel
    by_cases hlt : k < ws.length
    · obtain ⟨b, off, rfl, hbl, hcell⟩ := HC.out k ws[k] (List.getElem?_eq_getElem hlt)
      obtain ⟨h0, h1, h2⟩ := encW_at hcell
      have HN : Hid (ws[k].word.size ≤ 16 → ∀ (i : Nat) (x : Wk), ws[i]? = some x → i < k + 1 → x.word.size ≤ 16) := fun hok i x hx hik => by
        by_cases e : i = k
        · subst e
          rw [List.getElem?_eq_getElem hlt] at hx
          injection hx with hx
          rw [← hx]; exact hok
        · exact HZ.out i x hx (by omega)
      clear hcell HZ
      generalize ws[k] = x at h0 h1 h2 HN
      go_wp2
      · go_ret
        exact ⟨⟨_, rfl, okPost_no (by omega)⟩, HB1.out⟩
      · go_round
        case rel => exact ⟨k + 1, by omega, by go_num, HN.out (by omega)⟩
        case measure => first | (simp [intOf]; done) | (simp [intOf]; omega)
    · have HZ2 : Hid (∀ (i : Nat) (x : Wk), ws[i]? = some x → x.word.size ≤ 16) := fun i x hx => HZ.out i x hx (by have := (List.getElem?_eq_some_iff.1 hx).1; omega)
      clear HZ
      by_cases h2 : p < 2
      · go_wp2
        go_ret
        exact ⟨⟨_, rfl, okPost_no (by omega)⟩, HB1.out⟩
      go_wp2
      go_loopw [4] (fun i wr => ∃ k : Nat, k ≤ ws.length ∧ i = .int .i64 k ∧ Below (w.heap.size + 1) (w.alloc (.cells #[.int .i64 p, .slice a ws.length c] 24)) wr ∧ Hid (∀ (i : Nat) (x : Wk), ws[i]? = some x → i < k → OkKind p x)) (fun i _ => ws.length - (intOf i).toNat)
      case atStart => exact ⟨0, Nat.zero_le _, rfl, Below.refl _ _, fun i x _ h => by omega⟩
      case round =>
        obtain ⟨k, hk, rfl, hB, HK⟩ := hrel
        have hwr : w.heap.size < wr.heap.size := by have := hB.size; simp at this; omega
        have hs1 : wr.cell? ⟨w.heap.size, 0, none⟩ = some (.int .i64 p) := (hB.cell (p := ⟨w.heap.size, 0, none⟩) (by simp)).trans (by simp [World.cell?_alloc_at])
        have hs2 : wr.cell? ⟨w.heap.size, 1, none⟩ = some (.slice a ws.length c) := (hB.cell (p := ⟨w.heap.size, 1, none⟩) (by simp)).trans (by simp [World.cell?_alloc_at])
        have HB2 : Hid (Below w.heap.size w wr) := HB1.out.trans (hB.mono (by omega))
        by_cases hlt : k < ws.length
        · obtain ⟨b, off, rfl, hbl, hcell⟩ := HC.out.alloc (.cells #[.int .i64 p, .slice a ws.length c] 24) k ws[k] (List.getElem?_eq_getElem hlt)
          have hbl1 : b < w.heap.size + 1 := by simpa using hbl
          obtain ⟨h0, h1, h2⟩ := encW_at (cells_below hB hbl1 hcell)
          have hbl2 : b < wr.heap.size := by omega
          have HN : Hid (OkKind p ws[k] → ∀ (i : Nat) (x : Wk), ws[i]? = some x → i < k + 1 → OkKind p x) := fun hok i x hx hik => by
            by_cases e : i = k
            · subst e
              rw [List.getElem?_eq_getElem hlt] at hx
              injection hx with hx
              rw [← hx]; exact hok
            · exact HK.out i x hx (by omega)
          clear hcell HK HC hbl
          generalize ws[k] = x at h0 h1 h2 HN
          obtain ⟨xk, xa, xw⟩ := x
          dsimp only at h0 h1 h2
          by_cases hk1 : xk = 1
          · subst hk1
            by_cases ha0 : xa < 0
            · skip
              go_wp2
              go_ret
              exact ⟨⟨_, rfl, okPost_no (by omega)⟩, HB2.out.alloc (by omega) _⟩
            by_cases ha1 : p - 2 < xa
            · skip
              go_wp2
              go_ret
              exact ⟨⟨_, rfl, okPost_no (by omega)⟩, HB2.out.alloc (by omega) _⟩
            have HG : Hid (OkKind p ⟨1, xa, xw⟩) := ⟨.inl rfl, Int.not_lt.1 ha0, Int.not_lt.1 ha1⟩
            have HM := Lib.hid (HN.out HG.out)
            clear HN HG
            go_wp2
            go_roundw
            case rel => exact ⟨k + 1, by omega, by go_num, hB.alloc (by omega) _, HM.out⟩
            case measure => first | (simp [intOf]; done) | (simp [intOf]; omega)
          by_cases hk2 : xk = 2
          · subst hk2
            by_cases ha0 : xa < 0
            · skip
              go_wp2
              go_ret
              exact ⟨⟨_, rfl, okPost_no (by omega)⟩, HB2.out.alloc (by omega) _⟩
            by_cases ha1 : p - 2 < xa
            · skip
              go_wp2
              go_ret
              exact ⟨⟨_, rfl, okPost_no (by omega)⟩, HB2.out.alloc (by omega) _⟩
            by_cases hw0 : xw.size = 0
            · obtain rfl := empty_of hw0
              clear hw0
              have HG : Hid (OkKind p ⟨2, xa, ByteArray.empty⟩) := ⟨.inr ⟨rfl, rfl⟩, Int.not_lt.1 ha0, Int.not_lt.1 ha1⟩
              have HM := Lib.hid (HN.out HG.out)
              clear HN HG
              go_wp2
              go_roundw
              case rel => exact ⟨k + 1, by omega, by go_num, hB.alloc (by omega) _, HM.out⟩
              case measure => first | (simp [intOf]; done) | (simp [intOf]; omega)
            have hwe := isEmpty_no hw0
            clear hw0
            go_wp2
            go_ret
            exact ⟨⟨_, rfl, okPost_no (by omega)⟩, HB2.out.alloc (by omega) _⟩
          have t1 : (xk == 1) = false := by simpa using hk1
          have t2 : (xk == 2) = false := by simpa using hk2
          have t3 : (xk != 1) = true := by simpa using hk1
          have t4 : (xk != 2) = true := by simpa using hk2
          clear hk1 hk2
          go_wp2
          go_ret
          exact ⟨⟨_, rfl, okPost_no (by omega)⟩, HB2.out.alloc (by omega) _⟩
        · have HK2 : Hid (∀ (i : Nat) (x : Wk), ws[i]? = some x → OkKind p x) := fun i x hx => HK.out i x hx (by have := (List.getElem?_eq_some_iff.1 hx).1; omega)
          have HC2 : Hid (RdA 3 encW wr a ws) := (HC.out.alloc _).later (hB.mono (by simp))
          clear HK HC HB1 hB
          go_wp2
          go_loop [6] (fun i => ∃ k : Nat, k ≤ ws.length ∧ i = .int .i64 k ∧ Hid (∀ (i : Nat) (x : Wk), ws[i]? = some x → i < k → GoodWord x.word)) (fun i => ws.length - (intOf i).toNat)
          case atStart => exact ⟨0, Nat.zero_le _, rfl, fun i x _ h => by omega⟩
          case round =>
            obtain ⟨k, hk, rfl, HW⟩ := hrel
            by_cases hlt : k < ws.length
            · obtain ⟨b, off, rfl, hbl, hcell⟩ := HC2.out k ws[k] (List.getElem?_eq_getElem hlt)
              obtain ⟨h0, h1, h2⟩ := encW_at hcell
              have HN : Hid (GoodWord ws[k].word → ∀ (i : Nat) (x : Wk), ws[i]? = some x → i < k + 1 → GoodWord x.word) := fun hok i x hx hik => by
                by_cases e : i = k
                · subst e
                  rw [List.getElem?_eq_getElem hlt] at hx
                  injection hx with hx
                  rw [← hx]; exact hok
                · exact HW.out i x hx (by omega)
              have hwz := HZ2.out k ws[k] (List.getElem?_eq_getElem hlt)
              clear hcell HW HC2
              generalize ws[k] = x at h0 h1 h2 HN hwz
              obtain ⟨xk, xa, xw⟩ := x
              dsimp only at h0 h1 h2 hwz HN
              have hck := fun W => refStCheck_any xw W (by omega)
              have HK := Lib.hid hck
              clear hck
              go_wp2_with (go_at_call 15; refine (HK.out _).mono ?_; rintro e w' ⟨⟨n, rfl, hn0, hn⟩, rfl⟩; have HG := Lib.hid hn; clear hn)
              · go_ret
                exact ⟨⟨_, rfl, okPost_no (by omega)⟩, HB2.out⟩
              · have hn : (n != 0) = false := by assumption
                go_round
                case rel => exact ⟨k + 1, by omega, by go_num, HN.out (HG.out (by simpa using hn))⟩
                case measure => first | (simp [intOf]; done) | (simp [intOf]; omega)
            · have HV : Hid (Valid ⟨p, ws⟩) := valid_of (by omega) (by omega) (by omega) HK2.out (fun i x hx => HW.out i x hx (by have := (List.getElem?_eq_some_iff.1 hx).1; omega))
              clear HW HK2 HC2
              go_wp2
              go_ret
              exact ⟨⟨_, rfl, by omega, fun _ => HV.out⟩, HB2.out⟩
end Go.Proofs.YtepofpnbgbmihaaDoor

/-
  The law, from its beginning to the loops: the way on which all is well.
-/
namespace Go.Proofs.YtepofpnbgbmihaaDoor
open Go.RowKit Go.Shelf Go.Proofs.YtepofpnbgbmihaaDoorW.PrintLast
set_option linter.unusedSimpArgs false
set_option linter.unusedVariables false

theorem made_row (N : Nat) : madeCells #[.int .i64 0] N = rowN N (fun _ => 0) := by
  apply Array.ext_getElem?
  intro i
  by_cases h : i < N
  · rw [rowN_get _ _ _ h, Array.getElem?_eq_getElem (by simpa [size_madeCells] using h)]
    simp [madeCells, Nat.mod_one]
  · rw [rowN_none _ _ _ h, Array.getElem?_eq_none_iff.2 (by simpa [size_madeCells] using h)]
theorem make_ints (N : Nat) (hN : N ≤ 1000000) (W : World) : (Instr.makeSlice 35 (.int .i64 (N : Int)) (.int .i64 (N : Int))).run Tryd.prog W = .ok (.slice (some ⟨W.heap.size, 0, none⟩) N N) (W.alloc (.cells (rowN N fun _ => 0) 3)) := by
  obtain ⟨i0, hi, hz0, hz1, hz2⟩ := info_parts info_int
  have h := run_make_rowN (P := Tryd.prog) 35 3 i0 _ Tryd.underlying35 hi hz0 .i64 .i64 N N (Nat.le_refl _) (by rw [hz2]; omega) (by omega) W
  rw [hz1, Nat.mul_one] at h
  rw [← made_row]
  exact h

set_option maxRecDepth 100000 in
set_option maxHeartbeats 8000000 in
theorem law_main (p : Int) (ws : List Wk) (sv : Value) (xs : List Wi) (wv : Value) (ys : List Ul) (uv : Value) (s : Nat → Int) (at_ : List Int) (av : Value) (w : World)
    (hr : RdL 3 encW w sv ws) (hx : RdL 2 encWi w wv xs) (hy : RdL 2 encUl w uv ys) (ha : rd16 w av at_) (hT : Tab w)
    (h0 : ¬ 12 < ws.length) (h1 : ¬ 6 < xs.length) (h2 : ¬ 10 < ys.length) (h3 : ¬ 100 < at_.length) (h4 : ¬ 4 < p) (ha0 : ∀ (i : Nat) (x : Int), at_[i]? = some x → 0 ≤ x ∧ x < 65536) (hxa : ∀ (i : Nat) (x : Wi), xs[i]? = some x → -9223372036854775808 ≤ x.cross ∧ x.cross ≤ 9223372036854775807 ∧ 0 ≤ x.al ∧ x.al < 256)
    (hya : ∀ (i : Nat) (x : Ul), ys[i]? = some x → 0 ≤ x.a ∧ x.a < 65536 ∧ 0 ≤ x.b ∧ x.b < 65536) : Calls Tryd.prog 3 #[.agg #[.int .i64 p, sv, wv, uv, .int .i64 (s 0), .int .i64 (s 1), .int .i64 (s 2), .int .i64 (s 3), .int .i64 (s 4), .int .i64 (s 5)], av] w (LawPost w) := by
  have HD := Lib.hid (DyAt.start (p := p) (s := s) hr hx hy ha hT)
  obtain ⟨sa, sc, rfl, hsl, -⟩ := hr.slice
  obtain ⟨wa, wc, rfl, hwl, -⟩ := hx.slice
  obtain ⟨ua, uc, rfl, hul, -⟩ := hy.slice
  obtain ⟨aa, ac, rfl, hal, -⟩ := ha.slice
  clear hr hx hy ha hT
  have b0 : decide (12 < ws.length) = false := by rw [decide_eq_false_iff_not]; omega
  have b0' : decide ((12 : Int) < (ws.length : Int)) = false := by rw [decide_eq_false_iff_not]; omega
  have b1 : decide (6 < xs.length) = false := by rw [decide_eq_false_iff_not]; omega
  have b1' : decide ((6 : Int) < (xs.length : Int)) = false := by rw [decide_eq_false_iff_not]; omega
  have b2 : decide (10 < ys.length) = false := by rw [decide_eq_false_iff_not]; omega
  have b2' : decide ((10 : Int) < (ys.length : Int)) = false := by rw [decide_eq_false_iff_not]; omega
  have b3 : decide (100 < at_.length) = false := by rw [decide_eq_false_iff_not]; omega
  have b3' : decide ((100 : Int) < (at_.length : Int)) = false := by rw [decide_eq_false_iff_not]; omega
  have b4 : decide (4 < p) = false := by simpa using h4
  have hw12 : ws.length ≤ 12 := by omega
  have hx6 : xs.length ≤ 6 := by omega
  have hy10 : ys.length ≤ 10 := by omega
  have hat : at_.length ≤ 100 := by omega
  have hp4 : p ≤ 4 := by omega
  have HXA := Lib.hid hxa
  have HYA := Lib.hid hya
  have HA0 := Lib.hid ha0
  clear h0 h1 h2 h3 h4 hxa hya ha0
  go_enter Tryd.func3, Tryd.ntmps3
  show (sndK 0 lawBody).wp _ _ _ _
  refine part_step (k := 0) (by kernel_rfl) fun K hK => ?_
  conv => arg 2; whnf
  go_wp2_with fail
  generalize w.alloc (.cells #[.int .i64 p, .slice sa ws.length sc, .slice wa xs.length wc, .slice ua ys.length uc, .int .i64 (s 0), .int .i64 (s 1), .int .i64 (s 2), .int .i64 (s 3), .int .i64 (s 4), .int .i64 (s 5)] 29) = W at HD ⊢
  refine part_step (k := 1) (by kernel_rfl) fun K hK => ?_
  conv => arg 2; whnf
  go_wp2_with fail
  refine (awake_any W).mono ?_
  rintro e W1 ⟨rfl, hb1⟩
  have HD1 := Lib.hid (HD.out.later hb1)
  clear hb1 HD
  go_wp2_with fail
  refine part_step (k := 2) (by kernel_rfl) fun K hK => ?_
  conv => arg 2; whnf
  obtain ⟨hc0, hc1, hc2, hc3⟩ := HD1.out.cells
  go_wp2_with fail
  refine (refShCheck_any p ws _ W1 HD1.out.sr).mono ?_
  rintro e W2 ⟨⟨n, rfl, hok⟩, hb2⟩
  have HD2 := Lib.hid (HD1.out.later hb2)
  clear hb2 HD1 hc0 hc1 hc2 hc3
  by_cases hn : n = 0
  · subst hn
    have hV := hok.2 rfl
    clear hok
    go_wp2_with fail
    clear b0 b0' b1 b1' b2 b2' b3 b3' b4
    refine part_step (k := 3) (by kernel_rfl) fun K hK => ?_
    conv => arg 2; whnf
    obtain ⟨hc0, hc1, hc2, hc3⟩ := HD2.out.cells
    go_wp2_with fail
    refine (shuffled_any p ws _ at_ _ W2 hV HD2.out.sr HD2.out.ar hat HA0.out).mono ?_
    rintro e W3 ⟨v2, ws2, rfl, hSh, hown2, hb3⟩
    have HD3 := Lib.hid (HD2.out.later hb3)
    have HO2 := Lib.hid (hown2.rd encW_len)
    obtain ⟨sa2, sc2, rfl, -⟩ := hown2.slice
    have hl2 : ws2.length = ws.length := hSh.len
    rw [hl2] at HO2
    have HSH := Lib.hid hSh
    have HL2 := Lib.hid hl2
    rw [hl2]
    clear hb3 HD2 hown2 hc0 hc1 hc2 hc3 hSh hl2
    go_wp2_with fail
    have bA : Below W3.heap.size W3 (W3.alloc (.cells #[.int .i64 p, .slice sa2 ws.length sc2] 24)) := (Below.refl _ _).alloc (Nat.le_refl _) _
    have HD4 := Lib.hid (HD3.out.later bA)
    have HO4 := Lib.hid (HO2.out.later bA)
    have HS4 := Lib.hid (World.alloc_heap_new W3 (.cells #[.int .i64 p, .slice sa2 ws.length sc2] 24))
    clear bA HD3 HO2
    generalize W3.alloc (.cells #[.int .i64 p, .slice sa2 ws.length sc2] 24) = W4 at HD4 HO4 HS4 ⊢
    generalize W3.heap.size = S2 at HS4 ⊢
    have hV2 := valid_shuf hV HSH.out
    obtain ⟨out, tM, hM, hS⟩ := same_of hV HSH.out
    have hMt := fun W h1 h2 => Match_any ⟨p, ws⟩ ⟨p, ws2⟩ (.slice sa ws.length sc) (.slice sa2 ws.length sc2) (toI out) W hV hV2 rfl HL2.out h1 h2 hM
    have HMT := Lib.hid hMt
    have HV := Lib.hid hV
    have HV2 := Lib.hid hV2
    have HS := Lib.hid hS
    have hol : out.length = ws.length := hS.outl
    have HOL := Lib.hid hol
    clear hM hMt hV hV2 hS hol
    refine part_step (k := 4) (by kernel_rfl) fun K hK => ?_
    conv => arg 2; whnf
    obtain ⟨hc0, hc1, hc2, hc3⟩ := HD4.out.cells
    have hs0 : W4.cell? ⟨S2, 0, none⟩ = some (.int .i64 p) := by rw [cell_of_row _ _ 0 _ _ _ HS4.out]; rfl
    have hs1 : W4.cell? ⟨S2, 1, none⟩ = some (.slice sa2 ws.length sc2) := by rw [cell_of_row _ _ 1 _ _ _ HS4.out]; rfl
    go_wp2_with fail
    refine (HMT.out W4 HD4.out.sr HO4.out).mono ?_
    rintro e W5 ⟨⟨ov, rfl, hov⟩, hb5⟩
    have HD5 := Lib.hid (HD4.out.later hb5)
    have HO5 := Lib.hid (HO4.out.later hb5)
    have HS5 := Lib.hid ((hb5.block _ (Array.getElem?_eq_some_iff.1 HS4.out).1).trans HS4.out)
    have hor := hov.rd encI_len
    obtain ⟨oa, oc, rfl, -⟩ := hov.slice
    have htl : (toI out).length = ws.length := by unfold toI; rw [List.length_map]; exact HOL.out
    rw [htl] at hor
    have HOR := Lib.hid hor
    rw [htl]
    clear hb5 HD4 HO4 HS4 hc0 hc1 hc2 hc3 hs0 hs1 hov hor htl HMT
    go_wp2_with fail
    refine part_step (k := 5) (by kernel_rfl) fun K hK => ?_
    conv => arg 2; whnf
    have hmk1 := fun W h => make_any ⟨p, ws⟩ (.slice sa ws.length sc) W HV.out h
    have hmk2 := fun W h => make_any ⟨p, ws2⟩ (.slice sa2 ws.length sc2) W HV2.out h
    have hck1 := cloth_ok ⟨p, ws⟩ HV.out
    have hck2 := cloth_ok ⟨p, ws2⟩ HV2.out
    try dsimp only at hmk1 hmk2 hck1 hck2
    have hcw1 : ∀ (i : Nat) (x : Crs), (mkTo ws ws.length).cs[i]? = some x → 0 ≤ x.work ∧ x.work < (ws.length : Int) := fun i x h => ⟨((mkTo_ok ⟨p, ws⟩ HV.out ws.length).1.cr x (List.mem_of_getElem? h)).1.work, ((mkTo_ok ⟨p, ws⟩ HV.out ws.length).1.cr x (List.mem_of_getElem? h)).2⟩
    have hcw2 : ∀ (i : Nat) (x : Crs), (mkTo ws2 ws2.length).cs[i]? = some x → 0 ≤ x.work ∧ x.work < (ws2.length : Int) := fun i x h => ⟨((mkTo_ok ⟨p, ws2⟩ HV2.out ws2.length).1.cr x (List.mem_of_getElem? h)).1.work, ((mkTo_ok ⟨p, ws2⟩ HV2.out ws2.length).1.cr x (List.mem_of_getElem? h)).2⟩
    have hsn := HS.out
    try dsimp only at hsn
    generalize (mkTo ws ws.length).cs = cs1 at hmk1 hck1 hcw1 hsn
    generalize (mkTo ws ws.length).ps = ps1 at hmk1 hck1
    generalize (mkTo ws2 ws2.length).cs = cs2 at hmk2 hck2 hcw2 hsn
    generalize (mkTo ws2 ws2.length).ps = ps2 at hmk2 hck2
    have hN : (((2 * p).toNat : Nat) : Int) = 2 * p := by have h : 2 ≤ p := HV.out.lo; omega
    rw [← hN] at hmk1 hmk2
    have hN16 : (2 * p).toNat ≤ 16 := by omega
    generalize (2 * p).toNat = N at hmk1 hmk2 hck1 hck2 hN16
    have HMK1 := Lib.hid hmk1
    have HMK2 := Lib.hid hmk2
    have HCK1 := Lib.hid hck1
    have HCK2 := Lib.hid hck2
    have HCW1 := Lib.hid hcw1
    have HCW2 := Lib.hid hcw2
    have HSM := Lib.hid hsn
    clear hmk1 hmk2 hck1 hck2 hcw1 hcw2 hsn hN HS
    obtain ⟨hc0, hc1, hc2, hc3⟩ := HD5.out.cells
    go_wp2_with fail
    refine (HMK1.out W5 HD5.out.sr).mono ?_
    rintro e W6 ⟨⟨cv1, pv1, rfl, hx1, hq1⟩, hb6⟩
    have HD6 := Lib.hid (HD5.out.later hb6)
    have HO6 := Lib.hid (HO5.out.later hb6)
    have HS6 := Lib.hid ((hb6.block _ (Array.getElem?_eq_some_iff.1 HS5.out).1).trans HS5.out)
    have HOR6 := Lib.hid (HOR.out.later hb6)
    have HX6 := Lib.hid (hx1.rd encX_len)
    have HP6 := Lib.hid (hq1.rd encP_len)
    obtain ⟨ca1, cc1, rfl, -⟩ := hx1.slice
    obtain ⟨pa1, pc1, rfl, -⟩ := hq1.slice
    clear hb6 HD5 HO5 HS5 HOR hx1 hq1 hc0 hc1 hc2 hc3 HMK1
    go_wp2_with fail
    have bB : Below W6.heap.size W6 (W6.alloc (.cells #[.int .i64 (N : Int), .slice ca1 cs1.length cc1, .slice pa1 ps1.length pc1] 41)) := (Below.refl _ _).alloc (Nat.le_refl _) _
    have HD7 := Lib.hid (HD6.out.later bB)
    have HO7 := Lib.hid (HO6.out.later bB)
    have HS7 := Lib.hid ((bB.block _ (Array.getElem?_eq_some_iff.1 HS6.out).1).trans HS6.out)
    have HOR7 := Lib.hid (HOR6.out.later bB)
    have HX7 := Lib.hid (HX6.out.later bB)
    have HP7 := Lib.hid (HP6.out.later bB)
    have HA7 := Lib.hid (World.alloc_heap_new W6 (.cells #[.int .i64 (N : Int), .slice ca1 cs1.length cc1, .slice pa1 ps1.length pc1] 41))
    clear bB HD6 HO6 HS6 HOR6 HX6 HP6
    generalize W6.alloc (.cells #[.int .i64 (N : Int), .slice ca1 cs1.length cc1, .slice pa1 ps1.length pc1] 41) = W7 at HD7 HO7 HS7 HOR7 HX7 HP7 HA7 ⊢
    generalize W6.heap.size = A at HA7 ⊢
    refine part_step (k := 6) (by kernel_rfl) fun K hK => ?_
    conv => arg 2; whnf
    have hs0 : W7.cell? ⟨S2, 0, none⟩ = some (.int .i64 p) := by rw [cell_of_row _ _ 0 _ _ _ HS7.out]; rfl
    have hs1 : W7.cell? ⟨S2, 1, none⟩ = some (.slice sa2 ws.length sc2) := by rw [cell_of_row _ _ 1 _ _ _ HS7.out]; rfl
    go_wp2_with fail
    refine (HMK2.out W7 HO7.out).mono ?_
    rintro e W8 ⟨⟨cv2, pv2, rfl, hx2, hq2⟩, hb8⟩
    have HD8 := Lib.hid (HD7.out.later hb8)
    have HS8 := Lib.hid ((hb8.block _ (Array.getElem?_eq_some_iff.1 HS7.out).1).trans HS7.out)
    have HOR8 := Lib.hid (HOR7.out.later hb8)
    have HX8 := Lib.hid (HX7.out.later hb8)
    have HP8 := Lib.hid (HP7.out.later hb8)
    have HA8 := Lib.hid ((hb8.block _ (Array.getElem?_eq_some_iff.1 HA7.out).1).trans HA7.out)
    have HXb8 := Lib.hid (hx2.rd encX_len)
    have HPb8 := Lib.hid (hq2.rd encP_len)
    obtain ⟨ca2, cc2, rfl, -⟩ := hx2.slice
    obtain ⟨pa2, pc2, rfl, -⟩ := hq2.slice
    clear hb8 HD7 HS7 HOR7 HX7 HP7 HA7 HO7 hx2 hq2 hs0 hs1 HMK2
    go_wp2_with fail
    have bC : Below W8.heap.size W8 (W8.alloc (.cells #[.int .i64 (N : Int), .slice ca2 cs2.length cc2, .slice pa2 ps2.length pc2] 41)) := (Below.refl _ _).alloc (Nat.le_refl _) _
    have HD9 := Lib.hid (HD8.out.later bC)
    have HS9 := Lib.hid ((bC.block _ (Array.getElem?_eq_some_iff.1 HS8.out).1).trans HS8.out)
    have HOR9 := Lib.hid (HOR8.out.later bC)
    have HX9 := Lib.hid (HX8.out.later bC)
    have HP9 := Lib.hid (HP8.out.later bC)
    have HA9 := Lib.hid ((bC.block _ (Array.getElem?_eq_some_iff.1 HA8.out).1).trans HA8.out)
    have HXb9 := Lib.hid (HXb8.out.later bC)
    have HPb9 := Lib.hid (HPb8.out.later bC)
    have HB9 := Lib.hid (World.alloc_heap_new W8 (.cells #[.int .i64 (N : Int), .slice ca2 cs2.length cc2, .slice pa2 ps2.length pc2] 41))
    clear bC HD8 HS8 HOR8 HX8 HP8 HA8 HXb8 HPb8
    generalize W8.alloc (.cells #[.int .i64 (N : Int), .slice ca2 cs2.length cc2, .slice pa2 ps2.length pc2] 41) = W9 at HD9 HS9 HOR9 HX9 HP9 HA9 HXb9 HPb9 HB9 ⊢
    generalize W8.heap.size = B at HB9 ⊢
    refine part_step (k := 7) (by kernel_rfl) fun K hK => ?_
    conv => arg 2; whnf
    have hs1 : W9.cell? ⟨S2, 1, none⟩ = some (.slice sa2 ws.length sc2) := by rw [cell_of_row _ _ 1 _ _ _ HS9.out]; rfl
    go_wp2_with fail
    refine part_step (k := 8) (by kernel_rfl) fun K hK => ?_
    conv => arg 2; whnf
    have ha0 : W9.cell? ⟨A, 0, none⟩ = some (.int .i64 (N : Int)) := by rw [cell_of_row _ _ 0 _ _ _ HA9.out]; rfl
    have ha1 : W9.cell? ⟨A, 1, none⟩ = some (.slice ca1 cs1.length cc1) := by rw [cell_of_row _ _ 1 _ _ _ HA9.out]; rfl
    have ha2 : W9.cell? ⟨A, 2, none⟩ = some (.slice pa1 ps1.length pc1) := by rw [cell_of_row _ _ 2 _ _ _ HA9.out]; rfl
    obtain ⟨hc0, hc1, hc2, hc3⟩ := HD9.out.cells
    go_wp2_with fail
    have hN4 : ws.length ≤ 400 := by omega
    have hn1 : cs1.length ≤ 20000 := HCK1.out.nc
    have HN1 := Lib.hid hn1
    refine (crossed_any ws.length (N : Int) _ _ cs1 W9 hN4 (by omega) HX9.out HCW1.out).mono ?_
    rintro e W10 ⟨R1, f1, rfl, hg1, hr1, hb10⟩
    have HD10 := Lib.hid (HD9.out.later hb10)
    have HS10 := Lib.hid ((hb10.block _ (Array.getElem?_eq_some_iff.1 HS9.out).1).trans HS9.out)
    have HOR10 := Lib.hid (HOR9.out.later hb10)
    have HX10 := Lib.hid (HX9.out.later hb10)
    have HP10 := Lib.hid (HP9.out.later hb10)
    have HA10 := Lib.hid ((hb10.block _ (Array.getElem?_eq_some_iff.1 HA9.out).1).trans HA9.out)
    have HXb10 := Lib.hid (HXb9.out.later hb10)
    have HPb10 := Lib.hid (HPb9.out.later hb10)
    have HB10 := Lib.hid ((hb10.block _ (Array.getElem?_eq_some_iff.1 HB9.out).1).trans HB9.out)
    have HR10 := Lib.hid (hr1.lower (Nat.zero_le _))
    clear hb10 HD9 HS9 HOR9 HX9 HP9 HA9 HXb9 HPb9 HB9 hg1 hr1 hs1 ha0 ha1 ha2 hc0 hc1 hc2 hc3
    go_wp2_with fail
    refine part_step (k := 9) (by kernel_rfl) fun K hK => ?_
    conv => arg 2; whnf
    have hs1 : W10.cell? ⟨S2, 1, none⟩ = some (.slice sa2 ws.length sc2) := by rw [cell_of_row _ _ 1 _ _ _ HS10.out]; rfl
    have ha0 : W10.cell? ⟨B, 0, none⟩ = some (.int .i64 (N : Int)) := by rw [cell_of_row _ _ 0 _ _ _ HB10.out]; rfl
    have ha1 : W10.cell? ⟨B, 1, none⟩ = some (.slice ca2 cs2.length cc2) := by rw [cell_of_row _ _ 1 _ _ _ HB10.out]; rfl
    have ha2 : W10.cell? ⟨B, 2, none⟩ = some (.slice pa2 ps2.length pc2) := by rw [cell_of_row _ _ 2 _ _ _ HB10.out]; rfl
    go_wp2_with fail
    have hn2 : cs2.length ≤ 20000 := HCK2.out.nc
    have hw2 := HCW2.out
    rw [HL2.out] at hw2
    refine (crossed_any ws.length (N : Int) _ _ cs2 W10 hN4 (by omega) HXb10.out hw2).mono ?_
    rintro e W11 ⟨R2, f2, rfl, hg2, hr2, hb11⟩
    have HD11 := Lib.hid (HD10.out.later hb11)
    have HOR11 := Lib.hid (HOR10.out.later hb11)
    have HX11 := Lib.hid (HX10.out.later hb11)
    have HP11 := Lib.hid (HP10.out.later hb11)
    have HA11 := Lib.hid ((hb11.block _ (Array.getElem?_eq_some_iff.1 HA10.out).1).trans HA10.out)
    have hXb11 := HXb10.out.later hb11
    have HPb11 := Lib.hid (HPb10.out.later hb11)
    have hB11 := (hb11.block _ (Array.getElem?_eq_some_iff.1 HB10.out).1).trans HB10.out
    have HR11 := Lib.hid (HR10.out.later hb11)
    have HR12 := Lib.hid (hr2.lower (Nat.zero_le _))
    rw [HSM.out.len] at hXb11 hB11
    have HXb11 := Lib.hid hXb11
    have HB11 := Lib.hid hB11
    clear hb11 HD10 HS10 HOR10 HX10 HP10 HA10 HXb10 HPb10 HB10 HR10 hg2 hr2 hs1 ha0 ha1 ha2 hXb11 hB11 hn2 hw2
    go_wp2_with fail
    refine part_step (k := 10) (by kernel_rfl) fun K hK => ?_
    conv => arg 2; whnf
    have ha1 : W11.cell? ⟨A, 1, none⟩ = some (.slice ca1 cs1.length cc1) := by rw [cell_of_row _ _ 1 _ _ _ HA11.out]; rfl
    have hb1 : W11.cell? ⟨B, 1, none⟩ = some (.slice ca2 cs1.length cc2) := by rw [cell_of_row _ _ 1 _ _ _ HB11.out]; rfl
    go_wp2_with fail
    refine part_step (k := 11) (by kernel_rfl) fun K hK => ?_
    conv => arg 2; whnf
    go_wp2_with fail
    refine part_step (k := 12) (by kernel_rfl) fun K hK => ?_
    conv => arg 2; whnf
    have hmk := make_ints cs1.length (by omega)
    go_wp2_with fail
    clear hmk ha1 hb1
    have bR : Below W11.heap.size W11 (W11.alloc (.cells (rowN cs1.length fun _ => 0) 3)) := (Below.refl _ _).alloc (Nat.le_refl _) _
    have hR := World.alloc_heap_new W11 (.cells (rowN cs1.length fun _ => 0) 3)
    have hLA : LA W11 ws.length R1 R2 0 (.slice oa ws.length oc) cs1 cs2 out f1 f2 := ⟨HOR11.out, HR11.out, HR12.out⟩
    refine part_step (k := 13) (by kernel_rfl) fun K13 hK13 => ?_
    refine law_loopA (w := w) HSM.out hn1 hN4 (fun x hx => by obtain ⟨i, hi⟩ := List.mem_iff_getElem?.1 hx; exact (HCW1.out i x hi).1) hLA bR (Nat.le_refl _) hR ?_
    apply Lib.hid
    intro W13
    intros
    rename_i hb13 hr13
    refine hK13 _ _ ?_
    have hP13 : P2At w W13 w.heap.size A B W11.heap.size N cs1 cs2 ps1 ps2 xs ys tM p (.slice sa ws.length sc) (.slice wa xs.length wc) (.slice ua ys.length uc) (.slice ca1 cs1.length cc1) (.slice pa1 ps1.length pc1) (.slice ca2 cs1.length cc2) (.slice pa2 ps2.length pc2) s :=
      have hd := HD11.out.later hb13
      ⟨hd.d, (hb13.block _ (Array.getElem?_eq_some_iff.1 HA11.out).1).trans HA11.out, (hb13.block _ (Array.getElem?_eq_some_iff.1 HB11.out).1).trans HB11.out, hr13, HX11.out.later hb13, HP11.out.later hb13, HXb11.out.later hb13, HPb11.out.later hb13, hd.wr, hd.ur, hd.tab, hd.below⟩
    refine part_step (k := 14) (by kernel_rfl) fun K14 hK14 => ?_
    refine law_r26 hP13 ?_
    apply Lib.hid
    intro T1 T2 W14
    intros
    rename_i hq14
    refine hK14 _ _ ?_
    have hPd := hP13.later (Below.refl W13.heap.size W13).drew
    refine part_step (k := 15) (by kernel_rfl) fun K15 hK15 => ?_
    refine law_loopB HSM.out hn1 hx6 HXA.out hPd hq14 ?_
    apply Lib.hid
    intro va vb zs W15
    intros
    rename_i hl15 ht15 hq15
    refine hK15 _ _ ?_
    refine part_step (k := 16) (by kernel_rfl) fun K16 hK16 => ?_
    refine law_loopC HSM.out hn1 hy10 HYA.out hPd ht15 hq15 ?_
    apply Lib.hid
    intro uva uvb us W16
    intros
    rename_i ht16 hq16
    refine hK16 _ _ ?_
    have hPe := hPd.later hq16.below
    exact law_p3 (n := ws.length) (out := out) ⟨HCK1.out, HCK2.out, hN16, HSM.out, ht16, hl15⟩ ⟨hPe.a, hPe.b, hq16.t1, hq16.t2, hPe.r, hPe.c1, hPe.p1, hPe.c2, hPe.p2, hq16.oa.rd encWi_len, hq16.pa.rd encU_len, hq16.ob.rd encWi_len, hq16.pb.rd encU_len, hPe.tab, hPe.below⟩
  · have b5 : (n != 0) = true := by simpa using hn
    have b5' : (n == 0) = false := by simpa using hn
    clear hok hn
    go_wp2_with fail
    go_ret
    exact ⟨rfl, HD2.out.below⟩

theorem law_any (p : Int) (ws : List Wk) (sv : Value) (xs : List Wi) (wv : Value) (ys : List Ul) (uv : Value) (s : Nat → Int) (at_ : List Int) (av : Value) (w : World)
    (hr : RdL 3 encW w sv ws) (hx : RdL 2 encWi w wv xs) (hy : RdL 2 encUl w uv ys) (ha : RdL 1 (fun n => [.int .u16 n]) w av at_)
    (hxa : ∀ (i : Nat) (x : Wi), xs[i]? = some x → -9223372036854775808 ≤ x.cross ∧ x.cross ≤ 9223372036854775807 ∧ 0 ≤ x.al ∧ x.al < 256)
    (hya : ∀ (i : Nat) (x : Ul), ys[i]? = some x → 0 ≤ x.a ∧ x.a < 65536 ∧ 0 ≤ x.b ∧ x.b < 65536) (ha0 : ∀ (i : Nat) (x : Int), at_[i]? = some x → 0 ≤ x ∧ x < 65536) (hT : Tab w) :
    Calls Tryd.prog 3 #[.agg #[.int .i64 p, sv, wv, uv, .int .i64 (s 0), .int .i64 (s 1), .int .i64 (s 2), .int .i64 (s 3), .int .i64 (s 4), .int .i64 (s 5)], av] w fun e w' => e = .returned (.bool true) ∧ Below w.heap.size w w' := by
  by_cases h0 : 12 < ws.length
  · exact law_early0 p ws sv xs wv ys uv s at_ av w hr hx hy ha hT h0
  by_cases h1 : 6 < xs.length
  · exact law_early1 p ws sv xs wv ys uv s at_ av w hr hx hy ha hT h0 h1
  by_cases h2 : 10 < ys.length
  · exact law_early2 p ws sv xs wv ys uv s at_ av w hr hx hy ha hT h0 h1 h2
  by_cases h3 : 100 < at_.length
  · exact law_early3 p ws sv xs wv ys uv s at_ av w hr hx hy ha hT h0 h1 h2 h3
  by_cases h4 : 4 < p
  · exact law_early4 p ws sv xs wv ys uv s at_ av w hr hx hy ha hT h0 h1 h2 h3 h4
  exact law_main p ws sv xs wv ys uv s at_ av w hr hx hy ha hT h0 h1 h2 h3 h4 ha0 hxa hya
end Go.Proofs.YtepofpnbgbmihaaDoor

/-
  TopSameBobbins: the row's statement, out of the law's contract.
-/
namespace Go.Proofs.YtepofpnbgbmihaaDoor
open Go Go.ChangeShapes Go.WideShapes Go.ChangeAt Go.RowKit
set_option linter.unusedSimpArgs false
set_option linter.unusedVariables false

theorem own : ownKnob Tryd.prog.godebug = none := by kernel_rfl
theorem gTab32 : Tryd.prog.globalNamed "math/bits.deBruijn32tab" = some 0 := by kernel_rfl
theorem gTab64 : Tryd.prog.globalNamed "math/bits.deBruijn64tab" = some 1 := by kernel_rfl
theorem laidOut : laidOutB Tryd.prog = true := by kernel_rfl
def tab64 : List Int := Lib.deBruijn64tab.map fun n : Nat => (n : Int)
theorem tab64_laid {H : Type} : (Rows.laid_math_bits_deBruijn64tab : DataW H) = Lib.tabData .u8 tab64 := rfl
theorem lit_i64 {n : Int} (h : (Lit.int .i64 n).wf = true) : -9223372036854775808 ≤ n ∧ n ≤ 9223372036854775807 := by
  simp only [Lit.wf, Bool.and_eq_true, decide_eq_true_eq] at h
  exact h
theorem lit_u8 {n : Int} (h : (Lit.int .u8 n).wf = true) : 0 ≤ n ∧ n ≤ 255 := by
  simp only [Lit.wf, Bool.and_eq_true, decide_eq_true_eq] at h
  exact h
theorem lit_u16 {n : Int} (h : (Lit.int .u16 n).wf = true) : 0 ≤ n ∧ n ≤ 65535 := by
  simp only [Lit.wf, Bool.and_eq_true, decide_eq_true_eq] at h
  exact h
theorem table {W : World} (h : laidMetH Tryd.prog Rows.topSameBobbinsRow.laid W) : Tab W := by
  have h2 : laidMetH Tryd.prog [("math/bits.deBruijn64tab", Lib.tabData .u8 tab64)] W := by
    obtain ⟨ps, hv, hz⟩ := h
    obtain ⟨g, t, cs, fuel, p, q, h1, h2, h3, h4, hs, e⟩ := hv
    rw [e] at hz
    exact ⟨q, hs, (List.nodup_append.1 hz.1).2.1, fun b off hp => hz.2 b off (List.mem_append.2 (.inr hp))⟩
  have h3 := Lib.tabIs_of_head (rest := []) gTab64 (t := 129) (e := 5) (n := 64) (by kernel_rfl) Tryd.underlying129 Tryd.underlying5 (by kernel_rfl) (by kernel_rfl) h2
  intro j hj
  rw [h3.cell gTab64 j (by simpa [tab64] using hj)]
  congr 2
  unfold tab64
  rw [List.getD_eq_getElem?_getD, List.getElem?_map, List.getD_eq_getElem?_getD, List.getElem?_eq_getElem hj]
  rfl

theorem fld {H : Type} {enc : TypeId × Value → H} {P : Program} {w : World} {base : Nat} {spare : Nat → Bool} {held : Bool} {n : Nat} {t : TypeId} {cs : List Value} {ys : List (DataW H × List MemPlace)} {i : Nat} (h : DataW.trod enc P w base spare held n t cs = ys[i]?) (hl : i < ys.length) :
    ∃ y, DataW.trod enc P w base spare held n t cs = some y := ⟨ys[i], h.trans (List.getElem?_eq_getElem hl)⟩
theorem fldS {H : Type} {enc : TypeId × Value → H} {P : Program} {w : World} {base : Nat} {spare : Nat → Bool} {held : Bool} {n : Nat} {fs : Array Field} {cs : List Value} {ys : List (DataW H × List MemPlace)}
    (hg : ∀ (i : Nat) (f : Field), fs[i]? = some f → DataW.trod enc P w base spare held n f.type ((cs.drop f.offset).take (P.cellsOf f.type)) = ys[i]?) (hlen : ys.length = fs.size) (i : Nat) (f : Field) (hf : fs[i]? = some f) {t : TypeId} {o k : Nat} (ht : f.type = t) (ho : f.offset = o) (hk : P.cellsOf t = k) :
    ∃ y, DataW.trod enc P w base spare held n t ((cs.drop o).take k) = some y := by
  subst ht ho hk
  have hi : i < fs.size := (Array.getElem?_eq_some_iff.1 hf).1
  exact fld (hg i f hf) (by omega)

section
variable {H : Type} {enc : TypeId × Value → H} {w : World} {base : Nat} {spare : Nat → Bool} {held : Bool}
theorem c3 : Tryd.prog.cellsOf 3 = 1 := by kernel_rfl
theorem cStr : Tryd.prog.cellsOf 9 = 1 := by kernel_rfl
theorem cU8 : Tryd.prog.cellsOf 5 = 1 := by kernel_rfl
theorem cU16 : Tryd.prog.cellsOf 52 = 1 := by kernel_rfl
set_option maxRecDepth 100000 in
theorem dec_work (n : Nat) (cs : List Value) (y : DataW H × List MemPlace) (h : DataW.trod enc Tryd.prog w base spare held n 60 cs = some y) : ∃ z : Wk, cs = encW z ∧ True := by
  obtain ⟨ys, m, _, _, hl, hlen, hg⟩ := DataW.trod_struct Tryd.underlying60 h
  have hl3 : cs.length = 3 := hl.trans (by kernel_rfl)
  match cs, hl3 with
  | [a, b, c], _ =>
    obtain ⟨y0, h0⟩ := fldS hg hlen 0 _ rfl (t := 3) (o := 0) rfl rfl c3
    obtain ⟨y1, h1⟩ := fldS hg hlen 1 _ rfl (t := 3) (o := 1) rfl rfl c3
    obtain ⟨y2, h2⟩ := fldS hg hlen 2 _ rfl (t := 9) (o := 2) rfl rfl cStr
    simp only [List.drop_zero, List.drop_succ_cons, List.take_succ_cons, List.take_zero] at h0 h1 h2
    obtain ⟨k, e0, _, _⟩ := DataW.trod_int Tryd.underlying3 h0
    obtain ⟨q, e1, _, _⟩ := DataW.trod_int Tryd.underlying3 h1
    obtain ⟨s, e2, _, _⟩ := DataW.trod_string Tryd.underlying9 h2
    injection e0 with e0 _; injection e1 with e1 _; injection e2 with e2 _
    exact ⟨⟨k, q, s⟩, by rw [e0, e1, e2]; rfl, trivial⟩
set_option maxRecDepth 100000 in
theorem dec_wish (n : Nat) (cs : List Value) (y : DataW H × List MemPlace) (h : DataW.trod enc Tryd.prog w base spare held n 51 cs = some y) : ∃ z : Wi, cs = encWi z ∧ (-9223372036854775808 ≤ z.cross ∧ z.cross ≤ 9223372036854775807 ∧ 0 ≤ z.al ∧ z.al < 256) := by
  obtain ⟨ys, m, _, _, hl, hlen, hg⟩ := DataW.trod_struct Tryd.underlying51 h
  have hl3 : cs.length = 2 := hl.trans (by kernel_rfl)
  match cs, hl3 with
  | [a, b], _ =>
    obtain ⟨y0, h0⟩ := fldS hg hlen 0 _ rfl (t := 3) (o := 0) rfl rfl c3
    obtain ⟨y1, h1⟩ := fldS hg hlen 1 _ rfl (t := 5) (o := 1) rfl rfl cU8
    simp only [List.drop_zero, List.drop_succ_cons, List.take_succ_cons, List.take_zero] at h0 h1
    obtain ⟨k, e0, _, w0⟩ := DataW.trod_int Tryd.underlying3 h0
    obtain ⟨q, e1, _, w1⟩ := DataW.trod_int Tryd.underlying5 h1
    injection e0 with e0 _; injection e1 with e1 _
    have b0 := lit_i64 w0
    have b1 := lit_u8 w1
    exact ⟨⟨k, q⟩, by rw [e0, e1]; rfl, b0.1, b0.2, b1.1, by show q < 256; omega⟩
set_option maxRecDepth 100000 in
theorem dec_pair (n : Nat) (cs : List Value) (y : DataW H × List MemPlace) (h : DataW.trod enc Tryd.prog w base spare held n 53 cs = some y) : ∃ z : Ul, cs = encUl z ∧ (0 ≤ z.a ∧ z.a < 65536 ∧ 0 ≤ z.b ∧ z.b < 65536) := by
  obtain ⟨ys, m, _, _, hl, hlen, hg⟩ := DataW.trod_array Tryd.underlying53 h
  have hl3 : cs.length = 2 := hl.trans (by kernel_rfl)
  match cs, hl3 with
  | [a, b], _ =>
    obtain ⟨y0, h0⟩ := fld (hg 0 (by decide)) (by rw [hlen]; decide)
    obtain ⟨y1, h1⟩ := fld (hg 1 (by decide)) (by rw [hlen]; decide)
    simp only [cU16, Nat.zero_mul, Nat.one_mul, List.drop_zero, List.drop_succ_cons, List.take_succ_cons, List.take_zero] at h0 h1
    obtain ⟨k, e0, _, w0⟩ := DataW.trod_int Tryd.underlying52 h0
    obtain ⟨q, e1, _, w1⟩ := DataW.trod_int Tryd.underlying52 h1
    injection e0 with e0 _; injection e1 with e1 _
    have b0 := lit_u16 w0
    have b1 := lit_u16 w1
    exact ⟨⟨k, q⟩, by rw [e0, e1]; rfl, b0.1, by show k < 65536; omega, b1.1, by show q < 65536; omega⟩
set_option maxRecDepth 100000 in
theorem dec_sup (n : Nat) (a b c d e f : Value) (y : DataW H × List MemPlace) (h : DataW.trod enc Tryd.prog w base spare held n 27 [a, b, c, d, e, f] = some y) :
    ∃ s : Nat → Int, a = .int .i64 (s 0) ∧ b = .int .i64 (s 1) ∧ c = .int .i64 (s 2) ∧ d = .int .i64 (s 3) ∧ e = .int .i64 (s 4) ∧ f = .int .i64 (s 5) := by
  obtain ⟨ys, m, _, _, hl, hlen, hg⟩ := DataW.trod_array Tryd.underlying27 h
  obtain ⟨y0, h0⟩ := fld (hg 0 (by decide)) (by rw [hlen]; decide)
  obtain ⟨y1, h1⟩ := fld (hg 1 (by decide)) (by rw [hlen]; decide)
  obtain ⟨y2, h2⟩ := fld (hg 2 (by decide)) (by rw [hlen]; decide)
  obtain ⟨y3, h3⟩ := fld (hg 3 (by decide)) (by rw [hlen]; decide)
  obtain ⟨y4, h4⟩ := fld (hg 4 (by decide)) (by rw [hlen]; decide)
  obtain ⟨y5, h5⟩ := fld (hg 5 (by decide)) (by rw [hlen]; decide)
  simp only [c3, Nat.zero_mul, Nat.one_mul, Nat.mul_one, List.drop_zero, List.drop_succ_cons, List.take_succ_cons, List.take_zero] at h0 h1 h2 h3 h4 h5
  obtain ⟨k0, e0, _, _⟩ := DataW.trod_int Tryd.underlying3 h0
  obtain ⟨k1, e1, _, _⟩ := DataW.trod_int Tryd.underlying3 h1
  obtain ⟨k2, e2, _, _⟩ := DataW.trod_int Tryd.underlying3 h2
  obtain ⟨k3, e3, _, _⟩ := DataW.trod_int Tryd.underlying3 h3
  obtain ⟨k4, e4, _, _⟩ := DataW.trod_int Tryd.underlying3 h4
  obtain ⟨k5, e5, _, _⟩ := DataW.trod_int Tryd.underlying3 h5
  injection e0 with e0 _; injection e1 with e1 _; injection e2 with e2 _; injection e3 with e3 _; injection e4 with e4 _; injection e5 with e5 _
  exact ⟨fun i => [k0, k1, k2, k3, k4, k5].getD i 0, e0, e1, e2, e3, e4, e5⟩
end

set_option maxRecDepth 100000 in
theorem contract (H : Type) (enc : TypeId × Value → H) (W : World) (base : Nat) (args : Array Value) (ds gs : List (DataW H)) (before : List MemPlace)
    (hval : ∀ (j : Nat) t v, Tryd.f3.params[j]? = some t → args[j]? = some v → Value.okWide Tryd.prog W .any base t v)
    (hW : DataW.Whole enc Tryd.prog Tryd.f3.params.toList Rows.topSameBobbinsSpec.vars false W args.toList ds gs before) (hL : laidMetH Tryd.prog Rows.topSameBobbinsRow.laid W) :
    Calls Tryd.prog 3 args W fun e W' => ∃ v, e = .returned v ∧ Rows.topSameBobbinsSpec.post enc Tryd.prog Tryd.f3 false true false false W args v W' := by
  have hW' := hW
  obtain ⟨p, q, hA0, hV, rfl, hfz, hnd⟩ := hW
  have hA : DataW.TrodAll enc Tryd.prog W 0 (fun _ => true) true Tryd.f3.params.toList args.toList ds p := hA0
  rw [Tryd.params3] at hA hval
  obtain ⟨v0, vs0, d0, ds0, p0, q0, hargs, rfl, rfl, h0, r0⟩ := trodAll_cons hA
  obtain ⟨v1, vs1, d1, ds1, p1, q1, rfl, rfl, rfl, h1, r1⟩ := trodAll_cons r0
  obtain ⟨rfl, rfl, rfl⟩ := trodAll_nil r1
  obtain rfl : args = #[v0, v1] := by cases args; simp_all
  obtain ⟨rfl, rfl⟩ := trodVars_none hV
  clear hA0
  obtain ⟨cs, rfl, hsz⟩ := okWide_struct Tryd.underlying29 (hval 0 29 v0 rfl rfl)
  obtain ⟨l⟩ := cs
  have hsz10 : l.length = 10 := hsz.trans (by kernel_rfl)
  match l, hsz10 with
  | [x0, x1, x2, x3, x4, x5, x6, x7, x8, x9], _ =>
  obtain ⟨fu, hf⟩ := h0
  obtain ⟨ys, n, _, hx, _, hlen, hg⟩ := DataW.trod_struct Tryd.underlying29 hf
  have cS : Tryd.prog.cellsOf 24 = 2 := by kernel_rfl
  have cW : Tryd.prog.cellsOf 25 = 1 := by kernel_rfl
  have cU : Tryd.prog.cellsOf 26 = 1 := by kernel_rfl
  have c6 : Tryd.prog.cellsOf 27 = 6 := by kernel_rfl
  have cWk : Tryd.prog.cellsOf 22 = 1 := by kernel_rfl
  obtain ⟨y0, g0⟩ := fldS hg hlen 0 _ rfl (t := 24) (o := 0) rfl rfl cS
  obtain ⟨y1, g1⟩ := fldS hg hlen 1 _ rfl (t := 25) (o := 2) rfl rfl cW
  obtain ⟨y2, g2⟩ := fldS hg hlen 2 _ rfl (t := 26) (o := 3) rfl rfl cU
  obtain ⟨y3, g3⟩ := fldS hg hlen 3 _ rfl (t := 27) (o := 4) rfl rfl c6
  simp only [Value.cells, List.drop_zero, List.drop_succ_cons, List.take_succ_cons, List.take_zero] at g0 g1 g2 g3
  obtain ⟨zs, m, _, _, _, hlenS, hgS⟩ := DataW.trod_struct Tryd.underlying24 g0
  obtain ⟨z0, k0⟩ := fldS hgS hlenS 0 _ rfl (t := 3) (o := 0) rfl rfl c3
  obtain ⟨z1, k1⟩ := fldS hgS hlenS 1 _ rfl (t := 22) (o := 1) rfl rfl cWk
  simp only [List.drop_zero, List.drop_succ_cons, List.take_succ_cons, List.take_zero] at k0 k1
  obtain ⟨pr, e0, _, _⟩ := DataW.trod_int Tryd.underlying3 k0
  obtain ⟨sv, ws, e1, hrW, _⟩ := rd_of_trod Tryd.underlying22 (sz := 3) (by kernel_rfl) (by decide) dec_work k1
  obtain ⟨wv, xs, e2, hrX, hxg⟩ := rd_of_trod Tryd.underlying25 (sz := 2) (by kernel_rfl) (by decide) dec_wish g1
  obtain ⟨uv, us, e3, hrU, hug⟩ := rd_of_trod Tryd.underlying26 (sz := 2) (by kernel_rfl) (by decide) dec_pair g2
  obtain ⟨s, s0, s1, s2, s3, s4, s5⟩ := dec_sup _ _ _ _ _ _ _ _ g3
  injection e0 with e0 _; injection e1 with e1 _; injection e2 with e2 _; injection e3 with e3 _
  subst e0 e1 e2 e3 s0 s1 s2 s3 s4 s5
  obtain ⟨fv, hfv⟩ := h1
  have hv1 : v1.cells.toList = [v1] := by
    have := okWide_slice Tryd.underlying30 (hval 1 30 v1 rfl rfl)
    obtain ⟨a, b, c, rfl⟩ := this
    rfl
  rw [hv1] at hfv
  obtain ⟨av, at_, e4, hrA, hag⟩ := rd_ints Tryd.underlying30 Tryd.underlying52 cU16 hfv
  injection e4 with e4 _
  subst e4
  refine (law_any pr ws x1 xs x2 us x3 s at_ v1 W hrW hrX hrU hrA hxg hug (fun i x h => by have := lit_u16 (hag i x h); omega) (table hL)).mono fun e W' ⟨he, hb⟩ => ?_
  subst he
  exact ⟨_, rfl, law_post (tb := 4) laidOut hW' hb (by rw [Tryd.params3]; intro t ht; rcases List.mem_cons.1 ht with rfl | ht; exact ⟨by kernel_rfl, of_decide_eq_true (by kernel_rfl)⟩; rcases List.mem_cons.1 ht with rfl | ht; exact ⟨by kernel_rfl, of_decide_eq_true (by kernel_rfl)⟩; cases ht) (by kernel_rfl) Tryd.underlying4 rfl rfl⟩
end Go.Proofs.YtepofpnbgbmihaaDoor

/-
  TopSameBobbins returns true for every input, and its arguments read afterwards as they did: the row's statement, and the card over it (math/bits' two tables tied to the program's text).
-/
namespace Go.Proofs.YtepofpnbgbmihaaDoor
open Go Go.ChangeShapes Go.WideShapes Go.ChangeAt Go.RowKit

def dye0 : Value := .agg #[.int .i64 0, .slice none 0 0, .slice none 0 0, .slice none 0 0, .int .i64 0, .int .i64 0, .int .i64 0, .int .i64 0, .int .i64 0, .int .i64 0]
def tab64V : Array Value := (Lib.deBruijn64tab.map fun n : Nat => Value.int .u8 (n : Int)).toArray
def tab32V : Array Value := (Lib.deBruijn32tab.map fun n : Nat => Value.int .u8 (n : Int)).toArray
/-- A world for the witness: the settled one, the two tables holding what their initialisers lay. -/
def withCells (cs : Array Value) : Obj → Obj
  | .cells _ t fr => .cells cs t fr
  | o => o
noncomputable def laidWorld (os : Os) : World :=
  { World.holding Tryd.prog os ⟨#[], #[], []⟩ with heap := ((World.holding Tryd.prog os ⟨#[], #[], []⟩).heap.modify 0 (withCells tab32V)).modify 1 (withCells tab64V) }
def dsE {H : Type} : List (DataW H) := [.agg [.agg [.lit (.int .i64 0), .nil], .nil, .nil, .agg [.lit (.int .i64 0), .lit (.int .i64 0), .lit (.int .i64 0), .lit (.int .i64 0), .lit (.int .i64 0), .lit (.int .i64 0)]], .nil]
theorem laid_met (os : Os) : laidMet Tryd.prog Rows.topSameBobbinsRow.laid ((laidWorld os).forCall (fun _ _ => 0) ⟨#[], #[dye0, .slice none 0 0], []⟩).memory :=
  laidMet_of_run' 8 (by kernel_rfl) (by kernel_rfl)
theorem reads (os : Os) {H : Type} (enc : TypeId × Value → H) : ∃ places, DataW.whole enc Tryd.prog ((laidWorld os).forCall (fun _ _ => 0) ⟨#[], #[dye0, .slice none 0 0], []⟩).memory Tryd.f3.params.toList Rows.topSameBobbinsSpec.vars false #[dye0, .slice none 0 0].toList 8 = some (dsE, [], places) :=
  ⟨[], by kernel_rfl⟩

set_option maxRecDepth 100000 in
theorem lifted (os : Os) (started : os.Started) (H : Type) (enc : TypeId × Value → H) (F : Stop.Interp) :
    ReturnsInHanded {} Tryd.checked os 3 .any ((OpenSpec.ofChange Rows.topSameBobbinsSpec).preRow enc Tryd.prog Tryd.f3 Rows.topSameBobbinsRow.domain false Rows.topSameBobbinsRow.laid) (((OpenSpec.ofChange Rows.topSameBobbinsSpec).at F).post enc Tryd.prog Tryd.f3 false true false false) := by
  obtain ⟨places, hx⟩ := reads os enc
  refine returnsInHanded_of_row (C := Tryd.checked) (s := OpenSpec.ofChange Rows.topSameBobbinsSpec) own started (by kernel_rfl) Tryd.func3
    (witness_row_at (enc := enc) (C := Tryd.checked) false (laidWorld os) #[dye0, .slice none 0 0] rfl (by kernel_rfl) (by kernel_rfl) (by kernel_rfl)
      (OpenSpec.preRow_of_cond 8 hx (by kernel_rfl) (fun k hk => by cases hk) (by kernel_rfl) (laid_met os))) ?_
  intro W base args ds gs before hval hW _ _ _ hL _ _
  exact contract H enc W base args ds gs before hval hW hL

theorem said : Rows.TopSameBobbinsSaid :=
  OpenClaim.holds_of_cond 3 Tryd.f3 rfl rfl rfl rfl rfl rfl rfl ⟨rfl, rfl, rfl, rfl, rfl⟩ rfl rfl rfl rfl rfl (by kernel_rfl) Tryd.func3 (by kernel_rfl)
    (of_decide_eq_true (by kernel_rfl)) (by unfold Func.isWrapper; first | (rw [if_pos (by decide +kernel)]; kernel_rfl) | (rw [if_neg (by decide +kernel)]; exact ⟨rfl, rfl⟩))
    (fun os started H enc _ F => by rw [OpenClaim.pre_eq_preRow]; exact lifted os started H enc F)

theorem plain (f : FuncId) (fn : Func) (hf : Tryd.pinned.checked.prog.funcNamed "torchon/torchontop.TopSameBobbins" = some f) (hfn : Tryd.pinned.checked.prog.funcs[f]? = some fn) :
    false = Tryd.pinned.checked.prog.looks [] ∧ ∀ (j : Nat) t, fn.params[j]? = some t → Tryd.pinned.checked.prog.wantsStandIn t = false := by
  obtain rfl : f = 3 := Option.some.inj ((show Tryd.prog.funcNamed "torchon/torchontop.TopSameBobbins" = some 3 by kernel_rfl).symm.trans hf) |>.symm
  obtain rfl : fn = Tryd.f3 := (Option.some.inj (Tryd.func3.symm.trans hfn)).symm
  refine ⟨by kernel_rfl, fun j t ht => ?_⟩
  rw [Tryd.params3] at ht
  have hm := Array.mem_of_getElem? ht
  simp only [List.mem_toArray, List.mem_cons, List.not_mem_nil, or_false] at hm
  rcases hm with rfl | rfl
  · exact (show Tryd.prog.wantsStandIn 29 = false by kernel_rfl)
  · exact (show Tryd.prog.wantsStandIn 30 = false by kernel_rfl)

/-- THE CARD. -/
theorem topSameBobbins_card : Rows.TopSameBobbinsCardSaid :=
  Claim7.holds_tied_plain_at .later [] _ _ _ _ said (fun _ h => by cases h) (by kernel_rfl) (fun _ h => by cases h) topSameBobbins_row_tie rfl ⟨rfl, rfl⟩ (by kernel_rfl) rfl plain (by kernel_rfl)
#print axioms topSameBobbins_card
end Go.Proofs.YtepofpnbgbmihaaDoor

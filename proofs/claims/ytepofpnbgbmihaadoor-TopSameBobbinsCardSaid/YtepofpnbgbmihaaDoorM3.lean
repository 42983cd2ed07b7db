/-
  cloth.Check of a cloth that is right: its two loops.
-/
import Derived.Test.YtepofpnbgbmihaaDoorM2
import Derived.Test.YtepofpnbgbmihaaDoorM1
import Derived.Deep.QuietTactic
import Derived.BigQuiet
import Derived.Test.YtepofpnbgbmihaaDoorWLast
import Derived.Laws.MakeOwn
import Derived.Laws.Entries
import Derived.Laws.CopyRow

/-
  cloth.Check of a cloth that is right: its two loops.
-/
namespace Go.Proofs.YtepofpnbgbmihaaDoor
open Go.RowKit Go.Shelf Go.Proofs.YtepofpnbgbmihaaDoorW.PrintLast
set_option linter.unusedSimpArgs false
set_option linter.unusedVariables false
attribute [local go_sem] Oper.semAt_some

theorem eqInt {P : Program} {t : TypeId} {k0 : IntKind} (hu : P.underlying t = some (.int k0)) (d : Nat) (a b : Int) (w : World) : (Op.equalIn (d + 1) t (.int .i64 a) (.int .i64 b)).run P w = .ok (decide (a = b)) w := by
  simp only [Op.equalIn, Sem.run_bind, run_underlying hu, Result.andThen_ok, if_true, Sem.run_pure]
  rfl
theorem eqArr2 {P : Program} {t e : TypeId} {k0 : IntKind} {i : TypeInfo} (d : Nat) (hu : P.underlying t = some (.array 2 e)) (hi : P.info? e = some i) (hc : P.cellsOf e = 1) (hk : P.plainKey e = true) (he : P.underlying e = some (.int k0)) (a b c d' : Int) (w : World) :
    (Op.equalIn (d + 2) t (.agg #[.int .i64 a, .int .i64 b]) (.agg #[.int .i64 c, .int .i64 d'])).run P w = .ok (decide (a = c) && decide (b = d')) w := by
  rw [run_equalIn_array w (d + 1) _ _ hu hi, hc]
  have h0 : ∀ (x y : Int) (W : World), (part e #[Value.int .i64 x, .int .i64 y] (0 * 1)).run P W = .ok (.int .i64 x) W := fun x y W => run_part_plain W hk rfl
  have h1 : ∀ (x y : Int) (W : World), (part e #[Value.int .i64 x, .int .i64 y] (1 * 1)).run P W = .ok (.int .i64 y) W := fun x y W => run_part_plain W hk rfl
  have hr : List.range 2 = [0, 1] := rfl
  rw [hr]
  simp only [Op.eqItems, Sem.run_bind, h0, h1, Result.andThen_ok, eqInt he]
  by_cases e : a = c <;> by_cases f : b = d' <;> simp [e, f, h1, eqInt he]
theorem eq2 (a b c d : Int) (w : World) : (Op.equalIn 10000 54 (.agg #[.int .i64 a, .int .i64 b]) (.agg #[.int .i64 c, .int .i64 d])).run Tryd.prog w = .ok (decide (a = c) && decide (b = d)) w := by
  obtain ⟨i0, hi, hz0, hz1, hz2⟩ := info_parts info_int
  exact eqArr2 9998 Tryd.underlying54 hi (by kernel_rfl) (by kernel_rfl) Tryd.underlying3 a b c d w

structure CrOk (thr : Int) (x : Crs) : Prop where
  work : 0 ≤ x.work
  lo : 0 ≤ x.at_
  hi : x.at_ ≤ thr - 2
  o0 : 0 ≤ x.over
  o1 : x.over < thr
  u0 : 0 ≤ x.under
  u1 : x.under < thr
structure PnOk (thr : Int) (x : Pn) : Prop where
  work : 0 ≤ x.work
  lo : 0 ≤ x.at_
  hi : x.at_ ≤ thr - 2
  l0 : 0 ≤ x.left
  l1 : x.left ≤ thr - 1
  r0 : 0 ≤ x.right
  r1 : x.right ≤ thr - 1
  ne : x.left ≠ x.right
def LineOk (cs : List Crs) : Prop := ∀ (k : Nat) (x : Crs), cs[k]? = some x →
  (x.over = lineTo (fun p => (p : Int)) cs k x.at_.toNat ∧ x.under = lineTo (fun p => (p : Int)) cs k (x.at_.toNat + 1)) ∨
  (x.over = lineTo (fun p => (p : Int)) cs k (x.at_.toNat + 1) ∧ x.under = lineTo (fun p => (p : Int)) cs k x.at_.toNat)
/-- A cloth that is right. -/
structure ClothOk (thr : Int) (cs : List Crs) (ps : List Pn) : Prop where
  t2 : 2 ≤ thr
  t48 : thr ≤ 48
  nc : cs.length ≤ 20000
  np : ps.length ≤ 6400
  cr : ∀ (i : Nat) (x : Crs), cs[i]? = some x → CrOk thr x
  pn : ∀ (i : Nat) (x : Pn), ps[i]? = some x → PnOk thr x
  line : LineOk cs

/-- The world w4 behind the store of the line in its box. -/
structure Ck0 (w W1 w3 w4 : World) (thr : Int) (cv pv : Value) : Prop where
  c0 : w4.cell? ⟨w.heap.size, 0, none⟩ = some (.int .i64 thr)
  c1 : w4.cell? ⟨w.heap.size, 1, none⟩ = some cv
  c2 : w4.cell? ⟨w.heap.size, 2, none⟩ = some pv
  e : w3.heap[w.heap.size + 1]? = some (.cells #[.int .i64 0] 32 (0, 0))
  line : LineAt w4 w3.heap.size (fun p => (p : Int))
  below : Below w.heap.size w w3
  below3 : Below w3.heap.size w3 w4
  lt : w.heap.size + 2 ≤ w3.heap.size
theorem Ck0.of {w W1 w3 w4 : World} {thr : Int} {cv pv : Value} {cs0 : Array Value} (hB0 : Below w.heap.size w W1) (hz : W1.heap.size = w.heap.size + 2)
    (h3 : W1.heap[w.heap.size]? = some (.cells #[.int .i64 thr, cv, pv] 41 (0, 0))) (h4 : W1.heap[w.heap.size + 1]? = some (.cells #[.int .i64 0] 32 (0, 0)))
    (hB : Below W1.heap.size W1 w3) (hw4 : World.setRow (w3.alloc (.cells cs0 68)) w3.heap.size (lineArr fun p => (p : Int)) = w4) : Ck0 w W1 w3 w4 thr cv pv := by
  have hz3 : w.heap.size + 2 ≤ w3.heap.size := by have := hB.size; omega
  have hrow : w4.heap[w3.heap.size]? = some (.cells (lineArr fun p => (p : Int)) 68 (0, 0)) := by
    rw [← hw4]; exact setRow_heap _ _ _ _ _ _ (heap_alloc_new w3 _)
  have hoth : ∀ i, i < w3.heap.size → w4.heap[i]? = w3.heap[i]? := fun i hi => by
    rw [← hw4, setRow_other _ _ _ _ (by omega)]
    exact Below.heap_alloc w3 _ i hi
  have hold : ∀ i, i < w.heap.size + 2 → w4.heap[i]? = W1.heap[i]? := fun i hi => (hoth i (by omega)).trans (hB.block i (by omega))
  have h5 := (hold w.heap.size (by omega)).trans h3
  refine ⟨?_, ?_, ?_, (hB.block _ (by omega)).trans h4, hrow, hB0.trans (hB.mono (by omega)), ?_, hz3⟩
  · rw [cell_of_row _ _ 0 _ _ _ h5]; rfl
  · rw [cell_of_row _ _ 1 _ _ _ h5]; rfl
  · rw [cell_of_row _ _ 2 _ _ _ h5]; rfl
  · refine ⟨?_, ?_, ?_, ?_, hoth⟩
    · rw [← hw4]; rfl
    · rw [← hw4]; rfl
    · rw [← hw4]; rfl
    · have := (Array.getElem?_eq_some_iff.1 hrow).1; omega

/-- Behind cloth.crossings: the iterator's two boxes. -/
structure Ck1 (w w3 w5 : World) (B1 : Nat) (thr : Int) (cv pv : Value) : Prop where
  it : ItSt w3 w5 B1 (B1 + 1) w3.heap.size cv (fun p => (p : Int))
  e : w3.heap[w.heap.size + 1]? = some (.cells #[.int .i64 0] 32 (0, 0))
  below : Below w.heap.size w w3
theorem Ck1.of {w W1 w3 w4 w5 : World} {thr : Int} {cv pv : Value} (h : Ck0 w W1 w3 w4 thr cv pv)
    (hw : w5 = (w4.alloc (.cells #[.int .i64 thr, cv, pv] 41)).alloc (.cells #[.pointer (some ⟨w3.heap.size, 0, none⟩)] 99)) : Ck1 w w3 w5 w4.heap.size thr cv pv := by
  have hb : Below w4.heap.size w4 w5 := by rw [hw]; exact ((Below.refl _ _).alloc (Nat.le_refl _) _).alloc (by simp) _
  have hL := h.line.lt
  have hlt := h.lt
  refine ⟨⟨?_, ?_, ?_, ?_, h.line.later hb, by omega, by omega, by omega, h.below3.trans (hb.mono h.below3.size)⟩, h.e, h.below⟩
  · rw [hw, cell_of_row _ _ 1 _ _ _ (heap_alloc2_old w4 _ _)]; rfl
  · rw [hw]; simp; omega
  · rw [hw, cell_of_row _ _ 0 _ _ _ (heap_alloc2_new w4 _ _)]; rfl
  · rw [hw]; simp
theorem ItSt.putObj {w0 w5 W : World} {B1 B2 L : Nat} {v : Value} {l0 l : Nat → Int} (h5 : ItSt w0 w5 B1 B2 L v l0) (h : ItSt w0 W B1 B2 L v l) {k : Nat} (hk : w5.heap.size ≤ k) (o : Obj) : ItSt w0 (W.putObj k o) B1 B2 L v l := by
  have h1 := h5.b1
  have h2 := h5.b2
  have h3 := h5.line.lt
  have h4 := h5.below.size
  refine ⟨?_, by simpa using h.b1, ?_, by simpa using h.b2, (World.putObj_heap_other (by omega)).trans h.line, h.n1, h.n2, h.lge, ⟨h.below.os, h.below.tape, h.below.output, by simpa using h.below.size, fun i hi => (World.putObj_heap_other (by omega)).trans (h.below.block i hi)⟩⟩
  · rw [← h.c1]; exact World.cell?_of_block (World.putObj_heap_other (by show B1 ≠ k; omega))
  · rw [← h.p]; exact World.cell?_of_block (World.putObj_heap_other (by show B2 ≠ k; omega))
/-- What the iterator hands on in round k. -/
def yEnc (cs : List Crs) (y : Nat × Crs) : Array Value := #[.agg #[.int .i64 y.2.work, .int .i64 y.2.at_, .int .i64 y.2.over, .int .i64 y.2.under], .agg #[.int .i64 (lineTo (fun p => (p : Int)) cs y.1 y.2.at_.toNat), .int .i64 (lineTo (fun p => (p : Int)) cs y.1 (y.2.at_.toNat + 1))]]

set_option maxRecDepth 100000 in
set_option maxHeartbeats 1000000 in
theorem clCheck_any (thr : Int) (cs : List Crs) (ps : List Pn) (cv pv : Value) (w : World) (hok : ClothOk thr cs ps) (hc : RdL 4 encX w cv cs) (hp : RdL 4 encP w pv ps) :
    Calls Tryd.prog 34 #[.agg #[.int .i64 thr, cv, pv]] w fun e w' => e = .returned (.int .i64 0) ∧ Below w.heap.size w w' := by
  obtain ⟨ca, cc, rfl, hlen, hca⟩ := hc.slice
  obtain ⟨pa, pc, rfl, hplen, hpa⟩ := hp.slice
  have HCA := Lib.hid hca
  have HPA := Lib.hid hpa
  have h2 := hok.t2
  have h48 := hok.t48
  have g1 : (decide (48 < thr)) = false := by simp; omega
  have g2 : (decide ((20000 : Int) < (cs.length : Int))) = false := by have := hok.nc; simp; omega
  have g3 : (decide ((6400 : Int) < (ps.length : Int))) = false := by have := hok.np; simp; omega
  have HOK := Lib.hid hok
  clear hca hpa hc hp hok
  refine (callsIn_wide (n := 11)).1 ?_
  refine callsIn_of_wp_marks Tryd.func34 rfl trivial ?_
  simp only [Tryd.ntmps34, List.size_toArray, List.length_cons, List.length_nil, Nat.reduceAdd, Nat.reduceSub, Array.replicate_succ, Array.replicate_zero, List.push_toArray, List.append_toArray, List.nil_append, List.cons_append]
  refine (wpIn_wide (n := 11)).2 ?_
  go_wp2
  have hs0 : ((w.alloc (.cells #[.int .i64 thr, .slice ca cs.length cc, .slice pa ps.length pc] 41)).alloc (.cells #[.int .i64 0] 32)).cell? ⟨w.heap.size, 0, none⟩ = some (.int .i64 thr) := by rw [cell_of_row _ _ 0 _ _ _ (heap_alloc2_old w _ _)]; rfl
  have hs2 : ((w.alloc (.cells #[.int .i64 thr, .slice ca cs.length cc, .slice pa ps.length pc] 41)).alloc (.cells #[.int .i64 0] 32)).cell? ⟨w.heap.size, 2, none⟩ = some (.slice pa ps.length pc) := by rw [cell_of_row _ _ 2 _ _ _ (heap_alloc2_old w _ _)]; rfl
  have hs3 : ((w.alloc (.cells #[.int .i64 thr, .slice ca cs.length cc, .slice pa ps.length pc] 41)).alloc (.cells #[.int .i64 0] 32)).heap[w.heap.size]? = some (.cells #[.int .i64 thr, .slice ca cs.length cc, .slice pa ps.length pc] 41 (0, 0)) := heap_alloc2_old w _ _
  have hs4 : ((w.alloc (.cells #[.int .i64 thr, .slice ca cs.length cc, .slice pa ps.length pc] 41)).alloc (.cells #[.int .i64 0] 32)).heap[w.heap.size + 1]? = some (.cells #[.int .i64 0] 32 (0, 0)) := heap_alloc2_new w _ _
  have hB0 : Below w.heap.size w ((w.alloc (.cells #[.int .i64 thr, .slice ca cs.length cc, .slice pa ps.length pc] 41)).alloc (.cells #[.int .i64 0] 32)) := ((Below.refl _ _).alloc (Nat.le_refl _) _).alloc (by simp) _
  have hz0 : ((w.alloc (.cells #[.int .i64 thr, .slice ca cs.length cc, .slice pa ps.length pc] 41)).alloc (.cells #[.int .i64 0] 32)).heap.size = w.heap.size + 2 := by simp
  generalize ((w.alloc (.cells #[.int .i64 thr, .slice ca cs.length cc, .slice pa ps.length pc] 41)).alloc (.cells #[.int .i64 0] 32)) = W1 at hs0 hs2 hs3 hs4 hB0 hz0 ⊢
  have HS3 := Lib.hid hs3
  have HS4 := Lib.hid hs4
  have HB0 := Lib.hid hB0
  have HZ0 := Lib.hid hz0
  have HS2 := Lib.hid hs2
  have HS0 := Lib.hid hs0
  clear hs0 hs2 hs3 hs4 hB0 g1 g2 g3 hz0
  go_loopw [3, 32] (fun g i wr => ∃ k : Nat, k ≤ cs.length ∧ i = .int .i64 k ∧ g = .bool true ∧ Below W1.heap.size W1 wr) (fun _ i _ => cs.length - (intOf i).toNat)
  case atStart => exact ⟨0, Nat.zero_le _, rfl, rfl, Below.refl _ _⟩
  case round =>
    obtain ⟨k, hk, rfl, rfl, hB⟩ := hrel
    have hs0 : wr.cell? ⟨w.heap.size, 0, none⟩ = some (.int .i64 thr) := (hB.cell (p := ⟨w.heap.size, 0, none⟩) (by have := HZ0.out; simp; omega)).trans HS0.out
    have hwr : w.heap.size < wr.heap.size := by have := hB.size; have := HZ0.out; omega
    by_cases hlt : k < cs.length
    · obtain ⟨b, off, rfl, hbl, hcell⟩ := HCA.out k cs[k] (List.getElem?_eq_getElem hlt)
      have hcb := cells_below (HB0.out.trans (hB.mono (by rw [HZ0.out]; omega))) hbl hcell
      have hx0 := hcb 0 _ rfl
      have hx1 := hcb 1 _ rfl
      have hx2 := hcb 2 _ rfl
      have hx3 := hcb 3 _ rfl
      rw [Nat.add_zero] at hx0
      obtain ⟨q1, q2, q3, q4, q5, q6, q7⟩ := HOK.out.cr k cs[k] (List.getElem?_eq_getElem hlt)
      generalize cs[k] = x at hx0 hx1 hx2 hx3 q1 q2 q3 q4 q5 q6 q7
      obtain ⟨xw, xa, xo, xu⟩ := x
      dsimp only at hx0 hx1 hx2 hx3 q1 q2 q3
      have HB := Lib.hid hB
      clear hcb hcell q4 q5 q6 q7 hB
      go_wp2_with (go_at_call 56; refine (in_any _ _ _ _ (by assumption) (by assumption)).mono ?_; rintro e w' ⟨rfl, rfl⟩)
      go_roundw
      case rel => exact ⟨k + 1, by omega, by go_num, rfl, HB.out.alloc HB.out.size _⟩
      case measure => first | (simp [intOf]; done) | (simp [intOf]; omega)
    · have hs2 : wr.cell? ⟨w.heap.size, 2, none⟩ = some (.slice pa ps.length pc) := (hB.cell (p := ⟨w.heap.size, 2, none⟩) (by have := HZ0.out; simp; omega)).trans HS2.out
      have HB := Lib.hid hB
      clear hB
      go_wp2
      clear hs0 hs2
      go_loopw [3, 54] (fun g i wr2 => ∃ k : Nat, k ≤ ps.length ∧ i = .int .i64 k ∧ g = .bool true ∧ Below W1.heap.size W1 wr2) (fun _ i _ => ps.length - (intOf i).toNat)
      case atStart => exact ⟨0, Nat.zero_le _, rfl, rfl, HB.out⟩
      case round =>
        clear HB hwr
        obtain ⟨k, hk, rfl, rfl, hB⟩ := hrel
        have hs0 : wr.cell? ⟨w.heap.size, 0, none⟩ = some (.int .i64 thr) := (hB.cell (p := ⟨w.heap.size, 0, none⟩) (by have := HZ0.out; simp; omega)).trans HS0.out
        have hwr : w.heap.size < wr.heap.size := by have := hB.size; have := HZ0.out; omega
        by_cases hlt : k < ps.length
        · obtain ⟨b, off, rfl, hbl, hcell⟩ := HPA.out k ps[k] (List.getElem?_eq_getElem hlt)
          have hcb := cells_below (HB0.out.trans (hB.mono (by rw [HZ0.out]; omega))) hbl hcell
          have hx0 := hcb 0 _ rfl
          have hx1 := hcb 1 _ rfl
          have hx2 := hcb 2 _ rfl
          have hx3 := hcb 3 _ rfl
          rw [Nat.add_zero] at hx0
          obtain ⟨q1, q2, q3, q4, q5, q6, q7, q8⟩ := HOK.out.pn k ps[k] (List.getElem?_eq_getElem hlt)
          generalize ps[k] = x at hx0 hx1 hx2 hx3 q1 q2 q3 q4 q5 q6 q7 q8
          obtain ⟨xw, xa, xo, xu⟩ := x
          dsimp only at hx0 hx1 hx2 hx3 q1 q2 q3 q4 q5 q6 q7 q8
          have HB := Lib.hid hB
          clear hcb hcell hB
          go_wp2_with (go_at_call 56; refine (in_any _ _ _ _ (by assumption) (by assumption)).mono ?_; rintro e w' ⟨rfl, rfl⟩)
          go_roundw
          case rel => exact ⟨k + 1, by omega, by go_num, by simp [q8], HB.out.alloc HB.out.size _⟩
          case measure => first | (simp [intOf]; done) | (simp [intOf]; omega)
        · have HB := Lib.hid hB
          clear hB
          go_wp2_with first | (go_at_call 20; refine (begun_any _).mono ?_; rintro e w3 ⟨rfl, hB3⟩; have HB3 := Lib.hid hB3; clear hB3 hs0 hwr) | (refine wpList_store_row rfl 68 _ _ rfl w3.heap.size (lineArr fun p => (p : Int)) rfl rfl _ _ (heap_alloc_new w3 _) (by rw [lineArr_size]; exact info_line) (by rw [lineArr_size]; rfl) (lineArr_one _) ?_; generalize hw4 : World.setRow (World.alloc w3 _) w3.heap.size (lineArr _) = w4; have hst : Ck0 w W1 w3 w4 thr (.slice ca cs.length cc) (.slice pa ps.length pc) := Ck0.of HB0.out HZ0.out HS3.out HS4.out (below_then HB.out HB.out.size HB3.out) hw4; have hs0 := hst.c0; have hs1 := hst.c1; have hs2 := hst.c2; have HST := Lib.hid hst; clear hw4 hst)
          refine (crossings_any57 w3.heap.size thr _ _ w4).mono ?_
          rintro e w5 ⟨rfl, hw5⟩
          have hst5 := Ck1.of HST.out hw5
          have HST5 := Lib.hid hst5
          have HCC : Hid (RdA 4 encX w3 ca cs) := HCA.out.later (HST.out.below.mono (Nat.le_refl _))
          have hLlt := hst5.it.line.lt
          clear hst5 HST hs0 hs1 hs2 hw5 hk hlt
          dsimp only
          go_wp2_with fail
          refine (wpIn_wide (n := 10)).1 ?_
          refine rangeFunc_runs 10 (gf := 64) (lb := #[.pointer (some ⟨w4.heap.size, 0, none⟩), .pointer (some ⟨w4.heap.size + 1, 0, none⟩)]) rfl (enters_of Tryd.func64 (by kernel_rfl) rfl) (yEnc cs) (fun _ => rfl) w3.heap.size hLlt
            (fun y W => cs[y.1]? = some y.2 ∧ ItSt w3 W w4.heap.size (w4.heap.size + 1) w3.heap.size (.slice ca cs.length cc) (lineTo (fun p => (p : Int)) cs y.1))
            (fun W => ItSt w3 W w4.heap.size (w4.heap.size + 1) w3.heap.size (.slice ca cs.length cc) (lineTo (fun p => (p : Int)) cs cs.length)) ?_ (fun W k o h hk => ItSt.putObj HST5.out.it h hk o) ?_ ?_
          · intro l Rec W hbw hrec hY hR
            exact crossings1_in 9 l _ _ _ cc ca cs _ w3 W Rec HCC.out (fun i x hx => by have h := HOK.out.cr i x hx; have := h.lo; have := h.hi; omega) hlen hrec (fun k x W1 hx hI hR1 => hY (k, x) W1 ⟨hx, hI⟩ hR1) (HST5.out.it.later hbw) hR
          · rintro l ⟨k, x⟩ W ⟨hx, hI⟩ hl
            dsimp only at hx hI
            have hLK := HOK.out.line k x hx
            simp only [yEnc, List.zip_toArray, List.zip_cons_cons, List.zip_nil_right, List.foldl_toArray, List.foldl_cons, List.foldl_nil, List.setIfInBounds_toArray, List.set_cons_zero, List.set_cons_succ]
            clear hI hLlt
            generalize lineTo (fun p => (p : Int)) cs k x.at_.toNat = la at hLK ⊢
            generalize lineTo (fun p => (p : Int)) cs k (x.at_.toNat + 1) = lb at hLK ⊢
            obtain ⟨xw, xa, xo, xu⟩ := x
            dsimp only at hLK ⊢
            clear hx
            gi_wp2
            refine ⟨((Below.refl _ _).alloc (Nat.le_refl _) _).alloc (by simp) _, fun o => ?_⟩
            have hr1 : (((W.alloc (.cells #[.int .i64 xw, .int .i64 xa, .int .i64 xo, .int .i64 xu] 74)).alloc (.cells #[.int .i64 la, .int .i64 lb] 54)).putObj l o).heap[W.heap.size]? = some (.cells #[.int .i64 xw, .int .i64 xa, .int .i64 xo, .int .i64 xu] 74 (0, 0)) := (World.putObj_heap_other (by omega)).trans (heap_alloc2_old W _ _)
            have hr2 : (((W.alloc (.cells #[.int .i64 xw, .int .i64 xa, .int .i64 xo, .int .i64 xu] 74)).alloc (.cells #[.int .i64 la, .int .i64 lb] 54)).putObj l o).heap[W.heap.size + 1]? = some (.cells #[.int .i64 la, .int .i64 lb] 54 (0, 0)) := (World.putObj_heap_other (by omega)).trans (heap_alloc2_new W _ _)
            generalize (((W.alloc (.cells #[.int .i64 xw, .int .i64 xa, .int .i64 xo, .int .i64 xu] 74)).alloc (.cells #[.int .i64 la, .int .i64 lb] 54)).putObj l o) = W2 at hr1 hr2 ⊢
            have c2 : W2.cell? ⟨W.heap.size, 2, none⟩ = some (.int .i64 xo) := by rw [cell_of_row _ _ 2 _ _ _ hr1]; rfl
            have c3 : W2.cell? ⟨W.heap.size, 3, none⟩ = some (.int .i64 xu) := by rw [cell_of_row _ _ 3 _ _ _ hr1]; rfl
            have d0 : W2.cell? ⟨W.heap.size + 1, 0, none⟩ = some (.int .i64 la) := by rw [cell_of_row _ _ 0 _ _ _ hr2]; rfl
            have d1 : W2.cell? ⟨W.heap.size + 1, 1, none⟩ = some (.int .i64 lb) := by rw [cell_of_row _ _ 1 _ _ _ hr2]; rfl
            clear hr1 hr2
            have he2 := eq2
            rcases hLK with ⟨rfl, rfl⟩ | ⟨rfl, rfl⟩
            · gi_wp2
              exact Below.refl _ _
            · by_cases hne : xo = xu
              · subst hne
                gi_wp2
                exact Below.refl _ _
              · have hne2 : decide (xu = xo) = false := decide_eq_false (fun e => hne e.symm)
                gi_wp2
                exact Below.refl _ _
          · intro D W hD hF hW
            have hce : W.heap[w.heap.size + 1]? = some (.cells #[.int .i64 0] 32 (0, 0)) := (hF.below.block _ (by have := (Array.getElem?_eq_some_iff.1 HST5.out.e).1; omega)).trans HST5.out.e
            have hc1 : W.cell? ⟨w.heap.size + 1, 0, none⟩ = some (.int .i64 0) := by rw [cell_of_row _ _ 0 _ _ _ hce]; rfl
            have hf1 := frozen_of_row W (w.heap.size + 1) 0 _ _ hce
            go_wp2
            refine ⟨by simp, .inl ⟨_, _, rfl, run_takeDeferred (show (W.setCell ⟨w.heap.size + 1, 0, none⟩ (.int .i64 0)).heap[D]? = _ from (Below.heap_setCell W _ _ _ (show D ≠ w.heap.size + 1 by have := (Array.getElem?_eq_some_iff.1 HST5.out.e).1; omega)).trans hW), ?_⟩⟩
            have hrow : ((W.setCell ⟨w.heap.size + 1, 0, none⟩ (.int .i64 0)).putObj D (.deferred none)).heap[w.heap.size + 1]? = some (.cells #[.int .i64 0] 32 (0, 0)) := (World.putObj_heap_other (by have := (Array.getElem?_eq_some_iff.1 HST5.out.e).1; omega)).trans (heap_setCell_same W _ 0 _ _ _ hce)
            have hb : Below w.heap.size w ((W.setCell ⟨w.heap.size + 1, 0, none⟩ (.int .i64 0)).putObj D (.deferred none)) := by
              have h1 : Below w.heap.size w W := HST5.out.below.trans (hF.below.mono HST5.out.below.size)
              have h2 : Below w.heap.size w (W.setCell ⟨w.heap.size + 1, 0, none⟩ (.int .i64 0)) := h1.setCell (by simp) _
              have hD2 : w.heap.size < D := by have := (Array.getElem?_eq_some_iff.1 HST5.out.e).1; omega
              exact ⟨h2.os, h2.tape, h2.output, by simpa using h2.size, fun i hi => (World.putObj_heap_other (by omega)).trans (h2.block i hi)⟩
            have hcell : ((W.setCell ⟨w.heap.size + 1, 0, none⟩ (.int .i64 0)).putObj D (.deferred none)).cell? ⟨w.heap.size + 1, 0, none⟩ = some (.int .i64 0) := by rw [cell_of_row _ _ 0 _ _ _ hrow]; rfl
            generalize ((W.setCell ⟨w.heap.size + 1, 0, none⟩ (.int .i64 0)).putObj D (.deferred none)) = W9 at hb hcell
            refine ⟨.int .i64 0, ?_, rfl, hb⟩
            simp [results, Tryd.results34, go_sem, hcell]
end Go.Proofs.YtepofpnbgbmihaaDoor

/-
  Touch; SameInts of two lists that are the same.
-/
namespace Go.Proofs.YtepofpnbgbmihaaDoor
open Go.RowKit

def touchB (x y : Wk) : Bool := decide (x.at_ - y.at_ ≤ 1) && decide (y.at_ - x.at_ ≤ 1)
set_option maxHeartbeats 400000 in
theorem touch_any (x y : Wk) (hx0 : 0 ≤ x.at_) (hx1 : x.at_ ≤ 1000) (hy0 : 0 ≤ y.at_) (hy1 : y.at_ ≤ 1000) (w : World) :
    Calls Tryd.prog 16 #[.agg #[.int .i64 x.kind, .int .i64 x.at_, .string x.word], .agg #[.int .i64 y.kind, .int .i64 y.at_, .string y.word]] w fun e w' => e = .returned (.bool (touchB x y)) ∧ Below w.heap.size w w' := by
  obtain ⟨xk, xa, xw⟩ := x
  obtain ⟨yk, ya, yw⟩ := y
  dsimp only at hx0 hx1 hy0 hy1 ⊢
  by_cases h1 : xa - ya ≤ 1
  · have e1 : decide (xa - ya ≤ 1) = true := by simpa using h1
    by_cases h2 : ya - xa ≤ 1
    · have e2 : decide (ya - xa ≤ 1) = true := by simpa using h2
      have HT : Hid (touchB ⟨xk, xa, xw⟩ ⟨yk, ya, yw⟩ = true) := by unfold Hid touchB; dsimp only; rw [e1, e2]; rfl
      go_enter Tryd.func16, Tryd.ntmps16
      go_wp2
      go_ret
      exact ⟨by rw [HT.out]; rfl, ((Below.refl _ _).alloc (Nat.le_refl _) _).alloc (by simp) _⟩
    · have e2 : decide (ya - xa ≤ 1) = false := by simpa using h2
      have HT : Hid (touchB ⟨xk, xa, xw⟩ ⟨yk, ya, yw⟩ = false) := by unfold Hid touchB; dsimp only; rw [e1, e2]; rfl
      go_enter Tryd.func16, Tryd.ntmps16
      go_wp2
      go_ret
      exact ⟨by rw [HT.out]; rfl, ((Below.refl _ _).alloc (Nat.le_refl _) _).alloc (by simp) _⟩
  · have e1 : decide (xa - ya ≤ 1) = false := by simpa using h1
    have HT : Hid (touchB ⟨xk, xa, xw⟩ ⟨yk, ya, yw⟩ = false) := by unfold Hid touchB; dsimp only; rw [e1]; rfl
    go_enter Tryd.func16, Tryd.ntmps16
    go_wp2
    go_ret
    exact ⟨by rw [HT.out]; rfl, ((Below.refl _ _).alloc (Nat.le_refl _) _).alloc (by simp) _⟩

theorem encI_at {w : World} {b o : Nat} {x : Int} (h : ∀ (j : Nat) (u : Value), (encI x)[j]? = some u → w.cell? ⟨b, o + j, none⟩ = some u) :
    w.cell? ⟨b, o, none⟩ = some (.int .i64 x) := h 0 _ rfl

set_option maxHeartbeats 400000 in
theorem sameInts_any (v1 v2 : Value) (xs : List Int) (w : World) (h1 : RdL 1 encI w v1 xs) (h2 : RdL 1 encI w v2 xs) :
    Calls Tryd.prog 11 #[v1, v2] w fun e w' => e = .returned (.bool true) ∧ Below w.heap.size w w' := by
  obtain ⟨a1, c1, rfl, hl1, hc1⟩ := h1.slice
  obtain ⟨a2, c2, rfl, hl2, hc2⟩ := h2.slice
  have HC1 := Lib.hid hc1
  have HC2 := Lib.hid hc2
  clear h1 h2 hc1 hc2
  go_enter Tryd.func11, Tryd.ntmps11
  go_wp2
  go_loopw [5] (fun i wr => ∃ k : Nat, k ≤ xs.length ∧ i = .int .i64 k ∧ Below w.heap.size w wr) (fun i _ => xs.length - (intOf i).toNat)
  case atStart => exact ⟨0, Nat.zero_le _, rfl, Below.refl _ _⟩
  case round =>
    obtain ⟨k, hk, rfl, hB⟩ := hrel
    by_cases hlt : k < xs.length
    · obtain ⟨b1, o1, rfl, hb1, hcell1⟩ := HC1.out k xs[k] (List.getElem?_eq_getElem hlt)
      obtain ⟨b2, o2, rfl, hb2, hcell2⟩ := HC2.out k xs[k] (List.getElem?_eq_getElem hlt)
      have h1 := encI_at (cells_below hB hb1 hcell1)
      have h2 := encI_at (cells_below hB hb2 hcell2)
      rw [Nat.mul_one] at h1 h2
      clear hcell1 hcell2
      generalize xs[k] = x at h1 h2
      have hk0 : (0 : Int) ≤ k := by omega
      have hk1 : (k : Int) < xs.length := by omega
      go_wp2
      go_quiet (fail)
      go_wp2
      go_roundw
      case rel => exact ⟨k + 1, by omega, by go_num, below_drewN hB _⟩
      case measure => first | (simp [intOf]; done) | (simp [intOf]; omega)
    · go_wp2
      go_ret
      exact ⟨rfl, hB⟩
end Go.Proofs.YtepofpnbgbmihaaDoor

/-
  colours.bad, colours.Check of a right cloth and right dyes.
-/
namespace Go.Proofs.YtepofpnbgbmihaaDoor
open Go.RowKit Go.Shelf Go.Proofs.YtepofpnbgbmihaaDoorW.PrintLast
set_option linter.unusedSimpArgs false
set_option linter.unusedVariables false

set_option maxHeartbeats 400000 in
theorem bad1_any (n : Int) (w : World) (h0 : 0 ≤ n) (h1 : n < 16) : Calls Tryd.prog 59 #[.int .i64 n] w fun e w' => e = .returned (.bool false) ∧ w' = w := by
  have g0 : decide (n < 0) = false := decide_eq_false (by omega)
  have g1 : decide (16 ≤ n) = false := decide_eq_false (by omega)
  go_enter Tryd.func59, Tryd.ntmps59
  go_wp2
  go_ret
  exact ⟨rfl, rfl⟩

set_option maxHeartbeats 400000 in
theorem idxInt_any (v : Value) (xs : List Int) (w : World) (hr : RdL 1 encI w v xs) (hall : ∀ (i : Nat) (x : Int), xs[i]? = some x → 0 ≤ x ∧ x < 16) :
    Calls Tryd.prog 65 #[v, .func (.func 59) #[] #[]] w fun e w' => e = .returned (.int .i64 (-1)) ∧ Below w.heap.size w w' := by
  obtain ⟨a, c, rfl, hlen, hc⟩ := hr.slice
  have HC := Lib.hid hc
  have HA := Lib.hid hall
  clear hc hall hr
  go_enter Tryd.func65, Tryd.ntmps65
  go_wp2
  go_loopw [8] (fun i wr => ∃ k : Nat, k ≤ xs.length ∧ i = .int .i64 k ∧ Below w.heap.size w wr) (fun i _ => xs.length - (intOf i).toNat)
  case atStart => exact ⟨0, Nat.zero_le _, rfl, Below.refl _ _⟩
  case round =>
    obtain ⟨k, hk, rfl, hB⟩ := hrel
    by_cases hlt : k < xs.length
    · obtain ⟨b, off, rfl, hbl, hcell⟩ := HC.out k xs[k] (List.getElem?_eq_getElem hlt)
      have h0 := encI_at (cells_below hB hbl hcell)
      obtain ⟨hx0, hx1⟩ := HA.out k xs[k] (List.getElem?_eq_getElem hlt)
      generalize xs[k] = x at h0 hx0 hx1
      rw [Nat.mul_one] at h0
      clear hcell
      go_wp2_with (go_at_call 59; refine (bad1_any _ _ (by assumption) (by assumption)).mono ?_; rintro e w' ⟨rfl, rfl⟩)
      go_roundw
      case rel => exact ⟨k + 1, by omega, by go_num, hB⟩
      case measure => first | (simp [intOf]; done) | (simp [intOf]; omega)
    · go_wp2
      go_ret
      exact ⟨rfl, hB⟩

set_option maxHeartbeats 400000 in
theorem contInt_any (v : Value) (xs : List Int) (w : World) (hr : RdL 1 encI w v xs) (hall : ∀ (i : Nat) (x : Int), xs[i]? = some x → 0 ≤ x ∧ x < 16) :
    Calls Tryd.prog 58 #[v, .func (.func 59) #[] #[]] w fun e w' => e = .returned (.bool false) ∧ Below w.heap.size w w' := by
  have hx := fun w hr => idxInt_any v xs w hr hall
  have HX := Lib.hid hx
  have HR := Lib.hid hr
  clear hx hr hall
  go_enter Tryd.func58, Tryd.ntmps58
  go_wp2_with (go_at_call 65; refine (HX.out _ HR.out).mono ?_; rintro e w' ⟨rfl, hb⟩)
  go_ret
  exact ⟨rfl, hb⟩

set_option maxHeartbeats 400000 in
theorem bad_any (v : Value) (xs : List Int) (w : World) (hr : RdL 1 encI w v xs) (hall : ∀ (i : Nat) (x : Int), xs[i]? = some x → 0 ≤ x ∧ x < 16) :
    Calls Tryd.prog 35 #[v, .int .i64 xs.length] w fun e w' => e = .returned (.bool false) ∧ Below w.heap.size w w' := by
  have hx := fun w hr => contInt_any v xs w hr hall
  have HX := Lib.hid hx
  have HR := Lib.hid hr
  obtain ⟨a, c, rfl, hlen, hc⟩ := hr.slice
  clear hx hr hall hc
  go_enter Tryd.func35, Tryd.ntmps35
  go_wp2_with (go_at_call 58; refine (HX.out _ HR.out).mono ?_; rintro e w' ⟨rfl, hb⟩)
  go_ret
  exact ⟨rfl, hb⟩

set_option maxHeartbeats 400000 in
theorem coCheck_any (thr : Int) (cs : List Crs) (ps : List Pn) (cv pv dv : Value) (ds : List Int) (w : World) (hok : ClothOk thr cs ps) (hc : RdL 4 encX w cv cs) (hp : RdL 4 encP w pv ps)
    (hd : RdL 1 encI w dv ds) (hl : thr = ds.length) (hall : ∀ (i : Nat) (x : Int), ds[i]? = some x → 0 ≤ x ∧ x < 16) :
    Calls Tryd.prog 55 #[.agg #[.int .i64 thr, cv, pv], dv] w fun e w' => e = .returned (.int .i64 0) ∧ Below w.heap.size w w' := by
  subst hl
  have hx := fun w hr => bad_any dv ds w hr hall
  have HX := Lib.hid hx
  have hy := fun w => clCheck_any _ cs ps cv pv w hok
  have HY := Lib.hid hy
  have HC := Lib.hid hc
  have HP := Lib.hid hp
  have HD := Lib.hid hd
  clear hx hy hc hp hd hall hok
  go_enter Tryd.func55, Tryd.ntmps55
  go_wp2_with first | (go_at_call 34; refine (HY.out _ (HC.out.alloc _) (HP.out.alloc _)).mono ?_; rintro e w1 ⟨rfl, hb⟩; have hs0 : w1.cell? ⟨w.heap.size, 0, none⟩ = some (.int .i64 ds.length) := (hb.cell (p := ⟨w.heap.size, 0, none⟩) (by simp)).trans (by simp [World.cell?_alloc_at]); have hR1 := (HD.out.alloc (.cells #[.int .i64 ds.length, cv, pv] 41)).later hb; have HR1 := Lib.hid hR1; clear hR1) | (go_at_call 35; refine (HX.out _ HR1.out).mono ?_; rintro e w' ⟨rfl, hb2⟩)
  go_ret
  exact ⟨rfl, ((Below.refl _ _).alloc (Nat.le_refl _) _).trans ((hb.trans (hb2.mono hb.size)).mono (by simp))⟩
end Go.Proofs.YtepofpnbgbmihaaDoor

/-
  colours.Seen: of each crossing the dye of the thread over.
-/
namespace Go.Proofs.YtepofpnbgbmihaaDoor
open Go.RowKit Go.Shelf Go.Proofs.YtepofpnbgbmihaaDoorW.PrintLast
set_option linter.unusedSimpArgs false
set_option linter.unusedVariables false

set_option maxHeartbeats 1000000 in
theorem seen1_any (B base : Nat) (i o u : Int) (v : Value) (xs : List Int) (w : World) (hbase : base ≤ w.heap.size) (hxs : xs.length < 1000000)
    (hB : w.heap[B]? = some (.cells #[v] 35 (0, 0))) (hO : OwnI w base v xs) :
    Calls Tryd.prog 33 #[.int .i64 i, .int .i64 o, .int .i64 u, .pointer (some ⟨B, 0, none⟩)] w fun e w' => e = .returned (.tuple #[]) ∧
      (∃ v', w'.heap[B]? = some (.cells #[v'] 35 (0, 0)) ∧ OwnI w' base v' (xs ++ [o])) ∧ Kp w w' (fun k => k = B ∨ v.ownBlock = some k) := by
  have hcB : w.cell? ⟨B, 0, none⟩ = some v := by rw [cell_of_row w B 0 _ _ _ hB]; rfl
  have hfB := frozen_of_row w B 0 _ _ hB
  have hnB := own_type_ne hO hB (by decide)
  have hBlt : B < w.heap.size := (Array.getElem?_eq_some_iff.1 hB).1
  have hl : xs.length < 1000000000 := by omega
  have HnB := Lib.hid hnB
  have HB := Lib.hid hB
  have HO := Lib.hid hO
  have HL := Lib.hid hl
  clear hnB hB hO hxs hl
  go_enter Tryd.func33, Tryd.ntmps33
  go_wp2_with (at_builtin; go_must (refine app_int rfl _ _ rfl base v xs rfl HO.out 1 o _ rfl rfl HL.out hbase rfl ?_); intro v2 w2 hown2 hg2 hv2 hat2; obtain ⟨g2, c2, rfl⟩ := hown2.some_ hv2; rw [List.length_append, List.length_singleton] at hown2 hat2; have hf2 : w2.frozen? ⟨B, 0, none⟩ = false := (World.frozen?_of_block (w := w) (hg2.block B hBlt (fun e => HnB.out e.symm))).trans hfB; have hc2 : w2.cell? ⟨B, 0, none⟩ = some v := hg2.cell (w := w) hcB (fun e => HnB.out e.symm); have HO2 := Lib.hid hown2; have HG2 := Lib.hid hg2; have HA2 := Lib.hid hat2; clear hown2 hg2 hat2 hv2)
  go_end0
  have hB2 : w2.heap[B]? = some (.cells #[v] 35 (0, 0)) := (HG2.out.block B hBlt (fun e => HnB.out e.symm)).trans HB.out
  have hne : (Value.slice (some ⟨g2, 0, none⟩) (xs.length + 1) c2).ownBlock ≠ some B := by
    rcases HA2.out with e | ⟨b, e, hb⟩
    · rw [e]; exact HnB.out
    · rw [e]; intro e2; injection e2 with e2; subst e2; exact absurd hBlt (Nat.not_lt.2 hb)
  refine ⟨rfl, ⟨_, heap_setCell_same w2 B 0 _ _ _ hB2, OwnL.kp HO2.out (Kp.setCell w2 ⟨B, 0, none⟩ _ (S := fun k => k = B) rfl) (fun k hk e => hne (e ▸ hk))⟩, ?_⟩
  exact (Kp.of_grown HG2.out (fun k hk => .inr hk)).trans (Kp.setCell w2 ⟨B, 0, none⟩ _ (.inl rfl))

/-- A call of a closure in a region that draws its order. -/
theorem goesV_ {P : Program} {ops : Array Oper} {Q : Exit → Act → World → Prop} {oi : Oper} {N : Option Tmp} {a : Act} {w : World} {K : Act → World → Prop} {f : FuncId} {fn : Func} {x : Operand} {cap : Array Value} {ar : Array Operand} {ts : Array TypeId} (hf : P.funcs[f]? = some fn) (hname : (fn.name == "runtime.NumGoroutine") = false) (hb : fn.body.isSome = true) (args : Array Value)
    (hw : Region.wanted oi (yielded ops a.tmps) = true) (hN : oi.dst = N) (hop : oi.op = .call { callee := .value x, args := ar, argTypes := ts }) (hx : a.eval x = .func (.func f) #[] cap) (hargs : ar.map a.eval ++ cap = args)
    (h : Calls P f args w fun e w' => ∃ v, e = .returned v ∧ K (a.put N v) w') : if Region.wanted oi (yielded ops a.tmps) = true then Oper.wp P oi a w K Q else K (a.put N undef) w := by
  refine call_ f args hw hN ?_ h
  have he := enters_ hf hname hb args w
  unfold execOp
  simp [hop, resolve, Deferred.ofValue, invoke, hx, hargs, he]
/-- What is seen: of each crossing the dye of the thread over. -/
def seenL (cs : List Crs) (ds : List Int) : List Int := cs.map fun x => ds.getD x.over.toNat 0
theorem seenL_take (cs : List Crs) (ds : List Int) (k : Nat) (h : k < cs.length) (y : Int) (hy : ds[cs[k].over.toNat]? = some y) : seenL (cs.take (k + 1)) ds = seenL (cs.take k) ds ++ [y] := by
  rw [List.take_succ_eq_append_getElem h]
  unfold seenL
  rw [List.map_append, List.map_singleton, List.getD_eq_getElem?_getD, hy]; rfl
/-- The elements of a row that is not empty. -/
theorem rdI_open {w : World} {a : Option Addr} {ds : List Int} (h : RdA 1 encI w a ds) (hl : 0 < ds.length) : ∃ b off, a = some ⟨b, off, none⟩ ∧ b < w.heap.size ∧ ∀ i y, ds[i]? = some y → w.cell? ⟨b, off + i, none⟩ = some (.int .i64 y) := by
  obtain ⟨b, off, rfl, hb, _⟩ := h 0 ds[0] (List.getElem?_eq_getElem hl)
  refine ⟨b, off, rfl, hb, fun i y hy => ?_⟩
  obtain ⟨b', off', he, _, hc⟩ := h i y hy
  injection he with he
  injection he with h1 h2 _
  subst h1; subst h2
  have := hc 0 _ rfl
  rwa [Nat.mul_one, Nat.add_zero] at this

structure AskQ (w0 wr : World) (C B base : Nat) (cl : Array Value) (v : Value) (xs : List Int) : Prop where
  c : wr.heap[C]? = some (.cells cl 41 (0, 0))
  b : wr.heap[B]? = some (.cells #[v] 35 (0, 0))
  o : OwnI wr base v xs
  ne : C ≠ B
  ge : w0.heap.size ≤ B
  bs : w0.heap.size ≤ base
  be : base ≤ wr.heap.size
  below : Below w0.heap.size w0 wr
theorem AskQ.later {w0 wr wr' : World} {C B base : Nat} {cl : Array Value} {v : Value} {xs : List Int} (h : AskQ w0 wr C B base cl v xs) (hb : Below wr.heap.size wr wr') : AskQ w0 wr' C B base cl v xs :=
  ⟨(hb.block _ (Array.getElem?_eq_some_iff.1 h.c).1).trans h.c, (hb.block _ (Array.getElem?_eq_some_iff.1 h.b).1).trans h.b, h.o.later hb, h.ne, h.ge, h.bs, Nat.le_trans h.be hb.size, h.below.trans (hb.mono h.below.size)⟩
theorem AskQ.step {w0 wr wr' : World} {C B base : Nat} {cl : Array Value} {v v' : Value} {xs ys : List Int} (h : AskQ w0 wr C B base cl v xs) (hB : wr'.heap[B]? = some (.cells #[v'] 35 (0, 0))) (hO : OwnI wr' base v' ys)
    (hK : Kp wr wr' (fun k => k = B ∨ v.ownBlock = some k)) : AskQ w0 wr' C B base cl v' ys := by
  have hn := own_type_ne h.o h.c (by decide)
  refine ⟨(hK.block _ (Array.getElem?_eq_some_iff.1 h.c).1 ?_).trans h.c, hB, hO, h.ne, h.ge, h.bs, Nat.le_trans h.be hK.size, Kp.below h.below h.below.size hK ?_⟩
  · rintro (e | e)
    · exact h.ne e
    · exact hn e
  · rintro k (e | e)
    · rw [e]; exact h.ge
    · exact Nat.le_trans h.bs (h.o.lt k e).1

set_option maxRecDepth 100000 in
set_option maxHeartbeats 1000000 in
theorem asked_any (w0 w : World) (B : Nat) (thr : Int) (cs : List Crs) (ps : List Pn) (cv pv dv : Value) (ds : List Int) (hok : ClothOk thr cs ps) (hc : RdL 4 encX w0 cv cs) (hp : RdL 4 encP w0 pv ps)
    (hd : RdL 1 encI w0 dv ds) (hl : thr = ds.length) (hall : ∀ (i : Nat) (x : Int), ds[i]? = some x → 0 ≤ x ∧ x < 16) (hB0 : w0.heap.size ≤ B) (hbel : Below w0.heap.size w0 w) (hB : w.heap[B]? = some (.cells #[.slice none 0 0] 35 (0, 0))) :
    Calls Tryd.prog 32 #[.agg #[.int .i64 thr, cv, pv], dv, .func (.func 33) #[] #[.pointer (some ⟨B, 0, none⟩)]] w fun e w' => e = .returned (.int .i64 0) ∧
      (∃ v, w'.heap[B]? = some (.cells #[v] 35 (0, 0)) ∧ OwnI w' w0.heap.size v (seenL cs ds)) ∧ Below w0.heap.size w0 w' := by
  subst hl
  have hy := fun w hc hp hd => coCheck_any _ cs ps cv pv dv ds w hok hc hp hd rfl hall
  have HY := Lib.hid hy
  have HRC := Lib.hid hc
  have HRP := Lib.hid hp
  have HRD := Lib.hid hd
  have HOK := Lib.hid hok
  have HB := Lib.hid hB
  have HBEL := Lib.hid hbel
  obtain ⟨ca, cc, rfl, hlen, hca⟩ := hc.slice
  obtain ⟨da, dc, rfl, hdlen, hda⟩ := hd.slice
  have hl2 := hok.t2
  have hl3 := hok.t48
  obtain ⟨db, doff, rfl, hdb, hdy⟩ := rdI_open hda (by omega)
  have HCA := Lib.hid hca
  have HDY := Lib.hid hdy
  clear hy hc hp hd hok hB hbel hca hda hdy hall
  go_enter Tryd.func32, Tryd.ntmps32
  go_wp2_with (go_at_call 55; refine (HY.out _ ((HRC.out.later HBEL.out).alloc _) ((HRP.out.later HBEL.out).alloc _) ((HRD.out.later HBEL.out).alloc _)).mono ?_; rintro e w1 ⟨rfl, hb⟩; have hs1 : w1.cell? ⟨w.heap.size, 1, none⟩ = some (.slice ca cs.length cc) := (hb.cell (p := ⟨w.heap.size, 1, none⟩) (by simp)).trans (by simp [World.cell?_alloc_at]); have HBB := Lib.hid hb; clear hb)
  have hQ0 : AskQ w0 w1 w.heap.size B (w.heap.size + 1) #[.int .i64 ds.length, .slice ca cs.length cc, pv] (.slice none 0 0) (seenL (cs.take 0) ds) := by
    have h0 : AskQ w0 (w.alloc (.cells #[.int .i64 ds.length, .slice ca cs.length cc, pv] 41)) w.heap.size B (w.heap.size + 1) #[.int .i64 ds.length, .slice ca cs.length cc, pv] (.slice none 0 0) [] :=
      ⟨World.alloc_heap_new _ _, (Below.heap_alloc _ _ _ (Array.getElem?_eq_some_iff.1 HB.out).1).trans HB.out, OwnL.nil, by have := (Array.getElem?_eq_some_iff.1 HB.out).1; omega, hB0, by have := HBEL.out.size; omega, by simp, HBEL.out.trans ((Below.refl _ w).alloc (Nat.le_refl _) _ |>.mono HBEL.out.size)⟩
    exact h0.later HBB.out
  have HQ0 := Lib.hid hQ0
  clear hQ0 hs1 HBB HY HRP HRC HRD HB HBEL
  go_loopw [19] (fun i wr => ∃ k : Nat, k ≤ cs.length ∧ i = .int .i64 k ∧ ∃ v, AskQ w0 wr w.heap.size B (w.heap.size + 1) #[.int .i64 ds.length, .slice ca cs.length cc, pv] v (seenL (cs.take k) ds)) (fun i _ => cs.length - (intOf i).toNat)
  case atStart => exact ⟨0, Nat.zero_le _, rfl, _, HQ0.out⟩
  case round =>
    clear HQ0
    obtain ⟨k, hk, rfl, v, hQ⟩ := hrel
    have hs1 : wr.cell? ⟨w.heap.size, 1, none⟩ = some (.slice ca cs.length cc) := by rw [cell_of_row _ _ 1 _ _ _ hQ.c]; rfl
    by_cases hlt : k < cs.length
    · obtain ⟨b, off, rfl, hbl, hcell⟩ := HCA.out k cs[k] (List.getElem?_eq_getElem hlt)
      have hcb := cells_below hQ.below hbl hcell
      have hx0 := hcb 0 _ rfl
      have hx1 := hcb 1 _ rfl
      have hx2 := hcb 2 _ rfl
      have hx3 := hcb 3 _ rfl
      rw [Nat.add_zero] at hx0
      obtain ⟨-, -, -, q4, q5, q6, q7⟩ := HOK.out.cr k cs[k] (List.getElem?_eq_getElem hlt)
      have hsl : (seenL (cs.take k) ds).length < 1000000 := by have := HOK.out.nc; simp [seenL]; omega
      have hst := fun y hy => seenL_take cs ds k hlt y hy
      generalize cs[k] = x at hx0 hx1 hx2 hx3 q4 q5 q6 q7 hst
      obtain ⟨xw, xa, xo, xu⟩ := x
      dsimp only at hx0 hx1 hx2 hx3 q4 q5 q6 q7 hst
      obtain ⟨o, rfl⟩ := Int.eq_ofNat_of_zero_le q4
      obtain ⟨u, rfl⟩ := Int.eq_ofNat_of_zero_le q6
      have ho : o < ds.length := by omega
      have hu : u < ds.length := by omega
      have hyo := (hQ.below.cell (p := ⟨db, doff + o, none⟩) hdb).trans (HDY.out o _ (List.getElem?_eq_getElem ho))
      have hyu := (hQ.below.cell (p := ⟨db, doff + u, none⟩) hdb).trans (HDY.out u _ (List.getElem?_eq_getElem hu))
      have hst2 := hst ds[o] (by simp)
      have HST := Lib.hid hst2
      have hdbl : db < wr.heap.size := Nat.lt_of_lt_of_le hdb hQ.below.size
      generalize ds[o] = yo at hyo HST hst2
      generalize ds[u] = yu at hyu
      have HQ := Lib.hid (hQ.later ((Below.refl _ _).alloc (Nat.le_refl _) (.cells #[.int .i64 xw, .int .i64 xa, .int .i64 o, .int .i64 u] 74)))
      have HSL := Lib.hid hsl
      clear hcb hcell hst hst2 hsl hQ
      have hq5 : (decide ((o : Int) < ds.length)) = true := decide_eq_true q5
      have hq7 : (decide ((u : Int) < ds.length)) = true := decide_eq_true q7
      go_wp2
      have hc2 : (wr.alloc (.cells #[.int .i64 xw, .int .i64 xa, .int .i64 o, .int .i64 u] 74)).drew.cell? ⟨wr.heap.size, 2, none⟩ = some (.int .i64 o) := by simp [World.cell?_alloc_at]
      have hc3 : (wr.alloc (.cells #[.int .i64 xw, .int .i64 xa, .int .i64 o, .int .i64 u] 74)).drew.cell? ⟨wr.heap.size, 3, none⟩ = some (.int .i64 u) := by simp [World.cell?_alloc_at]
      have hyo2 : (wr.alloc (.cells #[.int .i64 xw, .int .i64 xa, .int .i64 o, .int .i64 u] 74)).drew.cell? ⟨db, doff + o, none⟩ = some (.int .i64 yo) := (World.cell?_alloc_lt _ _ ⟨db, doff + o, none⟩ hdbl).trans hyo
      have hyu2 : (wr.alloc (.cells #[.int .i64 xw, .int .i64 xa, .int .i64 o, .int .i64 u] 74)).drew.cell? ⟨db, doff + u, none⟩ = some (.int .i64 yu) := (World.cell?_alloc_lt _ _ ⟨db, doff + u, none⟩ hdbl).trans hyu
      have hQd := HQ.out.later ((Below.refl _ _).drew)
      have HQD := Lib.hid hQd
      clear hQd hs1 hx0 hx1 hx2 hx3 hyo hyu HQ
      refine start_ (n := 13) (S := fun w' => w'.cell? ⟨wr.heap.size, 2, none⟩ = some (.int .i64 o) ∧ w'.cell? ⟨wr.heap.size, 3, none⟩ = some (.int .i64 u) ∧ w'.cell? ⟨db, doff + o, none⟩ = some (.int .i64 yo) ∧ w'.cell? ⟨db, doff + u, none⟩ = some (.int .i64 yu)) (ds := [12]) #[false, false, false, false, false, false, false, false, false, false, false, false, false] (by kernel_rfl) rfl rfl ⟨hc2, hc3, hyo2, hyu2⟩ (fun hHeld => ?_)
      refine pure_ (i := 0) (N := some 27) (v := ?_) (a' := ?_) #[true, false, false, false, false, false, false, false, false, false, false, false, false] rfl rfl (by kernel_rfl) (fun _ _ _ h => h) (Or.inl ⟨by rfl, ?_⟩) ?_ ?_
      rotate_left
      · intro w'
        go_simp
        with_reducible rfl
      rotate_left
      · simp only [Act.put, List.setIfInBounds_toArray, List.set_cons_zero, List.set_cons_succ, i64_w, i32_w]
        rfl
      refine pure_ (i := 1) (N := some 28) (v := ?_) (a' := ?_) #[true, true, false, false, false, false, false, false, false, false, false, false, false] rfl rfl (by kernel_rfl) (fun _ _ _ h => h) (Or.inl ⟨by rfl, ?_⟩) ?_ ?_
      rotate_left
      · intro w'
        go_simp
        with_reducible rfl
      rotate_left
      · simp only [Act.put, List.setIfInBounds_toArray, List.set_cons_zero, List.set_cons_succ, i64_w, i32_w]
        rfl
      refine pure_ (i := 2) (N := some 29) (v := ?_) (a' := ?_) #[true, true, true, false, false, false, false, false, false, false, false, false, false] rfl rfl (by kernel_rfl) (fun _ _ _ h => h) (Or.inl ⟨by rfl, ?_⟩) ?_ ?_
      rotate_left
      · intro w'
        go_simp
        with_reducible rfl
      rotate_left
      · simp only [Act.put, List.setIfInBounds_toArray, List.set_cons_zero, List.set_cons_succ, i64_w, i32_w]
        rfl
      refine pure_ (i := 3) (N := some 30) (v := ?_) (a' := ?_) #[true, true, true, true, false, false, false, false, false, false, false, false, false] rfl rfl (by kernel_rfl) (fun _ _ _ h => h) (Or.inl ⟨by rfl, ?_⟩) ?_ ?_
      rotate_left
      · intro w'
        go_simp
        with_reducible rfl
      rotate_left
      · simp only [Act.put, List.setIfInBounds_toArray, List.set_cons_zero, List.set_cons_succ, i64_w, i32_w]
        rfl
      refine pure_ (i := 7) (N := some 34) (v := ?_) (a' := ?_) #[true, true, true, true, false, false, false, true, false, false, false, false, false] rfl rfl (by kernel_rfl) (fun _ _ _ h => h) (Or.inl ⟨by rfl, ?_⟩) ?_ ?_
      rotate_left
      · intro w'
        go_simp
        with_reducible rfl
      rotate_left
      · simp only [Act.put, List.setIfInBounds_toArray, List.set_cons_zero, List.set_cons_succ, i64_w, i32_w]
        rfl
      refine pure_ (i := 8) (N := some 35) (v := ?_) (a' := ?_) #[true, true, true, true, false, false, false, true, true, false, false, false, false] rfl rfl (by kernel_rfl) (fun _ _ _ h => h) (Or.inl ⟨by rfl, ?_⟩) ?_ ?_
      rotate_left
      · intro w'
        go_simp
        with_reducible rfl
      rotate_left
      · simp only [Act.put, List.setIfInBounds_toArray, List.set_cons_zero, List.set_cons_succ, i64_w, i32_w]
        rfl
      refine take_ (i := 4) (N := some 31) (v := ?_) (a' := ?_) #[true, true, true, true, true, false, false, true, true, false, false, false, false] rfl rfl (by kernel_rfl) (fun _ _ _ h => h) (Or.inl ⟨by rfl, ?_⟩) hHeld ?_ ?_
      rotate_left
      · rintro w' ⟨s0, s1, s2, s3⟩
        go_simp
        with_reducible rfl
      rotate_left
      · simp only [Act.put, List.setIfInBounds_toArray, List.set_cons_zero, List.set_cons_succ, i64_w, i32_w]
        rfl
      refine pure_ (i := 5) (N := some 32) (v := ?_) (a' := ?_) #[true, true, true, true, true, true, false, true, true, false, false, false, false] rfl rfl (by kernel_rfl) (fun _ _ _ h => h) (Or.inl ⟨by rfl, ?_⟩) ?_ ?_
      rotate_left
      · intro w'
        go_simp
        with_reducible rfl
      rotate_left
      · simp only [Act.put, List.setIfInBounds_toArray, List.set_cons_zero, List.set_cons_succ, i64_w, i32_w]
        rfl
      refine take_ (i := 6) (N := some 33) (v := ?_) (a' := ?_) #[true, true, true, true, true, true, true, true, true, false, false, false, false] rfl rfl (by kernel_rfl) (fun _ _ _ h => h) (Or.inl ⟨by rfl, ?_⟩) hHeld ?_ ?_
      rotate_left
      · rintro w' ⟨s0, s1, s2, s3⟩
        go_simp
        with_reducible rfl
      rotate_left
      · simp only [Act.put, List.setIfInBounds_toArray, List.set_cons_zero, List.set_cons_succ, i64_w, i32_w]
        rfl
      refine take_ (i := 9) (N := some 36) (v := ?_) (a' := ?_) #[true, true, true, true, true, true, true, true, true, true, false, false, false] rfl rfl (by kernel_rfl) (fun _ _ _ h => h) (Or.inl ⟨by rfl, ?_⟩) hHeld ?_ ?_
      rotate_left
      · rintro w' ⟨s0, s1, s2, s3⟩
        go_simp
        with_reducible rfl
      rotate_left
      · simp only [Act.put, List.setIfInBounds_toArray, List.set_cons_zero, List.set_cons_succ, i64_w, i32_w]
        rfl
      refine pure_ (i := 10) (N := some 37) (v := ?_) (a' := ?_) #[true, true, true, true, true, true, true, true, true, true, true, false, false] rfl rfl (by kernel_rfl) (fun _ _ _ h => h) (Or.inl ⟨by rfl, ?_⟩) ?_ ?_
      rotate_left
      · intro w'
        go_simp
        with_reducible rfl
      rotate_left
      · simp only [Act.put, List.setIfInBounds_toArray, List.set_cons_zero, List.set_cons_succ, i64_w, i32_w]
        rfl
      refine take_ (i := 11) (N := some 38) (v := ?_) (a' := ?_) #[true, true, true, true, true, true, true, true, true, true, true, true, false] rfl rfl (by kernel_rfl) (fun _ _ _ h => h) (Or.inl ⟨by rfl, ?_⟩) hHeld ?_ ?_
      rotate_left
      · rintro w' ⟨s0, s1, s2, s3⟩
        go_simp
        with_reducible rfl
      rotate_left
      · simp only [Act.put, List.setIfInBounds_toArray, List.set_cons_zero, List.set_cons_succ, i64_w, i32_w]
        rfl
      refine last_ (i := 12) (N := some 39) #[true, true, true, true, true, true, true, true, true, true, true, true, true] rfl rfl (by kernel_rfl) (by decide) (fun K hK => ?_)
      refine goesV_ Tryd.func33 (by kernel_rfl) rfl #[.int .i64 k, .int .i64 yo, .int .i64 yu, .pointer (some ⟨B, 0, none⟩)] (by rfl) rfl rfl rfl (by simp only [List.map_toArray, List.map_cons, List.map_nil]; rfl) ?_
      with_reducible refine (seen1_any B (w.heap.size + 1) _ _ _ _ _ _ HQD.out.be HSL.out HQD.out.b HQD.out.o).mono ?_
      rintro e w3 ⟨rfl, ⟨v3, hb3, ho3⟩, hk3⟩
      refine ⟨_, rfl, ?_⟩
      have HQ3 := Lib.hid (HQD.out.step hb3 ho3 hk3)
      clear hb3 ho3 hk3
      refine hK.out _ _ ?_
      clear hK K
      refine norm_ (a' := ?_) ?_ ?_
      rotate_left
      · show Act.put _ (some 39) _ = _
        simp only [Act.put, List.setIfInBounds_toArray, List.set_cons_zero, List.set_cons_succ, i64_w, i32_w]
        rfl
      refine done_ (by kernel_rfl) ?_
      go_wp2
      go_roundw
      case rel => exact ⟨k + 1, by omega, by go_num, _, by rw [HST.out]; exact HQ3.out⟩
      case measure => first | (simp [intOf]; done) | (simp [intOf]; omega)
    · have hE : cs.take k = cs := List.take_of_length_le (by omega)
      rw [hE] at hQ
      have HQ := Lib.hid hQ
      clear hQ
      go_wp2
      go_ret
      exact ⟨rfl, ⟨v, HQ.out.b, HQ.out.o.lower HQ.out.bs⟩, HQ.out.below⟩
end Go.Proofs.YtepofpnbgbmihaaDoor

/-
  colours.Seen.
-/
namespace Go.Proofs.YtepofpnbgbmihaaDoor
open Go.RowKit Go.Shelf Go.Proofs.YtepofpnbgbmihaaDoorW.PrintLast
set_option linter.unusedSimpArgs false
set_option linter.unusedVariables false

set_option maxRecDepth 100000 in
set_option maxHeartbeats 1000000 in
theorem seen_any (thr : Int) (cs : List Crs) (ps : List Pn) (cv pv dv : Value) (ds : List Int) (w : World) (hok : ClothOk thr cs ps) (hc : RdL 4 encX w cv cs) (hp : RdL 4 encP w pv ps)
    (hd : RdL 1 encI w dv ds) (hl : thr = ds.length) (hall : ∀ (i : Nat) (x : Int), ds[i]? = some x → 0 ≤ x ∧ x < 16) :
    Calls Tryd.prog 13 #[.agg #[.int .i64 thr, cv, pv], dv] w fun e w' => ∃ v, e = .returned (.tuple #[v, .int .i64 0]) ∧ OwnI w' w.heap.size v (seenL cs ds) ∧ Below w.heap.size w w' := by
  subst hl
  have hy := fun w1 B h1 h2 h3 => asked_any w w1 B _ cs ps cv pv dv ds hok hc hp hd rfl hall h1 h2 h3
  have HY := Lib.hid hy
  clear hy hok hc hp hd hall
  go_enter Tryd.func13, Tryd.ntmps13
  go_wp2_with fail
  refine (HY.out _ _ (by omega) (((Below.refl _ _).alloc (Nat.le_refl _) _).alloc (by simp) _) (heap_alloc2_new _ _ _)).mono ?_
  rintro e w1 ⟨rfl, ⟨v, hv, ho⟩, hb⟩
  obtain ⟨va, vc, rfl, -⟩ := ho.slice
  have hs1 : w1.cell? ⟨w.heap.size + 1, 0, none⟩ = some (.slice va (seenL cs ds).length vc) := by rw [cell_of_row _ _ 0 _ _ _ hv]; rfl
  have hf1 := frozen_of_row w1 (w.heap.size + 1) 0 _ _ hv
  have HV := Lib.hid hv
  have HO := Lib.hid ho
  have HB := Lib.hid hb
  clear hv ho hb HY
  dsimp only
  go_wp2
  have hrow := heap_setCell_same w1 (w.heap.size + 1) 0 _ _ (.slice va (seenL cs ds).length vc) HV.out
  have hne := own_type_ne HO.out HV.out (by decide)
  have hO2 := OwnL.kp HO.out (Kp.setCell w1 ⟨w.heap.size + 1, 0, none⟩ (.slice va (seenL cs ds).length vc) (S := fun k => k = w.heap.size + 1) rfl) (fun k hk e => hne (e ▸ hk))
  have hB2 := HB.out.setCell (p := ⟨w.heap.size + 1, 0, none⟩) (by simp) (.slice va (seenL cs ds).length vc)
  generalize (w1.setCell ⟨w.heap.size + 1, 0, none⟩ (.slice va (seenL cs ds).length vc)) = w2 at hrow hO2 hB2 ⊢
  have hc2 : w2.cell? ⟨w.heap.size + 1, 0, none⟩ = some (.slice va (seenL cs ds).length vc) := by rw [cell_of_row _ _ 0 _ _ _ hrow]; rfl
  refine bodyPost_ret (v := .tuple #[.slice va (seenL cs ds).length vc, .int .i64 0]) (by simp [results, Tryd.results13, go_sem, hc2]) rfl ⟨_, rfl, hO2, hB2⟩
end Go.Proofs.YtepofpnbgbmihaaDoor

/-
  traces.row: for each place of the line the works that take it.
-/
namespace Go.Proofs.YtepofpnbgbmihaaDoor
open Go.RowKit Go.Proofs.YtepofpnbgbmihaaDoorW.PrintLast
set_option linter.unusedSimpArgs false
set_option linter.unusedVariables false

def NeRow (v v' : Value) : Prop := ∀ k, v.ownBlock = some k → v'.ownBlock ≠ some k
theorem NeRow.symm {v v' : Value} (h : NeRow v v') : NeRow v' v := fun k h1 h2 => h k h2 h1
theorem NeRow.other {v v' : Value} (h : NeRow v v') : v'.ownBlock = none ∨ v'.ownBlock ≠ v.ownBlock := by
  cases hv : v'.ownBlock with
  | none => exact .inl rfl
  | some k => exact .inr fun e => h k e.symm hv

/-- Block R holds 24 slices, each of the call's own, that hold the lists of ρ; no two of them share a block. -/
structure RowsIs (w : World) (R base : Nat) (ρ : Nat → List Int) (f : Nat → Value) : Prop where
  cell : ∀ p, p < 24 → w.cell? ⟨R, p, none⟩ = some (f p)
  own : ∀ p, p < 24 → OwnI w base (f p) (ρ p)
  off : ∀ p, p < 24 → (f p).ownBlock ≠ some R
  ne : ∀ p q, p < 24 → q < 24 → p ≠ q → NeRow (f p) (f q)
  free : ∀ p, w.frozen? ⟨R, p, none⟩ = false
  lt : R < w.heap.size

def upd {α : Type} (ρ : Nat → α) (p : Nat) (x : α) : Nat → α := fun q => if q = p then x else ρ q
theorem upd_self {α : Type} (ρ : Nat → α) (p : Nat) (x : α) : upd ρ p x p = x := by simp [upd]
theorem upd_ne {α : Type} (ρ : Nat → α) (p q : Nat) (x : α) (h : q ≠ p) : upd ρ p x q = ρ q := by simp [upd, h]

theorem RowsIs.later {w w' : World} {R base : Nat} {ρ : Nat → List Int} {f : Nat → Value} (h : RowsIs w R base ρ f) (hb : Below w.heap.size w w') : RowsIs w' R base ρ f :=
  ⟨fun p hp => (hb.cell (p := ⟨R, p, none⟩) h.lt).trans (h.cell p hp), fun p hp => (h.own p hp).later hb, h.off, h.ne, fun p => (hb.frozen (p := ⟨R, p, none⟩) h.lt).trans (h.free p), Nat.lt_of_lt_of_le h.lt hb.size⟩

/-- Behind an append to the slice of place p, and its store. -/
theorem RowsIs.step {w w1 : World} {R base : Nat} {ρ : Nat → List Int} {f : Nat → Value} (h : RowsIs w R base ρ f) {p : Nat} (hp : p < 24) {v1 : Value} {xs : List Int}
    (ho : OwnI w1 base v1 xs) (hg : w.grownBy w1 (f p).ownBlock) (hat : Hat w (f p) v1) : RowsIs (w1.setCell ⟨R, p, none⟩ v1) R base (upd ρ p xs) (upd f p v1) := by
  have hRne : some R ≠ (f p).ownBlock := fun e => h.off p hp e.symm
  have hlt1 : R < w1.heap.size := Nat.lt_of_lt_of_le h.lt hg.size
  have hset : ∀ k, k ≠ R → (w1.setCell ⟨R, p, none⟩ v1).heap[k]? = w1.heap[k]? := fun k hk => Below.heap_setCell w1 ⟨R, p, none⟩ v1 k hk
  have hkeep : ∀ {v : Value} {ys : List Int}, OwnI w1 base v ys → v.ownBlock ≠ some R → OwnI (w1.setCell ⟨R, p, none⟩ v1) base v ys := fun {v ys} hv hne =>
    OwnL.kept hv (row := some R) ⟨rfl, rfl, rfl, by simp [World.setCell], fun k _ hk => hset k (fun e => hk (by rw [e]))⟩ (.inr hne)
  have hoff1 : v1.ownBlock ≠ some R := by
    rcases hat with e | ⟨b, e, hb⟩
    · rw [e]; exact h.off p hp
    · rw [e]; intro e2; injection e2 with e2; have := h.lt; omega
  have hcR : ∀ q, q < 24 → w1.cell? ⟨R, q, none⟩ = some (f q) := fun q hq => hg.cell (h.cell q hq) hRne
  have hne1 : ∀ q, q < 24 → q ≠ p → NeRow v1 (f q) := by
    intro q hq hqp k hk
    rcases hat with e | ⟨b, e, hb⟩
    · exact h.ne p q hp hq (fun e => hqp e.symm) k (e ▸ hk)
    · intro hk2
      rw [e] at hk
      injection hk with hk
      have := (h.own q hq).lt k hk2
      omega
  refine ⟨fun q hq => ?_, fun q hq => ?_, fun q hq => ?_, fun q r hq hr hqr => ?_, fun q => ?_, by simpa [World.setCell] using hlt1⟩
  · by_cases e : q = p
    · subst e
      rw [upd_self]
      exact World.cell?_setCell_same w1 ⟨R, q, none⟩ v1 (hcR q hq)
    · rw [upd_ne _ _ _ _ e]
      exact (World.cell?_setCell_other (w := w1) (a := ⟨R, p, none⟩) (b := ⟨R, q, none⟩) (v := v1) (by intro h2; injection h2 with _ h3; exact e h3.symm)).trans (hcR q hq)
  · by_cases e : q = p
    · subst e
      rw [upd_self, upd_self]
      exact hkeep ho hoff1
    · rw [upd_ne _ _ _ _ e, upd_ne _ _ _ _ e]
      exact hkeep (OwnL.kept (h.own q hq) hg (h.ne p q hp hq (Ne.symm e)).other) (h.off q hq)
  · by_cases e : q = p
    · subst e; rw [upd_self]; exact hoff1
    · rw [upd_ne _ _ _ _ e]; exact h.off q hq
  · by_cases e : q = p
    · subst e
      rw [upd_self, upd_ne _ _ _ _ (Ne.symm hqr)]
      exact hne1 r hr (Ne.symm hqr)
    · rw [upd_ne _ _ _ _ e]
      by_cases e2 : r = p
      · subst e2
        rw [upd_self]
        exact (hne1 q hq e).symm
      · rw [upd_ne _ _ _ _ e2]
        exact h.ne q r hq hr hqr
  · rw [World.frozen?_setCell]
    exact (World.frozen?_of_block (w := w) (hg.block R h.lt hRne)).trans (h.free q)

/-- Work k takes the places q and q + 1. -/
def stepRow (ρ : Nat → List Int) (q k : Nat) : Nat → List Int := upd (upd ρ q (ρ q ++ [(k : Int)])) (q + 1) (ρ (q + 1) ++ [(k : Int)])
/-- The works that take a place, in their order, among the first k. -/
def rowsTo (ws : List Wk) : Nat → Nat → List Int
  | 0 => fun _ => []
  | k + 1 => match ws[k]? with
    | some x => stepRow (rowsTo ws k) x.at_.toNat k
    | none => rowsTo ws k
theorem rowsTo_len (ws : List Wk) (k p : Nat) : (rowsTo ws k p).length ≤ 2 * k := by
  induction k generalizing p with
  | zero => simp [rowsTo]
  | succ k ih =>
    cases hx : ws[k]? with
    | some x =>
      have e : rowsTo ws (k + 1) = stepRow (rowsTo ws k) x.at_.toNat k := by show (match ws[k]? with | some x => stepRow (rowsTo ws k) x.at_.toNat k | none => rowsTo ws k) = _; rw [hx]
      rw [e]
      unfold stepRow upd
      have h1 := ih p
      have h2 := ih x.at_.toNat
      have h3 := ih (x.at_.toNat + 1)
      split
      · rw [List.length_append, List.length_singleton]; omega
      · split
        · rw [List.length_append, List.length_singleton]; omega
        · omega
    | none =>
      have e : rowsTo ws (k + 1) = rowsTo ws k := by show (match ws[k]? with | some x => stepRow (rowsTo ws k) x.at_.toNat k | none => rowsTo ws k) = _; rw [hx]
      rw [e]
      have := ih p
      omega
theorem rowsTo_succ (ws : List Wk) (k : Nat) (x : Wk) (h : ws[k]? = some x) : rowsTo ws (k + 1) = stepRow (rowsTo ws k) x.at_.toNat k := by
  show (match ws[k]? with | some x => stepRow (rowsTo ws k) x.at_.toNat k | none => rowsTo ws k) = _
  rw [h]

theorem rowsIs_new (w : World) : RowsIs (w.alloc (.cells #[.slice none 0 0, .slice none 0 0, .slice none 0 0, .slice none 0 0, .slice none 0 0, .slice none 0 0, .slice none 0 0, .slice none 0 0, .slice none 0 0, .slice none 0 0, .slice none 0 0, .slice none 0 0, .slice none 0 0, .slice none 0 0, .slice none 0 0, .slice none 0 0, .slice none 0 0, .slice none 0 0, .slice none 0 0, .slice none 0 0, .slice none 0 0, .slice none 0 0, .slice none 0 0, .slice none 0 0] 123)) w.heap.size w.heap.size (fun _ => []) (fun _ => .slice none 0 0) :=
  ⟨fun p hp => by
      rw [World.cell?_alloc_at _ _ _ _ rfl]
      obtain rfl | rfl | rfl | rfl | rfl | rfl | rfl | rfl | rfl | rfl | rfl | rfl | rfl | rfl | rfl | rfl | rfl | rfl | rfl | rfl | rfl | rfl | rfl | rfl : p = 0 ∨ p = 1 ∨ p = 2 ∨ p = 3 ∨ p = 4 ∨ p = 5 ∨ p = 6 ∨ p = 7 ∨ p = 8 ∨ p = 9 ∨ p = 10 ∨ p = 11 ∨ p = 12 ∨ p = 13 ∨ p = 14 ∨ p = 15 ∨ p = 16 ∨ p = 17 ∨ p = 18 ∨ p = 19 ∨ p = 20 ∨ p = 21 ∨ p = 22 ∨ p = 23 := by omega
      all_goals rfl, fun _ _ => OwnL.nil, fun _ _ => by simp [Value.ownBlock], fun _ _ _ _ _ k hk => by simp [Value.ownBlock] at hk, fun p => World.frozen?_alloc_at _ _ _ _ rfl, by simp⟩

set_option maxRecDepth 100000 in
set_option maxHeartbeats 2000000 in
theorem row_any (ws : List Wk) (pr : Int) (b : Nat) (v : Value) (w : World) (hp2 : pr ≤ 24) (hwl : ws.length ≤ 400) (hall : ∀ (i : Nat) (x : Wk), ws[i]? = some x → 0 ≤ x.at_ ∧ x.at_ ≤ pr - 2)
    (hc0 : w.cell? ⟨b, 1, none⟩ = some v) (hbl : b < w.heap.size) (hr : RdL 3 encW w v ws) :
    Calls Tryd.prog 39 #[.pointer (some ⟨b, 0, none⟩)] w fun e w' => e = .returned (.pointer (some ⟨w.heap.size, 0, none⟩)) ∧ (∃ f, RowsIs w' w.heap.size w.heap.size (rowsTo ws ws.length) f) ∧ Below w.heap.size w w' := by
  obtain ⟨a, c, rfl, hlen, hc⟩ := hr.slice
  have HC := Lib.hid hc
  have HA := Lib.hid hall
  clear hc hall hr
  go_enter Tryd.func39, Tryd.ntmps39
  go_wp2
  have HB0 : Hid (Below w.heap.size w (w.alloc (.cells #[.slice none 0 0, .slice none 0 0, .slice none 0 0, .slice none 0 0, .slice none 0 0, .slice none 0 0, .slice none 0 0, .slice none 0 0, .slice none 0 0, .slice none 0 0, .slice none 0 0, .slice none 0 0, .slice none 0 0, .slice none 0 0, .slice none 0 0, .slice none 0 0, .slice none 0 0, .slice none 0 0, .slice none 0 0, .slice none 0 0, .slice none 0 0, .slice none 0 0, .slice none 0 0, .slice none 0 0] 123))) := (Below.refl _ _).alloc (Nat.le_refl _) _
  go_loopw [4, 5, 13] (fun _ _ i wr => ∃ k : Nat, k ≤ ws.length ∧ i = .int .i64 k ∧ (∃ f, RowsIs wr w.heap.size w.heap.size (rowsTo ws k) f) ∧ Below w.heap.size w wr) (fun _ _ i _ => ws.length - (intOf i).toNat)
  case atStart => exact ⟨0, Nat.zero_le _, rfl, ⟨_, rowsIs_new w⟩, HB0.out⟩
  case round =>
    obtain ⟨k, hk, rfl, ⟨f, hR⟩, hB⟩ := hrel
    by_cases hlt : k < ws.length
    · obtain ⟨b', off, rfl, hbl', hcell⟩ := HC.out k ws[k] (List.getElem?_eq_getElem hlt)
      obtain ⟨h0, h1, h2⟩ := encW_at (cells_below hB hbl' hcell)
      have hbl2 : b' < wr.heap.size := Nat.lt_of_lt_of_le hbl' hB.size
      obtain ⟨hlo, hhi⟩ := HA.out k ws[k] (List.getElem?_eq_getElem hlt)
      have hgk : ws[k]? = some ws[k] := List.getElem?_eq_getElem hlt
      generalize ws[k] = x at h0 h1 h2 hlo hhi hgk
      have HG := Lib.hid hgk
      clear hcell HC HA hgk
      obtain ⟨xk, xa, xw⟩ := x
      dsimp only at h0 h1 h2 hlo hhi
      obtain ⟨q, rfl⟩ := Int.eq_ofNat_of_zero_le hlo
      have hq : q + 1 < 24 := by omega
      have hq1 : (q : Int) < 24 := by omega
      have hq2 : (q : Int) + 1 < 24 := by omega
      have hRq := hR.cell q (by omega)
      have hRlt := hR.lt
      have HR := Lib.hid hR
      have hs1 : (wr.alloc (.cells #[.int .i64 xk, .int .i64 q, .string xw] 60)).cell? ⟨wr.heap.size, 1, none⟩ = some (.int .i64 q) := by simp [World.cell?_alloc_at]
      have hRw : RowsIs (wr.alloc (.cells #[.int .i64 xk, .int .i64 q, .string xw] 60)) w.heap.size w.heap.size (rowsTo ws k) f := hR.later ((Below.refl _ _).alloc (Nat.le_refl _) _)
      have hown1 := hRw.own q (by omega)
      have hrl : (rowsTo ws k q).length ≤ 800 := Nat.le_trans (rowsTo_len ws k q) (by omega)
      have hrl2 : (rowsTo ws k (q + 1)).length ≤ 800 := Nat.le_trans (rowsTo_len ws k (q + 1)) (by omega)
      have hneB : ∀ kk, (f q).ownBlock = some kk → kk < wr.heap.size := fun kk e => ((hR.own q (by omega)).lt kk e).2
      have HneB := Lib.hid hneB
      have HneB1 : Hid (∀ kk, (f (q + 1)).ownBlock = some kk → kk < wr.heap.size) := fun kk e => ((hR.own (q + 1) (by omega)).lt kk e).2
      clear hR hneB
      have HRw := Lib.hid hRw
      clear hRw
      go_wp2
      refine start_ (n := 15) (S := fun w' => w'.cell? ⟨wr.heap.size, 1, none⟩ = some (.int .i64 q) ∧ w'.cell? ⟨w.heap.size, q, none⟩ = some (f q)) (ds := [14]) #[false, false, false, false, false, false, false, false, false, false, false, false, false, false, false] (by kernel_rfl) rfl rfl ⟨hs1, (HRw.out.cell q (by omega))⟩ (fun hHeld => ?_)
      refine pure_ (i := 0) (N := some 18) (v := ?_) (a' := ?_) #[true, false, false, false, false, false, false, false, false, false, false, false, false, false, false] rfl rfl (by kernel_rfl) (fun _ _ _ h => h) (Or.inl ⟨by rfl, ?_⟩) ?_ ?_
      rotate_left
      · intro w'
        go_simp
        with_reducible rfl
      rotate_left
      · simp only [Act.put, List.setIfInBounds_toArray, List.set_cons_zero, List.set_cons_succ, i64_w, i32_w]
        rfl
      refine pure_ (i := 1) (N := some 19) (v := ?_) (a' := ?_) #[true, true, false, false, false, false, false, false, false, false, false, false, false, false, false] rfl rfl (by kernel_rfl) (fun _ _ _ h => h) (Or.inl ⟨by rfl, ?_⟩) ?_ ?_
      rotate_left
      · intro w'
        go_simp
        with_reducible rfl
      rotate_left
      · simp only [Act.put, List.setIfInBounds_toArray, List.set_cons_zero, List.set_cons_succ, i64_w, i32_w]
        rfl
      refine pure_ (i := 3) (N := some 21) (v := ?_) (a' := ?_) #[true, true, false, true, false, false, false, false, false, false, false, false, false, false, false] rfl rfl (by kernel_rfl) (fun _ _ _ h => h) (Or.inl ⟨by rfl, ?_⟩) ?_ ?_
      rotate_left
      · intro w'
        go_simp
        with_reducible rfl
      rotate_left
      · simp only [Act.put, List.setIfInBounds_toArray, List.set_cons_zero, List.set_cons_succ, i64_w, i32_w]
        rfl
      refine pure_ (i := 4) (N := some 22) (v := ?_) (a' := ?_) #[true, true, false, true, true, false, false, false, false, false, false, false, false, false, false] rfl rfl (by kernel_rfl) (fun _ _ _ h => h) (Or.inl ⟨by rfl, ?_⟩) ?_ ?_
      rotate_left
      · intro w'
        go_simp
        with_reducible rfl
      rotate_left
      · simp only [Act.put, List.setIfInBounds_toArray, List.set_cons_zero, List.set_cons_succ, i64_w, i32_w]
        rfl
      refine pure_ (i := 6) (N := some 24) (v := ?_) (a' := ?_) #[true, true, false, true, true, false, true, false, false, false, false, false, false, false, false] rfl rfl (by kernel_rfl) (fun _ _ _ h => h) (Or.inl ⟨by rfl, ?_⟩) ?_ ?_
      rotate_left
      · intro w'
        go_simp
        with_reducible rfl
      rotate_left
      · simp only [Act.put, List.setIfInBounds_toArray, List.set_cons_zero, List.set_cons_succ, i64_w, i32_w]
        rfl
      refine pure_ (i := 9) (N := some 27) (v := ?_) (a' := ?_) #[true, true, false, true, true, false, true, false, false, true, false, false, false, false, false] rfl rfl (by kernel_rfl) (fun _ _ _ h => h) (Or.inl ⟨by rfl, ?_⟩) ?_ ?_
      rotate_left
      · intro w'
        go_simp
        with_reducible rfl
      rotate_left
      · simp only [Act.put, List.setIfInBounds_toArray, List.set_cons_zero, List.set_cons_succ, i64_w, i32_w]
        rfl
      refine pure_ (i := 12) (N := some 30) (v := ?_) (a' := ?_) #[true, true, false, true, true, false, true, false, false, true, false, false, true, false, false] rfl rfl (by kernel_rfl) (fun _ _ _ h => h) (Or.inl ⟨by rfl, ?_⟩) ?_ ?_
      rotate_left
      · intro w'
        go_simp
        with_reducible rfl
      rotate_left
      · simp only [Act.put, List.setIfInBounds_toArray, List.set_cons_zero, List.set_cons_succ, i64_w, i32_w]
        rfl
      refine take_ (i := 2) (N := some 20) (v := ?_) (a' := ?_) #[true, true, true, true, true, false, true, false, false, true, false, false, true, false, false] rfl rfl (by kernel_rfl) (fun _ _ _ h => h) (Or.inl ⟨by rfl, ?_⟩) hHeld ?_ ?_
      rotate_left
      · rintro w' ⟨s0, s1⟩
        go_simp
        with_reducible rfl
      rotate_left
      · simp only [Act.put, List.setIfInBounds_toArray, List.set_cons_zero, List.set_cons_succ, i64_w, i32_w]
        rfl
      refine take_ (i := 5) (N := some 23) (v := ?_) (a' := ?_) #[true, true, true, true, true, true, true, false, false, true, false, false, true, false, false] rfl rfl (by kernel_rfl) (fun _ _ _ h => h) (Or.inl ⟨by rfl, ?_⟩) hHeld ?_ ?_
      rotate_left
      · rintro w' ⟨s0, s1⟩
        go_simp
        with_reducible rfl
      rotate_left
      · simp only [Act.put, List.setIfInBounds_toArray, List.set_cons_zero, List.set_cons_succ, i64_w, i32_w]
        rfl
      refine pure_ (i := 7) (N := some 25) (v := ?_) (a' := ?_) #[true, true, true, true, true, true, true, true, false, true, false, false, true, false, false] rfl rfl (by kernel_rfl) (fun _ _ _ h => h) (Or.inl ⟨by rfl, ?_⟩) ?_ ?_
      rotate_left
      · intro w'
        go_simp
        with_reducible rfl
      rotate_left
      · simp only [Act.put, List.setIfInBounds_toArray, List.set_cons_zero, List.set_cons_succ, i64_w, i32_w]
        rfl
      refine take_ (i := 8) (N := some 26) (v := ?_) (a' := ?_) #[true, true, true, true, true, true, true, true, true, true, false, false, true, false, false] rfl rfl (by kernel_rfl) (fun _ _ _ h => h) (Or.inl ⟨by rfl, ?_⟩) hHeld ?_ ?_
      rotate_left
      · rintro w' ⟨s0, s1⟩
        go_simp
        with_reducible rfl
      rotate_left
      · simp only [Act.put, List.setIfInBounds_toArray, List.set_cons_zero, List.set_cons_succ, i64_w, i32_w]
        rfl
      refine one_ (i := 10) (N := some 28) #[true, true, true, true, true, true, true, true, true, true, true, false, true, false, false] rfl rfl (by kernel_rfl) (by decide) (fun K hK => ?_)
      refine value_ (w1 := ?_) (v := ?_) (by rfl) rfl ?_ ?_
      rotate_left 2
      · go_simp
        constructor
        · rfl
        · rfl
      refine hK.out _ _ ⟨(World.cell?_alloc_lt _ _ _ (World.block_lt_of_cell? _ _ (hHeld.1))).trans (hHeld.1), (World.cell?_alloc_lt _ _ _ (World.block_lt_of_cell? _ _ (hHeld.2))).trans (hHeld.2)⟩ (fun hHeld => ?_)
      clear hK K
      refine norm_ (a' := ?_) ?_ ?_
      rotate_left
      · show Act.put _ (some 28) _ = _
        simp only [Act.put, List.setIfInBounds_toArray, List.set_cons_zero, List.set_cons_succ, i64_w, i32_w]
        rfl
      refine one_ (i := 11) (N := some 29) #[true, true, true, true, true, true, true, true, true, true, true, true, true, false, false] rfl rfl (by kernel_rfl) (by decide) (fun K hK => ?_)
      refine step_int rfl _ _ rfl w.heap.size (f q) (rowsTo ws k q) rfl (hown1.drew) 1 (k : Int) _ (by simp) rfl (by have := hrl; omega) (by simp; omega) rfl ?_
      intro v2 w2 hown2 hg2 hv2 hat2
      obtain ⟨g2, c2, rfl⟩ := hown2.some_ hv2
      have hRf2 : w2.frozen? ⟨w.heap.size, q, none⟩ = false := (World.frozen?_of_block (w := (wr.alloc (.cells #[.int .i64 xk, .int .i64 q, .string xw] 60)).drew) (hg2.block w.heap.size (by simp; omega) (fun e => HRw.out.off q (by omega) e.symm))).trans (HRw.out.free q)
      refine hK.out _ _ ⟨hg2.cell (w := (wr.alloc (.cells #[.int .i64 xk, .int .i64 q, .string xw] 60)).drew) hs1 (fun e => by have := HneB.out _ e.symm; dsimp only at this; omega), hg2.cell (w := (wr.alloc (.cells #[.int .i64 xk, .int .i64 q, .string xw] 60)).drew) (HRw.out.cell q (by omega)) (fun e => HRw.out.off q (by omega) e.symm)⟩ (fun hHeld => ?_)
      clear hK K
      refine norm_ (a' := ?_) ?_ ?_
      rotate_left
      · show Act.put _ (some 29) _ = _
        simp only [Act.put, List.setIfInBounds_toArray, List.set_cons_zero, List.set_cons_succ, i64_w, i32_w]
        rfl
      refine pure_ (i := 13) (N := some 31) (v := ?_) (a' := ?_) #[true, true, true, true, true, true, true, true, true, true, true, true, true, true, false] rfl rfl (by kernel_rfl) (fun _ _ _ h => h) (Or.inl ⟨by rfl, ?_⟩) ?_ ?_
      rotate_left
      · intro w'
        go_simp
        with_reducible rfl
      rotate_left
      · simp only [Act.put, List.setIfInBounds_toArray, List.set_cons_zero, List.set_cons_succ, i64_w, i32_w]
        rfl
      refine last_ (i := 14) (N := none) #[true, true, true, true, true, true, true, true, true, true, true, true, true, true, true] rfl rfl (by kernel_rfl) (by decide) (fun K hK => ?_)
      have hRq2 := hHeld.2
      refine skip_ (w1 := ?_) (by rfl) rfl ?_ ?_
      rotate_left
      · go_simp
        rfl
      refine hK.out _ _ ?_
      clear hK K
      refine done_ (by kernel_rfl) ?_
      have hR3 := RowsIs.step (HRw.out.later (below_ofDrewN _ 1)) (by omega) hown2 hg2 hat2
      have hs3 : (w2.setCell ⟨w.heap.size, q, none⟩ (.slice (some ⟨g2, 0, none⟩) (rowsTo ws k q ++ [(k : Int)]).length c2)).cell? ⟨wr.heap.size, 1, none⟩ = some (.int .i64 q) := (World.cell?_setCell_other w2 ⟨w.heap.size, q, none⟩ ⟨wr.heap.size, 1, none⟩ _ (by intro e; injection e with e _; omega)).trans (hg2.cell (w := (wr.alloc (.cells #[.int .i64 xk, .int .i64 q, .string xw] 60)).drew) hs1 (fun e => by have := HneB.out _ e.symm; dsimp only at this; omega))
      have hB3 : Below w.heap.size w (w2.setCell ⟨w.heap.size, q, none⟩ (.slice (some ⟨g2, 0, none⟩) (rowsTo ws k q ++ [(k : Int)]).length c2)) := (((hB.alloc hB.size _).drew).grown hg2 (by simp; omega) (fun kk e => ((HRw.out.own q (by omega)).lt kk e).1)).setCell (Nat.le_refl _) _
      have hz3 : wr.heap.size < (w2.setCell ⟨w.heap.size, q, none⟩ (.slice (some ⟨g2, 0, none⟩) (rowsTo ws k q ++ [(k : Int)]).length c2)).heap.size := by have := hg2.size; simp [World.setCell] at this ⊢; omega
      have HneB2 : Hid (∀ kk, (upd f q (.slice (some ⟨g2, 0, none⟩) (rowsTo ws k q ++ [(k : Int)]).length c2) (q + 1)).ownBlock = some kk → kk < wr.heap.size) := by rw [Hid, upd_ne _ _ _ _ (by omega)]; exact HneB1.out
      clear HneB HneB1 hown2 hg2 hat2 hv2 hHeld HRw hown1 hs1
      simp only [List.length_append, List.length_singleton] at hR3 hs3 hB3 hz3 HneB2 ⊢
      generalize upd f q (.slice (some ⟨g2, 0, none⟩) ((rowsTo ws k q).length + 1) c2) = f3 at hR3 HneB2
      generalize w2.setCell ⟨w.heap.size, q, none⟩ (.slice (some ⟨g2, 0, none⟩) ((rowsTo ws k q).length + 1) c2) = w3 at hR3 hs3 hB3 hz3 ⊢
      have hRq3 := hR3.cell (q + 1) (by omega)
      have hown3 := hR3.own (q + 1) (by omega)
      rw [upd_ne _ _ _ _ (by omega)] at hown3
      have HR3 := Lib.hid hR3
      clear hR3
      have hw64 : wrap64 ((q : Int) + 1) = (q : Int) + 1 := w64_succ q (by omega)
      have hw0 := z_succ q
      have hwn := n_succ q
      go_wp2
      refine start_ (n := 17) (S := fun w' => w'.cell? ⟨wr.heap.size, 1, none⟩ = some (.int .i64 q) ∧ w'.cell? ⟨w.heap.size, q + 1, none⟩ = some (f3 (q + 1))) (ds := [16]) #[false, false, false, false, false, false, false, false, false, false, false, false, false, false, false, false, false] (by kernel_rfl) rfl rfl ⟨hs3, hRq3⟩ (fun hHeld => ?_)
      refine pure_ (i := 0) (N := some 32) (v := ?_) (a' := ?_) #[true, false, false, false, false, false, false, false, false, false, false, false, false, false, false, false, false] rfl rfl (by kernel_rfl) (fun _ _ _ h => h) (Or.inl ⟨by rfl, ?_⟩) ?_ ?_
      rotate_left
      · intro w'
        go_simp
        with_reducible rfl
      rotate_left
      · simp only [Act.put, List.setIfInBounds_toArray, List.set_cons_zero, List.set_cons_succ, i64_w, i32_w]
        rfl
      refine pure_ (i := 1) (N := some 33) (v := ?_) (a' := ?_) #[true, true, false, false, false, false, false, false, false, false, false, false, false, false, false, false, false] rfl rfl (by kernel_rfl) (fun _ _ _ h => h) (Or.inl ⟨by rfl, ?_⟩) ?_ ?_
      rotate_left
      · intro w'
        go_simp
        with_reducible rfl
      rotate_left
      · simp only [Act.put, List.setIfInBounds_toArray, List.set_cons_zero, List.set_cons_succ, i64_w, i32_w]
        rfl
      refine pure_ (i := 4) (N := some 36) (v := ?_) (a' := ?_) #[true, true, false, false, true, false, false, false, false, false, false, false, false, false, false, false, false] rfl rfl (by kernel_rfl) (fun _ _ _ h => h) (Or.inl ⟨by rfl, ?_⟩) ?_ ?_
      rotate_left
      · intro w'
        go_simp
        with_reducible rfl
      rotate_left
      · simp only [Act.put, List.setIfInBounds_toArray, List.set_cons_zero, List.set_cons_succ, i64_w, i32_w]
        rfl
      refine pure_ (i := 5) (N := some 37) (v := ?_) (a' := ?_) #[true, true, false, false, true, true, false, false, false, false, false, false, false, false, false, false, false] rfl rfl (by kernel_rfl) (fun _ _ _ h => h) (Or.inl ⟨by rfl, ?_⟩) ?_ ?_
      rotate_left
      · intro w'
        go_simp
        with_reducible rfl
      rotate_left
      · simp only [Act.put, List.setIfInBounds_toArray, List.set_cons_zero, List.set_cons_succ, i64_w, i32_w]
        rfl
      refine pure_ (i := 8) (N := some 40) (v := ?_) (a' := ?_) #[true, true, false, false, true, true, false, false, true, false, false, false, false, false, false, false, false] rfl rfl (by kernel_rfl) (fun _ _ _ h => h) (Or.inl ⟨by rfl, ?_⟩) ?_ ?_
      rotate_left
      · intro w'
        go_simp
        with_reducible rfl
      rotate_left
      · simp only [Act.put, List.setIfInBounds_toArray, List.set_cons_zero, List.set_cons_succ, i64_w, i32_w]
        rfl
      refine pure_ (i := 11) (N := some 43) (v := ?_) (a' := ?_) #[true, true, false, false, true, true, false, false, true, false, false, true, false, false, false, false, false] rfl rfl (by kernel_rfl) (fun _ _ _ h => h) (Or.inl ⟨by rfl, ?_⟩) ?_ ?_
      rotate_left
      · intro w'
        go_simp
        with_reducible rfl
      rotate_left
      · simp only [Act.put, List.setIfInBounds_toArray, List.set_cons_zero, List.set_cons_succ, i64_w, i32_w]
        rfl
      refine pure_ (i := 14) (N := some 46) (v := ?_) (a' := ?_) #[true, true, false, false, true, true, false, false, true, false, false, true, false, false, true, false, false] rfl rfl (by kernel_rfl) (fun _ _ _ h => h) (Or.inl ⟨by rfl, ?_⟩) ?_ ?_
      rotate_left
      · intro w'
        go_simp
        with_reducible rfl
      rotate_left
      · simp only [Act.put, List.setIfInBounds_toArray, List.set_cons_zero, List.set_cons_succ, i64_w, i32_w]
        rfl
      refine take_ (i := 2) (N := some 34) (v := ?_) (a' := ?_) #[true, true, true, false, true, true, false, false, true, false, false, true, false, false, true, false, false] rfl rfl (by kernel_rfl) (fun _ _ _ h => h) (Or.inl ⟨by rfl, ?_⟩) hHeld ?_ ?_
      rotate_left
      · rintro w' ⟨s0, s1⟩
        go_simp
        with_reducible rfl
      rotate_left
      · simp only [Act.put, List.setIfInBounds_toArray, List.set_cons_zero, List.set_cons_succ, i64_w, i32_w]
        rfl
      refine pure_ (i := 3) (N := some 35) (v := ?_) (a' := ?_) #[true, true, true, true, true, true, false, false, true, false, false, true, false, false, true, false, false] rfl rfl (by kernel_rfl) (fun _ _ _ h => h) (Or.inl ⟨by rfl, ?_⟩) ?_ ?_
      rotate_left
      · intro w'
        go_simp
        with_reducible rfl
      rotate_left
      · simp only [Act.put, List.setIfInBounds_toArray, List.set_cons_zero, List.set_cons_succ, i64_w, i32_w]
        rfl
      refine take_ (i := 6) (N := some 38) (v := ?_) (a' := ?_) #[true, true, true, true, true, true, true, false, true, false, false, true, false, false, true, false, false] rfl rfl (by kernel_rfl) (fun _ _ _ h => h) (Or.inl ⟨by rfl, ?_⟩) hHeld ?_ ?_
      rotate_left
      · rintro w' ⟨s0, s1⟩
        go_simp
        with_reducible rfl
      rotate_left
      · simp only [Act.put, List.setIfInBounds_toArray, List.set_cons_zero, List.set_cons_succ, i64_w, i32_w]
        rfl
      refine pure_ (i := 7) (N := some 39) (v := ?_) (a' := ?_) #[true, true, true, true, true, true, true, true, true, false, false, true, false, false, true, false, false] rfl rfl (by kernel_rfl) (fun _ _ _ h => h) (Or.inl ⟨by rfl, ?_⟩) ?_ ?_
      rotate_left
      · intro w'
        go_simp
        with_reducible rfl
      rotate_left
      · simp only [Act.put, List.setIfInBounds_toArray, List.set_cons_zero, List.set_cons_succ, i64_w, i32_w]
        rfl
      refine pure_ (i := 9) (N := some 41) (v := ?_) (a' := ?_) #[true, true, true, true, true, true, true, true, true, true, false, true, false, false, true, false, false] rfl rfl (by kernel_rfl) (fun _ _ _ h => h) (Or.inl ⟨by rfl, ?_⟩) ?_ ?_
      rotate_left
      · intro w'
        go_simp
        with_reducible rfl
      rotate_left
      · simp only [Act.put, List.setIfInBounds_toArray, List.set_cons_zero, List.set_cons_succ, i64_w, i32_w]
        rfl
      refine take_ (i := 10) (N := some 42) (v := ?_) (a' := ?_) #[true, true, true, true, true, true, true, true, true, true, true, true, false, false, true, false, false] rfl rfl (by kernel_rfl) (fun _ _ _ h => h) (Or.inl ⟨by rfl, ?_⟩) hHeld ?_ ?_
      rotate_left
      · rintro w' ⟨s0, s1⟩
        go_simp
        with_reducible rfl
      rotate_left
      · simp only [Act.put, List.setIfInBounds_toArray, List.set_cons_zero, List.set_cons_succ, i64_w, i32_w]
        rfl
      refine one_ (i := 12) (N := some 44) #[true, true, true, true, true, true, true, true, true, true, true, true, true, false, true, false, false] rfl rfl (by kernel_rfl) (by decide) (fun K hK => ?_)
      refine value_ (w1 := ?_) (v := ?_) (by rfl) rfl ?_ ?_
      rotate_left 2
      · go_simp
        constructor
        · rfl
        · rfl
      refine hK.out _ _ ⟨(World.cell?_alloc_lt _ _ _ (World.block_lt_of_cell? _ _ (hHeld.1))).trans (hHeld.1), (World.cell?_alloc_lt _ _ _ (World.block_lt_of_cell? _ _ (hHeld.2))).trans (hHeld.2)⟩ (fun hHeld => ?_)
      clear hK K
      refine norm_ (a' := ?_) ?_ ?_
      rotate_left
      · show Act.put _ (some 44) _ = _
        simp only [Act.put, List.setIfInBounds_toArray, List.set_cons_zero, List.set_cons_succ, i64_w, i32_w]
        rfl
      refine one_ (i := 13) (N := some 45) #[true, true, true, true, true, true, true, true, true, true, true, true, true, true, true, false, false] rfl rfl (by kernel_rfl) (by decide) (fun K hK => ?_)
      refine step_int rfl _ _ rfl w.heap.size (f3 (q + 1)) (rowsTo ws k (q + 1)) rfl (hown3.drew) 1 (k : Int) _ (by simp) rfl (by have := hrl2; omega) (by simp; omega) rfl ?_
      intro v4 w4 hown4 hg4 hv4 hat4
      obtain ⟨g4, c4, rfl⟩ := hown4.some_ hv4
      have hRf4 : w4.frozen? ⟨w.heap.size, q + 1, none⟩ = false := (World.frozen?_of_block (w := w3.drew) (hg4.block w.heap.size (by simp; omega) (fun e => HR3.out.off (q + 1) (by omega) e.symm))).trans (HR3.out.free (q + 1))
      refine hK.out _ _ ⟨hg4.cell (w := w3.drew) hs3 (fun e => by have := HneB2.out _ e.symm; dsimp only at this; omega), hg4.cell (w := w3.drew) (HR3.out.cell (q + 1) (by omega)) (fun e => HR3.out.off (q + 1) (by omega) e.symm)⟩ (fun hHeld => ?_)
      clear hK K
      refine norm_ (a' := ?_) ?_ ?_
      rotate_left
      · show Act.put _ (some 45) _ = _
        simp only [Act.put, List.setIfInBounds_toArray, List.set_cons_zero, List.set_cons_succ, i64_w, i32_w]
        rfl
      refine pure_ (i := 15) (N := some 47) (v := ?_) (a' := ?_) #[true, true, true, true, true, true, true, true, true, true, true, true, true, true, true, true, false] rfl rfl (by kernel_rfl) (fun _ _ _ h => h) (Or.inl ⟨by rfl, ?_⟩) ?_ ?_
      rotate_left
      · intro w'
        go_simp
        with_reducible rfl
      rotate_left
      · simp only [Act.put, List.setIfInBounds_toArray, List.set_cons_zero, List.set_cons_succ, i64_w, i32_w]
        rfl
      refine last_ (i := 16) (N := none) #[true, true, true, true, true, true, true, true, true, true, true, true, true, true, true, true, true] rfl rfl (by kernel_rfl) (by decide) (fun K hK => ?_)
      have hRq4 := hHeld.2
      refine skip_ (w1 := ?_) (by rfl) rfl ?_ ?_
      rotate_left
      · go_simp
        rfl
      refine hK.out _ _ ?_
      clear hK K
      refine done_ (by kernel_rfl) ?_
      clear hw64 hw0 hwn
      have hR4 := RowsIs.step (HR3.out.later (below_ofDrewN _ 1)) (by omega) hown4 hg4 hat4
      have hB4 : Below w.heap.size w (w4.setCell ⟨w.heap.size, q + 1, none⟩ (.slice (some ⟨g4, 0, none⟩) (rowsTo ws k (q + 1) ++ [(k : Int)]).length c4)) := ((hB3.drew).grown hg4 (by simp; omega) (fun kk e => ((HR3.out.own (q + 1) (by omega)).lt kk e).1)).setCell (Nat.le_refl _) _
      have HF : Hid (∃ ff, RowsIs (w4.setCell ⟨w.heap.size, q + 1, none⟩ (.slice (some ⟨g4, 0, none⟩) (rowsTo ws k (q + 1) ++ [(k : Int)]).length c4)) w.heap.size w.heap.size (rowsTo ws (k + 1)) ff) := by rw [Hid, rowsTo_succ ws k _ HG.out]; exact ⟨_, hR4⟩
      clear hR4 hown4 hg4 hat4 hv4 hHeld HR3 hown3
      simp only [List.length_append, List.length_singleton] at HF hB4 ⊢
      go_wp2
      go_roundw
      case rel => exact ⟨k + 1, by omega, by go_num, HF.out, hB4⟩
      case measure => first | (simp [intOf]; done) | (simp [intOf]; omega)
    · go_wp2
      go_ret
      obtain rfl : k = ws.length := by omega
      exact ⟨rfl, ⟨f, hR⟩, hB⟩
end Go.Proofs.YtepofpnbgbmihaaDoor

/-
  torchontop.crossed: for each work the numbers of its crossings.
-/
namespace Go.Proofs.YtepofpnbgbmihaaDoor
open Go.RowKit Go.Proofs.YtepofpnbgbmihaaDoorW.PrintLast
set_option linter.unusedSimpArgs false
set_option linter.unusedVariables false

/-- Block R holds N slices, each of the call's own, that hold the lists of ρ; no two of them share a block. -/
structure RowsN (w : World) (R N base : Nat) (ρ : Nat → List Int) (f : Nat → Value) : Prop where
  cell : ∀ p, p < N → w.cell? ⟨R, p, none⟩ = some (f p)
  own : ∀ p, p < N → OwnI w base (f p) (ρ p)
  off : ∀ p, p < N → (f p).ownBlock ≠ some R
  ne : ∀ p q, p < N → q < N → p ≠ q → NeRow (f p) (f q)
  free : ∀ p, w.frozen? ⟨R, p, none⟩ = false
  lt : R < w.heap.size

theorem RowsN.later {w w' : World} {R N base : Nat} {ρ : Nat → List Int} {f : Nat → Value} (h : RowsN w R N base ρ f) (hb : Below w.heap.size w w') : RowsN w' R N base ρ f :=
  ⟨fun p hp => (hb.cell (p := ⟨R, p, none⟩) h.lt).trans (h.cell p hp), fun p hp => (h.own p hp).later hb, h.off, h.ne, fun p => (hb.frozen (p := ⟨R, p, none⟩) h.lt).trans (h.free p), Nat.lt_of_lt_of_le h.lt hb.size⟩

/-- Behind an append to the slice of place p, and its store. -/
theorem RowsN.step {w w1 : World} {R N base : Nat} {ρ : Nat → List Int} {f : Nat → Value} (h : RowsN w R N base ρ f) {p : Nat} (hp : p < N) {v1 : Value} {xs : List Int}
    (ho : OwnI w1 base v1 xs) (hg : w.grownBy w1 (f p).ownBlock) (hat : Hat w (f p) v1) : RowsN (w1.setCell ⟨R, p, none⟩ v1) R N base (upd ρ p xs) (upd f p v1) := by
  have hRne : some R ≠ (f p).ownBlock := fun e => h.off p hp e.symm
  have hlt1 : R < w1.heap.size := Nat.lt_of_lt_of_le h.lt hg.size
  have hset : ∀ k, k ≠ R → (w1.setCell ⟨R, p, none⟩ v1).heap[k]? = w1.heap[k]? := fun k hk => Below.heap_setCell w1 ⟨R, p, none⟩ v1 k hk
  have hkeep : ∀ {v : Value} {ys : List Int}, OwnI w1 base v ys → v.ownBlock ≠ some R → OwnI (w1.setCell ⟨R, p, none⟩ v1) base v ys := fun {v ys} hv hne =>
    OwnL.kept hv (row := some R) ⟨rfl, rfl, rfl, by simp [World.setCell], fun k _ hk => hset k (fun e => hk (by rw [e]))⟩ (.inr hne)
  have hoff1 : v1.ownBlock ≠ some R := by
    rcases hat with e | ⟨b, e, hb⟩
    · rw [e]; exact h.off p hp
    · rw [e]; intro e2; injection e2 with e2; have := h.lt; omega
  have hcR : ∀ q, q < N → w1.cell? ⟨R, q, none⟩ = some (f q) := fun q hq => hg.cell (h.cell q hq) hRne
  have hne1 : ∀ q, q < N → q ≠ p → NeRow v1 (f q) := by
    intro q hq hqp k hk
    rcases hat with e | ⟨b, e, hb⟩
    · exact h.ne p q hp hq (fun e => hqp e.symm) k (e ▸ hk)
    · intro hk2
      rw [e] at hk
      injection hk with hk
      have := (h.own q hq).lt k hk2
      omega
  refine ⟨fun q hq => ?_, fun q hq => ?_, fun q hq => ?_, fun q r hq hr hqr => ?_, fun q => ?_, by simpa [World.setCell] using hlt1⟩
  · by_cases e : q = p
    · subst e
      rw [upd_self]
      exact World.cell?_setCell_same w1 ⟨R, q, none⟩ v1 (hcR q hq)
    · rw [upd_ne _ _ _ _ e]
      exact (World.cell?_setCell_other (w := w1) (a := ⟨R, p, none⟩) (b := ⟨R, q, none⟩) (v := v1) (by intro h2; injection h2 with _ h3; exact e h3.symm)).trans (hcR q hq)
  · by_cases e : q = p
    · subst e
      rw [upd_self, upd_self]
      exact hkeep ho hoff1
    · rw [upd_ne _ _ _ _ e, upd_ne _ _ _ _ e]
      exact hkeep (OwnL.kept (h.own q hq) hg (h.ne p q hp hq (Ne.symm e)).other) (h.off q hq)
  · by_cases e : q = p
    · subst e; rw [upd_self]; exact hoff1
    · rw [upd_ne _ _ _ _ e]; exact h.off q hq
  · by_cases e : q = p
    · subst e
      rw [upd_self, upd_ne _ _ _ _ (Ne.symm hqr)]
      exact hne1 r hr (Ne.symm hqr)
    · rw [upd_ne _ _ _ _ e]
      by_cases e2 : r = p
      · subst e2
        rw [upd_self]
        exact (hne1 q hq e).symm
      · rw [upd_ne _ _ _ _ e2]
        exact h.ne q r hq hr hqr
  · rw [World.frozen?_setCell]
    exact (World.frozen?_of_block (w := w) (hg.block R h.lt hRne)).trans (h.free q)

theorem RowsN.lower {w : World} {R N base b : Nat} {ρ : Nat → List Int} {f : Nat → Value} (h : RowsN w R N base ρ f) (hb : b ≤ base) : RowsN w R N b ρ f :=
  ⟨h.cell, fun p hp => (h.own p hp).lower hb, h.off, h.ne, h.free, h.lt⟩
theorem rowsN_new (w : World) (N base : Nat) (cs : Array Value) (t : TypeId) (hN : cs.size = N) (hz : ∀ (i : Nat) (v : Value), cs[i]? = some v → v = .slice none 0 0) :
    RowsN (w.alloc (.cells cs t)) w.heap.size N base (fun _ => []) (fun _ => .slice none 0 0) :=
  ⟨fun p hp => by
      rw [World.cell?_alloc_at _ _ _ _ rfl]
      have h : p < cs.size := by omega
      have := hz p cs[p] (Array.getElem?_eq_getElem h)
      rw [Array.getElem?_eq_getElem h, this],
    fun p hp => OwnL.nil, fun p hp => by simp [Value.ownBlock], fun p q _ _ _ k hk => by simp [Value.ownBlock] at hk, fun p => frozen_of_row _ _ p _ _ (heap_alloc_new w _), by simp⟩
/-- The crossings of each work among the first k. -/
def crossTo (cs : List Crs) : Nat → Nat → List Int
  | 0 => fun _ => []
  | k + 1 => match cs[k]? with
    | some x => upd (crossTo cs k) x.work.toNat (crossTo cs k x.work.toNat ++ [(k : Int)])
    | none => crossTo cs k
theorem crossTo_succ (cs : List Crs) (k : Nat) (x : Crs) (h : cs[k]? = some x) : crossTo cs (k + 1) = upd (crossTo cs k) x.work.toNat (crossTo cs k x.work.toNat ++ [(k : Int)]) := by
  show (match cs[k]? with | some x => upd (crossTo cs k) x.work.toNat (crossTo cs k x.work.toNat ++ [(k : Int)]) | none => crossTo cs k) = _
  rw [h]
theorem crossTo_len (cs : List Crs) (k p : Nat) : (crossTo cs k p).length ≤ k := by
  induction k generalizing p with
  | zero => simp [crossTo]
  | succ k ih =>
    cases hx : cs[k]? with
    | some x =>
      rw [crossTo_succ cs k x hx]
      unfold upd
      have h1 := ih p
      have h2 := ih x.work.toNat
      split
      · rw [List.length_append, List.length_singleton]; omega
      · omega
    | none =>
      have e : crossTo cs (k + 1) = crossTo cs k := by show (match cs[k]? with | some x => _ | none => crossTo cs k) = _; rw [hx]
      rw [e]
      have := ih p
      omega

theorem run_make_rowN {P : Program} (t e : TypeId) (i : TypeInfo) (z : Value) (ht : P.underlying t = some (.slice e)) (hi : P.info? e = some i) (hz : i.zero = some z)
    (kl kc : IntKind) (n c : Nat) (hnc : n ≤ c) (hbytes : i.bytes * c ≤ 281474976710656) (h63 : c ≤ 9223372036854775807) (w : World) :
    (Instr.makeSlice t (.int kl (n : Int)) (.int kc (c : Int))).run P w = .ok (.slice (some ⟨w.heap.size, 0, none⟩) n c) (w.alloc (.cells (madeCells z.cells (c * i.size)) e)) := by
  have hb : (i.bytes : Int) * (c : Int) ≤ 281474976710656 := by
    have h : ((i.bytes * c : Nat) : Int) ≤ 281474976710656 := by omega
    rwa [Int.natCast_mul] at h
  have hr := run_make (P := P) w t e i z ht hi hz kl kc n c (by omega) (by omega) hb (by omega)
  simp only [Int.toNat_natCast] at hr
  exact hr
theorem info_ints : (Tryd.prog.info? 35).map (fun i => (i.zero, i.size, i.bytes)) = some (some (.slice none 0 0), 1, 24) := by kernel_rfl
theorem made_nil {n : Nat} (i : Nat) (v : Value) (h : (madeCells #[.slice none 0 0] n)[i]? = some v) : v = .slice none 0 0 := by
  have h2 : i < (madeCells #[.slice none 0 0] n).size := (Array.getElem?_eq_some_iff.1 h).1
  have h3 := (Array.getElem?_eq_some_iff.1 h).2
  rw [← h3]
  simp [madeCells, Nat.mod_one]

set_option maxRecDepth 100000 in
set_option maxHeartbeats 1000000 in
theorem crossed_any (N : Nat) (thr : Int) (v : Value) (pv : Value) (cs : List Crs) (w : World) (hN : N ≤ 400) (hcs : cs.length ≤ 100000) (hr : RdL 4 encX w v cs) (hw : ∀ (i : Nat) (x : Crs), cs[i]? = some x → 0 ≤ x.work ∧ x.work < N) :
    Calls Tryd.prog 9 #[.agg #[.int .i64 thr, v, pv], .int .i64 N] w fun e w' => ∃ R f, e = .returned (.tuple #[.slice (some ⟨R, 0, none⟩) N N, .bool true]) ∧ w.heap.size ≤ R ∧ RowsN w' R N w.heap.size (crossTo cs cs.length) f ∧ Below w.heap.size w w' := by
  obtain ⟨a, c, rfl, hlen, hc⟩ := hr.slice
  have HC := Lib.hid hc
  have HW := Lib.hid hw
  have HCS := Lib.hid hcs
  clear hc hw hr hcs
  have hmk : ∀ W : World, (Instr.makeSlice 44 (.int .i64 (N : Int)) (.int .i64 (N : Int))).run Tryd.prog W = .ok (.slice (some ⟨W.heap.size, 0, none⟩) N N) (W.alloc (.cells (madeCells #[.slice none 0 0] N) 35)) := fun W => by
    obtain ⟨i0, hi, hz0, hz1, hz2⟩ := info_parts info_ints
    have h := run_make_rowN (P := Tryd.prog) 44 35 i0 _ Tryd.underlying44 hi hz0 .i64 .i64 N N (Nat.le_refl _) (by rw [hz2]; omega) (by omega) W
    rw [hz1, Nat.mul_one] at h
    exact h
  go_enter Tryd.func9, Tryd.ntmps9
  go_wp2
  clear hmk
  have h0 := rowsN_new (w.alloc (.cells #[.int .i64 thr, .slice a cs.length c, pv] 41)) N (w.heap.size + 2) (madeCells #[.slice none 0 0] N) 35 (by rw [size_madeCells]) made_nil
  have hb0 : Below w.heap.size w ((w.alloc (.cells #[.int .i64 thr, .slice a cs.length c, pv] 41)).alloc (.cells (madeCells #[.slice none 0 0] N) 35)) := ((Below.refl _ _).alloc (Nat.le_refl _) _).alloc (by simp) _
  have hc0 : ((w.alloc (.cells #[.int .i64 thr, .slice a cs.length c, pv] 41)).alloc (.cells (madeCells #[.slice none 0 0] N) 35)).cell? ⟨w.heap.size, 1, none⟩ = some (.slice a cs.length c) := by rw [cell_of_row _ _ 1 _ _ _ (heap_alloc2_old w _ _)]; rfl
  have H0 := Lib.hid h0
  have HB0 := Lib.hid hb0
  have HC0 := Lib.hid hc0
  clear h0 hb0 hc0
  have hR : (w.alloc (.cells #[.int .i64 thr, .slice a cs.length c, pv] 41)).heap.size = w.heap.size + 1 := by simp
  rw [hR] at H0
  clear hR
  generalize ((w.alloc (.cells #[.int .i64 thr, .slice a cs.length c, pv] 41)).alloc (.cells (madeCells #[.slice none 0 0] N) 35)) = W0 at H0 HB0 HC0 ⊢
  go_loopw [7] (fun i wr => ∃ k : Nat, k ≤ cs.length ∧ i = .int .i64 k ∧ Below w.heap.size w wr ∧ wr.cell? ⟨w.heap.size, 1, none⟩ = some (.slice a cs.length c) ∧ ∃ f, RowsN wr (w.heap.size + 1) N (w.heap.size + 2) (crossTo cs k) f) (fun i _ => cs.length - (intOf i).toNat)
  case atStart => exact ⟨0, Nat.zero_le _, rfl, HB0.out, HC0.out, _, H0.out⟩
  case round =>
    obtain ⟨k, hk, rfl, hB, hcb, f, hRN⟩ := hrel
    have HB := Lib.hid hB
    have HRN := Lib.hid hRN
    clear hB hRN H0 HB0 HC0
    by_cases hlt : k < cs.length
    · obtain ⟨b', off, rfl, hbl', hcell⟩ := HC.out k cs[k] (List.getElem?_eq_getElem hlt)
      have hx0 := cells_below HB.out hbl' hcell 0 _ rfl
      obtain ⟨hw0, hw1⟩ := HW.out k cs[k] (List.getElem?_eq_getElem hlt)
      have hgk : cs[k]? = some cs[k] := List.getElem?_eq_getElem hlt
      generalize cs[k] = x at hx0 hw0 hw1 hgk
      have HG := Lib.hid hgk
      rw [Nat.add_zero] at hx0
      clear hcell HC HW hgk
      obtain ⟨xw, xa, xo, xu⟩ := x
      dsimp only at hx0 hw0 hw1
      obtain ⟨q, rfl⟩ := Int.eq_ofNat_of_zero_le hw0
      have hqN : q < N := by omega
      have hown := HRN.out.own q hqN
      have hRq := HRN.out.cell q hqN
      have hlen2 := crossTo_len cs k q
      have hrl : (crossTo cs k q).length < 1000000000 := by have := HCS.out; omega
      have hoff := HRN.out.off q hqN
      have HOFF := Lib.hid hoff
      have HOWN := Lib.hid hown
      have HRL := Lib.hid hrl
      have hk1 : k + 1 ≤ cs.length := by omega
      have hkm : cs.length - (k + 1) < cs.length - k := by omega
      have HK1 := Lib.hid hk1
      have HKM := Lib.hid hkm
      have hfree := HRN.out.free q
      have hbz : w.heap.size ≤ wr.heap.size := HB.out.size
      have hRl := HRN.out.lt
      have HBZ := Lib.hid hbz
      have HRLT := Lib.hid hRl
      clear hown hlen2 hrl hoff hk1 hkm hbz hRl
      go_wp2_with (at_builtin; go_must (refine app_int rfl _ _ rfl (w.heap.size + 2) (f q) (crossTo cs k q) rfl HOWN.out 1 (k : Int) _ rfl rfl HRL.out HRLT.out rfl ?_); intro v2 w2 hown2 hg2 hv2 hat2; obtain ⟨g2, c2, rfl⟩ := hown2.some_ hv2; rw [List.length_append, List.length_singleton] at hown2 hat2; have hf2 : w2.frozen? ⟨w.heap.size + 1, q, none⟩ = false := (World.frozen?_of_block (w := wr) (hg2.block (w.heap.size + 1) HRLT.out (fun e => HOFF.out e.symm))).trans hfree; have hc2 : w2.cell? ⟨w.heap.size + 1, q, none⟩ = some (f q) := hg2.cell (w := wr) hRq (fun e => HOFF.out e.symm); have HO2 := Lib.hid hown2; have HG2 := Lib.hid hg2; have HA2 := Lib.hid hat2; clear hown2 hg2 hat2 hv2)
      go_roundw
      case rel =>
        have hS := RowsN.step HRN.out hqN HO2.out HG2.out HA2.out
        refine ⟨k + 1, HK1.out, by go_num, ?_, ?_, ?_⟩
        · exact ((HB.out.grown HG2.out HBZ.out (fun kk e => Nat.le_trans (by omega) (HOWN.out.lt kk e).1))).setCell (by simp) _
        · exact (World.cell?_setCell_other w2 ⟨w.heap.size + 1, q, none⟩ ⟨w.heap.size, 1, none⟩ _ (by intro e; injection e with e _; omega)).trans (HG2.out.cell (w := wr) hcb (fun e => by have := (HOWN.out.lt _ e.symm).1; dsimp only at this; omega))
        · rw [crossTo_succ cs k _ HG.out]; exact ⟨_, hS⟩
      case measure => simpa [intOf] using HKM.out
    · go_wp2
      go_ret2
      obtain rfl : k = cs.length := by omega
      exact ⟨_, f, rfl, by omega, HRN.out.lower (by omega), HB.out⟩
end Go.Proofs.YtepofpnbgbmihaaDoor

/-
  slices.Repeat of one number.
-/
namespace Go.Proofs.YtepofpnbgbmihaaDoor
open Go.RowKit Go.Shelf Go.Proofs.YtepofpnbgbmihaaDoorW.PrintLast
set_option linter.unusedSimpArgs false
set_option linter.unusedVariables false

/-- n times -1, then 0. -/
def repArr (n N : Nat) : Array Value := (List.replicate n (Value.int .i64 (-1)) ++ List.replicate (N - n) (Value.int .i64 0)).toArray

theorem w64_add2 (n m : Nat) (hn : n ≤ 1000) (hm : m ≤ 1000) : wrap64 ((n : Int) + (m : Int)) = ((n + m : Nat) : Int) := by unfold wrap64; omega
theorem wrapi_add2 (n m : Nat) (hn : n ≤ 1000) (hm : m ≤ 1000) : IntKind.i64.wrap ((n : Int) + (m : Int)) = ((n + m : Nat) : Int) := by rw [IntKind.wrap_i64]; omega
theorem repArr_size {n N : Nat} (h : n ≤ N) : (repArr n N).size = N := by simp [repArr]; omega
theorem madeInt (N : Nat) : madeCells #[.int .i64 0] N = repArr 0 N := by
  apply Array.ext_getElem?
  intro i
  unfold repArr madeCells
  by_cases h : i < N <;> simp [h, Nat.mod_one, List.getElem?_replicate]
theorem repArr_get {n N i : Nat} (h : i < n) : (repArr n N)[i]? = some (.int .i64 (-1)) := by
  unfold repArr
  simp [List.getElem?_append_left, h, List.getElem?_replicate]
theorem repArr_copy (n m N : Nat) (h : n + m ≤ N) : ((repArr n N).toList.take n ++ List.replicate m (Value.int .i64 (-1)) ++ (repArr n N).toList.drop (n + (List.replicate m (Value.int .i64 (-1))).length)).toArray = repArr (n + m) N := by
  unfold repArr
  congr 1
  rw [List.length_replicate, List.take_append_of_le_length (by simp), List.take_of_length_le (by simp), List.drop_append, List.length_replicate, List.drop_eq_nil_of_le (by simp), List.nil_append, List.drop_replicate, List.replicate_append_replicate]
  congr 2
  omega
theorem copy_repG {P : Program} {e tS : TypeId} (hu : P.underlying tS = some (.slice e)) (hsz0 : ((P.info? e).map (·.size)) = some 1) (w : World) (g n m N dL dC sL sC : Nat) (b o : Nat) (hg : w.heap[g]? = some (.cells (repArr n N) e (0, 0))) (hn : n + m ≤ N) (hm : m = Nat.min sL dL) (hsrc : ∀ j, j < m → w.cell? ⟨b, o + j, none⟩ = some (.int .i64 (-1))) :
    (Builtin.copy_ #[tS, tS] e #[.slice (some ⟨g, n, none⟩) dL dC, .slice (some ⟨b, o, none⟩) sL sC]).run P w = .ok (.int .i64 m) (w.setRow g (repArr (n + m) N)) := by
  have h := run_copy_row (P := P) w tS tS e e g n dL dC ⟨b, o, none⟩ sL sC (repArr n N) e (List.replicate m (.int .i64 (-1))) hu hsz0 hg (by rw [List.length_replicate]; exact hm)
    (fun j v hj => by
      rw [List.getElem?_replicate] at hj
      split at hj
      · injection hj with hj
        subst hj
        have hadd : (⟨b, o, none⟩ : Addr).add j = ⟨b, o + j, none⟩ := by unfold Addr.add; split <;> simp_all
        rw [hadd]
        exact hsrc j (by assumption)
      · simp at hj) (by rw [repArr_size (by omega), List.length_replicate]; omega) (by intro v hv; rw [List.eq_of_mem_replicate hv]; rfl)
  rw [repArr_copy n m N hn, List.length_replicate] at h
  exact h
/-- copy within, or into, such a row. -/
theorem copy_rep (w : World) (g n m N dL dC sL sC : Nat) (b o : Nat) (hg : w.heap[g]? = some (.cells (repArr n N) 3 (0, 0))) (hn : n + m ≤ N) (hm : m = Nat.min sL dL) (hsrc : ∀ j, j < m → w.cell? ⟨b, o + j, none⟩ = some (.int .i64 (-1))) :
    (Builtin.copy_ #[35, 35] 3 #[.slice (some ⟨g, n, none⟩) dL dC, .slice (some ⟨b, o, none⟩) sL sC]).run Tryd.prog w = .ok (.int .i64 m) (w.setRow g (repArr (n + m) N)) :=
  copy_repG Tryd.underlying35 (by kernel_rfl) w g n m N dL dC sL sC b o hg hn hm hsrc

theorem mulOne (N : Nat) (hN : N ≤ 48) (w : World) : Calls Tryd.prog 60 #[.int .u64 1, .int .u64 N] w fun e w' => e = .returned (.tuple #[.int .u64 0, .int .u64 N]) ∧ w' = w := by
  refine (Tryd.bits_Mul 1 N (by omega) (by omega) w).mono ?_
  rintro e w' ⟨rfl, rfl⟩
  refine ⟨?_, rfl⟩
  rw [show 1 * N / 18446744073709551616 = 0 by omega, show 1 * N % 18446744073709551616 = N by omega]
  rfl

set_option maxRecDepth 100000 in
set_option maxHeartbeats 1000000 in
theorem repeat_any (N : Nat) (hN1 : 1 ≤ N) (hN : N ≤ 48) (b c : Nat) (w : World) (ha : w.cell? ⟨b, 0, none⟩ = some (.int .i64 (-1))) (hlt : b < w.heap.size) :
    Calls Tryd.prog 36 #[.slice (some ⟨b, 0, none⟩) 1 c, .int .i64 N] w fun e w' => ∃ R, e = .returned (.slice (some ⟨R, 0, none⟩) N N) ∧ w.heap.size ≤ R ∧ w'.heap[R]? = some (.cells (repArr N N) 3 (0, 0)) ∧ Below w.heap.size w w' := by
  have hmk : ∀ W : World, (Instr.makeSlice 35 (.int .i64 (N : Int)) (.int .i64 (N : Int))).run Tryd.prog W = .ok (.slice (some ⟨W.heap.size, 0, none⟩) N N) (W.alloc (.cells (madeCells #[.int .i64 0] N) 3)) := fun W => by
    obtain ⟨i0, hi, hz0, hz1, hz2⟩ := info_parts info_int
    have h := run_make_rowN (P := Tryd.prog) 35 3 i0 _ Tryd.underlying35 hi hz0 .i64 .i64 N N (Nat.le_refl _) (by rw [hz2]; omega) (by omega) W
    rw [hz1, Nat.mul_one] at h
    exact h
  have hi1 : (N : Int) ≤ 48 := by omega
  have hi0 : (1 : Int) ≤ N := by omega
  have hrow0 : (w.alloc (.cells (madeCells #[.int .i64 0] N) 3)).heap[w.heap.size]? = some (.cells (repArr 0 N) 3 (0, 0)) := by rw [← madeInt]; exact World.alloc_heap_new _ _
  have hcp1 := copy_rep (w.alloc (.cells (madeCells #[.int .i64 0] N) 3)) w.heap.size 0 1 N N N 1 c b 0 hrow0 (by omega) (by simp [Nat.min_def]; omega) (fun j hj => by
    obtain rfl : j = 0 := by omega
    exact (World.cell?_alloc_lt _ _ ⟨b, 0, none⟩ hlt).trans ha)
  have HCP := Lib.hid hcp1
  go_enter Tryd.func36, Tryd.ntmps36
  go_wp2_with (go_at_call 60; refine (mulOne N hN _).mono ?_; rintro e w' ⟨rfl, hw'⟩; have hw' := hw'.symm; subst hw')
  have hrow1 : ((w.alloc (.cells (madeCells #[.int .i64 0] N) 3)).setRow w.heap.size (repArr (0 + 1) N)).heap[w.heap.size]? = some (.cells (repArr 1 N) 3 (0, 0)) := setRow_heap _ _ _ _ _ _ hrow0
  have hB1 : Below w.heap.size w ((w.alloc (.cells (madeCells #[.int .i64 0] N) 3)).setRow w.heap.size (repArr (0 + 1) N)) := by
    refine ⟨rfl, rfl, rfl, ?_, fun i hi => (setRow_other _ _ _ _ (by omega)).trans (Below.heap_alloc w _ i hi)⟩
    have := (Array.getElem?_eq_some_iff.1 hrow1).1; omega
  generalize ((w.alloc (.cells (madeCells #[.int .i64 0] N) 3)).setRow w.heap.size (repArr (0 + 1) N)) = w1 at hrow1 hB1 ⊢
  have HR1 := Lib.hid hrow1
  have HB1 := Lib.hid hB1
  clear hrow0 hcp1 HCP hmk hrow1 hB1 ha hlt
  go_loopw [8] (fun i wr => ∃ n : Nat, 1 ≤ n ∧ n ≤ N ∧ i = .int .i64 n ∧ wr.heap[w.heap.size]? = some (.cells (repArr n N) 3 (0, 0)) ∧ Below w.heap.size w wr) (fun i _ => N - (intOf i).toNat)
  case atStart => exact ⟨1, Nat.le_refl _, hN1, rfl, HR1.out, HB1.out⟩
  case round =>
    clear HR1 HB1
    obtain ⟨n, hn1, hnN, rfl, hR, hB⟩ := hrel
    by_cases hlt : n < N
    · obtain ⟨m, hm⟩ : ∃ m, m = Nat.min n (N - n) := ⟨_, rfl⟩
      have hmn : n + m ≤ N := by rw [hm]; simp only [Nat.min_def]; split <;> omega
      have hm0 : 1 ≤ m := by rw [hm]; simp only [Nat.min_def]; split <;> omega
      have hRd : wr.drew.heap[w.heap.size]? = some (.cells (repArr n N) 3 (0, 0)) := hR
      have hBd : Below w.heap.size w wr.drew := hB.drew
      have hNn : ¬ (N = n) := by omega
      have hcp : (Builtin.copy_ #[35, 35] 3 #[.slice (some ⟨w.heap.size, n, none⟩) (N - n) (N - n), .slice (some ⟨w.heap.size, 0, none⟩) n N]).run Tryd.prog wr.drew = .ok (.int .i64 m) (wr.drew.setRow w.heap.size (repArr (n + m) N)) :=
        copy_rep wr.drew w.heap.size n m N (N - n) (N - n) n N w.heap.size 0 hRd hmn hm (fun j hj => by rw [Nat.zero_add, cell_of_row _ _ j _ _ _ hRd]; exact repArr_get (by rw [hm] at hj; have := Nat.min_le_left n (N - n); simp only [Nat.min_def] at *; split at hj <;> omega))
      have hR2 : (wr.drew.setRow w.heap.size (repArr (n + m) N)).heap[w.heap.size]? = some (.cells (repArr (n + m) N) 3 (0, 0)) := setRow_heap _ _ _ _ _ _ hRd
      have hB2 : Below w.heap.size w (wr.drew.setRow w.heap.size (repArr (n + m) N)) := hBd.trans ⟨rfl, rfl, rfl, by simp, fun i hi => setRow_other _ _ _ _ (by omega)⟩
      have HR2 := Lib.hid hR2
      have HB2 := Lib.hid hB2
      have hnm0 : (decide ((n : Int) < 0)) = false := decide_eq_false (by omega)
      have hn48 : (n : Int) ≤ 48 := by omega
      have hm48 : (m : Int) ≤ 48 := by omega
      have hw64 := w64_add2 n m (by omega) (by omega)
      have hwi : IntKind.i64.wrap ((n : Int) + (m : Int)) = ((n + m : Nat) : Int) := wrapi_add2 n m (by omega) (by omega)
      clear hR hB hR2 hB2 hm hRd hBd
      go_wp2
      refine start_ (n := 10) (S := fun w' => True) (ds := []) #[false, false, false, false, false, false, false, false, false, false] (by kernel_rfl) rfl rfl trivial (fun hHeld => ?_)
      refine pure_ (i := 0) (N := some 38) (v := ?_) (a' := ?_) #[true, false, false, false, false, false, false, false, false, false] rfl rfl (by kernel_rfl) (fun _ _ _ h => h) (Or.inl ⟨by rfl, ?_⟩) ?_ ?_
      rotate_left
      · intro w'
        go_simp
        with_reducible rfl
      rotate_left
      · simp only [Act.put, List.setIfInBounds_toArray, List.set_cons_zero, List.set_cons_succ, i64_w, i32_w]
        rfl
      refine pure_ (i := 1) (N := some 39) (v := ?_) (a' := ?_) #[true, true, false, false, false, false, false, false, false, false] rfl rfl (by kernel_rfl) (fun _ _ _ h => h) (Or.inl ⟨by rfl, ?_⟩) ?_ ?_
      rotate_left
      · intro w'
        go_simp
        with_reducible rfl
      rotate_left
      · simp only [Act.put, List.setIfInBounds_toArray, List.set_cons_zero, List.set_cons_succ, i64_w, i32_w]
        rfl
      refine pure_ (i := 2) (N := some 40) (v := ?_) (a' := ?_) #[true, true, true, false, false, false, false, false, false, false] rfl rfl (by kernel_rfl) (fun _ _ _ h => h) (Or.inl ⟨by rfl, ?_⟩) ?_ ?_
      rotate_left
      · intro w'
        go_simp
        with_reducible rfl
      rotate_left
      · simp only [Act.put, List.setIfInBounds_toArray, List.set_cons_zero, List.set_cons_succ, i64_w, i32_w]
        rfl
      refine pure_ (i := 3) (N := some 41) (v := ?_) (a' := ?_) #[true, true, true, true, false, false, false, false, false, false] rfl rfl (by kernel_rfl) (fun _ _ _ h => h) (Or.inl ⟨by rfl, ?_⟩) ?_ ?_
      rotate_left
      · intro w'
        go_simp
        with_reducible rfl
      rotate_left
      · simp only [Act.put, List.setIfInBounds_toArray, List.set_cons_zero, List.set_cons_succ, i64_w, i32_w]
        rfl
      refine pure_ (i := 4) (N := some 42) (v := ?_) (a' := ?_) #[true, true, true, true, true, false, false, false, false, false] rfl rfl (by kernel_rfl) (fun _ _ _ h => h) (Or.inl ⟨by rfl, ?_⟩) ?_ ?_
      rotate_left
      · intro w'
        go_simp
        with_reducible rfl
      rotate_left
      · simp only [Act.put, List.setIfInBounds_toArray, List.set_cons_zero, List.set_cons_succ, i64_w, i32_w]
        rfl
      refine pure_ (i := 5) (N := some 43) (v := ?_) (a' := ?_) #[true, true, true, true, true, true, false, false, false, false] rfl rfl (by kernel_rfl) (fun _ _ _ h => h) (Or.inl ⟨by rfl, ?_⟩) ?_ ?_
      rotate_left
      · intro w'
        go_simp
        with_reducible rfl
      rotate_left
      · simp only [Act.put, List.setIfInBounds_toArray, List.set_cons_zero, List.set_cons_succ, i64_w, i32_w]
        rfl
      refine pure_ (i := 6) (N := some 44) (v := ?_) (a' := ?_) #[true, true, true, true, true, true, true, false, false, false] rfl rfl (by kernel_rfl) (fun _ _ _ h => h) (Or.inl ⟨by rfl, ?_⟩) ?_ ?_
      rotate_left
      · intro w'
        go_simp
        with_reducible rfl
      rotate_left
      · simp only [Act.put, List.setIfInBounds_toArray, List.set_cons_zero, List.set_cons_succ, i64_w, i32_w]
        rfl
      refine one_ (i := 7) (N := some 45) #[true, true, true, true, true, true, true, true, false, false] rfl rfl (by kernel_rfl) (by decide) (fun K hK => ?_)
      refine value_ (w1 := ?_) (v := ?_) (by rfl) rfl ?_ ?_
      rotate_left 2
      · go_simp
        constructor
        · rfl
        · rfl
      refine hK.out _ _ trivial (fun hHeld => ?_)
      clear hK K
      refine norm_ (a' := ?_) ?_ ?_
      rotate_left
      · show Act.put _ (some 45) _ = _
        simp only [Act.put, List.setIfInBounds_toArray, List.set_cons_zero, List.set_cons_succ, i64_w, i32_w]
        rfl
      refine pure_ (i := 8) (N := some 46) (v := ?_) (a' := ?_) #[true, true, true, true, true, true, true, true, true, false] rfl rfl (by kernel_rfl) (fun _ _ _ h => h) (Or.inl ⟨by rfl, ?_⟩) ?_ ?_
      rotate_left
      · intro w'
        go_simp
        with_reducible rfl
      rotate_left
      · simp only [Act.put, List.setIfInBounds_toArray, List.set_cons_zero, List.set_cons_succ, i64_w, i32_w]
        rfl
      refine pure_ (i := 9) (N := some 8) (v := ?_) (a' := ?_) #[true, true, true, true, true, true, true, true, true, true] rfl rfl (by kernel_rfl) (fun _ _ _ h => h) (Or.inl ⟨by rfl, ?_⟩) ?_ ?_
      rotate_left
      · intro w'
        go_simp
        with_reducible rfl
      rotate_left
      · simp only [Act.put, List.setIfInBounds_toArray, List.set_cons_zero, List.set_cons_succ, i64_w, i32_w]
        rfl
      refine done_ (by kernel_rfl) ?_
      go_wp2
      go_roundw
      case rel => exact ⟨n + m, by omega, hmn, rfl, HR2.out, HB2.out⟩
      case measure => first | (simp [intOf]; done) | (simp [intOf]; omega)
    · obtain rfl : n = N := by omega
      have HR := Lib.hid hR
      have HB := Lib.hid hB
      clear hR hB
      go_wp2
      go_ret
      exact ⟨_, rfl, Nat.le_refl _, HR.out, HB.out⟩
end Go.Proofs.YtepofpnbgbmihaaDoor

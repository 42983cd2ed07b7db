/-
  colours.Least.
-/
import Derived.Test.YtepofpnbgbmihaaDoorM3

/-
  colours.Least.
-/
namespace Go.Proofs.YtepofpnbgbmihaaDoor
open Go.RowKit Go.Shelf Go.Proofs.YtepofpnbgbmihaaDoorW.PrintLast
set_option linter.unusedSimpArgs false
set_option linter.unusedVariables false

/-- N numbers as cells. -/
def rowN (N : Nat) (f : Nat → Int) : Array Value := ((List.range N).map fun p => Value.int .i64 (f p)).toArray
theorem rowN_size (N : Nat) (f : Nat → Int) : (rowN N f).size = N := by simp [rowN]
theorem rowN_get (N : Nat) (f : Nat → Int) (p : Nat) (h : p < N) : (rowN N f)[p]? = some (.int .i64 (f p)) := by
  simp only [rowN, List.getElem?_toArray, List.getElem?_map, List.getElem?_range h, Option.map_some]
theorem rowN_none (N : Nat) (f : Nat → Int) (p : Nat) (h : ¬ p < N) : (rowN N f)[p]? = none := by rw [Array.getElem?_eq_none_iff, rowN_size]; omega
theorem rowN_congr {N : Nat} {l m : Nat → Int} (h : ∀ p, p < N → l p = m p) : rowN N l = rowN N m := by
  apply Array.ext_getElem?
  intro q
  by_cases hq : q < N
  · rw [rowN_get _ _ q hq, rowN_get _ _ q hq, h q hq]
  · rw [rowN_none _ _ q hq, rowN_none _ _ q hq]
theorem rowN_set (N : Nat) (l : Nat → Int) (p : Nat) (x : Int) (h : p < N) : (rowN N l).setIfInBounds p (.int .i64 x) = rowN N (fun q => if q = p then x else l q) := by
  apply Array.ext_getElem?
  intro q
  rw [Array.getElem?_setIfInBounds, rowN_size]
  by_cases hq : q < N
  · rw [rowN_get _ _ q hq]
    by_cases e : p = q
    · subst e; rw [rowN_get _ _ p hq]; simp [hq]
    · rw [if_neg e, rowN_get _ _ q hq, if_neg (Ne.symm e)]
  · rw [rowN_none _ _ q hq, rowN_none _ _ q hq]
    by_cases e : p = q
    · omega
    · rw [if_neg e]
theorem rep_rowN (N : Nat) : repArr N N = rowN N (fun _ => -1) := by
  apply Array.ext_getElem?
  intro q
  by_cases hq : q < N
  · rw [repArr_get hq, rowN_get _ _ q hq]
  · rw [rowN_none _ _ q hq, Array.getElem?_eq_none_iff, repArr_size (Nat.le_refl _)]; omega

def seenAt (cs : List Crs) (t : Nat) : Bool := cs.any fun x => decide (x.over = (t : Int))
/-- Behind the first k crossings. -/
def leastTo (d : Nat → Int) (cs : List Crs) (k : Nat) (t : Nat) : Int := if seenAt (cs.take k) t then d t else -1
def leastF (d : Nat → Int) (cs : List Crs) (t : Nat) : Int := if seenAt cs t then d t else 0
theorem leastTo_succ (d : Nat → Int) (cs : List Crs) (k : Nat) (h : k < cs.length) (o : Nat) (ho : cs[k].over = (o : Int)) (t : Nat) : leastTo d cs (k + 1) t = if t = o then d o else leastTo d cs k t := by
  unfold leastTo seenAt
  rw [List.take_succ_eq_append_getElem h, List.any_append, List.any_cons, List.any_nil, Bool.or_false, ho]
  by_cases e : t = o
  · subst e; simp
  · have h2 : ¬ ((o : Int) = (t : Int)) := by omega
    rw [decide_eq_false h2, Bool.or_false, if_neg e]

theorem leastMax (d : Nat → Int) (cs : List Crs) (ss : List Int) (hl : ss.length = cs.length) (hall : ∀ (i : Nat) (x : Int), ss[i]? = some x → 0 ≤ x ∧ x < 16) (hss : ∀ (i : Nat) (x : Crs) (y : Int), cs[i]? = some x → ss[i]? = some y → y = d x.over.toNat) (t : Nat) :
    max (leastTo d cs cs.length t) 0 = leastF d cs t := by
  unfold leastTo leastF
  rw [List.take_length]
  cases h : seenAt cs t with
  | false => rfl
  | true =>
    unfold seenAt at h
    rw [List.any_eq_true] at h
    obtain ⟨x, hx, hxt⟩ := h
    obtain ⟨i, hi⟩ := List.getElem?_of_mem hx
    have hlt := (List.getElem?_eq_some_iff.1 hi).1
    have h2 := hss i x _ hi (List.getElem?_eq_getElem (by omega))
    have h3 := hall i _ (List.getElem?_eq_getElem (by omega))
    have h4 : x.over = (t : Int) := of_decide_eq_true hxt
    rw [h4, Int.toNat_natCast] at h2
    simp only [if_true]
    omega

structure LeQ (w wr : World) (C R N : Nat) (cl : Array Value) (f : Nat → Int) : Prop where
  c : wr.heap[C]? = some (.cells cl 41 (0, 0))
  r : wr.heap[R]? = some (.cells (rowN N f) 3 (0, 0))
  ne : C ≠ R
  ge : w.heap.size ≤ R
  below : Below w.heap.size w wr
theorem LeQ.later {w wr wr' : World} {C R N : Nat} {cl : Array Value} {f : Nat → Int} (h : LeQ w wr C R N cl f) (hb : Below wr.heap.size wr wr') : LeQ w wr' C R N cl f :=
  ⟨(hb.block _ (Array.getElem?_eq_some_iff.1 h.c).1).trans h.c, (hb.block _ (Array.getElem?_eq_some_iff.1 h.r).1).trans h.r, h.ne, h.ge, h.below.trans (hb.mono h.below.size)⟩
theorem LeQ.set {w wr : World} {C R N : Nat} {cl : Array Value} {f g : Nat → Int} (h : LeQ w wr C R N cl f) (p : Nat) (hp : p < N) (x : Int) (hg : ∀ t, t < N → g t = if t = p then x else f t) : LeQ w (wr.setCell ⟨R, p, none⟩ (.int .i64 x)) C R N cl g := by
  have h2 := heap_setCell_same wr R p _ _ (.int .i64 x) h.r
  rw [rowN_set N f p x hp] at h2
  refine ⟨(Below.heap_setCell wr ⟨R, p, none⟩ _ _ h.ne).trans h.c, h2.trans ?_, h.ne, h.ge, h.below.setCell h.ge _⟩
  rw [rowN_congr hg]
theorem LeQ.congr {w wr : World} {C R N : Nat} {cl : Array Value} {f g : Nat → Int} (h : LeQ w wr C R N cl f) (hg : ∀ t, t < N → g t = f t) : LeQ w wr C R N cl g := by
  refine ⟨h.c, h.r.trans ?_, h.ne, h.ge, h.below⟩
  rw [rowN_congr hg]
theorem LeQ.cell {w wr : World} {C R N : Nat} {cl : Array Value} {f : Nat → Int} (h : LeQ w wr C R N cl f) (p : Nat) (hp : p < N) : wr.cell? ⟨R, p, none⟩ = some (.int .i64 (f p)) := by rw [cell_of_row _ R p _ _ _ h.r, rowN_get N f p hp]
theorem LeQ.free {w wr : World} {C R N : Nat} {cl : Array Value} {f : Nat → Int} (h : LeQ w wr C R N cl f) (p : Nat) : wr.frozen? ⟨R, p, none⟩ = false := frozen_of_row wr R p _ _ h.r
theorem rowN_rd {w : World} {R N : Nat} {f : Nat → Int} (h : w.heap[R]? = some (.cells (rowN N f) 3 (0, 0))) (hN : N ≤ 1000000) : RdL 1 encI w (.slice (some ⟨R, 0, none⟩) N N) ((List.range N).map f) := by
  refine ⟨some ⟨R, 0, none⟩, N, by simp, by simp, by unfold maxLen; omega, fun i x hx => ?_⟩
  have hi : i < N := by have := (List.getElem?_eq_some_iff.1 hx).1; simpa using this
  rw [List.getElem?_map, List.getElem?_range hi] at hx
  simp only [Option.map_some, Option.some.injEq] at hx
  refine ⟨R, 0, rfl, (Array.getElem?_eq_some_iff.1 h).1, fun j u hu => ?_⟩
  rcases j with _ | j
  · simp only [encI, List.getElem?_cons_zero, Option.some.injEq] at hu
    rw [← hu, ← hx, cell_of_row _ R _ _ _ _ h, rowN_get N f _ (by omega)]
    congr 2
    congr 1
    omega
  · simp [encI] at hu

set_option maxRecDepth 100000 in
set_option maxHeartbeats 1000000 in
theorem least_any (N : Nat) (cs : List Crs) (ps : List Pn) (cv pv dv : Value) (ss : List Int) (d : Nat → Int) (w : World) (hok : ClothOk N cs ps) (hc : RdL 4 encX w cv cs) (hp : RdL 4 encP w pv ps)
    (hd : RdL 1 encI w dv ss) (hl : ss.length = cs.length) (hall : ∀ (i : Nat) (x : Int), ss[i]? = some x → 0 ≤ x ∧ x < 16) (hss : ∀ (i : Nat) (x : Crs) (y : Int), cs[i]? = some x → ss[i]? = some y → y = d x.over.toNat) :
    Calls Tryd.prog 14 #[.agg #[.int .i64 N, cv, pv], dv] w fun e w' => ∃ R, e = .returned (.tuple #[.slice (some ⟨R, 0, none⟩) N N, .int .i64 0]) ∧ RdL 1 encI w' (.slice (some ⟨R, 0, none⟩) N N) ((List.range N).map (leastF d cs)) ∧ Below w.heap.size w w' := by
  have hy := fun W => clCheck_any N cs ps cv pv W hok
  have HY := Lib.hid hy
  have hz := fun W hr => bad_any dv ss W hr hall
  rw [hl] at hz
  have HZ := Lib.hid hz
  have HRC := Lib.hid hc
  have HRP := Lib.hid hp
  have HRD := Lib.hid hd
  have HOK := Lib.hid hok
  have HALL := Lib.hid hall
  have HSS := Lib.hid hss
  have HL := Lib.hid hl
  obtain ⟨ca, cc, rfl, hlen, hca⟩ := hc.slice
  obtain ⟨da, dc, rfl, hdlen, hda⟩ := hd.slice
  have hl2 := hok.t2
  have hl3 := hok.t48
  have hn1 : 1 ≤ N := by omega
  have hn48 : N ≤ 48 := by omega
  have hrep := repeat_any N hn1 hn48
  have HREP := Lib.hid hrep
  have HCA := Lib.hid hca
  have HDA := Lib.hid hda
  clear hy hc hp hd hok hca hda hall hss hz hl hrep
  go_enter Tryd.func14, Tryd.ntmps14
  go_wp2_with fail
  refine (HY.out _ (HRC.out.alloc _) (HRP.out.alloc _)).mono ?_
  rintro e w1 ⟨rfl, hb1⟩
  have hr1 : w1.heap[w.heap.size]? = some (.cells #[.int .i64 N, .slice ca cs.length cc, pv] 41 (0, 0)) := (hb1.block _ (by simp)).trans (World.alloc_heap_new _ _)
  have hB1 : Below w.heap.size w w1 := ((Below.refl _ w).alloc (Nat.le_refl _) _).trans (hb1.mono (by simp))
  have hs1 : w1.cell? ⟨w.heap.size, 1, none⟩ = some (.slice ca cs.length cc) := by rw [cell_of_row _ _ 1 _ _ _ hr1]; rfl
  have HR1 := Lib.hid hr1
  have HB1 := Lib.hid hB1
  clear hb1 hr1 hB1 HY HRC HRP
  dsimp only
  go_wp2_with fail
  refine (HZ.out _ (HRD.out.later HB1.out)).mono ?_
  rintro e w2 ⟨rfl, hb2⟩
  have hr2 : w2.heap[w.heap.size]? = some (.cells #[.int .i64 N, .slice ca cs.length cc, pv] 41 (0, 0)) := (hb2.block _ (Array.getElem?_eq_some_iff.1 HR1.out).1).trans HR1.out
  have hB2 : Below w.heap.size w w2 := HB1.out.trans (hb2.mono HB1.out.size)
  have hs0 : w2.cell? ⟨w.heap.size, 0, none⟩ = some (.int .i64 N) := by rw [cell_of_row _ _ 0 _ _ _ hr2]; rfl
  have HR2 := Lib.hid hr2
  have HB2 := Lib.hid hB2
  have hlt2 := (Array.getElem?_eq_some_iff.1 hr2).1
  clear hb2 hr2 hB2 hs1 HR1 HB1 HZ HRD
  dsimp only
  go_wp2_with fail
  refine (HREP.out _ _ _ ?_ ?_).mono ?_
  · simp [World.cell?_alloc_at]
  · simp
  rintro e w3 ⟨R, rfl, hRge, hR3, hb3⟩
  have hr3 : w3.heap[w.heap.size]? = some (.cells #[.int .i64 N, .slice ca cs.length cc, pv] 41 (0, 0)) := (hb3.block _ (by simp; omega)).trans ((Below.heap_alloc _ _ _ hlt2).trans HR2.out)
  have hQ3 : LeQ w w3 w.heap.size R N #[.int .i64 N, .slice ca cs.length cc, pv] (leastTo d cs 0) := by
    refine ⟨hr3, ?_, by simp at hRge; omega, by simp at hRge; omega, (HB2.out.alloc HB2.out.size _).trans (hb3.mono (by simp; omega))⟩
    rw [hR3, rep_rowN]
    rfl
  have hs1 : w3.cell? ⟨w.heap.size, 1, none⟩ = some (.slice ca cs.length cc) := by rw [cell_of_row _ _ 1 _ _ _ hr3]; rfl
  have HQ3 := Lib.hid hQ3
  clear hb3 hr3 hR3 hRge hQ3 hs0 HR2 HB2 HREP hlt2
  dsimp only
  go_wp2_with fail
  clear hs1
  go_loopw [30] (fun i wr => ∃ k : Nat, k ≤ cs.length ∧ i = .int .i64 k ∧ LeQ w wr w.heap.size R N #[.int .i64 N, .slice ca cs.length cc, pv] (leastTo d cs k)) (fun i _ => cs.length - (intOf i).toNat)
  case atStart => exact ⟨0, Nat.zero_le _, rfl, HQ3.out⟩
  case round =>
    clear HQ3
    obtain ⟨k, hk, rfl, hQ⟩ := hrel
    by_cases hlt : k < cs.length
    · obtain ⟨b, off, rfl, hbl, hcell⟩ := HCA.out k cs[k] (List.getElem?_eq_getElem hlt)
      have hcb := cells_below hQ.below hbl hcell
      have hx0 := hcb 0 _ rfl
      have hx1 := hcb 1 _ rfl
      have hx2 := hcb 2 _ rfl
      have hx3 := hcb 3 _ rfl
      rw [Nat.add_zero] at hx0
      obtain ⟨-, -, -, q4, q5, q6, q7⟩ := HOK.out.cr k cs[k] (List.getElem?_eq_getElem hlt)
      have hlts : k < ss.length := by have := HL.out; omega
      obtain ⟨db, doff, rfl, hdb, hdy⟩ := rdI_open HDA.out (by omega)
      have hy0 := (hQ.below.cell (p := ⟨db, doff + k, none⟩) hdb).trans (hdy k _ (List.getElem?_eq_getElem hlts))
      have hyd := HSS.out k _ _ (List.getElem?_eq_getElem hlt) (List.getElem?_eq_getElem hlts)
      obtain ⟨hya, hyb⟩ := HALL.out k _ (List.getElem?_eq_getElem hlts)
      have hst := fun o ho t => leastTo_succ d cs k hlt o ho t
      have hdbl : db < wr.heap.size := Nat.lt_of_lt_of_le hdb hQ.below.size
      generalize ss[k] = y at hy0 hyd hya hyb
      generalize cs[k] = x at hx0 hx1 hx2 hx3 q4 q5 q6 q7 hyd hst
      obtain ⟨xw, xa, xo, xu⟩ := x
      dsimp only at hx0 hx1 hx2 hx3 q4 q5 q6 q7 hyd hst
      obtain ⟨o, rfl⟩ := Int.eq_ofNat_of_zero_le q4
      rw [Int.toNat_natCast] at hyd
      have ho : o < N := by omega
      have hq5 : (decide ((o : Int) < N)) = true := decide_eq_true q5
      have hkl : (decide ((k : Int) < ss.length)) = true := decide_eq_true (by omega)
      have hcO := hQ.cell o ho
      have hcF := hQ.free o
      have HST := Lib.hid (hst o rfl)
      have HYD := Lib.hid hyd
      have hRl := (Array.getElem?_eq_some_iff.1 hQ.r).1
      have HQW := Lib.hid hQ
      have HQ := Lib.hid (hQ.later ((Below.refl _ _).alloc (Nat.le_refl _) (.cells #[.int .i64 xw, .int .i64 xa, .int .i64 o, .int .i64 xu] 74)))
      have hv : leastTo d cs k o = -1 ∨ leastTo d cs k o = y := by
        unfold leastTo
        split
        · exact .inr hyd.symm
        · exact .inl rfl
      clear hcb hcell hst hyd hQ hdy q6 q7 HCA HDA HALL HSS HOK HL
      generalize leastTo d cs k o = v at hcO hv
      rcases hv with rfl | rfl
      · go_wp2
        have hc2 : (wr.alloc (.cells #[.int .i64 xw, .int .i64 xa, .int .i64 o, .int .i64 xu] 74)).drew.cell? ⟨wr.heap.size, 2, none⟩ = some (.int .i64 o) := by simp [World.cell?_alloc_at]
        have hc3 : (wr.alloc (.cells #[.int .i64 xw, .int .i64 xa, .int .i64 o, .int .i64 xu] 74)).drew.cell? ⟨db, doff + k, none⟩ = some (.int .i64 y) := (World.cell?_alloc_lt _ _ ⟨db, doff + k, none⟩ hdbl).trans hy0
        have hQd := HQ.out.later ((Below.refl _ _).drew)
        have HQD := Lib.hid hQd
        have hcR := hQd.cell o ho
        have hfR := hQd.free o
        clear hQd hx0 hx1 hx2 hx3 hy0 HQ hcO hcF
        refine start_ (n := 9) (S := fun w' => w'.cell? ⟨wr.heap.size, 2, none⟩ = some (.int .i64 o) ∧ w'.cell? ⟨db, doff + k, none⟩ = some (.int .i64 y)) (ds := [8]) #[false, false, false, false, false, false, false, false, false] (by kernel_rfl) rfl rfl ⟨hc2, hc3⟩ (fun hHeld => ?_)
        refine pure_ (i := 0) (N := some 50) (v := ?_) (a' := ?_) #[true, false, false, false, false, false, false, false, false] rfl rfl (by kernel_rfl) (fun _ _ _ h => h) (Or.inl ⟨by rfl, ?_⟩) ?_ ?_
        rotate_left
        · intro w'
          go_simp
          with_reducible rfl
        rotate_left
        · simp only [Act.put, List.setIfInBounds_toArray, List.set_cons_zero, List.set_cons_succ, i64_w, i32_w]
          rfl
        refine pure_ (i := 1) (N := some 51) (v := ?_) (a' := ?_) #[true, true, false, false, false, false, false, false, false] rfl rfl (by kernel_rfl) (fun _ _ _ h => h) (Or.inl ⟨by rfl, ?_⟩) ?_ ?_
        rotate_left
        · intro w'
          go_simp
          with_reducible rfl
        rotate_left
        · simp only [Act.put, List.setIfInBounds_toArray, List.set_cons_zero, List.set_cons_succ, i64_w, i32_w]
          rfl
        refine pure_ (i := 3) (N := some 53) (v := ?_) (a' := ?_) #[true, true, false, true, false, false, false, false, false] rfl rfl (by kernel_rfl) (fun _ _ _ h => h) (Or.inl ⟨by rfl, ?_⟩) ?_ ?_
        rotate_left
        · intro w'
          go_simp
          with_reducible rfl
        rotate_left
        · simp only [Act.put, List.setIfInBounds_toArray, List.set_cons_zero, List.set_cons_succ, i64_w, i32_w]
          rfl
        refine pure_ (i := 4) (N := some 54) (v := ?_) (a' := ?_) #[true, true, false, true, true, false, false, false, false] rfl rfl (by kernel_rfl) (fun _ _ _ h => h) (Or.inl ⟨by rfl, ?_⟩) ?_ ?_
        rotate_left
        · intro w'
          go_simp
          with_reducible rfl
        rotate_left
        · simp only [Act.put, List.setIfInBounds_toArray, List.set_cons_zero, List.set_cons_succ, i64_w, i32_w]
          rfl
        refine pure_ (i := 5) (N := some 55) (v := ?_) (a' := ?_) #[true, true, false, true, true, true, false, false, false] rfl rfl (by kernel_rfl) (fun _ _ _ h => h) (Or.inl ⟨by rfl, ?_⟩) ?_ ?_
        rotate_left
        · intro w'
          go_simp
          with_reducible rfl
        rotate_left
        · simp only [Act.put, List.setIfInBounds_toArray, List.set_cons_zero, List.set_cons_succ, i64_w, i32_w]
          rfl
        refine take_ (i := 2) (N := some 52) (v := ?_) (a' := ?_) #[true, true, true, true, true, true, false, false, false] rfl rfl (by kernel_rfl) (fun _ _ _ h => h) (Or.inl ⟨by rfl, ?_⟩) hHeld ?_ ?_
        rotate_left
        · rintro w' ⟨s0, s1⟩
          go_simp
          with_reducible rfl
        rotate_left
        · simp only [Act.put, List.setIfInBounds_toArray, List.set_cons_zero, List.set_cons_succ, i64_w, i32_w]
          rfl
        refine take_ (i := 6) (N := some 56) (v := ?_) (a' := ?_) #[true, true, true, true, true, true, true, false, false] rfl rfl (by kernel_rfl) (fun _ _ _ h => h) (Or.inl ⟨by rfl, ?_⟩) hHeld ?_ ?_
        rotate_left
        · rintro w' ⟨s0, s1⟩
          go_simp
          with_reducible rfl
        rotate_left
        · simp only [Act.put, List.setIfInBounds_toArray, List.set_cons_zero, List.set_cons_succ, i64_w, i32_w]
          rfl
        refine pure_ (i := 7) (N := some 57) (v := ?_) (a' := ?_) #[true, true, true, true, true, true, true, true, false] rfl rfl (by kernel_rfl) (fun _ _ _ h => h) (Or.inl ⟨by rfl, ?_⟩) ?_ ?_
        rotate_left
        · intro w'
          go_simp
          with_reducible rfl
        rotate_left
        · simp only [Act.put, List.setIfInBounds_toArray, List.set_cons_zero, List.set_cons_succ, i64_w, i32_w]
          rfl
        refine last_ (i := 8) (N := none) #[true, true, true, true, true, true, true, true, true] rfl rfl (by kernel_rfl) (by decide) (fun K hK => ?_)
        refine skip_ (w1 := ?_) (by rfl) rfl ?_ ?_
        rotate_left
        · go_simp
          rfl
        refine hK.out _ _ ?_
        clear hK K
        refine done_ (by kernel_rfl) ?_
        clear hcR hfR hc2 hc3
        go_wp2
        go_roundw
        case rel => exact ⟨k + 1, by omega, by go_num, (HQW.out.set o ho y (fun t _ => by rw [HST.out t]; by_cases e : t = o <;> simp [e, ← HYD.out])).later (((Below.refl _ _).alloc (Nat.le_refl _) _).drew)⟩
        case measure => first | (simp [intOf]; done) | (simp [intOf]; omega)
      · have hne : (decide (v = -1)) = false := decide_eq_false (by omega)
        go_wp2
        have hc2 : (wr.alloc (.cells #[.int .i64 xw, .int .i64 xa, .int .i64 o, .int .i64 xu] 74)).drew.cell? ⟨wr.heap.size, 2, none⟩ = some (.int .i64 o) := by simp [World.cell?_alloc_at]
        have hc3 : (wr.alloc (.cells #[.int .i64 xw, .int .i64 xa, .int .i64 o, .int .i64 xu] 74)).drew.cell? ⟨db, doff + k, none⟩ = some (.int .i64 v) := (World.cell?_alloc_lt _ _ ⟨db, doff + k, none⟩ hdbl).trans hy0
        have hQd := HQ.out.later ((Below.refl _ _).drew)
        have HQD := Lib.hid hQd
        have hcR := hQd.cell o ho
        have hfR := hQd.free o
        clear hQd hx0 hx1 hx2 hx3 hy0 HQ hcO hcF
        refine start_ (n := 9) (S := fun w' => w'.cell? ⟨wr.heap.size, 2, none⟩ = some (.int .i64 o) ∧ w'.cell? ⟨db, doff + k, none⟩ = some (.int .i64 v)) (ds := [8]) #[false, false, false, false, false, false, false, false, false] (by kernel_rfl) rfl rfl ⟨hc2, hc3⟩ (fun hHeld => ?_)
        refine pure_ (i := 0) (N := some 50) (v := ?_) (a' := ?_) #[true, false, false, false, false, false, false, false, false] rfl rfl (by kernel_rfl) (fun _ _ _ h => h) (Or.inl ⟨by rfl, ?_⟩) ?_ ?_
        rotate_left
        · intro w'
          go_simp
          with_reducible rfl
        rotate_left
        · simp only [Act.put, List.setIfInBounds_toArray, List.set_cons_zero, List.set_cons_succ, i64_w, i32_w]
          rfl
        refine pure_ (i := 1) (N := some 51) (v := ?_) (a' := ?_) #[true, true, false, false, false, false, false, false, false] rfl rfl (by kernel_rfl) (fun _ _ _ h => h) (Or.inl ⟨by rfl, ?_⟩) ?_ ?_
        rotate_left
        · intro w'
          go_simp
          with_reducible rfl
        rotate_left
        · simp only [Act.put, List.setIfInBounds_toArray, List.set_cons_zero, List.set_cons_succ, i64_w, i32_w]
          rfl
        refine pure_ (i := 3) (N := some 53) (v := ?_) (a' := ?_) #[true, true, false, true, false, false, false, false, false] rfl rfl (by kernel_rfl) (fun _ _ _ h => h) (Or.inl ⟨by rfl, ?_⟩) ?_ ?_
        rotate_left
        · intro w'
          go_simp
          with_reducible rfl
        rotate_left
        · simp only [Act.put, List.setIfInBounds_toArray, List.set_cons_zero, List.set_cons_succ, i64_w, i32_w]
          rfl
        refine pure_ (i := 4) (N := some 54) (v := ?_) (a' := ?_) #[true, true, false, true, true, false, false, false, false] rfl rfl (by kernel_rfl) (fun _ _ _ h => h) (Or.inl ⟨by rfl, ?_⟩) ?_ ?_
        rotate_left
        · intro w'
          go_simp
          with_reducible rfl
        rotate_left
        · simp only [Act.put, List.setIfInBounds_toArray, List.set_cons_zero, List.set_cons_succ, i64_w, i32_w]
          rfl
        refine pure_ (i := 5) (N := some 55) (v := ?_) (a' := ?_) #[true, true, false, true, true, true, false, false, false] rfl rfl (by kernel_rfl) (fun _ _ _ h => h) (Or.inl ⟨by rfl, ?_⟩) ?_ ?_
        rotate_left
        · intro w'
          go_simp
          with_reducible rfl
        rotate_left
        · simp only [Act.put, List.setIfInBounds_toArray, List.set_cons_zero, List.set_cons_succ, i64_w, i32_w]
          rfl
        refine take_ (i := 2) (N := some 52) (v := ?_) (a' := ?_) #[true, true, true, true, true, true, false, false, false] rfl rfl (by kernel_rfl) (fun _ _ _ h => h) (Or.inl ⟨by rfl, ?_⟩) hHeld ?_ ?_
        rotate_left
        · rintro w' ⟨s0, s1⟩
          go_simp
          with_reducible rfl
        rotate_left
        · simp only [Act.put, List.setIfInBounds_toArray, List.set_cons_zero, List.set_cons_succ, i64_w, i32_w]
          rfl
        refine take_ (i := 6) (N := some 56) (v := ?_) (a' := ?_) #[true, true, true, true, true, true, true, false, false] rfl rfl (by kernel_rfl) (fun _ _ _ h => h) (Or.inl ⟨by rfl, ?_⟩) hHeld ?_ ?_
        rotate_left
        · rintro w' ⟨s0, s1⟩
          go_simp
          with_reducible rfl
        rotate_left
        · simp only [Act.put, List.setIfInBounds_toArray, List.set_cons_zero, List.set_cons_succ, i64_w, i32_w]
          rfl
        refine pure_ (i := 7) (N := some 57) (v := ?_) (a' := ?_) #[true, true, true, true, true, true, true, true, false] rfl rfl (by kernel_rfl) (fun _ _ _ h => h) (Or.inl ⟨by rfl, ?_⟩) ?_ ?_
        rotate_left
        · intro w'
          go_simp
          with_reducible rfl
        rotate_left
        · simp only [Act.put, List.setIfInBounds_toArray, List.set_cons_zero, List.set_cons_succ, i64_w, i32_w]
          rfl
        refine last_ (i := 8) (N := none) #[true, true, true, true, true, true, true, true, true] rfl rfl (by kernel_rfl) (by decide) (fun K hK => ?_)
        refine skip_ (w1 := ?_) (by rfl) rfl ?_ ?_
        rotate_left
        · go_simp
          rfl
        refine hK.out _ _ ?_
        clear hK K
        refine done_ (by kernel_rfl) ?_
        clear hcR hfR hc2 hc3
        go_wp2
        go_roundw
        case rel => exact ⟨k + 1, by omega, by go_num, (HQW.out.set o ho v (fun t _ => by rw [HST.out t]; by_cases e : t = o <;> simp [e, ← HYD.out])).later (((Below.refl _ _).alloc (Nat.le_refl _) _).drew)⟩
        case measure => first | (simp [intOf]; done) | (simp [intOf]; omega)
    · have hE : cs.take k = cs := List.take_of_length_le (by omega)
      have hL : leastTo d cs k = leastTo d cs cs.length := by funext t; unfold leastTo; rw [hE, List.take_length]
      rw [hL] at hQ
      have HQ := Lib.hid hQ
      clear hQ hE hL
      have hmx : ∀ t, max (leastTo d cs cs.length t) 0 = leastF d cs t := leastMax d cs ss HL.out HALL.out HSS.out
      have HMX := Lib.hid hmx
      clear hmx
      go_wp2
      go_loopw [61] (fun i wr2 => ∃ j : Nat, j ≤ N ∧ i = .int .i64 j ∧ LeQ w wr2 w.heap.size R N #[.int .i64 N, .slice ca cs.length cc, pv] (fun t => if t < j then leastF d cs t else leastTo d cs cs.length t)) (fun i _ => N - (intOf i).toNat)
      case atStart => exact ⟨0, Nat.zero_le _, rfl, HQ.out.congr (fun t _ => by simp)⟩
      case round =>
        clear HQ
        obtain ⟨j, hj, rfl, hQ⟩ := hrel
        by_cases hlt2 : j < N
        · have hcJ := hQ.cell j hlt2
          have hfJ := hQ.free j
          rw [if_neg (Nat.lt_irrefl j)] at hcJ
          have hm := HMX.out j
          generalize leastTo d cs cs.length j = v at hcJ hm
          have HM := Lib.hid hm
          have HQ := Lib.hid hQ
          have hj48 : (j : Int) < 48 := by omega
          clear hQ hm
          go_wp2
          go_roundw
          case rel => exact ⟨j + 1, by omega, by go_num, HQ.out.set j hlt2 _ (fun t _ => by
            by_cases e : t = j
            · subst e; simp [HM.out]
            · by_cases e2 : t < j
              · simp [e, e2, show t < j + 1 by omega]
              · simp [e, e2, show ¬ t < j + 1 by omega])⟩
          case measure => first | (simp [intOf]; done) | (simp [intOf]; omega)
        · have hQF : LeQ w wr w.heap.size R N #[.int .i64 N, .slice ca cs.length cc, pv] (leastF d cs) := hQ.congr (fun t ht => by rw [if_pos (by omega)])
          have HQF := Lib.hid hQF
          clear hQ hQF
          go_wp2
          go_ret2
          exact ⟨R, rfl, rowN_rd HQF.out.r (by omega), HQF.out.below⟩
end Go.Proofs.YtepofpnbgbmihaaDoor

/-
  dyeing: small functions and closures.
-/
namespace Go.Proofs.YtepofpnbgbmihaaDoor
open Go.RowKit Go.Shelf Go.Proofs.YtepofpnbgbmihaaDoorW.PrintLast
set_option linter.unusedSimpArgs false
set_option linter.unusedVariables false

structure Wi where
  cross : Int
  al : Int
deriving DecidableEq
structure Uk where
  p : Int
  q : Int
deriving DecidableEq
def encWi (x : Wi) : List Value := [.int .i64 x.cross, .int .u8 x.al]
def encU (x : Uk) : List Value := [.int .i64 x.p, .int .i64 x.q]
theorem encWi_len (x : Wi) : (encWi x).length = 2 := rfl
theorem encU_len (x : Uk) : (encU x).length = 2 := rfl
theorem encWi_one (x : Wi) : ∀ u ∈ encWi x, u.oneCell' = true := by
  intro u hu
  simp only [encWi, List.mem_cons, List.not_mem_nil, or_false] at hu
  rcases hu with rfl | rfl <;> rfl
theorem encU_one (x : Uk) : ∀ u ∈ encU x, u.oneCell' = true := by
  intro u hu
  simp only [encU, List.mem_cons, List.not_mem_nil, or_false] at hu
  rcases hu with rfl | rfl <;> rfl
theorem info_wish : (Tryd.prog.info? 51).map (fun i => (i.zero, i.size, i.bytes)) = some (some (.agg #[.int .i64 0, .int .u8 0]), 2, 16) := by kernel_rfl
theorem info_two : (Tryd.prog.info? 54).map (fun i => (i.zero, i.size, i.bytes)) = some (some (.agg #[.int .i64 0, .int .i64 0]), 2, 16) := by kernel_rfl

/-- A task as one value. -/
def taskA (N : Nat) (cv pv wv uv : Value) (s : Nat → Int) : Array Value := #[.int .i64 N, cv, pv, wv, uv, .int .i64 (s 0), .int .i64 (s 1), .int .i64 (s 2), .int .i64 (s 3), .int .i64 (s 4), .int .i64 (s 5)]

set_option maxHeartbeats 400000 in
theorem is_any (B : Nat) (v : Int) (a : Option Addr) (n c : Nat) (w : World) (h0 : 0 ≤ v) (h1 : v < n) (hn : n ≤ 9223372036854775807) (hB : w.cell? ⟨B, 1, none⟩ = some (.slice a n c)) :
    Calls Tryd.prog 44 #[.int .i64 v, .pointer (some ⟨B, 0, none⟩)] w fun e w' => e = .returned (.bool true) ∧ w' = w := by
  have g0 : decide (0 ≤ v) = true := decide_eq_true h0
  have g1 : decide (v < (n : Int)) = true := decide_eq_true h1
  go_enter Tryd.func44, Tryd.ntmps44
  go_wp2
  go_ret
  exact ⟨rfl, rfl⟩

set_option maxHeartbeats 400000 in
theorem all1_any (i : Int) (w : World) : Calls Tryd.prog 26 #[.int .i64 i] w fun e w' => e = .returned (.bool true) ∧ w' = w := by
  go_enter Tryd.func26, Tryd.ntmps26
  go_wp2
  go_ret
  exact ⟨rfl, rfl⟩
set_option maxHeartbeats 400000 in
theorem all2_any (i : Int) (w : World) : Calls Tryd.prog 28 #[.int .i64 i] w fun e w' => e = .returned (.bool true) ∧ w' = w := by
  go_enter Tryd.func28, Tryd.ntmps28
  go_wp2
  go_ret
  exact ⟨rfl, rfl⟩
def bitOf (set : Int) (i : Int) : Bool := bits .and .u64 (set / 2 ^ min i.toNat 64) 1 == 1
set_option maxHeartbeats 400000 in
theorem some_any (B : Nat) (set i : Int) (w : World) (h0 : 0 ≤ i) (hB : w.cell? ⟨B, 0, none⟩ = some (.int .u64 set)) : Calls Tryd.prog 30 #[.int .i64 i, .pointer (some ⟨B, 0, none⟩)] w fun e w' => e = .returned (.bool (bitOf set i)) ∧ w' = w := by
  go_enter Tryd.func30, Tryd.ntmps30
  go_wp2
  go_ret
  exact ⟨rfl, rfl⟩

set_option maxHeartbeats 400000 in
theorem over_any (N : Nat) (pv wv uv : Value) (s : Nat → Int) (cs : List Crs) (k : Nat) (x : Crs) (cv : Value) (w : World) (hc : RdL 4 encX w cv cs) (hx : cs[k]? = some x) :
    Calls Tryd.prog 47 #[.agg (taskA N cv pv wv uv s), .int .i64 k] w fun e w' => e = .returned (.int .i64 x.over) ∧ Below w.heap.size w w' := by
  obtain ⟨a, c, rfl, hlen, hca⟩ := hc.slice
  have hlt := (List.getElem?_eq_some_iff.1 hx).1
  obtain ⟨b, off, rfl, hbl, hcell⟩ := hca k x hx
  have h2 := hcell 2 _ rfl
  unfold taskA
  go_enter Tryd.func47, Tryd.ntmps47
  go_wp2
  go_ret
  exact ⟨rfl, (Below.refl _ _).alloc (Nat.le_refl _) _⟩
end Go.Proofs.YtepofpnbgbmihaaDoor

/-
  dyeing.Check of a task over a right cloth.
-/
namespace Go.Proofs.YtepofpnbgbmihaaDoor
open Go.RowKit Go.Shelf Go.Proofs.YtepofpnbgbmihaaDoorW.PrintLast
set_option linter.unusedSimpArgs false
set_option linter.unusedVariables false

def supL (s : Nat → Int) : List Int := [s 0, s 1, s 2, s 3, s 4, s 5]
def supOk (s : Nat → Int) : Bool := decide (0 ≤ Lib.minOf (supL s)) && decide (Lib.maxOf (supL s) ≤ 100)
def okAl (x : Wi) : Bool := x.al / 64 == 0
structure TaskOk (n : Nat) (ws : List Wi) (us : List Uk) : Prop where
  nw : ws.length ≤ 100
  nu : us.length ≤ 100
  w : ∀ (i : Nat) (x : Wi), ws[i]? = some x → 0 ≤ x.cross ∧ x.cross < n ∧ 0 ≤ x.al ∧ x.al < 256
  u : ∀ (i : Nat) (x : Uk), us[i]? = some x → 0 ≤ x.p ∧ x.p < n ∧ 0 ≤ x.q ∧ x.q < n ∧ x.p ≠ x.q
def dyErr (s : Nat → Int) (ws : List Wi) : Int := if supOk s && ws.all okAl then 0 else 2

theorem all_snoc {α : Type} (p : α → Bool) (l : List α) (k : Nat) (h : k < l.length) : (l.take (k + 1)).all p = ((l.take k).all p && p l[k]) := by
  rw [List.take_succ_eq_append_getElem h, List.all_append]
  simp

theorem supMin (B : Nat) (s : Nat → Int) (w : World) (h : ∀ j, j < 6 → w.cell? ⟨B, 5 + j, none⟩ = some (.int .i64 (s j))) :
    Calls Tryd.prog 45 #[.slice (some ⟨B, 5, none⟩) 6 6] w fun e w' => e = .returned (.int .i64 (Lib.minOf (supL s))) ∧ w' = w := by
  refine (Tryd.slices_Min_int B 5 6 6 (supL s) w (by decide) (Nat.le_refl 6) (by decide) (fun j hj => ?_)).mono ?_
  · have hj6 : j < 6 := hj
    rw [h j hj6]
    rcases (by omega : j = 0 ∨ j = 1 ∨ j = 2 ∨ j = 3 ∨ j = 4 ∨ j = 5) with rfl | rfl | rfl | rfl | rfl | rfl <;> rfl
  · rintro e w' ⟨rfl, rfl⟩; exact ⟨rfl, rfl⟩
theorem supMax (B : Nat) (s : Nat → Int) (w : World) (h : ∀ j, j < 6 → w.cell? ⟨B, 5 + j, none⟩ = some (.int .i64 (s j))) :
    Calls Tryd.prog 46 #[.slice (some ⟨B, 5, none⟩) 6 6] w fun e w' => e = .returned (.int .i64 (Lib.maxOf (supL s))) ∧ w' = w := by
  refine (Tryd.slices_Max_int B 5 6 6 (supL s) w (by decide) (Nat.le_refl 6) (by decide) (fun j hj => ?_)).mono ?_
  · have hj6 : j < 6 := hj
    rw [h j hj6]
    rcases (by omega : j = 0 ∨ j = 1 ∨ j = 2 ∨ j = 3 ∨ j = 4 ∨ j = 5) with rfl | rfl | rfl | rfl | rfl | rfl <;> rfl
  · rintro e w' ⟨rfl, rfl⟩; exact ⟨rfl, rfl⟩

/-- The task's box. -/
structure TaskAt (w : World) (B : Nat) (N : Nat) (cv pv wv uv : Value) (s : Nat → Int) : Prop where
  row : w.heap[B]? = some (.cells (taskA N cv pv wv uv s) 49 (0, 0))
theorem TaskAt.later {w w' : World} {B N : Nat} {cv pv wv uv : Value} {s : Nat → Int} (h : TaskAt w B N cv pv wv uv s) (hb : Below w.heap.size w w') : TaskAt w' B N cv pv wv uv s := ⟨(hb.block _ (Array.getElem?_eq_some_iff.1 h.row).1).trans h.row⟩
theorem TaskAt.lt {w : World} {B N : Nat} {cv pv wv uv : Value} {s : Nat → Int} (h : TaskAt w B N cv pv wv uv s) : B < w.heap.size := (Array.getElem?_eq_some_iff.1 h.row).1
theorem TaskAt.c0 {w : World} {B N : Nat} {cv pv wv uv : Value} {s : Nat → Int} (h : TaskAt w B N cv pv wv uv s) : w.cell? ⟨B, 0, none⟩ = some (.int .i64 N) := by rw [cell_of_row _ _ 0 _ _ _ h.row]; rfl
theorem TaskAt.c1 {w : World} {B N : Nat} {cv pv wv uv : Value} {s : Nat → Int} (h : TaskAt w B N cv pv wv uv s) : w.cell? ⟨B, 1, none⟩ = some cv := by rw [cell_of_row _ _ 1 _ _ _ h.row]; rfl
theorem TaskAt.c2 {w : World} {B N : Nat} {cv pv wv uv : Value} {s : Nat → Int} (h : TaskAt w B N cv pv wv uv s) : w.cell? ⟨B, 2, none⟩ = some pv := by rw [cell_of_row _ _ 2 _ _ _ h.row]; rfl
theorem TaskAt.c3 {w : World} {B N : Nat} {cv pv wv uv : Value} {s : Nat → Int} (h : TaskAt w B N cv pv wv uv s) : w.cell? ⟨B, 3, none⟩ = some wv := by rw [cell_of_row _ _ 3 _ _ _ h.row]; rfl
theorem TaskAt.c4 {w : World} {B N : Nat} {cv pv wv uv : Value} {s : Nat → Int} (h : TaskAt w B N cv pv wv uv s) : w.cell? ⟨B, 4, none⟩ = some uv := by rw [cell_of_row _ _ 4 _ _ _ h.row]; rfl
theorem TaskAt.sup {w : World} {B N : Nat} {cv pv wv uv : Value} {s : Nat → Int} (h : TaskAt w B N cv pv wv uv s) (j : Nat) (hj : j < 6) : w.cell? ⟨B, 5 + j, none⟩ = some (.int .i64 (s j)) := by
  rw [cell_of_row _ _ _ _ _ _ h.row]
  rcases (by omega : j = 0 ∨ j = 1 ∨ j = 2 ∨ j = 3 ∨ j = 4 ∨ j = 5) with rfl | rfl | rfl | rfl | rfl | rfl <;> rfl

set_option maxRecDepth 100000 in
set_option maxHeartbeats 1000000 in
theorem dyCheck_any (N : Nat) (cs : List Crs) (ps : List Pn) (ws : List Wi) (us : List Uk) (cv pv wv uv : Value) (s : Nat → Int) (w : World) (hok : ClothOk N cs ps) (hN : N ≤ 16) (htk : TaskOk cs.length ws us)
    (hc : RdL 4 encX w cv cs) (hp : RdL 4 encP w pv ps) (hw : RdL 2 encWi w wv ws) (hu : RdL 2 encU w uv us) :
    Calls Tryd.prog 24 #[.agg (taskA N cv pv wv uv s)] w fun e w' => e = .returned (.int .i64 (dyErr s ws)) ∧ Below w.heap.size w w' := by
  have hy := fun W => clCheck_any N cs ps cv pv W hok
  have HY := Lib.hid hy
  have HRC := Lib.hid hc
  have HRP := Lib.hid hp
  have HTK := Lib.hid htk
  obtain ⟨ca, cc, rfl, hclen, -⟩ := hc.slice
  obtain ⟨wa, wc, rfl, hwlen, hwa⟩ := hw.slice
  obtain ⟨ua, uc, rfl, hulen, hua⟩ := hu.slice
  have hnw := htk.nw
  have hnu := htk.nu
  have g1 : (decide (16 < (N : Int))) = false := by simp; omega
  have g2 : (decide ((100 : Int) < max (ws.length : Int) (us.length : Int))) = false := by simp; omega
  have HWA := Lib.hid hwa
  have HUA := Lib.hid hua
  clear hc hp hw hu hwa hua htk hy
  have hT0 : TaskAt (w.alloc (.cells (taskA N (.slice ca cs.length cc) pv (.slice wa ws.length wc) (.slice ua us.length uc) s) 49)) w.heap.size N (.slice ca cs.length cc) pv (.slice wa ws.length wc) (.slice ua us.length uc) s := ⟨World.alloc_heap_new _ _⟩
  have HT0 := Lib.hid hT0
  clear hT0
  unfold taskA at HT0 ⊢
  go_enter Tryd.func24, Tryd.ntmps24
  go_wp2_with fail
  refine (HY.out _ (HRC.out.alloc _) (HRP.out.alloc _)).mono ?_
  rintro e w1 ⟨rfl, hb1⟩
  have HT1 := Lib.hid (HT0.out.later hb1)
  have HB1 : Hid (Below w.heap.size w w1) := ((Below.refl _ w).alloc (Nat.le_refl _) _).trans (hb1.mono (by simp))
  have hc0 := HT1.out.c0
  have hc1 := HT1.out.c1
  have hc3 := HT1.out.c3
  have hc4 := HT1.out.c4
  have hBlt := HT1.out.lt
  clear hb1 HT0 HY HRC HRP
  dsimp only
  have hgg : ∃ g0, g0 = supOk s := ⟨_, rfl⟩
  obtain ⟨g0, hg0⟩ := hgg
  unfold supOk at hg0
  cases hmin : decide (0 ≤ Lib.minOf (supL s)) with
  | false =>
    rw [hmin, Bool.false_and] at hg0
    go_wp2_with first | (go_at_call 45; refine (supMin _ s _ HT1.out.sup).mono ?_; rintro e w' ⟨rfl, hw'⟩; have hw' := hw'.symm; subst hw') | (go_at_call 46; refine (supMax _ s _ HT1.out.sup).mono ?_; rintro e w' ⟨rfl, hw'⟩; have hw' := hw'.symm; subst hw')
    go_loopw [5, 44] (fun g i wr => ∃ (k : Nat) (b : Bool), k ≤ ws.length ∧ i = .int .i64 k ∧ g = .bool b ∧ Hid (b = (g0 && (ws.take k).all okAl)) ∧ Below w1.heap.size w1 wr) (fun _ i _ => ws.length - (intOf i).toNat)
    case atStart => exact ⟨0, _, Nat.zero_le _, rfl, rfl, by simp [Hid, hg0], Below.refl _ _⟩
    case round =>
      obtain ⟨k, gb, hk, rfl, rfl, hgb, hB⟩ := hrel
      have hc1 := (hB.cell (p := ⟨w.heap.size, 1, none⟩) hBlt).trans HT1.out.c1
      by_cases hlt : k < ws.length
      · obtain ⟨b, off, rfl, hbl, hcell⟩ := HWA.out k ws[k] (List.getElem?_eq_getElem hlt)
        have hcb := cells_below (HB1.out.trans (hB.mono HB1.out.size)) hbl hcell
        have hx0 := hcb 0 _ rfl
        have hx1 := hcb 1 _ rfl
        rw [Nat.add_zero] at hx0
        obtain ⟨q1, q2, q3, q4⟩ := HTK.out.w k ws[k] (List.getElem?_eq_getElem hlt)
        have hsn := all_snoc okAl ws k hlt
        generalize ws[k] = x at hx0 hx1 q1 q2 q3 q4 hsn
        obtain ⟨xc, xl⟩ := x
        dsimp only at hx0 hx1 q1 q2 q3 q4
        have HSN := Lib.hid hsn
        have HB := Lib.hid hB
        have hwl : w.heap.size < wr.heap.size := Nat.lt_of_lt_of_le hBlt hB.size
        have hcA : (wr.alloc (.cells #[.int .i64 xc, .int .u8 xl] 51)).cell? ⟨w.heap.size, 1, none⟩ = some (.slice ca cs.length cc) := (World.cell?_alloc_lt _ _ ⟨w.heap.size, 1, none⟩ hwl).trans hc1
        clear hcb hcell hsn hB
        cases gb with
        | false =>
          go_wp2
          go_roundw
          case rel => exact ⟨k + 1, false, by omega, by go_num, rfl, by rw [HSN.out, ← Bool.and_assoc, ← hgb.out, Bool.false_and]; exact rfl, HB.out.alloc HB.out.size _⟩
          case measure => first | (simp [intOf]; done) | (simp [intOf]; omega)
        | true =>
          go_wp2_with (go_at_call 44; refine (is_any _ _ ca cs.length cc _ (by assumption) (by assumption) hclen hcA).mono ?_; rintro e w' ⟨rfl, hw'⟩; have hw' := hw'.symm; subst hw')
          go_roundw
          case rel => exact ⟨k + 1, _, by omega, by go_num, rfl, by rw [HSN.out, ← Bool.and_assoc, ← hgb.out, Bool.true_and]; exact rfl, HB.out.alloc HB.out.size _⟩
          case measure => first | (simp [intOf]; done) | (simp [intOf]; omega)
      · have hk2 : ws.take k = ws := List.take_of_length_le (by omega)
        rw [hk2] at hgb
        have hc4 := (hB.cell (p := ⟨w.heap.size, 4, none⟩) hBlt).trans HT1.out.c4
        have HB := Lib.hid hB
        clear hB hk2
        go_wp2
        clear hc1 hc4
        go_loopw [5, 65] (fun g i wr2 => ∃ (k : Nat), k ≤ us.length ∧ i = .int .i64 k ∧ g = .bool gb ∧ Below w1.heap.size w1 wr2) (fun _ i _ => us.length - (intOf i).toNat)
        case atStart => exact ⟨0, Nat.zero_le _, rfl, rfl, HB.out⟩
        case round =>
          clear HB
          obtain ⟨k, hk, rfl, rfl, hB⟩ := hrel
          have hc1 := (hB.cell (p := ⟨w.heap.size, 1, none⟩) hBlt).trans HT1.out.c1
          by_cases hlt : k < us.length
          · obtain ⟨b, off, rfl, hbl, hcell⟩ := HUA.out k us[k] (List.getElem?_eq_getElem hlt)
            have hcb := cells_below (HB1.out.trans (hB.mono HB1.out.size)) hbl hcell
            have hx0 := hcb 0 _ rfl
            have hx1 := hcb 1 _ rfl
            rw [Nat.add_zero] at hx0
            obtain ⟨q1, q2, q3, q4, q5⟩ := HTK.out.u k us[k] (List.getElem?_eq_getElem hlt)
            generalize us[k] = x at hx0 hx1 q1 q2 q3 q4 q5
            obtain ⟨xp, xq⟩ := x
            dsimp only at hx0 hx1 q1 q2 q3 q4 q5
            have HB := Lib.hid hB
            have hne : (xp == xq) = false := by simpa using q5
            have hwl : w.heap.size < wr.heap.size := Nat.lt_of_lt_of_le hBlt hB.size
            have hcA : (wr.alloc (.cells #[.int .i64 xp, .int .i64 xq] 54)).cell? ⟨w.heap.size, 1, none⟩ = some (.slice ca cs.length cc) := (World.cell?_alloc_lt _ _ ⟨w.heap.size, 1, none⟩ hwl).trans hc1
            clear hcb hcell hB
            cases gb with
            | false =>
              go_wp2
              go_roundw
              case rel => exact ⟨k + 1, by omega, by go_num, rfl, HB.out.alloc HB.out.size _⟩
              case measure => first | (simp [intOf]; done) | (simp [intOf]; omega)
            | true =>
              go_wp2_with (go_at_call 44; refine (is_any _ _ ca cs.length cc _ (by assumption) (by assumption) hclen hcA).mono ?_; rintro e w' ⟨rfl, hw'⟩; have hw' := hw'.symm; subst hw')
              go_roundw
              case rel => exact ⟨k + 1, by omega, by go_num, by first | rfl | simp [hne, q5], HB.out.alloc HB.out.size _⟩
              case measure => first | (simp [intOf]; done) | (simp [intOf]; omega)
          · have HB := Lib.hid hB
            clear hB
            cases gb with
            | false =>
              go_wp2
              go_ret
              exact ⟨ret_int (by unfold dyErr supOk; rw [hmin, Bool.false_and, ← hg0, ← hgb.out]; rfl), HB1.out.trans (HB.out.mono HB1.out.size)⟩
            | true =>
              go_wp2
              go_ret
              exact ⟨ret_int (by unfold dyErr supOk; rw [hmin, Bool.false_and, ← hg0, ← hgb.out]; rfl), HB1.out.trans (HB.out.mono HB1.out.size)⟩
  | true =>
    rw [hmin, Bool.true_and] at hg0
    go_wp2_with first | (go_at_call 45; refine (supMin _ s _ HT1.out.sup).mono ?_; rintro e w' ⟨rfl, hw'⟩; have hw' := hw'.symm; subst hw') | (go_at_call 46; refine (supMax _ s _ HT1.out.sup).mono ?_; rintro e w' ⟨rfl, hw'⟩; have hw' := hw'.symm; subst hw')
    go_loopw [5, 44] (fun g i wr => ∃ (k : Nat) (b : Bool), k ≤ ws.length ∧ i = .int .i64 k ∧ g = .bool b ∧ Hid (b = (g0 && (ws.take k).all okAl)) ∧ Below w1.heap.size w1 wr) (fun _ i _ => ws.length - (intOf i).toNat)
    case atStart => exact ⟨0, _, Nat.zero_le _, rfl, rfl, by simp [Hid, hg0], Below.refl _ _⟩
    case round =>
      obtain ⟨k, gb, hk, rfl, rfl, hgb, hB⟩ := hrel
      have hc1 := (hB.cell (p := ⟨w.heap.size, 1, none⟩) hBlt).trans HT1.out.c1
      by_cases hlt : k < ws.length
      · obtain ⟨b, off, rfl, hbl, hcell⟩ := HWA.out k ws[k] (List.getElem?_eq_getElem hlt)
        have hcb := cells_below (HB1.out.trans (hB.mono HB1.out.size)) hbl hcell
        have hx0 := hcb 0 _ rfl
        have hx1 := hcb 1 _ rfl
        rw [Nat.add_zero] at hx0
        obtain ⟨q1, q2, q3, q4⟩ := HTK.out.w k ws[k] (List.getElem?_eq_getElem hlt)
        have hsn := all_snoc okAl ws k hlt
        generalize ws[k] = x at hx0 hx1 q1 q2 q3 q4 hsn
        obtain ⟨xc, xl⟩ := x
        dsimp only at hx0 hx1 q1 q2 q3 q4
        have HSN := Lib.hid hsn
        have HB := Lib.hid hB
        have hwl : w.heap.size < wr.heap.size := Nat.lt_of_lt_of_le hBlt hB.size
        have hcA : (wr.alloc (.cells #[.int .i64 xc, .int .u8 xl] 51)).cell? ⟨w.heap.size, 1, none⟩ = some (.slice ca cs.length cc) := (World.cell?_alloc_lt _ _ ⟨w.heap.size, 1, none⟩ hwl).trans hc1
        clear hcb hcell hsn hB
        cases gb with
        | false =>
          go_wp2
          go_roundw
          case rel => exact ⟨k + 1, false, by omega, by go_num, rfl, by rw [HSN.out, ← Bool.and_assoc, ← hgb.out, Bool.false_and]; exact rfl, HB.out.alloc HB.out.size _⟩
          case measure => first | (simp [intOf]; done) | (simp [intOf]; omega)
        | true =>
          go_wp2_with (go_at_call 44; refine (is_any _ _ ca cs.length cc _ (by assumption) (by assumption) hclen hcA).mono ?_; rintro e w' ⟨rfl, hw'⟩; have hw' := hw'.symm; subst hw')
          go_roundw
          case rel => exact ⟨k + 1, _, by omega, by go_num, rfl, by rw [HSN.out, ← Bool.and_assoc, ← hgb.out, Bool.true_and]; exact rfl, HB.out.alloc HB.out.size _⟩
          case measure => first | (simp [intOf]; done) | (simp [intOf]; omega)
      · have hk2 : ws.take k = ws := List.take_of_length_le (by omega)
        rw [hk2] at hgb
        have hc4 := (hB.cell (p := ⟨w.heap.size, 4, none⟩) hBlt).trans HT1.out.c4
        have HB := Lib.hid hB
        clear hB hk2
        go_wp2
        clear hc1 hc4
        go_loopw [5, 65] (fun g i wr2 => ∃ (k : Nat), k ≤ us.length ∧ i = .int .i64 k ∧ g = .bool gb ∧ Below w1.heap.size w1 wr2) (fun _ i _ => us.length - (intOf i).toNat)
        case atStart => exact ⟨0, Nat.zero_le _, rfl, rfl, HB.out⟩
        case round =>
          clear HB
          obtain ⟨k, hk, rfl, rfl, hB⟩ := hrel
          have hc1 := (hB.cell (p := ⟨w.heap.size, 1, none⟩) hBlt).trans HT1.out.c1
          by_cases hlt : k < us.length
          · obtain ⟨b, off, rfl, hbl, hcell⟩ := HUA.out k us[k] (List.getElem?_eq_getElem hlt)
            have hcb := cells_below (HB1.out.trans (hB.mono HB1.out.size)) hbl hcell
            have hx0 := hcb 0 _ rfl
            have hx1 := hcb 1 _ rfl
            rw [Nat.add_zero] at hx0
            obtain ⟨q1, q2, q3, q4, q5⟩ := HTK.out.u k us[k] (List.getElem?_eq_getElem hlt)
            generalize us[k] = x at hx0 hx1 q1 q2 q3 q4 q5
            obtain ⟨xp, xq⟩ := x
            dsimp only at hx0 hx1 q1 q2 q3 q4 q5
            have HB := Lib.hid hB
            have hne : (xp == xq) = false := by simpa using q5
            have hwl : w.heap.size < wr.heap.size := Nat.lt_of_lt_of_le hBlt hB.size
            have hcA : (wr.alloc (.cells #[.int .i64 xp, .int .i64 xq] 54)).cell? ⟨w.heap.size, 1, none⟩ = some (.slice ca cs.length cc) := (World.cell?_alloc_lt _ _ ⟨w.heap.size, 1, none⟩ hwl).trans hc1
            clear hcb hcell hB
            cases gb with
            | false =>
              go_wp2
              go_roundw
              case rel => exact ⟨k + 1, by omega, by go_num, rfl, HB.out.alloc HB.out.size _⟩
              case measure => first | (simp [intOf]; done) | (simp [intOf]; omega)
            | true =>
              go_wp2_with (go_at_call 44; refine (is_any _ _ ca cs.length cc _ (by assumption) (by assumption) hclen hcA).mono ?_; rintro e w' ⟨rfl, hw'⟩; have hw' := hw'.symm; subst hw')
              go_roundw
              case rel => exact ⟨k + 1, by omega, by go_num, by first | rfl | simp [hne, q5], HB.out.alloc HB.out.size _⟩
              case measure => first | (simp [intOf]; done) | (simp [intOf]; omega)
          · have HB := Lib.hid hB
            clear hB
            cases gb with
            | false =>
              go_wp2
              go_ret
              exact ⟨ret_int (by unfold dyErr supOk; rw [hmin, Bool.true_and, ← hg0, ← hgb.out]; rfl), HB1.out.trans (HB.out.mono HB1.out.size)⟩
            | true =>
              go_wp2
              go_ret
              exact ⟨ret_int (by unfold dyErr supOk; rw [hmin, Bool.true_and, ← hg0, ← hgb.out]; rfl), HB1.out.trans (HB.out.mono HB1.out.size)⟩
end Go.Proofs.YtepofpnbgbmihaaDoor

/-
  dyeing.made: the problem of a task, in plain words and in its block.
-/
namespace Go.Proofs.YtepofpnbgbmihaaDoor
open Go.RowKit Go.Shelf Go.Proofs.YtepofpnbgbmihaaDoorW.PrintLast
set_option linter.unusedSimpArgs false
set_option linter.unusedVariables false

/-- N values. -/
def arrV (N : Nat) (f : Nat → Value) : Array Value := ((List.range N).map f).toArray
theorem arrV_size (N : Nat) (f : Nat → Value) : (arrV N f).size = N := by simp [arrV]
theorem arrV_get (N : Nat) (f : Nat → Value) (p : Nat) (h : p < N) : (arrV N f)[p]? = some (f p) := by
  simp only [arrV, List.getElem?_toArray, List.getElem?_map, List.getElem?_range h, Option.map_some]
theorem arrV_none (N : Nat) (f : Nat → Value) (p : Nat) (h : ¬ p < N) : (arrV N f)[p]? = none := by rw [Array.getElem?_eq_none_iff, arrV_size]; omega
theorem arrV_congr {N : Nat} {l m : Nat → Value} (h : ∀ p, p < N → l p = m p) : arrV N l = arrV N m := by
  apply Array.ext_getElem?
  intro q
  by_cases hq : q < N
  · rw [arrV_get _ _ q hq, arrV_get _ _ q hq, h q hq]
  · rw [arrV_none _ _ q hq, arrV_none _ _ q hq]
theorem arrV_set (N : Nat) (l : Nat → Value) (p : Nat) (x : Value) (h : p < N) : (arrV N l).setIfInBounds p x = arrV N (fun q => if q = p then x else l q) := by
  apply Array.ext_getElem?
  intro q
  rw [Array.getElem?_setIfInBounds, arrV_size]
  by_cases hq : q < N
  · rw [arrV_get _ _ q hq]
    by_cases e : p = q
    · subst e; rw [arrV_get _ _ p hq]; simp [hq]
    · rw [if_neg e, arrV_get _ _ q hq, if_neg (Ne.symm e)]
  · rw [arrV_none _ _ q hq, arrV_none _ _ q hq]
    by_cases e : p = q
    · omega
    · rw [if_neg e]

/-- What is left of a task. -/
structure Pb where
  may : Nat → Int
  un : Nat → Int
  left : Nat → Int
  many : Nat
  never : Bool
def pbV (p : Pb) (k : Nat) : Value := if k < 16 then .int .u8 (p.may k) else if k < 32 then .int .u64 (p.un (k - 16)) else if k < 38 then .int .i64 (p.left (k - 32)) else if k = 38 then .int .i64 p.many else .bool p.never
theorem pbV_un (p : Pb) (k : Nat) (hk : k < 16) : pbV p (16 + k) = .int .u64 (p.un k) := by
  rw [pbV, if_neg (by omega), if_pos (by omega), Nat.add_sub_cancel_left]
theorem pbV_left (p : Pb) (k : Nat) (hk : k < 6) : pbV p (32 + k) = .int .i64 (p.left k) := by
  rw [pbV, if_neg (by omega), if_neg (by omega), if_pos (by omega), Nat.add_sub_cancel_left]
/-- Block B holds the problem p. -/
structure PbAt (w : World) (B : Nat) (p : Pb) : Prop where
  row : w.heap[B]? = some (.cells (arrV 40 (pbV p)) 104 (0, 0))
section
variable {w w' : World} {B : Nat} {p : Pb}
theorem PbAt.lt (h : PbAt w B p) : B < w.heap.size := (Array.getElem?_eq_some_iff.1 h.row).1
theorem PbAt.later (h : PbAt w B p) (hb : Below w.heap.size w w') : PbAt w' B p := ⟨(hb.block _ h.lt).trans h.row⟩
theorem PbAt.kept (h : PbAt w B p) (hb : w'.heap[B]? = w.heap[B]?) : PbAt w' B p := ⟨hb.trans h.row⟩
theorem PbAt.cell (h : PbAt w B p) (k : Nat) (hk : k < 40) : w.cell? ⟨B, k, none⟩ = some (pbV p k) := by rw [cell_of_row _ _ _ _ _ _ h.row, arrV_get _ _ _ hk]
theorem PbAt.may (h : PbAt w B p) (k : Nat) (hk : k < 16) : w.cell? ⟨B, k, none⟩ = some (.int .u8 (p.may k)) := by rw [h.cell k (by omega)]; simp [pbV, hk]
theorem PbAt.un (h : PbAt w B p) (k : Nat) (hk : k < 16) : w.cell? ⟨B, 16 + k, none⟩ = some (.int .u64 (p.un k)) := by rw [h.cell _ (by omega), pbV_un _ _ hk]
theorem PbAt.left (h : PbAt w B p) (k : Nat) (hk : k < 6) : w.cell? ⟨B, 32 + k, none⟩ = some (.int .i64 (p.left k)) := by rw [h.cell _ (by omega), pbV_left _ _ hk]
theorem PbAt.many (h : PbAt w B p) : w.cell? ⟨B, 38, none⟩ = some (.int .i64 p.many) := h.cell 38 (by omega)
theorem PbAt.never (h : PbAt w B p) : w.cell? ⟨B, 39, none⟩ = some (.bool p.never) := h.cell 39 (by omega)
theorem PbAt.free (h : PbAt w B p) (k : Nat) : w.frozen? ⟨B, k, none⟩ = false := frozen_of_row _ _ _ _ _ h.row
theorem PbAt.set (h : PbAt w B p) (k : Nat) (hk : k < 40) (v : Value) (q : Pb) (hq : ∀ i, i < 40 → pbV q i = if i = k then v else pbV p i) : PbAt (w.setCell ⟨B, k, none⟩ v) B q := by
  have h2 := heap_setCell_same w B k _ _ v h.row
  rw [arrV_set 40 _ k v hk] at h2
  exact ⟨by rw [h2, arrV_congr hq]⟩
theorem PbAt.setMay (h : PbAt w B p) (k : Nat) (hk : k < 16) (x : Int) : PbAt (w.setCell ⟨B, k, none⟩ (.int .u8 x)) B { p with may := upd p.may k x } := by
  refine h.set k (by omega) _ _ (fun i hi => ?_)
  unfold pbV upd
  by_cases e : i = k
  · subst e; simp [hk]
  · simp [e]
theorem PbAt.setUn (h : PbAt w B p) (k : Nat) (hk : k < 16) (x : Int) : PbAt (w.setCell ⟨B, 16 + k, none⟩ (.int .u64 x)) B { p with un := upd p.un k x } := by
  refine h.set (16 + k) (by omega) _ _ (fun i hi => ?_)
  by_cases e : i = 16 + k
  · subst e; rw [pbV_un _ _ hk, if_pos rfl]; simp [upd]
  unfold pbV upd
  by_cases e1 : i < 16
  · simp [e, e1]
  · have e2 : ¬ (i - 16 = k) := by omega
    simp [e, e2]
theorem PbAt.setLeft (h : PbAt w B p) (k : Nat) (hk : k < 6) (x : Int) : PbAt (w.setCell ⟨B, 32 + k, none⟩ (.int .i64 x)) B { p with left := upd p.left k x } := by
  refine h.set (32 + k) (by omega) _ _ (fun i hi => ?_)
  by_cases e : i = 32 + k
  · subst e; rw [pbV_left _ _ hk, if_pos rfl]; simp [upd]
  unfold pbV upd
  by_cases e1 : i < 32
  · simp [e, e1]
  · have e2 : ¬ (i - 32 = k) := by omega
    simp [e, e2]
theorem PbAt.setNever (h : PbAt w B p) (x : Bool) : PbAt (w.setCell ⟨B, 39, none⟩ (.bool x)) B { p with never := x } := by
  refine h.set 39 (by omega) _ _ (fun i hi => ?_)
  unfold pbV
  by_cases e : i = 39
  · subst e; simp
  · have e4 : i < 16 ∨ (16 ≤ i ∧ i < 32) ∨ (32 ≤ i ∧ i < 38) ∨ i = 38 := by omega
    rcases e4 with e4 | ⟨e4, e5⟩ | ⟨e4, e5⟩ | e4
    · simp [e, e4]
    · simp [e, e5]
    · simp [e, e5]
    · subst e4; simp
theorem PbAt.congr (h : PbAt w B p) {q : Pb} (hm : ∀ k, k < 16 → q.may k = p.may k) (hu : ∀ k, k < 16 → q.un k = p.un k) (hl : ∀ k, k < 6 → q.left k = p.left k) (h1 : q.many = p.many) (h2 : q.never = p.never) : PbAt w B q := by
  refine ⟨h.row.trans ?_⟩
  rw [arrV_congr (l := pbV p) (m := pbV q) (fun i hi => ?_)]
  unfold pbV
  by_cases e1 : i < 16
  · simp [e1, hm i e1]
  · by_cases e2 : i < 32
    · simp [e1, e2, hu (i - 16) (by omega)]
    · by_cases e3 : i < 38
      · simp [e1, e2, e3, hl (i - 32) (by omega)]
      · simp [e1, e2, e3, h1, h2]
end

/-- The thread that is seen at a crossing. -/
def ovF (cs : List Crs) (c : Int) : Nat := match cs[c.toNat]? with
  | some x => x.over.toNat
  | none => 0
def shl1 (b : Nat) : Int := IntKind.u64.wrap (2 ^ b)
def may0 (N : Nat) : Nat → Int := fun k => if k < N then 63 else 0
def mayTo (N : Nat) (ws : List Wi) (ov : Int → Nat) (ch : Nat → Bool) : Nat → (Nat → Int)
  | 0 => may0 N
  | j + 1 => match ws[j]? with
    | some x => if ch j then upd (mayTo N ws ov ch j) (ov x.cross) (bits .and .u8 (mayTo N ws ov ch j (ov x.cross)) x.al) else mayTo N ws ov ch j
    | none => mayTo N ws ov ch j
def unStep (u : Nat → Int) (a b : Nat) : Nat → Int := upd (upd u a (bits .or .u64 (u a) (shl1 b))) b (bits .or .u64 (upd u a (bits .or .u64 (u a) (shl1 b)) b) (shl1 a))
def unTo (us : List Uk) (ov : Int → Nat) : Nat → (Nat → Int)
  | 0 => fun _ => 0
  | j + 1 => match us[j]? with
    | some x => unStep (unTo us ov j) (ov x.p) (ov x.q)
    | none => unTo us ov j
def nevTo (us : List Uk) (ov : Int → Nat) : Nat → Bool
  | 0 => false
  | j + 1 => match us[j]? with
    | some x => nevTo us ov j || (ov x.p == ov x.q)
    | none => nevTo us ov j
def madeP (N : Nat) (s : Nat → Int) (ws : List Wi) (us : List Uk) (ov : Int → Nat) (ch : Nat → Bool) : Pb := ⟨mayTo N ws ov ch ws.length, unTo us ov us.length, s, N, nevTo us ov us.length⟩
theorem mayTo_succ (N : Nat) (ws : List Wi) (ov : Int → Nat) (ch : Nat → Bool) (j : Nat) (x : Wi) (h : ws[j]? = some x) : mayTo N ws ov ch (j + 1) = if ch j then upd (mayTo N ws ov ch j) (ov x.cross) (bits .and .u8 (mayTo N ws ov ch j (ov x.cross)) x.al) else mayTo N ws ov ch j := by
  show (match ws[j]? with | some x => _ | none => mayTo N ws ov ch j) = _
  rw [h]
theorem unTo_succ (us : List Uk) (ov : Int → Nat) (j : Nat) (x : Uk) (h : us[j]? = some x) : unTo us ov (j + 1) = unStep (unTo us ov j) (ov x.p) (ov x.q) := by
  show (match us[j]? with | some x => _ | none => unTo us ov j) = _
  rw [h]
theorem nevTo_succ (us : List Uk) (ov : Int → Nat) (j : Nat) (x : Uk) (h : us[j]? = some x) : nevTo us ov (j + 1) = (nevTo us ov j || (ov x.p == ov x.q)) := by
  show (match us[j]? with | some x => _ | none => nevTo us ov j) = _
  rw [h]

theorem nat_int_beq (o u : Nat) : ((o : Int) == (u : Int)) = (o == u) := by
  rw [Bool.eq_iff_iff, beq_iff_eq, beq_iff_eq]
  omega
/-- A call of a closure whose function is not known, in a plain region. -/
theorem goesVL_ {P : Program} {ops : Array Oper} {Q : Exit → Act → World → Prop} {rest : List Oper} {oi : Oper} {a : Act} {w : World} (N : Option Tmp) (hd : oi.dst = N) (hg : oi.guard = none) {f : FuncId} {x : Operand} {cap : Array Value} {ar : Array Operand} {ts : Array TypeId} (args : Array Value)
    (hop : oi.op = .call { callee := .value x, args := ar, argTypes := ts }) (hx : a.eval x = .func (.func f) #[] cap) (hargs : ar.map a.eval ++ cap = args) (he : ∀ args w, (callFunc f args).run P w = .ok (.enter f args) w)
    (h : Calls P f args w fun e w' => ∃ v, e = .returned v ∧ wpList P ops Q rest (a.put N v) w') : wpList P ops Q (oi :: rest) a w := by
  refine wpList_plain hg fun K hK => ?_
  have hrun : (execOp a.eval oi).run P w = .ok (.enter f args) w := by
    unfold execOp
    simp [hop, resolve, Deferred.ofValue, invoke, hx, hargs, he]
  subst hd
  unfold Oper.wp
  rw [hrun, Oper.upon_enter]
  refine h.mono fun e w'' hh => ?_
  obtain ⟨v, rfl, hk⟩ := hh
  exact hK _ _ hk
end Go.Proofs.YtepofpnbgbmihaaDoor

/-
  dyeing.made: its walk.
-/
namespace Go.Proofs.YtepofpnbgbmihaaDoor
open Go.RowKit Go.Shelf Go.Proofs.YtepofpnbgbmihaaDoorW.PrintLast
set_option linter.unusedSimpArgs false
set_option linter.unusedVariables false

structure MaQ (w wr : World) (C B : Nat) (N : Nat) (cv pv wv uv : Value) (s : Nat → Int) (p : Pb) : Prop where
  t : TaskAt wr C N cv pv wv uv s
  p : PbAt wr B p
  ne : C ≠ B
  ge : w.heap.size ≤ B
  below : Below w.heap.size w wr
section
variable {w wr wr' : World} {C B : Nat} {N : Nat} {cv pv wv uv : Value} {s : Nat → Int} {p : Pb}
theorem MaQ.later (h : MaQ w wr C B N cv pv wv uv s p) (hb : Below wr.heap.size wr wr') : MaQ w wr' C B N cv pv wv uv s p := ⟨h.t.later hb, h.p.later hb, h.ne, h.ge, h.below.trans (hb.mono h.below.size)⟩
theorem MaQ.upd (h : MaQ w wr C B N cv pv wv uv s p) (k : Nat) (v : Value) {q : Pb} (hq : PbAt (wr.setCell ⟨B, k, none⟩ v) B q) : MaQ w (wr.setCell ⟨B, k, none⟩ v) C B N cv pv wv uv s q :=
  ⟨⟨(Below.heap_setCell wr ⟨B, k, none⟩ _ _ h.ne).trans h.t.row⟩, hq, h.ne, h.ge, h.below.setCell h.ge _⟩
theorem MaQ.congr (h : MaQ w wr C B N cv pv wv uv s p) {q : Pb} (hq : PbAt wr B q) : MaQ w wr C B N cv pv wv uv s q := ⟨h.t, hq, h.ne, h.ge, h.below⟩
end

set_option maxRecDepth 100000 in
set_option maxHeartbeats 1000000 in
theorem made_any (N : Nat) (cs : List Crs) (ps : List Pn) (ws : List Wi) (us : List Uk) (cv pv wv uv : Value) (s : Nat → Int) (w : World) (gf : Nat) (cap : Array Value) (ch : Nat → Bool)
    (hcr : ∀ (i : Nat) (x : Crs), cs[i]? = some x → 0 ≤ x.over ∧ x.over < N) (hN : N ≤ 16) (htk : TaskOk cs.length ws us)
    (hc : RdL 4 encX w cv cs) (hw : RdL 2 encWi w wv ws) (hu : RdL 2 encU w uv us)
    (eg : ∀ args w, (callFunc gf args).run Tryd.prog w = .ok (.enter gf args) w)
    (hch : ∀ (i : Nat) (W : World), i < ws.length → Below w.heap.size w W → Calls Tryd.prog gf (#[.int .i64 i] ++ cap) W fun e w' => e = .returned (.bool (ch i)) ∧ w' = W) :
    Calls Tryd.prog 25 #[.agg (taskA N cv pv wv uv s), .func (.func gf) #[] cap] w fun e w' => ∃ B, e = .returned (.pointer (some ⟨B, 0, none⟩)) ∧ w.heap.size ≤ B ∧ PbAt w' B (madeP N s ws us (ovF cs) ch) ∧ Below w.heap.size w w' := by
  have HRC := Lib.hid hc
  have HTK := Lib.hid htk
  have HCH := Lib.hid hch
  have HEG := Lib.hid eg
  obtain ⟨ca, cc, rfl, hclen, -⟩ := hc.slice
  obtain ⟨wa, wc, rfl, hwlen, hwa⟩ := hw.slice
  obtain ⟨ua, uc, rfl, hulen, hua⟩ := hu.slice
  have HWA := Lib.hid hwa
  have HUA := Lib.hid hua
  have HCR := Lib.hid hcr
  clear hc hw hu hwa hua htk hch eg hcr
  unfold taskA
  have hov := fun W k x hr hx => over_any N pv (.slice wa ws.length wc) (.slice ua us.length uc) s cs k x (.slice ca cs.length cc) W hr hx
  unfold taskA at hov
  have HOV := Lib.hid hov
  clear hov
  have HZ : Hid (arrV 40 (pbV ⟨fun _ => 0, fun _ => 0, s, N, false⟩) = #[.int .u8 0, .int .u8 0, .int .u8 0, .int .u8 0, .int .u8 0, .int .u8 0, .int .u8 0, .int .u8 0, .int .u8 0, .int .u8 0, .int .u8 0, .int .u8 0, .int .u8 0, .int .u8 0, .int .u8 0, .int .u8 0, .int .u64 0, .int .u64 0, .int .u64 0, .int .u64 0, .int .u64 0, .int .u64 0, .int .u64 0, .int .u64 0, .int .u64 0, .int .u64 0, .int .u64 0, .int .u64 0, .int .u64 0, .int .u64 0, .int .u64 0, .int .u64 0, .int .i64 (s 0), .int .i64 (s 1), .int .i64 (s 2), .int .i64 (s 3), .int .i64 (s 4), .int .i64 (s 5), .int .i64 N, .bool false]) := rfl
  go_enter Tryd.func25, Tryd.ntmps25
  go_wp2
  rw [← HZ.out]
  obtain ⟨w1, hw1⟩ : ∃ w1, w1 = (w.alloc (.cells #[.int .i64 N, .slice ca cs.length cc, pv, .slice wa ws.length wc, .slice ua us.length uc, .int .i64 (s 0), .int .i64 (s 1), .int .i64 (s 2), .int .i64 (s 3), .int .i64 (s 4), .int .i64 (s 5)] 49)).alloc (.cells (arrV 40 (pbV ⟨fun _ => 0, fun _ => 0, s, N, false⟩)) 104) := ⟨_, rfl⟩
  rw [← hw1]
  have hQ1 : MaQ w w1 w.heap.size (w.heap.size + 1) N (.slice ca cs.length cc) pv (.slice wa ws.length wc) (.slice ua us.length uc) s ⟨fun _ => 0, fun _ => 0, s, N, false⟩ := by
    rw [hw1]
    exact ⟨⟨heap_alloc2_old w _ _⟩, ⟨heap_alloc2_new w _ _⟩, by omega, by omega, ((Below.refl _ _).alloc (Nat.le_refl _) _).alloc (by simp) _⟩
  have HQ1 := Lib.hid hQ1
  clear hQ1 hw1 HZ
  go_loopw [24] (fun i wr => ∃ k : Nat, k ≤ N ∧ i = .int .i64 k ∧ MaQ w wr w.heap.size (w.heap.size + 1) N (.slice ca cs.length cc) pv (.slice wa ws.length wc) (.slice ua us.length uc) s ⟨fun q => if q < k then 63 else 0, fun _ => 0, s, N, false⟩) (fun i _ => N - (intOf i).toNat)
  case atStart => exact ⟨0, Nat.zero_le _, rfl, HQ1.out.congr (HQ1.out.p.congr (fun k _ => by simp) (fun _ _ => rfl) (fun _ _ => rfl) rfl rfl)⟩
  case round =>
    clear HQ1
    obtain ⟨k, hk, rfl, hQ⟩ := hrel
    by_cases hlt : k < N
    · have hk16 : k < 16 := by omega
      have hi16 : (k : Int) < 16 := by omega
      have hcm := hQ.p.may k hk16
      have hfm := hQ.p.free k
      have HQ := Lib.hid hQ
      have hk40 : k < 40 := by omega
      clear hQ
      go_wp2
      go_roundw
      case rel =>
        refine ⟨k + 1, by omega, by go_num, HQ.out.upd k _ ((HQ.out.p.setMay k hk16 63).congr (fun q _ => ?_) (fun _ _ => rfl) (fun _ _ => rfl) rfl rfl)⟩
        unfold upd
        by_cases e : q = k
        · subst e; simp
        · by_cases e2 : q < k
          · simp [e, e2, show q < k + 1 by omega]
          · simp [e, e2, show ¬ q < k + 1 by omega]
      case measure => first | (simp [intOf]; done) | (simp [intOf]; omega)
    · obtain rfl : N = k := by omega
      have hc3 := hQ.t.c3
      have HQ := Lib.hid hQ
      clear hQ hlt
      go_wp2
      clear hc3
      go_loopw [36] (fun i wr => ∃ k : Nat, k ≤ ws.length ∧ i = .int .i64 k ∧ MaQ w wr w.heap.size (w.heap.size + 1) N (.slice ca cs.length cc) pv (.slice wa ws.length wc) (.slice ua us.length uc) s ⟨mayTo N ws (ovF cs) ch k, fun _ => 0, s, N, false⟩) (fun i _ => ws.length - (intOf i).toNat)
      case atStart => exact ⟨0, Nat.zero_le _, rfl, HQ.out⟩
      case round =>
        clear HQ hk
        obtain ⟨k, hk, rfl, hQ⟩ := hrel
        by_cases hlt : k < ws.length
        · obtain ⟨b, off, rfl, hbl, hcell⟩ := HWA.out k ws[k] (List.getElem?_eq_getElem hlt)
          have hcb := cells_below hQ.below hbl hcell
          have hx0 := hcb 0 _ rfl
          have hx1 := hcb 1 _ rfl
          rw [Nat.add_zero] at hx0
          obtain ⟨q1, q2, q3, q4⟩ := HTK.out.w k ws[k] (List.getElem?_eq_getElem hlt)
          have hst := mayTo_succ N ws (ovF cs) ch k _ (List.getElem?_eq_getElem hlt)
          generalize ws[k] = x at hx0 hx1 q1 q2 q3 q4 hst
          obtain ⟨xc, xl⟩ := x
          dsimp only at hx0 hx1 q1 q2 q3 q4 hst
          have HST := Lib.hid hst
          have hbal : Below wr.heap.size wr (wr.alloc (.cells #[.int .i64 xc, .int .u8 xl] 51)) := (Below.refl _ _).alloc (Nat.le_refl _) _
          have hcl := HCH.out k (wr.alloc (.cells #[.int .i64 xc, .int .u8 xl] 51)) hlt (hQ.below.trans (hbal.mono hQ.below.size))
          have HCL := Lib.hid hcl
          have HQA := Lib.hid (hQ.later hbal)
          clear hcb hcell hst hcl hbal
          cases hchk : ch k with
          | false =>
            rw [hchk] at HCL HST
            have HQ := Lib.hid hQ
            clear hQ
            go_wp2_with (refine goesVL_ (some 43) (by rfl) (by rfl) (#[.int .i64 k] ++ cap) (by rfl) (by rfl) (by simp only [List.map_toArray, List.map_cons, List.map_nil]; rfl) HEG.out ?_; refine HCL.out.mono ?_; rintro e w' ⟨rfl, hw'⟩; have hw' := hw'.symm; subst hw'; refine ⟨_, rfl, ?_⟩; simp only [Act.put, List.setIfInBounds_toArray, List.set_cons_zero, List.set_cons_succ])
            go_roundw
            case rel => exact ⟨k + 1, by omega, by go_num, by rw [HST.out]; exact HQA.out⟩
            case measure => first | (simp [intOf]; done) | (simp [intOf]; omega)
          | true =>
            rw [hchk] at HCL HST
            obtain ⟨c, rfl⟩ := Int.eq_ofNat_of_zero_le q1
            have hcl : c < cs.length := by omega
            have hov : ovF cs (c : Int) = (cs[c]).over.toNat := by unfold ovF; rw [Int.toNat_natCast, List.getElem?_eq_getElem hcl]
            obtain ⟨hy0, hy1⟩ := HCR.out c _ (List.getElem?_eq_getElem hcl)
            have hyc : cs[c]? = some cs[c] := List.getElem?_eq_getElem hcl
            generalize cs[c] = y at hov hy0 hy1 hyc
            have hov2 : y.over = ((ovF cs (c : Int) : Nat) : Int) := by rw [hov]; omega
            generalize ovF cs (c : Int) = o at hov hov2 HST
            have ho : o < 16 := by omega
            have ho2 : (o : Int) < 16 := by omega
            have HYC := Lib.hid hyc
            have HOV2 := Lib.hid hov2
            clear hov hy0 hy1 hyc hov2
            have HQ := Lib.hid hQ
            clear hQ
            go_wp2_with (refine goesVL_ (some 43) (by rfl) (by rfl) (#[.int .i64 k] ++ cap) (by rfl) (by rfl) (by simp only [List.map_toArray, List.map_cons, List.map_nil]; rfl) HEG.out ?_; refine HCL.out.mono ?_; rintro e w' ⟨rfl, hw'⟩; have hw' := hw'.symm; subst hw'; refine ⟨_, rfl, ?_⟩; simp only [Act.put, List.setIfInBounds_toArray, List.set_cons_zero, List.set_cons_succ])
            have hX0 : (wr.alloc (.cells #[.int .i64 c, .int .u8 xl] 51)).cell? ⟨wr.heap.size, 0, none⟩ = some (.int .i64 c) := by simp [World.cell?_alloc_at]
            have hX1 : (wr.alloc (.cells #[.int .i64 c, .int .u8 xl] 51)).cell? ⟨wr.heap.size, 1, none⟩ = some (.int .u8 xl) := by simp [World.cell?_alloc_at]
            have hXl : wr.heap.size < (wr.alloc (.cells #[.int .i64 c, .int .u8 xl] 51)).heap.size := by simp
            clear HQ HCL hw' hx0 hx1
            generalize (wr.alloc (.cells #[.int .i64 c, .int .u8 xl] 51)) = wb at HQA hX0 hX1 hXl ⊢
            generalize wr.heap.size = X at hX0 hX1 hXl ⊢
            have HQD := Lib.hid (HQA.out.later ((Below.refl _ _).drew))
            have hX0d : wb.drew.cell? ⟨X, 0, none⟩ = some (.int .i64 c) := hX0
            have hX1d : wb.drew.cell? ⟨X, 1, none⟩ = some (.int .u8 xl) := hX1
            have hXld : X < wb.drew.heap.size := hXl
            clear hX0 hX1 hXl
            refine start_ (n := 16) (S := fun w' => w'.cell? ⟨w.heap.size, 0, none⟩ = some (.int .i64 N) ∧ w'.cell? ⟨w.heap.size, 1, none⟩ = some (.slice ca cs.length cc) ∧ w'.cell? ⟨w.heap.size, 2, none⟩ = some pv ∧ w'.cell? ⟨w.heap.size, 3, none⟩ = some (.slice (some ⟨b, off, none⟩) ws.length wc) ∧ w'.cell? ⟨w.heap.size, 4, none⟩ = some (.slice ua us.length uc) ∧ w'.cell? ⟨w.heap.size, 5, none⟩ = some (.int .i64 (s 0)) ∧ w'.cell? ⟨w.heap.size, 6, none⟩ = some (.int .i64 (s 1)) ∧ w'.cell? ⟨w.heap.size, 7, none⟩ = some (.int .i64 (s 2)) ∧ w'.cell? ⟨w.heap.size, 8, none⟩ = some (.int .i64 (s 3)) ∧ w'.cell? ⟨w.heap.size, 9, none⟩ = some (.int .i64 (s 4)) ∧ w'.cell? ⟨w.heap.size, 10, none⟩ = some (.int .i64 (s 5)) ∧ w'.cell? ⟨X, 0, none⟩ = some (.int .i64 c) ∧ w'.cell? ⟨X, 1, none⟩ = some (.int .u8 xl) ∧ w'.cell? ⟨w.heap.size + 1, o, none⟩ = some (.int .u8 (mayTo N ws (ovF cs) ch k o))) (ds := [15]) #[false, false, false, false, false, false, false, false, false, false, false, false, false, false, false, false] (by kernel_rfl) rfl rfl ⟨HQD.out.t.c0, HQD.out.t.c1, HQD.out.t.c2, HQD.out.t.c3, HQD.out.t.c4, HQD.out.t.sup 0 (by omega), HQD.out.t.sup 1 (by omega), HQD.out.t.sup 2 (by omega), HQD.out.t.sup 3 (by omega), HQD.out.t.sup 4 (by omega), HQD.out.t.sup 5 (by omega), hX0d, hX1d, HQD.out.p.may o ho⟩ (fun hHeld => ?_)
            refine pure_ (i := 0) (N := some 44) (v := ?_) (a' := ?_) #[true, false, false, false, false, false, false, false, false, false, false, false, false, false, false, false] rfl rfl (by kernel_rfl) (fun _ _ _ h => h) (Or.inl ⟨by rfl, ?_⟩) ?_ ?_
            rotate_left
            · intro w'
              go_simp
              with_reducible rfl
            rotate_left
            · simp only [Act.put, List.setIfInBounds_toArray, List.set_cons_zero, List.set_cons_succ, i64_w, i32_w]
              rfl
            refine pure_ (i := 2) (N := some 46) (v := ?_) (a' := ?_) #[true, false, true, false, false, false, false, false, false, false, false, false, false, false, false, false] rfl rfl (by kernel_rfl) (fun _ _ _ h => h) (Or.inl ⟨by rfl, ?_⟩) ?_ ?_
            rotate_left
            · intro w'
              go_simp
              with_reducible rfl
            rotate_left
            · simp only [Act.put, List.setIfInBounds_toArray, List.set_cons_zero, List.set_cons_succ, i64_w, i32_w]
              rfl
            refine pure_ (i := 5) (N := some 49) (v := ?_) (a' := ?_) #[true, false, true, false, false, true, false, false, false, false, false, false, false, false, false, false] rfl rfl (by kernel_rfl) (fun _ _ _ h => h) (Or.inl ⟨by rfl, ?_⟩) ?_ ?_
            rotate_left
            · intro w'
              go_simp
              with_reducible rfl
            rotate_left
            · simp only [Act.put, List.setIfInBounds_toArray, List.set_cons_zero, List.set_cons_succ, i64_w, i32_w]
              rfl
            refine pure_ (i := 6) (N := some 50) (v := ?_) (a' := ?_) #[true, false, true, false, false, true, true, false, false, false, false, false, false, false, false, false] rfl rfl (by kernel_rfl) (fun _ _ _ h => h) (Or.inl ⟨by rfl, ?_⟩) ?_ ?_
            rotate_left
            · intro w'
              go_simp
              with_reducible rfl
            rotate_left
            · simp only [Act.put, List.setIfInBounds_toArray, List.set_cons_zero, List.set_cons_succ, i64_w, i32_w]
              rfl
            refine pure_ (i := 9) (N := some 53) (v := ?_) (a' := ?_) #[true, false, true, false, false, true, true, false, false, true, false, false, false, false, false, false] rfl rfl (by kernel_rfl) (fun _ _ _ h => h) (Or.inl ⟨by rfl, ?_⟩) ?_ ?_
            rotate_left
            · intro w'
              go_simp
              with_reducible rfl
            rotate_left
            · simp only [Act.put, List.setIfInBounds_toArray, List.set_cons_zero, List.set_cons_succ, i64_w, i32_w]
              rfl
            refine pure_ (i := 12) (N := some 56) (v := ?_) (a' := ?_) #[true, false, true, false, false, true, true, false, false, true, false, false, true, false, false, false] rfl rfl (by kernel_rfl) (fun _ _ _ h => h) (Or.inl ⟨by rfl, ?_⟩) ?_ ?_
            rotate_left
            · intro w'
              go_simp
              with_reducible rfl
            rotate_left
            · simp only [Act.put, List.setIfInBounds_toArray, List.set_cons_zero, List.set_cons_succ, i64_w, i32_w]
              rfl
            refine pure_ (i := 13) (N := some 57) (v := ?_) (a' := ?_) #[true, false, true, false, false, true, true, false, false, true, false, false, true, true, false, false] rfl rfl (by kernel_rfl) (fun _ _ _ h => h) (Or.inl ⟨by rfl, ?_⟩) ?_ ?_
            rotate_left
            · intro w'
              go_simp
              with_reducible rfl
            rotate_left
            · simp only [Act.put, List.setIfInBounds_toArray, List.set_cons_zero, List.set_cons_succ, i64_w, i32_w]
              rfl
            refine take_ (i := 1) (N := some 45) (v := ?_) (a' := ?_) #[true, true, true, false, false, true, true, false, false, true, false, false, true, true, false, false] rfl rfl (by kernel_rfl) (fun _ _ _ h => h) (Or.inl ⟨by rfl, ?_⟩) hHeld ?_ ?_
            rotate_left
            · rintro w' ⟨s0, s1, s2, s3, s4, s5, s6, s7, s8, s9, s10, s11, s12, s13⟩
              go_simp
              with_reducible rfl
            rotate_left
            · simp only [Act.put, List.setIfInBounds_toArray, List.set_cons_zero, List.set_cons_succ, i64_w, i32_w]
              rfl
            refine take_ (i := 3) (N := some 47) (v := ?_) (a' := ?_) #[true, true, true, true, false, true, true, false, false, true, false, false, true, true, false, false] rfl rfl (by kernel_rfl) (fun _ _ _ h => h) (Or.inl ⟨by rfl, ?_⟩) hHeld ?_ ?_
            rotate_left
            · rintro w' ⟨s0, s1, s2, s3, s4, s5, s6, s7, s8, s9, s10, s11, s12, s13⟩
              go_simp
              with_reducible rfl
            rotate_left
            · simp only [Act.put, List.setIfInBounds_toArray, List.set_cons_zero, List.set_cons_succ, i64_w, i32_w]
              rfl
            refine take_ (i := 10) (N := some 54) (v := ?_) (a' := ?_) #[true, true, true, true, false, true, true, false, false, true, true, false, true, true, false, false] rfl rfl (by kernel_rfl) (fun _ _ _ h => h) (Or.inl ⟨by rfl, ?_⟩) hHeld ?_ ?_
            rotate_left
            · rintro w' ⟨s0, s1, s2, s3, s4, s5, s6, s7, s8, s9, s10, s11, s12, s13⟩
              go_simp
              with_reducible rfl
            rotate_left
            · simp only [Act.put, List.setIfInBounds_toArray, List.set_cons_zero, List.set_cons_succ, i64_w, i32_w]
              rfl
            refine one_ (i := 4) (N := some 48) #[true, true, true, true, true, true, true, false, false, true, true, false, true, true, false, false] rfl rfl (by kernel_rfl) (by decide) (fun K hK => ?_)
            refine goes_ Tryd.func47 (by kernel_rfl) rfl #[.agg #[.int .i64 N, .slice ca cs.length cc, pv, .slice (some ⟨b, off, none⟩) ws.length wc, .slice ua us.length uc, .int .i64 (s 0), .int .i64 (s 1), .int .i64 (s 2), .int .i64 (s 3), .int .i64 (s 4), .int .i64 (s 5)], .int .i64 c] (by rfl) rfl rfl (by simp only [List.map_toArray, List.map_cons, List.map_nil]; rfl) ?_
            with_reducible refine (HOV.out _ _ _ (HRC.out.later HQD.out.below) HYC.out).mono ?_
            rintro e w3 ⟨rfl, hb3⟩
            refine ⟨_, rfl, ?_⟩
            have HQ3 := Lib.hid (HQD.out.later hb3)
            have HB3 := Lib.hid hb3
            have hf3 := HQ3.out.p.free o
            have hm3 := HQ3.out.p.may o ho
            clear hb3
            rw [HOV2.out]
            refine hK.out _ _ ⟨HQ3.out.t.c0, HQ3.out.t.c1, HQ3.out.t.c2, HQ3.out.t.c3, HQ3.out.t.c4, HQ3.out.t.sup 0 (by omega), HQ3.out.t.sup 1 (by omega), HQ3.out.t.sup 2 (by omega), HQ3.out.t.sup 3 (by omega), HQ3.out.t.sup 4 (by omega), HQ3.out.t.sup 5 (by omega), (HB3.out.cell (p := ⟨X, 0, none⟩) hXld).trans hX0d, (HB3.out.cell (p := ⟨X, 1, none⟩) hXld).trans hX1d, HQ3.out.p.may o ho⟩ (fun hHeld => ?_)
            clear hK K
            refine norm_ (a' := ?_) ?_ ?_
            rotate_left
            · show Act.put _ (some 48) _ = _
              simp only [Act.put, List.setIfInBounds_toArray, List.set_cons_zero, List.set_cons_succ, i64_w, i32_w]
              rfl
            refine pure_ (i := 7) (N := some 51) (v := ?_) (a' := ?_) #[true, true, true, true, true, true, true, true, false, true, true, false, true, true, false, false] rfl rfl (by kernel_rfl) (fun _ _ _ h => h) (Or.inl ⟨by rfl, ?_⟩) ?_ ?_
            rotate_left
            · intro w'
              go_simp
              with_reducible rfl
            rotate_left
            · simp only [Act.put, List.setIfInBounds_toArray, List.set_cons_zero, List.set_cons_succ, i64_w, i32_w]
              rfl
            refine take_ (i := 8) (N := some 52) (v := ?_) (a' := ?_) #[true, true, true, true, true, true, true, true, true, true, true, false, true, true, false, false] rfl rfl (by kernel_rfl) (fun _ _ _ h => h) (Or.inl ⟨by rfl, ?_⟩) hHeld ?_ ?_
            rotate_left
            · rintro w' ⟨s0, s1, s2, s3, s4, s5, s6, s7, s8, s9, s10, s11, s12, s13⟩
              go_simp
              with_reducible rfl
            rotate_left
            · simp only [Act.put, List.setIfInBounds_toArray, List.set_cons_zero, List.set_cons_succ, i64_w, i32_w]
              rfl
            refine pure_ (i := 11) (N := some 55) (v := ?_) (a' := ?_) #[true, true, true, true, true, true, true, true, true, true, true, true, true, true, false, false] rfl rfl (by kernel_rfl) (fun _ _ _ h => h) (Or.inl ⟨by rfl, ?_⟩) ?_ ?_
            rotate_left
            · intro w'
              go_simp
              with_reducible rfl
            rotate_left
            · simp only [Act.put, List.setIfInBounds_toArray, List.set_cons_zero, List.set_cons_succ, i64_w, i32_w]
              rfl
            refine pure_ (i := 14) (N := some 58) (v := ?_) (a' := ?_) #[true, true, true, true, true, true, true, true, true, true, true, true, true, true, true, false] rfl rfl (by kernel_rfl) (fun _ _ _ h => h) (Or.inl ⟨by rfl, ?_⟩) ?_ ?_
            rotate_left
            · intro w'
              go_simp
              with_reducible rfl
            rotate_left
            · simp only [Act.put, List.setIfInBounds_toArray, List.set_cons_zero, List.set_cons_succ, i64_w, i32_w]
              rfl
            refine last_ (i := 15) (N := none) #[true, true, true, true, true, true, true, true, true, true, true, true, true, true, true, true] rfl rfl (by kernel_rfl) (by decide) (fun K hK => ?_)
            refine skip_ (w1 := ?_) (by rfl) rfl ?_ ?_
            rotate_left
            · go_simp
              rfl
            refine hK.out _ _ ?_
            clear hK K
            refine done_ (by kernel_rfl) ?_
            go_wp2
            go_roundw
            case rel => exact ⟨k + 1, by omega, by go_num, by rw [HST.out, if_pos trivial]; exact HQ3.out.upd o _ (HQ3.out.p.setMay o ho _)⟩
            case measure => first | (simp [intOf]; done) | (simp [intOf]; omega)
        · obtain rfl : k = ws.length := by omega
          have hc4 := hQ.t.c4
          have HQ := Lib.hid hQ
          clear hQ hlt
          go_wp2
          clear hc4
          go_loopw [63] (fun i wr => ∃ k : Nat, k ≤ us.length ∧ i = .int .i64 k ∧ MaQ w wr w.heap.size (w.heap.size + 1) N (.slice ca cs.length cc) pv (.slice wa ws.length wc) (.slice ua us.length uc) s ⟨mayTo N ws (ovF cs) ch ws.length, unTo us (ovF cs) k, s, N, nevTo us (ovF cs) k⟩) (fun i _ => us.length - (intOf i).toNat)
          case atStart => exact ⟨0, Nat.zero_le _, rfl, HQ.out⟩
          case round =>
            clear HQ hk
            obtain ⟨k, hk, rfl, hQ⟩ := hrel
            generalize hmy : mayTo N ws (ovF cs) ch ws.length = my at hQ ⊢
            by_cases hlt : k < us.length
            · obtain ⟨b, off, rfl, hbl, hcell⟩ := HUA.out k us[k] (List.getElem?_eq_getElem hlt)
              have hcb := cells_below hQ.below hbl hcell
              have hx0 := hcb 0 _ rfl
              have hx1 := hcb 1 _ rfl
              rw [Nat.add_zero] at hx0
              obtain ⟨q1, q2, q3, q4, q5⟩ := HTK.out.u k us[k] (List.getElem?_eq_getElem hlt)
              have hst := unTo_succ us (ovF cs) k _ (List.getElem?_eq_getElem hlt)
              have hsn := nevTo_succ us (ovF cs) k _ (List.getElem?_eq_getElem hlt)
              generalize us[k] = x at hx0 hx1 q1 q2 q3 q4 q5 hst hsn
              obtain ⟨xp, xq⟩ := x
              dsimp only at hx0 hx1 q1 q2 q3 q4 q5 hst hsn
              obtain ⟨c, rfl⟩ := Int.eq_ofNat_of_zero_le q1
              obtain ⟨d, rfl⟩ := Int.eq_ofNat_of_zero_le q3
              have hcl : c < cs.length := by omega
              have hdl : d < cs.length := by omega
              have hov : ovF cs (c : Int) = (cs[c]).over.toNat := by unfold ovF; rw [Int.toNat_natCast, List.getElem?_eq_getElem hcl]
              have how : ovF cs (d : Int) = (cs[d]).over.toNat := by unfold ovF; rw [Int.toNat_natCast, List.getElem?_eq_getElem hdl]
              obtain ⟨hy0, hy1⟩ := HCR.out c _ (List.getElem?_eq_getElem hcl)
              obtain ⟨hz0, hz1⟩ := HCR.out d _ (List.getElem?_eq_getElem hdl)
              have hyc : cs[c]? = some cs[c] := List.getElem?_eq_getElem hcl
              have hzc : cs[d]? = some cs[d] := List.getElem?_eq_getElem hdl
              generalize cs[c] = y at hov hy0 hy1 hyc
              generalize cs[d] = z at how hz0 hz1 hzc
              have hov2 : y.over = ((ovF cs (c : Int) : Nat) : Int) := by rw [hov]; omega
              have how2 : z.over = ((ovF cs (d : Int) : Nat) : Int) := by rw [how]; omega
              generalize ovF cs (c : Int) = o at hov hov2 hst hsn
              generalize ovF cs (d : Int) = u at how how2 hst hsn
              have ho : o < 16 := by omega
              have ho2 : (o : Int) < 16 := by omega
              have hu : u < 16 := by omega
              have hu2 : (u : Int) < 16 := by omega
              have HYC := Lib.hid hyc
              have HZC := Lib.hid hzc
              have HOV2 := Lib.hid hov2
              have HOW2 := Lib.hid how2
              have HST := Lib.hid hst
              have HSN := Lib.hid hsn
              have HQA := Lib.hid (hQ.later ((Below.refl _ _).alloc (Nat.le_refl _) (.cells #[.int .i64 c, .int .i64 d] 54)))
              clear hov hy0 hy1 hyc hov2 how hz0 hz1 hzc how2 hst hsn hcb hcell hQ q1 q2 q3 q4 q5 hcl hdl
              go_wp2
              have hX0 : (wr.alloc (.cells #[.int .i64 c, .int .i64 d] 54)).cell? ⟨wr.heap.size, 0, none⟩ = some (.int .i64 c) := by simp [World.cell?_alloc_at]
              have hX1 : (wr.alloc (.cells #[.int .i64 c, .int .i64 d] 54)).cell? ⟨wr.heap.size, 1, none⟩ = some (.int .i64 d) := by simp [World.cell?_alloc_at]
              have hXl : wr.heap.size < (wr.alloc (.cells #[.int .i64 c, .int .i64 d] 54)).heap.size := by simp
              clear hx0 hx1
              generalize (wr.alloc (.cells #[.int .i64 c, .int .i64 d] 54)) = wb at HQA hX0 hX1 hXl ⊢
              generalize wr.heap.size = X at hX0 hX1 hXl ⊢
              have HQD := Lib.hid (HQA.out.later ((Below.refl _ _).drew))
              have hX0d : wb.drew.cell? ⟨X, 0, none⟩ = some (.int .i64 c) := hX0
              have hX1d : wb.drew.cell? ⟨X, 1, none⟩ = some (.int .i64 d) := hX1
              have hXld : X < wb.drew.heap.size := hXl
              clear hX0 hX1 hXl HQA
              generalize hun : unTo us (ovF cs) k = un at HQD HST ⊢
              generalize hnv : nevTo us (ovF cs) k = nv at HQD HSN ⊢
              refine start_ (n := 10) (S := fun w' => w'.cell? ⟨w.heap.size, 0, none⟩ = some (.int .i64 N) ∧ w'.cell? ⟨w.heap.size, 1, none⟩ = some (.slice ca cs.length cc) ∧ w'.cell? ⟨w.heap.size, 2, none⟩ = some pv ∧ w'.cell? ⟨w.heap.size, 3, none⟩ = some (.slice wa ws.length wc) ∧ w'.cell? ⟨w.heap.size, 4, none⟩ = some (.slice (some ⟨b, off, none⟩) us.length uc) ∧ w'.cell? ⟨w.heap.size, 5, none⟩ = some (.int .i64 (s 0)) ∧ w'.cell? ⟨w.heap.size, 6, none⟩ = some (.int .i64 (s 1)) ∧ w'.cell? ⟨w.heap.size, 7, none⟩ = some (.int .i64 (s 2)) ∧ w'.cell? ⟨w.heap.size, 8, none⟩ = some (.int .i64 (s 3)) ∧ w'.cell? ⟨w.heap.size, 9, none⟩ = some (.int .i64 (s 4)) ∧ w'.cell? ⟨w.heap.size, 10, none⟩ = some (.int .i64 (s 5)) ∧ w'.cell? ⟨X, 0, none⟩ = some (.int .i64 c) ∧ w'.cell? ⟨X, 1, none⟩ = some (.int .i64 d)) (ds := []) #[false, false, false, false, false, false, false, false, false, false] (by kernel_rfl) rfl rfl ⟨HQD.out.t.c0, HQD.out.t.c1, HQD.out.t.c2, HQD.out.t.c3, HQD.out.t.c4, HQD.out.t.sup 0 (by omega), HQD.out.t.sup 1 (by omega), HQD.out.t.sup 2 (by omega), HQD.out.t.sup 3 (by omega), HQD.out.t.sup 4 (by omega), HQD.out.t.sup 5 (by omega), hX0d, hX1d⟩ (fun hHeld => ?_)
              refine pure_ (i := 1) (N := some 68) (v := ?_) (a' := ?_) #[false, true, false, false, false, false, false, false, false, false] rfl rfl (by kernel_rfl) (fun _ _ _ h => h) (Or.inl ⟨by rfl, ?_⟩) ?_ ?_
              rotate_left
              · intro w'
                go_simp
                with_reducible rfl
              rotate_left
              · simp only [Act.put, List.setIfInBounds_toArray, List.set_cons_zero, List.set_cons_succ, i64_w, i32_w]
                rfl
              refine pure_ (i := 5) (N := some 72) (v := ?_) (a' := ?_) #[false, true, false, false, false, true, false, false, false, false] rfl rfl (by kernel_rfl) (fun _ _ _ h => h) (Or.inl ⟨by rfl, ?_⟩) ?_ ?_
              rotate_left
              · intro w'
                go_simp
                with_reducible rfl
              rotate_left
              · simp only [Act.put, List.setIfInBounds_toArray, List.set_cons_zero, List.set_cons_succ, i64_w, i32_w]
                rfl
              refine take_ (i := 0) (N := some 67) (v := ?_) (a' := ?_) #[true, true, false, false, false, true, false, false, false, false] rfl rfl (by kernel_rfl) (fun _ _ _ h => h) (Or.inl ⟨by rfl, ?_⟩) hHeld ?_ ?_
              rotate_left
              · rintro w' ⟨s0, s1, s2, s3, s4, s5, s6, s7, s8, s9, s10, s11, s12⟩
                go_simp
                with_reducible rfl
              rotate_left
              · simp only [Act.put, List.setIfInBounds_toArray, List.set_cons_zero, List.set_cons_succ, i64_w, i32_w]
                rfl
              refine take_ (i := 2) (N := some 69) (v := ?_) (a' := ?_) #[true, true, true, false, false, true, false, false, false, false] rfl rfl (by kernel_rfl) (fun _ _ _ h => h) (Or.inl ⟨by rfl, ?_⟩) hHeld ?_ ?_
              rotate_left
              · rintro w' ⟨s0, s1, s2, s3, s4, s5, s6, s7, s8, s9, s10, s11, s12⟩
                go_simp
                with_reducible rfl
              rotate_left
              · simp only [Act.put, List.setIfInBounds_toArray, List.set_cons_zero, List.set_cons_succ, i64_w, i32_w]
                rfl
              refine take_ (i := 4) (N := some 71) (v := ?_) (a' := ?_) #[true, true, true, false, true, true, false, false, false, false] rfl rfl (by kernel_rfl) (fun _ _ _ h => h) (Or.inl ⟨by rfl, ?_⟩) hHeld ?_ ?_
              rotate_left
              · rintro w' ⟨s0, s1, s2, s3, s4, s5, s6, s7, s8, s9, s10, s11, s12⟩
                go_simp
                with_reducible rfl
              rotate_left
              · simp only [Act.put, List.setIfInBounds_toArray, List.set_cons_zero, List.set_cons_succ, i64_w, i32_w]
                rfl
              refine take_ (i := 6) (N := some 73) (v := ?_) (a' := ?_) #[true, true, true, false, true, true, true, false, false, false] rfl rfl (by kernel_rfl) (fun _ _ _ h => h) (Or.inl ⟨by rfl, ?_⟩) hHeld ?_ ?_
              rotate_left
              · rintro w' ⟨s0, s1, s2, s3, s4, s5, s6, s7, s8, s9, s10, s11, s12⟩
                go_simp
                with_reducible rfl
              rotate_left
              · simp only [Act.put, List.setIfInBounds_toArray, List.set_cons_zero, List.set_cons_succ, i64_w, i32_w]
                rfl
              refine one_ (i := 3) (N := some 70) #[true, true, true, true, true, true, true, false, false, false] rfl rfl (by kernel_rfl) (by decide) (fun K hK => ?_)
              refine goes_ Tryd.func47 (by kernel_rfl) rfl #[.agg #[.int .i64 N, .slice ca cs.length cc, pv, .slice wa ws.length wc, .slice (some ⟨b, off, none⟩) us.length uc, .int .i64 (s 0), .int .i64 (s 1), .int .i64 (s 2), .int .i64 (s 3), .int .i64 (s 4), .int .i64 (s 5)], .int .i64 c] (by rfl) rfl rfl (by simp only [List.map_toArray, List.map_cons, List.map_nil]; rfl) ?_
              with_reducible refine (HOV.out _ _ _ (HRC.out.later HQD.out.below) HYC.out).mono ?_
              rintro e w3 ⟨rfl, hb3⟩
              refine ⟨_, rfl, ?_⟩
              have HQ3 := Lib.hid (HQD.out.later hb3)
              have hX03 := (hb3.cell (p := ⟨X, 0, none⟩) hXld).trans hX0d
              have hX13 := (hb3.cell (p := ⟨X, 1, none⟩) hXld).trans hX1d
              have hXl3 := Nat.lt_of_lt_of_le hXld hb3.size
              clear hb3
              rw [HOV2.out]
              refine hK.out _ _ ⟨HQ3.out.t.c0, HQ3.out.t.c1, HQ3.out.t.c2, HQ3.out.t.c3, HQ3.out.t.c4, HQ3.out.t.sup 0 (by omega), HQ3.out.t.sup 1 (by omega), HQ3.out.t.sup 2 (by omega), HQ3.out.t.sup 3 (by omega), HQ3.out.t.sup 4 (by omega), HQ3.out.t.sup 5 (by omega), hX03, hX13⟩ (fun hHeld => ?_)
              clear hK K
              refine norm_ (a' := ?_) ?_ ?_
              rotate_left
              · show Act.put _ (some 70) _ = _
                simp only [Act.put, List.setIfInBounds_toArray, List.set_cons_zero, List.set_cons_succ, i64_w, i32_w]
                rfl
              refine one_ (i := 7) (N := some 74) #[true, true, true, true, true, true, true, true, false, false] rfl rfl (by kernel_rfl) (by decide) (fun K hK => ?_)
              refine goes_ Tryd.func47 (by kernel_rfl) rfl #[.agg #[.int .i64 N, .slice ca cs.length cc, pv, .slice wa ws.length wc, .slice (some ⟨b, off, none⟩) us.length uc, .int .i64 (s 0), .int .i64 (s 1), .int .i64 (s 2), .int .i64 (s 3), .int .i64 (s 4), .int .i64 (s 5)], .int .i64 d] (by rfl) rfl rfl (by simp only [List.map_toArray, List.map_cons, List.map_nil]; rfl) ?_
              with_reducible refine (HOV.out _ _ _ (HRC.out.later HQ3.out.below) HZC.out).mono ?_
              rintro e w4 ⟨rfl, hb4⟩
              refine ⟨_, rfl, ?_⟩
              have HQ4 := Lib.hid (HQ3.out.later hb4)
              have hX04 := (hb4.cell (p := ⟨X, 0, none⟩) hXl3).trans hX03
              have hX14 := (hb4.cell (p := ⟨X, 1, none⟩) hXl3).trans hX13
              clear hb4
              rw [HOW2.out]
              refine hK.out _ _ ⟨HQ4.out.t.c0, HQ4.out.t.c1, HQ4.out.t.c2, HQ4.out.t.c3, HQ4.out.t.c4, HQ4.out.t.sup 0 (by omega), HQ4.out.t.sup 1 (by omega), HQ4.out.t.sup 2 (by omega), HQ4.out.t.sup 3 (by omega), HQ4.out.t.sup 4 (by omega), HQ4.out.t.sup 5 (by omega), hX04, hX14⟩ (fun hHeld => ?_)
              clear hK K
              refine norm_ (a' := ?_) ?_ ?_
              rotate_left
              · show Act.put _ (some 74) _ = _
                simp only [Act.put, List.setIfInBounds_toArray, List.set_cons_zero, List.set_cons_succ, i64_w, i32_w]
                rfl
              refine pure_ (i := 8) (N := some 11) (v := ?_) (a' := ?_) #[true, true, true, true, true, true, true, true, true, false] rfl rfl (by kernel_rfl) (fun _ _ _ h => h) (Or.inl ⟨by rfl, ?_⟩) ?_ ?_
              rotate_left
              · intro w'
                go_simp
                with_reducible rfl
              rotate_left
              · simp only [Act.put, List.setIfInBounds_toArray, List.set_cons_zero, List.set_cons_succ, i64_w, i32_w]
                rfl
              refine pure_ (i := 9) (N := some 12) (v := ?_) (a' := ?_) #[true, true, true, true, true, true, true, true, true, true] rfl rfl (by kernel_rfl) (fun _ _ _ h => h) (Or.inl ⟨by rfl, ?_⟩) ?_ ?_
              rotate_left
              · intro w'
                go_simp
                with_reducible rfl
              rotate_left
              · simp only [Act.put, List.setIfInBounds_toArray, List.set_cons_zero, List.set_cons_succ, i64_w, i32_w]
                rfl
              refine done_ (by kernel_rfl) ?_
              clear hX0d hX1d hXld hX03 hX13 hXl3 hX04 hX14 HQ3 HQD
              have HQ5 := Lib.hid (HQ4.out.later ((Below.refl _ _).drew))
              have hm5 := HQ5.out.p.un o ho
              have hf5 := HQ5.out.p.free (16 + o)
              go_wp2
              have hu0 : (0 : Int) ≤ (u : Int) := by omega
              have ho0 : (0 : Int) ≤ (o : Int) := by omega
              refine start_ (n := 13) (S := fun w' => w'.cell? ⟨w.heap.size + 1, 16 + o, none⟩ = some (.int .u64 (un o))) (ds := [12]) #[false, false, false, false, false, false, false, false, false, false, false, false, false] (by kernel_rfl) rfl rfl (hm5) (fun hHeld => ?_)
              refine pure_ (i := 0) (N := some 75) (v := ?_) (a' := ?_) #[true, false, false, false, false, false, false, false, false, false, false, false, false] rfl rfl (by kernel_rfl) (fun _ _ _ h => h) (Or.inl ⟨by rfl, ?_⟩) ?_ ?_
              rotate_left
              · intro w'
                go_simp
                with_reducible rfl
              rotate_left
              · simp only [Act.put, List.setIfInBounds_toArray, List.set_cons_zero, List.set_cons_succ, i64_w, i32_w]
                rfl
              refine pure_ (i := 1) (N := some 76) (v := ?_) (a' := ?_) #[true, true, false, false, false, false, false, false, false, false, false, false, false] rfl rfl (by kernel_rfl) (fun _ _ _ h => h) (Or.inl ⟨by rfl, ?_⟩) ?_ ?_
              rotate_left
              · intro w'
                go_simp
                with_reducible rfl
              rotate_left
              · simp only [Act.put, List.setIfInBounds_toArray, List.set_cons_zero, List.set_cons_succ, i64_w, i32_w]
                rfl
              refine pure_ (i := 2) (N := some 77) (v := ?_) (a' := ?_) #[true, true, true, false, false, false, false, false, false, false, false, false, false] rfl rfl (by kernel_rfl) (fun _ _ _ h => h) (Or.inl ⟨by rfl, ?_⟩) ?_ ?_
              rotate_left
              · intro w'
                go_simp
                with_reducible rfl
              rotate_left
              · simp only [Act.put, List.setIfInBounds_toArray, List.set_cons_zero, List.set_cons_succ, i64_w, i32_w]
                rfl
              refine pure_ (i := 3) (N := some 78) (v := ?_) (a' := ?_) #[true, true, true, true, false, false, false, false, false, false, false, false, false] rfl rfl (by kernel_rfl) (fun _ _ _ h => h) (Or.inl ⟨by rfl, ?_⟩) ?_ ?_
              rotate_left
              · intro w'
                go_simp
                with_reducible rfl
              rotate_left
              · simp only [Act.put, List.setIfInBounds_toArray, List.set_cons_zero, List.set_cons_succ, i64_w, i32_w]
                rfl
              refine pure_ (i := 4) (N := some 79) (v := ?_) (a' := ?_) #[true, true, true, true, true, false, false, false, false, false, false, false, false] rfl rfl (by kernel_rfl) (fun _ _ _ h => h) (Or.inl ⟨by rfl, ?_⟩) ?_ ?_
              rotate_left
              · intro w'
                go_simp
                with_reducible rfl
              rotate_left
              · simp only [Act.put, List.setIfInBounds_toArray, List.set_cons_zero, List.set_cons_succ, i64_w, i32_w]
                rfl
              refine pure_ (i := 6) (N := some 81) (v := ?_) (a' := ?_) #[true, true, true, true, true, false, true, false, false, false, false, false, false] rfl rfl (by kernel_rfl) (fun _ _ _ h => h) (Or.inl ⟨by rfl, ?_⟩) ?_ ?_
              rotate_left
              · intro w'
                go_simp
                with_reducible rfl
              rotate_left
              · simp only [Act.put, List.setIfInBounds_toArray, List.set_cons_zero, List.set_cons_succ, i64_w, i32_w]
                rfl
              refine pure_ (i := 7) (N := some 82) (v := ?_) (a' := ?_) #[true, true, true, true, true, false, true, true, false, false, false, false, false] rfl rfl (by kernel_rfl) (fun _ _ _ h => h) (Or.inl ⟨by rfl, ?_⟩) ?_ ?_
              rotate_left
              · intro w'
                go_simp
                with_reducible rfl
              rotate_left
              · simp only [Act.put, List.setIfInBounds_toArray, List.set_cons_zero, List.set_cons_succ, i64_w, i32_w]
                rfl
              refine pure_ (i := 9) (N := some 84) (v := ?_) (a' := ?_) #[true, true, true, true, true, false, true, true, false, true, false, false, false] rfl rfl (by kernel_rfl) (fun _ _ _ h => h) (Or.inl ⟨by rfl, ?_⟩) ?_ ?_
              rotate_left
              · intro w'
                go_simp
                with_reducible rfl
              rotate_left
              · simp only [Act.put, List.setIfInBounds_toArray, List.set_cons_zero, List.set_cons_succ, i64_w, i32_w]
                rfl
              refine pure_ (i := 10) (N := some 85) (v := ?_) (a' := ?_) #[true, true, true, true, true, false, true, true, false, true, true, false, false] rfl rfl (by kernel_rfl) (fun _ _ _ h => h) (Or.inl ⟨by rfl, ?_⟩) ?_ ?_
              rotate_left
              · intro w'
                go_simp
                with_reducible rfl
              rotate_left
              · simp only [Act.put, List.setIfInBounds_toArray, List.set_cons_zero, List.set_cons_succ, i64_w, i32_w]
                rfl
              refine take_ (i := 5) (N := some 80) (v := ?_) (a' := ?_) #[true, true, true, true, true, true, true, true, false, true, true, false, false] rfl rfl (by kernel_rfl) (fun _ _ _ h => h) (Or.inl ⟨by rfl, ?_⟩) hHeld ?_ ?_
              rotate_left
              · intro w' s0
                go_simp
                with_reducible rfl
              rotate_left
              · simp only [Act.put, List.setIfInBounds_toArray, List.set_cons_zero, List.set_cons_succ, i64_w, i32_w]
                rfl
              refine pure_ (i := 8) (N := some 83) (v := ?_) (a' := ?_) #[true, true, true, true, true, true, true, true, true, true, true, false, false] rfl rfl (by kernel_rfl) (fun _ _ _ h => h) (Or.inl ⟨by rfl, ?_⟩) ?_ ?_
              rotate_left
              · intro w'
                go_simp
                with_reducible rfl
              rotate_left
              · simp only [Act.put, List.setIfInBounds_toArray, List.set_cons_zero, List.set_cons_succ, i64_w, i32_w]
                rfl
              refine pure_ (i := 11) (N := some 86) (v := ?_) (a' := ?_) #[true, true, true, true, true, true, true, true, true, true, true, true, false] rfl rfl (by kernel_rfl) (fun _ _ _ h => h) (Or.inl ⟨by rfl, ?_⟩) ?_ ?_
              rotate_left
              · intro w'
                go_simp
                with_reducible rfl
              rotate_left
              · simp only [Act.put, List.setIfInBounds_toArray, List.set_cons_zero, List.set_cons_succ, i64_w, i32_w]
                rfl
              refine last_ (i := 12) (N := none) #[true, true, true, true, true, true, true, true, true, true, true, true, true] rfl rfl (by kernel_rfl) (by decide) (fun K hK => ?_)
              refine skip_ (w1 := ?_) (by rfl) rfl ?_ ?_
              rotate_left
              · go_simp
                rfl
              refine hK.out _ _ ?_
              clear hK K
              refine done_ (by kernel_rfl) ?_
              have hQ6 := (HQ4.out.upd (16 + o) _ (HQ4.out.p.setUn o ho (bits .or .u64 (un o) (shl1 u)))).later ((Below.refl _ _).drew)
              dsimp only at hQ6
              clear hm5 hf5 hHeld HQ5 HQ4
              unfold shl1 at hQ6
              generalize (w4.setCell ⟨w.heap.size + 1, 16 + o, none⟩ (.int .u64 (bits .or .u64 (un o) (IntKind.u64.wrap (2 ^ u))))).drew = w6 at hQ6 ⊢
              generalize hun2 : upd un o (bits .or .u64 (un o) (IntKind.u64.wrap (2 ^ u))) = un2 at hQ6
              have HQ6 := Lib.hid hQ6
              have HQ6d := Lib.hid (hQ6.later ((Below.refl _ _).drew))
              have hm6 := HQ6d.out.p.un u hu
              have hf6 := HQ6d.out.p.free (16 + u)
              clear hQ6
              go_wp2
              refine start_ (n := 13) (S := fun w' => w'.cell? ⟨w.heap.size + 1, 16 + u, none⟩ = some (.int .u64 (un2 u))) (ds := [12]) #[false, false, false, false, false, false, false, false, false, false, false, false, false] (by kernel_rfl) rfl rfl (hm6) (fun hHeld => ?_)
              refine pure_ (i := 0) (N := some 87) (v := ?_) (a' := ?_) #[true, false, false, false, false, false, false, false, false, false, false, false, false] rfl rfl (by kernel_rfl) (fun _ _ _ h => h) (Or.inl ⟨by rfl, ?_⟩) ?_ ?_
              rotate_left
              · intro w'
                go_simp
                with_reducible rfl
              rotate_left
              · simp only [Act.put, List.setIfInBounds_toArray, List.set_cons_zero, List.set_cons_succ, i64_w, i32_w]
                rfl
              refine pure_ (i := 1) (N := some 88) (v := ?_) (a' := ?_) #[true, true, false, false, false, false, false, false, false, false, false, false, false] rfl rfl (by kernel_rfl) (fun _ _ _ h => h) (Or.inl ⟨by rfl, ?_⟩) ?_ ?_
              rotate_left
              · intro w'
                go_simp
                with_reducible rfl
              rotate_left
              · simp only [Act.put, List.setIfInBounds_toArray, List.set_cons_zero, List.set_cons_succ, i64_w, i32_w]
                rfl
              refine pure_ (i := 2) (N := some 89) (v := ?_) (a' := ?_) #[true, true, true, false, false, false, false, false, false, false, false, false, false] rfl rfl (by kernel_rfl) (fun _ _ _ h => h) (Or.inl ⟨by rfl, ?_⟩) ?_ ?_
              rotate_left
              · intro w'
                go_simp
                with_reducible rfl
              rotate_left
              · simp only [Act.put, List.setIfInBounds_toArray, List.set_cons_zero, List.set_cons_succ, i64_w, i32_w]
                rfl
              refine pure_ (i := 3) (N := some 90) (v := ?_) (a' := ?_) #[true, true, true, true, false, false, false, false, false, false, false, false, false] rfl rfl (by kernel_rfl) (fun _ _ _ h => h) (Or.inl ⟨by rfl, ?_⟩) ?_ ?_
              rotate_left
              · intro w'
                go_simp
                with_reducible rfl
              rotate_left
              · simp only [Act.put, List.setIfInBounds_toArray, List.set_cons_zero, List.set_cons_succ, i64_w, i32_w]
                rfl
              refine pure_ (i := 4) (N := some 91) (v := ?_) (a' := ?_) #[true, true, true, true, true, false, false, false, false, false, false, false, false] rfl rfl (by kernel_rfl) (fun _ _ _ h => h) (Or.inl ⟨by rfl, ?_⟩) ?_ ?_
              rotate_left
              · intro w'
                go_simp
                with_reducible rfl
              rotate_left
              · simp only [Act.put, List.setIfInBounds_toArray, List.set_cons_zero, List.set_cons_succ, i64_w, i32_w]
                rfl
              refine pure_ (i := 6) (N := some 93) (v := ?_) (a' := ?_) #[true, true, true, true, true, false, true, false, false, false, false, false, false] rfl rfl (by kernel_rfl) (fun _ _ _ h => h) (Or.inl ⟨by rfl, ?_⟩) ?_ ?_
              rotate_left
              · intro w'
                go_simp
                with_reducible rfl
              rotate_left
              · simp only [Act.put, List.setIfInBounds_toArray, List.set_cons_zero, List.set_cons_succ, i64_w, i32_w]
                rfl
              refine pure_ (i := 7) (N := some 94) (v := ?_) (a' := ?_) #[true, true, true, true, true, false, true, true, false, false, false, false, false] rfl rfl (by kernel_rfl) (fun _ _ _ h => h) (Or.inl ⟨by rfl, ?_⟩) ?_ ?_
              rotate_left
              · intro w'
                go_simp
                with_reducible rfl
              rotate_left
              · simp only [Act.put, List.setIfInBounds_toArray, List.set_cons_zero, List.set_cons_succ, i64_w, i32_w]
                rfl
              refine pure_ (i := 9) (N := some 96) (v := ?_) (a' := ?_) #[true, true, true, true, true, false, true, true, false, true, false, false, false] rfl rfl (by kernel_rfl) (fun _ _ _ h => h) (Or.inl ⟨by rfl, ?_⟩) ?_ ?_
              rotate_left
              · intro w'
                go_simp
                with_reducible rfl
              rotate_left
              · simp only [Act.put, List.setIfInBounds_toArray, List.set_cons_zero, List.set_cons_succ, i64_w, i32_w]
                rfl
              refine pure_ (i := 10) (N := some 97) (v := ?_) (a' := ?_) #[true, true, true, true, true, false, true, true, false, true, true, false, false] rfl rfl (by kernel_rfl) (fun _ _ _ h => h) (Or.inl ⟨by rfl, ?_⟩) ?_ ?_
              rotate_left
              · intro w'
                go_simp
                with_reducible rfl
              rotate_left
              · simp only [Act.put, List.setIfInBounds_toArray, List.set_cons_zero, List.set_cons_succ, i64_w, i32_w]
                rfl
              refine take_ (i := 5) (N := some 92) (v := ?_) (a' := ?_) #[true, true, true, true, true, true, true, true, false, true, true, false, false] rfl rfl (by kernel_rfl) (fun _ _ _ h => h) (Or.inl ⟨by rfl, ?_⟩) hHeld ?_ ?_
              rotate_left
              · intro w' s0
                go_simp
                with_reducible rfl
              rotate_left
              · simp only [Act.put, List.setIfInBounds_toArray, List.set_cons_zero, List.set_cons_succ, i64_w, i32_w]
                rfl
              refine pure_ (i := 8) (N := some 95) (v := ?_) (a' := ?_) #[true, true, true, true, true, true, true, true, true, true, true, false, false] rfl rfl (by kernel_rfl) (fun _ _ _ h => h) (Or.inl ⟨by rfl, ?_⟩) ?_ ?_
              rotate_left
              · intro w'
                go_simp
                with_reducible rfl
              rotate_left
              · simp only [Act.put, List.setIfInBounds_toArray, List.set_cons_zero, List.set_cons_succ, i64_w, i32_w]
                rfl
              refine pure_ (i := 11) (N := some 98) (v := ?_) (a' := ?_) #[true, true, true, true, true, true, true, true, true, true, true, true, false] rfl rfl (by kernel_rfl) (fun _ _ _ h => h) (Or.inl ⟨by rfl, ?_⟩) ?_ ?_
              rotate_left
              · intro w'
                go_simp
                with_reducible rfl
              rotate_left
              · simp only [Act.put, List.setIfInBounds_toArray, List.set_cons_zero, List.set_cons_succ, i64_w, i32_w]
                rfl
              refine last_ (i := 12) (N := none) #[true, true, true, true, true, true, true, true, true, true, true, true, true] rfl rfl (by kernel_rfl) (by decide) (fun K hK => ?_)
              refine skip_ (w1 := ?_) (by rfl) rfl ?_ ?_
              rotate_left
              · go_simp
                rfl
              refine hK.out _ _ ?_
              clear hK K
              refine done_ (by kernel_rfl) ?_
              have hQ7 := (HQ6.out.upd (16 + u) _ (HQ6.out.p.setUn u hu (bits .or .u64 (un2 u) (shl1 o)))).later ((Below.refl _ _).drew)
              dsimp only at hQ7
              clear hm6 hf6 hHeld HQ6 HQ6d
              unfold shl1 at hQ7
              generalize (w6.setCell ⟨w.heap.size + 1, 16 + u, none⟩ (.int .u64 (bits .or .u64 (un2 u) (IntKind.u64.wrap (2 ^ o))))).drew = w7 at hQ7 ⊢
              have hue : upd un2 u (bits .or .u64 (un2 u) (IntKind.u64.wrap (2 ^ o))) = unStep un o u := by
                unfold unStep shl1
                rw [← hun2]
              rw [hue, ← HST.out] at hQ7
              have HQ7 := Lib.hid hQ7
              have hm7 := HQ7.out.p.never
              have hf7 := HQ7.out.p.free 39
              have hnb : ((o : Int) == (u : Int)) = (o == u) := nat_int_beq o u
              clear hQ7 hue hun2
              cases nv with
              | true =>
                go_wp2
                go_roundw
                case rel => exact ⟨k + 1, by omega, by go_num, by rw [HSN.out, Bool.true_or]; exact HQ7.out.upd 39 _ (HQ7.out.p.setNever true)⟩
                case measure => first | (simp [intOf]; done) | (simp [intOf]; omega)
              | false =>
                go_wp2
                go_roundw
                case rel => exact ⟨k + 1, by omega, by go_num, by rw [HSN.out, Bool.false_or]; exact HQ7.out.upd 39 _ (HQ7.out.p.setNever _)⟩
                case measure => first | (simp [intOf]; done) | (simp [intOf]; omega)
            · obtain rfl : k = us.length := by omega
              have HQ := Lib.hid hQ
              clear hQ hlt
              go_wp2
              go_ret
              refine ⟨_, rfl, HQ.out.ge, ?_, HQ.out.below⟩
              unfold madeP
              rw [hmy]
              exact HQ.out.p
end Go.Proofs.YtepofpnbgbmihaaDoor

/-
  (*problem).enough.
-/
namespace Go.Proofs.YtepofpnbgbmihaaDoor
open Go.RowKit Go.Shelf Go.Proofs.YtepofpnbgbmihaaDoorW.PrintLast
set_option linter.unusedSimpArgs false
set_option linter.unusedVariables false

def fitB (m : Int) (set : Nat) : Bool := bits .andNot .u8 m (set : Int) == 0
def setB (set : Nat) (c : Nat) : Bool := bits .and .u8 ((set : Int) / 2 ^ c) 1 == 1
/-- How many of the threads from 'a' on, j of them, have colours of this set alone. -/
def cntTo (may : Nat → Int) (set a : Nat) : Nat → Int
  | 0 => 0
  | j + 1 => if fitB (may (a + j)) set then cntTo may set a j + 1 else cntTo may set a j
/-- n, less what there is of the first c colours of this set. -/
def subTo (left : Nat → Int) (set : Nat) (n : Int) : Nat → Int
  | 0 => n
  | c + 1 => if setB set c then subTo left set n c - left c else subTo left set n c
def lacks (p : Pb) (a set : Nat) : Int := subTo p.left set (cntTo p.may set a (p.many - a)) 6
def enoughTo (p : Pb) (a : Nat) : Nat → Bool
  | 0 => true
  | s + 1 => enoughTo p a s && !decide (0 < lacks p a s)
def enoughF (p : Pb) (a : Nat) : Bool := enoughTo p a 64
theorem cntTo_le (may : Nat → Int) (set a : Nat) : ∀ j, 0 ≤ cntTo may set a j ∧ cntTo may set a j ≤ j
  | 0 => by simp [cntTo]
  | j + 1 => by
    have h := cntTo_le may set a j
    unfold cntTo
    split <;> omega
theorem subTo_le (left : Nat → Int) (set : Nat) (n : Int) (hl : ∀ c, c < 6 → 0 ≤ left c ∧ left c ≤ 100) : ∀ c, c ≤ 6 → subTo left set n c ≤ n ∧ n - 100 * c ≤ subTo left set n c
  | 0 => fun _ => by simp [subTo]
  | c + 1 => fun hc => by
    have h := subTo_le left set n hl c (by omega)
    have h2 := hl c (by omega)
    unfold subTo
    split <;> omega
theorem enoughTo_bad (p : Pb) (a s : Nat) (h : 0 < lacks p a s) : ∀ t, s < t → enoughTo p a t = false := by
  intro t ht
  induction t with
  | zero => omega
  | succ t ih =>
    unfold enoughTo
    by_cases e : s = t
    · subst e; simp [h]
    · rw [ih (by omega)]; rfl

set_option maxRecDepth 100000 in
set_option maxHeartbeats 1000000 in
theorem enough_any (B : Nat) (p : Pb) (a : Nat) (w : World) (hp : PbAt w B p) (hN : p.many ≤ 16) (ha : a < p.many) (hl : ∀ c, c < 6 → 0 ≤ p.left c ∧ p.left c ≤ 100) :
    Calls Tryd.prog 49 #[.pointer (some ⟨B, 0, none⟩), .int .i64 a] w fun e w' => e = .returned (.bool (enoughF p a)) ∧ Below w.heap.size w w' := by
  have HP := Lib.hid hp
  have HL := Lib.hid hl
  clear hp hl
  go_enter Tryd.func49, Tryd.ntmps49
  go_wp2
  go_loopw [5] (fun i wr => ∃ k : Nat, k ≤ 64 ∧ i = .int .u8 k ∧ Hid (enoughTo p a k = true) ∧ Below w.heap.size w wr) (fun i _ => 64 - (intOf i).toNat)
  case atStart => exact ⟨0, by omega, rfl, rfl, Below.refl _ _⟩
  case round =>
    obtain ⟨set, hk, rfl, hE, hB⟩ := hrel
    by_cases hlt : set < 64
    · have hi64 : (set : Int) < 64 := by omega
      have HPr := Lib.hid (HP.out.later hB)
      have HB := Lib.hid hB
      clear hB
      have hmd : wr.drew.cell? ⟨B, 38, none⟩ = some (.int .i64 p.many) := HPr.out.many
      have hi1 : (a : Int) ≤ p.many := by omega
      have hi2 : (p.many : Int) ≤ 16 := by omega
      have hne16 : ¬ (16 = a) := by omega
      have hsub : (p.many : Int) - (a : Int) = ((p.many - a : Nat) : Int) := by omega
      go_wp2
      refine start_ (n := 11) (S := fun w' => w'.cell? ⟨B, 38, none⟩ = some (.int .i64 p.many)) (ds := []) #[false, false, false, false, false, false, false, false, false, false, false] (by kernel_rfl) rfl rfl (hmd) (fun hHeld => ?_)
      refine pure_ (i := 0) (N := some 14) (v := ?_) (a' := ?_) #[true, false, false, false, false, false, false, false, false, false, false] rfl rfl (by kernel_rfl) (fun _ _ _ h => h) (Or.inl ⟨by rfl, ?_⟩) ?_ ?_
      rotate_left
      · intro w'
        go_simp
        with_reducible rfl
      rotate_left
      · simp only [Act.put, List.setIfInBounds_toArray, List.set_cons_zero, List.set_cons_succ, i64_w, i32_w]
        rfl
      refine pure_ (i := 1) (N := some 15) (v := ?_) (a' := ?_) #[true, true, false, false, false, false, false, false, false, false, false] rfl rfl (by kernel_rfl) (fun _ _ _ h => h) (Or.inl ⟨by rfl, ?_⟩) ?_ ?_
      rotate_left
      · intro w'
        go_simp
        with_reducible rfl
      rotate_left
      · simp only [Act.put, List.setIfInBounds_toArray, List.set_cons_zero, List.set_cons_succ, i64_w, i32_w]
        rfl
      refine pure_ (i := 2) (N := some 16) (v := ?_) (a' := ?_) #[true, true, true, false, false, false, false, false, false, false, false] rfl rfl (by kernel_rfl) (fun _ _ _ h => h) (Or.inl ⟨by rfl, ?_⟩) ?_ ?_
      rotate_left
      · intro w'
        go_simp
        with_reducible rfl
      rotate_left
      · simp only [Act.put, List.setIfInBounds_toArray, List.set_cons_zero, List.set_cons_succ, i64_w, i32_w]
        rfl
      refine pure_ (i := 3) (N := some 17) (v := ?_) (a' := ?_) #[true, true, true, true, false, false, false, false, false, false, false] rfl rfl (by kernel_rfl) (fun _ _ _ h => h) (Or.inl ⟨by rfl, ?_⟩) ?_ ?_
      rotate_left
      · intro w'
        go_simp
        with_reducible rfl
      rotate_left
      · simp only [Act.put, List.setIfInBounds_toArray, List.set_cons_zero, List.set_cons_succ, i64_w, i32_w]
        rfl
      refine pure_ (i := 4) (N := some 18) (v := ?_) (a' := ?_) #[true, true, true, true, true, false, false, false, false, false, false] rfl rfl (by kernel_rfl) (fun _ _ _ h => h) (Or.inl ⟨by rfl, ?_⟩) ?_ ?_
      rotate_left
      · intro w'
        go_simp
        with_reducible rfl
      rotate_left
      · simp only [Act.put, List.setIfInBounds_toArray, List.set_cons_zero, List.set_cons_succ, i64_w, i32_w]
        rfl
      refine pure_ (i := 5) (N := some 19) (v := ?_) (a' := ?_) #[true, true, true, true, true, true, false, false, false, false, false] rfl rfl (by kernel_rfl) (fun _ _ _ h => h) (Or.inl ⟨by rfl, ?_⟩) ?_ ?_
      rotate_left
      · intro w'
        go_simp
        with_reducible rfl
      rotate_left
      · simp only [Act.put, List.setIfInBounds_toArray, List.set_cons_zero, List.set_cons_succ, i64_w, i32_w]
        rfl
      refine pure_ (i := 6) (N := some 20) (v := ?_) (a' := ?_) #[true, true, true, true, true, true, true, false, false, false, false] rfl rfl (by kernel_rfl) (fun _ _ _ h => h) (Or.inl ⟨by rfl, ?_⟩) ?_ ?_
      rotate_left
      · intro w'
        go_simp
        with_reducible rfl
      rotate_left
      · simp only [Act.put, List.setIfInBounds_toArray, List.set_cons_zero, List.set_cons_succ, i64_w, i32_w]
        rfl
      refine pure_ (i := 10) (N := some 24) (v := ?_) (a' := ?_) #[true, true, true, true, true, true, true, false, false, false, true] rfl rfl (by kernel_rfl) (fun _ _ _ h => h) (Or.inl ⟨by rfl, ?_⟩) ?_ ?_
      rotate_left
      · intro w'
        go_simp
        with_reducible rfl
      rotate_left
      · simp only [Act.put, List.setIfInBounds_toArray, List.set_cons_zero, List.set_cons_succ, i64_w, i32_w]
        rfl
      refine take_ (i := 7) (N := some 21) (v := ?_) (a' := ?_) #[true, true, true, true, true, true, true, true, false, false, true] rfl rfl (by kernel_rfl) (fun _ _ _ h => h) (Or.inl ⟨by rfl, ?_⟩) hHeld ?_ ?_
      rotate_left
      · intro w' s0
        go_simp
        with_reducible rfl
      rotate_left
      · simp only [Act.put, List.setIfInBounds_toArray, List.set_cons_zero, List.set_cons_succ, i64_w, i32_w]
        rfl
      refine pure_ (i := 8) (N := some 22) (v := ?_) (a' := ?_) #[true, true, true, true, true, true, true, true, true, false, true] rfl rfl (by kernel_rfl) (fun _ _ _ h => h) (Or.inl ⟨by rfl, ?_⟩) ?_ ?_
      rotate_left
      · intro w'
        go_simp
        with_reducible rfl
      rotate_left
      · simp only [Act.put, List.setIfInBounds_toArray, List.set_cons_zero, List.set_cons_succ, i64_w, i32_w]
        rfl
      refine pure_ (i := 9) (N := some 23) (v := ?_) (a' := ?_) #[true, true, true, true, true, true, true, true, true, true, true] rfl rfl (by kernel_rfl) (fun _ _ _ h => h) (Or.inl ⟨by rfl, ?_⟩) ?_ ?_
      rotate_left
      · intro w'
        go_simp
        with_reducible rfl
      rotate_left
      · simp only [Act.put, List.setIfInBounds_toArray, List.set_cons_zero, List.set_cons_succ, i64_w, i32_w]
        rfl
      refine done_ (by kernel_rfl) ?_
      have HPd := Lib.hid (HPr.out.later ((Below.refl _ _).drew))
      have HBd := Lib.hid (HB.out.drew)
      clear hmd hHeld HPr HB
      generalize wr.drew = wd at HPd HBd ⊢
      go_wp2
      go_loop [6, 24] (fun n i => ∃ j : Nat, j ≤ p.many - a ∧ i = .int .i64 j ∧ n = .int .i64 (cntTo p.may set a j)) (fun _ i => (p.many - a) - (intOf i).toNat)
      case atStart => exact ⟨0, Nat.zero_le _, rfl, rfl⟩
      case round =>
        obtain ⟨j, hj, rfl, rfl⟩ := hrel
        by_cases hlt2 : j < p.many - a
        · have hcm := HPd.out.may (a + j) (by omega)
          have hst : cntTo p.may set a (j + 1) = if fitB (p.may (a + j)) set then cntTo p.may set a j + 1 else cntTo p.may set a j := rfl
          obtain ⟨hn0, hn1⟩ := cntTo_le p.may set a j
          generalize p.may (a + j) = m at hcm hst
          generalize cntTo p.may set a j = n at hst hn0 hn1 ⊢
          have hj16 : (j : Int) < 16 := by omega
          have hn16 : n < 16 := by omega
          have hjl : (j : Int) < ((p.many - a : Nat) : Int) := by omega
          have HST := Lib.hid hst
          clear hst
          unfold fitB at HST
          cases hf : (bits .andNot .u8 m (set : Int) == 0) with
          | true =>
            rw [hf] at HST
            go_wp2
            go_round
            case rel => exact ⟨j + 1, by omega, by go_num, by rw [HST.out]; rfl⟩
            case measure => first | (simp [intOf]; done) | (simp [intOf]; omega)
          | false =>
            rw [hf] at HST
            go_wp2
            go_round
            case rel => exact ⟨j + 1, by omega, by go_num, by rw [HST.out]; rfl⟩
            case measure => first | (simp [intOf]; done) | (simp [intOf]; omega)
        · obtain ⟨hn0, hn1⟩ := cntTo_le p.may set a j
          obtain rfl : j = p.many - a := by omega
          have hlk : lacks p a set = subTo p.left set (cntTo p.may set a (p.many - a)) 6 := rfl
          generalize cntTo p.may set a (p.many - a) = n0 at hn0 hn1 hlk ⊢
          have HLK := Lib.hid hlk
          have hn16 : n0 ≤ 16 := by omega
          clear hlk
          go_wp2
          go_loop [6, 35] (fun n i => ∃ c : Nat, c ≤ 6 ∧ i = .int .i64 c ∧ n = .int .i64 (subTo p.left set n0 c)) (fun _ i => 6 - (intOf i).toNat)
          case atStart => exact ⟨0, Nat.zero_le _, rfl, rfl⟩
          case round =>
            obtain ⟨c, hc, rfl, rfl⟩ := hrel
            obtain ⟨hs1, hs0⟩ := subTo_le p.left set n0 HL.out c hc
            by_cases hlt3 : c < 6
            · have hcl := HPd.out.left c hlt3
              obtain ⟨hl0, hl1⟩ := HL.out c hlt3
              have hst : subTo p.left set n0 (c + 1) = if setB set c then subTo p.left set n0 c - p.left c else subTo p.left set n0 c := rfl
              generalize p.left c = lc at hcl hl0 hl1 hst
              generalize subTo p.left set n0 c = sc at hs1 hs0 hst ⊢
              have hc6 : (c : Int) < 6 := by omega
              have hsc : -10000 ≤ sc := by omega
              have hsc2 : sc ≤ 16 := by omega
              have HST := Lib.hid hst
              clear hst hs1 hs0
              unfold setB at HST
              cases hf : (bits .and .u8 ((set : Int) / 2 ^ c) 1 == 1) with
              | true =>
                rw [hf] at HST
                go_wp2
                go_round
                case rel => exact ⟨c + 1, by omega, by go_num, by rw [HST.out]; rfl⟩
                case measure => first | (simp [intOf]; done) | (simp [intOf]; omega)
              | false =>
                rw [hf] at HST
                go_wp2
                go_round
                case rel => exact ⟨c + 1, by omega, by go_num, by rw [HST.out]; rfl⟩
                case measure => first | (simp [intOf]; done) | (simp [intOf]; omega)
            · obtain rfl : c = 6 := by omega
              rw [← HLK.out] at hs1 hs0 ⊢
              have hes : enoughTo p a (set + 1) = (enoughTo p a set && !decide (0 < lacks p a set)) := rfl
              have hbad := enoughTo_bad p a set
              generalize lacks p a set = lk at hs1 hs0 hes hbad ⊢
              cases hd : decide (0 < lk) with
              | true =>
                have hbad2 := hbad (of_decide_eq_true hd) 64 hlt
                have HBAD := Lib.hid hbad2
                clear hbad hbad2 hes
                go_wp2
                go_ret
                exact ⟨by rw [show enoughF p a = false from HBAD.out]; rfl, HBd.out⟩
              | false =>
                have hes2 : enoughTo p a (set + 1) = true := by rw [hes, hE.out, hd]; rfl
                have HES := Lib.hid hes2
                clear hbad hes hes2
                go_wp2
                go_roundw
                case rel => exact ⟨set + 1, by omega, by go_num, HES.out, HBd.out⟩
                case measure => first | (simp [intOf]; done) | (simp [intOf]; omega)
    · obtain rfl : set = 64 := by omega
      have HB := Lib.hid hB
      clear hB
      go_wp2
      go_ret
      exact ⟨by rw [show enoughF p a = true from hE.out]; rfl, HB.out⟩
end Go.Proofs.YtepofpnbgbmihaaDoor

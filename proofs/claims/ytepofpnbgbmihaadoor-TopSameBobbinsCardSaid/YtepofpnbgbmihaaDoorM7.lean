/-
  What is asked of the two cloths is answered alike.
-/
import Derived.Test.YtepofpnbgbmihaaDoorM6

/-
  What is asked of the two cloths is answered alike.
-/
namespace Go.Proofs.YtepofpnbgbmihaaDoor
open Go Go.RowKit

section
variable {cs1 cs2 : List Crs} {n : Nat} {out : List Nat} {tM : Nat → Nat}
theorem ovF_get (cs : List Crs) (m : Nat) (h : m < cs.length) : ovF cs (m : Int) = (cs.getD m c0).over.toNat := by
  unfold ovF
  rw [Int.toNat_natCast, List.getElem?_eq_getElem h, getD_get _ _ _ h]
theorem Same.ov (hS : Same cs1 cs2 n out tM) (c : Int) (h0 : 0 ≤ c) (h1 : c < cs1.length) : ovF cs2 ((tM c.toNat : Nat) : Int) = ovF cs1 c := by
  obtain ⟨m, rfl⟩ := Int.eq_ofNat_of_zero_le h0
  rw [Int.toNat_natCast, ovF_get cs1 m (by omega), ovF_get cs2 _ (by rw [hS.len]; exact hS.lt m (by omega)), hS.over m (by omega)]
def mapW (tM : Nat → Nat) (x : Wi) : Wi := ⟨(tM x.cross.toNat : Nat), x.al⟩
def mapU (tM : Nat → Nat) (x : Uk) : Uk := ⟨(tM x.p.toNat : Nat), (tM x.q.toNat : Nat)⟩
theorem Same.may (hS : Same cs1 cs2 n out tM) (N : Nat) (ws : List Wi) (ch : Nat → Bool) (h : ∀ (i : Nat) (x : Wi), ws[i]? = some x → 0 ≤ x.cross ∧ x.cross < cs1.length) : ∀ j, mayTo N (ws.map (mapW tM)) (ovF cs2) ch j = mayTo N ws (ovF cs1) ch j
  | 0 => rfl
  | j + 1 => by
    have ih := Same.may hS N ws ch h j
    cases hx : ws[j]? with
    | none =>
      have e1 : mayTo N (ws.map (mapW tM)) (ovF cs2) ch (j + 1) = mayTo N (ws.map (mapW tM)) (ovF cs2) ch j := by
        show (match (ws.map (mapW tM))[j]? with | some x => _ | none => mayTo N (ws.map (mapW tM)) (ovF cs2) ch j) = _
        rw [List.getElem?_map, hx]; rfl
      have e2 : mayTo N ws (ovF cs1) ch (j + 1) = mayTo N ws (ovF cs1) ch j := by
        show (match ws[j]? with | some x => _ | none => mayTo N ws (ovF cs1) ch j) = _
        rw [hx]
      rw [e1, e2, ih]
    | some x =>
      have hx2 : (ws.map (mapW tM))[j]? = some (mapW tM x) := by rw [List.getElem?_map, hx]; rfl
      have ho : ovF cs2 (mapW tM x).cross = ovF cs1 x.cross := hS.ov x.cross (h j x hx).1 (h j x hx).2
      rw [mayTo_succ _ _ _ _ j _ hx2, mayTo_succ _ _ _ _ j _ hx, ih, ho]
      rfl
theorem Same.un (hS : Same cs1 cs2 n out tM) (us : List Uk) (h : ∀ (i : Nat) (x : Uk), us[i]? = some x → 0 ≤ x.p ∧ x.p < cs1.length ∧ 0 ≤ x.q ∧ x.q < cs1.length) : ∀ j, unTo (us.map (mapU tM)) (ovF cs2) j = unTo us (ovF cs1) j ∧ nevTo (us.map (mapU tM)) (ovF cs2) j = nevTo us (ovF cs1) j
  | 0 => ⟨rfl, rfl⟩
  | j + 1 => by
    obtain ⟨ih1, ih2⟩ := Same.un hS us h j
    cases hx : us[j]? with
    | none =>
      have hx2 : (us.map (mapU tM))[j]? = none := by rw [List.getElem?_map, hx]; rfl
      refine ⟨?_, ?_⟩
      · show (match (us.map (mapU tM))[j]? with | some x => _ | none => unTo (us.map (mapU tM)) (ovF cs2) j) = (match us[j]? with | some x => _ | none => unTo us (ovF cs1) j)
        rw [hx, hx2]; exact ih1
      · show (match (us.map (mapU tM))[j]? with | some x => _ | none => nevTo (us.map (mapU tM)) (ovF cs2) j) = (match us[j]? with | some x => _ | none => nevTo us (ovF cs1) j)
        rw [hx, hx2]; exact ih2
    | some x =>
      have hx2 : (us.map (mapU tM))[j]? = some (mapU tM x) := by rw [List.getElem?_map, hx]; rfl
      obtain ⟨p0, p1, q0, q1⟩ := h j x hx
      have ho : ovF cs2 (mapU tM x).p = ovF cs1 x.p := hS.ov x.p p0 p1
      have ho2 : ovF cs2 (mapU tM x).q = ovF cs1 x.q := hS.ov x.q q0 q1
      rw [unTo_succ _ _ j _ hx2, unTo_succ _ _ j _ hx, nevTo_succ _ _ j _ hx2, nevTo_succ _ _ j _ hx, ih1, ih2, ho, ho2]
      exact ⟨rfl, rfl⟩
theorem Same.made (hS : Same cs1 cs2 n out tM) (N : Nat) (s : Nat → Int) (ws : List Wi) (us : List Uk) (ch : Nat → Bool) (ht : TaskOk cs1.length ws us) : madeP N s (ws.map (mapW tM)) (us.map (mapU tM)) (ovF cs2) ch = madeP N s ws us (ovF cs1) ch := by
  unfold madeP
  rw [List.length_map, List.length_map, hS.may N ws ch (fun i x hx => ⟨(ht.w i x hx).1, (ht.w i x hx).2.1⟩), (hS.un us (fun i x hx => ⟨(ht.u i x hx).1, (ht.u i x hx).2.1, (ht.u i x hx).2.2.1, (ht.u i x hx).2.2.2.1⟩) us.length).1, (hS.un us (fun i x hx => ⟨(ht.u i x hx).1, (ht.u i x hx).2.1, (ht.u i x hx).2.2.1, (ht.u i x hx).2.2.2.1⟩) us.length).2]
theorem allAl (ws : List Wi) (tM : Nat → Nat) : (ws.map (mapW tM)).all okAl = ws.all okAl := by
  rw [List.all_map]; rfl
theorem Same.dy (hS : Same cs1 cs2 n out tM) (N : Nat) (s : Nat → Int) (ws : List Wi) (us : List Uk) (ht : TaskOk cs1.length ws us) : dyRes N s (ws.map (mapW tM)) (us.map (mapU tM)) (ovF cs2) = dyRes N s ws us (ovF cs1) := by
  unfold dyRes
  rw [allAl, hS.made N s ws us _ ht]
theorem Same.clash (hS : Same cs1 cs2 n out tM) (N : Nat) (s : Nat → Int) (ws : List Wi) (us : List Uk) (ht : TaskOk cs1.length ws us) : clashX (badA N s (ws.map (mapW tM)) (us.map (mapU tM)) (ovF cs2)) (ws.map (mapW tM)).length = clashX (badA N s ws us (ovF cs1)) ws.length := by
  have h : badA N s (ws.map (mapW tM)) (us.map (mapU tM)) (ovF cs2) = badA N s ws us (ovF cs1) := by
    funext x
    unfold badA pbOf
    rw [hS.made N s ws us _ ht]
  rw [h, List.length_map]
theorem Same.task (hS : Same cs1 cs2 n out tM) (ws : List Wi) (us : List Uk) (ht : TaskOk cs1.length ws us) : TaskOk cs2.length (ws.map (mapW tM)) (us.map (mapU tM)) := by
  refine ⟨by rw [List.length_map]; exact ht.nw, by rw [List.length_map]; exact ht.nu, fun i x hx => ?_, fun i x hx => ?_⟩
  · rw [List.getElem?_map] at hx
    obtain ⟨y, hy, rfl⟩ := Option.map_eq_some_iff.1 hx
    obtain ⟨a, b, c, d⟩ := ht.w i y hy
    have := hS.lt y.cross.toNat (by omega)
    exact ⟨by show (0 : Int) ≤ (tM y.cross.toNat : Nat); omega, by show ((tM y.cross.toNat : Nat) : Int) < _; rw [hS.len]; omega, c, d⟩
  · rw [List.getElem?_map] at hx
    obtain ⟨y, hy, rfl⟩ := Option.map_eq_some_iff.1 hx
    obtain ⟨a, b, c, d, e⟩ := ht.u i y hy
    have h1 := hS.lt y.p.toNat (by omega)
    have h2 := hS.lt y.q.toNat (by omega)
    refine ⟨by show (0 : Int) ≤ (tM y.p.toNat : Nat); omega, by show ((tM y.p.toNat : Nat) : Int) < _; rw [hS.len]; omega, by show (0 : Int) ≤ (tM y.q.toNat : Nat); omega, by show ((tM y.q.toNat : Nat) : Int) < _; rw [hS.len]; omega, fun he => ?_⟩
    have he2 : tM y.p.toNat = tM y.q.toNat := by
      have he3 : ((tM y.p.toNat : Nat) : Int) = (tM y.q.toNat : Nat) := he
      omega
    have := hS.inj _ _ (by omega) (by omega) he2
    omega
theorem Same.least (hS : Same cs1 cs2 n out tM) (d : Nat → Int) : leastF d cs2 = leastF d cs1 := by
  funext t
  unfold leastF
  rw [hS.seen t]
theorem seenL_get (cs : List Crs) (ds : List Int) (m : Nat) (h : m < cs.length) : (seenL cs ds)[m]? = some (ds.getD (cs.getD m c0).over.toNat 0) := by
  unfold seenL
  rw [List.getElem?_map, List.getElem?_eq_getElem h, getD_get _ _ _ h]; rfl
/-- What is seen at a crossing, and at its like. -/
theorem Same.seenEq (hS : Same cs1 cs2 n out tM) (ds : List Int) (m : Nat) (h : m < cs1.length) : (seenL cs2 ds)[tM m]? = (seenL cs1 ds)[m]? := by
  rw [seenL_get cs2 ds _ (by rw [hS.len]; exact hS.lt m h), seenL_get cs1 ds m h, hS.over m h]
end
theorem cols_lt (m : Int) : ∀ c ∈ cols m, c < 6 := by
  intro c hc
  unfold cols at hc
  have := (List.mem_filter.1 hc).1
  simp only [List.mem_cons, List.not_mem_nil, or_false] at this
  omega
theorem tryF_lt (un : Nat → Int) (N : Nat) : ∀ (r : Nat) (may left : Nat → Int) (l : List Int), tryF un N r may left = some l → l.length = r ∧ ∀ x ∈ l, 0 ≤ x ∧ x < 6
  | 0, may, left, l, h => by
    have h' : some [] = some l := h
    injection h' with h'
    subst h'
    exact ⟨rfl, by simp⟩
  | r + 1, may, left, l, h => by
    unfold tryF at h
    split at h
    · obtain ⟨c, hc, h2⟩ := List.exists_of_findSome?_eq_some h
      split at h2
      · cases h2
      · obtain ⟨l', h3, rfl⟩ := Option.map_eq_some_iff.1 h2
        obtain ⟨h4, h5⟩ := tryF_lt un N r _ _ l' h3
        have := cols_lt _ c hc
        refine ⟨by simp [h4], fun x hx => ?_⟩
        rcases List.mem_cons.1 hx with rfl | hx
        · omega
        · exact h5 x hx
    · cases h
end Go.Proofs.YtepofpnbgbmihaaDoor

/-
  shuffled: its walk.
-/
namespace Go.Proofs.YtepofpnbgbmihaaDoor
open Go.RowKit Go.Shelf Go.Proofs.YtepofpnbgbmihaaDoorW.PrintLast
set_option linter.unusedSimpArgs false
set_option linter.unusedVariables false

/-- The store of one work. -/
theorem OwnW.put {w : World} {base g n cap p : Nat} {ys zs : List Wk} {z : Wk} (h : OwnW w base (.slice (some ⟨g, 0, none⟩) n cap) (ys ++ z :: zs)) (hp : p = ys.length) (x : Wk) :
    ∃ w', (Instr.storeAt 60 (.pointer (some ⟨g, p * 3, none⟩)) (.agg #[.int .i64 x.kind, .int .i64 x.at_, .string x.word])).run Tryd.prog w = .ok () w' ∧ OwnW w' base (.slice (some ⟨g, 0, none⟩) n cap) (ys ++ x :: zs) ∧ Kp w w' (fun k => k = g) := by
  subst hp
  obtain ⟨hl, h⟩ := h
  rcases h with ⟨h, _⟩ | ⟨g', cap', cur, e, hb, hg, hnc, hcm, hcs, htake⟩
  · simp at h
  · simp only [Value.slice.injEq, Option.some.injEq, Addr.mk.injEq, and_true, true_and] at e
    obtain ⟨rfl, rfl, rfl⟩ := e
    have hcur : cur.toList = ys.flatMap encW ++ (encW z ++ (zs.flatMap encW ++ cur.toList.drop ((ys ++ z :: zs).length * 3))) := by
      have h1 := List.take_append_drop ((ys ++ z :: zs).length * 3) cur.toList
      rw [htake, List.flatMap_append, List.flatMap_cons] at h1
      exact h1.symm.trans (by simp only [List.append_assoc])
    have hsz : ys.length * 3 + 3 ≤ cur.size := by
      have h1 := congrArg List.length hcur
      simp only [List.length_append, flatW_len, encW_len, Array.length_toList] at h1
      omega
    have hst := run_storeCells_at Tryd.prog g (ys.length * 3) 60 (encW x) 0 cur w hg (by rw [encW_len]; omega) (encW_one x)
    have hnew : (cur.toList.take (ys.length * 3 + 0) ++ encW x ++ cur.toList.drop (ys.length * 3 + 0 + (encW x).length)) = ys.flatMap encW ++ (encW x ++ (zs.flatMap encW ++ cur.toList.drop ((ys ++ z :: zs).length * 3))) := by
      have e1 : cur.toList.take (ys.length * 3 + 0) = ys.flatMap encW := by
        rw [hcur, Nat.add_zero, ← flatW_len]; exact List.take_left
      have e2 : cur.toList.drop (ys.length * 3 + 0 + (encW x).length) = zs.flatMap encW ++ cur.toList.drop ((ys ++ z :: zs).length * 3) := by
        rw [encW_len, Nat.add_zero]
        have hl3 : (ys.flatMap encW ++ encW z).length = ys.length * 3 + 3 := by rw [List.length_append, flatW_len, encW_len]
        rw [← hl3]
        conv => lhs; rw [hcur, ← List.append_assoc]
        exact List.drop_left
      rw [e1, e2, List.append_assoc]
    rw [hnew] at hst
    refine ⟨w.setRow g (ys.flatMap encW ++ (encW x ++ (zs.flatMap encW ++ cur.toList.drop ((ys ++ z :: zs).length * 3)))).toArray, ?_, ⟨?_, .inr ⟨g, cap, (ys.flatMap encW ++ (encW x ++ (zs.flatMap encW ++ cur.toList.drop ((ys ++ z :: zs).length * 3)))).toArray, ?_, hb, setRow_heap _ _ _ _ _ _ hg, ?_, hcm, ?_, ?_⟩⟩, ⟨rfl, rfl, rfl, by simp, fun i _ hi => setRow_other _ _ _ _ hi⟩⟩
    · have hq := info_work
      cases hq2 : Tryd.prog.info? 60 with
      | none => rw [hq2] at hq; simp at hq
      | some i =>
        have hs : i.size = 3 := by rw [hq2] at hq; simp at hq; exact hq.2.1
        simp only [Instr.storeAt, Instr.sureAddr, Sem.run_bind, Sem.run_pure, Result.andThen_ok]
        have hst2 : (storeCells ⟨g, ys.length * 3, none⟩ [.int .i64 x.kind, .int .i64 x.at_, .string x.word]).run Tryd.prog w = .ok () (w.setRow g (ys.flatMap encW ++ (encW x ++ (zs.flatMap encW ++ cur.toList.drop ((ys ++ z :: zs).length * 3)))).toArray) := hst
        generalize (w.setRow g (ys.flatMap encW ++ (encW x ++ (zs.flatMap encW ++ cur.toList.drop ((ys ++ z :: zs).length * 3)))).toArray) = w9 at hst2 ⊢
        simp [storeVar, sizeOf, typeInfo, hq2, Value.cells, hs, hst2]
    · rw [flatW_len]
    · simp
    · simpa using hnc
    · have h1 := congrArg List.length hcur
      simp only [List.length_append, flatW_len, encW_len, Array.length_toList] at h1
      simp only [List.size_toArray, List.length_append, flatW_len, encW_len]
      omega
    · show List.take _ (ys.flatMap encW ++ (encW x ++ (zs.flatMap encW ++ cur.toList.drop ((ys ++ z :: zs).length * 3)))) = _
      have h1 : (ys ++ x :: zs).flatMap encW = ys.flatMap encW ++ (encW x ++ zs.flatMap encW) := by rw [List.flatMap_append, List.flatMap_cons]
      rw [← List.append_assoc (encW x), ← List.append_assoc, ← h1]
      have h2 : (ys ++ z :: zs).length * 3 = ((ys ++ x :: zs).flatMap encW).length := by rw [flatW_len]; simp
      generalize (ys ++ x :: zs).flatMap encW = L at h2 ⊢
      have h3 : (ys ++ x :: zs).length = (ys ++ z :: zs).length := by simp
      rw [h3, h2]
      exact List.take_left

/-- In the loop. -/
structure ShQ (w wr : World) (p : Int) (b5 : Nat) (v : Value) (ws : List Wk) : Prop where
  t : wr.heap[b5]? = some (.cells #[.int .i64 p, v] 24 (0, 0))
  own : OwnW wr (w.heap.size + 2) v ws
  r : wr.heap[w.heap.size + 1]? = some (.cells #[.int .i64 0, .slice none 0 0] 24 (0, 0))
  below : Below w.heap.size w wr
  ge : w.heap.size + 2 ≤ b5
section
variable {w wr wr' : World} {p : Int} {b5 : Nat} {v : Value} {ws : List Wk}
theorem ShQ.later (h : ShQ w wr p b5 v ws) (hb : Below wr.heap.size wr wr') : ShQ w wr' p b5 v ws :=
  ⟨(hb.block _ (Array.getElem?_eq_some_iff.1 h.t).1).trans h.t, h.own.later hb, (hb.block _ (Array.getElem?_eq_some_iff.1 h.r).1).trans h.r, h.below.trans (hb.mono h.below.size), h.ge⟩
theorem ShQ.put {g n cap q : Nat} {ys zs : List Wk} {z : Wk} (h : ShQ w wr p b5 (.slice (some ⟨g, 0, none⟩) n cap) (ys ++ z :: zs)) (hq : q = ys.length) (x : Wk) :
    ∃ w', (Instr.storeAt 60 (.pointer (some ⟨g, q * 3, none⟩)) (.agg #[.int .i64 x.kind, .int .i64 x.at_, .string x.word])).run Tryd.prog wr = .ok () w' ∧ ShQ w w' p b5 (.slice (some ⟨g, 0, none⟩) n cap) (ys ++ x :: zs) := by
  obtain ⟨w', h1, h2, h3⟩ := h.own.put hq x
  have n1 := own_type_ne h.own h.t (by decide)
  have n2 := own_type_ne h.own h.r (by decide)
  exact ⟨w', h1, ⟨(h3.block _ (Array.getElem?_eq_some_iff.1 h.t).1 (fun e => n1 (by rw [e]; rfl))).trans h.t, h2, (h3.block _ (Array.getElem?_eq_some_iff.1 h.r).1 (fun e => n2 (by rw [e]; rfl))).trans h.r, Kp.below h.below h.below.size h3 (fun k e => by rw [e]; have := (h.own.lt g rfl).1; omega), h.ge⟩⟩
end
end Go.Proofs.YtepofpnbgbmihaaDoor

/-
  shuffled: its walk.
-/
namespace Go.Proofs.YtepofpnbgbmihaaDoor
open Go.RowKit Go.Shelf Go.Proofs.YtepofpnbgbmihaaDoorW.PrintLast
set_option linter.unusedSimpArgs false
set_option linter.unusedVariables false

theorem qfacts (q n : Nat) (h : q + 1 < n) (hn : n ≤ 400) : wrap64 ((q : Int) + 1) = (q : Int) + 1 ∧ (0 : Int) ≤ (q : Int) + 1 ∧ (0 : Int) ≤ (q : Int) ∧ ((q : Int) + 1).toNat = q + 1 ∧ ((q : Int) < (n : Int)) = True ∧ ((q : Int) + 1 < (n : Int)) = True := by
  refine ⟨w64_succ q (by omega), z_succ q, by omega, n_succ q, by simp; omega, by simp; omega⟩
theorem lenfacts (n : Nat) (h : 1 < n) (hn : n ≤ 400) : wrap64 ((n : Int) - 1) = (n : Int) - 1 ∧ IntKind.i64.wrap ((n : Int) - 1) = (n : Int) - 1 ∧ ((n : Int) - 1 = 0) = False := by
  refine ⟨w64_in _ (by omega) (by omega), by rw [IntKind.wrap_i64]; omega, by simp; omega⟩
theorem xfacts (x : Int) (h0 : 0 ≤ x) (h1 : x < 65536) : wrap64 x = x ∧ IntKind.i64.wrap x = x := ⟨w64_in _ (by omega) (by omega), by rw [IntKind.wrap_i64]; omega⟩
theorem tmod_facts (x : Int) (n : Nat) (h : 1 < n) (hx0 : 0 ≤ x) : ∃ q : Nat, x.tmod ((n : Int) - 1) = (q : Int) ∧ q + 1 < n := by
  rw [Int.tmod_eq_emod_of_nonneg hx0]
  have h1 := Int.emod_nonneg x (b := (n : Int) - 1) (by omega)
  have h2 := Int.emod_lt_of_pos x (b := (n : Int) - 1) (by omega)
  exact ⟨(x % ((n : Int) - 1)).toNat, by omega, by omega⟩
theorem split_at (ws : List Wk) (q : Nat) (h : q + 1 < ws.length) : ∃ X Y ys zs, ws = ys ++ X :: Y :: zs ∧ ys.length = q := by
  refine ⟨ws[q], ws[q + 1], ws.take q, ws.drop (q + 1 + 1), ?_, by simp; omega⟩
  rw [← List.drop_eq_getElem_cons, ← List.drop_eq_getElem_cons, List.take_append_drop]
theorem split_get (X Y : Wk) (ys zs : List Wk) : (ys ++ X :: Y :: zs)[ys.length]? = some X ∧ (ys ++ X :: Y :: zs)[ys.length + 1]? = some Y := by
  refine ⟨by simp, ?_⟩
  rw [List.getElem?_append_right (by omega), show ys.length + 1 - ys.length = 1 by omega]
  rfl

theorem info_sheet : (Tryd.prog.info? 24).map (·.size) = some 2 := by kernel_rfl
/-- The result stored. -/
theorem ShQ.fin {w wr : World} {p : Int} {b5 : Nat} {v : Value} {ws : List Wk} (h : ShQ w wr p b5 v ws) : ((wr.setCell ⟨w.heap.size + 1, 0, none⟩ (.int .i64 p)).setCell ⟨w.heap.size + 1, 1, none⟩ v).heap[w.heap.size + 1]? = some (.cells #[.int .i64 p, v] 24 (0, 0)) ∧ OwnW ((wr.setCell ⟨w.heap.size + 1, 0, none⟩ (.int .i64 p)).setCell ⟨w.heap.size + 1, 1, none⟩ v) w.heap.size v ws ∧ Below w.heap.size w ((wr.setCell ⟨w.heap.size + 1, 0, none⟩ (.int .i64 p)).setCell ⟨w.heap.size + 1, 1, none⟩ v) := by
  have hr1 := heap_setCell_same wr (w.heap.size + 1) 0 _ _ (.int .i64 p) h.r
  have hr2 := heap_setCell_same _ (w.heap.size + 1) 1 _ _ v hr1
  have hK : Kp wr ((wr.setCell ⟨w.heap.size + 1, 0, none⟩ (.int .i64 p)).setCell ⟨w.heap.size + 1, 1, none⟩ v) (fun k => k = w.heap.size + 1) := (Kp.setCell wr ⟨w.heap.size + 1, 0, none⟩ _ (S := fun k => k = w.heap.size + 1) rfl).trans (Kp.setCell _ ⟨w.heap.size + 1, 1, none⟩ _ (S := fun k => k = w.heap.size + 1) rfl)
  have n1 := own_type_ne h.own h.r (by decide)
  exact ⟨hr2, (h.own.kp hK (fun k e h => n1 (by rw [e, h]))).lower (by omega), Kp.below h.below h.below.size hK (fun k e => by omega)⟩

set_option maxRecDepth 100000 in
set_option maxHeartbeats 1500000 in
theorem shuffled_any (p : Int) (ws : List Wk) (v : Value) (at_ : List Int) (av : Value) (w : World) (hV : Valid ⟨p, ws⟩) (hr : RdL 3 encW w v ws) (ha : RdL 1 (fun n => [.int .u16 n]) w av at_) (hal : at_.length ≤ 100) (ha0 : ∀ (i : Nat) (x : Int), at_[i]? = some x → 0 ≤ x ∧ x < 65536) :
    Calls Tryd.prog 6 #[.agg #[.int .i64 p, v], av] w fun e w' => ∃ v2 ws2, e = .returned (.agg #[.int .i64 p, v2]) ∧ Shuf ws ws2 ∧ OwnW w' w.heap.size v2 ws2 ∧ Below w.heap.size w w' := by
  obtain ⟨a, c, rfl, hlen, hc⟩ := hr.slice
  obtain ⟨aa, ac, rfl, halen, hac⟩ := ha.slice
  have HC := Lib.hid hc
  have HA := Lib.hid hac
  have HV := Lib.hid hV
  have HA0 := Lib.hid ha0
  have hwl := hV.len
  dsimp only at hwl
  have hs1 := heap_alloc2_old w (.cells #[.int .i64 p, .slice a ws.length c] 24) (.cells #[.int .i64 0, .slice none 0 0] 24)
  have hs2 := heap_alloc2_new w (.cells #[.int .i64 p, .slice a ws.length c] 24) (.cells #[.int .i64 0, .slice none 0 0] 24)
  have hsz : ((w.alloc (.cells #[.int .i64 p, .slice a ws.length c] 24)).alloc (.cells #[.int .i64 0, .slice none 0 0] 24)).heap.size = w.heap.size + 2 := by simp
  have hb0 : Below w.heap.size w ((w.alloc (.cells #[.int .i64 p, .slice a ws.length c] 24)).alloc (.cells #[.int .i64 0, .slice none 0 0] 24)) := ((Below.refl _ _).alloc (Nat.le_refl _) _).alloc (by simp) _
  clear hc hac hV ha0 hr ha hlen halen
  go_enter Tryd.func6, Tryd.ntmps6
  go_wp2_with fail
  generalize ((w.alloc (.cells #[.int .i64 p, .slice a ws.length c] 24)).alloc (.cells #[.int .i64 0, .slice none 0 0] 24)) = w1 at hs1 hs2 hsz hb0 ⊢
  have hS : ∀ W', Below w1.heap.size w1.drew W' → W'.cell? ⟨w.heap.size, 0, none⟩ = some (.int .i64 p) ∧ W'.cell? ⟨w.heap.size, 1, none⟩ = some (.slice a ws.length c) := fun W' hb => by
    have h : W'.heap[w.heap.size]? = some (.cells #[.int .i64 p, .slice a ws.length c] 24 (0, 0)) := (hb.block _ (by omega)).trans hs1
    exact ⟨by rw [cell_of_row _ _ 0 _ _ _ h]; rfl, by rw [cell_of_row _ _ 1 _ _ _ h]; rfl⟩
  have hbw : Below w.heap.size w w1.drew := hb0.drew
  have hde : w1.drew.heap.size = w1.heap.size := rfl
  have hcw : RdA 3 encW w1.drew a ws := HC.out.later hbw
  have b0 : Below w1.heap.size w1.drew w1.drew := Below.refl _ _
  have bE : Below w1.heap.size w1.drew (w1.drew.alloc (.cells #[] 60)) := b0.alloc (Nat.le_refl _) _
  have bZ : Below w1.heap.size w1.drew (w1.drew.alloc (.cells #[.int .i64 0, .slice none 0 0] 24)) := b0.alloc (Nat.le_refl _) _
  have bEZ : Below w1.heap.size w1.drew ((w1.drew.alloc (.cells #[] 60)).alloc (.cells #[.int .i64 0, .slice none 0 0] 24)) := bE.alloc bE.size _
  have bZE : Below w1.heap.size w1.drew ((w1.drew.alloc (.cells #[.int .i64 0, .slice none 0 0] 24)).alloc (.cells #[] 60)) := bZ.alloc bZ.size _
  obtain ⟨vA, wA, hrA, hoA, hgA⟩ := app_copy (w1.drew.alloc (.cells #[] 60)) w1.heap.size (w.heap.size + 2) a c ws (World.alloc_heap_new _ _) (hcw.later bE) hwl (by omega) (by rw [← hsz]; exact bE.size)
  obtain ⟨vB, wB, hrB, hoB, hgB⟩ := app_copy ((w1.drew.alloc (.cells #[] 60)).alloc (.cells #[.int .i64 0, .slice none 0 0] 24)) w1.heap.size (w.heap.size + 2) a c ws (heap_alloc2_old w1.drew _ _) (hcw.later bEZ) hwl (by omega) (by rw [← hsz]; exact bEZ.size)
  obtain ⟨vC, wC, hrC, hoC, hgC⟩ := app_copy ((w1.drew.alloc (.cells #[.int .i64 0, .slice none 0 0] 24)).alloc (.cells #[] 60)) (w1.heap.size + 1) (w.heap.size + 2) a c ws (heap_alloc2_new w1.drew _ _) (hcw.later bZE) hwl (by omega) (by rw [← hsz]; exact bZE.size)
  obtain ⟨sA, cA, rfl, -⟩ := hoA.slice
  have bA : Below w1.heap.size w1.drew wA := bE.grown hgA bE.size (fun k e => by injection e with e; omega)
  obtain ⟨sB, cB, rfl, -⟩ := hoB.slice
  have bB : Below w1.heap.size w1.drew wB := bEZ.grown hgB bEZ.size (fun k e => by injection e with e; omega)
  obtain ⟨sC, cC, rfl, -⟩ := hoC.slice
  have bC : Below w1.heap.size w1.drew wC := bZE.grown hgC bZE.size (fun k e => by injection e with e; omega)
  have bAZ : Below w1.heap.size w1.drew (wA.alloc (.cells #[.int .i64 0, .slice none 0 0] 24)) := bA.alloc bA.size _
  have pA : OwnW (wA.alloc (.cells #[.int .i64 0, .slice none 0 0] 24)) (w.heap.size + 2) (.slice sA ws.length cA) ws ∧ (wA.alloc (.cells #[.int .i64 0, .slice none 0 0] 24)).heap[wA.heap.size]? = some (.cells #[.int .i64 0, .slice none 0 0] 24 (0, 0)) ∧ Below w1.heap.size w1.drew (wA.alloc (.cells #[.int .i64 0, .slice none 0 0] 24)) ∧ w1.heap.size ≤ wA.heap.size := ⟨hoA.alloc _, World.alloc_heap_new _ _, bAZ, bA.size⟩
  have pB : OwnW wB (w.heap.size + 2) (.slice sB ws.length cB) ws ∧ wB.heap[w1.heap.size + 1]? = some (.cells #[.int .i64 0, .slice none 0 0] 24 (0, 0)) ∧ Below w1.heap.size w1.drew wB ∧ w1.heap.size ≤ w1.heap.size + 1 := ⟨hoB, (hgB.block _ (Array.getElem?_eq_some_iff.1 (heap_alloc2_new w1.drew _ _)).1 (fun e => by injection e with e; omega)).trans (heap_alloc2_new w1.drew _ _), bB, by omega⟩
  have pC : OwnW wC (w.heap.size + 2) (.slice sC ws.length cC) ws ∧ wC.heap[w1.heap.size]? = some (.cells #[.int .i64 0, .slice none 0 0] 24 (0, 0)) ∧ Below w1.heap.size w1.drew wC ∧ w1.heap.size ≤ w1.heap.size := ⟨hoC, (hgC.block _ (Array.getElem?_eq_some_iff.1 (heap_alloc2_old w1.drew _ _)).1 (fun e => by injection e with e; omega)).trans (heap_alloc2_old w1.drew _ _), bC, by omega⟩
  have hS0 := hS _ b0
  have hSE := hS _ bE
  have hSZ := hS _ bZ
  have hSEZ := hS _ bEZ
  have hSZE := hS _ bZE
  have hSA := hS _ bA
  have hSB := hS _ bB
  have hSC := hS _ bC
  have hSAZ := hS _ bAZ
  have HSZ := Lib.hid hsz
  have HS2 := Lib.hid hs2
  clear hsz hde hS hs1 hs2
  refine start_ (n := 9) (S := fun w' => w'.cell? ⟨w.heap.size, 0, none⟩ = some (.int .i64 p) ∧ w'.cell? ⟨w.heap.size, 1, none⟩ = some (.slice a ws.length c)) (ds := [8]) #[false, false, false, false, false, false, false, false, false] (by kernel_rfl) rfl rfl ⟨hS0.1, hS0.2⟩ (fun hHeld => ?_)
  refine pure_ (i := 0) (N := some 8) (v := ?_) (a' := ?_) #[true, false, false, false, false, false, false, false, false] rfl rfl (by kernel_rfl) (fun _ _ _ h => h) (Or.inl ⟨by rfl, ?_⟩) ?_ ?_
  rotate_left
  · intro w'
    go_simp
    with_reducible rfl
  rotate_left
  · simp only [Act.put, List.setIfInBounds_toArray, List.set_cons_zero, List.set_cons_succ, i64_w, i32_w]
    rfl
  refine pure_ (i := 3) (N := some 11) (v := ?_) (a' := ?_) #[true, false, false, true, false, false, false, false, false] rfl rfl (by kernel_rfl) (fun _ _ _ h => h) (Or.inl ⟨by rfl, ?_⟩) ?_ ?_
  rotate_left
  · intro w'
    go_simp
    with_reducible rfl
  rotate_left
  · simp only [Act.put, List.setIfInBounds_toArray, List.set_cons_zero, List.set_cons_succ, i64_w, i32_w]
    rfl
  refine take_ (i := 1) (N := some 9) (v := ?_) (a' := ?_) #[true, true, false, true, false, false, false, false, false] rfl rfl (by kernel_rfl) (fun _ _ _ h => h) (Or.inl ⟨by rfl, ?_⟩) hHeld ?_ ?_
  rotate_left
  · rintro w' ⟨s0, s1⟩
    go_simp
    with_reducible rfl
  rotate_left
  · simp only [Act.put, List.setIfInBounds_toArray, List.set_cons_zero, List.set_cons_succ, i64_w, i32_w]
    rfl
  refine take_ (i := 4) (N := some 12) (v := ?_) (a' := ?_) #[true, true, false, true, true, false, false, false, false] rfl rfl (by kernel_rfl) (fun _ _ _ h => h) (Or.inl ⟨by rfl, ?_⟩) hHeld ?_ ?_
  rotate_left
  · rintro w' ⟨s0, s1⟩
    go_simp
    with_reducible rfl
  rotate_left
  · simp only [Act.put, List.setIfInBounds_toArray, List.set_cons_zero, List.set_cons_succ, i64_w, i32_w]
    rfl
  refine join_ (σ := Value × Value × Nat) 1 #[true, true, true, true, true, true, true, true, false] (fun s => [(10, s.1), (13, s.2.1), (14, .agg #[.int .i64 p, s.2.1]), (5, .pointer (some ⟨s.2.2, 0, none⟩))]) (fun s w' => (w'.cell? ⟨w.heap.size, 0, none⟩ = some (.int .i64 p) ∧ w'.cell? ⟨w.heap.size, 1, none⟩ = some (.slice a ws.length c)) ∧ OwnW w' (w.heap.size + 2) s.2.1 ws ∧ w'.heap[s.2.2]? = some (.cells #[.int .i64 0, .slice none 0 0] 24 (0, 0)) ∧ Below w1.heap.size w1.drew w' ∧ w1.heap.size ≤ s.2.2) ?_ ?_
  rotate_left
  · intro hCont
    refine two_ (i := 2) (j := 7) (Ni := some 10) (Nj := some 5) #[true, true, true, true, true, false, false, false, false] #[true, true, false, true, true, false, false, true, false] rfl rfl rfl rfl (by kernel_rfl) (by decide) (by decide) (fun K hK => ?_) (fun K hK => ?_)
    · skip
      refine value_ (w1 := ?_) (v := ?_) (by rfl) rfl ?_ ?_
      rotate_left 2
      · go_simp
        constructor
        · rfl
        · rfl
      refine hK.out _ _ ⟨hSE.1, hSE.2⟩ (fun hHeld => ?_)
      clear hK K
      refine norm_ (a' := ?_) ?_ ?_
      rotate_left
      · show Act.put _ (some 10) _ = _
        simp only [Act.put, List.setIfInBounds_toArray, List.set_cons_zero, List.set_cons_succ, i64_w, i32_w]
        rfl
      refine two_ (i := 5) (j := 7) (Ni := some 13) (Nj := some 5) #[true, true, true, true, true, true, false, false, false] #[true, true, true, true, true, false, false, true, false] rfl rfl rfl rfl (by kernel_rfl) (by decide) (by decide) (fun K hK => ?_) (fun K hK => ?_)
      · skip
        refine value_ (w1 := wA) (v := .slice sA ws.length cA) (by rfl) rfl (exec_append (t := 22) (u := .slice (some ⟨w1.heap.size, 0, none⟩) 0 0) (v := .slice a ws.length c) rfl (by rfl) (by rfl) hrA) ?_
        refine hK.out _ _ ⟨hSA.1, hSA.2⟩ (fun hHeld => ?_)
        clear hK K
        refine norm_ (a' := ?_) ?_ ?_
        rotate_left
        · show Act.put _ (some 13) _ = _
          simp only [Act.put, List.setIfInBounds_toArray, List.set_cons_zero, List.set_cons_succ, i64_w, i32_w]
          rfl
        refine pure_ (i := 6) (N := some 14) (v := ?_) (a' := ?_) #[true, true, true, true, true, true, true, false, false] rfl rfl (by kernel_rfl) (fun _ _ _ h => h) (Or.inl ⟨by rfl, ?_⟩) ?_ ?_
        rotate_left
        · intro w'
          go_simp
          with_reducible rfl
        rotate_left
        · simp only [Act.put, List.setIfInBounds_toArray, List.set_cons_zero, List.set_cons_succ, i64_w, i32_w]
          rfl
        refine one_ (i := 7) (N := some 5) #[true, true, true, true, true, true, true, true, false] rfl rfl (by kernel_rfl) (by decide) (fun K hK => ?_)
        refine value_ (w1 := ?_) (v := ?_) (by rfl) rfl ?_ ?_
        rotate_left 2
        · go_simp
          constructor
          · rfl
          · rfl
        refine hK.out _ _ ⟨hSAZ.1, hSAZ.2⟩ (fun hHeld => ?_)
        clear hK K
        refine norm_ (a' := ?_) ?_ ?_
        rotate_left
        · show Act.put _ (some 5) _ = _
          simp only [Act.put, List.setIfInBounds_toArray, List.set_cons_zero, List.set_cons_succ, i64_w, i32_w]
          rfl
        exact norm_ (by simp only [putAll, Act.put, List.setIfInBounds_toArray, List.set_cons_zero, List.set_cons_succ]) (hCont ⟨.slice (some ⟨w1.heap.size, 0, none⟩) 0 0, (.slice sA ws.length cA), wA.heap.size⟩ _ ⟨hSAZ, pA⟩)
      · skip
        refine value_ (w1 := ?_) (v := ?_) (by rfl) rfl ?_ ?_
        rotate_left 2
        · go_simp
          constructor
          · rfl
          · rfl
        refine hK.out _ _ ⟨hSEZ.1, hSEZ.2⟩ (fun hHeld => ?_)
        clear hK K
        refine norm_ (a' := ?_) ?_ ?_
        rotate_left
        · show Act.put _ (some 5) _ = _
          simp only [Act.put, List.setIfInBounds_toArray, List.set_cons_zero, List.set_cons_succ, i64_w, i32_w]
          rfl
        refine one_ (i := 5) (N := some 13) #[true, true, true, true, true, true, false, true, false] rfl rfl (by kernel_rfl) (by decide) (fun K hK => ?_)
        refine value_ (w1 := wB) (v := .slice sB ws.length cB) (by rfl) rfl (exec_append (t := 22) (u := .slice (some ⟨w1.heap.size, 0, none⟩) 0 0) (v := .slice a ws.length c) rfl (by rfl) (by rfl) hrB) ?_
        refine hK.out _ _ ⟨hSB.1, hSB.2⟩ (fun hHeld => ?_)
        clear hK K
        refine norm_ (a' := ?_) ?_ ?_
        rotate_left
        · show Act.put _ (some 13) _ = _
          simp only [Act.put, List.setIfInBounds_toArray, List.set_cons_zero, List.set_cons_succ, i64_w, i32_w]
          rfl
        refine pure_ (i := 6) (N := some 14) (v := ?_) (a' := ?_) #[true, true, true, true, true, true, true, true, false] rfl rfl (by kernel_rfl) (fun _ _ _ h => h) (Or.inl ⟨by rfl, ?_⟩) ?_ ?_
        rotate_left
        · intro w'
          go_simp
          with_reducible rfl
        rotate_left
        · simp only [Act.put, List.setIfInBounds_toArray, List.set_cons_zero, List.set_cons_succ, i64_w, i32_w]
          rfl
        exact norm_ (by simp only [putAll, Act.put, List.setIfInBounds_toArray, List.set_cons_zero, List.set_cons_succ]) (hCont ⟨.slice (some ⟨w1.heap.size, 0, none⟩) 0 0, .slice sB ws.length cB, w1.heap.size + 1⟩ _ ⟨hSB, pB⟩)
    · skip
      refine value_ (w1 := ?_) (v := ?_) (by rfl) rfl ?_ ?_
      rotate_left 2
      · go_simp
        constructor
        · rfl
        · rfl
      refine hK.out _ _ ⟨hSZ.1, hSZ.2⟩ (fun hHeld => ?_)
      clear hK K
      refine norm_ (a' := ?_) ?_ ?_
      rotate_left
      · show Act.put _ (some 5) _ = _
        simp only [Act.put, List.setIfInBounds_toArray, List.set_cons_zero, List.set_cons_succ, i64_w, i32_w]
        rfl
      refine one_ (i := 2) (N := some 10) #[true, true, true, true, true, false, false, true, false] rfl rfl (by kernel_rfl) (by decide) (fun K hK => ?_)
      refine value_ (w1 := ?_) (v := ?_) (by rfl) rfl ?_ ?_
      rotate_left 2
      · go_simp
        constructor
        · rfl
        · rfl
      refine hK.out _ _ ⟨hSZE.1, hSZE.2⟩ (fun hHeld => ?_)
      clear hK K
      refine norm_ (a' := ?_) ?_ ?_
      rotate_left
      · show Act.put _ (some 10) _ = _
        simp only [Act.put, List.setIfInBounds_toArray, List.set_cons_zero, List.set_cons_succ, i64_w, i32_w]
        rfl
      refine one_ (i := 5) (N := some 13) #[true, true, true, true, true, true, false, true, false] rfl rfl (by kernel_rfl) (by decide) (fun K hK => ?_)
      refine value_ (w1 := wC) (v := .slice sC ws.length cC) (by rfl) rfl (exec_append (t := 22) (u := .slice (some ⟨w1.heap.size + 1, 0, none⟩) 0 0) (v := .slice a ws.length c) rfl (by rfl) (by rfl) hrC) ?_
      refine hK.out _ _ ⟨hSC.1, hSC.2⟩ (fun hHeld => ?_)
      clear hK K
      refine norm_ (a' := ?_) ?_ ?_
      rotate_left
      · show Act.put _ (some 13) _ = _
        simp only [Act.put, List.setIfInBounds_toArray, List.set_cons_zero, List.set_cons_succ, i64_w, i32_w]
        rfl
      refine pure_ (i := 6) (N := some 14) (v := ?_) (a' := ?_) #[true, true, true, true, true, true, true, true, false] rfl rfl (by kernel_rfl) (fun _ _ _ h => h) (Or.inl ⟨by rfl, ?_⟩) ?_ ?_
      rotate_left
      · intro w'
        go_simp
        with_reducible rfl
      rotate_left
      · simp only [Act.put, List.setIfInBounds_toArray, List.set_cons_zero, List.set_cons_succ, i64_w, i32_w]
        rfl
      exact norm_ (by simp only [putAll, Act.put, List.setIfInBounds_toArray, List.set_cons_zero, List.set_cons_succ]) (hCont ⟨.slice (some ⟨w1.heap.size + 1, 0, none⟩) 0 0, .slice sC ws.length cC, w1.heap.size⟩ _ ⟨hSC, pC⟩)
  clear hSE hSZ hSEZ hSZE hSA hSB hSC hSAZ pA pB pC bA bB bC bAZ bE bZ bEZ bZE hrA hrB hrC hoA hoB hoC hgA hgB hgC hHeld
  rintro ⟨v10, v13, b5⟩ w2 ⟨hHeld, hown, hrow, hbel, hge⟩
  dsimp only at hown hrow hge
  obtain ⟨s13, c13, rfl, -⟩ := hown.slice
  have hcb0 : w2.cell? ⟨b5, 0, none⟩ = some (.int .i64 0) := by rw [cell_of_row _ _ 0 _ _ _ hrow]; rfl
  have hcb1 : w2.cell? ⟨b5, 1, none⟩ = some (.slice none 0 0) := by rw [cell_of_row _ _ 1 _ _ _ hrow]; rfl
  have hfb0 := frozen_of_row w2 b5 0 _ _ hrow
  have hfb1 := frozen_of_row w2 b5 1 _ _ hrow
  refine norm_ (a' := ?_) ?_ ?_
  rotate_left
  · simp only [putAll, Act.put, List.setIfInBounds_toArray, List.set_cons_zero, List.set_cons_succ]
    rfl
  refine last_ (i := 8) (N := none) #[true, true, true, true, true, true, true, true, true] rfl rfl (by kernel_rfl) (by decide) (fun K hK => ?_)
  refine skip_ (w1 := ?_) (by rfl) rfl ?_ ?_
  rotate_left
  · go_simp
    rfl
  refine hK.out _ _ ?_
  clear hK K
  refine done_ (by kernel_rfl) ?_
  have hq0 : ShQ w ((w2.setCell ⟨b5, 0, none⟩ (.int .i64 p)).setCell ⟨b5, 1, none⟩ (.slice s13 ws.length c13)) p b5 (.slice s13 ws.length c13) ws := by
    have hr1 := heap_setCell_same w2 b5 0 _ _ (.int .i64 p) hrow
    have hr2 := heap_setCell_same _ b5 1 _ _ (.slice s13 ws.length c13) hr1
    have hK : Kp w2 ((w2.setCell ⟨b5, 0, none⟩ (.int .i64 p)).setCell ⟨b5, 1, none⟩ (.slice s13 ws.length c13)) (fun k => k = b5) := (Kp.setCell w2 ⟨b5, 0, none⟩ _ (S := fun k => k = b5) rfl).trans (Kp.setCell _ ⟨b5, 1, none⟩ _ (S := fun k => k = b5) rfl)
    have n1 := own_type_ne hown hrow (by decide)
    have hsz := HSZ.out
    have hs2 := (hbel.block _ (by omega)).trans HS2.out
    exact ⟨hr2, hown.kp hK (fun k e h => n1 (by rw [e, h])), (hK.block _ (Array.getElem?_eq_some_iff.1 hs2).1 (by omega)).trans hs2, Kp.below (hbw.trans (hbel.mono (by omega))) (Nat.le_trans (by omega : w.heap.size ≤ w1.heap.size) hbel.size) hK (fun k e => by omega), by omega⟩
  have HQ0 := Lib.hid hq0
  have HB5 : Hid (w.heap.size + 2 ≤ b5) := hq0.ge
  clear hq0 hcb0 hcb1 hfb0 hfb1 hHeld hS0 hown hrow hbel hge hbw hcw b0 hb0 HS2 HSZ HC
  generalize ((w2.setCell ⟨b5, 0, none⟩ (.int .i64 p)).setCell ⟨b5, 1, none⟩ (.slice s13 ws.length c13)) = w3 at HQ0 ⊢
  go_wp2_with fail
  go_loopw [6, 7] (fun i q wr => ∃ (k : Nat) (ws2 : List Wk), k ≤ at_.length ∧ i = .int .i64 k ∧ Hid (Shuf ws ws2) ∧ ShQ w wr p b5 (.slice s13 ws.length c13) ws2) (fun i _ _ => at_.length - (intOf i).toNat)
  case atStart => exact ⟨0, ws, Nat.zero_le _, rfl, .refl, HQ0.out⟩
  case round =>
    clear HQ0
    obtain ⟨k, ws2, hk, rfl, HSH, hQ⟩ := hrel
    have hk1 : (k : Int) ≤ 100 := by omega
    have hk0 : (0 : Int) ≤ k := by omega
    have hw64 : wrap64 ((k : Int) + 1) = (k : Int) + 1 := w64_succ k (by omega)
    have hcS : wr.cell? ⟨b5, 1, none⟩ = some (.slice s13 ws.length c13) := by rw [cell_of_row _ _ 1 _ _ _ hQ.t]; rfl
    by_cases hlt : k < at_.length
    · have hl2 : decide ((k : Int) < (at_.length : Int)) = true := by simp; omega
      by_cases hws : 1 < ws.length
      · have hw2 : decide ((1 : Int) < (ws.length : Int)) = true := by simp; omega
        obtain ⟨ab, aoff, rfl, hablt, hacell⟩ := HA.out k at_[k] (List.getElem?_eq_getElem hlt)
        have hx := HA0.out k at_[k] (List.getElem?_eq_getElem hlt)
        have hax := (hQ.below.cell (p := ⟨ab, aoff + k * 1 + 0, none⟩) hablt).trans (hacell 0 _ rfl)
        rw [show aoff + k * 1 + 0 = aoff + k by omega] at hax
        generalize at_[k] = x at hx hax
        have hablt2 : ab < wr.heap.size := Nat.lt_of_lt_of_le hablt hQ.below.size
        obtain ⟨hx0, hx1⟩ := hx
        obtain ⟨q, hmod, hq1⟩ := tmod_facts x ws.length hws hx0
        have hl22 := HSH.out.len
        obtain ⟨X, Y, ys, zs, hsp, hysl⟩ := split_at ws2 q (by rw [hl22]; exact hq1)
        subst hsp
        have hXg := (split_get X Y ys zs).1
        have hYg := (split_get X Y ys zs).2
        rw [hysl] at hXg hYg
        obtain ⟨g, c', he, _, hcX⟩ := OwnL.cell hQ.own encW_len q X hXg
        obtain ⟨g2, c2', he2, _, hcY⟩ := OwnL.cell hQ.own encW_len (q + 1) Y hYg
        have hXV : ValidW p X := HSH.out.all (ValidW p) (fun z hz => by obtain ⟨i, hi⟩ := List.mem_iff_getElem?.1 hz; exact HV.out.all i z hi) X (List.mem_of_getElem? hXg)
        have hYV : ValidW p Y := HSH.out.all (ValidW p) (fun z hz => by obtain ⟨i, hi⟩ := List.mem_iff_getElem?.1 hz; exact HV.out.all i z hi) Y (List.mem_of_getElem? hYg)
        have hp24 := HV.out.hi
        dsimp only at hp24
        injection he with he z1 z2
        injection he2 with he2 z3 z4
        subst he
        injection he2 with he2
        injection he2 with he2 z5 z6
        subst he2
        clear z1 z2 z3 z4 z5 z6
        have HYS := Lib.hid hysl
        have HTC := Lib.hid (fun W => touch_any X Y hXV.lo (by have := hXV.hi; omega) hYV.lo (by have := hYV.hi; omega) W)
        have hx0c := hcX 0 _ rfl
        have hx1c := hcX 1 _ rfl
        have hx2c := hcX 2 _ rfl
        have hy0c := hcY 0 _ rfl
        have hy1c := hcY 1 _ rfl
        have hy2c := hcY 2 _ rfl
        rw [Nat.add_zero] at hx0c hy0c
        have hgl : g < wr.heap.size := (hQ.own.lt g rfl).2
        have HQ := Lib.hid hQ
        clear hacell hQ hablt hcX hcY hXV hYV hysl hl22 hXg hYg hp24
        go_wp2_with fail
        have hcSd : wr.drew.cell? ⟨b5, 1, none⟩ = some (.slice (some ⟨g, 0, none⟩) ws.length c13) := hcS
        have haxd : wr.drew.cell? ⟨ab, aoff + k, none⟩ = some (.int .u16 x) := hax
        obtain ⟨hwx, hwxi⟩ := xfacts x hx0 hx1
        obtain ⟨hws64, hwsi, hwn0⟩ := lenfacts ws.length hws hwl
        refine start_ (n := 11) (S := fun w' => w'.cell? ⟨b5, 1, none⟩ = some (.slice (some ⟨g, 0, none⟩) ws.length c13) ∧ w'.cell? ⟨ab, aoff + k, none⟩ = some (.int .u16 x)) (ds := []) #[false, false, false, false, false, false, false, false, false, false, false] (by kernel_rfl) rfl rfl ⟨hcSd, haxd⟩ (fun hHeld => ?_)
        refine pure_ (i := 0) (N := some 27) (v := ?_) (a' := ?_) #[true, false, false, false, false, false, false, false, false, false, false] rfl rfl (by kernel_rfl) (fun _ _ _ h => h) (Or.inl ⟨by rfl, ?_⟩) ?_ ?_
        rotate_left
        · intro w'
          go_simp
          with_reducible rfl
        rotate_left
        · simp only [Act.put, List.setIfInBounds_toArray, List.set_cons_zero, List.set_cons_succ, i64_w, i32_w]
          rfl
        refine pure_ (i := 1) (N := some 28) (v := ?_) (a' := ?_) #[true, true, false, false, false, false, false, false, false, false, false] rfl rfl (by kernel_rfl) (fun _ _ _ h => h) (Or.inl ⟨by rfl, ?_⟩) ?_ ?_
        rotate_left
        · intro w'
          go_simp
          with_reducible rfl
        rotate_left
        · simp only [Act.put, List.setIfInBounds_toArray, List.set_cons_zero, List.set_cons_succ, i64_w, i32_w]
          rfl
        refine pure_ (i := 2) (N := some 29) (v := ?_) (a' := ?_) #[true, true, true, false, false, false, false, false, false, false, false] rfl rfl (by kernel_rfl) (fun _ _ _ h => h) (Or.inl ⟨by rfl, ?_⟩) ?_ ?_
        rotate_left
        · intro w'
          go_simp
          with_reducible rfl
        rotate_left
        · simp only [Act.put, List.setIfInBounds_toArray, List.set_cons_zero, List.set_cons_succ, i64_w, i32_w]
          rfl
        refine pure_ (i := 5) (N := some 32) (v := ?_) (a' := ?_) #[true, true, true, false, false, true, false, false, false, false, false] rfl rfl (by kernel_rfl) (fun _ _ _ h => h) (Or.inl ⟨by rfl, ?_⟩) ?_ ?_
        rotate_left
        · intro w'
          go_simp
          with_reducible rfl
        rotate_left
        · simp only [Act.put, List.setIfInBounds_toArray, List.set_cons_zero, List.set_cons_succ, i64_w, i32_w]
          rfl
        refine take_ (i := 3) (N := some 30) (v := ?_) (a' := ?_) #[true, true, true, true, false, true, false, false, false, false, false] rfl rfl (by kernel_rfl) (fun _ _ _ h => h) (Or.inl ⟨by rfl, ?_⟩) hHeld ?_ ?_
        rotate_left
        · rintro w' ⟨s0, s1⟩
          go_simp
          with_reducible rfl
        rotate_left
        · simp only [Act.put, List.setIfInBounds_toArray, List.set_cons_zero, List.set_cons_succ, i64_w, i32_w]
          rfl
        refine pure_ (i := 4) (N := some 31) (v := ?_) (a' := ?_) #[true, true, true, true, true, true, false, false, false, false, false] rfl rfl (by kernel_rfl) (fun _ _ _ h => h) (Or.inl ⟨by rfl, ?_⟩) ?_ ?_
        rotate_left
        · intro w'
          go_simp
          with_reducible rfl
        rotate_left
        · simp only [Act.put, List.setIfInBounds_toArray, List.set_cons_zero, List.set_cons_succ, i64_w, i32_w]
          rfl
        refine take_ (i := 6) (N := some 33) (v := ?_) (a' := ?_) #[true, true, true, true, true, true, true, false, false, false, false] rfl rfl (by kernel_rfl) (fun _ _ _ h => h) (Or.inl ⟨by rfl, ?_⟩) hHeld ?_ ?_
        rotate_left
        · rintro w' ⟨s0, s1⟩
          go_simp
          with_reducible rfl
        rotate_left
        · simp only [Act.put, List.setIfInBounds_toArray, List.set_cons_zero, List.set_cons_succ, i64_w, i32_w]
          rfl
        refine pure_ (i := 7) (N := some 34) (v := ?_) (a' := ?_) #[true, true, true, true, true, true, true, true, false, false, false] rfl rfl (by kernel_rfl) (fun _ _ _ h => h) (Or.inl ⟨by rfl, ?_⟩) ?_ ?_
        rotate_left
        · intro w'
          go_simp
          with_reducible rfl
        rotate_left
        · simp only [Act.put, List.setIfInBounds_toArray, List.set_cons_zero, List.set_cons_succ, i64_w, i32_w]
          rfl
        refine pure_ (i := 8) (N := some 35) (v := ?_) (a' := ?_) #[true, true, true, true, true, true, true, true, true, false, false] rfl rfl (by kernel_rfl) (fun _ _ _ h => h) (Or.inl ⟨by rfl, ?_⟩) ?_ ?_
        rotate_left
        · intro w'
          go_simp
          with_reducible rfl
        rotate_left
        · simp only [Act.put, List.setIfInBounds_toArray, List.set_cons_zero, List.set_cons_succ, i64_w, i32_w]
          rfl
        refine pure_ (i := 9) (N := some 36) (v := ?_) (a' := ?_) #[true, true, true, true, true, true, true, true, true, true, false] rfl rfl (by kernel_rfl) (fun _ _ _ h => h) (Or.inl ⟨by rfl, ?_⟩) ?_ ?_
        rotate_left
        · intro w'
          go_simp
          with_reducible rfl
        rotate_left
        · simp only [Act.put, List.setIfInBounds_toArray, List.set_cons_zero, List.set_cons_succ, i64_w, i32_w]
          rfl
        refine pure_ (i := 10) (N := some 7) (v := ?_) (a' := ?_) #[true, true, true, true, true, true, true, true, true, true, true] rfl rfl (by kernel_rfl) (fun _ _ _ h => h) (Or.inl ⟨by rfl, ?_⟩) ?_ ?_
        rotate_left
        · intro w'
          go_simp
          with_reducible rfl
        rotate_left
        · simp only [Act.put, List.setIfInBounds_toArray, List.set_cons_zero, List.set_cons_succ, i64_w, i32_w]
          rfl
        refine done_ (by kernel_rfl) ?_
        have HQ2 : Hid (ShQ w wr.drew p b5 (.slice (some ⟨g, 0, none⟩) ws.length c13) (ys ++ X :: Y :: zs)) := HQ.out.later (Below.refl _ _).drew
        have hx0d : wr.drew.drew.cell? ⟨g, q * 3, none⟩ = _ := hx0c
        have hx1d : wr.drew.drew.cell? ⟨g, q * 3 + 1, none⟩ = _ := hx1c
        have hx2d : wr.drew.drew.cell? ⟨g, q * 3 + 2, none⟩ = _ := hx2c
        have hy0d : wr.drew.drew.cell? ⟨g, (q + 1) * 3, none⟩ = _ := hy0c
        have hy1d : wr.drew.drew.cell? ⟨g, (q + 1) * 3 + 1, none⟩ = _ := hy1c
        have hy2d : wr.drew.drew.cell? ⟨g, (q + 1) * 3 + 2, none⟩ = _ := hy2c
        have hcSdd : wr.drew.drew.cell? ⟨b5, 1, none⟩ = some (.slice (some ⟨g, 0, none⟩) ws.length c13) := hcS
        clear hwx hwxi hws64 hwsi hwn0 hmod hHeld haxd hcSd hax hx0c hx1c hx2c hy0c hy1c hy2c
        obtain ⟨hq64, hqz, hqz0, hqn, hql, hql1⟩ := qfacts q ws.length hq1 hwl
        go_wp2_with fail
        refine start_ (n := 13) (S := fun w' => w'.cell? ⟨b5, 1, none⟩ = some (.slice (some ⟨g, 0, none⟩) ws.length c13) ∧ w'.cell? ⟨g, q * 3, none⟩ = some (.int .i64 X.kind) ∧ w'.cell? ⟨g, q * 3 + 1, none⟩ = some (.int .i64 X.at_) ∧ w'.cell? ⟨g, q * 3 + 2, none⟩ = some (.string X.word) ∧ w'.cell? ⟨g, (q + 1) * 3, none⟩ = some (.int .i64 Y.kind) ∧ w'.cell? ⟨g, (q + 1) * 3 + 1, none⟩ = some (.int .i64 Y.at_) ∧ w'.cell? ⟨g, (q + 1) * 3 + 2, none⟩ = some (.string Y.word)) (ds := []) #[false, false, false, false, false, false, false, false, false, false, false, false, false] (by kernel_rfl) rfl rfl ⟨hcSdd, hx0d, hx1d, hx2d, hy0d, hy1d, hy2d⟩ (fun hHeld => ?_)
        refine pure_ (i := 0) (N := some 37) (v := ?_) (a' := ?_) #[true, false, false, false, false, false, false, false, false, false, false, false, false] rfl rfl (by kernel_rfl) (fun _ _ _ h => h) (Or.inl ⟨by rfl, ?_⟩) ?_ ?_
        rotate_left
        · intro w'
          go_simp
          with_reducible rfl
        rotate_left
        · simp only [Act.put, List.setIfInBounds_toArray, List.set_cons_zero, List.set_cons_succ, i64_w, i32_w]
          rfl
        refine pure_ (i := 2) (N := some 39) (v := ?_) (a' := ?_) #[true, false, true, false, false, false, false, false, false, false, false, false, false] rfl rfl (by kernel_rfl) (fun _ _ _ h => h) (Or.inl ⟨by rfl, ?_⟩) ?_ ?_
        rotate_left
        · intro w'
          go_simp
          with_reducible rfl
        rotate_left
        · simp only [Act.put, List.setIfInBounds_toArray, List.set_cons_zero, List.set_cons_succ, i64_w, i32_w]
          rfl
        refine pure_ (i := 5) (N := some 42) (v := ?_) (a' := ?_) #[true, false, true, false, false, true, false, false, false, false, false, false, false] rfl rfl (by kernel_rfl) (fun _ _ _ h => h) (Or.inl ⟨by rfl, ?_⟩) ?_ ?_
        rotate_left
        · intro w'
          go_simp
          with_reducible rfl
        rotate_left
        · simp only [Act.put, List.setIfInBounds_toArray, List.set_cons_zero, List.set_cons_succ, i64_w, i32_w]
          rfl
        refine pure_ (i := 7) (N := some 44) (v := ?_) (a' := ?_) #[true, false, true, false, false, true, false, true, false, false, false, false, false] rfl rfl (by kernel_rfl) (fun _ _ _ h => h) (Or.inl ⟨by rfl, ?_⟩) ?_ ?_
        rotate_left
        · intro w'
          go_simp
          with_reducible rfl
        rotate_left
        · simp only [Act.put, List.setIfInBounds_toArray, List.set_cons_zero, List.set_cons_succ, i64_w, i32_w]
          rfl
        refine pure_ (i := 8) (N := some 45) (v := ?_) (a' := ?_) #[true, false, true, false, false, true, false, true, true, false, false, false, false] rfl rfl (by kernel_rfl) (fun _ _ _ h => h) (Or.inl ⟨by rfl, ?_⟩) ?_ ?_
        rotate_left
        · intro w'
          go_simp
          with_reducible rfl
        rotate_left
        · simp only [Act.put, List.setIfInBounds_toArray, List.set_cons_zero, List.set_cons_succ, i64_w, i32_w]
          rfl
        refine take_ (i := 1) (N := some 38) (v := ?_) (a' := ?_) #[true, true, true, false, false, true, false, true, true, false, false, false, false] rfl rfl (by kernel_rfl) (fun _ _ _ h => h) (Or.inl ⟨by rfl, ?_⟩) hHeld ?_ ?_
        rotate_left
        · rintro w' ⟨s0, s1, s2, s3, s4, s5, s6⟩
          go_simp
          with_reducible rfl
        rotate_left
        · simp only [Act.put, List.setIfInBounds_toArray, List.set_cons_zero, List.set_cons_succ, i64_w, i32_w]
          rfl
        refine pure_ (i := 3) (N := some 40) (v := ?_) (a' := ?_) #[true, true, true, true, false, true, false, true, true, false, false, false, false] rfl rfl (by kernel_rfl) (fun _ _ _ h => h) (Or.inl ⟨by rfl, ?_⟩) ?_ ?_
        rotate_left
        · intro w'
          go_simp
          with_reducible rfl
        rotate_left
        · simp only [Act.put, List.setIfInBounds_toArray, List.set_cons_zero, List.set_cons_succ, i64_w, i32_w]
          rfl
        refine take_ (i := 4) (N := some 41) (v := ?_) (a' := ?_) #[true, true, true, true, true, true, false, true, true, false, false, false, false] rfl rfl (by kernel_rfl) (fun _ _ _ h => h) (Or.inl ⟨by rfl, ?_⟩) hHeld ?_ ?_
        rotate_left
        · rintro w' ⟨s0, s1, s2, s3, s4, s5, s6⟩
          go_simp
          with_reducible rfl
        rotate_left
        · simp only [Act.put, List.setIfInBounds_toArray, List.set_cons_zero, List.set_cons_succ, i64_w, i32_w]
          rfl
        refine take_ (i := 6) (N := some 43) (v := ?_) (a' := ?_) #[true, true, true, true, true, true, true, true, true, false, false, false, false] rfl rfl (by kernel_rfl) (fun _ _ _ h => h) (Or.inl ⟨by rfl, ?_⟩) hHeld ?_ ?_
        rotate_left
        · rintro w' ⟨s0, s1, s2, s3, s4, s5, s6⟩
          go_simp
          with_reducible rfl
        rotate_left
        · simp only [Act.put, List.setIfInBounds_toArray, List.set_cons_zero, List.set_cons_succ, i64_w, i32_w]
          rfl
        refine pure_ (i := 9) (N := some 46) (v := ?_) (a' := ?_) #[true, true, true, true, true, true, true, true, true, true, false, false, false] rfl rfl (by kernel_rfl) (fun _ _ _ h => h) (Or.inl ⟨by rfl, ?_⟩) ?_ ?_
        rotate_left
        · intro w'
          go_simp
          with_reducible rfl
        rotate_left
        · simp only [Act.put, List.setIfInBounds_toArray, List.set_cons_zero, List.set_cons_succ, i64_w, i32_w]
          rfl
        refine take_ (i := 10) (N := some 47) (v := ?_) (a' := ?_) #[true, true, true, true, true, true, true, true, true, true, true, false, false] rfl rfl (by kernel_rfl) (fun _ _ _ h => h) (Or.inl ⟨by rfl, ?_⟩) hHeld ?_ ?_
        rotate_left
        · rintro w' ⟨s0, s1, s2, s3, s4, s5, s6⟩
          go_simp
          with_reducible rfl
        rotate_left
        · simp only [Act.put, List.setIfInBounds_toArray, List.set_cons_zero, List.set_cons_succ, i64_w, i32_w]
          rfl
        refine one_ (i := 11) (N := some 48) #[true, true, true, true, true, true, true, true, true, true, true, true, false] rfl rfl (by kernel_rfl) (by decide) (fun K hK => ?_)
        refine goes_ Tryd.func16 (by kernel_rfl) rfl #[.agg #[.int .i64 X.kind, .int .i64 X.at_, .string X.word], .agg #[.int .i64 Y.kind, .int .i64 Y.at_, .string Y.word]] (by rfl) rfl rfl (by simp only [List.map_toArray, List.map_cons, List.map_nil]; rfl) ?_
        with_reducible refine (HTC.out _).mono ?_
        rintro e w5 ⟨rfl, hb5⟩
        refine ⟨_, rfl, ?_⟩
        have hgl5 : g < wr.drew.drew.heap.size := hgl
        have hbl5 : b5 < wr.drew.drew.heap.size := (Array.getElem?_eq_some_iff.1 HQ2.out.t).1
        have HQ5 := Lib.hid ((HQ2.out.later (Below.refl _ _).drew).later hb5)
        refine hK.out _ _ ⟨(hb5.cell (p := ⟨b5, 1, none⟩) hbl5).trans hcSdd, (hb5.cell (p := ⟨g, _, none⟩) hgl5).trans hx0d, (hb5.cell (p := ⟨g, _, none⟩) hgl5).trans hx1d, (hb5.cell (p := ⟨g, _, none⟩) hgl5).trans hx2d, (hb5.cell (p := ⟨g, _, none⟩) hgl5).trans hy0d, (hb5.cell (p := ⟨g, _, none⟩) hgl5).trans hy1d, (hb5.cell (p := ⟨g, _, none⟩) hgl5).trans hy2d⟩ (fun hHeld => ?_)
        clear hK K
        refine norm_ (a' := ?_) ?_ ?_
        rotate_left
        · show Act.put _ (some 48) _ = _
          simp only [Act.put, List.setIfInBounds_toArray, List.set_cons_zero, List.set_cons_succ, i64_w, i32_w]
          rfl
        refine pure_ (i := 12) (N := some 49) (v := ?_) (a' := ?_) #[true, true, true, true, true, true, true, true, true, true, true, true, true] rfl rfl (by kernel_rfl) (fun _ _ _ h => h) (Or.inl ⟨by rfl, ?_⟩) ?_ ?_
        rotate_left
        · intro w'
          go_simp
          with_reducible rfl
        rotate_left
        · simp only [Act.put, List.setIfInBounds_toArray, List.set_cons_zero, List.set_cons_succ, i64_w, i32_w]
          rfl
        refine done_ (by kernel_rfl) ?_
        have hx0e := (hb5.cell (p := ⟨g, q * 3, none⟩) hgl5).trans hx0d
        have hx1e := (hb5.cell (p := ⟨g, q * 3 + 1, none⟩) hgl5).trans hx1d
        have hx2e := (hb5.cell (p := ⟨g, q * 3 + 2, none⟩) hgl5).trans hx2d
        have hy0e := (hb5.cell (p := ⟨g, (q + 1) * 3, none⟩) hgl5).trans hy0d
        have hy1e := (hb5.cell (p := ⟨g, (q + 1) * 3 + 1, none⟩) hgl5).trans hy1d
        have hy2e := (hb5.cell (p := ⟨g, (q + 1) * 3 + 2, none⟩) hgl5).trans hy2d
        have hcSe := (hb5.cell (p := ⟨b5, 1, none⟩) hbl5).trans hcSdd
        clear hHeld hcSdd hx0d hx1d hx2d hy0d hy1d hy2d hb5 HQ2 HTC hgl5 hbl5 hgl hcS hablt2 HQ
        cases ht : touchB X Y with
        | true =>
          clear hx0e hx1e hx2e hy0e hy1e hy2e hcSe hq64 hqz hqz0 hqn hql hql1
          go_wp2
          go_roundw
          case rel => exact ⟨k + 1, ys ++ X :: Y :: zs, by omega, by go_num, HSH, HQ5.out⟩
          case measure => simp [intOf]; omega
        | false =>
          have HSH2 : Hid (Shuf ws (ys ++ Y :: X :: zs)) := HSH.out.step ht
          obtain ⟨wP, hst1, hqP⟩ := (HQ5.out.later (Below.refl _ _).drew).put HYS.out.symm Y
          have hyl1 : q + 1 = (ys ++ [Y]).length := by rw [List.length_append, HYS.out]; rfl
          have hqP2 : ShQ w wP p b5 (.slice (some ⟨g, 0, none⟩) ws.length c13) ((ys ++ [Y]) ++ Y :: zs) := by
            rw [List.append_assoc]; exact hqP
          obtain ⟨wR, hst2, hqR⟩ := hqP2.put hyl1 X
          rw [List.append_assoc] at hqR
          have HQR : Hid (ShQ w wR p b5 (.slice (some ⟨g, 0, none⟩) ws.length c13) (ys ++ Y :: X :: zs)) := hqR
          have hcSP : wP.cell? ⟨b5, 1, none⟩ = some (.slice (some ⟨g, 0, none⟩) ws.length c13) := by rw [cell_of_row _ _ 1 _ _ _ hqP.t]; rfl
          have hcSR : wR.cell? ⟨b5, 1, none⟩ = some (.slice (some ⟨g, 0, none⟩) ws.length c13) := by rw [cell_of_row _ _ 1 _ _ _ hqR.t]; rfl
          have hx0f : w5.drew.cell? ⟨g, q * 3, none⟩ = some (.int .i64 X.kind) := hx0e
          have hx1f : w5.drew.cell? ⟨g, q * 3 + 1, none⟩ = some (.int .i64 X.at_) := hx1e
          have hx2f : w5.drew.cell? ⟨g, q * 3 + 2, none⟩ = some (.string X.word) := hx2e
          have hy0f : w5.drew.cell? ⟨g, (q + 1) * 3, none⟩ = some (.int .i64 Y.kind) := hy0e
          have hy1f : w5.drew.cell? ⟨g, (q + 1) * 3 + 1, none⟩ = some (.int .i64 Y.at_) := hy1e
          have hy2f : w5.drew.cell? ⟨g, (q + 1) * 3 + 2, none⟩ = some (.string Y.word) := hy2e
          have hcSf : w5.drew.cell? ⟨b5, 1, none⟩ = some (.slice (some ⟨g, 0, none⟩) ws.length c13) := hcSe
          have HST1 := Lib.hid hst1
          have HST2 := Lib.hid hst2
          clear hqP hqP2 hqR hyl1 hst1 hst2 HQ5 HSH hx0e hx1e hx2e hy0e hy1e hy2e hcSe
          go_wp2_with fail
          refine start_ (n := 22) (S := fun w' => w'.cell? ⟨b5, 1, none⟩ = some (.slice (some ⟨g, 0, none⟩) ws.length c13)) (ds := []) #[false, false, false, false, false, false, false, false, false, false, false, false, false, false, false, false, false, false, false, false, false, false] (by kernel_rfl) rfl rfl (hcSf) (fun hHeld => ?_)
          refine pure_ (i := 0) (N := some 50) (v := ?_) (a' := ?_) #[true, false, false, false, false, false, false, false, false, false, false, false, false, false, false, false, false, false, false, false, false, false] rfl rfl (by kernel_rfl) (fun _ _ _ h => h) (Or.inl ⟨by rfl, ?_⟩) ?_ ?_
          rotate_left
          · intro w'
            go_simp
            with_reducible rfl
          rotate_left
          · simp only [Act.put, List.setIfInBounds_toArray, List.set_cons_zero, List.set_cons_succ, i64_w, i32_w]
            rfl
          refine pure_ (i := 2) (N := some 52) (v := ?_) (a' := ?_) #[true, false, true, false, false, false, false, false, false, false, false, false, false, false, false, false, false, false, false, false, false, false] rfl rfl (by kernel_rfl) (fun _ _ _ h => h) (Or.inl ⟨by rfl, ?_⟩) ?_ ?_
          rotate_left
          · intro w'
            go_simp
            with_reducible rfl
          rotate_left
          · simp only [Act.put, List.setIfInBounds_toArray, List.set_cons_zero, List.set_cons_succ, i64_w, i32_w]
            rfl
          refine pure_ (i := 3) (N := some 53) (v := ?_) (a' := ?_) #[true, false, true, true, false, false, false, false, false, false, false, false, false, false, false, false, false, false, false, false, false, false] rfl rfl (by kernel_rfl) (fun _ _ _ h => h) (Or.inl ⟨by rfl, ?_⟩) ?_ ?_
          rotate_left
          · intro w'
            go_simp
            with_reducible rfl
          rotate_left
          · simp only [Act.put, List.setIfInBounds_toArray, List.set_cons_zero, List.set_cons_succ, i64_w, i32_w]
            rfl
          refine pure_ (i := 5) (N := some 55) (v := ?_) (a' := ?_) #[true, false, true, true, false, true, false, false, false, false, false, false, false, false, false, false, false, false, false, false, false, false] rfl rfl (by kernel_rfl) (fun _ _ _ h => h) (Or.inl ⟨by rfl, ?_⟩) ?_ ?_
          rotate_left
          · intro w'
            go_simp
            with_reducible rfl
          rotate_left
          · simp only [Act.put, List.setIfInBounds_toArray, List.set_cons_zero, List.set_cons_succ, i64_w, i32_w]
            rfl
          refine pure_ (i := 6) (N := some 56) (v := ?_) (a' := ?_) #[true, false, true, true, false, true, true, false, false, false, false, false, false, false, false, false, false, false, false, false, false, false] rfl rfl (by kernel_rfl) (fun _ _ _ h => h) (Or.inl ⟨by rfl, ?_⟩) ?_ ?_
          rotate_left
          · intro w'
            go_simp
            with_reducible rfl
          rotate_left
          · simp only [Act.put, List.setIfInBounds_toArray, List.set_cons_zero, List.set_cons_succ, i64_w, i32_w]
            rfl
          refine pure_ (i := 7) (N := some 57) (v := ?_) (a' := ?_) #[true, false, true, true, false, true, true, true, false, false, false, false, false, false, false, false, false, false, false, false, false, false] rfl rfl (by kernel_rfl) (fun _ _ _ h => h) (Or.inl ⟨by rfl, ?_⟩) ?_ ?_
          rotate_left
          · intro w'
            go_simp
            with_reducible rfl
          rotate_left
          · simp only [Act.put, List.setIfInBounds_toArray, List.set_cons_zero, List.set_cons_succ, i64_w, i32_w]
            rfl
          refine pure_ (i := 9) (N := some 59) (v := ?_) (a' := ?_) #[true, false, true, true, false, true, true, true, false, true, false, false, false, false, false, false, false, false, false, false, false, false] rfl rfl (by kernel_rfl) (fun _ _ _ h => h) (Or.inl ⟨by rfl, ?_⟩) ?_ ?_
          rotate_left
          · intro w'
            go_simp
            with_reducible rfl
          rotate_left
          · simp only [Act.put, List.setIfInBounds_toArray, List.set_cons_zero, List.set_cons_succ, i64_w, i32_w]
            rfl
          refine pure_ (i := 10) (N := some 60) (v := ?_) (a' := ?_) #[true, false, true, true, false, true, true, true, false, true, true, false, false, false, false, false, false, false, false, false, false, false] rfl rfl (by kernel_rfl) (fun _ _ _ h => h) (Or.inl ⟨by rfl, ?_⟩) ?_ ?_
          rotate_left
          · intro w'
            go_simp
            with_reducible rfl
          rotate_left
          · simp only [Act.put, List.setIfInBounds_toArray, List.set_cons_zero, List.set_cons_succ, i64_w, i32_w]
            rfl
          refine pure_ (i := 13) (N := some 63) (v := ?_) (a' := ?_) #[true, false, true, true, false, true, true, true, false, true, true, false, false, true, false, false, false, false, false, false, false, false] rfl rfl (by kernel_rfl) (fun _ _ _ h => h) (Or.inl ⟨by rfl, ?_⟩) ?_ ?_
          rotate_left
          · intro w'
            go_simp
            with_reducible rfl
          rotate_left
          · simp only [Act.put, List.setIfInBounds_toArray, List.set_cons_zero, List.set_cons_succ, i64_w, i32_w]
            rfl
          refine pure_ (i := 15) (N := some 65) (v := ?_) (a' := ?_) #[true, false, true, true, false, true, true, true, false, true, true, false, false, true, false, true, false, false, false, false, false, false] rfl rfl (by kernel_rfl) (fun _ _ _ h => h) (Or.inl ⟨by rfl, ?_⟩) ?_ ?_
          rotate_left
          · intro w'
            go_simp
            with_reducible rfl
          rotate_left
          · simp only [Act.put, List.setIfInBounds_toArray, List.set_cons_zero, List.set_cons_succ, i64_w, i32_w]
            rfl
          refine take_ (i := 1) (N := some 51) (v := ?_) (a' := ?_) #[true, true, true, true, false, true, true, true, false, true, true, false, false, true, false, true, false, false, false, false, false, false] rfl rfl (by kernel_rfl) (fun _ _ _ h => h) (Or.inl ⟨by rfl, ?_⟩) hHeld ?_ ?_
          rotate_left
          · intro w' s0
            go_simp
            with_reducible rfl
          rotate_left
          · simp only [Act.put, List.setIfInBounds_toArray, List.set_cons_zero, List.set_cons_succ, i64_w, i32_w]
            rfl
          refine take_ (i := 4) (N := some 54) (v := ?_) (a' := ?_) #[true, true, true, true, true, true, true, true, false, true, true, false, false, true, false, true, false, false, false, false, false, false] rfl rfl (by kernel_rfl) (fun _ _ _ h => h) (Or.inl ⟨by rfl, ?_⟩) hHeld ?_ ?_
          rotate_left
          · intro w' s0
            go_simp
            with_reducible rfl
          rotate_left
          · simp only [Act.put, List.setIfInBounds_toArray, List.set_cons_zero, List.set_cons_succ, i64_w, i32_w]
            rfl
          refine take_ (i := 8) (N := some 58) (v := ?_) (a' := ?_) #[true, true, true, true, true, true, true, true, true, true, true, false, false, true, false, true, false, false, false, false, false, false] rfl rfl (by kernel_rfl) (fun _ _ _ h => h) (Or.inl ⟨by rfl, ?_⟩) hHeld ?_ ?_
          rotate_left
          · intro w' s0
            go_simp
            with_reducible rfl
          rotate_left
          · simp only [Act.put, List.setIfInBounds_toArray, List.set_cons_zero, List.set_cons_succ, i64_w, i32_w]
            rfl
          refine pure_ (i := 11) (N := some 61) (v := ?_) (a' := ?_) #[true, true, true, true, true, true, true, true, true, true, true, true, false, true, false, true, false, false, false, false, false, false] rfl rfl (by kernel_rfl) (fun _ _ _ h => h) (Or.inl ⟨by rfl, ?_⟩) ?_ ?_
          rotate_left
          · intro w'
            go_simp
            with_reducible rfl
          rotate_left
          · simp only [Act.put, List.setIfInBounds_toArray, List.set_cons_zero, List.set_cons_succ, i64_w, i32_w]
            rfl
          refine take_ (i := 14) (N := some 64) (v := ?_) (a' := ?_) #[true, true, true, true, true, true, true, true, true, true, true, true, false, true, true, true, false, false, false, false, false, false] rfl rfl (by kernel_rfl) (fun _ _ _ h => h) (Or.inl ⟨by rfl, ?_⟩) hHeld ?_ ?_
          rotate_left
          · intro w' s0
            go_simp
            with_reducible rfl
          rotate_left
          · simp only [Act.put, List.setIfInBounds_toArray, List.set_cons_zero, List.set_cons_succ, i64_w, i32_w]
            rfl
          refine pure_ (i := 16) (N := some 66) (v := ?_) (a' := ?_) #[true, true, true, true, true, true, true, true, true, true, true, true, false, true, true, true, true, false, false, false, false, false] rfl rfl (by kernel_rfl) (fun _ _ _ h => h) (Or.inl ⟨by rfl, ?_⟩) ?_ ?_
          rotate_left
          · intro w'
            go_simp
            with_reducible rfl
          rotate_left
          · simp only [Act.put, List.setIfInBounds_toArray, List.set_cons_zero, List.set_cons_succ, i64_w, i32_w]
            rfl
          refine join_ (σ := Unit) 4 #[true, true, true, true, true, true, true, true, true, true, true, true, true, true, true, true, true, true, false, false, false, false] (fun _ => [(62, .agg #[.int .i64 Y.kind, .int .i64 Y.at_, .string Y.word]), (67, .agg #[.int .i64 X.kind, .int .i64 X.at_, .string X.word])]) (fun _ w' => w' = w5.drew ∧ w'.cell? ⟨b5, 1, none⟩ = some (.slice (some ⟨g, 0, none⟩) ws.length c13)) ?_ ?_
          rotate_left
          · intro hCont
            refine two_ (i := 12) (j := 17) (Ni := some 62) (Nj := some 67) #[true, true, true, true, true, true, true, true, true, true, true, true, true, true, true, true, true, false, false, false, false, false] #[true, true, true, true, true, true, true, true, true, true, true, true, false, true, true, true, true, true, false, false, false, false] rfl rfl rfl rfl (by kernel_rfl) (by decide) (by decide) (fun K hK => ?_) (fun K hK => ?_)
            · skip
              refine value_ (w1 := ?_) (v := ?_) (by rfl) rfl ?_ ?_
              rotate_left 2
              · go_simp
                constructor
                · rfl
                · rfl
              refine hK.out _ _ (hcSf) (fun hHeld => ?_)
              clear hK K
              refine norm_ (a' := ?_) ?_ ?_
              rotate_left
              · show Act.put _ (some 62) _ = _
                simp only [Act.put, List.setIfInBounds_toArray, List.set_cons_zero, List.set_cons_succ, i64_w, i32_w]
                rfl
              refine one_ (i := 17) (N := some 67) #[true, true, true, true, true, true, true, true, true, true, true, true, true, true, true, true, true, true, false, false, false, false] rfl rfl (by kernel_rfl) (by decide) (fun K hK => ?_)
              refine value_ (w1 := ?_) (v := ?_) (by rfl) rfl ?_ ?_
              rotate_left 2
              · go_simp
                constructor
                · rfl
                · rfl
              refine hK.out _ _ (hcSf) (fun hHeld => ?_)
              clear hK K
              refine norm_ (a' := ?_) ?_ ?_
              rotate_left
              · show Act.put _ (some 67) _ = _
                simp only [Act.put, List.setIfInBounds_toArray, List.set_cons_zero, List.set_cons_succ, i64_w, i32_w]
                rfl
              exact norm_ (by simp only [putAll, Act.put, List.setIfInBounds_toArray, List.set_cons_zero, List.set_cons_succ]) (hCont () _ ⟨rfl, hcSf⟩)
            · skip
              refine value_ (w1 := ?_) (v := ?_) (by rfl) rfl ?_ ?_
              rotate_left 2
              · go_simp
                constructor
                · rfl
                · rfl
              refine hK.out _ _ (hcSf) (fun hHeld => ?_)
              clear hK K
              refine norm_ (a' := ?_) ?_ ?_
              rotate_left
              · show Act.put _ (some 67) _ = _
                simp only [Act.put, List.setIfInBounds_toArray, List.set_cons_zero, List.set_cons_succ, i64_w, i32_w]
                rfl
              refine one_ (i := 12) (N := some 62) #[true, true, true, true, true, true, true, true, true, true, true, true, true, true, true, true, true, true, false, false, false, false] rfl rfl (by kernel_rfl) (by decide) (fun K hK => ?_)
              refine value_ (w1 := ?_) (v := ?_) (by rfl) rfl ?_ ?_
              rotate_left 2
              · go_simp
                constructor
                · rfl
                · rfl
              refine hK.out _ _ (hcSf) (fun hHeld => ?_)
              clear hK K
              refine norm_ (a' := ?_) ?_ ?_
              rotate_left
              · show Act.put _ (some 62) _ = _
                simp only [Act.put, List.setIfInBounds_toArray, List.set_cons_zero, List.set_cons_succ, i64_w, i32_w]
                rfl
              exact norm_ (by simp only [putAll, Act.put, List.setIfInBounds_toArray, List.set_cons_zero, List.set_cons_succ]) (hCont () _ ⟨rfl, hcSf⟩)
          clear hHeld
          rintro _ w6 ⟨rfl, hHeld⟩
          refine norm_ (a' := ?_) ?_ ?_
          rotate_left
          · simp only [putAll, Act.put, List.setIfInBounds_toArray, List.set_cons_zero, List.set_cons_succ]
            rfl
          refine pure_ (i := 18) (N := some 68) (v := ?_) (a' := ?_) #[true, true, true, true, true, true, true, true, true, true, true, true, true, true, true, true, true, true, true, false, false, false] rfl rfl (by kernel_rfl) (fun _ _ _ h => h) (Or.inl ⟨by rfl, ?_⟩) ?_ ?_
          rotate_left
          · intro w'
            go_simp
            with_reducible rfl
          rotate_left
          · simp only [Act.put, List.setIfInBounds_toArray, List.set_cons_zero, List.set_cons_succ, i64_w, i32_w]
            rfl
          refine one_ (i := 19) (N := none) #[true, true, true, true, true, true, true, true, true, true, true, true, true, true, true, true, true, true, true, true, false, false] rfl rfl (by kernel_rfl) (by decide) (fun K hK => ?_)
          refine skip_ (w1 := wP) (by rfl) rfl (exec_store (v := .pointer (some ⟨g, q * 3, none⟩)) (u := .agg #[.int .i64 Y.kind, .int .i64 Y.at_, .string Y.word]) rfl (by rfl) (by rfl) HST1.out) ?_
          refine hK.out _ _ (hcSP) (fun hHeld => ?_)
          clear hK K
          refine pure_ (i := 20) (N := some 69) (v := ?_) (a' := ?_) #[true, true, true, true, true, true, true, true, true, true, true, true, true, true, true, true, true, true, true, true, true, false] rfl rfl (by kernel_rfl) (fun _ _ _ h => h) (Or.inl ⟨by rfl, ?_⟩) ?_ ?_
          rotate_left
          · intro w'
            go_simp
            with_reducible rfl
          rotate_left
          · simp only [Act.put, List.setIfInBounds_toArray, List.set_cons_zero, List.set_cons_succ, i64_w, i32_w]
            rfl
          refine one_ (i := 21) (N := none) #[true, true, true, true, true, true, true, true, true, true, true, true, true, true, true, true, true, true, true, true, true, true] rfl rfl (by kernel_rfl) (by decide) (fun K hK => ?_)
          refine skip_ (w1 := wR) (by rfl) rfl (exec_store (v := .pointer (some ⟨g, (q + 1) * 3, none⟩)) (u := .agg #[.int .i64 X.kind, .int .i64 X.at_, .string X.word]) rfl (by rfl) (by rfl) HST2.out) ?_
          refine hK.out _ _ (hcSR) (fun hHeld => ?_)
          clear hK K
          refine done_ (by kernel_rfl) ?_
          clear hHeld hcSP hcSR hx0f hx1f hx2f hy0f hy1f hy2f hcSf HST1 HST2 hq64 hqz hqz0 hqn hql hql1
          go_wp2
          go_roundw
          case rel => exact ⟨k + 1, ys ++ Y :: X :: zs, by omega, by go_num, HSH2, HQR.out⟩
          case measure => simp [intOf]; omega
      · have hw2 : decide ((1 : Int) < (ws.length : Int)) = false := by simp; omega
        have HQ := Lib.hid hQ
        have hcT0 : wr.cell? ⟨b5, 0, none⟩ = some (.int .i64 p) := by rw [cell_of_row _ _ 0 _ _ _ hQ.t]; rfl
        have hcR0 : wr.cell? ⟨w.heap.size + 1, 0, none⟩ = some (.int .i64 0) := by rw [cell_of_row _ _ 0 _ _ _ hQ.r]; rfl
        have hcR1 : wr.cell? ⟨w.heap.size + 1, 1, none⟩ = some (.slice none 0 0) := by rw [cell_of_row _ _ 1 _ _ _ hQ.r]; rfl
        have hfR0 := frozen_of_row wr (w.heap.size + 1) 0 _ _ hQ.r
        have hfR1 := frozen_of_row wr (w.heap.size + 1) 1 _ _ hQ.r
        clear hQ
        go_wp2
        refine bodyPost_ret (v := .agg #[.int .i64 p, .slice s13 ws.length c13]) (results_cell_row (P := Tryd.prog) rfl _ _ (w.heap.size + 1) 24 #[.int .i64 p, .slice s13 ws.length c13] (0, 0) _ rfl (HQ.out.fin).1 Tryd.underlying24 rfl info_sheet) rfl ⟨_, ws2, rfl, HSH.out, (HQ.out.fin).2.1, (HQ.out.fin).2.2⟩
    · have hl2 : decide ((k : Int) < (at_.length : Int)) = false := by simp; omega
      have HQ := Lib.hid hQ
      have hcT0 : wr.cell? ⟨b5, 0, none⟩ = some (.int .i64 p) := by rw [cell_of_row _ _ 0 _ _ _ hQ.t]; rfl
      have hcR0 : wr.cell? ⟨w.heap.size + 1, 0, none⟩ = some (.int .i64 0) := by rw [cell_of_row _ _ 0 _ _ _ hQ.r]; rfl
      have hcR1 : wr.cell? ⟨w.heap.size + 1, 1, none⟩ = some (.slice none 0 0) := by rw [cell_of_row _ _ 1 _ _ _ hQ.r]; rfl
      have hfR0 := frozen_of_row wr (w.heap.size + 1) 0 _ _ hQ.r
      have hfR1 := frozen_of_row wr (w.heap.size + 1) 1 _ _ hQ.r
      clear hQ
      go_wp2
      refine bodyPost_ret (v := .agg #[.int .i64 p, .slice s13 ws.length c13]) (results_cell_row (P := Tryd.prog) rfl _ _ (w.heap.size + 1) 24 #[.int .i64 p, .slice s13 ws.length c13] (0, 0) _ rfl (HQ.out.fin).1 Tryd.underlying24 rfl info_sheet) rfl ⟨_, ws2, rfl, HSH.out, (HQ.out.fin).2.1, (HQ.out.fin).2.2⟩
end Go.Proofs.YtepofpnbgbmihaaDoor

/-
  The law's last part: from the first Solve on.
-/
namespace Go.Proofs.YtepofpnbgbmihaaDoor
open Go.RowKit Go.Shelf Go.Proofs.YtepofpnbgbmihaaDoorW.PrintLast
set_option linter.unusedSimpArgs false
set_option linter.unusedVariables false

def sndK : Nat → Code → Code
  | 0, c => c
  | k + 1, .seq _ b => sndK k b
  | _ + 1, c => c
noncomputable def lawBody : Code := (Tryd.f3.body).getD .skip
/-- What is true. -/
def LawPost (w : World) (e : Ending) (w' : World) : Prop := e = .returned (.bool true) ∧ Below w.heap.size w w'

/-- Two cloths that agree, and two tasks. -/
structure P3 (N : Nat) (cs1 cs2 : List Crs) (ps1 ps2 : List Pn) (ws : List Wi) (us : List Uk) (n : Nat) (out : List Nat) (tM : Nat → Nat) : Prop where
  ok1 : ClothOk N cs1 ps1
  ok2 : ClothOk N cs2 ps2
  hN : N ≤ 16
  same : Same cs1 cs2 n out tM
  task : TaskOk cs1.length ws us
  w6 : ws.length ≤ 6
/-- Where all this lies. -/
structure P3At (w W : World) (A B T1 T2 R N : Nat) (cs1 cs2 : List Crs) (ps1 ps2 : List Pn) (ws : List Wi) (us : List Uk) (tM : Nat → Nat) (cv1 pv1 wv1 uv1 cv2 pv2 wv2 uv2 : Value) (s : Nat → Int) : Prop where
  a : W.heap[A]? = some (.cells #[.int .i64 N, cv1, pv1] 41 (0, 0))
  b : W.heap[B]? = some (.cells #[.int .i64 N, cv2, pv2] 41 (0, 0))
  t1 : TaskAt W T1 N cv1 pv1 wv1 uv1 s
  t2 : TaskAt W T2 N cv2 pv2 wv2 uv2 s
  r : W.heap[R]? = some (.cells (rowN cs1.length fun m => ((tM m : Nat) : Int)) 3 (0, 0))
  c1 : RdL 4 encX W cv1 cs1
  p1 : RdL 4 encP W pv1 ps1
  c2 : RdL 4 encX W cv2 cs2
  p2 : RdL 4 encP W pv2 ps2
  w1 : RdL 2 encWi W wv1 ws
  u1 : RdL 2 encU W uv1 us
  w2 : RdL 2 encWi W wv2 (ws.map (mapW tM))
  u2 : RdL 2 encU W uv2 (us.map (mapU tM))
  tab : Tab W
  below : Below w.heap.size w W
section
variable {w W W' : World} {A B T1 T2 R N : Nat} {cs1 cs2 : List Crs} {ps1 ps2 : List Pn} {ws : List Wi} {us : List Uk} {tM : Nat → Nat} {cv1 pv1 wv1 uv1 cv2 pv2 wv2 uv2 : Value} {s : Nat → Int}
theorem P3At.later (h : P3At w W A B T1 T2 R N cs1 cs2 ps1 ps2 ws us tM cv1 pv1 wv1 uv1 cv2 pv2 wv2 uv2 s) (hb : Below W.heap.size W W') : P3At w W' A B T1 T2 R N cs1 cs2 ps1 ps2 ws us tM cv1 pv1 wv1 uv1 cv2 pv2 wv2 uv2 s :=
  ⟨(hb.block _ (Array.getElem?_eq_some_iff.1 h.a).1).trans h.a, (hb.block _ (Array.getElem?_eq_some_iff.1 h.b).1).trans h.b, h.t1.later hb, h.t2.later hb, (hb.block _ (Array.getElem?_eq_some_iff.1 h.r).1).trans h.r, h.c1.later hb, h.p1.later hb, h.c2.later hb, h.p2.later hb, h.w1.later hb, h.u1.later hb, h.w2.later hb, h.u2.later hb, h.tab.kp h.tab.lt hb, h.below.trans (hb.mono h.below.size)⟩
theorem P3At.ca (h : P3At w W A B T1 T2 R N cs1 cs2 ps1 ps2 ws us tM cv1 pv1 wv1 uv1 cv2 pv2 wv2 uv2 s) : W.cell? ⟨A, 0, none⟩ = some (.int .i64 N) ∧ W.cell? ⟨A, 1, none⟩ = some cv1 ∧ W.cell? ⟨A, 2, none⟩ = some pv1 :=
  ⟨by rw [cell_of_row _ _ 0 _ _ _ h.a]; rfl, by rw [cell_of_row _ _ 1 _ _ _ h.a]; rfl, by rw [cell_of_row _ _ 2 _ _ _ h.a]; rfl⟩
theorem P3At.cb (h : P3At w W A B T1 T2 R N cs1 cs2 ps1 ps2 ws us tM cv1 pv1 wv1 uv1 cv2 pv2 wv2 uv2 s) : W.cell? ⟨B, 0, none⟩ = some (.int .i64 N) ∧ W.cell? ⟨B, 1, none⟩ = some cv2 ∧ W.cell? ⟨B, 2, none⟩ = some pv2 :=
  ⟨by rw [cell_of_row _ _ 0 _ _ _ h.b]; rfl, by rw [cell_of_row _ _ 1 _ _ _ h.b]; rfl, by rw [cell_of_row _ _ 2 _ _ _ h.b]; rfl⟩
end
theorem seenL_bound (cs : List Crs) (l : List Int) (h : ∀ x ∈ l, 0 ≤ x ∧ x < 6) : ∀ (i : Nat) (x : Int), (seenL cs l)[i]? = some x → 0 ≤ x ∧ x < 16 := fun i x hx => by
  unfold seenL at hx
  rw [List.getElem?_map] at hx
  obtain ⟨y, _, rfl⟩ := Option.map_eq_some_iff.1 hx
  by_cases hk : y.over.toNat < l.length
  · rw [getD_get _ _ _ hk]
    have := h _ (List.getElem_mem hk)
    omega
  · rw [List.getD_eq_getElem?_getD, List.getElem?_eq_none (by omega)]
    simp
theorem seenL_is (cs : List Crs) (l : List Int) : ∀ (i : Nat) (x : Crs) (y : Int), cs[i]? = some x → (seenL cs l)[i]? = some y → y = (fun t => l.getD t 0) x.over.toNat := fun i x y hx hy => by
  unfold seenL at hy
  rw [List.getElem?_map, hx] at hy
  exact (Option.some.inj hy).symm
theorem dyRes_cases (N : Nat) (s : Nat → Int) (ws : List Wi) (us : List Uk) (ov : Int → Nat) :
    dyRes N s ws us ov = (2, none) ∨ (dyRes N s ws us ov = (4, none) ∧ supOk s = true ∧ ws.all okAl = true ∧ solveF (madeP N s ws us ov fun _ => true) = none) ∨ ∃ l, dyRes N s ws us ov = (0, some l) ∧ l.length = N ∧ ∀ x ∈ l, 0 ≤ x ∧ x < 6 := by
  unfold dyRes
  by_cases h : (supOk s && ws.all okAl) = true
  · rw [if_pos h]
    rw [Bool.and_eq_true] at h
    cases hs : solveF (madeP N s ws us ov fun _ => true) with
    | none => exact .inr (.inl ⟨rfl, h.1, h.2, rfl⟩)
    | some l =>
      refine .inr (.inr ⟨l, rfl, ?_⟩)
      unfold solveF at hs
      split at hs
      · cases hs
      · exact tryF_lt _ _ _ _ _ l hs
  · rw [if_neg h]; exact .inl rfl

set_option maxRecDepth 100000 in
set_option maxHeartbeats 2000000 in
theorem law_p3 {w W : World} {D0 A B T1 T2 R N n : Nat} {cs1 cs2 : List Crs} {ps1 ps2 : List Pn} {ws : List Wi} {us : List Uk} {out : List Nat} {tM : Nat → Nat} {cv1 pv1 wv1 uv1 cv2 pv2 wv2 uv2 : Value} {s : Nat → Int} {u0 u1 u3 u4 u5 u6 u7 u9 u11 u12 u13 u14 u15 u18 u19 u22 u23 u24 u25 u26 u27 u28 u29 u30 u31 u32 u33 u34 u35 u36 u37 u38 u39 u40 u41 u42 u43 u44 u45 u46 u47 u48 u49 u50 u51 u52 u53 u54 u55 u56 u57 u58 u59 u60 u61 u62 u63 u64 u65 u66 u67 u68 u69 u70 u71 u72 u73 u74 u75 u76 u77 u78 u79 u80 u81 u82 u83 u84 u85 u86 u87 u88 u89 u90 u91 u92 u93 u94 u95 u96 u97 u98 u99 u100 u101 u102 u103 u104 u105 u106 u107 u108 u109 u110 u111 u112 u113 u114 u115 u116 u117 u118 u119 u120 u121 u122 u123 u124 u125 u126 u127 u128 u129 u130 u131 u132 u133 u134 u135 u136 u137 u138 u139 u140 u141 u142 u143 u144 u145 u146 u147 u148 u149 u150 u151 u152 u153 u154 u155 u156 u157 u158 u159 u160 u161 u162 u163 u164 u165 u166 u167 u168 u169 u170 u171 u172 u173 u174 u175 u176 u177 u178 u179 u180 u181 u182 u183 u184 u185 u186 u187 u188 u189 u190 u191 u192 u193 u194 u195 u196 u197 u198 u199 u200 u201 u202 u203 u204 u205 u206 u207 u208 u209 u210 u211 u212 u213 u214 u215 u216 u217 u218 u219 u220 u221 u222 u223 u224 u225 u226 u227 u228 u229 u230 u231 u232 u233 u234 u235 u236 u237 u238 u239 u240 u241 u242 u243 u244 u245 u246 u247 u248 u249 u250 u251 u252 u253 u254 u255 u256 u257 u258 u259 u260 u261 u262 u263 u264 u265 u266 u267 u268 u269 u270 u271 u272 u273 u274 u275 u276 u277 u278 u279 u280 u281 u282 u283 u284 u285 u286 u287 u288 u289 u290 u291 u292 u293 u294 u295 u296 u297 u298 u299 u300 u301 u302 u303 u304 u305 u306 u307 u308 u309 u310 u311 u312 u313 u314 u315 u316 u317 u318 u319 u320 u321 u322 u323 u324 u325 u326 u327 u328 u329 u330 u331 u332 u333 u334 u335 u336 u337 u338 u339 u340 u341 u342 u343 u344 u345 u346 u347 u348 u349 u350 u351 u352 u353 u354 u355 u356 u357 u358 u359 u360 u361 u362 u363 u364 u365 u366 u367 u368 u369 u370 u371 u372 u373 u374 u375 u376 u377 u378 u379 u380 u381 u382 u383 u384 u385 u386 u387 u388 u389 u390 u391 u392 u393 u394 u395 u396 u397 u398 u399 u400 u401 u402 u403 u404 u405 u406 u407 u408 u409 u410 u411 u412 u413 u414 u415 u416 u417 u418 u419 u420 u421 u422 u423 u424 u425 u426 u427 u428 u429 u430 u431 u432 u433 u434 : Value}
    (hP : P3 N cs1 cs2 ps1 ps2 ws us n out tM) (hA : P3At w W A B T1 T2 R N cs1 cs2 ps1 ps2 ws us tM cv1 pv1 wv1 uv1 cv2 pv2 wv2 uv2 s) :
    Code.wp Tryd.prog (sndK 17 lawBody) (bodyPost Tryd.prog Tryd.f3 (LawPost w)) ⟨#[u0, u1, .pointer (some ⟨D0, 0, none⟩), u3, u4, u5, u6, u7, .pointer (some ⟨A, 0, none⟩), u9, .pointer (some ⟨B, 0, none⟩), u11, u12, u13, u14, u15, .int .i64 cs1.length, .slice (some ⟨R, 0, none⟩) cs1.length cs1.length, u18, u19, .pointer (some ⟨T1, 0, none⟩), .pointer (some ⟨T2, 0, none⟩), u22, u23, u24, u25, u26, u27, u28, u29, u30, u31, u32, u33, u34, u35, u36, u37, u38, u39, u40, u41, u42, u43, u44, u45, u46, u47, u48, u49, u50, u51, u52, u53, u54, u55, u56, u57, u58, u59, u60, u61, u62, u63, u64, u65, u66, u67, u68, u69, u70, u71, u72, u73, u74, u75, u76, u77, u78, u79, u80, u81, u82, u83, u84, u85, u86, u87, u88, u89, u90, u91, u92, u93, u94, u95, u96, u97, u98, u99, u100, u101, u102, u103, u104, u105, u106, u107, u108, u109, u110, u111, u112, u113, u114, u115, u116, u117, u118, u119, u120, u121, u122, u123, u124, u125, u126, u127, u128, u129, u130, u131, u132, u133, u134, u135, u136, u137, u138, u139, u140, u141, u142, u143, u144, u145, u146, u147, u148, u149, u150, u151, u152, u153, u154, u155, u156, u157, u158, u159, u160, u161, u162, u163, u164, u165, u166, u167, u168, u169, u170, u171, u172, u173, u174, u175, u176, u177, u178, u179, u180, u181, u182, u183, u184, u185, u186, u187, u188, u189, u190, u191, u192, u193, u194, u195, u196, u197, u198, u199, u200, u201, u202, u203, u204, u205, u206, u207, u208, u209, u210, u211, u212, u213, u214, u215, u216, u217, u218, u219, u220, u221, u222, u223, u224, u225, u226, u227, u228, u229, u230, u231, u232, u233, u234, u235, u236, u237, u238, u239, u240, u241, u242, u243, u244, u245, u246, u247, u248, u249, u250, u251, u252, u253, u254, u255, u256, u257, u258, u259, u260, u261, u262, u263, u264, u265, u266, u267, u268, u269, u270, u271, u272, u273, u274, u275, u276, u277, u278, u279, u280, u281, u282, u283, u284, u285, u286, u287, u288, u289, u290, u291, u292, u293, u294, u295, u296, u297, u298, u299, u300, u301, u302, u303, u304, u305, u306, u307, u308, u309, u310, u311, u312, u313, u314, u315, u316, u317, u318, u319, u320, u321, u322, u323, u324, u325, u326, u327, u328, u329, u330, u331, u332, u333, u334, u335, u336, u337, u338, u339, u340, u341, u342, u343, u344, u345, u346, u347, u348, u349, u350, u351, u352, u353, u354, u355, u356, u357, u358, u359, u360, u361, u362, u363, u364, u365, u366, u367, u368, u369, u370, u371, u372, u373, u374, u375, u376, u377, u378, u379, u380, u381, u382, u383, u384, u385, u386, u387, u388, u389, u390, u391, u392, u393, u394, u395, u396, u397, u398, u399, u400, u401, u402, u403, u404, u405, u406, u407, u408, u409, u410, u411, u412, u413, u414, u415, u416, u417, u418, u419, u420, u421, u422, u423, u424, u425, u426, u427, u428, u429, u430, u431, u432, u433, u434], []⟩ W := by
  have hsv1 := fun W h1 h2 h3 h4 => dySolve_any N cs1 ps1 ws us cv1 pv1 wv1 uv1 s W hP.ok1 hP.hN hP.task h1 h2 h3 h4
  have hsv2 := fun W h1 h2 h3 h4 => dySolve_any N cs2 ps2 (ws.map (mapW tM)) (us.map (mapU tM)) cv2 pv2 wv2 uv2 s W hP.ok2 hP.hN (hP.same.task ws us hP.task) h1 h2 h3 h4
  rw [hP.same.dy N s ws us hP.task] at hsv2
  have HP := Lib.hid hP
  have HA := Lib.hid hA
  rcases dyRes_cases N s ws us (ovF cs1) with hr | ⟨hr, hsup, hal, hnone⟩ | ⟨l, hr, hll, hlx⟩ <;> rw [hr] at hsv1 hsv2 <;> unfold taskA at hsv1 hsv2 <;> have HS1 := Lib.hid hsv1 <;> have HS2 := Lib.hid hsv2 <;> clear hr
  · clear hP
    have hc0 := HA.out.t1.c0
    have hc1 := HA.out.t1.c1
    have hc2 := HA.out.t1.c2
    have hc3 := HA.out.t1.c3
    have hc4 := HA.out.t1.c4
    have hs0 := HA.out.t1.sup 0 (by omega)
    have hs1 := HA.out.t1.sup 1 (by omega)
    have hs2 := HA.out.t1.sup 2 (by omega)
    have hs3 := HA.out.t1.sup 3 (by omega)
    have hs4 := HA.out.t1.sup 4 (by omega)
    have hs5 := HA.out.t1.sup 5 (by omega)
    simp only [Nat.reduceAdd] at hs0 hs1 hs2 hs3 hs4 hs5
    clear hA hsv1 hsv2
    conv => arg 2; whnf
    go_wp2_with fail
    refine (HS1.out _ HA.out.c1 HA.out.p1 HA.out.w1 HA.out.u1).mono ?_
    rintro e W1 ⟨hb1, va, rfl, hpa⟩
    have HA1 := Lib.hid (HA.out.later hb1)
    have HPA := Lib.hid hpa
    clear hc0 hc1 hc2 hc3 hc4 hs0 hs1 hs2 hs3 hs4 hs5 hb1 hpa HA HS1
    have hc0 := HA1.out.t2.c0
    have hc1 := HA1.out.t2.c1
    have hc2 := HA1.out.t2.c2
    have hc3 := HA1.out.t2.c3
    have hc4 := HA1.out.t2.c4
    have hs0 := HA1.out.t2.sup 0 (by omega)
    have hs1 := HA1.out.t2.sup 1 (by omega)
    have hs2 := HA1.out.t2.sup 2 (by omega)
    have hs3 := HA1.out.t2.sup 3 (by omega)
    have hs4 := HA1.out.t2.sup 4 (by omega)
    have hs5 := HA1.out.t2.sup 5 (by omega)
    simp only [Nat.reduceAdd] at hs0 hs1 hs2 hs3 hs4 hs5
    go_wp2_with fail
    refine (HS2.out _ HA1.out.c2 HA1.out.p2 HA1.out.w2 HA1.out.u2).mono ?_
    rintro e W2 ⟨hb2, vb, rfl, hpb⟩
    have HA2 := Lib.hid (HA1.out.later hb2)
    have hva : va = .slice none 0 0 := HPA.out
    have hvb : vb = .slice none 0 0 := hpb
    subst hva
    subst hvb
    have hra : Hid (RdL 1 encI W2 (.slice none 0 0) []) := RdL.none
    have hrb : Hid (RdL 1 encI W2 (.slice none 0 0) []) := RdL.none
    clear hc0 hc1 hc2 hc3 hc4 hs0 hs1 hs2 hs3 hs4 hs5 hb2 hpb HA1 HS2 HPA
    go_wp2_with fail
    refine (sameInts_any _ _ _ W2 hra.out hrb.out).mono ?_
    rintro e W3 ⟨rfl, hb3⟩
    have HA3 := Lib.hid (HA2.out.later hb3)
    clear hb3 HA2 hra hrb
    go_wp2
    go_ret
    exact ⟨rfl, HA3.out.below⟩
  · have hcl1 := fun W h1 h2 h3 h4 h5 => clash_any N cs1 ps1 ws us cv1 pv1 wv1 uv1 s W hP.ok1 hP.hN hP.task hP.w6 h1 h2 h3 h4 h5 hsup hal hnone
    have hcl2 := fun W h1 h2 h3 h4 h5 => clash_any N cs2 ps2 (ws.map (mapW tM)) (us.map (mapU tM)) cv2 pv2 wv2 uv2 s W hP.ok2 hP.hN (hP.same.task ws us hP.task) (by rw [List.length_map]; exact hP.w6) h1 h2 h3 h4 h5 hsup (by rw [allAl]; exact hal) (by rw [hP.same.made N s ws us _ hP.task]; exact hnone)
    rw [hP.same.clash N s ws us hP.task] at hcl2
    unfold taskA at hcl1 hcl2
    have HC1 := Lib.hid hcl1
    have HC2 := Lib.hid hcl2
    clear hP hcl1 hcl2 hsup hal hnone
    have hc0 := HA.out.t1.c0
    have hc1 := HA.out.t1.c1
    have hc2 := HA.out.t1.c2
    have hc3 := HA.out.t1.c3
    have hc4 := HA.out.t1.c4
    have hs0 := HA.out.t1.sup 0 (by omega)
    have hs1 := HA.out.t1.sup 1 (by omega)
    have hs2 := HA.out.t1.sup 2 (by omega)
    have hs3 := HA.out.t1.sup 3 (by omega)
    have hs4 := HA.out.t1.sup 4 (by omega)
    have hs5 := HA.out.t1.sup 5 (by omega)
    simp only [Nat.reduceAdd] at hs0 hs1 hs2 hs3 hs4 hs5
    clear hA hsv1 hsv2
    conv => arg 2; whnf
    go_wp2_with fail
    refine (HS1.out _ HA.out.c1 HA.out.p1 HA.out.w1 HA.out.u1).mono ?_
    rintro e W1 ⟨hb1, va, rfl, hpa⟩
    have HA1 := Lib.hid (HA.out.later hb1)
    have HPA := Lib.hid hpa
    clear hc0 hc1 hc2 hc3 hc4 hs0 hs1 hs2 hs3 hs4 hs5 hb1 hpa HA HS1
    have hc0 := HA1.out.t2.c0
    have hc1 := HA1.out.t2.c1
    have hc2 := HA1.out.t2.c2
    have hc3 := HA1.out.t2.c3
    have hc4 := HA1.out.t2.c4
    have hs0 := HA1.out.t2.sup 0 (by omega)
    have hs1 := HA1.out.t2.sup 1 (by omega)
    have hs2 := HA1.out.t2.sup 2 (by omega)
    have hs3 := HA1.out.t2.sup 3 (by omega)
    have hs4 := HA1.out.t2.sup 4 (by omega)
    have hs5 := HA1.out.t2.sup 5 (by omega)
    simp only [Nat.reduceAdd] at hs0 hs1 hs2 hs3 hs4 hs5
    go_wp2_with fail
    refine (HS2.out _ HA1.out.c2 HA1.out.p2 HA1.out.w2 HA1.out.u2).mono ?_
    rintro e W2 ⟨hb2, vb, rfl, hpb⟩
    have HA2 := Lib.hid (HA1.out.later hb2)
    have hva : va = .slice none 0 0 := HPA.out
    have hvb : vb = .slice none 0 0 := hpb
    subst hva
    subst hvb
    have hra : Hid (RdL 1 encI W2 (.slice none 0 0) []) := RdL.none
    have hrb : Hid (RdL 1 encI W2 (.slice none 0 0) []) := RdL.none
    clear hc0 hc1 hc2 hc3 hc4 hs0 hs1 hs2 hs3 hs4 hs5 hb2 hpb HA1 HS2 HPA
    go_wp2_with fail
    refine (sameInts_any _ _ _ W2 hra.out hrb.out).mono ?_
    rintro e W3 ⟨rfl, hb3⟩
    have HA3 := Lib.hid (HA2.out.later hb3)
    clear hb3 HA2 hra hrb
    have hc0 := HA3.out.t1.c0
    have hc1 := HA3.out.t1.c1
    have hc2 := HA3.out.t1.c2
    have hc3 := HA3.out.t1.c3
    have hc4 := HA3.out.t1.c4
    have hs0 := HA3.out.t1.sup 0 (by omega)
    have hs1 := HA3.out.t1.sup 1 (by omega)
    have hs2 := HA3.out.t1.sup 2 (by omega)
    have hs3 := HA3.out.t1.sup 3 (by omega)
    have hs4 := HA3.out.t1.sup 4 (by omega)
    have hs5 := HA3.out.t1.sup 5 (by omega)
    simp only [Nat.reduceAdd] at hs0 hs1 hs2 hs3 hs4 hs5
    go_wp2_with fail
    refine (HC1.out _ HA3.out.c1 HA3.out.p1 HA3.out.w1 HA3.out.u1 HA3.out.tab).mono ?_
    rintro e W4 ⟨x1, v4, hx1, rfl, ho4, hb4⟩
    have HA4 := Lib.hid (HA3.out.later hb4)
    have HX1 := Lib.hid hx1
    have HO4 := Lib.hid (ho4.rd encI_len)
    clear hc0 hc1 hc2 hc3 hc4 hs0 hs1 hs2 hs3 hs4 hs5 hb4 hx1 ho4 HA3 HC1
    have hc0 := HA4.out.t2.c0
    have hc1 := HA4.out.t2.c1
    have hc2 := HA4.out.t2.c2
    have hc3 := HA4.out.t2.c3
    have hc4 := HA4.out.t2.c4
    have hs0 := HA4.out.t2.sup 0 (by omega)
    have hs1 := HA4.out.t2.sup 1 (by omega)
    have hs2 := HA4.out.t2.sup 2 (by omega)
    have hs3 := HA4.out.t2.sup 3 (by omega)
    have hs4 := HA4.out.t2.sup 4 (by omega)
    have hs5 := HA4.out.t2.sup 5 (by omega)
    simp only [Nat.reduceAdd] at hs0 hs1 hs2 hs3 hs4 hs5
    go_wp2_with fail
    refine (HC2.out _ HA4.out.c2 HA4.out.p2 HA4.out.w2 HA4.out.u2 HA4.out.tab).mono ?_
    rintro e W5 ⟨x2, v5, hx2, rfl, ho5, hb5⟩
    have hxe : x2 = x1 := by
      have h := hx2.symm.trans HX1.out
      exact Option.some.inj h
    subst hxe
    have HA5 := Lib.hid (HA4.out.later hb5)
    have HO5 := Lib.hid (ho5.rd encI_len)
    have HO45 := Lib.hid (HO4.out.later hb5)
    clear hc0 hc1 hc2 hc3 hc4 hs0 hs1 hs2 hs3 hs4 hs5 hb5 hx2 ho5 HA4 HC2 HO4 HX1
    go_wp2_with fail
    refine (sameInts_any _ _ _ W5 HO45.out HO5.out).mono ?_
    rintro e W6 ⟨rfl, hb6⟩
    have HA6 := Lib.hid (HA5.out.later hb6)
    clear hb6 HA5 HO45 HO5
    go_wp2
    go_ret
    exact ⟨rfl, HA6.out.below⟩
  · have hsl1 : (seenL cs1 l).length = cs1.length := by simp [seenL]
    have hsl2 : (seenL cs2 l).length = cs1.length := by rw [← hP.same.len]; simp [seenL]
    have hlN : (N : Int) = (l.length : Int) := by rw [hll]
    have hl16 : ∀ (i : Nat) (x : Int), l[i]? = some x → 0 ≤ x ∧ x < 16 := fun i x hx => by
      have := hlx x (List.mem_of_getElem? hx)
      omega
    have hsn1 := fun dv W h1 h2 h3 => seen_any (N : Int) cs1 ps1 cv1 pv1 dv l W hP.ok1 h1 h2 h3 hlN hl16
    have hsn2 := fun dv W h1 h2 h3 => seen_any (N : Int) cs2 ps2 cv2 pv2 dv l W hP.ok2 h1 h2 h3 hlN hl16
    have hle1 := fun dv W h1 h2 h3 => least_any N cs1 ps1 cv1 pv1 dv (seenL cs1 l) (fun t => l.getD t 0) W hP.ok1 h1 h2 h3 hsl1 (seenL_bound cs1 l hlx) (seenL_is cs1 l)
    have hle2 := fun dv W h1 h2 h3 => least_any N cs2 ps2 cv2 pv2 dv (seenL cs2 l) (fun t => l.getD t 0) W hP.ok2 h1 h2 h3 (by rw [hsl2, hP.same.len]) (seenL_bound cs2 l hlx) (seenL_is cs2 l)
    rw [hP.same.least] at hle2
    have HSN1 := Lib.hid hsn1
    have HSN2 := Lib.hid hsn2
    have HLE1 := Lib.hid hle1
    have HLE2 := Lib.hid hle2
    have HSL1 := Lib.hid hsl1
    have HSL2 := Lib.hid hsl2
    have hn : cs1.length ≤ 20000 := hP.ok1.nc
    clear hP hsn1 hsn2 hle1 hle2 hlN hl16 hsl1 hsl2 hlx hll
    have hc0 := HA.out.t1.c0
    have hc1 := HA.out.t1.c1
    have hc2 := HA.out.t1.c2
    have hc3 := HA.out.t1.c3
    have hc4 := HA.out.t1.c4
    have hs0 := HA.out.t1.sup 0 (by omega)
    have hs1 := HA.out.t1.sup 1 (by omega)
    have hs2 := HA.out.t1.sup 2 (by omega)
    have hs3 := HA.out.t1.sup 3 (by omega)
    have hs4 := HA.out.t1.sup 4 (by omega)
    have hs5 := HA.out.t1.sup 5 (by omega)
    simp only [Nat.reduceAdd] at hs0 hs1 hs2 hs3 hs4 hs5
    clear hA hsv1 hsv2
    conv => arg 2; whnf
    go_wp2_with fail
    refine (HS1.out _ HA.out.c1 HA.out.p1 HA.out.w1 HA.out.u1).mono ?_
    rintro e W1 ⟨hb1, va, rfl, hpa⟩
    have HA1 := Lib.hid (HA.out.later hb1)
    have HPA := Lib.hid hpa
    clear hc0 hc1 hc2 hc3 hc4 hs0 hs1 hs2 hs3 hs4 hs5 hb1 hpa HA HS1
    have hc0 := HA1.out.t2.c0
    have hc1 := HA1.out.t2.c1
    have hc2 := HA1.out.t2.c2
    have hc3 := HA1.out.t2.c3
    have hc4 := HA1.out.t2.c4
    have hs0 := HA1.out.t2.sup 0 (by omega)
    have hs1 := HA1.out.t2.sup 1 (by omega)
    have hs2 := HA1.out.t2.sup 2 (by omega)
    have hs3 := HA1.out.t2.sup 3 (by omega)
    have hs4 := HA1.out.t2.sup 4 (by omega)
    have hs5 := HA1.out.t2.sup 5 (by omega)
    simp only [Nat.reduceAdd] at hs0 hs1 hs2 hs3 hs4 hs5
    go_wp2_with fail
    refine (HS2.out _ HA1.out.c2 HA1.out.p2 HA1.out.w2 HA1.out.u2).mono ?_
    rintro e W2 ⟨hb2, vb, rfl, hpb⟩
    have HA2 := Lib.hid (HA1.out.later hb2)
    have hpa : OwnI W1 W.heap.size va l := HPA.out
    have hpb : OwnI W2 W1.heap.size vb l := hpb
    have hra : Hid (RdL 1 encI W2 va l) := (hpa.rd encI_len).later hb2
    have hrb : Hid (RdL 1 encI W2 vb l) := hpb.rd encI_len
    clear hpa
    clear hc0 hc1 hc2 hc3 hc4 hs0 hs1 hs2 hs3 hs4 hs5 hb2 hpb HA1 HS2 HPA
    go_wp2_with fail
    refine (sameInts_any _ _ _ W2 hra.out hrb.out).mono ?_
    rintro e W3 ⟨rfl, hb3⟩
    have HA3 := Lib.hid (HA2.out.later hb3)
    have hra3 : Hid (RdL 1 encI W3 va l) := hra.out.later hb3
    have hrb3 : Hid (RdL 1 encI W3 vb l) := hrb.out.later hb3
    clear hb3 HA2 hra hrb
    have hc0 := HA3.out.ca.1
    have hc1 := HA3.out.ca.2.1
    have hc2 := HA3.out.ca.2.2
    go_wp2_with fail
    refine (HSN1.out _ _ HA3.out.c1 HA3.out.p1 hra3.out).mono ?_
    rintro e W4 ⟨v4, rfl, ho4, hb4⟩
    have HA4 := Lib.hid (HA3.out.later hb4)
    have HV4 := Lib.hid (ho4.rd encI_len)
    have hrb4 : Hid (RdL 1 encI W4 vb l) := hrb3.out.later hb4
    clear hc0 hc1 hc2 hb4 ho4 HA3 HSN1 hra3 hrb3
    have hc0 := HA4.out.cb.1
    have hc1 := HA4.out.cb.2.1
    have hc2 := HA4.out.cb.2.2
    go_wp2_with fail
    refine (HSN2.out _ _ HA4.out.c2 HA4.out.p2 hrb4.out).mono ?_
    rintro e W5 ⟨v5, rfl, ho5, hb5⟩
    have HA5 := Lib.hid (HA4.out.later hb5)
    have HV5 := Lib.hid (ho5.rd encI_len)
    have HV45 := Lib.hid (HV4.out.later hb5)
    clear hc0 hc1 hc2 hb5 ho5 HA4 HSN2 hrb4 HV4
    obtain ⟨pa, pc, rfl, -, hpA⟩ := HV45.out.slice
    obtain ⟨qa, qc, rfl, -, hqA⟩ := HV5.out.slice
    rw [HSL1.out] at HV45 ⊢
    rw [HSL2.out] at HV5 ⊢
    have HPA5 := Lib.hid hpA
    have HQA5 := Lib.hid hqA
    clear hpA hqA
    go_wp2_with fail
    go_loopw [35] (fun i wr => ∃ k : Nat, k ≤ cs1.length ∧ i = .int .i64 k ∧ Below W5.heap.size W5 wr) (fun i _ => cs1.length - (intOf i).toNat)
    case atStart => exact ⟨0, Nat.zero_le _, rfl, Below.refl _ _⟩
    case round =>
      obtain ⟨k, hk, rfl, hb⟩ := hrel
      have HA6 := Lib.hid (HA5.out.later hb)
      have HB := Lib.hid hb
      clear hb
      have hw64 : wrap64 ((k : Int) + 1) = (k : Int) + 1 := w64_succ k (by omega)
      have hk0 : (0 : Int) ≤ (k : Int) := by omega
      by_cases hlt : k < cs1.length
      · have hl2 : decide ((k : Int) < (cs1.length : Int)) = true := by simp; omega
        have hl3 : ((k : Int) < (cs1.length : Int)) = True := by simp; omega
        obtain ⟨y, hy⟩ : ∃ y, (seenL cs1 l)[k]? = some y := ⟨_, List.getElem?_eq_getElem (by rw [HSL1.out]; exact hlt)⟩
        have hy2 : (seenL cs2 l)[tM k]? = some y := (HP.out.same.seenEq l k hlt).trans hy
        have htk := HP.out.same.lt k hlt
        obtain ⟨pb, po, rfl, hpl, hpc⟩ := rdI_open HPA5.out (by rw [HSL1.out]; omega)
        obtain ⟨qb, qo, rfl, hql, hqc⟩ := rdI_open HQA5.out (by rw [HSL2.out]; omega)
        have hcp : wr.drew.cell? ⟨pb, po + k, none⟩ = some (.int .i64 y) := (HB.out.cell (p := ⟨pb, po + k, none⟩) hpl).trans (hpc k y hy)
        have hcq : wr.drew.cell? ⟨qb, qo + tM k, none⟩ = some (.int .i64 y) := (HB.out.cell (p := ⟨qb, qo + tM k, none⟩) hql).trans (hqc (tM k) y hy2)
        have hcr : wr.drew.cell? ⟨R, k, none⟩ = some (.int .i64 ((tM k : Nat) : Int)) := by
          have h : wr.cell? ⟨R, k, none⟩ = some (.int .i64 ((tM k : Nat) : Int)) := by rw [cell_of_row _ _ k _ _ _ HA6.out.r, rowN_get _ _ _ hlt]
          exact h
        have ht0 : (0 : Int) ≤ ((tM k : Nat) : Int) := by omega
        have ht1 : (((tM k : Nat) : Int) < (cs1.length : Int)) = True := by simp; omega
        generalize tM k = t at hcq hcr ht0 ht1
        clear hpc hqc hy hy2 htk hpl hql HA6
        go_wp2_with fail
        refine start_ (n := 12) (S := fun w' => w'.cell? ⟨pb, po + k, none⟩ = some (.int .i64 y) ∧ w'.cell? ⟨qb, qo + t, none⟩ = some (.int .i64 y) ∧ w'.cell? ⟨R, k, none⟩ = some (.int .i64 (t : Int))) (ds := []) #[false, false, false, false, false, false, false, false, false, false, false, false] (by kernel_rfl) rfl rfl ⟨hcp, hcq, hcr⟩ (fun hHeld => ?_)
        refine pure_ (i := 0) (N := some 400) (v := ?_) (a' := ?_) #[true, false, false, false, false, false, false, false, false, false, false, false] rfl rfl (by kernel_rfl) (fun _ _ _ h => h) (Or.inl ⟨by rfl, ?_⟩) ?_ ?_
        rotate_left
        · intro w'
          go_simp
          with_reducible rfl
        rotate_left
        · simp only [Act.put, List.setIfInBounds_toArray, List.set_cons_zero, List.set_cons_succ, i64_w, i32_w]
          rfl
        refine pure_ (i := 1) (N := some 401) (v := ?_) (a' := ?_) #[true, true, false, false, false, false, false, false, false, false, false, false] rfl rfl (by kernel_rfl) (fun _ _ _ h => h) (Or.inl ⟨by rfl, ?_⟩) ?_ ?_
        rotate_left
        · intro w'
          go_simp
          with_reducible rfl
        rotate_left
        · simp only [Act.put, List.setIfInBounds_toArray, List.set_cons_zero, List.set_cons_succ, i64_w, i32_w]
          rfl
        refine pure_ (i := 2) (N := some 402) (v := ?_) (a' := ?_) #[true, true, true, false, false, false, false, false, false, false, false, false] rfl rfl (by kernel_rfl) (fun _ _ _ h => h) (Or.inl ⟨by rfl, ?_⟩) ?_ ?_
        rotate_left
        · intro w'
          go_simp
          with_reducible rfl
        rotate_left
        · simp only [Act.put, List.setIfInBounds_toArray, List.set_cons_zero, List.set_cons_succ, i64_w, i32_w]
          rfl
        refine pure_ (i := 4) (N := some 404) (v := ?_) (a' := ?_) #[true, true, true, false, true, false, false, false, false, false, false, false] rfl rfl (by kernel_rfl) (fun _ _ _ h => h) (Or.inl ⟨by rfl, ?_⟩) ?_ ?_
        rotate_left
        · intro w'
          go_simp
          with_reducible rfl
        rotate_left
        · simp only [Act.put, List.setIfInBounds_toArray, List.set_cons_zero, List.set_cons_succ, i64_w, i32_w]
          rfl
        refine pure_ (i := 5) (N := some 405) (v := ?_) (a' := ?_) #[true, true, true, false, true, true, false, false, false, false, false, false] rfl rfl (by kernel_rfl) (fun _ _ _ h => h) (Or.inl ⟨by rfl, ?_⟩) ?_ ?_
        rotate_left
        · intro w'
          go_simp
          with_reducible rfl
        rotate_left
        · simp only [Act.put, List.setIfInBounds_toArray, List.set_cons_zero, List.set_cons_succ, i64_w, i32_w]
          rfl
        refine pure_ (i := 6) (N := some 406) (v := ?_) (a' := ?_) #[true, true, true, false, true, true, true, false, false, false, false, false] rfl rfl (by kernel_rfl) (fun _ _ _ h => h) (Or.inl ⟨by rfl, ?_⟩) ?_ ?_
        rotate_left
        · intro w'
          go_simp
          with_reducible rfl
        rotate_left
        · simp only [Act.put, List.setIfInBounds_toArray, List.set_cons_zero, List.set_cons_succ, i64_w, i32_w]
          rfl
        refine pure_ (i := 7) (N := some 407) (v := ?_) (a' := ?_) #[true, true, true, false, true, true, true, true, false, false, false, false] rfl rfl (by kernel_rfl) (fun _ _ _ h => h) (Or.inl ⟨by rfl, ?_⟩) ?_ ?_
        rotate_left
        · intro w'
          go_simp
          with_reducible rfl
        rotate_left
        · simp only [Act.put, List.setIfInBounds_toArray, List.set_cons_zero, List.set_cons_succ, i64_w, i32_w]
          rfl
        refine take_ (i := 3) (N := some 403) (v := ?_) (a' := ?_) #[true, true, true, true, true, true, true, true, false, false, false, false] rfl rfl (by kernel_rfl) (fun _ _ _ h => h) (Or.inl ⟨by rfl, ?_⟩) hHeld ?_ ?_
        rotate_left
        · rintro w' ⟨s0, s1, s2⟩
          go_simp
          with_reducible rfl
        rotate_left
        · simp only [Act.put, List.setIfInBounds_toArray, List.set_cons_zero, List.set_cons_succ, i64_w, i32_w]
          rfl
        refine take_ (i := 8) (N := some 408) (v := ?_) (a' := ?_) #[true, true, true, true, true, true, true, true, true, false, false, false] rfl rfl (by kernel_rfl) (fun _ _ _ h => h) (Or.inl ⟨by rfl, ?_⟩) hHeld ?_ ?_
        rotate_left
        · rintro w' ⟨s0, s1, s2⟩
          go_simp
          with_reducible rfl
        rotate_left
        · simp only [Act.put, List.setIfInBounds_toArray, List.set_cons_zero, List.set_cons_succ, i64_w, i32_w]
          rfl
        refine pure_ (i := 9) (N := some 409) (v := ?_) (a' := ?_) #[true, true, true, true, true, true, true, true, true, true, false, false] rfl rfl (by kernel_rfl) (fun _ _ _ h => h) (Or.inl ⟨by rfl, ?_⟩) ?_ ?_
        rotate_left
        · intro w'
          go_simp
          with_reducible rfl
        rotate_left
        · simp only [Act.put, List.setIfInBounds_toArray, List.set_cons_zero, List.set_cons_succ, i64_w, i32_w]
          rfl
        refine take_ (i := 10) (N := some 410) (v := ?_) (a' := ?_) #[true, true, true, true, true, true, true, true, true, true, true, false] rfl rfl (by kernel_rfl) (fun _ _ _ h => h) (Or.inl ⟨by rfl, ?_⟩) hHeld ?_ ?_
        rotate_left
        · rintro w' ⟨s0, s1, s2⟩
          go_simp
          with_reducible rfl
        rotate_left
        · simp only [Act.put, List.setIfInBounds_toArray, List.set_cons_zero, List.set_cons_succ, i64_w, i32_w]
          rfl
        refine pure_ (i := 11) (N := some 411) (v := ?_) (a' := ?_) #[true, true, true, true, true, true, true, true, true, true, true, true] rfl rfl (by kernel_rfl) (fun _ _ _ h => h) (Or.inl ⟨by rfl, ?_⟩) ?_ ?_
        rotate_left
        · intro w'
          go_simp
          with_reducible rfl
        rotate_left
        · simp only [Act.put, List.setIfInBounds_toArray, List.set_cons_zero, List.set_cons_succ, i64_w, i32_w]
          rfl
        refine done_ (by kernel_rfl) ?_
        clear hHeld hcp hcq hcr ht0 ht1
        go_wp2
        go_roundw
        case rel => exact ⟨k + 1, by omega, by go_num, HB.out.trans ((Below.refl _ _).drew)⟩
        case measure => simp [intOf]; omega
      · have hl2 : decide ((k : Int) < (cs1.length : Int)) = false := by simp; omega
        have hp6 : Hid (RdL 1 encI wr (.slice pa cs1.length pc) (seenL cs1 l)) := HV45.out.later HB.out
        have hq6 : Hid (RdL 1 encI wr (.slice qa cs1.length qc) (seenL cs2 l)) := HV5.out.later HB.out
        clear HPA5 HQA5 HV45 HV5 HB HA5
        have hc0 := HA6.out.ca.1
        have hc1 := HA6.out.ca.2.1
        have hc2 := HA6.out.ca.2.2
        go_wp2_with fail
        refine (HLE1.out _ _ HA6.out.c1 HA6.out.p1 hp6.out).mono ?_
        rintro e W7 ⟨R7, rfl, hr7, hb7⟩
        have HA7 := Lib.hid (HA6.out.later hb7)
        have HR7 := Lib.hid hr7
        have hq7 : Hid (RdL 1 encI W7 (.slice qa cs1.length qc) (seenL cs2 l)) := hq6.out.later hb7
        clear hc0 hc1 hc2 hb7 hr7 HA6 hp6 hq6 HLE1
        have hc0 := HA7.out.cb.1
        have hc1 := HA7.out.cb.2.1
        have hc2 := HA7.out.cb.2.2
        go_wp2_with fail
        refine (HLE2.out _ _ HA7.out.c2 HA7.out.p2 hq7.out).mono ?_
        rintro e W8 ⟨R8, rfl, hr8, hb8⟩
        have HA8 := Lib.hid (HA7.out.later hb8)
        have HR8 := Lib.hid hr8
        have HR78 := Lib.hid (HR7.out.later hb8)
        clear hc0 hc1 hc2 hb8 hr8 HA7 hq7 HLE2 HR7
        go_wp2_with fail
        refine (sameInts_any _ _ _ W8 HR78.out HR8.out).mono ?_
        rintro e W9 ⟨rfl, hb9⟩
        have HA9 := Lib.hid (HA8.out.later hb9)
        clear hb9 HA8 HR78 HR8
        go_wp2
        go_ret
        exact ⟨rfl, HA9.out.below⟩
end Go.Proofs.YtepofpnbgbmihaaDoor

/-
  The two tasks while their wishes and pairs are gathered.
-/
namespace Go.Proofs.YtepofpnbgbmihaaDoor
open Go.RowKit Go.Shelf
set_option linter.unusedSimpArgs false
set_option linter.unusedVariables false

abbrev OwnWi (w : World) (base : Nat) (v : Value) (xs : List Wi) : Prop := OwnL 51 2 encWi w base v xs
abbrev OwnU (w : World) (base : Nat) (v : Value) (xs : List Uk) : Prop := OwnL 54 2 encU w base v xs

theorem own_own {α β : Type} {e e' : TypeId} {sz sz' : Nat} {enc : α → List Value} {enc' : β → List Value} {w : World} {base base' : Nat} {v v' : Value} {xs : List α} {ys : List β} (h : OwnL e sz enc w base v xs) (h' : OwnL e' sz' enc' w base' v' ys) (hne : e ≠ e') :
    v.ownBlock = none ∨ v.ownBlock ≠ v'.ownBlock := by
  rcases h.2 with ⟨rfl, _⟩ | ⟨g, cap, cur, rfl, _, hg, _⟩
  · exact .inl rfl
  · refine .inr fun e => ?_
    exact own_type_ne h' hg hne (by rw [← e]; rfl)

/-- The cells of the tasks (xa xb ya yb) and the lists that are gathered (va vb ua ub). -/
structure TkQ (W0 wr : World) (T1 T2 N : Nat) (cv1 pv1 cv2 pv2 : Value) (s : Nat → Int) (xa xb ya yb va vb ua ub : Value) (ws ws2 : List Wi) (us us2 : List Uk) : Prop where
  t1 : TaskAt wr T1 N cv1 pv1 xa ya s
  t2 : TaskAt wr T2 N cv2 pv2 xb yb s
  oa : OwnWi wr W0.heap.size va ws
  ob : OwnWi wr W0.heap.size vb ws2
  pa : OwnU wr W0.heap.size ua us
  pb : OwnU wr W0.heap.size ub us2
  na : ∀ k, va.ownBlock = some k → vb.ownBlock ≠ some k
  nu : ∀ k, ua.ownBlock = some k → ub.ownBlock ≠ some k
  below : Below W0.heap.size W0 wr
  g1 : W0.heap.size ≤ T1
  g2 : W0.heap.size ≤ T2
  ne : T1 ≠ T2
section
variable {W0 wr w' : World} {T1 T2 N : Nat} {cv1 pv1 cv2 pv2 : Value} {s : Nat → Int} {xa xb ya yb va vb ua ub va' : Value} {ws ws2 ws' : List Wi} {us us2 us' : List Uk}
theorem TkQ.later (h : TkQ W0 wr T1 T2 N cv1 pv1 cv2 pv2 s xa xb ya yb va vb ua ub ws ws2 us us2) (hb : Below wr.heap.size wr w') : TkQ W0 w' T1 T2 N cv1 pv1 cv2 pv2 s xa xb ya yb va vb ua ub ws ws2 us us2 :=
  ⟨h.t1.later hb, h.t2.later hb, h.oa.later hb, h.ob.later hb, h.pa.later hb, h.pb.later hb, h.na, h.nu, h.below.trans (hb.mono h.below.size), h.g1, h.g2, h.ne⟩
theorem hat_ne {α : Type} {e : TypeId} {sz : Nat} {enc : α → List Value} {base : Nat} {vb : Value} {xs : List α} (hat : Hat wr va va') (hob : OwnL e sz enc wr base vb xs) (hn : ∀ k, va.ownBlock = some k → vb.ownBlock ≠ some k) : ∀ k, va'.ownBlock = some k → vb.ownBlock ≠ some k := fun k hk hb => by
  rcases hat with h1 | ⟨b, h1, h2⟩
  · exact hn k (h1 ▸ hk) hb
  · rw [h1] at hk
    injection hk with hk
    have := (hob.lt k hb).2
    omega
theorem ne_kept {v v2 : Value} (hn : ∀ k, v.ownBlock = some k → v2.ownBlock ≠ some k) : v2.ownBlock = none ∨ v2.ownBlock ≠ v.ownBlock := by
  cases h : v2.ownBlock with
  | none => exact .inl rfl
  | some k => exact .inr fun e => hn k e.symm h
theorem task_kept {T : Nat} {cv pv x y : Value} {e : TypeId} {α : Type} {sz : Nat} {enc : α → List Value} {base : Nat} {xs : List α} (ht : TaskAt wr T N cv pv x y s) (ho : OwnL e sz enc wr base va xs) (hne : (49 : TypeId) ≠ e) (hg : wr.grownBy w' va.ownBlock) : TaskAt w' T N cv pv x y s :=
  ⟨(hg.block _ ht.lt (fun h => own_type_ne ho ht.row hne h.symm)).trans ht.row⟩
theorem below_app {α : Type} {e : TypeId} {sz : Nat} {enc : α → List Value} {xs : List α} (hb : Below W0.heap.size W0 wr) (ho : OwnL e sz enc wr W0.heap.size va xs) (hg : wr.grownBy w' va.ownBlock) : Below W0.heap.size W0 w' :=
  hb.grown hg hb.size (fun k hk => (ho.lt k hk).1)
theorem TkQ.appA (h : TkQ W0 wr T1 T2 N cv1 pv1 cv2 pv2 s xa xb ya yb va vb ua ub ws ws2 us us2) (ho : OwnWi w' W0.heap.size va' ws') (hg : wr.grownBy w' va.ownBlock) (hat : Hat wr va va') : TkQ W0 w' T1 T2 N cv1 pv1 cv2 pv2 s xa xb ya yb va' vb ua ub ws' ws2 us us2 :=
  ⟨task_kept h.t1 h.oa (by decide) hg, task_kept h.t2 h.oa (by decide) hg, ho, h.ob.kept hg (ne_kept h.na), h.pa.kept hg (own_own h.pa h.oa (by decide)), h.pb.kept hg (own_own h.pb h.oa (by decide)), hat_ne hat h.ob h.na, h.nu, below_app h.below h.oa hg, h.g1, h.g2, h.ne⟩
theorem TkQ.appB (h : TkQ W0 wr T1 T2 N cv1 pv1 cv2 pv2 s xa xb ya yb va vb ua ub ws ws2 us us2) (ho : OwnWi w' W0.heap.size va' ws') (hg : wr.grownBy w' vb.ownBlock) (hat : Hat wr vb va') : TkQ W0 w' T1 T2 N cv1 pv1 cv2 pv2 s xa xb ya yb va va' ua ub ws ws' us us2 :=
  ⟨task_kept h.t1 h.ob (by decide) hg, task_kept h.t2 h.ob (by decide) hg, h.oa.kept hg (ne_kept fun k hk hb => h.na k hb hk), ho, h.pa.kept hg (own_own h.pa h.ob (by decide)), h.pb.kept hg (own_own h.pb h.ob (by decide)), fun k hk hb => hat_ne hat h.oa (fun k hk hb => h.na k hb hk) k hb hk, h.nu, below_app h.below h.ob hg, h.g1, h.g2, h.ne⟩
theorem TkQ.appP (h : TkQ W0 wr T1 T2 N cv1 pv1 cv2 pv2 s xa xb ya yb va vb ua ub ws ws2 us us2) (ho : OwnU w' W0.heap.size va' us') (hg : wr.grownBy w' ua.ownBlock) (hat : Hat wr ua va') : TkQ W0 w' T1 T2 N cv1 pv1 cv2 pv2 s xa xb ya yb va vb va' ub ws ws2 us' us2 :=
  ⟨task_kept h.t1 h.pa (by decide) hg, task_kept h.t2 h.pa (by decide) hg, h.oa.kept hg (own_own h.oa h.pa (by decide)), h.ob.kept hg (own_own h.ob h.pa (by decide)), ho, h.pb.kept hg (ne_kept h.nu), h.na, hat_ne hat h.pb h.nu, below_app h.below h.pa hg, h.g1, h.g2, h.ne⟩
theorem TkQ.appR (h : TkQ W0 wr T1 T2 N cv1 pv1 cv2 pv2 s xa xb ya yb va vb ua ub ws ws2 us us2) (ho : OwnU w' W0.heap.size va' us') (hg : wr.grownBy w' ub.ownBlock) (hat : Hat wr ub va') : TkQ W0 w' T1 T2 N cv1 pv1 cv2 pv2 s xa xb ya yb va vb ua va' ws ws2 us us' :=
  ⟨task_kept h.t1 h.pb (by decide) hg, task_kept h.t2 h.pb (by decide) hg, h.oa.kept hg (own_own h.oa h.pb (by decide)), h.ob.kept hg (own_own h.ob h.pb (by decide)), h.pa.kept hg (ne_kept fun k hk hb => h.nu k hb hk), ho, h.na, fun k hk hb => hat_ne hat h.pa (fun k hk hb => h.nu k hb hk) k hb hk, below_app h.below h.pb hg, h.g1, h.g2, h.ne⟩
theorem own_set {α : Type} {e : TypeId} {sz : Nat} {enc : α → List Value} {base : Nat} {xs : List α} {T : Nat} {cs : Array Value} {x : Value} {c : Nat} (ho : OwnL e sz enc wr base va xs) (ht : wr.heap[T]? = some (.cells cs 49 (0, 0))) (hne : (49 : TypeId) ≠ e) : OwnL e sz enc (wr.setCell ⟨T, c, none⟩ x) base va xs :=
  OwnL.kp ho (Kp.setCell wr ⟨T, c, none⟩ x (S := fun k => k = T) rfl) (fun k hk h => own_type_ne ho ht hne (h ▸ hk))
theorem TaskAt.other {T T' N : Nat} {cv pv x y v : Value} {c : Nat} (h : TaskAt wr T N cv pv x y s) (hne : T ≠ T') : TaskAt (wr.setCell ⟨T', c, none⟩ v) T N cv pv x y s :=
  ⟨(Below.heap_setCell wr ⟨T', c, none⟩ _ _ hne).trans h.row⟩
theorem TaskAt.set3 {T N : Nat} {cv pv x y v : Value} (h : TaskAt wr T N cv pv x y s) : TaskAt (wr.setCell ⟨T, 3, none⟩ v) T N cv pv v y s := ⟨heap_setCell_same wr T 3 _ _ v h.row⟩
theorem TaskAt.set4 {T N : Nat} {cv pv x y v : Value} (h : TaskAt wr T N cv pv x y s) : TaskAt (wr.setCell ⟨T, 4, none⟩ v) T N cv pv x v s := ⟨heap_setCell_same wr T 4 _ _ v h.row⟩
theorem TkQ.setA (h : TkQ W0 wr T1 T2 N cv1 pv1 cv2 pv2 s xa xb ya yb va vb ua ub ws ws2 us us2) (x : Value) : TkQ W0 (wr.setCell ⟨T1, 3, none⟩ x) T1 T2 N cv1 pv1 cv2 pv2 s x xb ya yb va vb ua ub ws ws2 us us2 :=
  ⟨h.t1.set3, h.t2.other (Ne.symm h.ne), own_set h.oa h.t1.row (by decide), own_set h.ob h.t1.row (by decide), own_set h.pa h.t1.row (by decide), own_set h.pb h.t1.row (by decide), h.na, h.nu, h.below.setCell h.g1 _, h.g1, h.g2, h.ne⟩
theorem TkQ.setB (h : TkQ W0 wr T1 T2 N cv1 pv1 cv2 pv2 s xa xb ya yb va vb ua ub ws ws2 us us2) (x : Value) : TkQ W0 (wr.setCell ⟨T2, 3, none⟩ x) T1 T2 N cv1 pv1 cv2 pv2 s xa x ya yb va vb ua ub ws ws2 us us2 :=
  ⟨h.t1.other h.ne, h.t2.set3, own_set h.oa h.t2.row (by decide), own_set h.ob h.t2.row (by decide), own_set h.pa h.t2.row (by decide), own_set h.pb h.t2.row (by decide), h.na, h.nu, h.below.setCell h.g2 _, h.g1, h.g2, h.ne⟩
theorem TkQ.setP (h : TkQ W0 wr T1 T2 N cv1 pv1 cv2 pv2 s xa xb ya yb va vb ua ub ws ws2 us us2) (x : Value) : TkQ W0 (wr.setCell ⟨T1, 4, none⟩ x) T1 T2 N cv1 pv1 cv2 pv2 s xa xb x yb va vb ua ub ws ws2 us us2 :=
  ⟨h.t1.set4, h.t2.other (Ne.symm h.ne), own_set h.oa h.t1.row (by decide), own_set h.ob h.t1.row (by decide), own_set h.pa h.t1.row (by decide), own_set h.pb h.t1.row (by decide), h.na, h.nu, h.below.setCell h.g1 _, h.g1, h.g2, h.ne⟩
theorem TkQ.setR (h : TkQ W0 wr T1 T2 N cv1 pv1 cv2 pv2 s xa xb ya yb va vb ua ub ws ws2 us us2) (x : Value) : TkQ W0 (wr.setCell ⟨T2, 4, none⟩ x) T1 T2 N cv1 pv1 cv2 pv2 s xa xb ya x va vb ua ub ws ws2 us us2 :=
  ⟨h.t1.other h.ne, h.t2.set4, own_set h.oa h.t2.row (by decide), own_set h.ob h.t2.row (by decide), own_set h.pa h.t2.row (by decide), own_set h.pb h.t2.row (by decide), h.na, h.nu, h.below.setCell h.g2 _, h.g1, h.g2, h.ne⟩
end
end Go.Proofs.YtepofpnbgbmihaaDoor

/-
  The law's middle part: the two tasks.
-/
namespace Go.Proofs.YtepofpnbgbmihaaDoor
open Go.RowKit Go.Shelf Go.Proofs.YtepofpnbgbmihaaDoorW.PrintLast
set_option linter.unusedSimpArgs false
set_option linter.unusedVariables false

/-- A pair of the input. -/
structure Ul where
  a : Int
  b : Int
def encUl (x : Ul) : List Value := [.int .u16 x.a, .int .u16 x.b]
/-- The store of a whole row. -/
theorem store_whole {P : Program} {t : TypeId} {w : World} {B : Nat} {cs cs2 : Array Value} {t0 : TypeId} (hi : (P.info? t).map (·.size) = some cs2.size) (h : w.heap[B]? = some (.cells cs t0 (0, 0))) (hs : cs2.size = cs.size) (h1 : ∀ v ∈ cs2.toList, v.oneCell' = true) :
    (Instr.storeAt t (.pointer (some ⟨B, 0, none⟩)) (.agg cs2)).run P w = .ok () (w.setRow B cs2) := by
  have hst := run_storeCells_at P B 0 t0 cs2.toList 0 cs w h (by simp; omega) h1
  have e : (cs.toList.take (0 + 0) ++ cs2.toList ++ cs.toList.drop (0 + 0 + cs2.toList.length)).toArray = cs2 := by
    rw [List.drop_eq_nil_of_le (by simp; omega)]
    simp
  rw [e] at hst
  cases hq : P.info? t with
  | none => rw [hq] at hi; simp at hi
  | some i =>
    have hsz : i.size = cs2.size := by rw [hq] at hi; simpa using hi
    simp only [Instr.storeAt, Instr.sureAddr, Sem.run_bind, Sem.run_pure, Result.andThen_ok]
    simp [storeVar, sizeOf, typeInfo, hq, Value.cells, hsz, hst]
theorem info_task : (Tryd.prog.info? 49).map (·.size) = some 11 := by kernel_rfl

/-- What lies when the two cloths agree. -/
structure P2At (w W : World) (D0 A B R N : Nat) (cs1 cs2 : List Crs) (ps1 ps2 : List Pn) (xs : List Wi) (ys : List Ul) (tM : Nat → Nat) (p : Int) (sv wv uv cv1 pv1 cv2 pv2 : Value) (s : Nat → Int) : Prop where
  d : W.heap[D0]? = some (.cells #[.int .i64 p, sv, wv, uv, .int .i64 (s 0), .int .i64 (s 1), .int .i64 (s 2), .int .i64 (s 3), .int .i64 (s 4), .int .i64 (s 5)] 29 (0, 0))
  a : W.heap[A]? = some (.cells #[.int .i64 N, cv1, pv1] 41 (0, 0))
  b : W.heap[B]? = some (.cells #[.int .i64 N, cv2, pv2] 41 (0, 0))
  r : W.heap[R]? = some (.cells (rowN cs1.length fun m => ((tM m : Nat) : Int)) 3 (0, 0))
  c1 : RdL 4 encX W cv1 cs1
  p1 : RdL 4 encP W pv1 ps1
  c2 : RdL 4 encX W cv2 cs2
  p2 : RdL 4 encP W pv2 ps2
  wr : RdL 2 encWi W wv xs
  ur : RdL 2 encUl W uv ys
  tab : Tab W
  below : Below w.heap.size w W
section
variable {w W W' : World} {D0 A B R N : Nat} {cs1 cs2 : List Crs} {ps1 ps2 : List Pn} {xs : List Wi} {ys : List Ul} {tM : Nat → Nat} {p : Int} {sv wv uv cv1 pv1 cv2 pv2 : Value} {s : Nat → Int}
theorem P2At.later (h : P2At w W D0 A B R N cs1 cs2 ps1 ps2 xs ys tM p sv wv uv cv1 pv1 cv2 pv2 s) (hb : Below W.heap.size W W') : P2At w W' D0 A B R N cs1 cs2 ps1 ps2 xs ys tM p sv wv uv cv1 pv1 cv2 pv2 s :=
  ⟨(hb.block _ (Array.getElem?_eq_some_iff.1 h.d).1).trans h.d, (hb.block _ (Array.getElem?_eq_some_iff.1 h.a).1).trans h.a, (hb.block _ (Array.getElem?_eq_some_iff.1 h.b).1).trans h.b, (hb.block _ (Array.getElem?_eq_some_iff.1 h.r).1).trans h.r, h.c1.later hb, h.p1.later hb, h.c2.later hb, h.p2.later hb, h.wr.later hb, h.ur.later hb, h.tab.kp h.tab.lt hb, h.below.trans (hb.mono h.below.size)⟩
theorem P2At.cells (h : P2At w W D0 A B R N cs1 cs2 ps1 ps2 xs ys tM p sv wv uv cv1 pv1 cv2 pv2 s) :
    W.cell? ⟨A, 0, none⟩ = some (.int .i64 N) ∧ W.cell? ⟨A, 1, none⟩ = some cv1 ∧ W.cell? ⟨A, 2, none⟩ = some pv1 ∧ W.cell? ⟨B, 0, none⟩ = some (.int .i64 N) ∧ W.cell? ⟨B, 1, none⟩ = some cv2 ∧ W.cell? ⟨B, 2, none⟩ = some pv2 ∧
    W.cell? ⟨D0, 4, none⟩ = some (.int .i64 (s 0)) ∧ W.cell? ⟨D0, 5, none⟩ = some (.int .i64 (s 1)) ∧ W.cell? ⟨D0, 6, none⟩ = some (.int .i64 (s 2)) ∧ W.cell? ⟨D0, 7, none⟩ = some (.int .i64 (s 3)) ∧ W.cell? ⟨D0, 8, none⟩ = some (.int .i64 (s 4)) ∧ W.cell? ⟨D0, 9, none⟩ = some (.int .i64 (s 5)) := by
  refine ⟨?_, ?_, ?_, ?_, ?_, ?_, ?_, ?_, ?_, ?_, ?_, ?_⟩
  · rw [cell_of_row _ _ 0 _ _ _ h.a]; rfl
  · rw [cell_of_row _ _ 1 _ _ _ h.a]; rfl
  · rw [cell_of_row _ _ 2 _ _ _ h.a]; rfl
  · rw [cell_of_row _ _ 0 _ _ _ h.b]; rfl
  · rw [cell_of_row _ _ 1 _ _ _ h.b]; rfl
  · rw [cell_of_row _ _ 2 _ _ _ h.b]; rfl
  · rw [cell_of_row _ _ 4 _ _ _ h.d]; rfl
  · rw [cell_of_row _ _ 5 _ _ _ h.d]; rfl
  · rw [cell_of_row _ _ 6 _ _ _ h.d]; rfl
  · rw [cell_of_row _ _ 7 _ _ _ h.d]; rfl
  · rw [cell_of_row _ _ 8 _ _ _ h.d]; rfl
  · rw [cell_of_row _ _ 9 _ _ _ h.d]; rfl
/-- The two tasks made. -/
theorem TkQ.start {W0 w2 : World} {T1 T2 : Nat} (hb : Below W0.heap.size W0 w2) (h1 : w2.heap[T1]? = some (.cells #[.int .i64 0, .slice none 0 0, .slice none 0 0, .slice none 0 0, .slice none 0 0, .int .i64 0, .int .i64 0, .int .i64 0, .int .i64 0, .int .i64 0, .int .i64 0] 49 (0, 0)))
    (h2 : w2.heap[T2]? = some (.cells #[.int .i64 0, .slice none 0 0, .slice none 0 0, .slice none 0 0, .slice none 0 0, .int .i64 0, .int .i64 0, .int .i64 0, .int .i64 0, .int .i64 0, .int .i64 0] 49 (0, 0))) (g1 : W0.heap.size ≤ T1) (g2 : W0.heap.size ≤ T2) (ne : T1 ≠ T2) :
    TkQ W0 ((w2.setRow T1 (taskA N cv1 pv1 (.slice none 0 0) (.slice none 0 0) s)).setRow T2 (taskA N cv2 pv2 (.slice none 0 0) (.slice none 0 0) s)) T1 T2 N cv1 pv1 cv2 pv2 s (.slice none 0 0) (.slice none 0 0) (.slice none 0 0) (.slice none 0 0) (.slice none 0 0) (.slice none 0 0) (.slice none 0 0) (.slice none 0 0) [] [] [] [] := by
  have k2 : (w2.setRow T1 (taskA N cv1 pv1 (.slice none 0 0) (.slice none 0 0) s)).heap[T2]? = _ := (setRow_other _ _ _ _ (Ne.symm ne)).trans h2
  have hK : Kp w2 ((w2.setRow T1 (taskA N cv1 pv1 (.slice none 0 0) (.slice none 0 0) s)).setRow T2 (taskA N cv2 pv2 (.slice none 0 0) (.slice none 0 0) s)) (fun k => k = T1 ∨ k = T2) :=
    ⟨rfl, rfl, rfl, by simp, fun i _ hi => (setRow_other _ _ _ _ (fun e => hi (.inr e))).trans (setRow_other _ _ _ _ (fun e => hi (.inl e)))⟩
  exact ⟨⟨(setRow_other _ _ _ _ ne).trans (setRow_heap _ _ _ _ _ _ h1)⟩, ⟨setRow_heap _ _ _ _ _ _ k2⟩, OwnL.nil, OwnL.nil, OwnL.nil, OwnL.nil, by simp [Value.ownBlock], by simp [Value.ownBlock], Kp.below hb hb.size hK (fun k e => by rcases e with rfl | rfl <;> assumption), g1, g2, ne⟩
end
theorem taskA_one (N : Nat) (a b c d e f g h : Option Addr) (na nb nc nd ca cb cc cd : Nat) (s : Nat → Int) : ∀ v ∈ (taskA N (.slice a na ca) (.slice b nb cb) (.slice c nc cc) (.slice d nd cd) s).toList, v.oneCell' = true := by
  intro v hv
  simp only [taskA, List.mem_cons, List.not_mem_nil, or_false] at hv
  rcases hv with rfl | rfl | rfl | rfl | rfl | rfl | rfl | rfl | rfl | rfl | rfl <;> rfl
end Go.Proofs.YtepofpnbgbmihaaDoor

/-
  append to the lists of a task.
-/
namespace Go.Proofs.YtepofpnbgbmihaaDoor
open Go.RowKit Go.Shelf
theorem step_wish {W W2 : World} {ops : Array Oper} {o : Oper} {a : Act} {K : Act → World → Prop} {E : Prop} {Q : Exit → Act → World → Prop} (hgd : o.guard = none) (s x : Operand)
    (ho : o.op = .call { callee := .builtin .append, args := #[s, x], argTypes := #[25, 25] })
    (base : Nat) (v : Value) (xs : List Wi) (hs : a.eval s = v) (hown : OwnWi W base v xs) (c : Nat) (y : Wi)
    (g : Nat) (hg : g = W.heap.size) (hx : a.eval x = .slice (some ⟨g, 0, none⟩) 1 c) (hlen : xs.length < 1000000000) (hbase : base ≤ W.heap.size)
    (hW : W2 = W.alloc (.cells #[.int .i64 y.cross, .int .u8 y.al] 51))
    (h : ∀ v' w', OwnWi w' base v' (xs ++ [y]) → W.grownBy w' v.ownBlock → v' ≠ .slice none 0 0 → Hat W v v' → K (a.put o.dst v') w') :
    if Region.wanted o (yielded ops a.tmps) = true then Oper.wp Tryd.prog o a W2 K Q else E := by
  obtain ⟨i0, hi, hz0, hz1, hz2⟩ := info_parts info_wish
  exact step_app1 hgd s x 25 ho 51 i0 _ 2 16 Tryd.underlying25 hi hz0 hz1 hz2 rfl (by decide) encWi encWi_len encWi_one base v xs hs hown _ c y rfl g hg hx (by omega) hlen hbase hW h
theorem step_two {W W2 : World} {ops : Array Oper} {o : Oper} {a : Act} {K : Act → World → Prop} {E : Prop} {Q : Exit → Act → World → Prop} (hgd : o.guard = none) (s x : Operand)
    (ho : o.op = .call { callee := .builtin .append, args := #[s, x], argTypes := #[47, 47] })
    (base : Nat) (v : Value) (xs : List Uk) (hs : a.eval s = v) (hown : OwnU W base v xs) (c : Nat) (y : Uk)
    (g : Nat) (hg : g = W.heap.size) (hx : a.eval x = .slice (some ⟨g, 0, none⟩) 1 c) (hlen : xs.length < 1000000000) (hbase : base ≤ W.heap.size)
    (hW : W2 = W.alloc (.cells #[.int .i64 y.p, .int .i64 y.q] 54))
    (h : ∀ v' w', OwnU w' base v' (xs ++ [y]) → W.grownBy w' v.ownBlock → v' ≠ .slice none 0 0 → Hat W v v' → K (a.put o.dst v') w') :
    if Region.wanted o (yielded ops a.tmps) = true then Oper.wp Tryd.prog o a W2 K Q else E := by
  obtain ⟨i0, hi, hz0, hz1, hz2⟩ := info_parts info_two
  exact step_app1 hgd s x 47 ho 54 i0 _ 2 16 Tryd.underlying47 hi hz0 hz1 hz2 rfl (by decide) encU encU_len encU_one base v xs hs hown _ c y rfl g hg hx (by omega) hlen hbase hW h
end Go.Proofs.YtepofpnbgbmihaaDoor

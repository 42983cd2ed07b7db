/-
  dyeing.Clash: plain words, marks, append inside a fence.
-/
import Derived.Test.YtepofpnbgbmihaaDoorM5
import Derived.Maps.OwnIn
import Derived.Test.YtepofpnbgbmihaaDoorM3
import Derived.Deep.AppendSrc
import Derived.Deep.DeepMust
import Derived.Test.YtepofpnbgbmihaaDoorM1

/-
  dyeing.Clash: plain words, marks, append inside a fence.
-/
namespace Go.Proofs.YtepofpnbgbmihaaDoor
open Go.RowKit Go.Shelf Go.Proofs.YtepofpnbgbmihaaDoorW.PrintLast
set_option linter.unusedSimpArgs false
set_option linter.unusedVariables false

def nextU (x : Int) : Int := bits .and .u64 x (x - 1)
theorem nextU_fin : ∀ n : Fin 64, n.val ≠ 0 → 0 ≤ nextU (n.val : Int) ∧ nextU (n.val : Int) < n.val := by decide +kernel
theorem nextU_bound (x : Int) (h0 : 0 < x) (h1 : x < 64) : 0 ≤ nextU x ∧ nextU x < x := by
  obtain ⟨n, rfl⟩ := Int.eq_ofNat_of_zero_le (Int.le_of_lt h0)
  exact nextU_fin ⟨n, by omega⟩ (by simp; omega)
def bitsTo : Nat → Int → List Int
  | 0, _ => []
  | f + 1, x => if x = 0 then [] else (Lib.ctz 64 x.toNat : Nat) :: bitsTo f (nextU x)
theorem bitsTo_zero (f : Nat) : bitsTo f 0 = [] := by cases f <;> simp [bitsTo]
/-- The wishes of a set. -/
def bitsF (x : A6) : List Int := bitsTo 64 x.1
/-- The problem of the wishes of a set. -/
def pbOf (N : Nat) (s : Nat → Int) (ws : List Wi) (us : List Uk) (ov : Int → Nat) (x : A6) : Pb := madeP N s ws us ov fun i => bitOf x.1 (i : Int)
def badA (N : Nat) (s : Nat → Int) (ws : List Wi) (us : List Uk) (ov : Int → Nat) (x : A6) : Bool := (solveF (pbOf N s ws us ov x)).isNone
def setsTo (of k : Nat) : List A6 := (List.range k).flatMap (combL of)
/-- The first set whose wishes clash. -/
def clashX (p : A6 → Bool) (of : Nat) : Option A6 := (setsTo of (of + 1)).find? p
theorem setsTo_succ (of k : Nat) : setsTo of (k + 1) = setsTo of k ++ combL of k := by
  unfold setsTo
  rw [List.range_succ, List.flatMap_append, List.flatMap_singleton]
theorem full_fin : ∀ of : Fin 7, ∃ x ∈ combL of.val of.val, ∀ i, i < of.val → bitOf x.1 (i : Int) = true := by decide +kernel
theorem clashX_of (p : A6 → Bool) (of k : Nat) (hk : k ≤ of) (pre r : List A6) (x : A6) (h0 : ∀ y ∈ setsTo of k, p y = false) (h1 : combL of k = (pre ++ [x]) ++ r) (h2 : ∀ y ∈ pre, p y = false) (h3 : p x = true) : clashX p of = some x := by
  unfold clashX
  have hsplit : ∃ r2, setsTo of (of + 1) = (setsTo of k ++ pre) ++ (x :: r2) := by
    unfold setsTo
    rw [show of + 1 = k + ((of - k) + 1) by omega, List.range_add, List.flatMap_append, List.range_succ_eq_map, List.map_cons, List.flatMap_cons, Nat.add_zero, h1]
    exact ⟨_, by simp only [List.append_assoc, List.cons_append, List.nil_append]; rfl⟩
  obtain ⟨r2, hr⟩ := hsplit
  rw [hr, List.find?_append, List.find?_eq_none.2 (fun y hy => by
    rw [List.mem_append] at hy
    rcases hy with hy | hy
    · simp [h0 y hy]
    · simp [h2 y hy]), Option.none_or, List.find?_cons_of_pos h3]
theorem mayTo_congr (N : Nat) (ws : List Wi) (ov : Int → Nat) (ch ch' : Nat → Bool) : ∀ j, (∀ i, i < j → ch i = ch' i) → mayTo N ws ov ch j = mayTo N ws ov ch' j
  | 0, _ => rfl
  | j + 1, h => by
    have ih := mayTo_congr N ws ov ch ch' j (fun i hi => h i (by omega))
    cases hx : ws[j]? with
    | none =>
      show (match ws[j]? with | some x => _ | none => mayTo N ws ov ch j) = (match ws[j]? with | some x => _ | none => mayTo N ws ov ch' j)
      rw [hx]; exact ih
    | some x => rw [mayTo_succ N ws ov ch j x hx, mayTo_succ N ws ov ch' j x hx, ih, h j (by omega)]
theorem madeP_congr (N : Nat) (s : Nat → Int) (ws : List Wi) (us : List Uk) (ov : Int → Nat) (ch ch' : Nat → Bool) (h : ∀ i, i < ws.length → ch i = ch' i) : madeP N s ws us ov ch = madeP N s ws us ov ch' := by
  unfold madeP
  rw [mayTo_congr N ws ov ch ch' ws.length h]
/-- If all wishes clash, some set does. -/
theorem clashX_some (N : Nat) (s : Nat → Int) (ws : List Wi) (us : List Uk) (ov : Int → Nat) (hl : ws.length ≤ 6) (h : solveF (madeP N s ws us ov fun _ => true) = none) : ∃ x ∈ combL ws.length ws.length, badA N s ws us ov x = true := by
  obtain ⟨x, hx, hb⟩ := full_fin ⟨ws.length, by omega⟩
  refine ⟨x, hx, ?_⟩
  unfold badA pbOf
  rw [madeP_congr N s ws us ov _ (fun _ => true) hb, h]
  rfl

/-- The marks of ranges over functions that have ended. -/
def mark (D : Nat) : Deferred := { target := .collected D, args := #[] }
theorem leaves_marks {F : Fence} {n : Nat} {P : Program} {fn : Func} {tmps : Array Value} {R : Ending → World → Prop} (B : Nat) (T : World → Prop) (hT : ∀ W D, T W → B ≤ D → W.heap[D]? = some (.deferred (some [])) → T (W.putObj D (.deferred none)))
    (hfin : ∀ W, T W → LeavesIn F n P fn tmps R [] .returning W) : ∀ (Ds : List Nat) (W : World), Ds.Nodup → (∀ D ∈ Ds, B ≤ D ∧ W.heap[D]? = some (.deferred (some []))) → T W → LeavesInM F n P fn tmps R (Ds.map mark) .returning W
  | [], W, _, _, h => hfin W h
  | D :: Ds, W, hn, hD, h => by
    rw [List.nodup_cons] at hn
    obtain ⟨hB, hd⟩ := hD D (by simp)
    refine ⟨by simp, .inl ⟨D, _, rfl, run_takeDeferred hd, ?_⟩⟩
    refine leaves_marks B T hT hfin Ds _ hn.2 (fun E hE => ?_) (hT W D h hB hd)
    obtain ⟨h1, h2⟩ := hD E (by simp [hE])
    exact ⟨h1, (World.putObj_heap_other (fun e => hn.1 (by rw [← e]; exact hE))).trans h2⟩

theorem wpListIn_app1 {F : Fence} {nF : Nat} {α : Type} {P : Program} {W W2 : World} {ops : Array Oper} {rest : List Oper} {o : Oper} {a : Act} {Q : Exit → Act → World → Prop} (hgd : o.guard = none) (s x : Operand) (t : TypeId)
    (ho : o.op = .call { callee := .builtin .append, args := #[s, x], argTypes := #[t, t] })
    (e : TypeId) (i : TypeInfo) (z : Value) (size bytes : Nat) (ht : P.underlying t = some (.slice e)) (hi : P.info? e = some i) (hz : i.zero = some z)
    (hsize : i.size = size) (hby : i.bytes = bytes) (hzs : z.cells.size = size) (hsz : 0 < size) (enc : α → List Value) (hel : ∀ y, (enc y).length = size) (hone : ∀ y, ∀ u ∈ enc y, u.oneCell' = true)
    (base : Nat) (v : Value) (xs : List α) (hs : a.eval s = v) (hown : OwnL e size enc W base v xs) (cs : Array Value) (c : Nat) (y : α) (hcs : cs.toList = enc y)
    (g : Nat) (hg : g = W.heap.size) (hx : a.eval x = .slice (some ⟨g, 0, none⟩) 1 c) (hb8 : bytes ≤ 64) (hlen : xs.length < 1000000000) (hbase : base ≤ W.heap.size)
    (hW : W2 = W.alloc (.cells cs e))
    (h : ∀ v' w', OwnL e size enc w' base v' (xs ++ [y]) → W.grownBy w' v.ownBlock → v' ≠ .slice none 0 0 → Hat W v v' → wpListIn F nF P ops Q rest (a.put o.dst v') w') :
    wpListIn F nF P ops Q (o :: rest) a W2 := by
  subst hW
  subst hg
  refine wpListIn_plain hgd fun K hK => ?_
  obtain ⟨v', w', hr, h2, h3, h4, h5⟩ := run_app1 (P := P) t o.type e i z size bytes ht hi hz hsize hby hzs hsz enc hel hone base v xs hown cs c y hcs hb8 hlen hbase
  unfold Oper.wpIn
  refine ⟨by simp [Oper.about, ho, resolve, Target.leads, Sem.run_pure], ?_⟩
  rw [Oper.semAt_plain F _ _ (by rw [ho]; intro c hc'; cases hc')]
  simp [execOp, ho, resolve, invoke, builtin, hs, hx, hr, Result.andThen]
  exact hK _ _ (h v' w' h2 h3 h4 h5)
theorem app_intIn {F : Fence} {nF : Nat} {W W2 : World} {ops : Array Oper} {rest : List Oper} {o : Oper} {a : Act} {Q : Exit → Act → World → Prop} (hgd : o.guard = none) (s x : Operand)
    (ho : o.op = .call { callee := .builtin .append, args := #[s, x], argTypes := #[35, 35] })
    (base : Nat) (v : Value) (xs : List Int) (hs : a.eval s = v) (hown : OwnI W base v xs) (c : Nat) (y : Int)
    (g : Nat) (hg : g = W.heap.size) (hx : a.eval x = .slice (some ⟨g, 0, none⟩) 1 c) (hlen : xs.length < 1000000000) (hbase : base ≤ W.heap.size)
    (hW : W2 = W.alloc (.cells #[.int .i64 y] 3))
    (h : ∀ v' w', OwnI w' base v' (xs ++ [y]) → W.grownBy w' v.ownBlock → v' ≠ .slice none 0 0 → Hat W v v' → wpListIn F nF Tryd.prog ops Q rest (a.put o.dst v') w') :
    wpListIn F nF Tryd.prog ops Q (o :: rest) a W2 := by
  obtain ⟨i0, hi, hz0, hz1, hz2⟩ := info_parts info_int
  exact wpListIn_app1 hgd s x 35 ho 3 i0 (.int .i64 0) 1 8 Tryd.underlying35 hi hz0 hz1 hz2 rfl (by decide) encI encI_len encI_one base v xs hs hown _ c y rfl g hg hx (by omega) hlen hbase hW h

theorem keepsOthers_below {W W' : World} (h : Below W.heap.size W W') : KeepsOthers W W' := ⟨h.size, fun k o hk _ => (h.block k (Array.getElem?_eq_some_iff.1 hk).1).trans hk⟩
def lenOf : Value → Nat
  | .slice _ n _ => n
  | _ => 0
/-- Between two rounds of Clash. -/
structure ClI (w W : World) (N : Nat) (cv pv wv uv : Value) (s : Nat → Int) : Prop where
  t : TaskAt W w.heap.size N cv pv wv uv s
  o : W.heap[w.heap.size + 1]? = some (.cells #[.slice none 0 0] 35 (0, 0))
  e : W.heap[w.heap.size + 1 + 1]? = some (.cells #[.int .i64 0] 32 (0, 0))
  below : Below w.heap.size w W
theorem ClI.later {w W W' : World} {N : Nat} {cv pv wv uv : Value} {s : Nat → Int} (h : ClI w W N cv pv wv uv s) (hb : Below W.heap.size W W') : ClI w W' N cv pv wv uv s :=
  ⟨h.t.later hb, (hb.block _ (Array.getElem?_eq_some_iff.1 h.o).1).trans h.o, (hb.block _ (Array.getElem?_eq_some_iff.1 h.e).1).trans h.e, h.below.trans (hb.mono h.below.size)⟩
theorem ClI.lt {w W : World} {N : Nat} {cv pv wv uv : Value} {s : Nat → Int} (h : ClI w W N cv pv wv uv s) : w.heap.size + 1 + 1 < W.heap.size := (Array.getElem?_eq_some_iff.1 h.e).1
/-- What Clash leaves. -/
structure ClF (w W : World) (x : A6) : Prop where
  o : ∃ v, W.heap[w.heap.size + 1]? = some (.cells #[v] 35 (0, 0)) ∧ OwnI W w.heap.size v (bitsF x)
  e : W.heap[w.heap.size + 1 + 1]? = some (.cells #[.int .i64 0] 32 (0, 0))
  below : Below w.heap.size w W
theorem ClF.later {w W W' : World} {x : A6} (h : ClF w W x) (hb : Below W.heap.size W W') : ClF w W' x := by
  obtain ⟨⟨v, h1, h2⟩, h3, h4⟩ := h
  exact ⟨⟨v, (hb.block _ (Array.getElem?_eq_some_iff.1 h1).1).trans h1, h2.later hb⟩, (hb.block _ (Array.getElem?_eq_some_iff.1 h3).1).trans h3, h4.trans (hb.mono h4.size)⟩
theorem ClF.put {w W : World} {x : A6} {l : Nat} {q : Obj} (h : ClF w W x) (hl : W.heap[l]? = some q) (hq : q.isCells = false) (hw : w.heap.size ≤ l) (o : Obj) : ClF w (W.putObj l o) x := by
  obtain ⟨⟨v, h1, h2⟩, h3, h4⟩ := h
  have hne : ∀ k cs t fr, W.heap[k]? = some (.cells cs t fr) → k ≠ l := fun k cs t fr hk e => by
    subst e
    rw [hl] at hk
    injection hk with hk
    subst hk
    cases hq
  have hK : Kp W (W.putObj l o) (fun k => k = l) := ⟨rfl, rfl, rfl, by simp, fun i _ hi => World.putObj_heap_other hi⟩
  refine ⟨⟨v, (World.putObj_heap_other (hne _ _ _ _ h1)).trans h1, OwnL.kp h2 hK (fun k hk e => ?_)⟩, (World.putObj_heap_other (hne _ _ _ _ h3)).trans h3, Kp.below h4 h4.size hK (fun k e => by rw [e]; exact hw)⟩
  rcases h2.2 with ⟨hv, _⟩ | ⟨g, cap, cur, hv, _, hg, _⟩
  · subst hv; cases hk
  · subst hv
    injection hk with hk
    exact hne _ _ _ _ hg (hk.trans e)
/-- In the loop that lists the wishes of a set. -/
structure RdQ (w W0 wr : World) (N : Nat) (cv pv wv uv : Value) (s : Nat → Int) (X : Nat) (y : Int) (v : Value) (out : List Int) : Prop where
  i : ClI w wr N cv pv wv uv s
  x : wr.heap[X]? = some (.cells #[.int .u64 y] 84 (0, 0))
  own : OwnI wr w.heap.size v out
  ko : KeepsOthers W0 wr
  ge : w.heap.size + 1 + 1 < X
section
variable {w W0 wr wr' : World} {N : Nat} {cv pv wv uv : Value} {s : Nat → Int} {X : Nat} {y y' : Int} {v v' : Value} {out out' : List Int}
theorem RdQ.later (h : RdQ w W0 wr N cv pv wv uv s X y v out) (hb : Below wr.heap.size wr wr') : RdQ w W0 wr' N cv pv wv uv s X y v out :=
  ⟨h.i.later hb, (hb.block _ (Array.getElem?_eq_some_iff.1 h.x).1).trans h.x, h.own.later hb, h.ko.trans (keepsOthers_below hb), h.ge⟩
theorem RdQ.app (h : RdQ w W0 wr N cv pv wv uv s X y v out) (ho : OwnI wr' w.heap.size v' out') (hg : wr.grownBy wr' v.ownBlock) : RdQ w W0 wr' N cv pv wv uv s X y v' out' := by
  have n1 := own_type_ne h.own h.i.t.row (by decide)
  have n2 := own_type_ne h.own h.i.o (by decide)
  have n3 := own_type_ne h.own h.i.e (by decide)
  have n4 := own_type_ne h.own h.x (by decide)
  refine ⟨⟨⟨(hg.block _ h.i.t.lt (fun e => n1 e.symm)).trans h.i.t.row⟩, (hg.block _ (Array.getElem?_eq_some_iff.1 h.i.o).1 (fun e => n2 e.symm)).trans h.i.o, (hg.block _ (Array.getElem?_eq_some_iff.1 h.i.e).1 (fun e => n3 e.symm)).trans h.i.e, h.i.below.grown hg h.i.below.size (fun k e => (h.own.lt k e).1)⟩,
    (hg.block _ (Array.getElem?_eq_some_iff.1 h.x).1 (fun e => n4 e.symm)).trans h.x, ho, h.ko.trans (KeepsOthers.of_grownBy hg (fun j o hj ho => ?_)), h.ge⟩
  rcases h.own.2 with ⟨hv, _⟩ | ⟨g, cap, cur, hv, _, hgg, _⟩
  · subst hv; cases hj
  · subst hv
    injection hj with hj
    have hj2 : g = j := hj
    subst hj2
    rw [hgg] at ho
    injection ho with ho
    subst ho
    rfl
theorem RdQ.setX (h : RdQ w W0 wr N cv pv wv uv s X y v out) (z : Int) : RdQ w W0 (wr.setCell ⟨X, 0, none⟩ (.int .u64 z)) N cv pv wv uv s X z v out := by
  have n4 := own_type_ne h.own h.x (by decide)
  have hge := h.ge
  refine ⟨⟨⟨(Below.heap_setCell wr ⟨X, 0, none⟩ _ _ (show w.heap.size ≠ X by omega)).trans h.i.t.row⟩, (Below.heap_setCell wr ⟨X, 0, none⟩ _ _ (show w.heap.size + 1 ≠ X by omega)).trans h.i.o, (Below.heap_setCell wr ⟨X, 0, none⟩ _ _ (show w.heap.size + 1 + 1 ≠ X by omega)).trans h.i.e, h.i.below.setCell (show w.heap.size ≤ X by omega) _⟩,
    heap_setCell_same wr X 0 _ _ _ h.x, OwnL.kp h.own (Kp.setCell wr ⟨X, 0, none⟩ _ (S := fun k => k = X) rfl) (fun k hk e => n4 (e ▸ hk)), h.ko.trans (KeepsOthers.setCell _ _ _), h.ge⟩
/-- The two results stored. -/
theorem RdQ.fin (h : RdQ w W0 wr N cv pv wv uv s X y v out) (x : A6) (hx : out = bitsF x) : ClF w ((wr.setCell ⟨w.heap.size + 1, 0, none⟩ v).setCell ⟨w.heap.size + 1 + 1, 0, none⟩ (.int .i64 0)) x ∧ KeepsOthers W0 ((wr.setCell ⟨w.heap.size + 1, 0, none⟩ v).setCell ⟨w.heap.size + 1 + 1, 0, none⟩ (.int .i64 0)) := by
  have n2 := own_type_ne h.own h.i.o (by decide)
  have n3 := own_type_ne h.own h.i.e (by decide)
  have hK1 := Kp.setCell wr ⟨w.heap.size + 1, 0, none⟩ v (S := fun k => k = w.heap.size + 1) rfl
  have hK2 := Kp.setCell (wr.setCell ⟨w.heap.size + 1, 0, none⟩ v) ⟨w.heap.size + 1 + 1, 0, none⟩ (.int .i64 0) (S := fun k => k = w.heap.size + 1 + 1) rfl
  have ho1 := heap_setCell_same wr (w.heap.size + 1) 0 _ _ v h.i.o
  have he1 : (wr.setCell ⟨w.heap.size + 1, 0, none⟩ v).heap[w.heap.size + 1 + 1]? = some (.cells #[.int .i64 0] 32 (0, 0)) := (Below.heap_setCell wr ⟨w.heap.size + 1, 0, none⟩ _ _ (show w.heap.size + 1 + 1 ≠ w.heap.size + 1 by omega)).trans h.i.e
  refine ⟨⟨⟨v, (Below.heap_setCell _ ⟨w.heap.size + 1 + 1, 0, none⟩ _ _ (show w.heap.size + 1 ≠ w.heap.size + 1 + 1 by omega)).trans ho1, ?_⟩, heap_setCell_same _ (w.heap.size + 1 + 1) 0 _ _ _ he1, ?_⟩, (h.ko.trans (KeepsOthers.setCell _ _ _)).trans (KeepsOthers.setCell _ _ _)⟩
  · rw [← hx]
    exact OwnL.kp (OwnL.kp h.own hK1 (fun k hk e => n2 (e ▸ hk))) hK2 (fun k hk e => n3 (e ▸ hk))
  · exact (h.i.below.setCell (show w.heap.size ≤ w.heap.size + 1 by omega) _).setCell (show w.heap.size ≤ w.heap.size + 1 + 1 by omega) _
end
end Go.Proofs.YtepofpnbgbmihaaDoor

/-
  dyeing.Clash: its walk.
-/
namespace Go.Proofs.YtepofpnbgbmihaaDoor
open Go.RowKit Go.Shelf Go.Proofs.YtepofpnbgbmihaaDoorW.PrintLast
set_option linter.unusedSimpArgs false
set_option linter.unusedVariables false
attribute [local go_sem] Oper.semAt_some

set_option maxRecDepth 100000 in
set_option maxHeartbeats 1000000 in
theorem clash_any (N : Nat) (cs : List Crs) (ps : List Pn) (ws : List Wi) (us : List Uk) (cv pv wv uv : Value) (s : Nat → Int) (w : World) (hok : ClothOk N cs ps) (hN : N ≤ 16) (htk : TaskOk cs.length ws us) (hw6 : ws.length ≤ 6)
    (hc : RdL 4 encX w cv cs) (hp : RdL 4 encP w pv ps) (hw : RdL 2 encWi w wv ws) (hu : RdL 2 encU w uv us) (hT : Tab w) (hsup : supOk s = true) (hal : ws.all okAl = true) (hnone : solveF (madeP N s ws us (ovF cs) fun _ => true) = none) :
    Calls Tryd.prog 12 #[.agg (taskA N cv pv wv uv s)] w fun e w' => ∃ x v, clashX (badA N s ws us (ovF cs)) ws.length = some x ∧ e = .returned (.tuple #[v, .int .i64 0]) ∧ OwnI w' w.heap.size v (bitsF x) ∧ Below w.heap.size w w' := by
  have hy := fun W h1 h2 h3 h4 => dyCheck_any N cs ps ws us cv pv wv uv s W hok hN htk h1 h2 h3 h4
  have hde : dyErr s ws = 0 := by unfold dyErr; rw [hsup, hal]; rfl
  rw [hde] at hy
  have hm := fun W h1 h2 h3 => made_any N cs ps ws us cv pv wv uv s W 28 #[] (fun _ => true) (fun i x hx => ⟨(hok.cr i x hx).o0, (hok.cr i x hx).o1⟩) hN htk h1 h2 h3 (enters_of Tryd.func28 (by kernel_rfl) rfl) (fun i W' _ _ => all2_any i W')
  have hms := fun W X h1 h2 h3 ch hch => made_any N cs ps ws us cv pv wv uv s W 30 #[.pointer (some ⟨X, 0, none⟩)] ch (fun i x hx => ⟨(hok.cr i x hx).o0, (hok.cr i x hx).o1⟩) hN htk h1 h2 h3 (enters_of Tryd.func30 (by kernel_rfl) rfl) hch
  have hbd := fun ch => madeP_bnd N cs.length s ws us (ovF cs) ch htk hsup hal
  have hex := clashX_some N s ws us (ovF cs) hw6 hnone
  have HRC := Lib.hid hc
  have HRP := Lib.hid hp
  have HRW := Lib.hid hw
  have HRU := Lib.hid hu
  have HBD := Lib.hid hbd
  have HEX := Lib.hid hex
  have HNO := Lib.hid hnone
  have HT := Lib.hid hT
  obtain ⟨wa, wc, rfl, hwlen, -⟩ := hw.slice
  have g1 : (decide ((10 : Int) < (ws.length : Int))) = false := by simp; omega
  have hT0 : TaskAt (w.alloc (.cells (taskA N cv pv (.slice wa ws.length wc) uv s) 49)) w.heap.size N cv pv (.slice wa ws.length wc) uv s := ⟨World.alloc_heap_new _ _⟩
  have hI0 : ClI w (((w.alloc (.cells (taskA N cv pv (.slice wa ws.length wc) uv s) 49)).alloc (.cells #[.slice none 0 0] 35)).alloc (.cells #[.int .i64 0] 32)) N cv pv (.slice wa ws.length wc) uv s := by
    have hb : Below (w.heap.size + 1) (w.alloc (.cells (taskA N cv pv (.slice wa ws.length wc) uv s) 49)) (((w.alloc (.cells (taskA N cv pv (.slice wa ws.length wc) uv s) 49)).alloc (.cells #[.slice none 0 0] 35)).alloc (.cells #[.int .i64 0] 32)) :=
      ((Below.refl _ _).alloc (by simp) _).alloc (by simp) _
    have h1 := heap_alloc2_old (w.alloc (.cells (taskA N cv pv (.slice wa ws.length wc) uv s) 49)) (.cells #[.slice none 0 0] 35) (.cells #[.int .i64 0] 32)
    have h2 := heap_alloc2_new (w.alloc (.cells (taskA N cv pv (.slice wa ws.length wc) uv s) 49)) (.cells #[.slice none 0 0] 35) (.cells #[.int .i64 0] 32)
    rw [World.size_alloc] at h1 h2
    exact ⟨⟨(hb.block _ (by omega)).trans hT0.row⟩, h1, h2, ((Below.refl _ w).alloc (Nat.le_refl _) _).trans (hb.mono (by omega))⟩
  have HI0 := Lib.hid hI0
  clear hT0 hI0 hc hp hw hu htk hok hbd hex hnone hT hsup hal hde
  unfold taskA at hy hm hms HI0 ⊢
  have HY := Lib.hid hy
  have HM := Lib.hid hm
  have HMS := Lib.hid hms
  clear hy hm hms
  refine (callsIn_wide (n := 11)).1 ?_
  refine callsIn_of_wp_marks Tryd.func12 rfl trivial ?_
  simp only [Tryd.ntmps12, List.size_toArray, List.length_cons, List.length_nil, Nat.reduceAdd, Nat.reduceSub, Array.replicate_succ, Array.replicate_zero, List.push_toArray, List.append_toArray, List.nil_append, List.cons_append]
  refine (wpIn_wide (n := 11)).2 ?_
  go_wp2_with fail
  refine (HY.out _ (HRC.out.later HI0.out.below) (HRP.out.later HI0.out.below) (HRW.out.later HI0.out.below) (HRU.out.later HI0.out.below)).mono ?_
  rintro e w1 ⟨rfl, hb1⟩
  have HI1 := Lib.hid (HI0.out.later hb1)
  clear hb1 HI0 HY HRP
  dsimp only
  have hc0 := HI1.out.t.c0
  have hc1 := HI1.out.t.c1
  have hc2 := HI1.out.t.c2
  have hc3 := HI1.out.t.c3
  have hc4 := HI1.out.t.c4
  have hs0 := HI1.out.t.sup 0 (by omega)
  have hs1 := HI1.out.t.sup 1 (by omega)
  have hs2 := HI1.out.t.sup 2 (by omega)
  have hs3 := HI1.out.t.sup 3 (by omega)
  have hs4 := HI1.out.t.sup 4 (by omega)
  have hs5 := HI1.out.t.sup 5 (by omega)
  simp only [Nat.reduceAdd] at hs0 hs1 hs2 hs3 hs4 hs5
  go_wp2_with fail
  refine (HM.out _ (HRC.out.later HI1.out.below) (HRW.out.later HI1.out.below) (HRU.out.later HI1.out.below)).mono ?_
  rintro e w2 ⟨B, rfl, hB, hpb, hb2⟩
  have hbd := HBD.out fun _ => true
  have hmn : (madeP N s ws us (ovF cs) fun _ => true).many ≤ 16 := hN
  have HSV := Lib.hid (solve_any B _ w2 hpb hmn hbd)
  rw [HNO.out] at HSV
  have HB2 := Lib.hid hb2
  have hBw : w1.heap.size ≤ B := hB
  clear hpb hbd hb2 hc0 hc1 hc2 hc3 hc4 hs0 hs1 hs2 hs3 hs4 hs5 HM hmn
  go_wp2_with fail
  refine HSV.out.mono ?_
  rintro e w3 ⟨hK3, v3, rfl⟩
  have hB13 : Below w1.heap.size w1 w3 := Kp.below HB2.out HB2.out.size hK3 (fun k e => by rw [e]; exact hBw)
  have HI3 : Hid (ClI w w3 N cv pv (.slice wa ws.length wc) uv s) := HI1.out.later hB13
  have hc3 := HI3.out.t.c3
  clear hK3 hB13 HB2 HI1 HSV hBw hB
  go_wp2_with fail
  refine wp_loop (fun a W => ∃ (k : Nat) (u7 u33 u34 u35 u36 u37 u38 u39 u61 : Value) (Ds : List Nat), a = { tmps := #[.agg #[.int .i64 N, cv, pv, .slice wa ws.length wc, uv, .int .i64 (s 0), .int .i64 (s 1), .int .i64 (s 2), .int .i64 (s 3), .int .i64 (s 4), .int .i64 (s 5)], .pointer (some ⟨w.heap.size, 0, none⟩), .pointer (some ⟨w.heap.size + 1, 0, none⟩), .pointer (some ⟨w.heap.size + 1 + 1, 0, none⟩), .int .i64 0, v3, .bool false, u7, undef, undef, undef, undef, .agg #[.int .i64 N, cv, pv, .slice wa ws.length wc, uv, .int .i64 (s 0), .int .i64 (s 1), .int .i64 (s 2), .int .i64 (s 3), .int .i64 (s 4), .int .i64 (s 5)], .int .i64 0, .int .i64 0, .bool false, undef, .pointer (some ⟨w.heap.size, 3, none⟩), .slice wa ws.length wc, .int .i64 ws.length, .bool false, .tuple #[v3, .bool false], .agg #[.int .i64 N, cv, pv, .slice wa ws.length wc, uv, .int .i64 (s 0), .int .i64 (s 1), .int .i64 (s 2), .int .i64 (s 3), .int .i64 (s 4), .int .i64 (s 5)], .pointer (some ⟨B, 0, none⟩), .tuple #[v3, .bool false], v3, .bool false, .bool false, .pointer (some ⟨w.heap.size, 3, none⟩), .slice wa ws.length wc, .int .i64 ws.length, .int .i64 ((ws.length : Int) + 1), .int .i64 k, u33, u34, u35, u36, u37, u38, u39, undef, undef, undef, undef, undef, undef, undef, undef, undef, undef, undef, undef, undef, undef, undef, undef, undef, undef, undef, undef, undef, u61], defers := Ds.map mark } ∧ k ≤ ws.length + 1 ∧ ClI w W N cv pv (.slice wa ws.length wc) uv s ∧ Ds.Nodup ∧ (∀ D ∈ Ds, w.heap.size ≤ D ∧ W.heap[D]? = some (.deferred (some []))) ∧ (∀ y ∈ setsTo ws.length k, badA N s ws us (ovF cs) y = false))
    (fun a _ => ws.length + 1 - (intOf (a.tmps.getD 32 undef)).toNat) ?_ ?_
  · exact ⟨0, undef, undef, undef, undef, undef, undef, undef, undef, undef, [], rfl, Nat.zero_le _, HI3.out, List.nodup_nil, by simp, by simp [setsTo]⟩
  · clear hc3 HI3
    rintro a wr ⟨k, u7, u33, u34, u35, u36, u37, u38, u39, u61, Ds, rfl, hk, hI, hnd, hDs, hgood⟩
    have HI := Lib.hid hI
    have HND := Lib.hid hnd
    have HDS := Lib.hid hDs
    have HG := Lib.hid hgood
    have hc3 := hI.t.c3
    clear hI hnd hDs hgood
    generalize hdm : Ds.map mark = dfs
    have hl6 : (ws.length : Int) ≤ 6 := by omega
    have hk7 : (k : Int) ≤ 7 := by omega
    by_cases hlt : k ≤ ws.length
    · have hki : (k : Int) < (ws.length : Int) + 1 := by omega
      go_wp2_with (go_at_call 29; refine (chosen_any _ _ _).mono ?_; rintro e w4 ⟨rfl, hw4⟩; have HW4 := Lib.hid hw4; clear hw4)
      have hw4 := HW4.out
      have hb4 : Below wr.heap.size wr w4 := by rw [hw4]; exact ((Below.refl _ _).alloc (Nat.le_refl _) _).alloc (by simp) _
      have hM4 : w4.heap[wr.heap.size]? = some (.cells #[.int .i64 k] 3 (0, 0)) := by rw [hw4]; exact heap_alloc2_old wr _ _
      have hO4 : w4.heap[wr.heap.size + 1]? = some (.cells #[.int .i64 ws.length] 3 (0, 0)) := by rw [hw4]; exact heap_alloc2_new wr _ _
      have HI4 := Lib.hid (HI.out.later hb4)
      have HDS4 : Hid (∀ D ∈ Ds, w.heap.size ≤ D ∧ D < w4.heap.size ∧ w4.heap[D]? = some (.deferred (some []))) := fun D hD => by
        obtain ⟨h1, h2⟩ := HDS.out D hD
        have h3 := (Array.getElem?_eq_some_iff.1 h2).1
        exact ⟨h1, Nat.lt_of_lt_of_le h3 hb4.size, (hb4.block _ h3).trans h2⟩
      have HM4 := Lib.hid hM4
      have HO4 := Lib.hid hO4
      have hw4w : w.heap.size ≤ w4.heap.size := HI4.out.below.size
      clear hw4 HW4 hb4 hM4 hO4 HI HDS hc3
      refine (wpIn_wide (n := 10)).1 ?_
      refine rangeFunc_stops 10 (gf := 51) (lb := #[.pointer (some ⟨wr.heap.size + 1, 0, none⟩), .pointer (some ⟨wr.heap.size, 0, none⟩)]) rfl (enters_of Tryd.func51 (by kernel_rfl) rfl) (fun x : A6 => #[.int .u64 x.1]) (fun _ => rfl)
        (fun xs => xs = combL ws.length k) (fun pre => ∃ r, combL ws.length k = pre ++ r) (combL ws.length k).length (fun x => badA N s ws us (ovF cs) x = false) (fun x W => ClF w W x ∧ badA N s ws us (ovF cs) x = true) ?_ ?_ ?_ ?_ ?_ ?_
      · intro l J Jx W hbw hJ hJx hY h0
        exact callsIn_wide.2 (chosen1_any l (wr.heap.size + 1) wr.heap.size ws.length k _ J Jx hw6 (by omega) hJ (fun pre x W1 h1 h2 => yieldAt_wide (hY pre x W1 h1 h2)) W h0 ((hbw.block _ (Array.getElem?_eq_some_iff.1 HO4.out).1).trans HO4.out) ((hbw.block _ (Array.getElem?_eq_some_iff.1 HM4.out).1).trans HM4.out) (Nat.le_refl _) hJx)
      · rintro x A B ⟨h1, h2⟩ hb
        exact ⟨h1.later hb, h2⟩
      · rintro x A l r o ⟨h1, h2⟩ hl hwl
        exact ⟨h1.put hl rfl (Nat.le_trans hw4w hwl) o, h2⟩
      · rintro l ⟨x, hx0, hx1⟩ W hbw hl hwl
        simp only [List.zip_toArray, List.zip_cons_cons, List.zip_nil_right, List.foldl_toArray, List.foldl_cons, List.foldl_nil, List.setIfInBounds_toArray, List.set_cons_zero, List.set_cons_succ]
        have HIW := Lib.hid (HI4.out.later hbw)
        gi_wp2
        refine ⟨(Below.refl _ _).alloc (Nat.le_refl _) _, fun o => ?_⟩
        have hX : ((W.alloc (.cells #[.int .u64 x] 84)).putObj l o).heap[W.heap.size]? = some (.cells #[.int .u64 x] 84 (0, 0)) := (World.putObj_heap_other (by omega)).trans (World.alloc_heap_new _ _)
        have hb5 : Below w4.heap.size w4 ((W.alloc (.cells #[.int .u64 x] 84)).putObj l o) := by
          have h1 : Below w4.heap.size w4 (W.alloc (.cells #[.int .u64 x] 84)) := hbw.alloc hbw.size _
          exact ⟨h1.os, h1.tape, h1.output, by simpa using h1.size, fun i hi => (World.putObj_heap_other (by omega)).trans (h1.block i hi)⟩
        have HI5 := Lib.hid (HI4.out.later hb5)
        have hXge : w.heap.size + 1 + 1 < W.heap.size := HIW.out.lt
        generalize ((W.alloc (.cells #[.int .u64 x] 84)).putObj l o) = W0 at hX hb5 HI5 ⊢
        generalize W.heap.size = X at hX hXge ⊢
        have hXl := (Array.getElem?_eq_some_iff.1 hX).1
        have hXc : W0.cell? ⟨X, 0, none⟩ = some (.int .u64 x) := by rw [cell_of_row _ _ 0 _ _ _ hX]; rfl
        have HX := Lib.hid hX
        have hmm := HMS.out W0 X (HRC.out.later HI5.out.below) (HRW.out.later HI5.out.below) (HRU.out.later HI5.out.below) (fun i => bitOf x (i : Int)) (fun i W' _ hb => some_any X x i W' (by omega) ((hb.cell (p := ⟨X, 0, none⟩) hXl).trans hXc))
        have HMM := Lib.hid hmm
        have hc0 := HI5.out.t.c0
        have hc1 := HI5.out.t.c1
        have hc2 := HI5.out.t.c2
        have hc3 := HI5.out.t.c3
        have hc4 := HI5.out.t.c4
        have hs0 := HI5.out.t.sup 0 (by omega)
        have hs1 := HI5.out.t.sup 1 (by omega)
        have hs2 := HI5.out.t.sup 2 (by omega)
        have hs3 := HI5.out.t.sup 3 (by omega)
        have hs4 := HI5.out.t.sup 4 (by omega)
        have hs5 := HI5.out.t.sup 5 (by omega)
        simp only [Nat.reduceAdd] at hs0 hs1 hs2 hs3 hs4 hs5
        clear hX hb5 hmm hbw hl hwl HIW
        gi_wp2_with fail
        refine ⟨trivial, (CallsIn.inRound l (callsIn_wide.2 HMM.out)).mono ?_⟩
        rintro e w6 ⟨B6, rfl, hB6, hpb, hb6⟩
        have hbd := HBD.out fun i => bitOf x (i : Int)
        have hmn : (madeP N s ws us (ovF cs) fun i => bitOf x (i : Int)).many ≤ 16 := hN
        have hsv := solve_any B6 _ w6 hpb hmn hbd
        have hba : badA N s ws us (ovF cs) ⟨x, hx0, hx1⟩ = (solveF (madeP N s ws us (ovF cs) fun i => bitOf x (i : Int))).isNone := rfl
        generalize (solveF (madeP N s ws us (ovF cs) fun i => bitOf x (i : Int))) = res at hsv hba
        have HSV := Lib.hid hsv
        have HBA := Lib.hid hba
        have HB6 := Lib.hid hb6
        clear hc0 hc1 hc2 hc3 hc4 hs0 hs1 hs2 hs3 hs4 hs5 hpb hbd hmn hsv hba hb6 HMM hXc
        gi_wp2_with fail
        refine ⟨trivial, (CallsIn.inRound l (callsIn_wide.2 HSV.out)).mono ?_⟩
        rintro e w7 ⟨hK7, hpost⟩
        have HB7 : Hid (Below W0.heap.size W0 w7) := Kp.below HB6.out HB6.out.size hK7 (fun k e => by rw [e]; exact hB6)
        clear hK7 HSV HB6 hB6
        cases res with
        | some l7 =>
          obtain ⟨v7, rfl, -⟩ := hpost
          gi_wp2
          exact ⟨by rw [HBA.out]; rfl, HB7.out⟩
        | none =>
          obtain ⟨v7, rfl⟩ := hpost
          have HR0 : Hid (RdQ w W0 w7 N cv pv (.slice wa ws.length wc) uv s X x (.slice none 0 0) []) := ⟨HI5.out.later HB7.out, (HB7.out.block _ hXl).trans HX.out, OwnL.nil, keepsOthers_below HB7.out, hXge⟩
          gi_wp2_with fail
          gi_loopw [11] (fun v wq => ∃ (y : Int) (out : List Int) (f : Nat), lenOf v = out.length ∧ 0 ≤ y ∧ y < 64 ∧ y < f ∧ out.length + f = 64 ∧ Hid (out ++ bitsTo f y = bitsTo 64 x) ∧ RdQ w W0 wq N cv pv (.slice wa ws.length wc) uv s X y v out) (fun v _ => 64 - lenOf v)
          case atStart => exact ⟨x, [], 64, rfl, hx0, hx1, hx1, rfl, rfl, HR0.out⟩
          case round =>
            clear HR0 HB7 HI5 HX
            obtain ⟨y, out, f, hln, hy0, hy1, hyf, hof, HE, hQ⟩ := hrel
            have hcX : wr.cell? ⟨X, 0, none⟩ = some (.int .u64 y) := by rw [cell_of_row _ _ 0 _ _ _ hQ.x]; rfl
            have hfX := frozen_of_row wr X 0 _ _ hQ.x
            have hXlr := (Array.getElem?_eq_some_iff.1 hQ.x).1
            by_cases hyz : y = 0
            · subst hyz
              have hcO : wr.cell? ⟨w.heap.size + 1, 0, none⟩ = some (.slice none 0 0) := by rw [cell_of_row _ _ 0 _ _ _ hQ.i.o]; rfl
              have hfO := frozen_of_row wr (w.heap.size + 1) 0 _ _ hQ.i.o
              have hcE : wr.cell? ⟨w.heap.size + 1 + 1, 0, none⟩ = some (.int .i64 0) := by rw [cell_of_row _ _ 0 _ _ _ hQ.i.e]; rfl
              have hfE := frozen_of_row wr (w.heap.size + 1 + 1) 0 _ _ hQ.i.e
              obtain ⟨va, vc, hve, -⟩ := hQ.own.slice
              have hout : out = bitsF ⟨x, hx0, hx1⟩ := by
                have h := HE.out
                rw [bitsTo_zero, List.append_nil] at h
                exact h
              have HFN := Lib.hid (hQ.fin ⟨x, hx0, hx1⟩ hout)
              subst hve
              clear hQ hout
              gi_wp2
              exact ⟨⟨HFN.out.1, by rw [HBA.out]; rfl⟩, HFN.out.2⟩
            · obtain ⟨m, rfl⟩ := Int.eq_ofNat_of_zero_le hy0
              have hm0 : m ≠ 0 := fun e => hyz (by rw [e]; rfl)
              obtain ⟨hu0, hu1⟩ := nextU_bound (m : Int) (by omega) hy1
              have hnx : bits .and .u64 (m : Int) ((m : Int) - 1) = nextU (m : Int) := rfl
              obtain ⟨f', rfl⟩ : ∃ f', f = f' + 1 := ⟨f - 1, by omega⟩
              have hbt : bitsTo (f' + 1) (m : Int) = ((Lib.ctz 64 m : Nat) : Int) :: bitsTo f' (nextU (m : Int)) := by
                show (if (m : Int) = 0 then [] else _) = _
                rw [if_neg hyz]
                rfl
              rw [hbt] at HE
              have HTZ := Lib.hid (tzB_any m (by omega) hm0 wr (HT.out.kp HT.out.lt hQ.i.below))
              have hlo : out.length < 1000000000 := by omega
              have HLO := Lib.hid hlo
              have HQ := Lib.hid hQ
              have hws : w.heap.size ≤ wr.heap.size := hQ.i.below.size
              have HWS := Lib.hid hws
              have hyz2 : ((m : Int) == 0) = false := by simpa using hyz
              have hm1 : (1 : Int) ≤ m := by omega
              generalize nextU (m : Int) = z at hu0 hu1 hnx HE
              generalize Lib.ctz 64 m = t at HE HTZ
              clear hQ hlo hbt hws
              gi_wp2_with fail
              refine ⟨trivial, (CallsIn.inRound l (callsIn_wide.2 HTZ.out)).mono ?_⟩
              rintro e wT ⟨rfl, hwT⟩
              have hwT := hwT.symm
              subst hwT
              gi_wp2_with (gi_at_builtin; go_must (refine app_intIn rfl _ _ rfl w.heap.size u11 out rfl HQ.out.own 1 (t : Int) _ rfl rfl HLO.out HWS.out rfl ?_); intro v2 w2 hown2 hg2 hv2 hat2; obtain ⟨g2, c2, rfl⟩ := hown2.some_ hv2; have hq2 := HQ.out.app hown2 hg2; rw [List.length_append, List.length_singleton] at hq2; have hcX2 : w2.cell? ⟨X, 0, none⟩ = some (.int .u64 (m : Int)) := (by rw [cell_of_row _ _ 0 _ _ _ hq2.x]; try rfl); have hfX2 := frozen_of_row w2 X 0 _ _ hq2.x; have HQ2 := Lib.hid hq2; clear hq2 hown2 hg2 hv2 hat2)
              go_roundw
              case rel => exact ⟨z, out ++ [(t : Int)], f', by simp [lenOf], hu0, by omega, by omega, by simp; omega, by rw [List.append_assoc]; exact HE.out, HQ2.out.setX z⟩
              case measure => simp [lenOf] at hln ⊢; omega
      · rintro D xs W hD hbw rfl hxs hWD
        have HBW := Lib.hid hbw
        have HXS := Lib.hid hxs
        have HWD := Lib.hid hWD
        clear hbw hxs hWD
        go_wp2
        refine ⟨⟨k + 1, .int .i64 k, .bool true, .int .i64 k, .int .i64 k, .pointer (some ⟨w.heap.size, 3, none⟩), .slice wa ws.length wc, .int .i64 ws.length, .func (.func 51) #[] #[.pointer (some ⟨wr.heap.size + 1, 0, none⟩), .pointer (some ⟨wr.heap.size, 0, none⟩)], .int .i64 ((k : Int) + 1), D :: Ds, by rw [List.map_cons, hdm]; simp [mark], by omega, HI4.out.later HBW.out, ?_, ?_, ?_⟩, ?_⟩
        · rw [List.nodup_cons]
          exact ⟨fun hm => by have := (HDS4.out D hm).2.1; omega, HND.out⟩
        · intro E hE
          rw [List.mem_cons] at hE
          rcases hE with rfl | hE
          · exact ⟨by omega, HWD.out⟩
          · obtain ⟨h1, h2, h3⟩ := HDS4.out E hE
            exact ⟨h1, (HBW.out.block _ h2).trans h3⟩
        · intro y hy
          rw [setsTo_succ, List.mem_append] at hy
          rcases hy with hy | hy
          · exact HG.out y hy
          · exact HXS.out y hy
        · simp [intOf]; omega
      · rintro D pre x W hD ⟨r, hr⟩ hpre ⟨hF, hbad⟩ hWD hkp
        have HF := Lib.hid hF
        have HKP := Lib.hid hkp
        have HWD := Lib.hid hWD
        have hcx := clashX_of (badA N s ws us (ovF cs)) ws.length k hlt pre r x HG.out hr hpre hbad
        clear hF hWD hkp hr
        go_wp2
        show LeavesInM Fence.wide 11 Tryd.prog _ _ _ _ _ _
        have hmk : ({ target := Target.collected D, args := #[] } :: dfs : List Deferred) = (D :: Ds).map mark := by rw [List.map_cons, hdm]; rfl
        dsimp only
        rw [hmk]
        refine leaves_marks w.heap.size (fun W => ClF w W x) (fun W D h h1 h2 => h.put h2 rfl h1 _) (fun W h => ?_) (D :: Ds) W ?_ ?_ HF.out
        · obtain ⟨⟨v, h1, h2⟩, h3, h4⟩ := h
          have hv1 : W.cell? ⟨w.heap.size + 1, 0, none⟩ = some v := by rw [cell_of_row _ _ 0 _ _ _ h1]; rfl
          have hv2 : W.cell? ⟨w.heap.size + 1 + 1, 0, none⟩ = some (.int .i64 0) := by rw [cell_of_row _ _ 0 _ _ _ h3]; rfl
          refine ⟨.tuple #[v, .int .i64 0], ?_, x, v, hcx, rfl, h2, h4⟩
          simp [results, Tryd.results12, go_sem, hv1, hv2]
        · rw [List.nodup_cons]
          exact ⟨fun hm => by have := (HDS4.out D hm).2.1; omega, HND.out⟩
        · intro E hE
          rw [List.mem_cons] at hE
          rcases hE with rfl | hE
          · exact ⟨by omega, HWD.out⟩
          · obtain ⟨h1, h2, h3⟩ := HDS4.out E hE
            exact ⟨h1, HKP.out E _ h3 rfl⟩
    · obtain rfl : k = ws.length + 1 := by omega
      obtain ⟨x, hx, hb⟩ := HEX.out
      have := HG.out x (by rw [setsTo_succ, List.mem_append]; exact .inr hx)
      rw [hb] at this
      cases this
end Go.Proofs.YtepofpnbgbmihaaDoor

/-
  The cloth of a valid sheet is right.
-/
namespace Go.Proofs.YtepofpnbgbmihaaDoor
open Go Go.RowKit

theorem lineTo_append (l : Nat → Int) (cs r : List Crs) : ∀ k, k ≤ cs.length → lineTo l (cs ++ r) k = lineTo l cs k
  | 0, _ => rfl
  | k + 1, h => by
    have hk : k < cs.length := h
    have ih := lineTo_append l cs r k (Nat.le_of_succ_le h)
    have h1 : cs[k]? = some cs[k] := List.getElem?_eq_getElem hk
    have h2 : (cs ++ r)[k]? = some cs[k] := by rw [List.getElem?_append_left hk, h1]
    rw [lineTo_succ l _ k _ h1, lineTo_succ l _ k _ h2, ih]
/-- What holds of a cloth in the making: T threads, works below B. -/
structure StOk (T : Nat) (B : Nat) (s : St) : Prop where
  r : ∀ p, p < T → 0 ≤ s.l p ∧ s.l p < T
  inj : ∀ p q, p < T → q < T → s.l p = s.l q → p = q
  cr : ∀ x ∈ s.cs, CrOk T x ∧ x.work < B
  pn : ∀ x ∈ s.ps, PnOk T x
  ln : s.l = lineTo (fun p => (p : Int)) s.cs s.cs.length
  line : LineOk s.cs
theorem StOk.mono {T B B' : Nat} {s : St} (h : StOk T B s) (hB : B ≤ B') : StOk T B' s := ⟨h.r, h.inj, fun x hx => ⟨(h.cr x hx).1, by have := (h.cr x hx).2; omega⟩, h.pn, h.ln, h.line⟩
theorem crossAt_at (i mid : Nat) (l : Nat → Int) (n : Int) : (crossAt i mid l n).at_ = ((mid + n.natAbs - 2 : Nat) : Int) ∧ (crossAt i mid l n).work = i := by
  unfold crossAt; split <;> exact ⟨rfl, rfl⟩
theorem crossAt_pair (i mid : Nat) (l : Nat → Int) (n : Int) :
    ((crossAt i mid l n).over = l (mid + n.natAbs - 2) ∧ (crossAt i mid l n).under = l (mid + n.natAbs - 2 + 1)) ∨ ((crossAt i mid l n).over = l (mid + n.natAbs - 2 + 1) ∧ (crossAt i mid l n).under = l (mid + n.natAbs - 2)) := by
  unfold crossAt; split
  · exact .inr ⟨rfl, rfl⟩
  · exact .inl ⟨rfl, rfl⟩
theorem StOk.cross {T B i mid : Nat} {s : St} {n : Int} (h : StOk T B s) (hi : i < B) (hq : mid + n.natAbs - 2 + 1 < T) : StOk T B (crossStep i mid s n) := by
  obtain ⟨h1, h2⟩ := crossAt_at i mid s.l n
  have h3 := crossAt_pair i mid s.l n
  unfold crossStep
  generalize crossAt i mid s.l n = x at h1 h2 h3 ⊢
  generalize mid + n.natAbs - 2 = q at hq h1 h3 ⊢
  have e0 := h.r q (by omega)
  have e1 := h.r (q + 1) hq
  refine ⟨fun p hp => ?_, fun p p' hp hp' he => ?_, fun y hy => ?_, h.pn, ?_, ?_⟩
  · show 0 ≤ swapL s.l q p ∧ swapL s.l q p < T
    unfold swapL
    split
    · exact e1
    · split
      · exact e0
      · exact h.r p hp
  · simp only [swapL] at he
    have hh := h.inj
    repeat (first | (have := hh _ _ (by omega) (by omega) he; omega) | split at he)
  · simp only [List.mem_append, List.mem_singleton] at hy
    rcases hy with hy | rfl
    · exact h.cr y hy
    · refine ⟨⟨by rw [h2]; omega, by rw [h1]; omega, by rw [h1]; omega, ?_, ?_, ?_, ?_⟩, by rw [h2]; omega⟩ <;> rcases h3 with ⟨a, b⟩ | ⟨a, b⟩ <;> (first | rw [a] | rw [b]) <;> (first | exact e0.1 | exact e0.2 | exact e1.1 | exact e1.2)
  · show swapL s.l q = lineTo _ (s.cs ++ [x]) (s.cs ++ [x]).length
    rw [List.length_append, List.length_singleton, lineTo_succ _ _ s.cs.length x (by simp), lineTo_append _ _ _ _ (Nat.le_refl _), ← h.ln, h1, Int.toNat_natCast]
  · intro k y hy
    show (y.over = lineTo _ (s.cs ++ [x]) k _ ∧ y.under = lineTo _ (s.cs ++ [x]) k _) ∨ _
    have hy' : (s.cs ++ [x])[k]? = some y := hy
    by_cases hk : k < s.cs.length
    · rw [List.getElem?_append_left hk] at hy'
      rw [lineTo_append _ _ _ _ (by omega)]
      exact h.line k y hy'
    · have hk2 : k = s.cs.length := by
        have := (List.getElem?_eq_some_iff.1 hy').1
        rw [List.length_append, List.length_singleton] at this
        omega
      subst hk2
      rw [List.getElem?_append_right (Nat.le_refl _), Nat.sub_self] at hy'
      injection hy' with hy'
      subst hy'
      rw [lineTo_append _ _ _ _ (Nat.le_refl _), ← h.ln, h1, Int.toNat_natCast]
      exact h3
theorem StOk.pin {T B i mid : Nat} {s : St} (h : StOk T B s) (hq : mid + 1 < T) : StOk T B (pinStep i mid s) := by
  refine ⟨h.r, h.inj, h.cr, fun y hy => ?_, h.ln, h.line⟩
  have hy' : y ∈ s.ps ++ [⟨(i : Int), (mid : Int), s.l mid, s.l (mid + 1)⟩] := hy
  simp only [List.mem_append, List.mem_singleton] at hy'
  rcases hy' with hy' | rfl
  · exact h.pn y hy'
  · have e0 := h.r mid (by omega)
    have e1 := h.r (mid + 1) hq
    exact ⟨by show (0 : Int) ≤ i; omega, by show (0 : Int) ≤ mid; omega, by show (mid : Int) ≤ T - 2; omega, e0.1, by show s.l mid ≤ T - 1; omega, e1.1, by show s.l (mid + 1) ≤ T - 1; omega, fun e => by have := h.inj _ _ (by omega) hq e; omega⟩
theorem crossC_le (c : UInt8) : ∀ n ∈ crossC c, 1 ≤ n.natAbs ∧ n.natAbs ≤ 3 := by
  intro n hn
  unfold crossC nz at hn
  rw [List.mem_filter] at hn
  obtain ⟨h1, h2⟩ := hn
  have h2 : n ≠ 0 := by simpa using h2
  simp only [List.mem_cons, List.not_mem_nil, or_false] at h1
  have t0 : -1 ≤ tw0 c.toNat ∧ tw0 c.toNat ≤ 1 := by unfold tw0; split <;> (try split) <;> (try split) <;> (try split) <;> omega
  have t1 : -1 ≤ tw1 c.toNat ∧ tw1 c.toNat ≤ 1 := by unfold tw1; split <;> (try split) <;> omega
  have t2 : -1 ≤ tw2 c.toNat ∧ tw2 c.toNat ≤ 1 := by unfold tw2; split <;> (try split) <;> (try split) <;> (try split) <;> omega
  omega
theorem StOk.crosses {T B i mid : Nat} (hi : i < B) (hm : 1 ≤ mid) (hq : mid + 2 < T) : ∀ (l : List Int) (s : St), (∀ n ∈ l, 1 ≤ n.natAbs ∧ n.natAbs ≤ 3) → StOk T B s → StOk T B (l.foldl (crossStep i mid) s)
  | [], s, _, h => h
  | n :: l, s, hl, h => by
    rw [List.foldl_cons]
    have := hl n (by simp)
    exact StOk.crosses hi hm hq l _ (fun m hm => hl m (by simp [hm])) (h.cross hi (by omega))
theorem StOk.letters {T B i mid : Nat} (hi : i < B) (hm : 1 ≤ mid) (hq : mid + 2 < T) : ∀ (l : List UInt8) (s : St), StOk T B s → StOk T B (l.foldl (letterStep i mid) s)
  | [], s, h => h
  | c :: l, s, h => by
    rw [List.foldl_cons]
    refine StOk.letters hi hm hq l _ ?_
    unfold letterStep
    split
    · exact h.pin (by omega)
    · exact StOk.crosses hi hm hq _ _ (crossC_le c) h
theorem StOk.work {T B i : Nat} {s : St} {x : Wk} (hi : i < B) (hq : 2 * x.at_.toNat + 3 < T) (h : StOk T B s) : StOk T B (workStep i s x) := by
  unfold workStep
  refine StOk.letters hi (by omega) (by omega) _ _ ?_
  unfold begunStep
  split
  · exact h.pin (by omega)
  · exact h
theorem work_len (i : Nat) (s : St) (x : Wk) (hk : x.kind = 1 ∨ (x.kind = 2 ∧ x.word.size = 0)) (hx : x.word.size ≤ 16) : (workStep i s x).ps.length ≤ s.ps.length + 16 := by
  unfold workStep
  obtain ⟨h1, h2⟩ := letters_len i (2 * x.at_.toNat + 1) x.word.data.toList (begunStep i (2 * x.at_.toNat + 1) s x)
  have hl : x.word.data.toList.length = x.word.size := rfl
  rw [hl] at h2
  unfold begunStep at h2 ⊢
  split at h2
  · rw [if_pos ‹_›]
    have h3 : (pinStep i (2 * x.at_.toNat + 1) s).ps.length = s.ps.length + 1 := by show (s.ps ++ [_]).length = _; simp
    omega
  · rw [if_neg ‹_›]
    omega
theorem stOk0 (T : Nat) : StOk T 0 st0 := by
  refine ⟨fun p hp => ?_, fun p q _ _ h => ?_, ?_, ?_, rfl, ?_⟩
  · show (0 : Int) ≤ p ∧ (p : Int) < T; omega
  · have h' : (p : Int) = (q : Int) := h; omega
  · intro x hx; exact absurd (show x ∈ ([] : List Crs) from hx) (by simp)
  · intro x hx; exact absurd (show x ∈ ([] : List Pn) from hx) (by simp)
  · intro k x hx; exact absurd (show ([] : List Crs)[k]? = some x from hx) (by simp)
theorem mkTo_ok (s : Sh) (hV : Valid s) : ∀ k, StOk (2 * s.pairs).toNat k (mkTo s.works k) ∧ (mkTo s.works k).ps.length ≤ 16 * k
  | 0 => ⟨stOk0 _, by simp [mkTo, st0]⟩
  | k + 1 => by
    obtain ⟨h1, h2⟩ := mkTo_ok s hV k
    cases hx : s.works[k]? with
    | none =>
      have e : mkTo s.works (k + 1) = mkTo s.works k := by show (match s.works[k]? with | some x => workStep k (mkTo s.works k) x | none => mkTo s.works k) = _; rw [hx]
      rw [e]
      exact ⟨h1.mono (by omega), by omega⟩
    | some x =>
      rw [mkTo_succ _ k x hx]
      have hv := hV.all k x hx
      have := hv.lo
      have := hv.hi
      have := hV.lo
      refine ⟨StOk.work (by omega) (by omega) (h1.mono (by omega)), ?_⟩
      have := work_len k (mkTo s.works k) x hv.kind hv.size
      omega
theorem cloth_ok (s : Sh) (hV : Valid s) : ClothOk (((2 * s.pairs).toNat : Nat) : Int) (mkTo s.works s.works.length).cs (mkTo s.works s.works.length).ps := by
  obtain ⟨h1, h2⟩ := mkTo_ok s hV s.works.length
  have hlen := mkTo_len s.works (fun i x hx => (hV.all i x hx).size) s.works.length
  have := hV.lo
  have := hV.hi
  have := hV.len
  exact ⟨by omega, by omega, by omega, by omega, fun i x hx => (h1.cr x (List.mem_of_getElem? hx)).1, fun i x hx => h1.pn x (List.mem_of_getElem? hx), h1.line⟩
end Go.Proofs.YtepofpnbgbmihaaDoor

/-
  dyesAwake: a known sheet and a known wish.
-/
namespace Go.Proofs.YtepofpnbgbmihaaDoor
open Go.RowKit Go.Proofs.YtepofpnbgbmihaaDoorW.PrintLast
set_option linter.unusedSimpArgs false
set_option linter.unusedVariables false

def wk0 : Wk := ⟨1, 0, ⟨#[67, 84, 80, 67]⟩⟩
def sh0 : Sh := ⟨2, [wk0]⟩
def sup0 (c : Nat) : Int := if c = 0 then 2 else if c = 1 then 2 else 0
def ws0 : List Wi := [⟨0, 2⟩]
theorem sh0_valid : Valid sh0 := by
  refine ⟨by decide, by decide, by decide, fun i w h => ?_⟩
  have hw : w = wk0 := by
    cases i with
    | zero => injection h with h; exact h.symm
    | succ i => cases h
  subst hw
  refine ⟨.inl rfl, by decide, by decide, by decide, ?_⟩
  have : ∀ k : Fin 4, L9.contains (wk0.word[k.val]'k.isLt) = true := by decide
  exact fun k h => this ⟨k, h⟩
theorem sh0_len : (mkTo [wk0] 1).cs.length = 4 := by decide +kernel
theorem dy0 : dyRes 4 sup0 ws0 [] (ovF (mkTo [wk0] 1).cs) = (0, some [0, 1, 0, 1]) := by decide +kernel

theorem seen0 : seenL (mkTo [wk0] 1).cs [0, 1, 0, 1] = [1, 0, 1, 0] := by decide +kernel
theorem RdL.one {α : Type} {sz : Nat} {enc : α → List Value} {W : World} {B : Nat} {x : α} {cs : Array Value} {t : TypeId} (h : W.heap[B]? = some (.cells cs t (0, 0))) (hx : cs.toList = enc x) : RdL sz enc W (.slice (some ⟨B, 0, none⟩) 1 1) [x] := by
  refine ⟨_, 1, rfl, Nat.le_refl _, by unfold maxLen; omega, fun i y hy => ?_⟩
  have hi : i = 0 := by
    have := (List.getElem?_eq_some_iff.1 hy).1
    simp at this; exact this
  subst hi
  injection hy with hy
  subst hy
  refine ⟨B, 0, rfl, (Array.getElem?_eq_some_iff.1 h).1, fun j u hu => ?_⟩
  rw [cell_of_row _ _ _ _ _ _ h, Nat.zero_mul, Nat.zero_add, ← hu, ← hx, Array.getElem?_toList]
theorem RdL.none {α : Type} {sz : Nat} {enc : α → List Value} {W : World} : RdL sz enc W (.slice none 0 0) [] :=
  ⟨_, 0, rfl, Nat.le_refl _, by unfold maxLen; omega, fun i y hy => by cases hy⟩

set_option maxRecDepth 100000 in
set_option maxHeartbeats 1000000 in
theorem awake_any (w : World) : Calls Tryd.prog 4 #[] w fun e w' => e = .returned (.bool true) ∧ Below w.heap.size w w' := by
  have hmk := fun v W hr => make_any sh0 v W sh0_valid hr
  have hck := cloth_ok sh0 sh0_valid
  have hn : (mkTo sh0.works sh0.works.length).cs.length = 4 := sh0_len
  have htk : TaskOk (mkTo sh0.works sh0.works.length).cs.length ws0 [] := by
    rw [hn]
    refine ⟨by decide, by decide, fun i x hx => ?_, fun i x hx => by cases hx⟩
    cases i with
    | zero => injection hx with hx; subst hx; decide
    | succ i => cases hx
  have hdy := fun cv pv wv uv W h1 h2 h3 h4 => dySolve_any 4 _ _ ws0 [] cv pv wv uv sup0 W hck (by decide) htk h1 h2 h3 h4
  have hsn := fun cv pv dv W h1 h2 h3 => seen_any 4 _ _ cv pv dv [0, 1, 0, 1] W hck h1 h2 h3 rfl (fun i x hx => by
    match i, hx with
    | 0, hx => injection hx with hx; subst hx; decide
    | 1, hx => injection hx with hx; subst hx; decide
    | 2, hx => injection hx with hx; subst hx; decide
    | 3, hx => injection hx with hx; subst hx; decide
    | i + 4, hx => cases hx)
  have e1 : (mkTo sh0.works sh0.works.length).cs = (mkTo [wk0] 1).cs := rfl
  have e2 : (2 * sh0.pairs) = 4 := rfl
  rw [e1, dy0] at hdy
  rw [e1, seen0] at hsn
  rw [e2] at hmk
  have HMK := Lib.hid hmk
  have HDY := Lib.hid hdy
  have HSN := Lib.hid hsn
  clear hmk hck hn htk hdy hsn e1 e2
  go_enter Tryd.func4, Tryd.ntmps4
  go_wp2_with fail
  have hr0 : RdL 3 encW (w.alloc (.cells #[.int .i64 1, .int .i64 0, .string ⟨#[67, 84, 80, 67]⟩] 60)) (.slice (some ⟨w.heap.size, 0, none⟩) 1 1) sh0.works := RdL.one (World.alloc_heap_new _ _) rfl
  refine (HMK.out _ _ hr0).mono ?_
  rintro e w1 ⟨⟨cv, pv, rfl, hoc, hop⟩, hb1⟩
  have HB1 : Hid (Below w.heap.size w w1) := ((Below.refl _ w).alloc (Nat.le_refl _) _).trans (hb1.mono (by simp))
  have HC1 := Lib.hid (hoc.rd encX_len)
  have HP1 := Lib.hid (hop.rd encP_len)
  obtain ⟨ca, cc, rfl, -⟩ := hoc.slice
  obtain ⟨pa, pc, rfl, -⟩ := hop.slice
  clear hr0 hoc hop hb1
  go_wp2_with fail
  have hb2 : Below w1.heap.size w1 ((w1.alloc (.cells #[.int .i64 4, .slice ca (mkTo sh0.works sh0.works.length).cs.length cc, .slice pa (mkTo sh0.works sh0.works.length).ps.length pc] 41)).alloc (.cells #[.int .i64 0, .int .u8 2] 51)) := ((Below.refl _ _).alloc (Nat.le_refl _) _).alloc (by simp) _
  have hr1 : RdL 2 encWi ((w1.alloc (.cells #[.int .i64 4, .slice ca (mkTo sh0.works sh0.works.length).cs.length cc, .slice pa (mkTo sh0.works sh0.works.length).ps.length pc] 41)).alloc (.cells #[.int .i64 0, .int .u8 2] 51)) (.slice (some ⟨w1.heap.size + 1, 0, none⟩) 1 1) ws0 := RdL.one (heap_alloc2_new w1 _ _) rfl
  have hcl := heap_alloc2_old w1 (.cells #[.int .i64 4, .slice ca (mkTo sh0.works sh0.works.length).cs.length cc, .slice pa (mkTo sh0.works sh0.works.length).ps.length pc] 41) (.cells #[.int .i64 0, .int .u8 2] 51)
  have hsz : w1.heap.size < ((w1.alloc (.cells #[.int .i64 4, .slice ca (mkTo sh0.works sh0.works.length).cs.length cc, .slice pa (mkTo sh0.works sh0.works.length).ps.length pc] 41)).alloc (.cells #[.int .i64 0, .int .u8 2] 51)).heap.size := by simp; omega
  have hdy := HDY.out _ _ _ _ _ (HC1.out.later hb2) (HP1.out.later hb2) hr1 RdL.none
  refine hdy.mono ?_
  rintro e w2 ⟨hb3, v2, rfl, ho2⟩
  have hb13 : Below w1.heap.size w1 w2 := hb2.trans (hb3.mono (Nat.le_of_lt hsz))
  have hcl2 := (hb3.block _ hsz).trans hcl
  have hc0 : w2.cell? ⟨w1.heap.size, 0, none⟩ = some (.int .i64 4) := by rw [cell_of_row _ _ 0 _ _ _ hcl2]; rfl
  have hc1 : w2.cell? ⟨w1.heap.size, 1, none⟩ = some (.slice ca (mkTo sh0.works sh0.works.length).cs.length cc) := by rw [cell_of_row _ _ 1 _ _ _ hcl2]; rfl
  have hc2 : w2.cell? ⟨w1.heap.size, 2, none⟩ = some (.slice pa (mkTo sh0.works sh0.works.length).ps.length pc) := by rw [cell_of_row _ _ 2 _ _ _ hcl2]; rfl
  have HC2 := Lib.hid (HC1.out.later hb13)
  have HP2 := Lib.hid (HP1.out.later hb13)
  have HB2 : Hid (Below w.heap.size w w2) := HB1.out.trans (hb13.mono HB1.out.size)
  have ho2' : OwnI w2 ((w1.alloc (.cells #[.int .i64 4, .slice ca (mkTo sh0.works sh0.works.length).cs.length cc, .slice pa (mkTo sh0.works sh0.works.length).ps.length pc] 41)).alloc (.cells #[.int .i64 0, .int .u8 2] 51)).heap.size v2 [0, 1, 0, 1] := ho2
  have HD2 := Lib.hid (ho2'.rd encI_len)
  obtain ⟨da, dc, rfl, -⟩ := ho2'.slice
  clear hdy hb2 hr1 hcl hsz hb3 hb13 hcl2 ho2 ho2' HC1 HP1 HB1 HMK HDY
  go_wp2_with fail
  refine (HSN.out _ _ _ _ HC2.out HP2.out HD2.out).mono ?_
  rintro e w3 ⟨v3, rfl, ho3, hb3⟩
  have HB3 : Hid (Below w.heap.size w w3) := HB2.out.trans (hb3.mono HB2.out.size)
  have HO3 := Lib.hid ho3
  clear ho3 hb3 HC2 HP2 HD2 HB2 HSN hc0 hc1 hc2
  go_wp2_with fail
  have hr4 : RdL 1 encI (w3.alloc (.cells #[.int .i64 1, .int .i64 0, .int .i64 1, .int .i64 0] 3)) (.slice (some ⟨w3.heap.size, 0, none⟩) 4 4) [1, 0, 1, 0] := rowN_rd (N := 4) (f := fun k => if k = 0 then 1 else if k = 2 then 1 else 0) (World.alloc_heap_new _ _) (by omega)
  refine (sameInts_any _ _ _ _ ((HO3.out.rd encI_len).alloc _) hr4).mono ?_
  rintro e w4 ⟨rfl, hb4⟩
  have HB4 : Hid (Below w.heap.size w w4) := (HB3.out.alloc HB3.out.size _).trans (hb4.mono (by have := HB3.out.size; simp; omega))
  clear hr4 hb4 HB3 HO3
  go_wp2
  go_ret
  exact ⟨rfl, HB4.out⟩
end Go.Proofs.YtepofpnbgbmihaaDoor

/-
  shuffled: the copy of the works, and swaps of works that do not touch.
-/
namespace Go.Proofs.YtepofpnbgbmihaaDoor
open Go.RowKit Go.Shelf Go.Proofs.YtepofpnbgbmihaaDoorW.PrintLast
set_option linter.unusedSimpArgs false
set_option linter.unusedVariables false

abbrev OwnW (w : World) (base : Nat) (v : Value) (xs : List Wk) : Prop := OwnL 60 3 encW w base v xs
theorem info_work : (Tryd.prog.info? 60).map (fun i => (i.zero, i.size, i.bytes)) = some (some (.agg #[.int .i64 0, .int .i64 0, .string ⟨#[]⟩]), 3, 32) := by kernel_rfl

theorem flatW_len (ws : List Wk) : (ws.flatMap encW).length = ws.length * 3 := by
  induction ws with
  | nil => rfl
  | cons x ws ih => rw [List.flatMap_cons, List.length_append, ih, encW_len, List.length_cons]; omega
theorem addr_add (b off j : Nat) : (⟨b, off, none⟩ : Addr).add j = ⟨b, off + j, none⟩ := by unfold Addr.add; split <;> simp_all
/-- append(g[:0:0], ws...). -/
theorem app_copy (W : World) (g base : Nat) (a : Option Addr) (c : Nat) (ws : List Wk) (hg : W.heap[g]? = some (.cells #[] 60 (0, 0))) (hr : RdA 3 encW W a ws) (hl : ws.length ≤ 400) (hb : base ≤ g) (hbW : base ≤ W.heap.size) :
    ∃ v' w', (Builtin.append_ #[22, 22] 22 #[.slice (some ⟨g, 0, none⟩) 0 0, .slice a ws.length c]).run Tryd.prog W = .ok v' w' ∧ OwnW w' base v' ws ∧ W.grownBy w' (some g) := by
  obtain ⟨i0, hi, hz0, hz1, hz2⟩ := info_parts info_work
  have hown : W.ownsRow base 60 3 (.slice (some ⟨g, 0, none⟩) 0 0) 0 [] := ⟨rfl, .inr ⟨g, 0, #[], rfl, hb, hg, Nat.le_refl _, Nat.zero_le _, rfl, rfl⟩⟩
  cases a with
  | none =>
    have h0 : ws = [] := by
      cases ws with
      | nil => rfl
      | cons x ws => obtain ⟨b, off, h, _⟩ := hr 0 x rfl; cases h
    subst h0
    refine ⟨.slice (some ⟨g, 0, none⟩) 0 0, W, ?_, hown, ⟨rfl, rfl, rfl, Nat.le_refl _, fun _ _ _ => rfl⟩⟩
    simp [Builtin.append_, run_underlying Tryd.underlying22, sizeOf, typeInfo, hi, Builtin.lenOf, Builtin.firstCells, storeCells]
  | some ad =>
    have hnews : ∀ (j : Nat) (v : Value), (ws.flatMap encW)[j]? = some v → W.cell? (ad.add j) = some v := by
      intro j v hv
      have hj := (List.getElem?_eq_some_iff.1 hv).1
      rw [flatW_len] at hj
      have hi3 : j / 3 < ws.length := by omega
      obtain ⟨b, off, hba, _, hcell⟩ := hr (j / 3) _ (List.getElem?_eq_getElem hi3)
      have hba := Option.some.inj hba
      subst hba
      rw [addr_add]
      have hm : j % 3 < 3 := Nat.mod_lt _ (by omega)
      obtain ⟨u, hu⟩ : ∃ u, (encW (ws[j / 3]'hi3))[j % 3]? = some u := ⟨_, List.getElem?_eq_getElem (by rw [encW_len (ws[j / 3]'hi3)]; exact hm)⟩
      have h3 := flatMap_get (sz := 3) encW_len (j / 3) _ (List.getElem?_eq_getElem hi3) (j % 3) u hu
      rw [show j / 3 * 3 + j % 3 = j by omega] at h3
      rw [h3] at hv
      have hv := Option.some.inj hv
      subst hv
      have h4 := hcell (j % 3) u hu
      rw [show off + j / 3 * 3 + j % 3 = off + j by omega] at h4
      exact h4
    obtain ⟨v', w', h1, h2, h3, _⟩ := run_append_own (P := Tryd.prog) W base 22 22 60 i0 _ 3 32 Tryd.underlying22 hi hz0 hz1 hz2 rfl (by omega) _ 0 [] hown ad ws.length c (ws.flatMap encW) (flatW_len ws) hnews (fun u hu => by
      obtain ⟨y, _, hy⟩ := List.mem_flatMap.1 hu
      exact encW_one y u hy) (by unfold maxLen; omega) (by omega) hbW
    refine ⟨v', w', h1, ?_, h3⟩
    rw [Nat.zero_add, List.nil_append] at h2
    exact h2
theorem exec_append {P : Program} {op : Oper} {f : Operand → Value} {t : TypeId} {x y : Operand} {u v r : Value} {w w1 : World} (ho : op.op = .call { callee := .builtin .append, args := #[x, y], argTypes := #[t, t] }) (hx : f x = u) (hy : f y = v) (h : (Builtin.append_ #[t, t] op.type #[u, v]).run P w = .ok r w1) : (execOp f op).run P w = .ok (.value r) w1 := by
  simp [execOp, ho, resolve, invoke, builtin, hx, hy, h, Result.andThen]

/-- ws2 comes of ws by exchanges of neighbours that do not touch. -/
inductive Shuf (ws : List Wk) : List Wk → Prop
  | refl : Shuf ws ws
  | step {ys zs : List Wk} {x y : Wk} (h : Shuf ws (ys ++ x :: y :: zs)) (ht : touchB x y = false) : Shuf ws (ys ++ y :: x :: zs)
theorem Shuf.len {ws ws2 : List Wk} (h : Shuf ws ws2) : ws2.length = ws.length := by
  induction h with
  | refl => rfl
  | step h _ ih => rw [← ih]; simp
theorem Shuf.all {ws ws2 : List Wk} (h : Shuf ws ws2) (p : Wk → Prop) (hp : ∀ x ∈ ws, p x) : ∀ x ∈ ws2, p x := by
  induction h with
  | refl => exact hp
  | step h _ ih => intro z hz; exact ih z (by simp at hz ⊢; rcases hz with h | h | h | h <;> simp [h])
end Go.Proofs.YtepofpnbgbmihaaDoor

/-
  The cloth of works in another order: plain words.
-/
namespace Go.Proofs.YtepofpnbgbmihaaDoor
open Go Go.RowKit

def lab (i : Nat) (c : Crs) : Crs := { c with work := i }
/-- A step that reads and writes the line between lo and hi alone, and adds crossings that are labelled. -/
def Loc (lo hi : Nat) (f : Nat → St → St) : Prop := ∃ (F : (Nat → Int) → Nat → Int) (C : (Nat → Int) → List Crs),
  (∀ i s, (f i s).l = F s.l ∧ (f i s).cs = s.cs ++ (C s.l).map (lab i)) ∧ (∀ l p, p < lo ∨ hi < p → F l p = l p) ∧
  ∀ l l', (∀ p, lo ≤ p → p ≤ hi → l p = l' p) → (∀ p, lo ≤ p → p ≤ hi → F l p = F l' p) ∧ C l = C l'
theorem Loc.same (lo hi : Nat) : Loc lo hi (fun _ s => s) := ⟨fun l => l, fun _ => [], fun i s => ⟨rfl, by simp⟩, fun _ _ _ => rfl, fun l l' h => ⟨h, rfl⟩⟩
theorem Loc.comp {lo hi : Nat} {f g : Nat → St → St} (hf : Loc lo hi f) (hg : Loc lo hi g) : Loc lo hi (fun i s => g i (f i s)) := by
  obtain ⟨F, C, h1, h2, h3⟩ := hf
  obtain ⟨G, D, k1, k2, k3⟩ := hg
  refine ⟨fun l => G (F l), fun l => C l ++ D (F l), fun i s => ⟨by rw [(k1 i _).1, (h1 i s).1], by rw [(k1 i _).2, (h1 i s).1, (h1 i s).2, List.map_append, List.append_assoc]⟩, fun l p hp => by dsimp only; rw [k2 _ p hp, h2 l p hp], fun l l' h => ?_⟩
  obtain ⟨a, b⟩ := h3 l l' h
  obtain ⟨c, d⟩ := k3 (F l) (F l') a
  exact ⟨c, by dsimp only; rw [b, d]⟩
theorem Loc.fold {lo hi : Nat} {α : Type} {f : α → Nat → St → St} : ∀ (xs : List α), (∀ x ∈ xs, Loc lo hi (f x)) → Loc lo hi (fun i s => xs.foldl (fun s x => f x i s) s)
  | [], _ => Loc.same lo hi
  | x :: xs, h => by
    have := (h x (by simp)).comp (Loc.fold xs (fun y hy => h y (by simp [hy])))
    simpa using this
theorem Loc.cross (lo hi mid : Nat) (n : Int) (h1 : lo ≤ mid + n.natAbs - 2) (h2 : mid + n.natAbs - 2 + 1 ≤ hi) : Loc lo hi (fun i s => crossStep i mid s n) := by
  refine ⟨fun l => swapL l (mid + n.natAbs - 2), fun l => [crossAt 0 mid l n], fun i s => ⟨rfl, ?_⟩, fun l p hp => ?_, fun l l' h => ⟨fun p hp1 hp2 => ?_, ?_⟩⟩
  · show s.cs ++ [crossAt i mid s.l n] = _
    congr 1
    show [_] = [_]
    congr 1
    unfold crossAt lab
    split <;> rfl
  · unfold swapL
    dsimp only
    rw [if_neg (by omega), if_neg (by omega)]
  · unfold swapL
    dsimp only
    rw [h _ (by omega) h2, h _ h1 (by omega), h p hp1 hp2]
  · unfold crossAt
    dsimp only
    rw [h _ (by omega) h2, h _ h1 (by omega)]
theorem Loc.pin (lo hi mid : Nat) : Loc lo hi (fun i s => pinStep i mid s) := ⟨fun l => l, fun _ => [], fun i s => ⟨rfl, by simp [pinStep]⟩, fun _ _ _ => rfl, fun l l' h => ⟨h, rfl⟩⟩
theorem Loc.letter (lo mid : Nat) (c : UInt8) (h : mid = lo + 1) : Loc lo (lo + 3) (fun i s => letterStep i mid s c) := by
  unfold letterStep
  by_cases hc : c = 80
  · simp only [if_pos hc]; exact Loc.pin _ _ _
  · simp only [if_neg hc]
    exact Loc.fold (f := fun n i s => crossStep i mid s n) (crossC c) (fun n hn => by have := crossC_le c n hn; exact Loc.cross _ _ _ _ (by omega) (by omega))
theorem Loc.work (x : Wk) : Loc (2 * x.at_.toNat) (2 * x.at_.toNat + 3) (fun i s => workStep i s x) := by
  unfold workStep
  refine Loc.comp (f := fun i s => begunStep i (2 * x.at_.toNat + 1) s x) (g := fun i s => x.word.data.toList.foldl (letterStep i (2 * x.at_.toNat + 1)) s) ?_ ?_
  · unfold begunStep
    by_cases hk : x.kind = 2
    · simp only [if_pos hk]; exact Loc.pin _ _ _
    · simp only [if_neg hk]; exact Loc.same _ _
  · exact Loc.fold (f := fun c i s => letterStep i (2 * x.at_.toNat + 1) s c) x.word.data.toList (fun c _ => Loc.letter _ _ c rfl)

/-- Two steps far from each other may be exchanged. -/
theorem Loc.swap {lo hi lo' hi' : Nat} {f g : Nat → St → St} (hf : Loc lo hi f) (hg : Loc lo' hi' g) (hd : hi < lo' ∨ hi' < lo) (i j : Nat) (s : St) :
    (g j (f i s)).l = (f i (g j s)).l ∧ ∃ A B : List Crs, (∀ x ∈ A, x.work = i) ∧ (∀ x ∈ B, x.work = j) ∧ (g j (f i s)).cs = s.cs ++ (A ++ B) ∧ (f i (g j s)).cs = s.cs ++ (B ++ A) := by
  obtain ⟨F, C, h1, h2, h3⟩ := hf
  obtain ⟨G, D, k1, k2, k3⟩ := hg
  have hFG : ∀ l, G (F l) = F (G l) := fun l => by
    funext p
    by_cases hp : lo ≤ p ∧ p ≤ hi
    · rw [k2 (F l) p (by omega)]
      exact (h3 l (G l) (fun q hq1 hq2 => (k2 l q (by omega)).symm)).1 p hp.1 hp.2
    · by_cases hp' : lo' ≤ p ∧ p ≤ hi'
      · rw [h2 (G l) p (by omega)]
        exact (k3 (F l) l (fun q hq1 hq2 => h2 l q (by omega))).1 p hp'.1 hp'.2
      · rw [k2 (F l) p (by omega), h2 (G l) p (by omega), h2 l p (by omega), k2 l p (by omega)]
  refine ⟨by rw [(k1 j _).1, (h1 i s).1, (h1 i _).1, (k1 j s).1]; exact hFG s.l, (C s.l).map (lab i), (D s.l).map (lab j), ?_, ?_, ?_, ?_⟩
  · intro x hx; obtain ⟨y, _, rfl⟩ := List.mem_map.1 hx; rfl
  · intro x hx; obtain ⟨y, _, rfl⟩ := List.mem_map.1 hx; rfl
  · rw [(k1 j _).2, (h1 i s).1, (h1 i s).2, (k3 (F s.l) s.l (fun q hq1 hq2 => h2 s.l q (by omega))).2, List.append_assoc]
  · rw [(h1 i _).2, (k1 j s).1, (k1 j s).2, (h3 (G s.l) s.l (fun q hq1 hq2 => k2 s.l q (by omega))).2, List.append_assoc]

/-- The works named by out, one behind the other. -/
def runL (g : Nat → Wk) (out : List Nat) (s : St) : St := out.foldl (fun s i => workStep i s (g i)) s
theorem runL_append (g : Nat → Wk) (a b : List Nat) (s : St) : runL g (a ++ b) s = runL g b (runL g a s) := by unfold runL; rw [List.foldl_append]
theorem runL_tail (g : Nat → Wk) : ∀ (out : List Nat) (s s' : St), s.l = s'.l → (runL g out s).l = (runL g out s').l ∧ ∃ T, (runL g out s).cs = s.cs ++ T ∧ (runL g out s').cs = s'.cs ++ T
  | [], s, s', h => ⟨h, [], by simp [runL], by simp [runL]⟩
  | i :: out, s, s', h => by
    obtain ⟨F, C, h1, _, _⟩ := Loc.work (g i)
    have e1 := h1 i s
    have e2 := h1 i s'
    obtain ⟨h3, T, h4, h5⟩ := runL_tail g out (workStep i s (g i)) (workStep i s' (g i)) (by rw [e1.1, e2.1, h])
    refine ⟨h3, (C s.l).map (lab i) ++ T, ?_, ?_⟩
    · show (runL g out (workStep i s (g i))).cs = _
      rw [h4, e1.2, List.append_assoc]
    · show (runL g out (workStep i s' (g i))).cs = _
      rw [h5, e2.2, ← h, List.append_assoc]

def touchP (x : Wk) (p : Nat) : Bool := p == x.at_.toNat || p == x.at_.toNat + 1
def wkIs (i : Nat) (c : Crs) : Bool := c.work == (i : Int)
/-- out is an order of the works with the same rows and the same crossings. -/
structure OrdOk (g : Nat → Wk) (n : Nat) (ws2 : List Wk) (out : List Nat) : Prop where
  perm : out.Perm (List.range n)
  works : ws2 = out.map g
  cols : ∀ p, out.filter (fun i => touchP (g i) p) = (List.range n).filter (fun i => touchP (g i) p)
  sub : ∀ i, (runL g out st0).cs.filter (wkIs i) = (runL g (List.range n) st0).cs.filter (wkIs i)
  len : (runL g out st0).cs.length = (runL g (List.range n) st0).cs.length
theorem touchB_far {x y : Wk} (h : touchB x y = false) (hx : 0 ≤ x.at_) (hy : 0 ≤ y.at_) : x.at_.toNat + 1 < y.at_.toNat ∨ y.at_.toNat + 1 < x.at_.toNat := by
  unfold touchB at h
  simp only [Bool.and_eq_false_iff, decide_eq_false_iff_not] at h
  omega
theorem map_split {α β : Type} {f : α → β} : ∀ {l : List α} {ys zs : List β} {x y : β}, l.map f = ys ++ x :: y :: zs → ∃ A i j B, l = A ++ i :: j :: B ∧ A.map f = ys ∧ f i = x ∧ f j = y ∧ B.map f = zs
  | l, ys, zs, x, y, h => by
    obtain ⟨A, R, rfl, hA, hR⟩ := List.map_eq_append_iff.1 h
    obtain ⟨i, R, rfl, hi, hR⟩ := List.map_eq_cons_iff.1 hR
    obtain ⟨j, B, rfl, hj, hB⟩ := List.map_eq_cons_iff.1 hR
    exact ⟨A, i, j, B, rfl, hA, hi, hj, hB⟩
theorem filter_wk (A B : List Crs) (i j k : Nat) (hA : ∀ x ∈ A, x.work = i) (hB : ∀ x ∈ B, x.work = j) (hij : i ≠ j) : (A ++ B).filter (wkIs k) = (B ++ A).filter (wkIs k) := by
  rw [List.filter_append, List.filter_append]
  by_cases h : k = i
  · have : B.filter (wkIs k) = [] := by
      rw [List.filter_eq_nil_iff]; intro x hx; unfold wkIs; rw [hB x hx]; simp; omega
    rw [this]; simp
  · have : A.filter (wkIs k) = [] := by
      rw [List.filter_eq_nil_iff]; intro x hx; unfold wkIs; rw [hA x hx]; simp; omega
    rw [this]; simp
theorem OrdOk.of {ws ws2 : List Wk} (g : Nat → Wk) (hg : (List.range ws.length).map g = ws) (hat : ∀ x ∈ ws, 0 ≤ x.at_) (h : Shuf ws ws2) : ∃ out, OrdOk g ws.length ws2 out := by
  have hall := fun z (hz : Shuf ws z) => hz.all (fun x => 0 ≤ x.at_) hat
  induction h with
  | refl => exact ⟨List.range ws.length, List.Perm.refl _, hg.symm, fun _ => rfl, fun _ => rfl, rfl⟩
  | @step ys zs x y h ht ih =>
    obtain ⟨out, h1, h2, h3, h4, h5⟩ := ih
    obtain ⟨A, i, j, B, rfl, hA, hi, hj, hB⟩ := map_split h2.symm
    have hx := hall _ h x (by simp)
    have hy := hall _ h y (by simp)
    have hfar := touchB_far ht hx hy
    have hnd : (A ++ i :: j :: B).Nodup := h1.symm.nodup List.nodup_range
    have hij : i ≠ j := by
      rw [List.nodup_append] at hnd
      have := hnd.2.1
      rw [List.nodup_cons] at this
      exact fun e => this.1 (by simp [e])
    have hsw : (A ++ j :: i :: B).Perm (A ++ i :: j :: B) := List.Perm.append_left A (List.Perm.swap i j B)
    obtain ⟨e1, CA, CB, hCA, hCB, e2, e3⟩ := Loc.swap (Loc.work x) (Loc.work y) (by omega) i j (runL g A st0)
    obtain ⟨_, T, e5, e6⟩ := runL_tail g B _ _ e1
    have r1 : (runL g (A ++ i :: j :: B) st0).cs = (runL g A st0).cs ++ (CA ++ CB) ++ T := by
      rw [runL_append, ← e2, ← e5]
      show (runL g B (workStep j (workStep i _ (g i)) (g j))).cs = _
      rw [hi, hj]
    have r2 : (runL g (A ++ j :: i :: B) st0).cs = (runL g A st0).cs ++ (CB ++ CA) ++ T := by
      rw [runL_append, ← e3, ← e6]
      show (runL g B (workStep i (workStep j _ (g j)) (g i))).cs = _
      rw [hi, hj]
    refine ⟨A ++ j :: i :: B, hsw.trans h1, ?_, fun p => ?_, fun k => ?_, ?_⟩
    · rw [List.map_append, List.map_cons, List.map_cons, hA, hi, hj, hB]
    · rw [← h3 p, List.filter_append, List.filter_append]
      congr 1
      simp only [List.filter_cons, hi, hj]
      unfold touchP
      by_cases t1 : p = x.at_.toNat ∨ p = x.at_.toNat + 1
      · have t2 : ¬ (p = y.at_.toNat ∨ p = y.at_.toNat + 1) := by omega
        simp [t1, t2]
      · by_cases t2 : p = y.at_.toNat ∨ p = y.at_.toNat + 1
        · simp [t1, t2]
        · simp [t1, t2]
    · rw [← h4 k, r1, r2, List.filter_append, List.filter_append, List.filter_append (l₁ := _ ++ _), List.filter_append (l₁ := (runL g A st0).cs), filter_wk CA CB i j k hCA hCB hij]
    · rw [← h5, r1, r2]
      simp only [List.length_append]
      omega
end Go.Proofs.YtepofpnbgbmihaaDoor

/-
  The two cloths agree, crossing by crossing.
-/
namespace Go.Proofs.YtepofpnbgbmihaaDoor
open Go Go.RowKit

theorem getD_get {α : Type} (l : List α) (k : Nat) (d : α) (h : k < l.length) : l.getD k d = l[k] := by
  rw [List.getD_eq_getElem?_getD, List.getElem?_eq_getElem h]; rfl
theorem filter_one {α : Type} (p : α → Bool) (a : α) : [a].filter p = if p a = true then [a] else [] := by
  cases h : p a <;> simp [h]
theorem mkTo_run (ws : List Wk) (g : Nat → Wk) (hg : ∀ i, i < ws.length → ws[i]? = some (g i)) : ∀ k, k ≤ ws.length → mkTo ws k = runL g (List.range k) st0
  | 0, _ => rfl
  | k + 1, h => by
    rw [mkTo_succ ws k (g k) (hg k h), mkTo_run ws g hg k (by omega), List.range_succ, runL_append]
    rfl
def rel (out : List Nat) (c : Crs) : Crs := lab (out.getD c.work.toNat 0) c
theorem mkTo_rel (g : Nat → Wk) (out : List Nat) : ∀ k, k ≤ out.length → (mkTo (out.map g) k).l = (runL g (out.take k) st0).l ∧ (runL g (out.take k) st0).cs = (mkTo (out.map g) k).cs.map (rel out) ∧ ∀ c ∈ (mkTo (out.map g) k).cs, 0 ≤ c.work ∧ c.work < k
  | 0, _ => ⟨rfl, rfl, fun c hc => by exact absurd (show c ∈ ([] : List Crs) from hc) (by simp)⟩
  | k + 1, h => by
    obtain ⟨h1, h2, h3⟩ := mkTo_rel g out k (by omega)
    have hk : k < out.length := h
    have hx : (out.map g)[k]? = some (g out[k]) := by rw [List.getElem?_map, List.getElem?_eq_getElem hk]; rfl
    obtain ⟨F, C, e1, _, _⟩ := Loc.work (g out[k])
    have e2 := e1 k (mkTo (out.map g) k)
    have e3 := e1 out[k] (runL g (out.take k) st0)
    have hr : runL g (out.take (k + 1)) st0 = workStep out[k] (runL g (out.take k) st0) (g out[k]) := by
      rw [List.take_succ_eq_append_getElem hk, runL_append]; rfl
    rw [mkTo_succ _ k _ hx, hr]
    refine ⟨by rw [e2.1, e3.1, h1], ?_, ?_⟩
    · rw [e3.2, e2.2, List.map_append, h2, h1, List.map_map]
      congr 1
      apply List.map_congr_left
      intro c _
      show lab out[k] c = lab (out.getD ((k : Int)).toNat 0) (lab k c)
      rw [Int.toNat_natCast, getD_get _ _ _ hk]
      rfl
    · intro c hc
      rw [e2.2, List.mem_append] at hc
      rcases hc with hc | hc
      · have := h3 c hc; omega
      · obtain ⟨y, _, rfl⟩ := List.mem_map.1 hc
        show (0 : Int) ≤ (k : Int) ∧ (k : Int) < ((k + 1 : Nat) : Int)
        omega

def c0 : Crs := ⟨0, 0, 0, 0⟩
def posTo (cs : List Crs) (k i : Nat) : List Nat := (List.range k).filter fun m => wkIs i (cs.getD m c0)
theorem posTo_succ (cs : List Crs) (k i : Nat) : posTo cs (k + 1) i = posTo cs k i ++ if wkIs i (cs.getD k c0) then [k] else [] := by
  unfold posTo
  rw [List.range_succ, List.filter_append, filter_one]
theorem crossTo_pos (cs : List Crs) (hw : ∀ x ∈ cs, 0 ≤ x.work) : ∀ k, k ≤ cs.length → ∀ i, crossTo cs k i = (posTo cs k i).map fun m : Nat => (m : Int)
  | 0, _, i => rfl
  | k + 1, h, i => by
    have hk : k < cs.length := h
    have hx := List.getElem?_eq_getElem hk
    have hw0 := hw cs[k] (List.getElem_mem hk)
    have ih := crossTo_pos cs hw k (by omega)
    rw [crossTo_succ cs k _ hx, posTo_succ, getD_get _ _ _ hk]
    unfold upd wkIs
    by_cases e : i = cs[k].work.toNat
    · have e2 : (cs[k].work == (i : Int)) = true := by simp; omega
      rw [if_pos e, e2, if_pos rfl, List.map_append, ← ih i, e]; rfl
    · have e2 : (cs[k].work == (i : Int)) = false := by simp; omega
      rw [if_neg e, e2, ih i]; simp
theorem posTo_get (cs : List Crs) (i : Nat) : ∀ k, k ≤ cs.length → (posTo cs k i).map (fun m => cs.getD m c0) = (cs.take k).filter (wkIs i)
  | 0, _ => by simp [posTo]
  | k + 1, h => by
    have hk : k < cs.length := h
    rw [posTo_succ, List.map_append, posTo_get cs i k (by omega), List.take_succ_eq_append_getElem hk, List.filter_append, filter_one, getD_get _ _ _ hk]
    congr 1
    by_cases hh : wkIs i cs[k] = true
    · rw [if_pos hh, if_pos hh]
      show [cs.getD k c0] = _
      rw [getD_get _ _ _ hk]
    · rw [if_neg hh, if_neg hh]; rfl
theorem posTo_nodup (cs : List Crs) (k i : Nat) : (posTo cs k i).Nodup := List.nodup_range.filter _
theorem posTo_mem (cs : List Crs) (k i m : Nat) : m ∈ posTo cs k i ↔ m < k ∧ wkIs i (cs.getD m c0) = true := by
  unfold posTo; rw [List.mem_filter, List.mem_range]

/-- The two cloths agree by the map 'to'. -/
structure Same (cs1 cs2 : List Crs) (n : Nat) (out : List Nat) (tM : Nat → Nat) : Prop where
  len : cs2.length = cs1.length
  outl : out.length = n
  outs : ∀ j, j < n → out.getD j 0 < n
  rows : ∀ j, j < n → crossTo cs2 cs2.length j = (crossTo cs1 cs1.length (out.getD j 0)).map fun m => ((tM m.toNat : Nat) : Int)
  lt : ∀ m, m < cs1.length → tM m < cs1.length
  inj : ∀ m m', m < cs1.length → m' < cs1.length → tM m = tM m' → m = m'
  over : ∀ m, m < cs1.length → (cs2.getD (tM m) c0).over = (cs1.getD m c0).over
  mem : ∀ m, m < cs1.length → ∃ j, j < n ∧ (m : Int) ∈ crossTo cs1 cs1.length (out.getD j 0)
  seen : ∀ t, seenAt cs2 t = seenAt cs1 t
/-- From the equality of the crossings work by work. -/
theorem Same.of {cs1 cs2 : List Crs} {n : Nat} {out : List Nat} (hp : out.Perm (List.range n)) (hl : cs2.length = cs1.length) (h1 : ∀ x ∈ cs1, 0 ≤ x.work ∧ x.work < n) (h2 : ∀ x ∈ cs2, 0 ≤ x.work ∧ x.work < n)
    (hk : ∀ j, j < n → cs1.filter (wkIs (out.getD j 0)) = (cs2.filter (wkIs j)).map (lab (out.getD j 0))) : ∃ tM, Same cs1 cs2 n out tM := by
  have hol : out.length = n := by rw [hp.length_eq, List.length_range]
  have hnd : out.Nodup := hp.symm.nodup List.nodup_range
  have hin : ∀ i, i < n → i ∈ out := fun i hi => hp.mem_iff.2 (List.mem_range.2 hi)
  have hout : ∀ j, j < n → out.getD j 0 < n := fun j hj => by
    rw [getD_get _ _ _ (by omega)]
    exact List.mem_range.1 (hp.mem_iff.1 (List.getElem_mem _))
  have hidx : ∀ i, i < n → out.idxOf i < n ∧ out.getD (out.idxOf i) 0 = i := fun i hi => by
    have hlt : out.idxOf i < out.length := List.idxOf_lt_length_iff.2 (hin i hi)
    exact ⟨by omega, by rw [getD_get _ _ _ hlt]; exact List.getElem_idxOf hlt⟩
  have hidx2 : ∀ j, j < n → out.idxOf (out.getD j 0) = j := fun j hj => by
    rw [getD_get _ _ _ (by omega)]
    exact hnd.idxOf_getElem j (by omega)
  have P1 := fun i => posTo_get cs1 i cs1.length (Nat.le_refl _)
  have P2 := fun i => posTo_get cs2 i cs2.length (Nat.le_refl _)
  simp only [List.take_length] at P1 P2
  have hpl : ∀ j, j < n → (posTo cs1 cs1.length (out.getD j 0)).length = (posTo cs2 cs2.length j).length := fun j hj => by
    have a := congrArg List.length (P1 (out.getD j 0))
    have b := congrArg List.length (P2 j)
    rw [hk j hj] at a
    rw [List.length_map] at a b
    rw [List.length_map] at a
    omega
  -- the place of a crossing
  have hwork : ∀ m, m < cs1.length → (cs1.getD m c0).work.toNat < n ∧ m ∈ posTo cs1 cs1.length (cs1.getD m c0).work.toNat := fun m hm => by
    have hx := h1 (cs1.getD m c0) (by rw [getD_get _ _ _ hm]; exact List.getElem_mem hm)
    refine ⟨by omega, (posTo_mem _ _ _ _).2 ⟨hm, ?_⟩⟩
    unfold wkIs
    rw [beq_iff_eq]; omega
  let tM : Nat → Nat := fun m => (posTo cs2 cs2.length (out.idxOf (cs1.getD m c0).work.toNat)).getD ((posTo cs1 cs1.length (cs1.getD m c0).work.toNat).idxOf m) 0
  have hto : ∀ m, m < cs1.length → ∃ j kk, j < n ∧ out.getD j 0 = (cs1.getD m c0).work.toNat ∧ ∃ (h : kk < (posTo cs1 cs1.length (out.getD j 0)).length) (h' : kk < (posTo cs2 cs2.length j).length), (posTo cs1 cs1.length (out.getD j 0))[kk] = m ∧ tM m = (posTo cs2 cs2.length j)[kk] := fun m hm => by
    obtain ⟨a, b⟩ := hwork m hm
    obtain ⟨c, d⟩ := hidx _ a
    have e : (posTo cs1 cs1.length (cs1.getD m c0).work.toNat).idxOf m < (posTo cs1 cs1.length (cs1.getD m c0).work.toNat).length := List.idxOf_lt_length_iff.2 b
    have f := hpl _ c
    rw [d] at f
    refine ⟨_, (posTo cs1 cs1.length (cs1.getD m c0).work.toNat).idxOf m, c, d, by rw [d]; exact e, by rw [← f]; exact e, ?_, ?_⟩
    · simp only [d]
      exact List.getElem_idxOf e
    · show (posTo cs2 cs2.length _).getD _ 0 = _
      rw [getD_get _ _ _ (by rw [← f]; exact e)]
  have hto2 : ∀ j, j < n → ∀ kk (h : kk < (posTo cs1 cs1.length (out.getD j 0)).length) (h' : kk < (posTo cs2 cs2.length j).length), tM (posTo cs1 cs1.length (out.getD j 0))[kk] = (posTo cs2 cs2.length j)[kk] := fun j hj kk h h' => by
    have hm := (posTo_mem _ _ _ _).1 (List.getElem_mem h)
    have hw : (cs1.getD (posTo cs1 cs1.length (out.getD j 0))[kk] c0).work.toNat = out.getD j 0 := by
      have := hm.2
      unfold wkIs at this
      rw [beq_iff_eq] at this
      omega
    show (posTo cs2 cs2.length (out.idxOf (cs1.getD _ c0).work.toNat)).getD ((posTo cs1 cs1.length (cs1.getD _ c0).work.toNat).idxOf _) 0 = _
    rw [hw, hidx2 j hj, (posTo_nodup _ _ _).idxOf_getElem kk h, getD_get _ _ _ h']
  refine ⟨tM, hl, hol, hout, fun j hj => ?_, fun m hm => ?_, fun m m' hm hm' he => ?_, fun m hm => ?_, fun m hm => ?_, fun t => ?_⟩
  · rw [crossTo_pos cs2 (fun x hx => (h2 x hx).1) _ (Nat.le_refl _), crossTo_pos cs1 (fun x hx => (h1 x hx).1) _ (Nat.le_refl _), List.map_map]
    apply List.ext_getElem
    · rw [List.length_map, List.length_map, hpl j hj]
    · intro kk a b
      rw [List.getElem_map, List.getElem_map]
      rw [List.length_map] at a b
      show ((posTo cs2 cs2.length j)[kk] : Int) = ((tM ((posTo cs1 cs1.length (out.getD j 0))[kk] : Int).toNat : Nat) : Int)
      rw [Int.toNat_natCast, hto2 j hj kk b a]
  · obtain ⟨j, kk, _, _, _, h', _, e⟩ := hto m hm
    rw [e, ← hl]
    exact ((posTo_mem _ _ _ _).1 (List.getElem_mem h')).1
  · obtain ⟨j, kk, hj, d, a, b, c, e⟩ := hto m hm
    obtain ⟨j', kk', hj', d', a', b', c', e'⟩ := hto m' hm'
    have w1 := ((posTo_mem _ _ _ _).1 (List.getElem_mem b)).2
    have w2 := ((posTo_mem _ _ _ _).1 (List.getElem_mem b')).2
    rw [← e] at w1
    rw [← e', ← he] at w2
    have hjj : j = j' := by
      unfold wkIs at w1 w2
      rw [beq_iff_eq] at w1 w2
      omega
    subst hjj
    have hkk : kk = kk' := by
      have h3 : (posTo cs2 cs2.length j)[kk] = (posTo cs2 cs2.length j)[kk'] := by rw [← e, ← e', he]
      have i1 := (posTo_nodup cs2 cs2.length j).idxOf_getElem kk b
      have i2 := (posTo_nodup cs2 cs2.length j).idxOf_getElem kk' b'
      rw [← i1, ← i2, h3]
    subst hkk
    rw [← c, ← c']
  · obtain ⟨j, kk, hj, d, a, b, c, e⟩ := hto m hm
    have q1 : (cs1.filter (wkIs (out.getD j 0)))[kk]? = some (cs1.getD m c0) := by
      rw [← P1, List.getElem?_map, List.getElem?_eq_getElem a, c]; rfl
    have q2 : (cs2.filter (wkIs j))[kk]? = some (cs2.getD (tM m) c0) := by
      rw [← P2, List.getElem?_map, List.getElem?_eq_getElem b, e]; rfl
    rw [hk j hj, List.getElem?_map, q2] at q1
    have q3 := Option.some.inj q1
    rw [← q3]; rfl
  · obtain ⟨a, b⟩ := hwork m hm
    obtain ⟨c, d⟩ := hidx _ a
    refine ⟨_, c, ?_⟩
    rw [d, crossTo_pos cs1 (fun x hx => (h1 x hx).1) _ (Nat.le_refl _)]
    exact List.mem_map.2 ⟨m, b, rfl⟩
  · unfold seenAt
    rw [Bool.eq_iff_iff, List.any_eq_true, List.any_eq_true]
    constructor
    · rintro ⟨x, hx, ht⟩
      have hw := h2 x hx
      have hxf : x ∈ cs2.filter (wkIs x.work.toNat) := List.mem_filter.2 ⟨hx, by unfold wkIs; simp; omega⟩
      have := List.mem_map_of_mem (f := lab (out.getD x.work.toNat 0)) hxf
      rw [← hk x.work.toNat (by omega)] at this
      exact ⟨_, (List.mem_filter.1 this).1, ht⟩
    · rintro ⟨x, hx, ht⟩
      have hw := h1 x hx
      obtain ⟨c, d⟩ := hidx x.work.toNat (by omega)
      have hxf : x ∈ cs1.filter (wkIs (out.getD (out.idxOf x.work.toNat) 0)) := List.mem_filter.2 ⟨hx, by rw [d]; unfold wkIs; simp; omega⟩
      rw [hk _ c] at hxf
      obtain ⟨y, hy, hyx⟩ := List.mem_map.1 hxf
      rw [← hyx] at ht
      exact ⟨y, (List.mem_filter.1 hy).1, ht⟩
end Go.Proofs.YtepofpnbgbmihaaDoor

/-
  traces.match: where the two sheets match, the order is found.
-/
namespace Go.Proofs.YtepofpnbgbmihaaDoor
open Go.RowKit Go.Proofs.YtepofpnbgbmihaaDoorW.PrintLast
set_option linter.unusedSimpArgs false
set_option linter.unusedVariables false

/-- A slice of ints that reads as xs, outside block R, below B. -/
def RdO (w : World) (R B : Nat) (v : Value) (xs : List Int) : Prop :=
  ∃ a c, v = .slice a xs.length c ∧ xs.length ≤ c ∧ c ≤ maxLen ∧ ∀ (i : Nat) (x : Int), xs[i]? = some x → ∃ g off, a = some ⟨g, off, none⟩ ∧ g < B ∧ g ≠ R ∧ w.cell? ⟨g, off + i, none⟩ = some (.int .i64 x)
theorem run_cut1 (g off n c : Nat) (W : World) :
    (Instr.slice 35 (.slice (some ⟨g, off, none⟩) (n + 1) c) (some (.int .i64 1)) none none).run Tryd.prog W = .ok (.slice (if c = 1 then some ⟨g, off, none⟩ else some ⟨g, off + 1, none⟩) n (c - 1)) W := by
  have hs : ∀ W, (sizeOf 3).run Tryd.prog W = .ok 1 W := fun _ => by kernel_rfl
  have he : Tryd.prog.elem 35 = 3 := by kernel_rfl
  rw [run_slice_l (P := Tryd.prog) W 35 _ (n + 1) c (by rw [he]; exact Tryd.underlying35) .i64 1 (by omega) (by omega), he, hs]
  simp [Result.andThen, sliced, Addr.add]
theorem RdO.head {w : World} {R B : Nat} {v : Value} {x : Int} {xs : List Int} (h : RdO w R B v (x :: xs)) :
    ∃ g off c A, v = .slice (some ⟨g, off, none⟩) (xs.length + 1) c ∧ xs.length + 1 ≤ c ∧ c ≤ maxLen ∧ g < B ∧ g ≠ R ∧ w.cell? ⟨g, off, none⟩ = some (.int .i64 x) ∧ RdO w R B (.slice A xs.length (c - 1)) xs ∧
      ∀ W, (Instr.slice 35 (.slice (some ⟨g, off, none⟩) (xs.length + 1) c) (some (.int .i64 1)) none none).run Tryd.prog W = .ok (.slice A xs.length (c - 1)) W := by
  obtain ⟨a, c, rfl, hl, hm, hc⟩ := h
  obtain ⟨g, off, rfl, h1, h2, h3⟩ := hc 0 x rfl
  rw [List.length_cons] at hl
  refine ⟨g, off, c, _, rfl, hl, hm, h1, h2, h3, ?_, fun W => run_cut1 g off xs.length c W⟩
  refine ⟨_, c - 1, rfl, by omega, by omega, fun i y hy => ?_⟩
  obtain ⟨g2, off2, e2, h4, h5, h6⟩ := hc (i + 1) y (by simpa using hy)
  have hi := (List.getElem?_eq_some_iff.1 hy).1
  injection e2 with e2
  injection e2 with e3 e4
  subst e3
  subst e4
  refine ⟨g, off + 1, by rw [if_neg (by omega)], h4, h5, ?_⟩
  rw [show off + 1 + i = off + (i + 1) from by omega]
  exact h6
/-- Whatever keeps the blocks below B but for R keeps the reading. -/
theorem RdO.kept {w w' : World} {R B : Nat} {v : Value} {xs : List Int} (h : RdO w R B v xs) (hk : ∀ k, k < B → k ≠ R → w'.heap[k]? = w.heap[k]?) : RdO w' R B v xs := by
  obtain ⟨a, c, hv, hl, hm, hc⟩ := h
  refine ⟨a, c, hv, hl, hm, fun i x hx => ?_⟩
  obtain ⟨g, off, ha, h1, h2, h3⟩ := hc i x hx
  exact ⟨g, off, ha, h1, h2, (World.cell?_of_block (hk g h1 h2)).trans h3⟩

structure RowsRd (w : World) (R B : Nat) (ρ : Nat → List Int) (f : Nat → Value) : Prop where
  cell : ∀ p, p < 24 → w.cell? ⟨R, p, none⟩ = some (f p)
  rd : ∀ p, p < 24 → RdO w R B (f p) (ρ p)
  free : ∀ p, w.frozen? ⟨R, p, none⟩ = false
  lt : R < B
  le : B ≤ w.heap.size

theorem RowsIs.rdo {w : World} {R base : Nat} {ρ : Nat → List Int} {f : Nat → Value} (h : RowsIs w R base ρ f) : RowsRd w R w.heap.size ρ f := by
  refine ⟨h.cell, fun p hp => ?_, h.free, h.lt, Nat.le_refl _⟩
  have ho := h.own p hp
  have hf := h.off p hp
  rcases ho.2 with ⟨hv, h0⟩ | ⟨g, cap, cur, hv, hb, hg, hc, hm, _⟩
  · rw [hv]
    refine ⟨none, 0, by rw [h0], by omega, by unfold maxLen; omega, fun i x hx => ?_⟩
    have := (List.getElem?_eq_some_iff.1 hx).1
    omega
  · refine ⟨_, _, hv, hc, hm, fun i x hx => ?_⟩
    obtain ⟨g', c', hv', _, hcell⟩ := OwnL.cell ho encI_len i x hx
    rw [hv] at hv'
    injection hv' with h1 _ _
    injection h1 with h1
    injection h1 with h1
    subst h1
    refine ⟨g, 0, rfl, (Array.getElem?_eq_some_iff.1 hg).1, fun e => hf (by rw [hv]; simp [Value.ownBlock, e]), ?_⟩
    have := hcell 0 _ rfl
    simpa using this
theorem RowsRd.later {w w' : World} {R B : Nat} {ρ : Nat → List Int} {f : Nat → Value} (h : RowsRd w R B ρ f) (hb : Below B w w') : RowsRd w' R B ρ f :=
  ⟨fun p hp => (hb.cell (p := ⟨R, p, none⟩) h.lt).trans (h.cell p hp), fun p hp => (h.rd p hp).kept (fun k hk _ => hb.block k hk), fun p => (hb.frozen (p := ⟨R, p, none⟩) h.lt).trans (h.free p), h.lt, Nat.le_trans h.le hb.size⟩
theorem RowsRd.drew {w : World} {R B : Nat} {ρ : Nat → List Int} {f : Nat → Value} (h : RowsRd w R B ρ f) : RowsRd w.drew R B ρ f := ⟨h.cell, fun p hp => (h.rd p hp).kept (fun _ _ _ => rfl), h.free, h.lt, h.le⟩
theorem RowsRd.store {w : World} {R B : Nat} {ρ : Nat → List Int} {f : Nat → Value} (h : RowsRd w R B ρ f) {p : Nat} (hp : p < 24) {v : Value} {xs : List Int} (hv : RdO w R B v xs) :
    RowsRd (w.setCell ⟨R, p, none⟩ v) R B (upd ρ p xs) (upd f p v) := by
  have hk : ∀ k, k < B → k ≠ R → (w.setCell ⟨R, p, none⟩ v).heap[k]? = w.heap[k]? := fun k _ hk => Below.heap_setCell w ⟨R, p, none⟩ v k hk
  refine ⟨fun q hq => ?_, fun q hq => ?_, fun q => by rw [World.frozen?_setCell]; exact h.free q, h.lt, by have := h.le; simpa [World.setCell] using this⟩
  · by_cases e : q = p
    · subst e
      rw [upd_self]
      exact World.cell?_setCell_same w ⟨R, q, none⟩ v (h.cell q hq)
    · rw [upd_ne _ _ _ _ e]
      exact (World.cell?_setCell_other w ⟨R, p, none⟩ ⟨R, q, none⟩ v (by intro h2; injection h2 with _ h3; exact e h3.symm)).trans (h.cell q hq)
  · by_cases e : q = p
    · subst e; rw [upd_self, upd_self]; exact hv.kept hk
    · rw [upd_ne _ _ _ _ e, upd_ne _ _ _ _ e]; exact (h.rd q hq).kept hk

/-- The order, place by place: each work of the second sheet must stand first in both its places. -/
def matchF (wa : List Wk) : (Nat → List Int) → List Wk → List Int → Option (List Int)
  | _, [], acc => some acc
  | ρ, x :: rest, acc =>
    match ρ x.at_.toNat, ρ (x.at_.toNat + 1) with
    | i :: l, j :: r => if i = j ∧ 0 ≤ i ∧ wa[i.toNat]? = some x then matchF wa (upd (upd ρ x.at_.toNat l) (x.at_.toNat + 1) r) rest (acc ++ [i]) else none
    | _, _ => none
theorem matchF_cons {wa : List Wk} {ρ : Nat → List Int} {x : Wk} {rest : List Wk} {acc out : List Int} (h : matchF wa ρ (x :: rest) acc = some out) :
    ∃ (i : Nat) (l r : List Int), ρ x.at_.toNat = (i : Int) :: l ∧ ρ (x.at_.toNat + 1) = (i : Int) :: r ∧ wa[i]? = some x ∧ matchF wa (upd (upd ρ x.at_.toNat l) (x.at_.toNat + 1) r) rest (acc ++ [(i : Int)]) = some out := by
  cases h1 : ρ x.at_.toNat with
  | nil => simp only [matchF, h1] at h; cases h
  | cons i l =>
    cases h2 : ρ (x.at_.toNat + 1) with
    | nil => simp only [matchF, h1, h2] at h; cases h
    | cons j r =>
      simp only [matchF, h1, h2] at h
      split at h
      · rename_i hc
        obtain ⟨rfl, h0, hw⟩ := hc
        obtain ⟨n, rfl⟩ := Int.eq_ofNat_of_zero_le h0
        exact ⟨n, l, r, rfl, rfl, by simpa using hw, h⟩
      · cases h
theorem matchF_len {wa : List Wk} : ∀ (wb : List Wk) {ρ : Nat → List Int} {acc out : List Int}, matchF wa ρ wb acc = some out → out.length = acc.length + wb.length
  | [], ρ, acc, out, h => by simp only [matchF, Option.some.injEq] at h; subst h; simp
  | x :: rest, ρ, acc, out, h => by
    obtain ⟨i, l, r, _, _, _, h4⟩ := matchF_cons h
    have := matchF_len rest h4
    rw [List.length_append, List.length_singleton] at this
    rw [List.length_cons]; omega

set_option maxRecDepth 100000 in
set_option maxHeartbeats 4000000 in
theorem match_any (wa wb : List Wk) (pr : Int) (ba bb : Nat) (va vb : Value) (out : List Int) (w : World) (hp2 : pr ≤ 24) (hla : wa.length ≤ 400) (hlb : wb.length = wa.length)
    (halla : ∀ (i : Nat) (x : Wk), wa[i]? = some x → 0 ≤ x.at_ ∧ x.at_ ≤ pr - 2) (hallb : ∀ (i : Nat) (x : Wk), wb[i]? = some x → 0 ≤ x.at_ ∧ x.at_ ≤ pr - 2)
    (ha0 : w.cell? ⟨ba, 0, none⟩ = some (.int .i64 pr)) (ha1 : w.cell? ⟨ba, 1, none⟩ = some va) (hb0 : w.cell? ⟨bb, 0, none⟩ = some (.int .i64 pr)) (hb1 : w.cell? ⟨bb, 1, none⟩ = some vb)
    (hbal : ba < w.heap.size) (hbbl : bb < w.heap.size) (hra : RdL 3 encW w va wa) (hrb : RdL 3 encW w vb wb) (hM : matchF wa (rowsTo wa wa.length) wb [] = some out) :
    Calls Tryd.prog 18 #[.pointer (some ⟨ba, 0, none⟩), .pointer (some ⟨bb, 0, none⟩)] w fun e w' => (∃ v, e = .returned (.tuple #[v, .bool true]) ∧ OwnI w' w.heap.size v out) ∧ Below w.heap.size w w' := by
  have hrow := row_any wa pr ba va
  obtain ⟨aa, ca, rfl, hlena, hca⟩ := hra.slice
  obtain ⟨ab, cb, rfl, hlenb, hcb⟩ := hrb.slice
  have HROW := Lib.hid hrow
  have HRA := Lib.hid hra
  have HCA := Lib.hid hca
  have HCB := Lib.hid hcb
  have HAA := Lib.hid halla
  have HAB := Lib.hid hallb
  have HM := Lib.hid hM
  have hLB := Lib.hid hlb
  have hlb2 : wb.length ≤ 400 := by omega
  have t1 : (pr != pr) = false := by simp
  have t2 : ((wa.length : Int) != (wb.length : Int)) = false := by rw [hlb]; simp
  clear hrow hca hcb halla hallb hM hra hrb hlb
  go_enter Tryd.func18, Tryd.ntmps18
  go_wp2
  go_quiet (fail)
  obtain ⟨i0, hi, hz0, hz1, hz2⟩ := info_parts info_int
  go_wp2_with (first | (go_at_call 39; refine (HROW.out _ hp2 hla HAA.out (by simpa using ha1) (by simpa using hbal) (HRA.out.later (below_ofDrewN _ _))).mono ?_; rintro e w1 ⟨rfl, ⟨f, hR⟩, hb1'⟩; have HB1 : Hid (Below w.heap.size w w1) := (below_ofDrewN w _).trans hb1'; have HR : Hid (RowsIs w1 w.heap.size w.heap.size (rowsTo wa wa.length) f) := hR; clear hb1' hR; have ha11 := (HB1.out.cell (p := ⟨ba, 1, none⟩) hbal).trans ha1; have hb11 := (HB1.out.cell (p := ⟨bb, 1, none⟩) hbbl).trans hb1) | (at_make; refine wpList_make_own _ rfl _ _ 35 rfl w1.heap.size 3 i0 (.int .i64 0) 1 Tryd.underlying35 hi hz0 hz1 .i64 .i64 _ wb.length rfl rfl rfl (by rw [hz2]; omega) (by unfold maxLen; omega) (Nat.le_refl _) ?_; intro w2 hown2 hg2; have HO2 := Lib.hid hown2; have hsz2 := hg2.size; have HB2 : Hid (Below w1.heap.size w1 w2) := ⟨hg2.os, hg2.tape, hg2.output, hg2.size, fun k hk => hg2.block k hk (by simp)⟩; clear hown2 hg2; have ha12 := (HB2.out.cell (p := ⟨ba, 1, none⟩) (Nat.lt_of_lt_of_le hbal HB1.out.size)).trans ha11; have hb12 := (HB2.out.cell (p := ⟨bb, 1, none⟩) (Nat.lt_of_lt_of_le hbbl HB1.out.size)).trans hb11))
  have hsz1 := HB1.out.size
  have HBw : Hid (Below w.heap.size w w2) := HB1.out.trans (HB2.out.mono hsz1)
  have HRD : Hid (RowsRd w2 w.heap.size w1.heap.size (rowsTo wa wa.length) f) := HR.out.rdo.later HB2.out
  clear HROW HR HRA
  go_loopw [7, 9, 10, 11, 47] (fun v _ _ _ i wr => ∃ (k : Nat) (ρ : Nat → List Int) (acc : List Int) (ff : Nat → Value), k ≤ wb.length ∧ i = .int .i64 k ∧ OwnI wr w1.heap.size v acc ∧ acc.length = k ∧ RowsRd wr w.heap.size w1.heap.size ρ ff ∧ Hid (matchF wa ρ (wb.drop k) acc = some out) ∧ Below w.heap.size w wr) (fun _ _ _ _ i _ => wb.length - (intOf i).toNat)
  case atStart => exact ⟨0, _, [], f, Nat.zero_le _, rfl, HO2.out, rfl, HRD.out, by rw [List.drop_zero]; exact HM.out, HBw.out⟩
  case round =>
    obtain ⟨k, ρ, acc, ff, hk, rfl, hown, hacc, hRD, HMk, hB⟩ := hrel
    have hac : acc.length ≤ 400 := by omega
    have HACC := Lib.hid hacc
    clear hacc HM HO2 HRD HBw
    by_cases hlt : k < wb.length
    · obtain ⟨b', off, rfl, hbl', hcell⟩ := HCB.out k wb[k] (List.getElem?_eq_getElem hlt)
      obtain ⟨hx0, hx1, hx2⟩ := encW_at (cells_below hB hbl' hcell)
      have hbl2 : b' < wr.heap.size := Nat.lt_of_lt_of_le hbl' hB.size
      obtain ⟨hlo, hhi⟩ := HAB.out k wb[k] (List.getElem?_eq_getElem hlt)
      have hMk := HMk.out
      rw [List.drop_eq_getElem_cons hlt] at hMk
      generalize wb[k] = x at hx0 hx1 hx2 hlo hhi hMk
      obtain ⟨i, l, r, hρ1, hρ2, hwa, hMn⟩ := matchF_cons hMk
      obtain ⟨xk, xa, xw⟩ := x
      dsimp only at hx0 hx1 hx2 hlo hhi hρ1 hρ2 hMn
      obtain ⟨q, rfl⟩ := Int.eq_ofNat_of_zero_le hlo
      rw [Int.toNat_natCast] at hρ1 hρ2 hMn
      have hq : q + 1 < 24 := by omega
      have hil : i < wa.length := (List.getElem?_eq_some_iff.1 hwa).1
      obtain ⟨ba2, offa, rfl, hbla, hcella⟩ := HCA.out i _ hwa
      obtain ⟨hy0, hy1, hy2⟩ := encW_at (cells_below hB hbla hcella)
      have hbla2 : ba2 < wr.heap.size := Nat.lt_of_lt_of_le hbla hB.size
      have hc1 := hRD.cell q (by omega)
      have hc2 := hRD.cell (q + 1) (by omega)
      have hd1 := hRD.rd q (by omega)
      have hd2 := hRD.rd (q + 1) (by omega)
      rw [hρ1] at hd1
      rw [hρ2] at hd2
      obtain ⟨g1, o1, c1, A1, e1, hl1, hm1, hg1, hgR1, hi1, hrd1, hcut1⟩ := hd1.head
      obtain ⟨g2, o2, c2, A2, e2, hl2, hm2, hg2, hgR2, hi2, hrd2, hcut2⟩ := hd2.head
      rw [e1] at hc1
      rw [e2] at hc2
      have hg1' : g1 < wr.heap.size := Nat.lt_of_lt_of_le hg1 hRD.le
      have hg2' : g2 < wr.heap.size := Nat.lt_of_lt_of_le hg2 hRD.le
      have hRl : w.heap.size < wr.heap.size := Nat.lt_of_lt_of_le hRD.lt hRD.le
      have hRDle := hRD.le
      have HRD := Lib.hid hRD
      have HD1 := Lib.hid hrd1
      have HD2 := Lib.hid hrd2
      have HMn := Lib.hid hMn
      have HOWN := Lib.hid hown
      have hb13 := (hB.cell (p := ⟨bb, 1, none⟩) hbbl).trans hb1
      have ha13 := (hB.cell (p := ⟨ba, 1, none⟩) hbal).trans ha1
      have hbb2 : bb < wr.heap.size := Nat.lt_of_lt_of_le hbbl hB.size
      have hba2 : ba < wr.heap.size := Nat.lt_of_lt_of_le hbal hB.size
      clear hcell hcella HCA HCB HAA HAB hMk HMk hwa hρ1 hρ2 hd1 hd2 e1 e2 hRD hrd1 hrd2 hMn hown ha11 hb11 ha12 hb12 ha1 hb1 ha0 hb0
      have hq1 : (q : Int) < 24 := by omega
      have hq2 : (q : Int) + 1 < 24 := by omega
      have hw64 := w64_succ q (by omega)
      have hw0 := z_succ q
      have hwn := n_succ q
      have hi0 : (0 : Int) ≤ i := by omega
      have hi1' : (i : Int) < wa.length := by omega
      have t3 : ((i : Int) != (i : Int)) = false := by simp
      have t4 : (((l.length + 1 : Nat) : Int) == 0) = false := by rw [beq_eq_false_iff_ne]; omega
      have t5 : (((r.length + 1 : Nat) : Int) == 0) = false := by rw [beq_eq_false_iff_ne]; omega
      have t6 : (((l.length : Nat) : Int) + 1 == 0) = false := by rw [beq_eq_false_iff_ne]; omega
      have t7 : (((r.length : Nat) : Int) + 1 == 0) = false := by rw [beq_eq_false_iff_ne]; omega
      go_wp2
      go_quiet (fail)
      go_wp2
      go_quiet (fail)
      go_wp2_with (at_builtin; go_must (refine app_int rfl _ _ rfl w1.heap.size _ acc rfl ((HOWN.out.alloc _).drewN _) 1 (i : Int) _ (show wr.heap.size + 1 = (wr.alloc _).heap.size by simp) rfl (by omega) (by have := hRDle; simp; omega) rfl ?_); intro v' w4 hown4 hg4 hv4 hat4; have HO4 := Lib.hid hown4; have HG4 := Lib.hid hg4; clear hown4 hg4 hat4)
      have hB4 : Below w1.heap.size wr w4 := ((below_drewN ((Below.refl _ _).alloc hRDle _) _).grown HG4.out (by have := hRDle; simp [World.drewN]; omega) (fun kk e => ((HOWN.out.alloc (.cells #[.int .i64 xk, .int .i64 q, .string xw] 60)).lt kk e).1))
      have HB4 := Lib.hid hB4
      have hz4 := hB4.size
      have HRD4 := Lib.hid (HRD.out.later hB4)
      have hc14 : w4.cell? ⟨w.heap.size, q, none⟩ = some (.slice (some ⟨g1, o1, none⟩) (l.length + 1) c1) := (hB4.cell (p := ⟨w.heap.size, q, none⟩) HRD.out.lt).trans hc1
      have hc24 : w4.cell? ⟨w.heap.size, q + 1, none⟩ = some (.slice (some ⟨g2, o2, none⟩) (r.length + 1) c2) := (hB4.cell (p := ⟨w.heap.size, q + 1, none⟩) HRD.out.lt).trans hc2
      have hf14 := HRD4.out.free q
      have hf24 := HRD4.out.free (q + 1)
      clear hB4
      refine start_ (n := 14) (S := fun w' => w'.cell? ⟨w.heap.size, q, none⟩ = some (.slice (some ⟨g1, o1, none⟩) (l.length + 1) c1) ∧ w'.cell? ⟨w.heap.size, q + 1, none⟩ = some (.slice (some ⟨g2, o2, none⟩) (r.length + 1) c2)) (ds := [11, 13]) #[false, false, false, false, false, false, false, false, false, false, false, false, false, false] (by kernel_rfl) rfl rfl ⟨hc14, hc24⟩ (fun hHeld => ?_)
      refine pure_ (i := 0) (N := some 110) (v := ?_) (a' := ?_) #[true, false, false, false, false, false, false, false, false, false, false, false, false, false] rfl rfl (by kernel_rfl) (fun _ _ _ h => h) (Or.inl ⟨by rfl, ?_⟩) ?_ ?_
      rotate_left
      · intro w'
        go_simp
        with_reducible rfl
      rotate_left
      · simp only [Act.put, List.setIfInBounds_toArray, List.set_cons_zero, List.set_cons_succ, i64_w, i32_w]
        rfl
      refine pure_ (i := 1) (N := some 111) (v := ?_) (a' := ?_) #[true, true, false, false, false, false, false, false, false, false, false, false, false, false] rfl rfl (by kernel_rfl) (fun _ _ _ h => h) (Or.inl ⟨by rfl, ?_⟩) ?_ ?_
      rotate_left
      · intro w'
        go_simp
        with_reducible rfl
      rotate_left
      · simp only [Act.put, List.setIfInBounds_toArray, List.set_cons_zero, List.set_cons_succ, i64_w, i32_w]
        rfl
      refine pure_ (i := 2) (N := some 112) (v := ?_) (a' := ?_) #[true, true, true, false, false, false, false, false, false, false, false, false, false, false] rfl rfl (by kernel_rfl) (fun _ _ _ h => h) (Or.inl ⟨by rfl, ?_⟩) ?_ ?_
      rotate_left
      · intro w'
        go_simp
        with_reducible rfl
      rotate_left
      · simp only [Act.put, List.setIfInBounds_toArray, List.set_cons_zero, List.set_cons_succ, i64_w, i32_w]
        rfl
      refine pure_ (i := 3) (N := some 113) (v := ?_) (a' := ?_) #[true, true, true, true, false, false, false, false, false, false, false, false, false, false] rfl rfl (by kernel_rfl) (fun _ _ _ h => h) (Or.inl ⟨by rfl, ?_⟩) ?_ ?_
      rotate_left
      · intro w'
        go_simp
        with_reducible rfl
      rotate_left
      · simp only [Act.put, List.setIfInBounds_toArray, List.set_cons_zero, List.set_cons_succ, i64_w, i32_w]
        rfl
      refine pure_ (i := 6) (N := some 116) (v := ?_) (a' := ?_) #[true, true, true, true, false, false, true, false, false, false, false, false, false, false] rfl rfl (by kernel_rfl) (fun _ _ _ h => h) (Or.inl ⟨by rfl, ?_⟩) ?_ ?_
      rotate_left
      · intro w'
        go_simp
        with_reducible rfl
      rotate_left
      · simp only [Act.put, List.setIfInBounds_toArray, List.set_cons_zero, List.set_cons_succ, i64_w, i32_w]
        rfl
      refine pure_ (i := 7) (N := some 117) (v := ?_) (a' := ?_) #[true, true, true, true, false, false, true, true, false, false, false, false, false, false] rfl rfl (by kernel_rfl) (fun _ _ _ h => h) (Or.inl ⟨by rfl, ?_⟩) ?_ ?_
      rotate_left
      · intro w'
        go_simp
        with_reducible rfl
      rotate_left
      · simp only [Act.put, List.setIfInBounds_toArray, List.set_cons_zero, List.set_cons_succ, i64_w, i32_w]
        rfl
      refine take_ (i := 4) (N := some 114) (v := ?_) (a' := ?_) #[true, true, true, true, true, false, true, true, false, false, false, false, false, false] rfl rfl (by kernel_rfl) (fun _ _ _ h => h) (Or.inl ⟨by rfl, ?_⟩) hHeld ?_ ?_
      rotate_left
      · rintro w' ⟨s0, s1⟩
        go_simp
        with_reducible rfl
      rotate_left
      · simp only [Act.put, List.setIfInBounds_toArray, List.set_cons_zero, List.set_cons_succ, i64_w, i32_w]
        rfl
      refine pure_ (i := 5) (N := some 115) (v := ?_) (a' := ?_) #[true, true, true, true, true, true, true, true, false, false, false, false, false, false] rfl rfl (by kernel_rfl) (fun _ _ _ h => h) (Or.inl ⟨by rfl, ?_⟩) ?_ ?_
      rotate_left
      · intro w'
        go_simp
        with_reducible rfl
      rotate_left
      · simp only [Act.put, List.setIfInBounds_toArray, List.set_cons_zero, List.set_cons_succ, i64_w, i32_w]
        rfl
      refine take_ (i := 8) (N := some 118) (v := ?_) (a' := ?_) #[true, true, true, true, true, true, true, true, true, false, false, false, false, false] rfl rfl (by kernel_rfl) (fun _ _ _ h => h) (Or.inl ⟨by rfl, ?_⟩) hHeld ?_ ?_
      rotate_left
      · rintro w' ⟨s0, s1⟩
        go_simp
        with_reducible rfl
      rotate_left
      · simp only [Act.put, List.setIfInBounds_toArray, List.set_cons_zero, List.set_cons_succ, i64_w, i32_w]
        rfl
      refine pure_ (i := 9) (N := some 119) (v := ?_) (a' := ?_) #[true, true, true, true, true, true, true, true, true, true, false, false, false, false] rfl rfl (by kernel_rfl) (fun _ _ _ h => h) (Or.inl ⟨by rfl, ?_⟩) ?_ ?_
      rotate_left
      · intro w'
        go_simp
        with_reducible rfl
      rotate_left
      · simp only [Act.put, List.setIfInBounds_toArray, List.set_cons_zero, List.set_cons_succ, i64_w, i32_w]
        rfl
      refine pure_ (i := 10) (N := some 120) (v := ?_) (a' := ?_) #[true, true, true, true, true, true, true, true, true, true, true, false, false, false] rfl rfl (by kernel_rfl) (fun _ _ _ h => h) (Or.inl ⟨by rfl, ?_⟩) ?_ ?_
      rotate_left
      · intro w'
        go_simp
        with_reducible rfl
      rotate_left
      · simp only [Act.put, List.setIfInBounds_toArray, List.set_cons_zero, List.set_cons_succ, i64_w, i32_w]
        rfl
      refine last_ (i := 11) (N := none) #[true, true, true, true, true, true, true, true, true, true, true, true, false, false] rfl rfl (by kernel_rfl) (by decide) (fun K hK => ?_)
      refine skip_ (w1 := ?_) (by rfl) rfl ?_ ?_
      rotate_left
      · go_simp
        rfl
      refine hK.out _ _ ?_
      clear hK K
      refine pure_ (i := 12) (N := some 121) (v := ?_) (a' := ?_) #[true, true, true, true, true, true, true, true, true, true, true, true, true, false] rfl rfl (by kernel_rfl) (fun _ _ _ h => h) (Or.inl ⟨by rfl, ?_⟩) ?_ ?_
      rotate_left
      · intro w'
        go_simp
        with_reducible rfl
      rotate_left
      · simp only [Act.put, List.setIfInBounds_toArray, List.set_cons_zero, List.set_cons_succ, i64_w, i32_w]
        rfl
      refine last_ (i := 13) (N := none) #[true, true, true, true, true, true, true, true, true, true, true, true, true, true] rfl rfl (by kernel_rfl) (by decide) (fun K hK => ?_)
      refine skip_ (w1 := ?_) (by rfl) rfl ?_ ?_
      rotate_left
      · go_simp
        rfl
      refine hK.out _ _ ?_
      clear hK K
      refine done_ (by kernel_rfl) ?_
      clear hw64 hw0 hwn
      have hE1 : RowsRd ((w4.setCell ⟨w.heap.size, q, none⟩ (.slice A1 l.length (c1 - 1))).setCell ⟨w.heap.size, q + 1, none⟩ (.slice A2 r.length (c2 - 1))) w.heap.size w1.heap.size (upd (upd ρ q l) (q + 1) r) _ :=
        (HRD4.out.store (Nat.lt_of_succ_lt hq) (HD1.out.kept (fun kk hkk _ => HB4.out.block kk hkk))).store hq ((HD2.out.kept (fun kk hkk _ => HB4.out.block kk hkk)).kept (fun kk _ hkk => Below.heap_setCell w4 ⟨w.heap.size, q, none⟩ _ kk hkk))
      have HE1 : Hid (∃ ff, RowsRd ((w4.setCell ⟨w.heap.size, q, none⟩ (.slice A1 l.length (c1 - 1))).setCell ⟨w.heap.size, q + 1, none⟩ (.slice A2 r.length (c2 - 1))) w.heap.size w1.heap.size (upd (upd ρ q l) (q + 1) r) ff) := ⟨_, hE1⟩
      have HE2 : Hid (OwnI ((w4.setCell ⟨w.heap.size, q, none⟩ (.slice A1 l.length (c1 - 1))).setCell ⟨w.heap.size, q + 1, none⟩ (.slice A2 r.length (c2 - 1))) w1.heap.size v' (acc ++ [(i : Int)])) :=
        OwnL.kept HO4.out (row := some w.heap.size) ⟨rfl, rfl, rfl, by simp [World.setCell], fun kk _ hkk => by
          have hne : kk ≠ w.heap.size := fun e => hkk (by rw [e])
          rw [Below.heap_setCell _ ⟨w.heap.size, q + 1, none⟩ _ kk hne, Below.heap_setCell _ ⟨w.heap.size, q, none⟩ _ kk hne]⟩ (.inr (fun e => by have := (HO4.out.lt _ e).1; have := HRD4.out.lt; omega))
      have HE3 : Hid (Below w.heap.size w ((w4.setCell ⟨w.heap.size, q, none⟩ (.slice A1 l.length (c1 - 1))).setCell ⟨w.heap.size, q + 1, none⟩ (.slice A2 r.length (c2 - 1)))) := ((hB.trans (HB4.out.mono hsz1)).setCell (Nat.le_refl _) _).setCell (Nat.le_refl _) _
      clear hE1 hHeld
      go_wp2
      go_roundw
      case rel =>
        obtain ⟨f5, h5⟩ := HE1.out
        exact ⟨k + 1, upd (upd ρ q l) (q + 1) r, acc ++ [(i : Int)], f5, by omega, by go_num, HE2.out.drew, by rw [List.length_append, List.length_singleton, HACC.out], h5.drew, HMn.out, HE3.out.drew⟩
      case measure => first | (simp [intOf]; done) | (simp [intOf]; omega)
    · go_wp2
      go_ret2
      have h0 := HMk.out
      rw [List.drop_eq_nil_of_le (by omega)] at h0
      simp only [matchF, Option.some.injEq] at h0
      subst h0
      exact ⟨⟨_, rfl, hown.lower hsz1⟩, hB⟩
end Go.Proofs.YtepofpnbgbmihaaDoor

/-
  cmp.Or of zeros, traces.check, traces.Match.
-/
namespace Go.Proofs.YtepofpnbgbmihaaDoor
open Go.RowKit Go.Proofs.YtepofpnbgbmihaaDoorW.PrintLast
set_option linter.unusedSimpArgs false
set_option linter.unusedVariables false

set_option maxHeartbeats 400000 in
theorem or_any (w : World) (g c : Nat) (h0 : w.cell? ⟨g, 0, none⟩ = some (.int .i64 0)) (h1 : w.cell? ⟨g, 1, none⟩ = some (.int .i64 0)) :
    Calls Tryd.prog 38 #[.slice (some ⟨g, 0, none⟩) 2 c] w fun e w' => e = .returned (.int .i64 0) ∧ w' = w := by
  have HC : Hid (∀ k, k < 2 → w.cell? ⟨g, k, none⟩ = some (.int .i64 0)) := by
    intro k hk
    rcases (by omega : k = 0 ∨ k = 1) with rfl | rfl
    · exact h0
    · exact h1
  clear h0 h1
  go_enter Tryd.func38, Tryd.ntmps38
  go_wp2
  go_loop [8] (fun i => ∃ k : Nat, k ≤ 2 ∧ i = .int .i64 k) (fun i => 2 - (intOf i).toNat)
  case atStart => exact ⟨0, by omega, rfl⟩
  case round =>
    obtain ⟨k, hk, rfl⟩ := hrel
    by_cases hlt : k < 2
    · have hc := HC.out k hlt
      clear HC
      go_wp2
      go_round
      case rel => exact ⟨k + 1, by omega, by go_num⟩
      case measure => first | (simp [intOf]; done) | (simp [intOf]; omega)
    · go_wp2
      go_ret
      exact ⟨rfl, rfl⟩

set_option maxRecDepth 100000 in
set_option maxHeartbeats 1000000 in
theorem trCheck_any (sa sb : Sh) (ba bb : Nat) (va vb : Value) (w : World) (hVa : Valid sa) (hVb : Valid sb)
    (ha0 : w.cell? ⟨ba, 0, none⟩ = some (.int .i64 sa.pairs)) (ha1 : w.cell? ⟨ba, 1, none⟩ = some va) (hb0 : w.cell? ⟨bb, 0, none⟩ = some (.int .i64 sb.pairs)) (hb1 : w.cell? ⟨bb, 1, none⟩ = some vb)
    (hbal : ba < w.heap.size) (hbbl : bb < w.heap.size) (hra : RdL 3 encW w va sa.works) (hrb : RdL 3 encW w vb sb.works) :
    Calls Tryd.prog 17 #[.pointer (some ⟨ba, 0, none⟩), .pointer (some ⟨bb, 0, none⟩)] w fun e w' => e = .returned (.int .i64 0) ∧ Below w.heap.size w w' := by
  have hCA := fun W hr => shCheck_any sa va W hVa hr
  have hCB := fun W hr => shCheck_any sb vb W hVb hr
  have HCA := Lib.hid hCA
  have HCB := Lib.hid hCB
  obtain ⟨pa, wa⟩ := sa
  obtain ⟨pb, wb⟩ := sb
  dsimp only at ha0 hb0 hra hrb HCA HCB
  obtain ⟨aa, ca, rfl, hlena, hca⟩ := hra.slice
  obtain ⟨ab, cb, rfl, hlenb, hcb⟩ := hrb.slice
  have HRA := Lib.hid hra
  have HRB := Lib.hid hrb
  clear hCA hCB hVa hVb hra hrb hca hcb hlena hlenb
  go_enter Tryd.func17, Tryd.ntmps17
  go_wp2
  refine start_ (n := 11) (S := fun w' => w'.cell? ⟨ba, 0, none⟩ = some (.int .i64 pa) ∧ w'.cell? ⟨ba, 1, none⟩ = some (.slice aa wa.length ca) ∧ w'.cell? ⟨bb, 0, none⟩ = some (.int .i64 pb) ∧ w'.cell? ⟨bb, 1, none⟩ = some (.slice ab wb.length cb)) (ds := [7, 8, 9]) #[false, false, false, false, false, false, false, false, false, false, false] (by kernel_rfl) rfl rfl ⟨ha0, ha1, hb0, hb1⟩ (fun hHeld => ?_)
  refine pure_ (i := 0) (N := some 5) (v := ?_) (a' := ?_) #[true, false, false, false, false, false, false, false, false, false, false] rfl rfl (by kernel_rfl) (fun _ _ _ h => h) (Or.inl ⟨by rfl, ?_⟩) ?_ ?_
  rotate_left
  · intro w'
    go_simp
    with_reducible rfl
  rotate_left
  · simp only [Act.put, List.setIfInBounds_toArray, List.set_cons_zero, List.set_cons_succ, i64_w, i32_w]
    rfl
  refine pure_ (i := 1) (N := some 6) (v := ?_) (a' := ?_) #[true, true, false, false, false, false, false, false, false, false, false] rfl rfl (by kernel_rfl) (fun _ _ _ h => h) (Or.inl ⟨by rfl, ?_⟩) ?_ ?_
  rotate_left
  · intro w'
    go_simp
    with_reducible rfl
  rotate_left
  · simp only [Act.put, List.setIfInBounds_toArray, List.set_cons_zero, List.set_cons_succ, i64_w, i32_w]
    rfl
  refine pure_ (i := 4) (N := some 9) (v := ?_) (a' := ?_) #[true, true, false, false, true, false, false, false, false, false, false] rfl rfl (by kernel_rfl) (fun _ _ _ h => h) (Or.inl ⟨by rfl, ?_⟩) ?_ ?_
  rotate_left
  · intro w'
    go_simp
    with_reducible rfl
  rotate_left
  · simp only [Act.put, List.setIfInBounds_toArray, List.set_cons_zero, List.set_cons_succ, i64_w, i32_w]
    rfl
  refine pure_ (i := 5) (N := some 10) (v := ?_) (a' := ?_) #[true, true, false, false, true, true, false, false, false, false, false] rfl rfl (by kernel_rfl) (fun _ _ _ h => h) (Or.inl ⟨by rfl, ?_⟩) ?_ ?_
  rotate_left
  · intro w'
    go_simp
    with_reducible rfl
  rotate_left
  · simp only [Act.put, List.setIfInBounds_toArray, List.set_cons_zero, List.set_cons_succ, i64_w, i32_w]
    rfl
  refine take_ (i := 2) (N := some 7) (v := ?_) (a' := ?_) #[true, true, true, false, true, true, false, false, false, false, false] rfl rfl (by kernel_rfl) (fun _ _ _ h => h) (Or.inl ⟨by rfl, ?_⟩) hHeld ?_ ?_
  rotate_left
  · rintro w' ⟨s0, s1, s2, s3⟩
    go_simp
    with_reducible rfl
  rotate_left
  · simp only [Act.put, List.setIfInBounds_toArray, List.set_cons_zero, List.set_cons_succ, i64_w, i32_w]
    rfl
  refine take_ (i := 6) (N := some 11) (v := ?_) (a' := ?_) #[true, true, true, false, true, true, true, false, false, false, false] rfl rfl (by kernel_rfl) (fun _ _ _ h => h) (Or.inl ⟨by rfl, ?_⟩) hHeld ?_ ?_
  rotate_left
  · rintro w' ⟨s0, s1, s2, s3⟩
    go_simp
    with_reducible rfl
  rotate_left
  · simp only [Act.put, List.setIfInBounds_toArray, List.set_cons_zero, List.set_cons_succ, i64_w, i32_w]
    rfl
  refine one_ (i := 3) (N := some 8) #[true, true, true, true, true, true, true, false, false, false, false] rfl rfl (by kernel_rfl) (by decide) (fun K hK => ?_)
  refine goes_ Tryd.func19 (by kernel_rfl) rfl #[.agg #[.int .i64 pa, .slice aa wa.length ca]] (by rfl) rfl rfl (by simp only [List.map_toArray, List.map_cons, List.map_nil]; rfl) ?_
  with_reducible refine (HCA.out _ (HRA.out.later ((Below.refl _ w).drew))).mono ?_
  rintro e w3 ⟨rfl, hb3⟩
  refine ⟨_, rfl, ?_⟩
  have HB3 : Hid (Below w.heap.size w w3) := ((Below.refl _ w).drew).trans hb3
  clear hb3
  refine hK.out _ _ ⟨(HB3.out.cell (p := ⟨ba, 0, none⟩) hbal).trans ha0, (HB3.out.cell (p := ⟨ba, 1, none⟩) hbal).trans ha1, (HB3.out.cell (p := ⟨bb, 0, none⟩) hbbl).trans hb0, (HB3.out.cell (p := ⟨bb, 1, none⟩) hbbl).trans hb1⟩ (fun hHeld => ?_)
  clear hK K
  refine norm_ (a' := ?_) ?_ ?_
  rotate_left
  · show Act.put _ (some 8) _ = _
    simp only [Act.put, List.setIfInBounds_toArray, List.set_cons_zero, List.set_cons_succ, i64_w, i32_w]
    rfl
  refine last_ (i := 7) (N := some 12) #[true, true, true, true, true, true, true, true, false, false, false] rfl rfl (by kernel_rfl) (by decide) (fun K hK => ?_)
  refine goes_ Tryd.func19 (by kernel_rfl) rfl #[.agg #[.int .i64 pb, .slice ab wb.length cb]] (by rfl) rfl rfl (by simp only [List.map_toArray, List.map_cons, List.map_nil]; rfl) ?_
  with_reducible refine (HCB.out _ (HRB.out.later HB3.out)).mono ?_
  rintro e w4 ⟨rfl, hb4⟩
  refine ⟨_, rfl, ?_⟩
  have HB4 : Hid (Below w.heap.size w w4) := HB3.out.trans (hb4.mono HB3.out.size)
  clear hb4
  refine hK.out _ _ ?_
  clear hK K
  refine norm_ (a' := ?_) ?_ ?_
  rotate_left
  · show Act.put _ (some 12) _ = _
    simp only [Act.put, List.setIfInBounds_toArray, List.set_cons_zero, List.set_cons_succ, i64_w, i32_w]
    rfl
  refine last_ (i := 8) (N := some 13) #[true, true, true, true, true, true, true, true, true, false, false] rfl rfl (by kernel_rfl) (by decide) (fun K hK => ?_)
  refine value_ (w1 := ?_) (v := ?_) (by rfl) rfl ?_ ?_
  rotate_left 2
  · go_simp
    constructor
    · rfl
    · rfl
  have HB5 : Hid (Below w.heap.size w (w4.alloc (.cells #[.int .i64 0, .int .i64 0] 32))) := HB4.out.alloc HB4.out.size _
  have hz0 : (w4.alloc (.cells #[.int .i64 0, .int .i64 0] 32)).cell? ⟨w4.heap.size, 0, none⟩ = some (.int .i64 0) := by simp [World.cell?_alloc_at]
  have hz1 : (w4.alloc (.cells #[.int .i64 0, .int .i64 0] 32)).cell? ⟨w4.heap.size, 1, none⟩ = some (.int .i64 0) := by simp [World.cell?_alloc_at]
  refine hK.out _ _ ?_
  clear hK K
  refine norm_ (a' := ?_) ?_ ?_
  rotate_left
  · show Act.put _ (some 13) _ = _
    simp only [Act.put, List.setIfInBounds_toArray, List.set_cons_zero, List.set_cons_succ, i64_w, i32_w]
    rfl
  refine last_ (i := 9) (N := some 14) #[true, true, true, true, true, true, true, true, true, true, false] rfl rfl (by kernel_rfl) (by decide) (fun K hK => ?_)
  refine goes_ Tryd.func38 (by kernel_rfl) rfl #[.slice (some ⟨w4.heap.size, 0, none⟩) 2 2] (by rfl) rfl rfl (by simp only [List.map_toArray, List.map_cons, List.map_nil]; rfl) ?_
  with_reducible refine (or_any _ _ _ hz0 hz1).mono ?_
  rintro e w6 ⟨rfl, rfl⟩
  refine ⟨_, rfl, ?_⟩
  have HBF := HB5
  refine hK.out _ _ ?_
  clear hK K
  refine norm_ (a' := ?_) ?_ ?_
  rotate_left
  · show Act.put _ (some 14) _ = _
    simp only [Act.put, List.setIfInBounds_toArray, List.set_cons_zero, List.set_cons_succ, i64_w, i32_w]
    rfl
  refine pure_ (i := 10) (N := some 4) (v := ?_) (a' := ?_) #[true, true, true, true, true, true, true, true, true, true, true] rfl rfl (by kernel_rfl) (fun _ _ _ h => h) (Or.inl ⟨by rfl, ?_⟩) ?_ ?_
  rotate_left
  · intro w'
    go_simp
    with_reducible rfl
  rotate_left
  · simp only [Act.put, List.setIfInBounds_toArray, List.set_cons_zero, List.set_cons_succ, i64_w, i32_w]
    rfl
  refine done_ (by kernel_rfl) ?_
  go_wp2
  go_ret
  exact ⟨rfl, HBF.out⟩

/-- traces.Match of two valid sheets that match. -/
theorem Match_any (sa sb : Sh) (va vb : Value) (out : List Int) (w : World) (hVa : Valid sa) (hVb : Valid sb) (hp : sb.pairs = sa.pairs) (hl : sb.works.length = sa.works.length)
    (hra : RdL 3 encW w va sa.works) (hrb : RdL 3 encW w vb sb.works) (hM : matchF sa.works (rowsTo sa.works sa.works.length) sb.works [] = some out) :
    Calls Tryd.prog 7 #[.agg #[.int .i64 sa.pairs, va], .agg #[.int .i64 sb.pairs, vb]] w fun e w' => (∃ v, e = .returned (.tuple #[v, .int .i64 0]) ∧ OwnI w' w.heap.size v out) ∧ Below w.heap.size w w' := by
  have hck := fun W h1 h2 h3 h4 h5 h6 h7 h8 => trCheck_any sa sb w.heap.size (w.heap.size + 1) va vb W hVa hVb h1 h2 h3 h4 h5 h6 h7 h8
  have hmt := fun W h1 h2 h3 h4 h5 h6 h7 h8 => match_any sa.works sb.works sa.pairs w.heap.size (w.heap.size + 1) va vb out W hVa.hi hVa.len hl (fun i x h => ⟨(hVa.all i x h).lo, (hVa.all i x h).hi⟩) (fun i x h => ⟨(hVb.all i x h).lo, hp ▸ (hVb.all i x h).hi⟩) h1 h2 h3 h4 h5 h6 h7 h8 hM
  rw [hp] at hck
  have HCK := Lib.hid hck
  have HMT := Lib.hid hmt
  have HRA := Lib.hid hra
  have HRB := Lib.hid hrb
  rw [hp]
  clear hck hmt hra hrb hM hVa hVb hl hp
  obtain ⟨pa, wa⟩ := sa
  obtain ⟨pb, wb⟩ := sb
  dsimp only at HCK HMT HRA HRB ⊢
  go_enter Tryd.func7, Tryd.ntmps7
  have hbw : Below w.heap.size w ((w.alloc (.cells #[.int .i64 pa, va] 24)).alloc (.cells #[.int .i64 pa, vb] 24)) := ((Below.refl _ _).alloc (Nat.le_refl _) _).alloc (by simp) _
  have hSa : ((w.alloc (.cells #[.int .i64 pa, va] 24)).alloc (.cells #[.int .i64 pa, vb] 24)).heap[w.heap.size]? = some (.cells #[.int .i64 pa, va] 24 (0, 0)) := heap_alloc2_old w _ _
  have hSb : ((w.alloc (.cells #[.int .i64 pa, va] 24)).alloc (.cells #[.int .i64 pa, vb] 24)).heap[w.heap.size + 1]? = some (.cells #[.int .i64 pa, vb] 24 (0, 0)) := heap_alloc2_new w _ _
  have HB := Lib.hid hbw
  have hz0 : w.heap.size + 2 = ((w.alloc (.cells #[.int .i64 pa, va] 24)).alloc (.cells #[.int .i64 pa, vb] 24)).heap.size := by simp
  have HZ0 := Lib.hid hz0
  have HSA := Lib.hid hSa
  have HSB := Lib.hid hSb
  clear hbw hSa hSb hz0
  obtain ⟨W0, hW0⟩ : ∃ W0, W0 = ((w.alloc (.cells #[.int .i64 pa, va] 24)).alloc (.cells #[.int .i64 pa, vb] 24)) := ⟨_, rfl⟩
  rw [← hW0] at HB HSA HSB HZ0
  have H1 : Hid (Calls Tryd.prog 17 #[.pointer (some ⟨w.heap.size, 0, none⟩), .pointer (some ⟨w.heap.size + 1, 0, none⟩)] W0 fun e w' => e = .returned (.int .i64 0) ∧ Below W0.heap.size W0 w') :=
    HCK.out W0 (by rw [cell_of_row W0 _ 0 _ _ _ HSA.out]; rfl) (by rw [cell_of_row W0 _ 1 _ _ _ HSA.out]; rfl) (by rw [cell_of_row W0 _ 0 _ _ _ HSB.out]; rfl) (by rw [cell_of_row W0 _ 1 _ _ _ HSB.out]; rfl) (by have := HZ0.out; omega) (by have := HZ0.out; omega) (HRA.out.later HB.out) (HRB.out.later HB.out)
  have H2 : Hid (∀ W, Below W0.heap.size W0 W → Calls Tryd.prog 18 #[.pointer (some ⟨w.heap.size, 0, none⟩), .pointer (some ⟨w.heap.size + 1, 0, none⟩)] W fun e w' => (∃ v, e = .returned (.tuple #[v, .bool true]) ∧ OwnI w' W.heap.size v out) ∧ Below W.heap.size W w') := fun W hb => by
    have hz := HZ0.out
    have hA := (hb.block w.heap.size (by omega)).trans HSA.out
    have hB := (hb.block (w.heap.size + 1) (by omega)).trans HSB.out
    have hbz := hb.size
    exact HMT.out W (by rw [cell_of_row W _ 0 _ _ _ hA]; rfl) (by rw [cell_of_row W _ 1 _ _ _ hA]; rfl) (by rw [cell_of_row W _ 0 _ _ _ hB]; rfl) (by rw [cell_of_row W _ 1 _ _ _ hB]; rfl) (by omega) (by omega) (HRA.out.later (HB.out.trans (hb.mono (by omega)))) (HRB.out.later (HB.out.trans (hb.mono (by omega))))
  rw [hW0] at H1 H2 HB HZ0
  clear HCK HMT HRA HRB HSA HSB hW0
  go_wp2_with (first | (go_at_call 17; refine H1.out.mono ?_; rintro e w1 ⟨rfl, hb1⟩; have HB1 := Lib.hid hb1; clear hb1) | (go_at_call 18; refine (H2.out w1 HB1.out).mono ?_; rintro e w2 ⟨⟨v, rfl, ho⟩, hb2⟩; have HO := Lib.hid ho; have HB2 := Lib.hid hb2; clear ho hb2))
  go_ret2
  have hz := HZ0.out
  have hz1 := HB1.out.size
  refine ⟨⟨_, rfl, HO.out.lower (by omega)⟩, ?_⟩
  exact (HB.out.trans (HB1.out.mono (by omega))).trans (HB2.out.mono (by omega))
end Go.Proofs.YtepofpnbgbmihaaDoor

/-
  The sheet in another order: the match, and the two cloths.
-/
namespace Go.Proofs.YtepofpnbgbmihaaDoor
open Go Go.RowKit

def toI (l : List Nat) : List Int := l.map fun m : Nat => (m : Int)
theorem match_of (wa : List Wk) (g : Nat → Wk) : ∀ (rest : List Nat) (ρ : Nat → List Int) (acc : List Int), rest.Nodup → (∀ i ∈ rest, wa[i]? = some (g i)) → (∀ p, ρ p = toI (rest.filter fun i => touchP (g i) p)) → matchF wa ρ (rest.map g) acc = some (acc ++ toI rest)
  | [], ρ, acc, _, _, _ => by simp [matchF, toI]
  | i :: rest, ρ, acc, hn, hw, hr => by
    have hn2 := List.nodup_cons.1 hn
    have h0 := hr (g i).at_.toNat
    have h1 := hr ((g i).at_.toNat + 1)
    rw [List.filter_cons, if_pos (by unfold touchP; simp)] at h0 h1
    have ih := match_of wa g rest (upd (upd ρ (g i).at_.toNat (toI (rest.filter fun k => touchP (g k) (g i).at_.toNat))) ((g i).at_.toNat + 1) (toI (rest.filter fun k => touchP (g k) ((g i).at_.toNat + 1)))) (acc ++ [(i : Int)]) hn2.2 (fun k hk => hw k (by simp [hk])) (fun p => by
      unfold upd
      by_cases e1 : p = (g i).at_.toNat + 1
      · rw [if_pos e1, e1]
      · rw [if_neg e1]
        by_cases e2 : p = (g i).at_.toNat
        · rw [if_pos e2, e2]
        · rw [if_neg e2, hr p, List.filter_cons, if_neg (by unfold touchP; simp [e1, e2])])
    show matchF wa ρ (g i :: rest.map g) acc = _
    unfold matchF
    rw [h0, h1]
    show (if (i : Int) = (i : Int) ∧ 0 ≤ (i : Int) ∧ wa[((i : Int)).toNat]? = some (g i) then _ else none) = _
    rw [if_pos ⟨rfl, by omega, by rw [Int.toNat_natCast]; exact hw i (by simp)⟩]
    refine ih.trans ?_
    rw [List.append_assoc]; rfl
theorem rows_of (ws : List Wk) (g : Nat → Wk) (hg : ∀ i, i < ws.length → ws[i]? = some (g i)) : ∀ k, k ≤ ws.length → ∀ p, rowsTo ws k p = toI ((List.range k).filter fun i => touchP (g i) p)
  | 0, _, p => rfl
  | k + 1, h, p => by
    have e : rowsTo ws (k + 1) = stepRow (rowsTo ws k) (g k).at_.toNat k := by
      show (match ws[k]? with | some x => stepRow (rowsTo ws k) x.at_.toNat k | none => rowsTo ws k) = _
      rw [hg k h]
    have ih := rows_of ws g hg k (by omega)
    rw [e, List.range_succ, List.filter_append, filter_one]
    unfold stepRow upd touchP
    by_cases e1 : p = (g k).at_.toNat + 1
    · rw [if_pos e1, ih, e1, if_pos (by simp)]
      unfold toI touchP; rw [List.map_append]; rfl
    · rw [if_neg e1]
      by_cases e2 : p = (g k).at_.toNat
      · rw [if_pos e2, ih, e2, if_pos (by simp)]
        unfold toI touchP; rw [List.map_append]; rfl
      · rw [if_neg e2, ih p, if_neg (by simp [e1, e2])]
        unfold toI touchP; simp
theorem valid_shuf {s : Sh} (hV : Valid s) {ws2 : List Wk} (h : Shuf s.works ws2) : Valid ⟨s.pairs, ws2⟩ :=
  ⟨hV.lo, hV.hi, by show ws2.length ≤ 400; rw [h.len]; exact hV.len, fun i x hx => h.all (ValidW s.pairs) (fun z hz => by obtain ⟨j, hj⟩ := List.mem_iff_getElem?.1 hz; exact hV.all j z hj) x (List.mem_of_getElem? hx)⟩
theorem same_of {s : Sh} (hV : Valid s) {ws2 : List Wk} (h : Shuf s.works ws2) : ∃ (out : List Nat) (tM : Nat → Nat), matchF s.works (rowsTo s.works s.works.length) ws2 [] = some (toI out) ∧ Same (mkTo s.works s.works.length).cs (mkTo ws2 ws2.length).cs s.works.length out tM := by
  have hat : ∀ x ∈ s.works, 0 ≤ x.at_ := fun x hx => by obtain ⟨j, hj⟩ := List.mem_iff_getElem?.1 hx; exact (hV.all j x hj).lo
  obtain ⟨g, hgd⟩ : ∃ g : Nat → Wk, g = fun i => s.works.getD i ⟨0, 0, ⟨#[]⟩⟩ := ⟨_, rfl⟩
  have hg : ∀ i, i < s.works.length → s.works[i]? = some (g i) := fun i hi => by rw [hgd]; dsimp only; rw [getD_get _ _ _ hi, List.getElem?_eq_getElem hi]
  have hgm : (List.range s.works.length).map g = s.works := by
    apply List.ext_getElem?
    intro i
    rw [List.getElem?_map]
    by_cases hi : i < s.works.length
    · rw [List.getElem?_range hi, hg i hi]; rfl
    · rw [List.getElem?_eq_none (by simp; omega), List.getElem?_eq_none (by omega)]; rfl
  obtain ⟨out, ho⟩ := OrdOk.of g hgm hat h
  have hnd : out.Nodup := ho.perm.symm.nodup List.nodup_range
  have hol : out.length = s.works.length := by rw [ho.perm.length_eq, List.length_range]
  have hmem : ∀ i ∈ out, i < s.works.length := fun i hi => List.mem_range.1 (ho.perm.mem_iff.1 hi)
  have hm := match_of s.works g out (rowsTo s.works s.works.length) [] hnd (fun i hi => hg i (hmem i hi)) (fun p => by rw [rows_of s.works g hg _ (Nat.le_refl _) p, ho.cols p])
  rw [← ho.works, List.nil_append] at hm
  have hl2 := h.len
  have hrun := mkTo_run s.works g hg s.works.length (Nat.le_refl _)
  obtain ⟨_, hr2, hr3⟩ := mkTo_rel g out out.length (Nat.le_refl _)
  rw [List.take_length, ← ho.works] at hr2
  rw [← ho.works] at hr3
  have hw1 := (mkTo_ok s hV s.works.length).1.cr
  rw [hol] at hr2 hr3
  rw [hl2]
  have hsub : ∀ j, j < s.works.length → (mkTo s.works s.works.length).cs.filter (wkIs (out.getD j 0)) = ((mkTo ws2 s.works.length).cs.filter (wkIs j)).map (lab (out.getD j 0)) := fun j hj => by
    rw [hrun, ← ho.sub, hr2, List.filter_map]
    have e1 : (mkTo ws2 s.works.length).cs.filter (wkIs (out.getD j 0) ∘ rel out) = (mkTo ws2 s.works.length).cs.filter (wkIs j) := by
      apply List.filter_congr
      intro c hc
      have hc3 := hr3 c hc
      have hcl : c.work.toNat < out.length := by omega
      show (((out.getD c.work.toNat 0 : Nat) : Int) == ((out.getD j 0 : Nat) : Int)) = (c.work == (j : Int))
      rw [Bool.eq_iff_iff, beq_iff_eq, beq_iff_eq]
      constructor
      · intro he
        have he2 : out.getD c.work.toNat 0 = out.getD j 0 := by omega
        rw [getD_get _ _ _ hcl, getD_get _ _ _ (by omega)] at he2
        have i1 := hnd.idxOf_getElem c.work.toNat hcl
        have i2 := hnd.idxOf_getElem j (by omega)
        rw [he2, i2] at i1
        omega
      · intro he; rw [he, Int.toNat_natCast]
    rw [e1]
    apply List.map_congr_left
    intro c hc
    have hcw := (List.mem_filter.1 hc).2
    unfold wkIs at hcw
    rw [beq_iff_eq] at hcw
    show lab (out.getD c.work.toNat 0) c = _
    rw [hcw, Int.toNat_natCast]
  have hlen : (mkTo ws2 s.works.length).cs.length = (mkTo s.works s.works.length).cs.length := by
    have h5 := ho.len
    rw [hr2, List.length_map, ← hrun] at h5
    exact h5
  obtain ⟨tM, hS⟩ := Same.of ho.perm hlen (fun x hx => ⟨(hw1 x hx).1.work, (hw1 x hx).2⟩) hr3 hsub
  exact ⟨out, tM, hm, hS⟩
end Go.Proofs.YtepofpnbgbmihaaDoor

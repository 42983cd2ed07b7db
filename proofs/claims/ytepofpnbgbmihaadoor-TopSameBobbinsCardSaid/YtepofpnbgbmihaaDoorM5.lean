/-
  The solver's recursion in plain words; its state in memory.
-/
import Derived.Test.YtepofpnbgbmihaaDoorM4
import Derived.Deep.MidRow
import Derived.Laws.OwnMore
import Derived.Test.YtepofpnbgbmihaaDoorM1
import Derived.Test.YtepofpnbgbmihaaDoorM2
import Derived.Shelf.Spec.TrailingZeros

/-
  The solver's recursion in plain words; its state in memory.
-/
namespace Go.Proofs.YtepofpnbgbmihaaDoor
open Go.RowKit Go.Shelf Go.Proofs.YtepofpnbgbmihaaDoorW.PrintLast
set_option linter.unusedSimpArgs false
set_option linter.unusedVariables false

def tz (m : Int) : Nat := Lib.trailingZeros8 m.toNat
def nextM (m : Int) : Int := bits .and .u8 m (m - 1)
def cols (m : Int) : List Nat := [0, 1, 2, 3, 4, 5].filter fun c => bits .and .u8 (m / 2 ^ c) 1 == 1
theorem cols_fin : ∀ n : Fin 64, n.val ≠ 0 → tz (n.val : Int) < 6 ∧ 0 ≤ nextM (n.val : Int) ∧ nextM (n.val : Int) < n.val ∧ cols (n.val : Int) = tz (n.val : Int) :: cols (nextM (n.val : Int)) := by decide +kernel
theorem cols_step (m : Int) (h0 : 0 < m) (h1 : m < 64) : tz m < 6 ∧ 0 ≤ nextM m ∧ nextM m < m ∧ cols m = tz m :: cols (nextM m) := by
  obtain ⟨n, rfl⟩ := Int.eq_ofNat_of_zero_le (Int.le_of_lt h0)
  exact cols_fin ⟨n, by omega⟩ (by simp; omega)
theorem cols_zero : cols 0 = [] := by decide +kernel

def cutV (x : Int) (c : Nat) : Int := bits .andNot .u8 x (2 ^ c % 256)
theorem cut_fin : ∀ n : Fin 64, ∀ c : Fin 6, 0 ≤ cutV (n.val : Int) c.val ∧ cutV (n.val : Int) c.val < 64 := by decide +kernel
theorem cut_bound (x : Int) (c : Nat) (h0 : 0 ≤ x) (h1 : x < 64) (hc : c < 6) : 0 ≤ cutV x c ∧ cutV x c < 64 := by
  obtain ⟨n, rfl⟩ := Int.eq_ofNat_of_zero_le h0
  exact cut_fin ⟨n, by omega⟩ ⟨c, hc⟩
def unBit (un : Nat → Int) (n k : Nat) : Bool := bits .and .u64 (un n / 2 ^ k) 1 == 1
/-- Behind thread n's colour c, of the threads below k. -/
def cutTo (un : Nat → Int) (n c k : Nat) (may : Nat → Int) : Nat → Int := fun q => if n < q ∧ q < k ∧ unBit un n q = true then cutV (may q) c else may q
/-- The colours of the threads N - r, .., N - 1: the least list that goes. -/
def tryF (un : Nat → Int) (N : Nat) : Nat → (Nat → Int) → (Nat → Int) → Option (List Int)
  | 0, _, _ => some []
  | r + 1, may, left =>
    if enoughF ⟨may, un, left, N, false⟩ (N - (r + 1)) then
      (cols (may (N - (r + 1)))).findSome? fun c => if left c = 0 then none else (tryF un N r (cutTo un (N - (r + 1)) c N may) (upd left c (left c - 1))).map fun l => (c : Int) :: l
    else none
theorem cutTo_start (un : Nat → Int) (n c : Nat) (may : Nat → Int) (q : Nat) : cutTo un n c (n + 1) may q = may q := by
  unfold cutTo
  rw [if_neg]
  rintro ⟨h1, h2, _⟩
  omega
theorem cutTo_succ (un : Nat → Int) (n c k : Nat) (may : Nat → Int) (hk : n < k) (q : Nat) : cutTo un n c (k + 1) may q = if unBit un n k = true then upd (cutTo un n c k may) k (cutV (may k) c) q else cutTo un n c k may q := by
  unfold cutTo upd
  by_cases e : q = k
  · subst e
    by_cases hb : unBit un n q = true
    · simp [hb, hk]
    · simp [hb]
  · have h1 : (q < k + 1) ↔ (q < k) := ⟨fun h => by omega, fun h => by omega⟩
    simp only [h1, e, if_false, ite_self]
theorem cutTo_at (un : Nat → Int) (n c k : Nat) (may : Nat → Int) : cutTo un n c k may k = may k := by
  unfold cutTo
  rw [if_neg]
  rintro ⟨h1, h2, _⟩
  omega
theorem cutTo_bound (un : Nat → Int) (n c k : Nat) (may : Nat → Int) (hc : c < 6) (hm : ∀ q, q < 16 → 0 ≤ may q ∧ may q < 64) : ∀ q, q < 16 → 0 ≤ cutTo un n c k may q ∧ cutTo un n c k may q < 64 := by
  intro q hq
  unfold cutTo
  obtain ⟨h0, h1⟩ := hm q hq
  split
  · exact cut_bound _ c h0 h1 hc
  · exact ⟨h0, h1⟩

theorem heap_ne {w : World} {a b : Nat} {cs ds : Array Value} {t u : TypeId} {f g : Nat × Nat} (ha : w.heap[a]? = some (.cells cs t f)) (hb : w.heap[b]? = some (.cells ds u g)) (h : t ≠ u) : a ≠ b := by
  intro e
  subst e
  rw [ha] at hb
  injection hb with hb
  injection hb with _ h2 _
  exact h h2

/-- The state between two steps: the list's box O, the problem's box P, the function's box F, the problem's block B, the list's block G. -/
structure SolSt (W : World) (O P F B G base N : Nat) (un may left : Nat → Int) (out : List Int) : Prop where
  o : W.heap[O]? = some (.cells #[.slice (some ⟨G, 0, none⟩) out.length N] 35 (0, 0))
  own : OwnI W base (.slice (some ⟨G, 0, none⟩) out.length N) out
  p : W.heap[P]? = some (.cells #[.pointer (some ⟨B, 0, none⟩)] 77 (0, 0))
  f : W.heap[F]? = some (.cells #[.func (.func 48) #[] #[.pointer (some ⟨O, 0, none⟩), .pointer (some ⟨P, 0, none⟩), .pointer (some ⟨F, 0, none⟩)]] 31 (0, 0))
  b : PbAt W B ⟨may, un, left, N, false⟩
  base : base ≤ W.heap.size
def SolK (O B G : Nat) : Nat → Prop := fun k => k = O ∨ k = B ∨ k = G
section
variable {W W' : World} {O P F B G base N : Nat} {un may left may' left' : Nat → Int} {out : List Int}
theorem SolSt.later (h : SolSt W O P F B G base N un may left out) (hb : Below W.heap.size W W') : SolSt W' O P F B G base N un may left out :=
  ⟨(hb.block _ (Array.getElem?_eq_some_iff.1 h.o).1).trans h.o, h.own.later hb, (hb.block _ (Array.getElem?_eq_some_iff.1 h.p).1).trans h.p, (hb.block _ (Array.getElem?_eq_some_iff.1 h.f).1).trans h.f, h.b.later hb, Nat.le_trans h.base hb.size⟩
theorem SolSt.gh (h : SolSt W O P F B G base N un may left out) : ∃ cur, W.heap[G]? = some (.cells cur 3 (0, 0)) ∧ out.length ≤ N ∧ N ≤ maxLen ∧ cur.size = N * 1 := by
  rcases h.own.2 with ⟨h1, _⟩ | ⟨g, cap, cur, h1, _, h2, h3, h4, h5, _⟩
  · cases h1
  · injection h1 with h1 _ h6
    injection h1 with h1
    injection h1 with h1 _ _
    subst h1; subst h6
    exact ⟨cur, h2, h3, h4, h5⟩
theorem SolSt.congr (h : SolSt W O P F B G base N un may left out) (hm : ∀ k, k < 16 → may' k = may k) (hl : ∀ k, k < 6 → left' k = left k) : SolSt W O P F B G base N un may' left' out :=
  ⟨h.o, h.own, h.p, h.f, h.b.congr hm (fun _ _ => rfl) hl rfl rfl, h.base⟩
/-- Behind a change of the problem's block alone. -/
theorem SolSt.pb (h : SolSt W O P F B G base N un may left out) (hK : Kp W W' (fun k => k = B)) (hb : PbAt W' B ⟨may', un, left', N, false⟩) : SolSt W' O P F B G base N un may' left' out := by
  obtain ⟨cur, hg, _⟩ := h.gh
  have n1 : O ≠ B := heap_ne h.o h.b.row (by decide)
  have n2 : P ≠ B := heap_ne h.p h.b.row (by decide)
  have n3 : F ≠ B := heap_ne h.f h.b.row (by decide)
  have n4 : G ≠ B := heap_ne hg h.b.row (by decide)
  exact ⟨(hK.block _ (Array.getElem?_eq_some_iff.1 h.o).1 n1).trans h.o, OwnL.kp h.own hK (fun k hk => by injection hk with hk; subst hk; exact n4), (hK.block _ (Array.getElem?_eq_some_iff.1 h.p).1 n2).trans h.p, (hK.block _ (Array.getElem?_eq_some_iff.1 h.f).1 n3).trans h.f, hb, Nat.le_trans h.base hK.size⟩
/-- Behind a change of the list's box and block. -/
theorem SolSt.list (h : SolSt W O P F B G base N un may left out) {out' : List Int} (hK : Kp W W' (fun k => k = O ∨ k = G)) (ho : W'.heap[O]? = some (.cells #[.slice (some ⟨G, 0, none⟩) out'.length N] 35 (0, 0))) (hown : OwnI W' base (.slice (some ⟨G, 0, none⟩) out'.length N) out') :
    SolSt W' O P F B G base N un may left out' := by
  obtain ⟨cur, hg, _⟩ := h.gh
  have n1 : P ≠ O := heap_ne h.p h.o (by decide)
  have n2 : F ≠ O := heap_ne h.f h.o (by decide)
  have n3 : B ≠ O := heap_ne h.b.row h.o (by decide)
  have n4 : P ≠ G := heap_ne h.p hg (by decide)
  have n5 : F ≠ G := heap_ne h.f hg (by decide)
  have n6 : B ≠ G := heap_ne h.b.row hg (by decide)
  exact ⟨ho, hown, (hK.block _ (Array.getElem?_eq_some_iff.1 h.p).1 (by rintro (e | e) <;> contradiction)).trans h.p, (hK.block _ (Array.getElem?_eq_some_iff.1 h.f).1 (by rintro (e | e) <;> contradiction)).trans h.f, h.b.kept (hK.block _ h.b.lt (by rintro (e | e) <;> contradiction)), Nat.le_trans h.base hK.size⟩
theorem SolSt.setMay (h : SolSt W O P F B G base N un may left out) (k : Nat) (hk : k < 16) (x : Int) : SolSt (W.setCell ⟨B, k, none⟩ (.int .u8 x)) O P F B G base N un (upd may k x) left out :=
  h.pb (Kp.setCell W ⟨B, k, none⟩ _ rfl) (h.b.setMay k hk x)
theorem SolSt.setLeft (h : SolSt W O P F B G base N un may left out) (k : Nat) (hk : k < 6) (x : Int) : SolSt (W.setCell ⟨B, 32 + k, none⟩ (.int .i64 x)) O P F B G base N un may (upd left k x) out :=
  h.pb (Kp.setCell W ⟨B, 32 + k, none⟩ _ rfl) (h.b.setLeft k hk x)
end

/-- A box of sixteen sets of colours. -/
def mayArr (m : Nat → Int) : Array Value := arrV 16 fun k => .int .u8 (m k)
theorem info_may : (Tryd.prog.info? 101).map (·.size) = some 16 := by kernel_rfl
theorem mayArr_size (m : Nat → Int) : (mayArr m).size = 16 := arrV_size _ _
theorem mayArr_one (m : Nat → Int) : (mayArr m).all (·.oneCell') = true := by
  rw [Array.all_eq_true_iff_forall_mem]
  intro v hv
  simp only [mayArr, arrV, List.mem_toArray, List.mem_map] at hv
  obtain ⟨p, _, rfl⟩ := hv
  rfl
theorem PbAt.range {w : World} {B : Nat} {p : Pb} (h : PbAt w B p) : w.rangeAt B 0 (mayArr p.may).toList := fun j v hv => by
  have hj : j < 16 := by have := (List.getElem?_eq_some_iff.1 hv).1; simpa [mayArr_size] using this
  rw [Array.getElem?_toList, mayArr, arrV_get _ _ _ hj] at hv
  rw [← hv, Nat.zero_add]
  exact h.may j hj
theorem list_put (N : Nat) (f g : Nat → Value) (n : Nat) (hn : n ≤ N) : ((arrV N f).toList.take 0 ++ (arrV n g).toList ++ (arrV N f).toList.drop (0 + (arrV n g).toList.length)).toArray = arrV N (fun k => if k < n then g k else f k) := by
  apply Array.ext_getElem?
  intro i
  have hl : (arrV n g).toList.length = n := by simp [arrV_size]
  rw [List.take_zero, List.nil_append, Nat.zero_add, hl, List.getElem?_toArray]
  by_cases hi : i < N
  · rw [arrV_get _ _ _ hi]
    by_cases h2 : i < n
    · rw [List.getElem?_append_left (by omega), if_pos h2, Array.getElem?_toList, arrV_get _ _ _ h2]
    · rw [List.getElem?_append_right (by omega), hl, if_neg h2, List.getElem?_drop, Array.getElem?_toList, arrV_get _ _ _ (by omega)]
      congr 2
      omega
  · rw [arrV_none _ _ _ hi, List.getElem?_append_right (by omega), hl, List.getElem?_drop, Array.getElem?_toList, arrV_none _ _ _ (by omega)]
/-- The store of all sixteen sets. -/
theorem PbAt.putMay {w : World} {B : Nat} {p : Pb} (h : PbAt w B p) (m : Nat → Int) :
    (Instr.storeAt 101 (.pointer (some ⟨B, 0, none⟩)) (.agg (mayArr m))).run Tryd.prog w = .ok () (w.setRow B (arrV 40 (pbV { p with may := m }))) ∧ PbAt (w.setRow B (arrV 40 (pbV { p with may := m }))) B { p with may := m } := by
  refine ⟨?_, ⟨setRow_heap _ _ _ _ _ _ h.row⟩⟩
  have hst := run_storeCells_at Tryd.prog B 0 104 (mayArr m).toList 0 (arrV 40 (pbV p)) w h.row (by simp [mayArr_size, arrV_size]) (fun v hv => (Array.all_eq_true_iff_forall_mem.1 (mayArr_one m)) v (by simpa using hv))
  rw [Nat.add_zero] at hst
  unfold mayArr at hst ⊢
  rw [list_put 40 _ _ 16 (by omega)] at hst
  have he : arrV 40 (fun k => if k < 16 then (.int .u8 (m k) : Value) else pbV p k) = arrV 40 (pbV { p with may := m }) := arrV_congr (fun k hk => by
    unfold pbV
    by_cases e : k < 16 <;> simp [e])
  rw [he] at hst
  have hq := info_may
  cases hq2 : Tryd.prog.info? 101 with
  | none => rw [hq2] at hq; simp at hq
  | some i =>
    have hs : i.size = 16 := by rw [hq2] at hq; simpa using hq
    simp only [Instr.storeAt, Instr.sureAddr, Sem.run_bind, Sem.run_pure, Result.andThen_ok]
    simp [storeVar, sizeOf, typeInfo, hq2, Value.cells, hs, arrV_size, hst]

theorem flatI_len (l : List Int) : (l.flatMap encI).length = l.length := by
  induction l with
  | nil => rfl
  | cons a l ih => simp [encI, ih]
theorem flatI_take (l : List Int) : ∀ n, (l.take n).flatMap encI = (l.flatMap encI).take n := by
  induction l with
  | nil => simp
  | cons a l ih =>
    intro n
    cases n with
    | zero => simp
    | succ n => simp [encI, ih]
/-- The same with the box X that keeps the sets of colours as they were. -/
structure WasQ (W w : World) (O P F B G base N X : Nat) (un may0 may left : Nat → Int) (out : List Int) : Prop where
  st : SolSt w O P F B G base N un may left out
  was : w.heap[X]? = some (.cells (mayArr may0) 101 (0, 0))
  k : Kp W w (SolK O B G)
section
variable {W w w' : World} {O P F B G base N X : Nat} {un may0 may left may' left' : Nat → Int} {out out' : List Int}
theorem WasQ.later (h : WasQ W w O P F B G base N X un may0 may left out) (hb : Below w.heap.size w w') : WasQ W w' O P F B G base N X un may0 may left out :=
  ⟨h.st.later hb, (hb.block _ (Array.getElem?_eq_some_iff.1 h.was).1).trans h.was, h.k.trans (Kp.of_below hb)⟩
theorem WasQ.congr (h : WasQ W w O P F B G base N X un may0 may left out) (hm : ∀ k, k < 16 → may' k = may k) (hl : ∀ k, k < 6 → left' k = left k) : WasQ W w O P F B G base N X un may0 may' left' out := ⟨h.st.congr hm hl, h.was, h.k⟩
theorem WasQ.nb (h : WasQ W w O P F B G base N X un may0 may left out) : X ≠ B := heap_ne h.was h.st.b.row (by decide)
theorem WasQ.no (h : WasQ W w O P F B G base N X un may0 may left out) : X ≠ O := heap_ne h.was h.st.o (by decide)
theorem WasQ.ng (h : WasQ W w O P F B G base N X un may0 may left out) : X ≠ G := by
  obtain ⟨cur, hg, _⟩ := h.st.gh
  exact heap_ne h.was hg (by decide)
theorem WasQ.setMay (h : WasQ W w O P F B G base N X un may0 may left out) (k : Nat) (hk : k < 16) (x : Int) : WasQ W (w.setCell ⟨B, k, none⟩ (.int .u8 x)) O P F B G base N X un may0 (upd may k x) left out :=
  ⟨h.st.setMay k hk x, (Below.heap_setCell w ⟨B, k, none⟩ _ _ h.nb).trans h.was, h.k.trans (Kp.setCell w ⟨B, k, none⟩ _ (.inr (.inl rfl)))⟩
theorem WasQ.setLeft (h : WasQ W w O P F B G base N X un may0 may left out) (k : Nat) (hk : k < 6) (x : Int) : WasQ W (w.setCell ⟨B, 32 + k, none⟩ (.int .i64 x)) O P F B G base N X un may0 may (upd left k x) out :=
  ⟨h.st.setLeft k hk x, (Below.heap_setCell w ⟨B, 32 + k, none⟩ _ _ h.nb).trans h.was, h.k.trans (Kp.setCell w ⟨B, 32 + k, none⟩ _ (.inr (.inl rfl)))⟩
theorem WasQ.step (h : WasQ W w O P F B G base N X un may0 may left out) (hs : SolSt w' O P F B G base N un may' left' out') (hK : Kp w w' (SolK O B G)) : WasQ W w' O P F B G base N X un may0 may' left' out' :=
  ⟨hs, (hK.block _ (Array.getElem?_eq_some_iff.1 h.was).1 (by rintro (e | e | e) <;> first | exact h.no e | exact h.nb e | exact h.ng e)).trans h.was, h.k.trans hK⟩
theorem WasQ.of {wr w2 : World} {cs0 : Array Value} (h : SolSt wr O P F B G base N un may left out) (hK : Kp W wr (SolK O B G)) (hw : World.setRow (wr.alloc (.cells cs0 101)) wr.heap.size (mayArr may) = w2) : WasQ W w2 O P F B G base N wr.heap.size un may may left out := by
  have hrow : w2.heap[wr.heap.size]? = some (.cells (mayArr may) 101 (0, 0)) := by rw [← hw]; exact setRow_heap _ _ _ _ _ _ (heap_alloc_new wr _)
  have hb : Below wr.heap.size wr w2 := by
    rw [← hw]
    exact ⟨rfl, rfl, rfl, by simp, fun i hi => (setRow_other _ _ _ _ (by omega)).trans (Below.heap_alloc wr _ i hi)⟩
  exact ⟨h.later hb, hrow, hK.trans (Kp.of_below hb)⟩
/-- All of 'may' as it was. -/
theorem WasQ.putMay (h : WasQ W w O P F B G base N X un may0 may left out) :
    (Instr.storeAt 101 (.pointer (some ⟨B, 0, none⟩)) (.agg (mayArr may0))).run Tryd.prog w = .ok () (w.setRow B (arrV 40 (pbV ⟨may0, un, left, N, false⟩))) ∧ WasQ W (w.setRow B (arrV 40 (pbV ⟨may0, un, left, N, false⟩))) O P F B G base N X un may0 may0 left out := by
  obtain ⟨h1, h2⟩ := h.st.b.putMay may0
  refine ⟨h1, ?_⟩
  have hK : Kp w (w.setRow B (arrV 40 (pbV ⟨may0, un, left, N, false⟩))) (fun k => k = B) := ⟨rfl, rfl, rfl, by simp, fun i _ hi => setRow_other _ _ _ _ hi⟩
  exact h.step (h.st.pb hK h2) (hK.mono (fun k _ e => .inr (.inl e)))
/-- The list cut to its first n. -/
theorem WasQ.cut (h : WasQ W w O P F B G base N X un may0 may left out) (n : Nat) (hn : n ≤ out.length) : WasQ W (w.setCell ⟨O, 0, none⟩ (.slice (some ⟨G, 0, none⟩) n N)) O P F B G base N X un may0 may left (out.take n) := by
  have hlen : (out.take n).length = n := by simp; omega
  have hrow := heap_setCell_same w O 0 _ _ (.slice (some ⟨G, 0, none⟩) n N) h.st.o
  have hK : Kp w (w.setCell ⟨O, 0, none⟩ (.slice (some ⟨G, 0, none⟩) n N)) (fun k => k = O) := Kp.setCell w ⟨O, 0, none⟩ _ rfl
  have hng : G ≠ O := by
    obtain ⟨cur, hg, _⟩ := h.st.gh
    exact heap_ne hg h.st.o (by decide)
  have hown : OwnI w base (.slice (some ⟨G, 0, none⟩) n N) (out.take n) := by
    have h1 := h.st.own
    refine ⟨by rw [flatI_len, Nat.mul_one], .inr ?_⟩
    rcases h1.2 with ⟨e, _⟩ | ⟨g, cap, cur, e, h2, h3, h4, h5, h6, h7⟩
    · cases e
    · injection e with e _ e2
      injection e with e
      injection e with e _ _
      subst e; subst e2
      refine ⟨G, N, cur, by rw [hlen], h2, h3, by omega, h5, h6, ?_⟩
      have h8 := flatI_take out n
      rw [h8, ← h7, List.take_take, hlen]
      congr 1
      omega
  refine h.step (h.st.list (out' := out.take n) (hK.mono (fun k _ e => .inl e)) ?_ ?_) (hK.mono (fun k _ e => .inl e))
  · rw [hlen]; exact hrow
  · rw [hlen]; exact OwnL.kp hown hK (fun k hk e => hng (by injection hk with hk; exact hk.trans e))
end
theorem exec_load {P : Program} {op : Oper} {f : Operand → Value} {ty : TypeId} {x : Operand} {v u : Value} {w w1 : World} (ho : op.op = .load ty x) (hx : f x = v) (h : (Instr.loadAt ty v).run P w = .ok u w1) : (execOp f op).run P w = .ok (.value u) w1 := by
  unfold execOp
  simp [ho, hx, h]
theorem exec_store {P : Program} {op : Oper} {f : Operand → Value} {ty : TypeId} {x y : Operand} {v u : Value} {w w1 : World} (ho : op.op = .store ty x y) (hx : f x = v) (hy : f y = u) (h : (Instr.storeAt ty v u).run P w = .ok () w1) : (execOp f op).run P w = .ok .skip w1 := by
  unfold execOp
  simp [ho, hx, hy, h]
theorem load_may {w : World} {X : Nat} {m : Nat → Int} {fr : Nat × Nat} (h : w.heap[X]? = some (.cells (mayArr m) 101 fr)) : (Instr.loadAt 101 (.pointer (some ⟨X, 0, none⟩))).run Tryd.prog w = .ok (.agg (mayArr m)) w := by
  simp only [Instr.loadAt, Instr.sureAddr, Sem.run_bind, Sem.run_pure, Result.andThen_ok, run_loadVar_row w X _ _ _ _ _ h Tryd.underlying101 rfl (by rw [mayArr_size]; exact info_may)]
theorem store_slice {P : Program} {t : TypeId} (hi : (P.info? t).map (·.size) = some 1) {w : World} {O : Nat} {v0 : Value} {t0 : TypeId} (h : w.heap[O]? = some (.cells #[v0] t0 (0, 0))) (a : Option Addr) (n c : Nat) : (Instr.storeAt t (.pointer (some ⟨O, 0, none⟩)) (.slice a n c)).run P w = .ok () (w.setCell ⟨O, 0, none⟩ (.slice a n c)) := by
  have hc : w.cell? ⟨O, 0, none⟩ = some v0 := by rw [cell_of_row _ _ 0 _ _ _ h]; rfl
  have hf := frozen_of_row w O 0 _ _ h
  cases hq : P.info? t with
  | none => simp [hq] at hi
  | some i =>
    have hs : i.size = 1 := by simpa [hq] using hi
    simp [Instr.storeAt, Instr.sureAddr, storeVar, sizeOf, typeInfo, hq, hs, Value.cells, storeCells, go_sem, hc, hf]
/-- append of one number where there is room. -/
theorem app_fits {W W2 : World} {ops : Array Oper} {rest : List Oper} {o : Oper} {a : Act} {Q : Exit → Act → World → Prop} (hgd : o.guard = none) (s x : Operand)
    (ho : o.op = .call { callee := .builtin .append, args := #[s, x], argTypes := #[35, 35] })
    (base G N n : Nat) (xs : List Int) (hn : n = xs.length) (hs : a.eval s = .slice (some ⟨G, 0, none⟩) n N) (hown : OwnI W base (.slice (some ⟨G, 0, none⟩) xs.length N) xs) (c : Nat) (y : Int)
    (g : Nat) (hg : g = W.heap.size) (hx : a.eval x = .slice (some ⟨g, 0, none⟩) 1 c) (hroom : n + 1 ≤ N)
    (hW : W2 = W.alloc (.cells #[.int .i64 y] 3))
    (h : ∀ w', OwnI w' base (.slice (some ⟨G, 0, none⟩) (n + 1) N) (xs ++ [y]) → W.grownBy w' (some G) → wpList Tryd.prog ops Q rest (a.put o.dst (.slice (some ⟨G, 0, none⟩) (n + 1) N)) w') :
    wpList Tryd.prog ops Q (o :: rest) a W2 := by
  subst hW
  subst hg
  subst hn
  obtain ⟨i0, hi, hz0, hz1, hz2⟩ := info_parts info_int
  have hcell : (W.alloc (.cells #[.int .i64 y] 3)).cell? ⟨W.heap.size, 0, none⟩ = some (.int .i64 y) := by rw [cell_of_row _ _ 0 _ _ _ (World.alloc_heap_new _ _)]; rfl
  obtain ⟨w', hr, h1, h2⟩ := run_append_fits (P := Tryd.prog) (W.alloc (.cells #[.int .i64 y] 3)) base 35 o.type 3 i0 1 Tryd.underlying35 hi hz1 G xs.length N (xs.flatMap encI) (World.ownsRow.alloc hown _) ⟨W.heap.size, 0, none⟩ 1 c [.int .i64 y] rfl
    (fun j u hu => by
      rcases j with _ | j
      · simp only [List.getElem?_cons_zero, Option.some.injEq] at hu
        subst hu
        have hadd : (⟨W.heap.size, 0, none⟩ : Addr).add 0 = ⟨W.heap.size, 0, none⟩ := by unfold Addr.add; split <;> simp_all
        rw [hadd]
        exact hcell
      · simp at hu) (by simp [Value.oneCell']) hroom
  refine wpList_plain hgd fun K hK => ?_
  unfold Oper.wp execOp
  simp only [ho, resolve, invoke, builtin, Sem.run_bind, Sem.run_pure, Result.andThen_ok, List.map_toArray, List.map_cons, List.map_nil, hs, hx, hr]
  refine hK _ _ (h w' ?_ ⟨h2.os, h2.tape, h2.output, Nat.le_trans (by simp) h2.size, fun k hk hne => (h2.block k (by simp; omega) hne).trans (Below.heap_alloc W _ k hk)⟩)
  unfold OwnI OwnL
  rw [List.length_append, List.flatMap_append]
  simpa [encI] using h1
/-- Behind the append, and its store. -/
theorem WasQ.push {W w w1 : World} {O P F B G base N X n : Nat} {un may0 may left : Nat → Int} {out : List Int} (h : WasQ W w O P F B G base N X un may0 may left out) (hn : n = out.length) {y : Int}
    (hown : OwnI w1 base (.slice (some ⟨G, 0, none⟩) (n + 1) N) (out ++ [y])) (hg : w.grownBy w1 (some G)) :
    w1.cell? ⟨O, 0, none⟩ = some (.slice (some ⟨G, 0, none⟩) n N) ∧ w1.frozen? ⟨O, 0, none⟩ = false ∧ WasQ W (w1.setCell ⟨O, 0, none⟩ (.slice (some ⟨G, 0, none⟩) (n + 1) N)) O P F B G base N X un may0 may left (out ++ [y]) := by
  subst hn
  have hng : G ≠ O := by
    obtain ⟨cur, hg, _⟩ := h.st.gh
    exact heap_ne hg h.st.o (by decide)
  have hlen : (out ++ [y]).length = out.length + 1 := by simp
  have hO1 : w1.heap[O]? = some (.cells #[.slice (some ⟨G, 0, none⟩) out.length N] 35 (0, 0)) := (hg.block O (Array.getElem?_eq_some_iff.1 h.st.o).1 (fun e => hng (by injection e with e; exact e.symm))).trans h.st.o
  have hrow := heap_setCell_same w1 O 0 _ _ (.slice (some ⟨G, 0, none⟩) (out.length + 1) N) hO1
  have hK1 : Kp w w1 (fun k => k = O ∨ k = G) := Kp.of_grown hg (fun k e => .inr (by injection e with e; exact e.symm))
  have hK2 : Kp w1 (w1.setCell ⟨O, 0, none⟩ (.slice (some ⟨G, 0, none⟩) (out.length + 1) N)) (fun k => k = O) := Kp.setCell w1 ⟨O, 0, none⟩ _ rfl
  have hK := hK1.trans (hK2.mono (T := fun k => k = O ∨ k = G) (fun k _ e => .inl e))
  refine ⟨by rw [cell_of_row _ _ 0 _ _ _ hO1]; rfl, frozen_of_row _ O 0 _ _ hO1, h.step (h.st.list (out' := out ++ [y]) hK ?_ ?_) (hK.mono (fun k _ e => by rcases e with e | e <;> first | exact .inl e | exact .inr (.inr e)))⟩
  · rw [hlen]; exact hrow
  · rw [hlen]; exact OwnL.kp hown hK2 (fun k hk e => hng (by injection hk with hk; exact hk.trans e))
end Go.Proofs.YtepofpnbgbmihaaDoor

/-
  The solver's recursion: its walk.
-/
namespace Go.Proofs.YtepofpnbgbmihaaDoor
open Go.RowKit Go.Shelf Go.Proofs.YtepofpnbgbmihaaDoorW.PrintLast
set_option linter.unusedSimpArgs false
set_option linter.unusedVariables false

def stepF (un : Nat → Int) (N r : Nat) (may left : Nat → Int) (c : Nat) : Option (List Int) :=
  if left c = 0 then none else (tryF un N r (cutTo un (N - (r + 1)) c N may) (upd left c (left c - 1))).map fun l => (c : Int) :: l
theorem tryF_succ (un : Nat → Int) (N r : Nat) (may left : Nat → Int) : tryF un N (r + 1) may left = if enoughF ⟨may, un, left, N, false⟩ (N - (r + 1)) then (cols (may (N - (r + 1)))).findSome? (stepF un N r may left) else none := rfl
def FromPost (O P F B G base N : Nat) (un may left : Nat → Int) (out : List Int) (res : Option (List Int)) (W : World) (e : Ending) (W' : World) : Prop :=
  Kp W W' (SolK O B G) ∧ match res with
    | some l => e = .returned (.bool true) ∧ ∃ may' left', SolSt W' O P F B G base N un may' left' (out ++ l)
    | none => e = .returned (.bool false) ∧ SolSt W' O P F B G base N un may left out
structure Bnd (may left : Nat → Int) : Prop where
  m : ∀ q, q < 16 → 0 ≤ may q ∧ may q < 64
  l : ∀ c, c < 6 → 0 ≤ left c ∧ left c ≤ 100
theorem tz8_any (m : Int) (w : World) (h0 : 0 ≤ m) (h1 : m < 64) : Calls Tryd.prog 50 #[.int .u8 m] w fun e w' => e = .returned (.int .i64 (tz m : Nat)) ∧ w' = w := Tryd.bits_TrailingZeros8 m w h0 (by omega)

set_option maxRecDepth 100000 in
set_option maxHeartbeats 1000000 in
theorem from0_any (O P F B G base N : Nat) (un may left : Nat → Int) (out : List Int) (W : World) (hN : N ≤ 16) (hlen : out.length = N) (h : SolSt W O P F B G base N un may left out) :
    Calls Tryd.prog 48 #[.pointer (some ⟨O, 0, none⟩), .pointer (some ⟨P, 0, none⟩), .pointer (some ⟨F, 0, none⟩)] W (FromPost O P F B G base N un may left out (some []) W) := by
  have hcO : W.cell? ⟨O, 0, none⟩ = some (.slice (some ⟨G, 0, none⟩) out.length N) := by rw [cell_of_row _ _ 0 _ _ _ h.o]; rfl
  have hcP : W.cell? ⟨P, 0, none⟩ = some (.pointer (some ⟨B, 0, none⟩)) := by rw [cell_of_row _ _ 0 _ _ _ h.p]; rfl
  have hcM : W.cell? ⟨B, 38, none⟩ = some (.int .i64 N) := h.b.many
  rw [hlen] at hcO
  have H := Lib.hid h
  have HLEN := Lib.hid hlen
  clear h hlen
  go_enter Tryd.func48, Tryd.ntmps48
  go_wp2
  go_ret
  exact ⟨Kp.refl _ _, rfl, may, left, by rw [List.append_nil]; exact H.out⟩

set_option maxRecDepth 100000 in
set_option maxHeartbeats 1000000 in
theorem fromS_any (O P F B G base N r : Nat) (un may left : Nat → Int) (out : List Int) (W : World) (hN : N ≤ 16) (hlen : out.length + (r + 1) = N) (h : SolSt W O P F B G base N un may left out) (hb : Bnd may left)
    (ih : ∀ (may left : Nat → Int) (out : List Int) (W : World), out.length + r = N → SolSt W O P F B G base N un may left out → Bnd may left →
      Calls Tryd.prog 48 #[.pointer (some ⟨O, 0, none⟩), .pointer (some ⟨P, 0, none⟩), .pointer (some ⟨F, 0, none⟩)] W (FromPost O P F B G base N un may left out (tryF un N r may left) W)) :
    Calls Tryd.prog 48 #[.pointer (some ⟨O, 0, none⟩), .pointer (some ⟨P, 0, none⟩), .pointer (some ⟨F, 0, none⟩)] W (FromPost O P F B G base N un may left out (tryF un N (r + 1) may left) W) := by
  obtain ⟨n, hn⟩ : ∃ n, n = out.length := ⟨_, rfl⟩
  have hnN : n < N := by omega
  have hn2 : N - (r + 1) = n := by omega
  have hcO : W.cell? ⟨O, 0, none⟩ = some (.slice (some ⟨G, 0, none⟩) n N) := by rw [cell_of_row _ _ 0 _ _ _ h.o, hn]; rfl
  have hcP : W.cell? ⟨P, 0, none⟩ = some (.pointer (some ⟨B, 0, none⟩)) := by rw [cell_of_row _ _ 0 _ _ _ h.p]; rfl
  have hcM : W.cell? ⟨B, 38, none⟩ = some (.int .i64 N) := h.b.many
  have hne : ((n : Int) == (N : Int)) = false := by rw [nat_int_beq]; simp; omega
  have hen := enough_any B ⟨may, un, left, N, false⟩ n W h.b hN hnN hb.l
  have hsucc := tryF_succ un N r may left
  rw [hn2] at hsucc
  have hn16 : n < 16 := by omega
  have H := Lib.hid h
  have HB := Lib.hid hb
  have HIH := Lib.hid ih
  have HEN := Lib.hid hen
  have HS := Lib.hid hsucc
  have HN := Lib.hid hn
  have HR := Lib.hid hlen
  clear h hb ih hen hsucc hn hlen
  go_enter Tryd.func48, Tryd.ntmps48
  go_wp2_with fail
  refine HEN.out.mono ?_
  rintro e W1 ⟨rfl, hB1⟩
  dsimp only
  have H1 := Lib.hid (H.out.later hB1)
  have HK1 : Hid (Kp W W1 (SolK O B G)) := Kp.of_below hB1
  clear hB1 hcO hcP hcM HEN H
  cases hef : enoughF ⟨may, un, left, N, false⟩ n with
  | false =>
    rw [hef] at HS
    go_wp2
    go_ret
    exact ⟨HK1.out, by rw [HS.out]; exact ⟨rfl, H1.out⟩⟩
  | true =>
    rw [hef] at HS
    have hcP : W1.cell? ⟨P, 0, none⟩ = some (.pointer (some ⟨B, 0, none⟩)) := by rw [cell_of_row _ _ 0 _ _ _ H1.out.p]; rfl
    have hcm := H1.out.b.may n hn16
    have hni : (n : Int) < 16 := by omega
    go_wp2_with fail
    have hm0 := HB.out.m n hn16
    clear hcP hcm
    go_loopw [5] (fun v wr => ∃ x : Int, v = .int .u8 x ∧ 0 ≤ x ∧ x < 64 ∧ Hid (tryF un N (r + 1) may left = (cols x).findSome? (stepF un N r may left)) ∧ SolSt wr O P F B G base N un may left out ∧ Kp W wr (SolK O B G)) (fun v _ => (intOf v).toNat)
    case atStart => exact ⟨_, rfl, hm0.1, hm0.2, by rw [HS.out, if_pos trivial]; exact rfl, H1.out, HK1.out⟩
    case round =>
      clear H1 HK1 HS hm0 hef
      obtain ⟨x, rfl, hx0, hx1, HX, hst, hK⟩ := hrel
      have H := Lib.hid hst
      have HK := Lib.hid hK
      clear hst hK
      by_cases hxz : x = 0
      · subst hxz
        go_wp2
        go_ret
        exact ⟨HK.out, by rw [HX.out, cols_zero]; exact ⟨rfl, H.out⟩⟩
      · obtain ⟨hc6, hn0, hn1, hco⟩ := cols_step x (by omega) hx1
        have htz := tz8_any x
        rw [hco] at HX
        have hxz2 : (x == 0) = false := by simpa using hxz
        have hnx : bits .and .u8 x (x - 1) = nextM x := rfl
        generalize tz x = c at hc6 HX htz
        generalize nextM x = y at hn0 hn1 HX hnx
        have HX2 := Lib.hid HX.out
        rw [List.findSome?_cons] at HX2
        have HTZ := Lib.hid htz
        have hcP : wr.cell? ⟨P, 0, none⟩ = some (.pointer (some ⟨B, 0, none⟩)) := by rw [cell_of_row _ _ 0 _ _ _ H.out.p]; rfl
        have hcl := H.out.b.left c hc6
        dsimp only at hcl
        have hci : (c : Int) < 6 := by omega
        have hl := HB.out.l c hc6
        clear htz hco HX
        by_cases hlc : left c = 0
        · have hsf : stepF un N r may left c = none := by unfold stepF; rw [if_pos hlc]
          rw [hsf] at HX2
          rw [hlc] at hcl
          go_wp2_with (go_at_call 50; refine (HTZ.out _ (by assumption) (by assumption)).mono ?_; rintro e w' ⟨rfl, hw'⟩; have hw' := hw'.symm; subst hw')
          go_roundw
          case rel => exact ⟨y, rfl, hn0, by omega, HX2.out, H.out, HK.out⟩
          case measure => simp [intOf]; omega
        · have hl1 : 1 ≤ left c := by omega
          have hlz : (left c == 0) = false := by simpa using hlc
          have hsf : stepF un N r may left c = (tryF un N r (cutTo un n c N may) (upd left c (left c - 1))).map fun l => (c : Int) :: l := by unfold stepF; rw [if_neg hlc, hn2]
          rw [hsf] at HX2
          go_wp2_with first | (go_at_call 50; refine (HTZ.out _ (by assumption) (by assumption)).mono ?_; rintro e w' ⟨rfl, hw'⟩; have hw' := hw'.symm; subst hw') | (refine wpList_load_mid rfl 101 _ rfl B 0 rfl (mayArr may).toList _ H.out.b.range Tryd.underlying101 rfl info_may ?_; rw [Array.toArray_toList]) | (refine wpList_store_row rfl 101 _ _ rfl wr.heap.size (mayArr may) rfl rfl _ _ (heap_alloc_new wr _) (by rw [mayArr_size]; exact info_may) (by rw [mayArr_size]; rfl) (mayArr_one _) ?_; generalize hw2 : World.setRow (World.alloc wr _) wr.heap.size (mayArr _) = w2; have hwq : WasQ W w2 O P F B G base N wr.heap.size un may may left out := WasQ.of H.out HK.out hw2; have HW := Lib.hid hwq; clear hw2 hwq hcl hcP)
          generalize wr.heap.size = X at HW ⊢
          clear H HK HTZ
          go_loopw [8] (fun v ws => ∃ k : Nat, v = .int .i64 k ∧ n < k ∧ k ≤ N ∧ WasQ W ws O P F B G base N X un may (cutTo un n c k may) left out) (fun v _ => N - (intOf v).toNat)
          case atStart => exact ⟨n + 1, by go_num, by omega, by omega, HW.out.congr (fun q _ => cutTo_start un n c may q) (fun _ _ => rfl)⟩
          case round =>
            clear HW
            obtain ⟨k, rfl, hk0, hk1, hQ⟩ := hrel
            have hcP : wr.cell? ⟨P, 0, none⟩ = some (.pointer (some ⟨B, 0, none⟩)) := by rw [cell_of_row _ _ 0 _ _ _ hQ.st.p]; rfl
            have hcM : wr.cell? ⟨B, 38, none⟩ = some (.int .i64 N) := hQ.st.b.many
            have hki : (k : Int) ≤ 16 := by omega
            have hk1i : (1 : Int) ≤ k := by omega
            by_cases hlt : k < N
            · have hkN : (k : Int) < N := by omega
              have hk16 : k < 16 := by omega
              have hki2 : (k : Int) < 16 := by omega
              have hcu := hQ.st.b.un n hn16
              have hcs := cutTo_succ un n c k may hk0
              have hca := cutTo_at un n c k may
              dsimp only at hcu
              cases hbit : (bits .and .u64 (un n / 2 ^ k) 1 == 1) with
              | false =>
                have hcs2 : ∀ q, cutTo un n c (k + 1) may q = cutTo un n c k may q := fun q => by rw [hcs q, if_neg (by unfold unBit; rw [hbit]; exact Bool.noConfusion)]
                have HCS := Lib.hid hcs2
                have HQ := Lib.hid hQ
                clear hcs hca hcs2 hQ
                go_wp2
                go_roundw
                case rel => exact ⟨k + 1, by go_num, by omega, by omega, HQ.out.congr (fun q _ => HCS.out q) (fun _ _ => rfl)⟩
                case measure => simp [intOf]; omega
              | true =>
                have hcs2 : ∀ q, cutTo un n c (k + 1) may q = upd (cutTo un n c k may) k (cutV (may k) c) q := fun q => by rw [hcs q, if_pos (by unfold unBit; exact hbit)]
                have HCS := Lib.hid hcs2
                have hcm := hQ.st.b.may k hk16
                dsimp only at hcm
                rw [hca] at hcm
                have hfm := hQ.st.b.free k
                have HQ := Lib.hid hQ
                clear hcs hca hcs2 hQ
                go_wp2
                have hcPd : wr.drew.cell? ⟨P, 0, none⟩ = some (.pointer (some ⟨B, 0, none⟩)) := hcP
                have hcmd : wr.drew.cell? ⟨B, k, none⟩ = some (.int .u8 (may k)) := hcm
                have hfmd : wr.drew.frozen? ⟨B, k, none⟩ = false := hfm
                have hc0 : (0 : Int) ≤ (c : Int) := by omega
                refine start_ (n := 13) (S := fun w' => w'.cell? ⟨P, 0, none⟩ = some (.pointer (some ⟨B, 0, none⟩)) ∧ w'.cell? ⟨B, k, none⟩ = some (.int .u8 (may k))) (ds := [12]) #[false, false, false, false, false, false, false, false, false, false, false, false, false] (by kernel_rfl) rfl rfl ⟨hcPd, hcmd⟩ (fun hHeld => ?_)
                refine pure_ (i := 1) (N := some 67) (v := ?_) (a' := ?_) #[false, true, false, false, false, false, false, false, false, false, false, false, false] rfl rfl (by kernel_rfl) (fun _ _ _ h => h) (Or.inl ⟨by rfl, ?_⟩) ?_ ?_
                rotate_left
                · intro w'
                  go_simp
                  with_reducible rfl
                rotate_left
                · simp only [Act.put, List.setIfInBounds_toArray, List.set_cons_zero, List.set_cons_succ, i64_w, i32_w]
                  rfl
                refine pure_ (i := 6) (N := some 72) (v := ?_) (a' := ?_) #[false, true, false, false, false, false, true, false, false, false, false, false, false] rfl rfl (by kernel_rfl) (fun _ _ _ h => h) (Or.inl ⟨by rfl, ?_⟩) ?_ ?_
                rotate_left
                · intro w'
                  go_simp
                  with_reducible rfl
                rotate_left
                · simp only [Act.put, List.setIfInBounds_toArray, List.set_cons_zero, List.set_cons_succ, i64_w, i32_w]
                  rfl
                refine pure_ (i := 7) (N := some 73) (v := ?_) (a' := ?_) #[false, true, false, false, false, false, true, true, false, false, false, false, false] rfl rfl (by kernel_rfl) (fun _ _ _ h => h) (Or.inl ⟨by rfl, ?_⟩) ?_ ?_
                rotate_left
                · intro w'
                  go_simp
                  with_reducible rfl
                rotate_left
                · simp only [Act.put, List.setIfInBounds_toArray, List.set_cons_zero, List.set_cons_succ, i64_w, i32_w]
                  rfl
                refine take_ (i := 0) (N := some 66) (v := ?_) (a' := ?_) #[true, true, false, false, false, false, true, true, false, false, false, false, false] rfl rfl (by kernel_rfl) (fun _ _ _ h => h) (Or.inl ⟨by rfl, ?_⟩) hHeld ?_ ?_
                rotate_left
                · rintro w' ⟨s0, s1⟩
                  go_simp
                  with_reducible rfl
                rotate_left
                · simp only [Act.put, List.setIfInBounds_toArray, List.set_cons_zero, List.set_cons_succ, i64_w, i32_w]
                  rfl
                refine pure_ (i := 2) (N := some 68) (v := ?_) (a' := ?_) #[true, true, true, false, false, false, true, true, false, false, false, false, false] rfl rfl (by kernel_rfl) (fun _ _ _ h => h) (Or.inl ⟨by rfl, ?_⟩) ?_ ?_
                rotate_left
                · intro w'
                  go_simp
                  with_reducible rfl
                rotate_left
                · simp only [Act.put, List.setIfInBounds_toArray, List.set_cons_zero, List.set_cons_succ, i64_w, i32_w]
                  rfl
                refine pure_ (i := 3) (N := some 69) (v := ?_) (a' := ?_) #[true, true, true, true, false, false, true, true, false, false, false, false, false] rfl rfl (by kernel_rfl) (fun _ _ _ h => h) (Or.inl ⟨by rfl, ?_⟩) ?_ ?_
                rotate_left
                · intro w'
                  go_simp
                  with_reducible rfl
                rotate_left
                · simp only [Act.put, List.setIfInBounds_toArray, List.set_cons_zero, List.set_cons_succ, i64_w, i32_w]
                  rfl
                refine pure_ (i := 4) (N := some 70) (v := ?_) (a' := ?_) #[true, true, true, true, true, false, true, true, false, false, false, false, false] rfl rfl (by kernel_rfl) (fun _ _ _ h => h) (Or.inl ⟨by rfl, ?_⟩) ?_ ?_
                rotate_left
                · intro w'
                  go_simp
                  with_reducible rfl
                rotate_left
                · simp only [Act.put, List.setIfInBounds_toArray, List.set_cons_zero, List.set_cons_succ, i64_w, i32_w]
                  rfl
                refine pure_ (i := 9) (N := some 75) (v := ?_) (a' := ?_) #[true, true, true, true, true, false, true, true, false, true, false, false, false] rfl rfl (by kernel_rfl) (fun _ _ _ h => h) (Or.inl ⟨by rfl, ?_⟩) ?_ ?_
                rotate_left
                · intro w'
                  go_simp
                  with_reducible rfl
                rotate_left
                · simp only [Act.put, List.setIfInBounds_toArray, List.set_cons_zero, List.set_cons_succ, i64_w, i32_w]
                  rfl
                refine pure_ (i := 10) (N := some 76) (v := ?_) (a' := ?_) #[true, true, true, true, true, false, true, true, false, true, true, false, false] rfl rfl (by kernel_rfl) (fun _ _ _ h => h) (Or.inl ⟨by rfl, ?_⟩) ?_ ?_
                rotate_left
                · intro w'
                  go_simp
                  with_reducible rfl
                rotate_left
                · simp only [Act.put, List.setIfInBounds_toArray, List.set_cons_zero, List.set_cons_succ, i64_w, i32_w]
                  rfl
                refine take_ (i := 5) (N := some 71) (v := ?_) (a' := ?_) #[true, true, true, true, true, true, true, true, false, true, true, false, false] rfl rfl (by kernel_rfl) (fun _ _ _ h => h) (Or.inl ⟨by rfl, ?_⟩) hHeld ?_ ?_
                rotate_left
                · rintro w' ⟨s0, s1⟩
                  go_simp
                  with_reducible rfl
                rotate_left
                · simp only [Act.put, List.setIfInBounds_toArray, List.set_cons_zero, List.set_cons_succ, i64_w, i32_w]
                  rfl
                refine pure_ (i := 8) (N := some 74) (v := ?_) (a' := ?_) #[true, true, true, true, true, true, true, true, true, true, true, false, false] rfl rfl (by kernel_rfl) (fun _ _ _ h => h) (Or.inl ⟨by rfl, ?_⟩) ?_ ?_
                rotate_left
                · intro w'
                  go_simp
                  with_reducible rfl
                rotate_left
                · simp only [Act.put, List.setIfInBounds_toArray, List.set_cons_zero, List.set_cons_succ, i64_w, i32_w]
                  rfl
                refine pure_ (i := 11) (N := some 77) (v := ?_) (a' := ?_) #[true, true, true, true, true, true, true, true, true, true, true, true, false] rfl rfl (by kernel_rfl) (fun _ _ _ h => h) (Or.inl ⟨by rfl, ?_⟩) ?_ ?_
                rotate_left
                · intro w'
                  go_simp
                  with_reducible rfl
                rotate_left
                · simp only [Act.put, List.setIfInBounds_toArray, List.set_cons_zero, List.set_cons_succ, i64_w, i32_w]
                  rfl
                refine last_ (i := 12) (N := none) #[true, true, true, true, true, true, true, true, true, true, true, true, true] rfl rfl (by kernel_rfl) (by decide) (fun K hK => ?_)
                refine skip_ (w1 := ?_) (by rfl) rfl ?_ ?_
                rotate_left
                · go_simp
                  rfl
                refine hK.out _ _ ?_
                clear hK K
                refine done_ (by kernel_rfl) ?_
                clear hcPd hcmd hfmd hcP hcM hcm hfm hcu
                go_wp2
                go_roundw
                case rel => exact ⟨k + 1, by go_num, by omega, by omega, ((HQ.out.setMay k hk16 (cutV (may k) c)).later ((Below.refl _ _).drew)).congr (fun q _ => HCS.out q) (fun _ _ => rfl)⟩
                case measure => simp [intOf]; omega
            · obtain rfl : N = k := by omega
              have hcO : wr.cell? ⟨O, 0, none⟩ = some (.slice (some ⟨G, 0, none⟩) n N) := by rw [cell_of_row _ _ 0 _ _ _ hQ.st.o, HN.out]; rfl
              have hfO := frozen_of_row _ O 0 _ _ hQ.st.o
              have hOl := (Array.getElem?_eq_some_iff.1 hQ.st.o).1
              have HQ := Lib.hid hQ
              have hroom : n + 1 ≤ N := hnN
              have HRM := Lib.hid hroom
              clear hQ hroom hlt hk0 hk1
              go_wp2_with (at_builtin; go_must (refine app_fits rfl _ _ rfl base G N n out HN.out rfl HQ.out.st.own 1 (c : Int) _ rfl rfl HRM.out rfl ?_); intro w4 hown4 hg4; obtain ⟨hc4, hf4, hq5⟩ := HQ.out.push HN.out hown4 hg4; have HQ5 := Lib.hid hq5; clear hq5 hown4 hg4)
              have hP5 := HQ5.out.st.p
              have hL5 := HQ5.out.st.b.left c hc6
              dsimp only at hL5
              have hF5 := HQ5.out.st.b.free (32 + c)
              generalize (w4.setCell ⟨O, 0, none⟩ (.slice (some ⟨G, 0, none⟩) (n + 1) N)) = w5 at HQ5 hP5 hL5 hF5 ⊢
              have hcPd : w5.drew.cell? ⟨P, 0, none⟩ = some (.pointer (some ⟨B, 0, none⟩)) := by
                have : w5.cell? ⟨P, 0, none⟩ = some (.pointer (some ⟨B, 0, none⟩)) := by rw [cell_of_row _ _ 0 _ _ _ hP5]; rfl
                exact this
              have hcld : w5.drew.cell? ⟨B, 32 + c, none⟩ = some (.int .i64 (left c)) := hL5
              have hfld : w5.drew.frozen? ⟨B, 32 + c, none⟩ = false := hF5
              have hw64 : wrap64 (left c - 1) = left c - 1 := w64_in _ (by omega) (by omega)
              have hwi : IntKind.i64.wrap (left c - 1) = left c - 1 := by rw [IntKind.wrap_i64]; omega
              have hc0 : (0 : Int) ≤ (c : Int) := by omega
              clear hP5 hL5 hF5 hcO hfO hcP hcM hc4 hf4 HQ
              have HBN : Hid (Bnd (cutTo un n c N may) (upd left c (left c - 1))) := ⟨cutTo_bound un n c N may hc6 HB.out.m, fun q hq => by
                unfold upd
                split
                · omega
                · exact HB.out.l q hq⟩
              have HLE : Hid ((out ++ [(c : Int)]).length + r = N) := by have := HR.out; show _ = _; simp; omega
              generalize hlv : left c = lv at hcld hw64 hwi hl hl1 hlz ⊢
              refine start_ (n := 11) (S := fun w' => w'.cell? ⟨P, 0, none⟩ = some (.pointer (some ⟨B, 0, none⟩)) ∧ w'.cell? ⟨B, 32 + c, none⟩ = some (.int .i64 lv)) (ds := [10]) #[false, false, false, false, false, false, false, false, false, false, false] (by kernel_rfl) rfl rfl ⟨hcPd, hcld⟩ (fun hHeld => ?_)
              refine pure_ (i := 1) (N := some 83) (v := ?_) (a' := ?_) #[false, true, false, false, false, false, false, false, false, false, false] rfl rfl (by kernel_rfl) (fun _ _ _ h => h) (Or.inl ⟨by rfl, ?_⟩) ?_ ?_
              rotate_left
              · intro w'
                go_simp
                with_reducible rfl
              rotate_left
              · simp only [Act.put, List.setIfInBounds_toArray, List.set_cons_zero, List.set_cons_succ, i64_w, i32_w]
                rfl
              refine take_ (i := 0) (N := some 82) (v := ?_) (a' := ?_) #[true, true, false, false, false, false, false, false, false, false, false] rfl rfl (by kernel_rfl) (fun _ _ _ h => h) (Or.inl ⟨by rfl, ?_⟩) hHeld ?_ ?_
              rotate_left
              · rintro w' ⟨s0, s1⟩
                go_simp
                with_reducible rfl
              rotate_left
              · simp only [Act.put, List.setIfInBounds_toArray, List.set_cons_zero, List.set_cons_succ, i64_w, i32_w]
                rfl
              refine pure_ (i := 2) (N := some 84) (v := ?_) (a' := ?_) #[true, true, true, false, false, false, false, false, false, false, false] rfl rfl (by kernel_rfl) (fun _ _ _ h => h) (Or.inl ⟨by rfl, ?_⟩) ?_ ?_
              rotate_left
              · intro w'
                go_simp
                with_reducible rfl
              rotate_left
              · simp only [Act.put, List.setIfInBounds_toArray, List.set_cons_zero, List.set_cons_succ, i64_w, i32_w]
                rfl
              refine pure_ (i := 3) (N := some 85) (v := ?_) (a' := ?_) #[true, true, true, true, false, false, false, false, false, false, false] rfl rfl (by kernel_rfl) (fun _ _ _ h => h) (Or.inl ⟨by rfl, ?_⟩) ?_ ?_
              rotate_left
              · intro w'
                go_simp
                with_reducible rfl
              rotate_left
              · simp only [Act.put, List.setIfInBounds_toArray, List.set_cons_zero, List.set_cons_succ, i64_w, i32_w]
                rfl
              refine pure_ (i := 4) (N := some 86) (v := ?_) (a' := ?_) #[true, true, true, true, true, false, false, false, false, false, false] rfl rfl (by kernel_rfl) (fun _ _ _ h => h) (Or.inl ⟨by rfl, ?_⟩) ?_ ?_
              rotate_left
              · intro w'
                go_simp
                with_reducible rfl
              rotate_left
              · simp only [Act.put, List.setIfInBounds_toArray, List.set_cons_zero, List.set_cons_succ, i64_w, i32_w]
                rfl
              refine pure_ (i := 7) (N := some 89) (v := ?_) (a' := ?_) #[true, true, true, true, true, false, false, true, false, false, false] rfl rfl (by kernel_rfl) (fun _ _ _ h => h) (Or.inl ⟨by rfl, ?_⟩) ?_ ?_
              rotate_left
              · intro w'
                go_simp
                with_reducible rfl
              rotate_left
              · simp only [Act.put, List.setIfInBounds_toArray, List.set_cons_zero, List.set_cons_succ, i64_w, i32_w]
                rfl
              refine pure_ (i := 8) (N := some 90) (v := ?_) (a' := ?_) #[true, true, true, true, true, false, false, true, true, false, false] rfl rfl (by kernel_rfl) (fun _ _ _ h => h) (Or.inl ⟨by rfl, ?_⟩) ?_ ?_
              rotate_left
              · intro w'
                go_simp
                with_reducible rfl
              rotate_left
              · simp only [Act.put, List.setIfInBounds_toArray, List.set_cons_zero, List.set_cons_succ, i64_w, i32_w]
                rfl
              refine take_ (i := 5) (N := some 87) (v := ?_) (a' := ?_) #[true, true, true, true, true, true, false, true, true, false, false] rfl rfl (by kernel_rfl) (fun _ _ _ h => h) (Or.inl ⟨by rfl, ?_⟩) hHeld ?_ ?_
              rotate_left
              · rintro w' ⟨s0, s1⟩
                go_simp
                with_reducible rfl
              rotate_left
              · simp only [Act.put, List.setIfInBounds_toArray, List.set_cons_zero, List.set_cons_succ, i64_w, i32_w]
                rfl
              refine pure_ (i := 6) (N := some 88) (v := ?_) (a' := ?_) #[true, true, true, true, true, true, true, true, true, false, false] rfl rfl (by kernel_rfl) (fun _ _ _ h => h) (Or.inl ⟨by rfl, ?_⟩) ?_ ?_
              rotate_left
              · intro w'
                go_simp
                with_reducible rfl
              rotate_left
              · simp only [Act.put, List.setIfInBounds_toArray, List.set_cons_zero, List.set_cons_succ, i64_w, i32_w]
                rfl
              refine pure_ (i := 9) (N := some 91) (v := ?_) (a' := ?_) #[true, true, true, true, true, true, true, true, true, true, false] rfl rfl (by kernel_rfl) (fun _ _ _ h => h) (Or.inl ⟨by rfl, ?_⟩) ?_ ?_
              rotate_left
              · intro w'
                go_simp
                with_reducible rfl
              rotate_left
              · simp only [Act.put, List.setIfInBounds_toArray, List.set_cons_zero, List.set_cons_succ, i64_w, i32_w]
                rfl
              refine last_ (i := 10) (N := none) #[true, true, true, true, true, true, true, true, true, true, true] rfl rfl (by kernel_rfl) (by decide) (fun K hK => ?_)
              refine skip_ (w1 := ?_) (by rfl) rfl ?_ ?_
              rotate_left
              · go_simp
                rfl
              refine hK.out _ _ ?_
              clear hK K
              refine done_ (by kernel_rfl) ?_
              have HQ6 := Lib.hid ((HQ5.out.setLeft c hc6 (lv - 1)).later ((Below.refl _ _).drew))
              clear hcPd hcld hfld hHeld hw64 hwi HQ5
              generalize (w5.setCell ⟨B, 32 + c, none⟩ (.int .i64 (lv - 1))).drew = w6 at HQ6 ⊢
              have hcF : w6.cell? ⟨F, 0, none⟩ = some (.func (.func 48) #[] #[.pointer (some ⟨O, 0, none⟩), .pointer (some ⟨P, 0, none⟩), .pointer (some ⟨F, 0, none⟩)]) := by rw [cell_of_row _ _ 0 _ _ _ HQ6.out.st.f]; rfl
              go_wp2_with fail
              rw [hlv] at HX2 HBN
              clear hsf
              refine (HIH.out _ _ _ w6 HLE.out HQ6.out.st HBN.out).mono ?_
              rintro e w7 ⟨hK7, hpost⟩
              generalize tryF un N r (cutTo un n c N may) (upd left c (lv - 1)) = res at HX2 hpost
              cases res with
              | some l =>
                obtain ⟨rfl, may', left', hst7⟩ := hpost
                have HST7 := Lib.hid hst7
                have HK7 := Lib.hid (HQ6.out.k.trans hK7)
                clear hst7 hK7
                go_wp2
                go_ret
                exact ⟨HK7.out, by rw [HX2.out]; exact ⟨rfl, may', left', by rw [List.append_assoc] at HST7; exact HST7.out⟩⟩
              | none =>
                obtain ⟨rfl, hst7⟩ := hpost
                have HQ7 := Lib.hid (HQ6.out.step hst7 hK7)
                clear hst7 hK7 HQ6
                go_wp2
                have HQ7d := Lib.hid (HQ7.out.later ((Below.refl _ _).drew))
                have hlo : (out ++ [(c : Int)]).length = n + 1 := by rw [HN.out]; simp
                have hO7 := HQ7d.out.st.o
                rw [hlo] at hO7
                have hcOd : w7.drew.cell? ⟨O, 0, none⟩ = some (.slice (some ⟨G, 0, none⟩) (n + 1) N) := by rw [cell_of_row _ _ 0 _ _ _ hO7]; rfl
                obtain ⟨w8, hw8⟩ : ∃ w8, w8 = w7.drew.setCell ⟨O, 0, none⟩ (.slice (some ⟨G, 0, none⟩) n N) := ⟨_, rfl⟩
                have hst5 : (Instr.storeAt 35 (.pointer (some ⟨O, 0, none⟩)) (.slice (some ⟨G, 0, none⟩) n N)).run Tryd.prog w7.drew = .ok () w8 := by rw [hw8]; exact store_slice (by kernel_rfl) hO7 _ n N
                have HQ8 : Hid (WasQ W w8 O P F B G base N X un may (cutTo un n c N may) (upd left c (lv - 1)) out) := by
                  have h := HQ7d.out.cut n (by rw [hlo]; omega)
                  have ht : (out ++ [(c : Int)]).take n = out := by rw [HN.out, List.take_left]
                  rw [ht, ← hw8] at h
                  exact h
                obtain ⟨hst8, hQ9⟩ := HQ8.out.putMay
                have HQ9 := Lib.hid hQ9
                have hcP7 : w7.drew.cell? ⟨P, 0, none⟩ = some (.pointer (some ⟨B, 0, none⟩)) := by rw [cell_of_row _ _ 0 _ _ _ HQ7d.out.st.p]; rfl
                have hcP8 : w8.cell? ⟨P, 0, none⟩ = some (.pointer (some ⟨B, 0, none⟩)) := by rw [cell_of_row _ _ 0 _ _ _ HQ8.out.st.p]; rfl
                have hlX7 := load_may HQ7d.out.was
                have hlX8 := load_may HQ8.out.was
                generalize (w8.setRow B (arrV 40 (pbV ⟨may, un, upd left c (lv - 1), N, false⟩))) = w9 at hst8 HQ9
                have hnN2 : n ≤ N := by omega
                clear hQ9 hw8 hO7 hlo
                refine start_ (n := 9) (S := fun w' => w'.cell? ⟨P, 0, none⟩ = some (.pointer (some ⟨B, 0, none⟩)) ∧ (Instr.loadAt 101 (.pointer (some ⟨X, 0, none⟩))).run Tryd.prog w' = .ok (.agg (mayArr may)) w') (ds := [8]) #[false, false, false, false, false, false, false, false, false] (by kernel_rfl) rfl rfl ⟨hcP7, hlX7⟩ (fun hHeld => ?_)
                refine pure_ (i := 2) (N := some 96) (v := ?_) (a' := ?_) #[false, false, true, false, false, false, false, false, false] rfl rfl (by kernel_rfl) (fun _ _ _ h => h) (Or.inl ⟨by rfl, ?_⟩) ?_ ?_
                rotate_left
                · intro w'
                  go_simp
                  with_reducible rfl
                rotate_left
                · simp only [Act.put, List.setIfInBounds_toArray, List.set_cons_zero, List.set_cons_succ, i64_w, i32_w]
                  rfl
                refine take_ (i := 0) (N := some 94) (v := ?_) (a' := ?_) #[true, false, true, false, false, false, false, false, false] rfl rfl (by kernel_rfl) (fun _ _ _ h => h) (Or.inl ⟨by rfl, ?_⟩) hHeld ?_ ?_
                rotate_left
                · rintro w' ⟨s0, s1⟩
                  go_simp
                  with_reducible rfl
                rotate_left
                · simp only [Act.put, List.setIfInBounds_toArray, List.set_cons_zero, List.set_cons_succ, i64_w, i32_w]
                  rfl
                refine take_ (i := 4) (N := some 98) (v := ?_) (a' := ?_) #[true, false, true, false, true, false, false, false, false] rfl rfl (by kernel_rfl) (fun _ _ _ h => h) (Or.inl ⟨by rfl, ?_⟩) hHeld ?_ ?_
                rotate_left
                · rintro w' ⟨s0, s1⟩
                  refine exec_load (v := .pointer (some ⟨X, 0, none⟩)) (u := .agg (mayArr may)) (ty := 101) (x := .tmp 7) ?_ ?_ s1
                  · rfl
                  · rfl
                rotate_left
                · simp only [Act.put, List.setIfInBounds_toArray, List.set_cons_zero, List.set_cons_succ, i64_w, i32_w]
                  rfl
                refine one_ (i := 1) (N := some 95) #[true, true, true, false, true, false, false, false, false] rfl rfl (by kernel_rfl) (by decide) (fun K hK => ?_)
                refine value_ (w1 := ?_) (v := ?_) (by rfl) rfl ?_ ?_
                rotate_left 2
                · go_simp
                  constructor
                  · rfl
                  · rfl
                refine hK.out _ _ ⟨hcP7, hlX7⟩ (fun hHeld => ?_)
                clear hK K
                refine norm_ (a' := ?_) ?_ ?_
                rotate_left
                · show Act.put _ (some 95) _ = _
                  simp only [Act.put, List.setIfInBounds_toArray, List.set_cons_zero, List.set_cons_succ, i64_w, i32_w]
                  rfl
                refine pure_ (i := 3) (N := some 97) (v := ?_) (a' := ?_) #[true, true, true, true, true, false, false, false, false] rfl rfl (by kernel_rfl) (fun _ _ _ h => h) (Or.inl ⟨by rfl, ?_⟩) ?_ ?_
                rotate_left
                · intro w'
                  go_simp
                  with_reducible rfl
                rotate_left
                · simp only [Act.put, List.setIfInBounds_toArray, List.set_cons_zero, List.set_cons_succ, i64_w, i32_w]
                  rfl
                refine one_ (i := 5) (N := none) #[true, true, true, true, true, true, false, false, false] rfl rfl (by kernel_rfl) (by decide) (fun K hK => ?_)
                refine skip_ (w1 := w8) (by rfl) rfl (exec_store (v := .pointer (some ⟨O, 0, none⟩)) (u := .slice (some ⟨G, 0, none⟩) n N) rfl (by rfl) (by rfl) hst5) ?_
                refine hK.out _ _ ⟨hcP8, hlX8⟩ (fun hHeld => ?_)
                clear hK K
                refine pure_ (i := 6) (N := some 99) (v := ?_) (a' := ?_) #[true, true, true, true, true, true, true, false, false] rfl rfl (by kernel_rfl) (fun _ _ _ h => h) (Or.inl ⟨by rfl, ?_⟩) ?_ ?_
                rotate_left
                · intro w'
                  go_simp
                  with_reducible rfl
                rotate_left
                · simp only [Act.put, List.setIfInBounds_toArray, List.set_cons_zero, List.set_cons_succ, i64_w, i32_w]
                  rfl
                refine pure_ (i := 7) (N := some 100) (v := ?_) (a' := ?_) #[true, true, true, true, true, true, true, true, false] rfl rfl (by kernel_rfl) (fun _ _ _ h => h) (Or.inl ⟨by rfl, ?_⟩) ?_ ?_
                rotate_left
                · intro w'
                  go_simp
                  with_reducible rfl
                rotate_left
                · simp only [Act.put, List.setIfInBounds_toArray, List.set_cons_zero, List.set_cons_succ, i64_w, i32_w]
                  rfl
                refine last_ (i := 8) (N := none) #[true, true, true, true, true, true, true, true, true] rfl rfl (by kernel_rfl) (by decide) (fun K hK => ?_)
                refine skip_ (w1 := w9) (by rfl) rfl (exec_store (v := .pointer (some ⟨B, 0, none⟩)) (u := .agg (mayArr may)) rfl (by rfl) (by rfl) hst8) ?_
                refine hK.out _ _ ?_
                clear hK K
                refine done_ (by kernel_rfl) ?_
                clear hHeld hst8 hst5 hlX7 hlX8 hcP7 hcP8 hcOd HQ7 HQ7d HQ8
                go_wp2
                have hcPd : w9.drew.cell? ⟨P, 0, none⟩ = some (.pointer (some ⟨B, 0, none⟩)) := by
                  have : w9.cell? ⟨P, 0, none⟩ = some (.pointer (some ⟨B, 0, none⟩)) := by rw [cell_of_row _ _ 0 _ _ _ HQ9.out.st.p]; rfl
                  exact this
                have hcld : w9.drew.cell? ⟨B, 32 + c, none⟩ = some (.int .i64 (lv - 1)) := by
                  have h := HQ9.out.st.b.left c hc6
                  dsimp only at h
                  rw [upd_self] at h
                  exact h
                have hfld : w9.drew.frozen? ⟨B, 32 + c, none⟩ = false := HQ9.out.st.b.free (32 + c)
                have hw64 : wrap64 lv = lv := w64_in _ (by omega) (by omega)
                have hwi : IntKind.i64.wrap lv = lv := by rw [IntKind.wrap_i64]; omega
                refine start_ (n := 11) (S := fun w' => w'.cell? ⟨P, 0, none⟩ = some (.pointer (some ⟨B, 0, none⟩)) ∧ w'.cell? ⟨B, 32 + c, none⟩ = some (.int .i64 (lv - 1))) (ds := [10]) #[false, false, false, false, false, false, false, false, false, false, false] (by kernel_rfl) rfl rfl ⟨hcPd, hcld⟩ (fun hHeld => ?_)
                refine pure_ (i := 1) (N := some 102) (v := ?_) (a' := ?_) #[false, true, false, false, false, false, false, false, false, false, false] rfl rfl (by kernel_rfl) (fun _ _ _ h => h) (Or.inl ⟨by rfl, ?_⟩) ?_ ?_
                rotate_left
                · intro w'
                  go_simp
                  with_reducible rfl
                rotate_left
                · simp only [Act.put, List.setIfInBounds_toArray, List.set_cons_zero, List.set_cons_succ, i64_w, i32_w]
                  rfl
                refine take_ (i := 0) (N := some 101) (v := ?_) (a' := ?_) #[true, true, false, false, false, false, false, false, false, false, false] rfl rfl (by kernel_rfl) (fun _ _ _ h => h) (Or.inl ⟨by rfl, ?_⟩) hHeld ?_ ?_
                rotate_left
                · rintro w' ⟨s0, s1⟩
                  go_simp
                  with_reducible rfl
                rotate_left
                · simp only [Act.put, List.setIfInBounds_toArray, List.set_cons_zero, List.set_cons_succ, i64_w, i32_w]
                  rfl
                refine pure_ (i := 2) (N := some 103) (v := ?_) (a' := ?_) #[true, true, true, false, false, false, false, false, false, false, false] rfl rfl (by kernel_rfl) (fun _ _ _ h => h) (Or.inl ⟨by rfl, ?_⟩) ?_ ?_
                rotate_left
                · intro w'
                  go_simp
                  with_reducible rfl
                rotate_left
                · simp only [Act.put, List.setIfInBounds_toArray, List.set_cons_zero, List.set_cons_succ, i64_w, i32_w]
                  rfl
                refine pure_ (i := 3) (N := some 104) (v := ?_) (a' := ?_) #[true, true, true, true, false, false, false, false, false, false, false] rfl rfl (by kernel_rfl) (fun _ _ _ h => h) (Or.inl ⟨by rfl, ?_⟩) ?_ ?_
                rotate_left
                · intro w'
                  go_simp
                  with_reducible rfl
                rotate_left
                · simp only [Act.put, List.setIfInBounds_toArray, List.set_cons_zero, List.set_cons_succ, i64_w, i32_w]
                  rfl
                refine pure_ (i := 4) (N := some 105) (v := ?_) (a' := ?_) #[true, true, true, true, true, false, false, false, false, false, false] rfl rfl (by kernel_rfl) (fun _ _ _ h => h) (Or.inl ⟨by rfl, ?_⟩) ?_ ?_
                rotate_left
                · intro w'
                  go_simp
                  with_reducible rfl
                rotate_left
                · simp only [Act.put, List.setIfInBounds_toArray, List.set_cons_zero, List.set_cons_succ, i64_w, i32_w]
                  rfl
                refine pure_ (i := 7) (N := some 108) (v := ?_) (a' := ?_) #[true, true, true, true, true, false, false, true, false, false, false] rfl rfl (by kernel_rfl) (fun _ _ _ h => h) (Or.inl ⟨by rfl, ?_⟩) ?_ ?_
                rotate_left
                · intro w'
                  go_simp
                  with_reducible rfl
                rotate_left
                · simp only [Act.put, List.setIfInBounds_toArray, List.set_cons_zero, List.set_cons_succ, i64_w, i32_w]
                  rfl
                refine pure_ (i := 8) (N := some 109) (v := ?_) (a' := ?_) #[true, true, true, true, true, false, false, true, true, false, false] rfl rfl (by kernel_rfl) (fun _ _ _ h => h) (Or.inl ⟨by rfl, ?_⟩) ?_ ?_
                rotate_left
                · intro w'
                  go_simp
                  with_reducible rfl
                rotate_left
                · simp only [Act.put, List.setIfInBounds_toArray, List.set_cons_zero, List.set_cons_succ, i64_w, i32_w]
                  rfl
                refine take_ (i := 5) (N := some 106) (v := ?_) (a' := ?_) #[true, true, true, true, true, true, false, true, true, false, false] rfl rfl (by kernel_rfl) (fun _ _ _ h => h) (Or.inl ⟨by rfl, ?_⟩) hHeld ?_ ?_
                rotate_left
                · rintro w' ⟨s0, s1⟩
                  go_simp
                  with_reducible rfl
                rotate_left
                · simp only [Act.put, List.setIfInBounds_toArray, List.set_cons_zero, List.set_cons_succ, i64_w, i32_w]
                  rfl
                refine pure_ (i := 6) (N := some 107) (v := ?_) (a' := ?_) #[true, true, true, true, true, true, true, true, true, false, false] rfl rfl (by kernel_rfl) (fun _ _ _ h => h) (Or.inl ⟨by rfl, ?_⟩) ?_ ?_
                rotate_left
                · intro w'
                  go_simp
                  with_reducible rfl
                rotate_left
                · simp only [Act.put, List.setIfInBounds_toArray, List.set_cons_zero, List.set_cons_succ, i64_w, i32_w]
                  rfl
                refine pure_ (i := 9) (N := some 110) (v := ?_) (a' := ?_) #[true, true, true, true, true, true, true, true, true, true, false] rfl rfl (by kernel_rfl) (fun _ _ _ h => h) (Or.inl ⟨by rfl, ?_⟩) ?_ ?_
                rotate_left
                · intro w'
                  go_simp
                  with_reducible rfl
                rotate_left
                · simp only [Act.put, List.setIfInBounds_toArray, List.set_cons_zero, List.set_cons_succ, i64_w, i32_w]
                  rfl
                refine last_ (i := 10) (N := none) #[true, true, true, true, true, true, true, true, true, true, true] rfl rfl (by kernel_rfl) (by decide) (fun K hK => ?_)
                refine skip_ (w1 := ?_) (by rfl) rfl ?_ ?_
                rotate_left
                · go_simp
                  rfl
                refine hK.out _ _ ?_
                clear hK K
                refine done_ (by kernel_rfl) ?_
                have HQ10 := Lib.hid ((HQ9.out.setLeft c hc6 lv).later ((Below.refl _ _).drew))
                clear hcPd hcld hfld hHeld hw64 hwi HQ9
                generalize (w9.setCell ⟨B, 32 + c, none⟩ (.int .i64 lv)).drew = w10 at HQ10 ⊢
                go_wp2
                go_roundw
                case rel => exact ⟨y, rfl, hn0, by omega, HX2.out, HQ10.out.st.congr (fun _ _ => rfl) (fun q _ => by unfold upd; by_cases e : q = c <;> simp [e, hlv]), HQ10.out.k⟩
                case measure => simp [intOf]; omega

theorem from_any (O P F B G base N : Nat) (un : Nat → Int) (hN : N ≤ 16) : ∀ (r : Nat) (may left : Nat → Int) (out : List Int) (W : World), out.length + r = N → SolSt W O P F B G base N un may left out → Bnd may left →
    Calls Tryd.prog 48 #[.pointer (some ⟨O, 0, none⟩), .pointer (some ⟨P, 0, none⟩), .pointer (some ⟨F, 0, none⟩)] W (FromPost O P F B G base N un may left out (tryF un N r may left) W)
  | 0, may, left, out, W, hl, h, _ => from0_any O P F B G base N un may left out W hN hl h
  | r + 1, may, left, out, W, hl, h, hb => fromS_any O P F B G base N r un may left out W hN hl h hb (fun m l o W' h1 h2 h3 => from_any O P F B G base N un hN r m l o W' h1 h2 h3)
end Go.Proofs.YtepofpnbgbmihaaDoor

/-
  (*problem).solve.
-/
namespace Go.Proofs.YtepofpnbgbmihaaDoor
open Go.RowKit Go.Shelf Go.Proofs.YtepofpnbgbmihaaDoorW.PrintLast
set_option linter.unusedSimpArgs false
set_option linter.unusedVariables false

def solveF (p : Pb) : Option (List Int) := if p.never then none else tryF p.un p.many p.many p.may p.left
theorem tryF_len (un : Nat → Int) (N : Nat) : ∀ (r : Nat) (may left : Nat → Int) (l : List Int), tryF un N r may left = some l → l.length = r
  | 0, may, left, l, h => by injection h with h; subst h; rfl
  | r + 1, may, left, l, h => by
    rw [tryF_succ] at h
    split at h
    · obtain ⟨c, _, hc⟩ := List.exists_of_findSome?_eq_some h
      unfold stepF at hc
      split at hc
      · cases hc
      · rw [Option.map_eq_some_iff] at hc
        obtain ⟨l', h1, rfl⟩ := hc
        rw [List.length_cons, tryF_len un N r _ _ l' h1]
    · cases h
def SolvePost (w : World) (B : Nat) (res : Option (List Int)) (e : Ending) (w' : World) : Prop :=
  Kp w w' (fun k => k = B) ∧ match res with
    | some l => ∃ v, e = .returned (.tuple #[v, .bool true]) ∧ OwnI w' w.heap.size v l
    | none => ∃ v, e = .returned (.tuple #[v, .bool false])
theorem solNew {w W : World} {B N : Nat} {cs0 : Array Value} (hN1 : N ≤ 16) (hcs : cs0.size = N)
    (hW : W = (((w.alloc (.cells #[.pointer (some ⟨B, 0, none⟩)] 77)).alloc (.cells cs0 3)).alloc (.cells #[.slice (some ⟨w.heap.size + 1, 0, none⟩) 0 N] 35)).alloc
      (.cells #[.func (.func 48) #[] #[.pointer (some ⟨w.heap.size + 1 + 1, 0, none⟩), .pointer (some ⟨w.heap.size, 0, none⟩), .pointer (some ⟨w.heap.size + 1 + 1 + 1, 0, none⟩)]] 31)) :
    W.heap[w.heap.size + 1 + 1]? = some (.cells #[.slice (some ⟨w.heap.size + 1, 0, none⟩) 0 N] 35 (0, 0)) ∧ OwnI W w.heap.size (.slice (some ⟨w.heap.size + 1, 0, none⟩) 0 N) [] ∧
    W.heap[w.heap.size]? = some (.cells #[.pointer (some ⟨B, 0, none⟩)] 77 (0, 0)) ∧
    W.heap[w.heap.size + 1 + 1 + 1]? = some (.cells #[.func (.func 48) #[] #[.pointer (some ⟨w.heap.size + 1 + 1, 0, none⟩), .pointer (some ⟨w.heap.size, 0, none⟩), .pointer (some ⟨w.heap.size + 1 + 1 + 1, 0, none⟩)]] 31 (0, 0)) ∧ Below w.heap.size w W := by
  obtain ⟨w1, hw1⟩ : ∃ w1, w1 = w.alloc (.cells #[.pointer (some ⟨B, 0, none⟩)] 77) := ⟨_, rfl⟩
  obtain ⟨w2, hw2⟩ : ∃ w2, w2 = w1.alloc (.cells cs0 3) := ⟨_, rfl⟩
  obtain ⟨w3, hw3⟩ : ∃ w3, w3 = w2.alloc (.cells #[.slice (some ⟨w.heap.size + 1, 0, none⟩) 0 N] 35) := ⟨_, rfl⟩
  rw [← hw1, ← hw2, ← hw3] at hW
  have z1 : w1.heap.size = w.heap.size + 1 := by rw [hw1]; simp
  have z2 : w2.heap.size = w.heap.size + 2 := by rw [hw2]; simp [z1]
  have z3 : w3.heap.size = w.heap.size + 3 := by rw [hw3]; simp [z2]
  have z4 : W.heap.size = w.heap.size + 4 := by rw [hW]; simp [z3]
  have b1 : Below w.heap.size w w1 := by rw [hw1]; exact (Below.refl _ _).alloc (Nat.le_refl _) _
  have b2 : Below w1.heap.size w1 w2 := by rw [hw2]; exact (Below.refl _ _).alloc (Nat.le_refl _) _
  have b3 : Below w2.heap.size w2 w3 := by rw [hw3]; exact (Below.refl _ _).alloc (Nat.le_refl _) _
  have b4 : Below w3.heap.size w3 W := by rw [hW]; exact (Below.refl _ _).alloc (Nat.le_refl _) _
  have n1 : w1.heap[w.heap.size]? = some (.cells #[.pointer (some ⟨B, 0, none⟩)] 77 (0, 0)) := by rw [hw1]; exact World.alloc_heap_new _ _
  have n2 : w2.heap[w.heap.size + 1]? = some (.cells cs0 3 (0, 0)) := by rw [hw2, ← z1]; exact World.alloc_heap_new _ _
  have n3 : w3.heap[w.heap.size + 2]? = some (.cells #[.slice (some ⟨w.heap.size + 1, 0, none⟩) 0 N] 35 (0, 0)) := by rw [hw3, ← z2]; exact World.alloc_heap_new _ _
  have n4 : W.heap[w.heap.size + 3]? = some (.cells #[.func (.func 48) #[] #[.pointer (some ⟨w.heap.size + 1 + 1, 0, none⟩), .pointer (some ⟨w.heap.size, 0, none⟩), .pointer (some ⟨w.heap.size + 1 + 1 + 1, 0, none⟩)]] 31 (0, 0)) := by rw [hW, ← z3]; exact World.alloc_heap_new _ _
  have b24 : Below w2.heap.size w2 W := b3.trans (b4.mono b3.size)
  have b14 : Below w1.heap.size w1 W := b2.trans (b24.mono b2.size)
  have b04 : Below w.heap.size w W := b1.trans (b14.mono b1.size)
  exact ⟨(b4.block _ (by omega)).trans n3, ⟨rfl, .inr ⟨w.heap.size + 1, N, cs0, rfl, by omega, (b24.block _ (by omega)).trans n2, Nat.zero_le _, by unfold maxLen; omega, by rw [hcs, Nat.mul_one], by simp⟩⟩, (b14.block _ (by omega)).trans n1, n4, b04⟩

set_option maxRecDepth 100000 in
set_option maxHeartbeats 1000000 in
theorem solve_any (B : Nat) (p : Pb) (w : World) (hp : PbAt w B p) (hN : p.many ≤ 16) (hb : Bnd p.may p.left) :
    Calls Tryd.prog 27 #[.pointer (some ⟨B, 0, none⟩)] w (SolvePost w B (solveF p)) := by
  obtain ⟨N, hN0⟩ : ∃ N, p.many = N := ⟨_, rfl⟩
  rw [hN0] at hN
  have hmk : ∀ W : World, (Instr.makeSlice 35 (.int .i64 0) (.int .i64 (N : Int))).run Tryd.prog W = .ok (.slice (some ⟨W.heap.size, 0, none⟩) 0 N) (W.alloc (.cells (madeCells #[.int .i64 0] N) 3)) := fun W => by
    obtain ⟨i0, hi, hz0, hz1, hz2⟩ := info_parts info_int
    have h := run_make_rowN (P := Tryd.prog) 35 3 i0 _ Tryd.underlying35 hi hz0 .i64 .i64 0 N (Nat.zero_le _) (by rw [hz2]; omega) (by omega) W
    rw [hz1, Nat.mul_one] at h
    exact h
  have hsf := fun (a : Addr) (c : Array Value) (w : World) => run_store Tryd.prog w a (.func (.func 48) #[] c) .plain rfl
  have hcm := hp.many
  rw [hN0] at hcm
  have hcn := hp.never
  have hbl := hp.lt
  have hdeep : ∀ (o1 o2 o3 o4 : Obj), ((((w.alloc o1).alloc o2).alloc o3).alloc o4).cell? ⟨B, 39, none⟩ = some (.bool p.never) := fun o1 o2 o3 o4 => by
    rw [World.cell?_alloc_lt _ _ ⟨B, 39, none⟩ (by simp; omega), World.cell?_alloc_lt _ _ ⟨B, 39, none⟩ (by simp; omega), World.cell?_alloc_lt _ _ ⟨B, 39, none⟩ (by simp; omega), World.cell?_alloc_lt _ _ ⟨B, 39, none⟩ hbl]
    exact hcn
  have HP := Lib.hid hp
  have HB := Lib.hid hb
  have HN0 := Lib.hid hN0
  clear hp hb hN0
  cases hnv : p.never with
  | true =>
    rw [hnv] at hdeep
    clear hcn
    go_enter Tryd.func27, Tryd.ntmps27
    go_wp2
    obtain ⟨W, hW⟩ : ∃ W, W = (((w.alloc (.cells #[.pointer (some ⟨B, 0, none⟩)] 77)).alloc (.cells (madeCells #[.int .i64 0] N) 3)).alloc (.cells #[.slice (some ⟨w.heap.size + 1, 0, none⟩) 0 N] 35)).alloc (.cells #[.func (.func 48) #[] #[.pointer (some ⟨w.heap.size + 1 + 1, 0, none⟩), .pointer (some ⟨w.heap.size, 0, none⟩), .pointer (some ⟨w.heap.size + 1 + 1 + 1, 0, none⟩)]] 31) := ⟨_, rfl⟩
    rw [← hW]
    obtain ⟨ho, hown, hpp, hff, hbw⟩ := solNew hN (size_madeCells _ _) hW
    have hcO : W.drew.cell? ⟨w.heap.size + 1 + 1, 0, none⟩ = some (.slice (some ⟨w.heap.size + 1, 0, none⟩) 0 N) := by
      have : W.cell? ⟨w.heap.size + 1 + 1, 0, none⟩ = some (.slice (some ⟨w.heap.size + 1, 0, none⟩) 0 N) := by rw [cell_of_row _ _ 0 _ _ _ ho]; rfl
      exact this
    have hcP : W.drew.cell? ⟨w.heap.size, 0, none⟩ = some (.pointer (some ⟨B, 0, none⟩)) := by
      have : W.cell? ⟨w.heap.size, 0, none⟩ = some (.pointer (some ⟨B, 0, none⟩)) := by rw [cell_of_row _ _ 0 _ _ _ hpp]; rfl
      exact this
    have hcM : W.drew.cell? ⟨B, 38, none⟩ = some (.int .i64 N) := by
      have h := (HP.out.later hbw).many
      rw [HN0.out] at h
      exact h
    have hNi : (N : Int) ≤ 16 := by omega
    have HK : Hid (Kp w W.drew (fun k => k = B)) := (Kp.of_below hbw).trans (Kp.drew W _)
    clear hW hsf hmk hdeep ho hown hpp hff hbw
    refine start_ (n := 13) (S := fun w' => w'.cell? ⟨w.heap.size + 1 + 1, 0, none⟩ = some (.slice (some ⟨w.heap.size + 1, 0, none⟩) 0 N) ∧ w'.cell? ⟨w.heap.size, 0, none⟩ = some (.pointer (some ⟨B, 0, none⟩)) ∧ w'.cell? ⟨B, 38, none⟩ = some (.int .i64 N)) (ds := []) #[false, false, false, false, false, false, false, false, false, false, false, false, false] (by kernel_rfl) rfl rfl ⟨hcO, hcP, hcM⟩ (fun hHeld => ?_)
    refine pure_ (i := 10) (N := some 32) (v := ?_) (a' := ?_) #[false, false, false, false, false, false, false, false, false, false, true, false, false] rfl rfl (by kernel_rfl) (fun _ _ _ h => h) (Or.inl ⟨by rfl, ?_⟩) ?_ ?_
    rotate_left
    · intro w'
      go_simp
      with_reducible rfl
    rotate_left
    · simp only [Act.put, List.setIfInBounds_toArray, List.set_cons_zero, List.set_cons_succ, i64_w, i32_w]
      rfl
    refine take_ (i := 0) (N := some 22) (v := ?_) (a' := ?_) #[true, false, false, false, false, false, false, false, false, false, true, false, false] rfl rfl (by kernel_rfl) (fun _ _ _ h => h) (Or.inl ⟨by rfl, ?_⟩) hHeld ?_ ?_
    rotate_left
    · rintro w' ⟨s0, s1, s2⟩
      go_simp
      with_reducible rfl
    rotate_left
    · simp only [Act.put, List.setIfInBounds_toArray, List.set_cons_zero, List.set_cons_succ, i64_w, i32_w]
      rfl
    refine take_ (i := 1) (N := some 23) (v := ?_) (a' := ?_) #[true, true, false, false, false, false, false, false, false, false, true, false, false] rfl rfl (by kernel_rfl) (fun _ _ _ h => h) (Or.inl ⟨by rfl, ?_⟩) hHeld ?_ ?_
    rotate_left
    · rintro w' ⟨s0, s1, s2⟩
      go_simp
      with_reducible rfl
    rotate_left
    · simp only [Act.put, List.setIfInBounds_toArray, List.set_cons_zero, List.set_cons_succ, i64_w, i32_w]
      rfl
    refine pure_ (i := 2) (N := some 24) (v := ?_) (a' := ?_) #[true, true, true, false, false, false, false, false, false, false, true, false, false] rfl rfl (by kernel_rfl) (fun _ _ _ h => h) (Or.inl ⟨by rfl, ?_⟩) ?_ ?_
    rotate_left
    · intro w'
      go_simp
      with_reducible rfl
    rotate_left
    · simp only [Act.put, List.setIfInBounds_toArray, List.set_cons_zero, List.set_cons_succ, i64_w, i32_w]
      rfl
    refine pure_ (i := 3) (N := some 25) (v := ?_) (a' := ?_) #[true, true, true, true, false, false, false, false, false, false, true, false, false] rfl rfl (by kernel_rfl) (fun _ _ _ h => h) (Or.inl ⟨by rfl, ?_⟩) ?_ ?_
    rotate_left
    · intro w'
      go_simp
      with_reducible rfl
    rotate_left
    · simp only [Act.put, List.setIfInBounds_toArray, List.set_cons_zero, List.set_cons_succ, i64_w, i32_w]
      rfl
    refine take_ (i := 4) (N := some 26) (v := ?_) (a' := ?_) #[true, true, true, true, true, false, false, false, false, false, true, false, false] rfl rfl (by kernel_rfl) (fun _ _ _ h => h) (Or.inl ⟨by rfl, ?_⟩) hHeld ?_ ?_
    rotate_left
    · rintro w' ⟨s0, s1, s2⟩
      go_simp
      with_reducible rfl
    rotate_left
    · simp only [Act.put, List.setIfInBounds_toArray, List.set_cons_zero, List.set_cons_succ, i64_w, i32_w]
      rfl
    refine take_ (i := 5) (N := some 27) (v := ?_) (a' := ?_) #[true, true, true, true, true, true, false, false, false, false, true, false, false] rfl rfl (by kernel_rfl) (fun _ _ _ h => h) (Or.inl ⟨by rfl, ?_⟩) hHeld ?_ ?_
    rotate_left
    · rintro w' ⟨s0, s1, s2⟩
      go_simp
      with_reducible rfl
    rotate_left
    · simp only [Act.put, List.setIfInBounds_toArray, List.set_cons_zero, List.set_cons_succ, i64_w, i32_w]
      rfl
    refine pure_ (i := 6) (N := some 28) (v := ?_) (a' := ?_) #[true, true, true, true, true, true, true, false, false, false, true, false, false] rfl rfl (by kernel_rfl) (fun _ _ _ h => h) (Or.inl ⟨by rfl, ?_⟩) ?_ ?_
    rotate_left
    · intro w'
      go_simp
      with_reducible rfl
    rotate_left
    · simp only [Act.put, List.setIfInBounds_toArray, List.set_cons_zero, List.set_cons_succ, i64_w, i32_w]
      rfl
    refine pure_ (i := 7) (N := some 29) (v := ?_) (a' := ?_) #[true, true, true, true, true, true, true, true, false, false, true, false, false] rfl rfl (by kernel_rfl) (fun _ _ _ h => h) (Or.inl ⟨by rfl, ?_⟩) ?_ ?_
    rotate_left
    · intro w'
      go_simp
      with_reducible rfl
    rotate_left
    · simp only [Act.put, List.setIfInBounds_toArray, List.set_cons_zero, List.set_cons_succ, i64_w, i32_w]
      rfl
    refine take_ (i := 8) (N := some 30) (v := ?_) (a' := ?_) #[true, true, true, true, true, true, true, true, true, false, true, false, false] rfl rfl (by kernel_rfl) (fun _ _ _ h => h) (Or.inl ⟨by rfl, ?_⟩) hHeld ?_ ?_
    rotate_left
    · rintro w' ⟨s0, s1, s2⟩
      go_simp
      with_reducible rfl
    rotate_left
    · simp only [Act.put, List.setIfInBounds_toArray, List.set_cons_zero, List.set_cons_succ, i64_w, i32_w]
      rfl
    refine pure_ (i := 9) (N := some 31) (v := ?_) (a' := ?_) #[true, true, true, true, true, true, true, true, true, true, true, false, false] rfl rfl (by kernel_rfl) (fun _ _ _ h => h) (Or.inl ⟨by rfl, ?_⟩) ?_ ?_
    rotate_left
    · intro w'
      go_simp
      with_reducible rfl
    rotate_left
    · simp only [Act.put, List.setIfInBounds_toArray, List.set_cons_zero, List.set_cons_succ, i64_w, i32_w]
      rfl
    refine pure_ (i := 11) (N := some 2) (v := ?_) (a' := ?_) #[true, true, true, true, true, true, true, true, true, true, true, true, false] rfl rfl (by kernel_rfl) (fun _ _ _ h => h) (Or.inl ⟨by rfl, ?_⟩) ?_ ?_
    rotate_left
    · intro w'
      go_simp
      with_reducible rfl
    rotate_left
    · simp only [Act.put, List.setIfInBounds_toArray, List.set_cons_zero, List.set_cons_succ, i64_w, i32_w]
      rfl
    refine pure_ (i := 12) (N := some 3) (v := ?_) (a' := ?_) #[true, true, true, true, true, true, true, true, true, true, true, true, true] rfl rfl (by kernel_rfl) (fun _ _ _ h => h) (Or.inl ⟨by rfl, ?_⟩) ?_ ?_
    rotate_left
    · intro w'
      go_simp
      with_reducible rfl
    rotate_left
    · simp only [Act.put, List.setIfInBounds_toArray, List.set_cons_zero, List.set_cons_succ, i64_w, i32_w]
      rfl
    refine done_ (by kernel_rfl) ?_
    go_wp2
    refine bodyPost_ret (results_tmp2 rfl _ _ _) rfl ⟨HK.out, ?_⟩
    unfold solveF
    rw [hnv, if_pos rfl]
    exact ⟨_, rfl⟩
  | false =>
    rw [hnv] at hdeep
    clear hcn
    go_enter Tryd.func27, Tryd.ntmps27
    go_wp2_with fail
    obtain ⟨W, hW⟩ : ∃ W, W = (((w.alloc (.cells #[.pointer (some ⟨B, 0, none⟩)] 77)).alloc (.cells (madeCells #[.int .i64 0] N) 3)).alloc (.cells #[.slice (some ⟨w.heap.size + 1, 0, none⟩) 0 N] 35)).alloc (.cells #[.func (.func 48) #[] #[.pointer (some ⟨w.heap.size + 1 + 1, 0, none⟩), .pointer (some ⟨w.heap.size, 0, none⟩), .pointer (some ⟨w.heap.size + 1 + 1 + 1, 0, none⟩)]] 31) := ⟨_, rfl⟩
    rw [← hW]
    obtain ⟨ho, hown, hpp, hff, hbw⟩ := solNew hN (size_madeCells _ _) hW
    have hst : SolSt W (w.heap.size + 1 + 1) w.heap.size (w.heap.size + 1 + 1 + 1) B (w.heap.size + 1) w.heap.size N p.un p.may p.left [] := by
      refine ⟨ho, hown, hpp, hff, ?_, hbw.size⟩
      have h := HP.out.later hbw
      have h0 := HN0.out
      obtain ⟨m, u, l, mn, nv⟩ := p
      dsimp only at hnv h0 ⊢
      subst hnv; subst h0
      exact h
    clear hW hsf hmk hdeep ho hown hpp hff
    refine (from_any _ _ _ B _ w.heap.size N p.un hN N p.may p.left [] W (by simp) hst HB.out).mono ?_
    rintro e W7 ⟨hK7, hpost⟩
    have hsf : solveF p = tryF p.un N N p.may p.left := by unfold solveF; rw [hnv, HN0.out]; rfl
    have HSF := Lib.hid hsf
    have hKK : Kp w W7.drew (fun k => k = B) := (((Kp.of_below hbw).trans hK7).mono (fun k hk hs => by rcases hs with e | e | e <;> omega)).trans (Kp.drew W7 _)
    have HK := Lib.hid hKK
    have hNi : (N : Int) ≤ 16 := by omega
    have hlen := tryF_len p.un N N p.may p.left
    generalize tryF p.un N N p.may p.left = res at hpost HSF hlen
    clear hsf hst hbw hK7 hKK
    cases res with
    | some l =>
      obtain ⟨rfl, may', left', hs⟩ := hpost
      rw [List.nil_append] at hs
      have hl := hlen l rfl
      have hoo := hs.o
      rw [hl] at hoo
      have hown := hs.own
      rw [hl] at hown
      have hcO : W7.drew.cell? ⟨w.heap.size + 1 + 1, 0, none⟩ = some (.slice (some ⟨w.heap.size + 1, 0, none⟩) N N) := by
        have : W7.cell? ⟨w.heap.size + 1 + 1, 0, none⟩ = some (.slice (some ⟨w.heap.size + 1, 0, none⟩) N N) := by rw [cell_of_row _ _ 0 _ _ _ hoo]; rfl
        exact this
      have hcP : W7.drew.cell? ⟨w.heap.size, 0, none⟩ = some (.pointer (some ⟨B, 0, none⟩)) := by
        have : W7.cell? ⟨w.heap.size, 0, none⟩ = some (.pointer (some ⟨B, 0, none⟩)) := by rw [cell_of_row _ _ 0 _ _ _ hs.p]; rfl
        exact this
      have hcM : W7.drew.cell? ⟨B, 38, none⟩ = some (.int .i64 N) := hs.b.many
      have HOWN := Lib.hid (hown.drew)
      clear hs hoo hown hlen hcm
      go_wp2
      refine start_ (n := 13) (S := fun w' => w'.cell? ⟨w.heap.size + 1 + 1, 0, none⟩ = some (.slice (some ⟨w.heap.size + 1, 0, none⟩) N N) ∧ w'.cell? ⟨w.heap.size, 0, none⟩ = some (.pointer (some ⟨B, 0, none⟩)) ∧ w'.cell? ⟨B, 38, none⟩ = some (.int .i64 N)) (ds := []) #[false, false, false, false, false, false, false, false, false, false, false, false, false] (by kernel_rfl) rfl rfl ⟨hcO, hcP, hcM⟩ (fun hHeld => ?_)
      refine pure_ (i := 10) (N := some 32) (v := ?_) (a' := ?_) #[false, false, false, false, false, false, false, false, false, false, true, false, false] rfl rfl (by kernel_rfl) (fun _ _ _ h => h) (Or.inl ⟨by rfl, ?_⟩) ?_ ?_
      rotate_left
      · intro w'
        go_simp
        with_reducible rfl
      rotate_left
      · simp only [Act.put, List.setIfInBounds_toArray, List.set_cons_zero, List.set_cons_succ, i64_w, i32_w]
        rfl
      refine take_ (i := 0) (N := some 22) (v := ?_) (a' := ?_) #[true, false, false, false, false, false, false, false, false, false, true, false, false] rfl rfl (by kernel_rfl) (fun _ _ _ h => h) (Or.inl ⟨by rfl, ?_⟩) hHeld ?_ ?_
      rotate_left
      · rintro w' ⟨s0, s1, s2⟩
        go_simp
        with_reducible rfl
      rotate_left
      · simp only [Act.put, List.setIfInBounds_toArray, List.set_cons_zero, List.set_cons_succ, i64_w, i32_w]
        rfl
      refine take_ (i := 1) (N := some 23) (v := ?_) (a' := ?_) #[true, true, false, false, false, false, false, false, false, false, true, false, false] rfl rfl (by kernel_rfl) (fun _ _ _ h => h) (Or.inl ⟨by rfl, ?_⟩) hHeld ?_ ?_
      rotate_left
      · rintro w' ⟨s0, s1, s2⟩
        go_simp
        with_reducible rfl
      rotate_left
      · simp only [Act.put, List.setIfInBounds_toArray, List.set_cons_zero, List.set_cons_succ, i64_w, i32_w]
        rfl
      refine pure_ (i := 2) (N := some 24) (v := ?_) (a' := ?_) #[true, true, true, false, false, false, false, false, false, false, true, false, false] rfl rfl (by kernel_rfl) (fun _ _ _ h => h) (Or.inl ⟨by rfl, ?_⟩) ?_ ?_
      rotate_left
      · intro w'
        go_simp
        with_reducible rfl
      rotate_left
      · simp only [Act.put, List.setIfInBounds_toArray, List.set_cons_zero, List.set_cons_succ, i64_w, i32_w]
        rfl
      refine pure_ (i := 3) (N := some 25) (v := ?_) (a' := ?_) #[true, true, true, true, false, false, false, false, false, false, true, false, false] rfl rfl (by kernel_rfl) (fun _ _ _ h => h) (Or.inl ⟨by rfl, ?_⟩) ?_ ?_
      rotate_left
      · intro w'
        go_simp
        with_reducible rfl
      rotate_left
      · simp only [Act.put, List.setIfInBounds_toArray, List.set_cons_zero, List.set_cons_succ, i64_w, i32_w]
        rfl
      refine take_ (i := 4) (N := some 26) (v := ?_) (a' := ?_) #[true, true, true, true, true, false, false, false, false, false, true, false, false] rfl rfl (by kernel_rfl) (fun _ _ _ h => h) (Or.inl ⟨by rfl, ?_⟩) hHeld ?_ ?_
      rotate_left
      · rintro w' ⟨s0, s1, s2⟩
        go_simp
        with_reducible rfl
      rotate_left
      · simp only [Act.put, List.setIfInBounds_toArray, List.set_cons_zero, List.set_cons_succ, i64_w, i32_w]
        rfl
      refine take_ (i := 5) (N := some 27) (v := ?_) (a' := ?_) #[true, true, true, true, true, true, false, false, false, false, true, false, false] rfl rfl (by kernel_rfl) (fun _ _ _ h => h) (Or.inl ⟨by rfl, ?_⟩) hHeld ?_ ?_
      rotate_left
      · rintro w' ⟨s0, s1, s2⟩
        go_simp
        with_reducible rfl
      rotate_left
      · simp only [Act.put, List.setIfInBounds_toArray, List.set_cons_zero, List.set_cons_succ, i64_w, i32_w]
        rfl
      refine pure_ (i := 6) (N := some 28) (v := ?_) (a' := ?_) #[true, true, true, true, true, true, true, false, false, false, true, false, false] rfl rfl (by kernel_rfl) (fun _ _ _ h => h) (Or.inl ⟨by rfl, ?_⟩) ?_ ?_
      rotate_left
      · intro w'
        go_simp
        with_reducible rfl
      rotate_left
      · simp only [Act.put, List.setIfInBounds_toArray, List.set_cons_zero, List.set_cons_succ, i64_w, i32_w]
        rfl
      refine pure_ (i := 7) (N := some 29) (v := ?_) (a' := ?_) #[true, true, true, true, true, true, true, true, false, false, true, false, false] rfl rfl (by kernel_rfl) (fun _ _ _ h => h) (Or.inl ⟨by rfl, ?_⟩) ?_ ?_
      rotate_left
      · intro w'
        go_simp
        with_reducible rfl
      rotate_left
      · simp only [Act.put, List.setIfInBounds_toArray, List.set_cons_zero, List.set_cons_succ, i64_w, i32_w]
        rfl
      refine take_ (i := 8) (N := some 30) (v := ?_) (a' := ?_) #[true, true, true, true, true, true, true, true, true, false, true, false, false] rfl rfl (by kernel_rfl) (fun _ _ _ h => h) (Or.inl ⟨by rfl, ?_⟩) hHeld ?_ ?_
      rotate_left
      · rintro w' ⟨s0, s1, s2⟩
        go_simp
        with_reducible rfl
      rotate_left
      · simp only [Act.put, List.setIfInBounds_toArray, List.set_cons_zero, List.set_cons_succ, i64_w, i32_w]
        rfl
      refine pure_ (i := 9) (N := some 31) (v := ?_) (a' := ?_) #[true, true, true, true, true, true, true, true, true, true, true, false, false] rfl rfl (by kernel_rfl) (fun _ _ _ h => h) (Or.inl ⟨by rfl, ?_⟩) ?_ ?_
      rotate_left
      · intro w'
        go_simp
        with_reducible rfl
      rotate_left
      · simp only [Act.put, List.setIfInBounds_toArray, List.set_cons_zero, List.set_cons_succ, i64_w, i32_w]
        rfl
      refine pure_ (i := 11) (N := some 2) (v := ?_) (a' := ?_) #[true, true, true, true, true, true, true, true, true, true, true, true, false] rfl rfl (by kernel_rfl) (fun _ _ _ h => h) (Or.inl ⟨by rfl, ?_⟩) ?_ ?_
      rotate_left
      · intro w'
        go_simp
        with_reducible rfl
      rotate_left
      · simp only [Act.put, List.setIfInBounds_toArray, List.set_cons_zero, List.set_cons_succ, i64_w, i32_w]
        rfl
      refine pure_ (i := 12) (N := some 3) (v := ?_) (a' := ?_) #[true, true, true, true, true, true, true, true, true, true, true, true, true] rfl rfl (by kernel_rfl) (fun _ _ _ h => h) (Or.inl ⟨by rfl, ?_⟩) ?_ ?_
      rotate_left
      · intro w'
        go_simp
        with_reducible rfl
      rotate_left
      · simp only [Act.put, List.setIfInBounds_toArray, List.set_cons_zero, List.set_cons_succ, i64_w, i32_w]
        rfl
      refine done_ (by kernel_rfl) ?_
      go_wp2
      refine bodyPost_ret (results_tmp2 rfl _ _ _) rfl ⟨HK.out, ?_⟩
      rw [HSF.out]
      exact ⟨_, rfl, HOWN.out⟩
    | none =>
      obtain ⟨rfl, hs⟩ := hpost
      have hoo := hs.o
      have hcO : W7.drew.cell? ⟨w.heap.size + 1 + 1, 0, none⟩ = some (.slice (some ⟨w.heap.size + 1, 0, none⟩) 0 N) := by
        have : W7.cell? ⟨w.heap.size + 1 + 1, 0, none⟩ = some (.slice (some ⟨w.heap.size + 1, 0, none⟩) 0 N) := by rw [cell_of_row _ _ 0 _ _ _ hoo]; rfl
        exact this
      have hcP : W7.drew.cell? ⟨w.heap.size, 0, none⟩ = some (.pointer (some ⟨B, 0, none⟩)) := by
        have : W7.cell? ⟨w.heap.size, 0, none⟩ = some (.pointer (some ⟨B, 0, none⟩)) := by rw [cell_of_row _ _ 0 _ _ _ hs.p]; rfl
        exact this
      have hcM : W7.drew.cell? ⟨B, 38, none⟩ = some (.int .i64 N) := hs.b.many
      clear hs hoo hlen hcm
      go_wp2
      refine start_ (n := 13) (S := fun w' => w'.cell? ⟨w.heap.size + 1 + 1, 0, none⟩ = some (.slice (some ⟨w.heap.size + 1, 0, none⟩) 0 N) ∧ w'.cell? ⟨w.heap.size, 0, none⟩ = some (.pointer (some ⟨B, 0, none⟩)) ∧ w'.cell? ⟨B, 38, none⟩ = some (.int .i64 N)) (ds := []) #[false, false, false, false, false, false, false, false, false, false, false, false, false] (by kernel_rfl) rfl rfl ⟨hcO, hcP, hcM⟩ (fun hHeld => ?_)
      refine pure_ (i := 10) (N := some 32) (v := ?_) (a' := ?_) #[false, false, false, false, false, false, false, false, false, false, true, false, false] rfl rfl (by kernel_rfl) (fun _ _ _ h => h) (Or.inl ⟨by rfl, ?_⟩) ?_ ?_
      rotate_left
      · intro w'
        go_simp
        with_reducible rfl
      rotate_left
      · simp only [Act.put, List.setIfInBounds_toArray, List.set_cons_zero, List.set_cons_succ, i64_w, i32_w]
        rfl
      refine take_ (i := 0) (N := some 22) (v := ?_) (a' := ?_) #[true, false, false, false, false, false, false, false, false, false, true, false, false] rfl rfl (by kernel_rfl) (fun _ _ _ h => h) (Or.inl ⟨by rfl, ?_⟩) hHeld ?_ ?_
      rotate_left
      · rintro w' ⟨s0, s1, s2⟩
        go_simp
        with_reducible rfl
      rotate_left
      · simp only [Act.put, List.setIfInBounds_toArray, List.set_cons_zero, List.set_cons_succ, i64_w, i32_w]
        rfl
      refine take_ (i := 1) (N := some 23) (v := ?_) (a' := ?_) #[true, true, false, false, false, false, false, false, false, false, true, false, false] rfl rfl (by kernel_rfl) (fun _ _ _ h => h) (Or.inl ⟨by rfl, ?_⟩) hHeld ?_ ?_
      rotate_left
      · rintro w' ⟨s0, s1, s2⟩
        go_simp
        with_reducible rfl
      rotate_left
      · simp only [Act.put, List.setIfInBounds_toArray, List.set_cons_zero, List.set_cons_succ, i64_w, i32_w]
        rfl
      refine pure_ (i := 2) (N := some 24) (v := ?_) (a' := ?_) #[true, true, true, false, false, false, false, false, false, false, true, false, false] rfl rfl (by kernel_rfl) (fun _ _ _ h => h) (Or.inl ⟨by rfl, ?_⟩) ?_ ?_
      rotate_left
      · intro w'
        go_simp
        with_reducible rfl
      rotate_left
      · simp only [Act.put, List.setIfInBounds_toArray, List.set_cons_zero, List.set_cons_succ, i64_w, i32_w]
        rfl
      refine pure_ (i := 3) (N := some 25) (v := ?_) (a' := ?_) #[true, true, true, true, false, false, false, false, false, false, true, false, false] rfl rfl (by kernel_rfl) (fun _ _ _ h => h) (Or.inl ⟨by rfl, ?_⟩) ?_ ?_
      rotate_left
      · intro w'
        go_simp
        with_reducible rfl
      rotate_left
      · simp only [Act.put, List.setIfInBounds_toArray, List.set_cons_zero, List.set_cons_succ, i64_w, i32_w]
        rfl
      refine take_ (i := 4) (N := some 26) (v := ?_) (a' := ?_) #[true, true, true, true, true, false, false, false, false, false, true, false, false] rfl rfl (by kernel_rfl) (fun _ _ _ h => h) (Or.inl ⟨by rfl, ?_⟩) hHeld ?_ ?_
      rotate_left
      · rintro w' ⟨s0, s1, s2⟩
        go_simp
        with_reducible rfl
      rotate_left
      · simp only [Act.put, List.setIfInBounds_toArray, List.set_cons_zero, List.set_cons_succ, i64_w, i32_w]
        rfl
      refine take_ (i := 5) (N := some 27) (v := ?_) (a' := ?_) #[true, true, true, true, true, true, false, false, false, false, true, false, false] rfl rfl (by kernel_rfl) (fun _ _ _ h => h) (Or.inl ⟨by rfl, ?_⟩) hHeld ?_ ?_
      rotate_left
      · rintro w' ⟨s0, s1, s2⟩
        go_simp
        with_reducible rfl
      rotate_left
      · simp only [Act.put, List.setIfInBounds_toArray, List.set_cons_zero, List.set_cons_succ, i64_w, i32_w]
        rfl
      refine pure_ (i := 6) (N := some 28) (v := ?_) (a' := ?_) #[true, true, true, true, true, true, true, false, false, false, true, false, false] rfl rfl (by kernel_rfl) (fun _ _ _ h => h) (Or.inl ⟨by rfl, ?_⟩) ?_ ?_
      rotate_left
      · intro w'
        go_simp
        with_reducible rfl
      rotate_left
      · simp only [Act.put, List.setIfInBounds_toArray, List.set_cons_zero, List.set_cons_succ, i64_w, i32_w]
        rfl
      refine pure_ (i := 7) (N := some 29) (v := ?_) (a' := ?_) #[true, true, true, true, true, true, true, true, false, false, true, false, false] rfl rfl (by kernel_rfl) (fun _ _ _ h => h) (Or.inl ⟨by rfl, ?_⟩) ?_ ?_
      rotate_left
      · intro w'
        go_simp
        with_reducible rfl
      rotate_left
      · simp only [Act.put, List.setIfInBounds_toArray, List.set_cons_zero, List.set_cons_succ, i64_w, i32_w]
        rfl
      refine take_ (i := 8) (N := some 30) (v := ?_) (a' := ?_) #[true, true, true, true, true, true, true, true, true, false, true, false, false] rfl rfl (by kernel_rfl) (fun _ _ _ h => h) (Or.inl ⟨by rfl, ?_⟩) hHeld ?_ ?_
      rotate_left
      · rintro w' ⟨s0, s1, s2⟩
        go_simp
        with_reducible rfl
      rotate_left
      · simp only [Act.put, List.setIfInBounds_toArray, List.set_cons_zero, List.set_cons_succ, i64_w, i32_w]
        rfl
      refine pure_ (i := 9) (N := some 31) (v := ?_) (a' := ?_) #[true, true, true, true, true, true, true, true, true, true, true, false, false] rfl rfl (by kernel_rfl) (fun _ _ _ h => h) (Or.inl ⟨by rfl, ?_⟩) ?_ ?_
      rotate_left
      · intro w'
        go_simp
        with_reducible rfl
      rotate_left
      · simp only [Act.put, List.setIfInBounds_toArray, List.set_cons_zero, List.set_cons_succ, i64_w, i32_w]
        rfl
      refine pure_ (i := 11) (N := some 2) (v := ?_) (a' := ?_) #[true, true, true, true, true, true, true, true, true, true, true, true, false] rfl rfl (by kernel_rfl) (fun _ _ _ h => h) (Or.inl ⟨by rfl, ?_⟩) ?_ ?_
      rotate_left
      · intro w'
        go_simp
        with_reducible rfl
      rotate_left
      · simp only [Act.put, List.setIfInBounds_toArray, List.set_cons_zero, List.set_cons_succ, i64_w, i32_w]
        rfl
      refine pure_ (i := 12) (N := some 3) (v := ?_) (a' := ?_) #[true, true, true, true, true, true, true, true, true, true, true, true, true] rfl rfl (by kernel_rfl) (fun _ _ _ h => h) (Or.inl ⟨by rfl, ?_⟩) ?_ ?_
      rotate_left
      · intro w'
        go_simp
        with_reducible rfl
      rotate_left
      · simp only [Act.put, List.setIfInBounds_toArray, List.set_cons_zero, List.set_cons_succ, i64_w, i32_w]
        rfl
      refine done_ (by kernel_rfl) ?_
      go_wp2
      refine bodyPost_ret (results_tmp2 rfl _ _ _) rfl ⟨HK.out, ?_⟩
      rw [HSF.out]
      exact ⟨_, rfl⟩
end Go.Proofs.YtepofpnbgbmihaaDoor

/-
  dyeing.Solve.
-/
namespace Go.Proofs.YtepofpnbgbmihaaDoor
open Go.RowKit Go.Shelf Go.Proofs.YtepofpnbgbmihaaDoorW.PrintLast
set_option linter.unusedSimpArgs false
set_option linter.unusedVariables false

theorem and_fin : ∀ n m : Fin 64, 0 ≤ bits .and .u8 (n.val : Int) (m.val : Int) ∧ bits .and .u8 (n.val : Int) (m.val : Int) < 64 := by decide +kernel
theorem and_bound (x y : Int) (h0 : 0 ≤ x) (h1 : x < 64) (h2 : 0 ≤ y) (h3 : y < 64) : 0 ≤ bits .and .u8 x y ∧ bits .and .u8 x y < 64 := by
  obtain ⟨n, rfl⟩ := Int.eq_ofNat_of_zero_le h0
  obtain ⟨m, rfl⟩ := Int.eq_ofNat_of_zero_le h2
  exact and_fin ⟨n, by omega⟩ ⟨m, by omega⟩
theorem mayTo_bound (N : Nat) (ws : List Wi) (ov : Int → Nat) (ch : Nat → Bool) (hw : ∀ (i : Nat) (x : Wi), ws[i]? = some x → 0 ≤ x.al ∧ x.al < 64) : ∀ j q, 0 ≤ mayTo N ws ov ch j q ∧ mayTo N ws ov ch j q < 64
  | 0, q => by
    show 0 ≤ may0 N q ∧ may0 N q < 64
    unfold may0
    split <;> omega
  | j + 1, q => by
    have ih := mayTo_bound N ws ov ch hw j
    cases hx : ws[j]? with
    | none =>
      have e : mayTo N ws ov ch (j + 1) = mayTo N ws ov ch j := by show (match ws[j]? with | some x => _ | none => mayTo N ws ov ch j) = _; rw [hx]
      rw [e]; exact ih q
    | some x =>
      rw [mayTo_succ N ws ov ch j x hx]
      obtain ⟨h0, h1⟩ := hw j x hx
      split
      · unfold upd
        split
        · exact and_bound _ _ (ih _).1 (ih _).2 h0 h1
        · exact ih q
      · exact ih q
theorem sup_bound (s : Nat → Int) (h : supOk s = true) : ∀ c, c < 6 → 0 ≤ s c ∧ s c ≤ 100 := by
  unfold supOk at h
  rw [Bool.and_eq_true, decide_eq_true_eq, decide_eq_true_eq] at h
  obtain ⟨h1, h2⟩ := h
  simp only [Lib.minOf, Lib.maxOf, supL, List.headD_cons, List.foldl_cons, List.foldl_nil] at h1 h2
  intro c hc
  rcases (by omega : c = 0 ∨ c = 1 ∨ c = 2 ∨ c = 3 ∨ c = 4 ∨ c = 5) with rfl | rfl | rfl | rfl | rfl | rfl <;> omega
theorem al_bound (ws : List Wi) (n : Nat) (us : List Uk) (ht : TaskOk n ws us) (h : ws.all okAl = true) : ∀ (i : Nat) (x : Wi), ws[i]? = some x → 0 ≤ x.al ∧ x.al < 64 := by
  intro i x hx
  rw [List.all_eq_true] at h
  have h2 := h x (List.mem_of_getElem? hx)
  unfold okAl at h2
  have h3 : x.al / 64 = 0 := by simpa using h2
  obtain ⟨_, _, h4, _⟩ := ht.w i x hx
  omega
theorem madeP_bnd (N n : Nat) (s : Nat → Int) (ws : List Wi) (us : List Uk) (ov : Int → Nat) (ch : Nat → Bool) (ht : TaskOk n ws us) (hs : supOk s = true) (ha : ws.all okAl = true) : Bnd (madeP N s ws us ov ch).may (madeP N s ws us ov ch).left :=
  ⟨fun q _ => mayTo_bound N ws ov ch (al_bound ws n us ht ha) _ q, sup_bound s hs⟩

/-- What Solve says. -/
def dyRes (N : Nat) (s : Nat → Int) (ws : List Wi) (us : List Uk) (ov : Int → Nat) : Int × Option (List Int) :=
  if supOk s && ws.all okAl then
    match solveF (madeP N s ws us ov fun _ => true) with
    | some l => (0, some l)
    | none => (4, none)
  else (2, none)
def DyPost (w : World) (r : Int × Option (List Int)) (e : Ending) (w' : World) : Prop :=
  Below w.heap.size w w' ∧ ∃ v, e = .returned (.tuple #[v, .int .i64 r.1]) ∧ match r.2 with
    | some l => OwnI w' w.heap.size v l
    | none => v = .slice none 0 0

set_option maxRecDepth 100000 in
set_option maxHeartbeats 1000000 in
theorem dySolve_any (N : Nat) (cs : List Crs) (ps : List Pn) (ws : List Wi) (us : List Uk) (cv pv wv uv : Value) (s : Nat → Int) (w : World) (hok : ClothOk N cs ps) (hN : N ≤ 16) (htk : TaskOk cs.length ws us)
    (hc : RdL 4 encX w cv cs) (hp : RdL 4 encP w pv ps) (hw : RdL 2 encWi w wv ws) (hu : RdL 2 encU w uv us) :
    Calls Tryd.prog 10 #[.agg (taskA N cv pv wv uv s)] w (DyPost w (dyRes N s ws us (ovF cs))) := by
  have hy := fun W h1 h2 h3 h4 => dyCheck_any N cs ps ws us cv pv wv uv s W hok hN htk h1 h2 h3 h4
  have hm := fun W h1 h2 h3 => made_any N cs ps ws us cv pv wv uv s W 26 #[] (fun _ => true) (fun i x hx => ⟨(hok.cr i x hx).o0, (hok.cr i x hx).o1⟩) hN htk h1 h2 h3 (enters_of Tryd.func26 (by kernel_rfl) rfl) (fun i W' _ _ => all1_any i W')
  have HRC := Lib.hid hc
  have HRP := Lib.hid hp
  have HRW := Lib.hid hw
  have HRU := Lib.hid hu
  have HTK := Lib.hid htk
  clear hc hp hw hu htk hok
  have hT0 : TaskAt (w.alloc (.cells (taskA N cv pv wv uv s) 49)) w.heap.size N cv pv wv uv s := ⟨World.alloc_heap_new _ _⟩
  have HT0 := Lib.hid hT0
  clear hT0
  unfold taskA at hy hm HT0 ⊢
  have HY := Lib.hid hy
  have HM := Lib.hid hm
  clear hy hm
  obtain ⟨res, hres⟩ : ∃ res, res = dyRes N s ws us (ovF cs) := ⟨_, rfl⟩
  rw [← hres]
  unfold dyRes at hres
  have HRES := Lib.hid hres
  clear hres
  go_enter Tryd.func10, Tryd.ntmps10
  go_wp2_with fail
  refine (HY.out _ (HRC.out.alloc _) (HRP.out.alloc _) (HRW.out.alloc _) (HRU.out.alloc _)).mono ?_
  rintro e w1 ⟨rfl, hb1⟩
  have HT1 := Lib.hid (HT0.out.later hb1)
  have HB1 : Hid (Below w.heap.size w w1) := ((Below.refl _ w).alloc (Nat.le_refl _) _).trans (hb1.mono (by simp))
  clear hb1 HT0 HY HRP
  dsimp only
  unfold dyErr
  cases hg : (supOk s && ws.all okAl) with
  | false =>
    rw [hg, if_neg (by decide)] at HRES
    simp only [Bool.false_eq_true, if_false]
    go_wp2
    go_ret2
    rw [HRES.out]
    exact ⟨HB1.out, _, rfl, rfl⟩
  | true =>
    rw [hg, if_pos rfl] at HRES
    simp only [if_true]
    have hc0 := HT1.out.c0
    have hc1 := HT1.out.c1
    have hc2 := HT1.out.c2
    have hc3 := HT1.out.c3
    have hc4 := HT1.out.c4
    have hs0 := HT1.out.sup 0 (by omega)
    have hs1 := HT1.out.sup 1 (by omega)
    have hs2 := HT1.out.sup 2 (by omega)
    have hs3 := HT1.out.sup 3 (by omega)
    have hs4 := HT1.out.sup 4 (by omega)
    have hs5 := HT1.out.sup 5 (by omega)
    simp only [Nat.reduceAdd] at hs0 hs1 hs2 hs3 hs4 hs5
    go_wp2_with fail
    refine (HM.out _ (HRC.out.later HB1.out) (HRW.out.later HB1.out) (HRU.out.later HB1.out)).mono ?_
    rintro e w2 ⟨B, rfl, hB, hpb, hb2⟩
    rw [Bool.and_eq_true] at hg
    have hbd := madeP_bnd N cs.length s ws us (ovF cs) (fun _ => true) HTK.out hg.1 hg.2
    have hmn : (madeP N s ws us (ovF cs) fun _ => true).many ≤ 16 := hN
    generalize (madeP N s ws us (ovF cs) fun _ => true) = p at hpb hbd HRES hmn
    have HSV := Lib.hid (solve_any B p w2 hpb hmn hbd)
    have HB2 : Hid (Below w.heap.size w w2) := HB1.out.trans (hb2.mono HB1.out.size)
    have hBw : w.heap.size ≤ B := Nat.le_trans HB1.out.size hB
    clear hpb hbd hb2 hc0 hc1 hc2 hc3 hc4 hs0 hs1 hs2 hs3 hs4 hs5 HM HRC HRW HRU HTK
    go_wp2_with fail
    refine HSV.out.mono ?_
    rintro e w3 ⟨hK3, hpost⟩
    have HB3 : Hid (Below w.heap.size w w3) := Kp.below HB2.out HB2.out.size hK3 (fun k hk => by rw [hk]; exact hBw)
    have hsz : w.heap.size ≤ w2.heap.size := HB2.out.size
    generalize solveF p = r at hpost HRES
    clear hK3
    cases r with
    | some l =>
      obtain ⟨v, rfl, ho⟩ := hpost
      have HO := Lib.hid (OwnL.lower ho hsz)
      clear ho
      go_wp2
      go_ret2
      rw [HRES.out]
      exact ⟨HB3.out, _, rfl, HO.out⟩
    | none =>
      obtain ⟨v, rfl⟩ := hpost
      go_wp2
      go_ret2
      rw [HRES.out]
      exact ⟨HB3.out, _, rfl, rfl⟩
end Go.Proofs.YtepofpnbgbmihaaDoor

/-
  dyeing.chosen: the sets of so many wishes, one after the other.
-/
namespace Go.Proofs.YtepofpnbgbmihaaDoor
open Go.RowKit Go.Shelf Go.Proofs.YtepofpnbgbmihaaDoorW.PrintLast
set_option linter.unusedSimpArgs false
set_option linter.unusedVariables false
attribute [local go_sem] Oper.semAt_some

/-- A set of at most six wishes, as bits. -/
abbrev A6 := { x : Int // 0 ≤ x ∧ x < 64 }
def orBit (s : Int) (i : Nat) : Int := bits .or .u64 s (IntKind.u64.wrap (2 ^ i))
theorem or_fin : ∀ n : Fin 64, ∀ i : Fin 6, 0 ≤ orBit (n.val : Int) i.val ∧ orBit (n.val : Int) i.val < 64 := by decide +kernel
theorem or_bound (s : Int) (i : Nat) (h0 : 0 ≤ s) (h1 : s < 64) (hi : i < 6) : 0 ≤ orBit s i ∧ orBit s i < 64 := by
  obtain ⟨n, rfl⟩ := Int.eq_ofNat_of_zero_le h0
  exact or_fin ⟨n, by omega⟩ ⟨i, hi⟩
def orA (s : A6) (i : Nat) : A6 := if h : 0 ≤ orBit s.1 i ∧ orBit s.1 i < 64 then ⟨orBit s.1 i, h⟩ else s
theorem orA_val (s : A6) (i : Nat) (hi : i < 6) : (orA s i).1 = orBit s.1 i := by
  unfold orA
  rw [dif_pos (or_bound s.1 i s.2.1 s.2.2 hi)]
def combA (of : Nat) : Nat → Nat → A6 → List A6
  | 0, _, s => [s]
  | l + 1, f, s => (List.range' f (of - f)).flatMap fun i => combA of l (i + 1) (orA s i)
def combTo (of l f : Nat) (s : A6) (i : Nat) : List A6 := (List.range' f (i - f)).flatMap fun i => combA of l (i + 1) (orA s i)
theorem combTo_succ (of l f : Nat) (s : A6) (i : Nat) (h : f ≤ i) : combTo of l f s (i + 1) = combTo of l f s i ++ combA of l (i + 1) (orA s i) := by
  unfold combTo
  rw [show i + 1 - f = (i - f) + 1 by omega, List.range'_1_concat, List.flatMap_append, List.flatMap_singleton, show f + (i - f) = i by omega]
theorem combTo_len (of l f : Nat) (s : A6) : ∀ d i, f ≤ i → i + d = of → (combTo of l f s i).length ≤ (combA of (l + 1) f s).length
  | 0, i, _, h => by
    have : i = of := by omega
    subst this
    exact Nat.le_refl _
  | d + 1, i, hf, h => by
    have h1 := combTo_len of l f s d (i + 1) (by omega) (by omega)
    rw [combTo_succ of l f s i hf, List.length_append] at h1
    omega

theorem yieldAt_wide {m m' : Nat} {P : Program} {l : Nat} {args : Array Value} {W : World} {R : Ending → World → Prop} (h : YieldAt Fence.wide m P l args W R) : YieldAt Fence.wide m' P l args W R := by
  obtain ⟨fn, t, a, b, h1, h2, h3⟩ := h
  exact ⟨fn, t, a, b, h1, h2, fun c cs _ => h3 c cs (room_wide _)⟩

structure AddSt (W : World) (Y OF AD l of : Nat) : Prop where
  y : W.heap[Y]? = some (.cells #[.func (.yield l) #[] #[]] 107 (0, 0))
  o : W.heap[OF]? = some (.cells #[.int .i64 of] 3 (0, 0))
  a : W.heap[AD]? = some (.cells #[.func (.func 52) #[] #[.pointer (some ⟨Y, 0, none⟩), .pointer (some ⟨OF, 0, none⟩), .pointer (some ⟨AD, 0, none⟩)]] 108 (0, 0))
theorem AddSt.later {W W' : World} {Y OF AD l of : Nat} (h : AddSt W Y OF AD l of) (hb : Below W.heap.size W W') : AddSt W' Y OF AD l of :=
  ⟨(hb.block _ (Array.getElem?_eq_some_iff.1 h.y).1).trans h.y, (hb.block _ (Array.getElem?_eq_some_iff.1 h.o).1).trans h.o, (hb.block _ (Array.getElem?_eq_some_iff.1 h.a).1).trans h.a⟩
def AddPost (J Jx : List A6 → World → Prop) (pre comb : List A6) (W : World) (e : Ending) (W' : World) : Prop :=
  (e = .returned (.bool true) ∧ J (pre ++ comb) W' ∧ Below W.heap.size W W') ∨ (e = .returned (.bool false) ∧ ∃ p1 p2, comb = p1 ++ p2 ∧ Jx (pre ++ p1) W')
theorem addPost_ex {J Jx : List A6 → World → Prop} {pre comb : List A6} {W : World} {e : Ending} {W' : World} (h : AddPost J Jx pre comb W e W') :
    ∃ b, e = .returned (.bool b) ∧ (b = true → J (pre ++ comb) W' ∧ Below W.heap.size W W') ∧ (b = false → ∃ p1 p2, comb = p1 ++ p2 ∧ Jx (pre ++ p1) W') := by
  rcases h with ⟨rfl, h1, h2⟩ | ⟨rfl, h1⟩
  · exact ⟨true, rfl, (fun _ => ⟨h1, h2⟩), (fun h => by cases h)⟩
  · exact ⟨false, rfl, (fun h => by cases h), (fun _ => h1)⟩
def Yields (l Nn : Nat) (J Jx : List A6 → World → Prop) : Prop := ∀ (pre : List A6) (x : A6) (W1 : World), J pre W1 → pre.length < Nn → YieldAt Fence.wide 5 Tryd.prog l #[.int .u64 x.1] W1 fun e W' =>
  (e = .returned (.bool true) ∧ J (pre ++ [x]) W' ∧ Below W1.heap.size W1 W') ∨ (e = .returned (.bool false) ∧ Jx (pre ++ [x]) W')

set_option maxRecDepth 100000 in
set_option maxHeartbeats 1000000 in
theorem add0_in (l Y OF AD of Nn : Nat) (J Jx : List A6 → World → Prop) (hY : Yields l Nn J Jx) (pre : List A6) (f : Nat) (s : A6) (W : World) (hJ : J pre W) (hA : AddSt W Y OF AD l of) (hlen : pre.length + 1 ≤ Nn) :
    CallsIn Fence.wide 6 Tryd.prog 52 #[.int .u64 s.1, .int .i64 f, .int .i64 0, .pointer (some ⟨Y, 0, none⟩), .pointer (some ⟨OF, 0, none⟩), .pointer (some ⟨AD, 0, none⟩)] W (AddPost J Jx pre [s] W) := by
  have hcY : W.cell? ⟨Y, 0, none⟩ = some (.func (.yield l) #[] #[]) := by rw [cell_of_row _ _ 0 _ _ _ hA.y]; rfl
  obtain ⟨fn, tmps, assign, body, hy, hR⟩ := hY pre s W hJ (by omega)
  have HR := Lib.hid hR
  clear hR hA hY hJ
  refine callsIn_of_wp Tryd.func52 rfl trivial ?_ rfl
  simp only [Tryd.ntmps52, List.size_toArray, List.length_cons, List.length_nil, Nat.reduceAdd, Nat.reduceSub, Array.replicate_succ, Array.replicate_zero, List.push_toArray, List.append_toArray, List.nil_append, List.cons_append]
  gi_wp2
  refine HR.out.mono ?_
  rintro e W3 (⟨rfl, hJ3, hB3⟩ | ⟨rfl, hx3⟩)
  · gi_wp2
    refine bodyPost_ret (results_tmp rfl _ _ _) rfl ?_
    exact .inl ⟨rfl, hJ3, hB3⟩
  · gi_wp2
    refine bodyPost_ret (results_tmp rfl _ _ _) rfl ?_
    exact .inr ⟨rfl, [s], [], rfl, hx3⟩

set_option maxRecDepth 100000 in
set_option maxHeartbeats 1000000 in
theorem addS_any (l Y OF AD of Nn d : Nat) (J Jx : List A6 → World → Prop) (hof : of ≤ 6) (hJb : ∀ s A B, J s A → Below A.heap.size A B → J s B) (hd : d < 6)
    (ih : ∀ (pre : List A6) (f : Nat) (s : A6) (W : World), f ≤ of → J pre W → AddSt W Y OF AD l of → pre.length + (combA of d f s).length ≤ Nn →
      Calls Tryd.prog 52 #[.int .u64 s.1, .int .i64 f, .int .i64 d, .pointer (some ⟨Y, 0, none⟩), .pointer (some ⟨OF, 0, none⟩), .pointer (some ⟨AD, 0, none⟩)] W (AddPost J Jx pre (combA of d f s) W))
    (pre : List A6) (f : Nat) (s : A6) (W : World) (hf : f ≤ of) (hJ : J pre W) (hA : AddSt W Y OF AD l of) (hlen : pre.length + (combA of (d + 1) f s).length ≤ Nn) :
    Calls Tryd.prog 52 #[.int .u64 s.1, .int .i64 f, .int .i64 ((d + 1 : Nat) : Int), .pointer (some ⟨Y, 0, none⟩), .pointer (some ⟨OF, 0, none⟩), .pointer (some ⟨AD, 0, none⟩)] W (AddPost J Jx pre (combA of (d + 1) f s) W) := by
  have hd0 : (((d + 1 : Nat) : Int) == 0) = false := by
    rw [show (0 : Int) = ((0 : Nat) : Int) from rfl, nat_int_beq]; rfl
  have HIH := Lib.hid ih
  have HJ := Lib.hid hJ
  have HA := Lib.hid hA
  have HL := Lib.hid hlen
  have HJB := Lib.hid hJb
  obtain ⟨dd, hdd⟩ : ∃ dd, dd = d + 1 := ⟨_, rfl⟩
  have hdi : (dd : Int) ≤ 6 := by omega
  have hdi1 : (1 : Int) ≤ dd := by omega
  rw [← hdd] at hd0 ⊢
  have HDD := Lib.hid hdd
  clear ih hJ hA hlen hJb hdd
  go_enter Tryd.func52, Tryd.ntmps52
  go_wp2
  go_loopw [10] (fun v wr => ∃ i : Nat, v = .int .i64 i ∧ f ≤ i ∧ i ≤ of ∧ J (pre ++ combTo of d f s i) wr ∧ Below W.heap.size W wr) (fun v _ => of - (intOf v).toNat)
  case atStart => exact ⟨f, rfl, Nat.le_refl _, hf, by unfold combTo; rw [Nat.sub_self]; simpa using HJ.out, Below.refl _ _⟩
  case round =>
    obtain ⟨i, rfl, hfi, hio, hJ, hB⟩ := hrel
    have hAr := HA.out.later hB
    have hcO : wr.cell? ⟨OF, 0, none⟩ = some (.int .i64 of) := by rw [cell_of_row _ _ 0 _ _ _ hAr.o]; rfl
    have hi6 : (i : Int) ≤ 6 := by omega
    by_cases hlt : i < of
    · have hio2 : (i : Int) < of := by omega
      have hi0 : (0 : Int) ≤ i := by omega
      have HJr := Lib.hid (HJB.out _ _ _ hJ ((Below.refl _ wr).drew))
      have HB := Lib.hid (hB.drew)
      have HAd := Lib.hid (hAr.later ((Below.refl _ wr).drew))
      have hcA : wr.drew.cell? ⟨AD, 0, none⟩ = some (.func (.func 52) #[] #[.pointer (some ⟨Y, 0, none⟩), .pointer (some ⟨OF, 0, none⟩), .pointer (some ⟨AD, 0, none⟩)]) := by rw [cell_of_row _ _ 0 _ _ _ HAd.out.a]; rfl
      have hsum := combTo_len of d f s (of - (i + 1)) (i + 1) (by omega) (by omega)
      have hsucc := combTo_succ of d f s i hfi
      rw [hsucc, List.length_append] at hsum
      have hroom : (pre ++ combTo of d f s i).length + (combA of d (i + 1) (orA s i)).length ≤ Nn := by rw [List.length_append]; have := HL.out; omega
      have hcall := HIH.out (pre ++ combTo of d f s i) (i + 1) (orA s i) wr.drew (by omega) HJr.out HAd.out hroom
      rw [orA_val s i (by omega), show ((i + 1 : Nat) : Int) = (i : Int) + 1 by omega] at hcall
      unfold orBit at hcall
      have HC := Lib.hid (hcall.mono fun e w' h => addPost_ex h)
      have HSU := Lib.hid hsucc
      have hcd : (dd : Int) - 1 = (d : Int) := by have := HDD.out; omega
      have hi16 : (i : Int) < 16 := by omega
      have hsplit : combA of dd f s = combTo of d f s (i + 1) ++ (List.range' (i + 1) (of - (i + 1))).flatMap fun i => combA of d (i + 1) (orA s i) := by
        rw [HDD.out]
        show (List.range' f (of - f)).flatMap _ = _
        unfold combTo
        rw [← List.flatMap_append, show of - f = (i + 1 - f) + (of - (i + 1)) by omega, ← List.range'_append_1, show f + (i + 1 - f) = i + 1 by omega]
      have HSP := Lib.hid hsplit
      clear hAr hJ hB hsum hsucc hroom hcall hsplit
      go_wp2
      have hw64 := w64_succ i (by omega)
      have hwi : IntKind.i64.wrap ((i : Int) + 1) = (i : Int) + 1 := by rw [IntKind.wrap_i64]; omega
      have hwd : wrap64 ((dd : Int) - 1) = (d : Int) := by rw [hcd]; exact w64_in _ (by omega) (by omega)
      have hwdi : IntKind.i64.wrap ((dd : Int) - 1) = (d : Int) := by rw [IntKind.wrap_i64]; omega
      clear hcd
      refine start_ (n := 11) (S := fun w' => w'.cell? ⟨AD, 0, none⟩ = some (.func (.func 52) #[] #[.pointer (some ⟨Y, 0, none⟩), .pointer (some ⟨OF, 0, none⟩), .pointer (some ⟨AD, 0, none⟩)])) (ds := [9]) #[false, false, false, false, false, false, false, false, false, false, false] (by kernel_rfl) rfl rfl (hcA) (fun hHeld => ?_)
      refine pure_ (i := 1) (N := some 23) (v := ?_) (a' := ?_) #[false, true, false, false, false, false, false, false, false, false, false] rfl rfl (by kernel_rfl) (fun _ _ _ h => h) (Or.inl ⟨by rfl, ?_⟩) ?_ ?_
      rotate_left
      · intro w'
        go_simp
        with_reducible rfl
      rotate_left
      · simp only [Act.put, List.setIfInBounds_toArray, List.set_cons_zero, List.set_cons_succ, i64_w, i32_w]
        rfl
      refine pure_ (i := 2) (N := some 24) (v := ?_) (a' := ?_) #[false, true, true, false, false, false, false, false, false, false, false] rfl rfl (by kernel_rfl) (fun _ _ _ h => h) (Or.inl ⟨by rfl, ?_⟩) ?_ ?_
      rotate_left
      · intro w'
        go_simp
        with_reducible rfl
      rotate_left
      · simp only [Act.put, List.setIfInBounds_toArray, List.set_cons_zero, List.set_cons_succ, i64_w, i32_w]
        rfl
      refine pure_ (i := 3) (N := some 25) (v := ?_) (a' := ?_) #[false, true, true, true, false, false, false, false, false, false, false] rfl rfl (by kernel_rfl) (fun _ _ _ h => h) (Or.inl ⟨by rfl, ?_⟩) ?_ ?_
      rotate_left
      · intro w'
        go_simp
        with_reducible rfl
      rotate_left
      · simp only [Act.put, List.setIfInBounds_toArray, List.set_cons_zero, List.set_cons_succ, i64_w, i32_w]
        rfl
      refine pure_ (i := 4) (N := some 26) (v := ?_) (a' := ?_) #[false, true, true, true, true, false, false, false, false, false, false] rfl rfl (by kernel_rfl) (fun _ _ _ h => h) (Or.inl ⟨by rfl, ?_⟩) ?_ ?_
      rotate_left
      · intro w'
        go_simp
        with_reducible rfl
      rotate_left
      · simp only [Act.put, List.setIfInBounds_toArray, List.set_cons_zero, List.set_cons_succ, i64_w, i32_w]
        rfl
      refine pure_ (i := 5) (N := some 27) (v := ?_) (a' := ?_) #[false, true, true, true, true, true, false, false, false, false, false] rfl rfl (by kernel_rfl) (fun _ _ _ h => h) (Or.inl ⟨by rfl, ?_⟩) ?_ ?_
      rotate_left
      · intro w'
        go_simp
        with_reducible rfl
      rotate_left
      · simp only [Act.put, List.setIfInBounds_toArray, List.set_cons_zero, List.set_cons_succ, i64_w, i32_w]
        rfl
      refine pure_ (i := 6) (N := some 28) (v := ?_) (a' := ?_) #[false, true, true, true, true, true, true, false, false, false, false] rfl rfl (by kernel_rfl) (fun _ _ _ h => h) (Or.inl ⟨by rfl, ?_⟩) ?_ ?_
      rotate_left
      · intro w'
        go_simp
        with_reducible rfl
      rotate_left
      · simp only [Act.put, List.setIfInBounds_toArray, List.set_cons_zero, List.set_cons_succ, i64_w, i32_w]
        rfl
      refine pure_ (i := 7) (N := some 29) (v := ?_) (a' := ?_) #[false, true, true, true, true, true, true, true, false, false, false] rfl rfl (by kernel_rfl) (fun _ _ _ h => h) (Or.inl ⟨by rfl, ?_⟩) ?_ ?_
      rotate_left
      · intro w'
        go_simp
        with_reducible rfl
      rotate_left
      · simp only [Act.put, List.setIfInBounds_toArray, List.set_cons_zero, List.set_cons_succ, i64_w, i32_w]
        rfl
      refine pure_ (i := 8) (N := some 30) (v := ?_) (a' := ?_) #[false, true, true, true, true, true, true, true, true, false, false] rfl rfl (by kernel_rfl) (fun _ _ _ h => h) (Or.inl ⟨by rfl, ?_⟩) ?_ ?_
      rotate_left
      · intro w'
        go_simp
        with_reducible rfl
      rotate_left
      · simp only [Act.put, List.setIfInBounds_toArray, List.set_cons_zero, List.set_cons_succ, i64_w, i32_w]
        rfl
      refine take_ (i := 0) (N := some 22) (v := ?_) (a' := ?_) #[true, true, true, true, true, true, true, true, true, false, false] rfl rfl (by kernel_rfl) (fun _ _ _ h => h) (Or.inl ⟨by rfl, ?_⟩) hHeld ?_ ?_
      rotate_left
      · intro w' s0
        go_simp
        with_reducible rfl
      rotate_left
      · simp only [Act.put, List.setIfInBounds_toArray, List.set_cons_zero, List.set_cons_succ, i64_w, i32_w]
        rfl
      refine last_ (i := 9) (N := some 31) #[true, true, true, true, true, true, true, true, true, true, false] rfl rfl (by kernel_rfl) (by decide) (fun K hK => ?_)
      refine goesV_ Tryd.func52 (by kernel_rfl) rfl #[.int .u64 (bits .or .u64 s.1 (IntKind.u64.wrap (2 ^ i))), .int .i64 ((i : Int) + 1), .int .i64 d, .pointer (some ⟨Y, 0, none⟩), .pointer (some ⟨OF, 0, none⟩), .pointer (some ⟨AD, 0, none⟩)] (by rfl) rfl rfl rfl (by simp only [List.map_toArray, List.map_cons, List.map_nil]; rfl) ?_
      with_reducible refine (HC.out).mono ?_
      rintro e w3 ⟨b3, rfl, ht3, hf3⟩
      refine ⟨_, rfl, ?_⟩
      have HT3 := Lib.hid ht3
      have HF3 := Lib.hid hf3
      clear ht3 hf3
      refine hK.out _ _ ?_
      clear hK K
      refine norm_ (a' := ?_) ?_ ?_
      rotate_left
      · show Act.put _ (some 31) _ = _
        simp only [Act.put, List.setIfInBounds_toArray, List.set_cons_zero, List.set_cons_succ, i64_w, i32_w]
        rfl
      refine pure_ (i := 10) (N := some 32) (v := ?_) (a' := ?_) #[true, true, true, true, true, true, true, true, true, true, true] rfl rfl (by kernel_rfl) (fun _ _ _ h => h) (Or.inl ⟨by rfl, ?_⟩) ?_ ?_
      rotate_left
      · intro w'
        go_simp
        with_reducible rfl
      rotate_left
      · simp only [Act.put, List.setIfInBounds_toArray, List.set_cons_zero, List.set_cons_succ, i64_w, i32_w]
        rfl
      refine done_ (by kernel_rfl) ?_
      clear hw64 hwi hwd hwdi hcO hcA hHeld
      cases b3 with
      | true =>
        obtain ⟨hJ3, hB3⟩ := HT3.out rfl
        rw [List.append_assoc, ← HSU.out] at hJ3
        have HJ3 := Lib.hid hJ3
        have HB3 := Lib.hid (HB.out.trans (hB3.mono HB.out.size))
        clear hJ3 hB3 HT3 HF3
        go_wp2
        go_roundw
        case rel => exact ⟨i + 1, by go_num, by omega, by omega, HJ3.out, HB3.out⟩
        case measure => simp [intOf]; omega
      | false =>
        obtain ⟨p1, p2, hp, hx⟩ := HF3.out rfl
        have HP := Lib.hid hp
        have HX := Lib.hid hx
        clear hp hx HT3 HF3
        go_wp2
        go_ret
        refine .inr ⟨rfl, combTo of d f s i ++ p1, p2 ++ (List.range' (i + 1) (of - (i + 1))).flatMap fun i => combA of d (i + 1) (orA s i), ?_, ?_⟩
        · rw [HSP.out, HSU.out, HP.out]
          simp only [List.append_assoc]
        · rw [← List.append_assoc]; exact HX.out
    · obtain rfl : of = i := by omega
      have hcA : combA of dd f s = combTo of d f s of := by rw [HDD.out]; rfl
      have HCA := Lib.hid hcA
      have HJr := Lib.hid hJ
      have HB := Lib.hid hB
      clear hJ hB hAr hcA
      go_wp2
      go_ret
      exact .inl ⟨rfl, by rw [HCA.out]; exact HJr.out, HB.out⟩

theorem add_any (l Y OF AD of Nn : Nat) (J Jx : List A6 → World → Prop) (hof : of ≤ 6) (hJb : ∀ s A B, J s A → Below A.heap.size A B → J s B) (hY : Yields l Nn J Jx) : ∀ (d : Nat), d ≤ 6 → ∀ (pre : List A6) (f : Nat) (s : A6) (W : World), f ≤ of → J pre W → AddSt W Y OF AD l of → pre.length + (combA of d f s).length ≤ Nn →
    Calls Tryd.prog 52 #[.int .u64 s.1, .int .i64 f, .int .i64 d, .pointer (some ⟨Y, 0, none⟩), .pointer (some ⟨OF, 0, none⟩), .pointer (some ⟨AD, 0, none⟩)] W (AddPost J Jx pre (combA of d f s) W)
  | 0, _, pre, f, s, W, hf, hJ, hA, hlen => callsIn_wide.1 (add0_in l Y OF AD of Nn J Jx hY pre f s W hJ hA hlen)
  | d + 1, hd, pre, f, s, W, hf, hJ, hA, hlen => addS_any l Y OF AD of Nn d J Jx hof hJb (by omega) (add_any l Y OF AD of Nn J Jx hof hJb hY d (by omega)) pre f s W hf hJ hA hlen
end Go.Proofs.YtepofpnbgbmihaaDoor

/-
  dyeing.chosen and its iterator.
-/
namespace Go.Proofs.YtepofpnbgbmihaaDoor
open Go.RowKit Go.Shelf Go.Proofs.YtepofpnbgbmihaaDoorW.PrintLast
set_option linter.unusedSimpArgs false
set_option linter.unusedVariables false

def zeroA : A6 := ⟨0, by omega, by omega⟩
def combL (of many : Nat) : List A6 := combA of many 0 zeroA

set_option maxHeartbeats 400000 in
theorem chosen_any (many of : Nat) (w : World) : Calls Tryd.prog 29 #[.int .i64 many, .int .i64 of] w fun e w' =>
    e = .returned (.func (.func 51) #[] #[.pointer (some ⟨w.heap.size + 1, 0, none⟩), .pointer (some ⟨w.heap.size, 0, none⟩)]) ∧ w' = (w.alloc (.cells #[.int .i64 many] 3)).alloc (.cells #[.int .i64 of] 3) := by
  go_enter Tryd.func29, Tryd.ntmps29
  go_wp2
  go_ret
  exact ⟨rfl, rfl⟩

theorem AddSt.new {W W3 : World} {OF l of : Nat} (hO : W.heap[OF]? = some (.cells #[.int .i64 of] 3 (0, 0)))
    (hW : W3 = (W.alloc (.cells #[.func (.yield l) #[] #[]] 107)).alloc (.cells #[.func (.func 52) #[] #[.pointer (some ⟨W.heap.size, 0, none⟩), .pointer (some ⟨OF, 0, none⟩), .pointer (some ⟨W.heap.size + 1, 0, none⟩)]] 108)) :
    AddSt W3 W.heap.size OF (W.heap.size + 1) l of ∧ Below W.heap.size W W3 := by
  have hb : Below W.heap.size W W3 := by rw [hW]; exact ((Below.refl _ _).alloc (Nat.le_refl _) _).alloc (by simp) _
  exact ⟨⟨by rw [hW]; exact heap_alloc2_old W _ _, (hb.block _ (Array.getElem?_eq_some_iff.1 hO).1).trans hO, by rw [hW]; exact heap_alloc2_new W _ _⟩, hb⟩

set_option maxRecDepth 100000 in
set_option maxHeartbeats 1000000 in
theorem chosen1_any (l OF M of many Nn : Nat) (J Jx : List A6 → World → Prop) (hof : of ≤ 6) (hm : many ≤ 6) (hJb : ∀ s A B, J s A → Below A.heap.size A B → J s B) (hY : Yields l Nn J Jx) (W : World) (hJ : J [] W)
    (hO : W.heap[OF]? = some (.cells #[.int .i64 of] 3 (0, 0))) (hM : W.heap[M]? = some (.cells #[.int .i64 many] 3 (0, 0))) (hlen : (combL of many).length ≤ Nn) (hJxb : ∀ s A B, Jx s A → Below A.heap.size A B → Jx s B) :
    Calls Tryd.prog 51 #[.func (.yield l) #[] #[], .pointer (some ⟨OF, 0, none⟩), .pointer (some ⟨M, 0, none⟩)] W fun e W' => (∃ v, e = .returned v) ∧ ((∃ xs, xs = combL of many ∧ J xs W') ∨ (∃ pre, (∃ r, combL of many = pre ++ r) ∧ Jx pre W')) := by
  have hsf := fun (a : Addr) (c : Array Value) (w : World) => run_store Tryd.prog w a (.func (.func 52) #[] c) .plain rfl
  have hcM : W.cell? ⟨M, 0, none⟩ = some (.int .i64 many) := by rw [cell_of_row _ _ 0 _ _ _ hM]; rfl
  have hMl := (Array.getElem?_eq_some_iff.1 hM).1
  have hdeep : ∀ (o1 o2 : Obj), ((W.alloc o1).alloc o2).cell? ⟨M, 0, none⟩ = some (.int .i64 many) := fun o1 o2 => by
    rw [World.cell?_alloc_lt _ _ ⟨M, 0, none⟩ (by simp; omega), World.cell?_alloc_lt _ _ ⟨M, 0, none⟩ hMl]
    exact hcM
  have HJ := Lib.hid hJ
  have HJB := Lib.hid hJb
  have HO := Lib.hid hO
  have HL := Lib.hid hlen
  have HY := Lib.hid hY
  clear hJ hJb hO hlen hY hM hcM
  go_enter Tryd.func51, Tryd.ntmps51
  go_wp2_with fail
  obtain ⟨W3, hW3⟩ : ∃ W3, W3 = (W.alloc (.cells #[.func (.yield l) #[] #[]] 107)).alloc (.cells #[.func (.func 52) #[] #[.pointer (some ⟨W.heap.size, 0, none⟩), .pointer (some ⟨OF, 0, none⟩), .pointer (some ⟨W.heap.size + 1, 0, none⟩)]] 108) := ⟨_, rfl⟩
  rw [← hW3]
  obtain ⟨hA3, hB3⟩ := AddSt.new HO.out hW3
  have hcall := add_any l W.heap.size OF (W.heap.size + 1) of Nn J Jx hof HJB.out HY.out many hm [] 0 zeroA W3 (Nat.zero_le _) (HJB.out _ _ _ HJ.out hB3) hA3 (by have h := HL.out; unfold combL at h; simpa using h)
  have hcall2 : Calls Tryd.prog 52 #[.int .u64 0, .int .i64 0, .int .i64 many, .pointer (some ⟨W.heap.size, 0, none⟩), .pointer (some ⟨OF, 0, none⟩), .pointer (some ⟨W.heap.size + 1, 0, none⟩)] W3 (AddPost J Jx [] (combL of many) W3) := hcall
  refine hcall2.mono ?_
  rintro e W4 hp
  obtain ⟨b, rfl, ht, hf⟩ := addPost_ex hp
  have HT := Lib.hid ht
  have HF := Lib.hid hf
  clear hp ht hf hcall hcall2 hA3 hB3 hW3 hsf hdeep
  go_wp2
  go_end0
  refine ⟨⟨_, rfl⟩, ?_⟩
  cases b with
  | true => exact .inl ⟨_, rfl, by simpa using (HT.out rfl).1⟩
  | false =>
    obtain ⟨p1, p2, h1, h2⟩ := HF.out rfl
    exact .inr ⟨p1, ⟨p2, h1⟩, by simpa using h2⟩
end Go.Proofs.YtepofpnbgbmihaaDoor

/-
  math/bits.TrailingZeros at this program, over its table.
-/
namespace Go.Proofs.YtepofpnbgbmihaaDoor
open Go.RowKit Go.Shelf Go.Proofs.YtepofpnbgbmihaaDoorW.PrintLast
set_option linter.unusedSimpArgs false
set_option linter.unusedVariables false

/-- The table lies in its variable. -/
def Tab (w : World) : Prop := TabAt 1 Lib.deBruijn64tab w
theorem Tab.lt {w : World} (h : Tab w) : 1 < w.heap.size := World.block_lt_of_cell? _ _ (h 0 (by decide))
theorem Tab.kp {w w' : World} (h : Tab w) {B : Nat} (hB : 1 < B) (hb : Below B w w') : Tab w' := fun j hj => (hb.cell (p := ⟨1, j, none⟩) hB).trans (h j hj)
theorem Tab.later {w w' : World} (h : Tab w) (hb : Below w.heap.size w w') : Tab w' := h.kp h.lt hb

set_option maxHeartbeats 1000000 in
theorem tz64_core (x k idx : Nat) (w : World) (hx0 : ((x : Int) == 0) = false)
    (key : IntKind.u64.wrap (bits BinOp.and IntKind.u64 (x : Int) (IntKind.u64.wrap (-(x : Int))) * 285870213051353865) / 288230376151711744 = (idx : Int))
    (hi : idx < 64) (hk : k < 64) (hcell : w.cell? ⟨1, idx, none⟩ = some (.int .u8 k)) :
    Calls Tryd.prog 54 #[.int .u64 x] w fun e w' => e = .returned (.int .i64 k) ∧ w' = w := by
  go_enter Tryd.func54, Tryd.ntmps54
  go_wp2_with (simp only [key])
  go_ret
  exact ⟨rfl, rfl⟩
theorem tzU_any (x : Nat) (hx : x < 18446744073709551616) (hx0 : x ≠ 0) (w : World) (hT : Tab w) : Calls Tryd.prog 54 #[.int .u64 x] w fun e w' => e = .returned (.int .i64 (Lib.ctz 64 x)) ∧ w' = w := by
  obtain ⟨hlow, hk⟩ := Lib.lowest_bit 64 x hx0 hx
  obtain ⟨hi, htab⟩ := Lib.deBruijn64_at _ hk
  have hcell := hT _ hi
  rw [htab] at hcell
  exact tz64_core x _ _ w (by simp; omega) (tz64_key x _ hx hx0 hlow) hi hk hcell
set_option maxHeartbeats 1000000 in
theorem tzB_any (x : Nat) (hx : x < 18446744073709551616) (hx0 : x ≠ 0) (w : World) (hT : Tab w) : Calls Tryd.prog 31 #[.int .u64 x] w fun e w' => e = .returned (.int .i64 (Lib.ctz 64 x)) ∧ w' = w := by
  have c64 := tzU_any x hx hx0 w hT
  have HC := Lib.hid c64
  clear c64 hT
  go_enter Tryd.func31, Tryd.ntmps31
  go_wp2_with (go_at_call 54; refine HC.out.mono ?_; rintro e w' ⟨rfl, hw'⟩; rw [hw'])
  go_ret
  exact ⟨rfl, rfl⟩
end Go.Proofs.YtepofpnbgbmihaaDoor

/-
  Rows of elements that a call owns, and rows that are read: small laws over any program.
-/
import Derived.WalkKit
import Derived.WalkLawsBesides
import Derived.WalkSpells
import Derived.Lib.Hide
import Derived.Maps.AppendAt
import Derived.Deep.Slices
import Derived.Carry
import Derived.OpenShut
import Derived.RowKitTokens
import Derived.RangeFuncOwn
import Derived.RangeFuncNested
import Derived.RangeFuncBound
import Derived.RangeFuncCalls
import Derived.RangeFuncLeaves
import Derived.Shelf.Abstract
import Derived.OwnWalkIn
import Derived.TacticsInMore
import Derived.LoopNIn
import Derived.LoopIn
import Derived.Lib.Bytealg
import Derived.Below
import Derived.Test.YtepofpnbgbmihaaDoorProg
import Derived.Test.YtepofpnbgbmihaaDoorShelf
import Derived.Test.YtepofpnbgbmihaaDoorWLast
import Derived.Deep.QuietTactic
import Derived.BigQuiet

/-
  Rows of elements that a call owns, and rows that are read: small laws over any program.
-/
namespace Go.Proofs.YtepofpnbgbmihaaDoor
open Go Go.RowKit

/-- v is a slice of the call's own (blocks from base on) that holds xs, each element in the cells that enc tells. -/
def OwnL {α : Type} (e : TypeId) (sz : Nat) (enc : α → List Value) (w : World) (base : Nat) (v : Value) (xs : List α) : Prop :=
  w.ownsRow base e sz v xs.length (xs.flatMap enc)

theorem w64_succ (q : Nat) (h : q < 1000000) : wrap64 ((q : Int) + 1) = (q : Int) + 1 := by unfold wrap64; omega
theorem z_succ (q : Nat) : (0 : Int) ≤ (q : Int) + 1 := by omega
theorem n_succ (q : Nat) : ((q : Int) + 1).toNat = q + 1 := by omega
theorem w64_in (n : Int) (h0 : -1000000000 ≤ n) (h1 : n ≤ 1000000000) : wrap64 n = n := by unfold wrap64; omega
theorem grown_of_belowN {w w1 : World} (h : Below w.heap.size w w1) (row : Option Nat) : w.grownBy w1 row := ⟨h.os, h.tape, h.output, h.size, fun i hi _ => h.block i hi⟩
theorem below_then {B : Nat} {w w1 w2 : World} (h : Below B w w1) (hB : B ≤ w1.heap.size) (k : Below w1.heap.size w1 w2) : Below B w w2 :=
  h.trans ⟨k.os, k.tape, k.output, k.size, fun i hi => k.block i (Nat.lt_of_lt_of_le hi hB)⟩
theorem below_drewN {B : Nat} {a w : World} (h : Below B a w) (n : Nat) : Below B a (w.drewN n) := ⟨h.os, h.tape, h.output, h.size, h.block⟩
theorem below_ofDrewN (w : World) (n : Nat) : Below w.heap.size w (w.drewN n) := below_drewN (Below.refl _ _) n

section
variable {α : Type} {e : TypeId} {sz : Nat} {enc : α → List Value} {w w' : World} {base : Nat} {v : Value} {xs : List α}
theorem OwnL.nil : OwnL e sz enc w base (.slice none 0 0) ([] : List α) := World.ownsRow_nil w base e sz
theorem OwnL.kept {row : Option Nat} (h : OwnL e sz enc w base v xs) (hg : w.grownBy w' row) (hne : v.ownBlock = none ∨ v.ownBlock ≠ row) : OwnL e sz enc w' base v xs := World.ownsRow.kept h hg hne
theorem OwnL.later (h : OwnL e sz enc w base v xs) (hb : Below w.heap.size w w') : OwnL e sz enc w' base v xs :=
  h.kept (grown_of_belowN hb none) (by cases v.ownBlock <;> simp)
theorem OwnL.alloc (h : OwnL e sz enc w base v xs) (o : Obj) : OwnL e sz enc (w.alloc o) base v xs := World.ownsRow.alloc h o
theorem OwnL.drewN (h : OwnL e sz enc w base v xs) (n : Nat) : OwnL e sz enc (w.drewN n) base v xs := h.later (below_ofDrewN w n)
theorem OwnL.drew (h : OwnL e sz enc w base v xs) : OwnL e sz enc w.drew base v xs := World.ownsRow.drew h
theorem OwnL.lt (h : OwnL e sz enc w base v xs) : ∀ k, v.ownBlock = some k → base ≤ k ∧ k < w.heap.size := World.ownsRow.lt h
theorem OwnL.lower {b : Nat} (h : OwnL e sz enc w base v xs) (hb : b ≤ base) : OwnL e sz enc w b v xs := by
  refine ⟨h.1, ?_⟩
  rcases h.2 with h2 | ⟨g, cap, cur, h1, h2, h3⟩
  · exact .inl h2
  · exact .inr ⟨g, cap, cur, h1, Nat.le_trans hb h2, h3⟩
/-- The world behind a step that turned the row's own block alone is still 'Below'. -/
theorem below_own {B : Nat} {w0 : World} (hB : Below B w0 w) (h : OwnL e sz enc w base v xs) (hle : B ≤ base) (hw : B ≤ w.heap.size) (hg : w.grownBy w' v.ownBlock) : Below B w0 w' :=
  hB.grown hg hw (fun k hk => Nat.le_trans hle (h.lt k hk).1)
theorem OwnL.slice (h : OwnL e sz enc w base v xs) : ∃ a c, v = .slice a xs.length c ∧ xs.length ≤ c := by
  rcases h.2 with ⟨rfl, h0⟩ | ⟨g, cap, cur, rfl, _, _, hc, _⟩
  · exact ⟨none, 0, by rw [h0], by omega⟩
  · exact ⟨_, _, rfl, hc⟩
theorem OwnL.some_ (h : OwnL e sz enc w base v xs) (hv : v ≠ .slice none 0 0) : ∃ g c, v = .slice (some ⟨g, 0, none⟩) xs.length c := by
  rcases h.2 with ⟨h1, _⟩ | ⟨g, cap, cur, h1, _⟩
  · exact absurd h1 hv
  · exact ⟨g, cap, h1⟩
theorem flatMap_get (hl : ∀ y, (enc y).length = sz) (i : Nat) (x : α) (hx : xs[i]? = some x) (j : Nat) (u : Value) (hu : (enc x)[j]? = some u) : (xs.flatMap enc)[i * sz + j]? = some u := by
  induction xs generalizing i with
  | nil => simp at hx
  | cons y ys ih =>
    rw [List.flatMap_cons]
    cases i with
    | zero =>
      simp only [List.getElem?_cons_zero, Option.some.injEq] at hx
      subst hx
      have hj : j < (enc y).length := (List.getElem?_eq_some_iff.1 hu).1
      rw [Nat.zero_mul, Nat.zero_add, List.getElem?_append_left hj]
      exact hu
    | succ i =>
      simp only [List.getElem?_cons_succ] at hx
      rw [List.getElem?_append_right (by rw [hl, Nat.succ_mul]; omega), hl, show (i + 1) * sz + j - sz = i * sz + j from by rw [Nat.succ_mul]; omega]
      exact ih i hx
theorem OwnL.cell (h : OwnL e sz enc w base v xs) (hl : ∀ y, (enc y).length = sz) (i : Nat) (x : α) (hx : xs[i]? = some x) :
    ∃ g c, v = .slice (some ⟨g, 0, none⟩) xs.length c ∧ base ≤ g ∧ ∀ j u, (enc x)[j]? = some u → w.cell? ⟨g, i * sz + j, none⟩ = some u := by
  rcases h.2 with ⟨rfl, h0⟩ | ⟨g, cap, cur, hv, hb, hg, _⟩
  · have := (List.getElem?_eq_some_iff.1 hx).1
    omega
  · refine ⟨g, cap, hv, hb, fun j u hu => ?_⟩
    have hc := World.ownsRow.cells h (g := g) (by rw [hv]; rfl) (i * sz + j) u (flatMap_get hl i x hx j u hu)
    have hadd : (⟨g, 0, none⟩ : Addr).add (i * sz + j) = ⟨g, i * sz + j, none⟩ := by unfold Addr.add; split <;> simp_all
    rwa [hadd] at hc
end

/-- Where the row that an append leaves lies: as before, or in a new block. -/
def Hat (W : World) (v v' : Value) : Prop := v'.ownBlock = v.ownBlock ∨ ∃ b, v'.ownBlock = some b ∧ W.heap.size ≤ b

theorem run_app1 {α : Type} {P : Program} {W : World} (t ty e : TypeId) (i : TypeInfo) (z : Value) (size bytes : Nat) (ht : P.underlying t = some (.slice e)) (hi : P.info? e = some i) (hz : i.zero = some z)
    (hsize : i.size = size) (hby : i.bytes = bytes) (hzs : z.cells.size = size) (hsz : 0 < size) (enc : α → List Value) (hel : ∀ y, (enc y).length = size) (hone : ∀ y, ∀ u ∈ enc y, u.oneCell' = true)
    (base : Nat) (v : Value) (xs : List α) (hown : OwnL e size enc W base v xs) (cs : Array Value) (c : Nat) (y : α) (hcs : cs.toList = enc y)
    (hb8 : bytes ≤ 64) (hlen : xs.length < 1000000000) (hbase : base ≤ W.heap.size) :
    ∃ v' w', (Builtin.append_ #[t, t] ty #[v, .slice (some ⟨W.heap.size, 0, none⟩) 1 c]).run P (W.alloc (.cells cs e)) = .ok v' w' ∧ OwnL e size enc w' base v' (xs ++ [y]) ∧ W.grownBy w' v.ownBlock ∧ v' ≠ .slice none 0 0 ∧ Hat W v v' := by
  have hl : (enc y).length = 1 * size := by rw [hel, Nat.one_mul]
  obtain ⟨v', w', hr, h1, h2, h3, h4⟩ := run_append_own_at (P := P) (W.alloc (.cells cs e)) base t ty e i z size bytes ht hi hz hsize hby hzs hsz v xs.length (xs.flatMap enc) (World.ownsRow.alloc hown _) ⟨W.heap.size, 0, none⟩ 1 c (enc y) hl (by
      intro j u hu
      have hadd : (⟨W.heap.size, 0, none⟩ : Addr).add j = ⟨W.heap.size, j, none⟩ := by unfold Addr.add; split <;> simp_all
      rw [hadd, World.cell?_alloc_at _ _ _ _ rfl]
      rw [← hcs] at hu
      simpa using hu) (hone y) (by unfold maxLen; omega) (by
      have : (xs.length + 1) * bytes ≤ 1000000000 * 64 := Nat.mul_le_mul (by omega) hb8
      omega) (by simp; omega)
  refine ⟨v', w', hr, ?_, ?_, ?_, ?_⟩
  · unfold OwnL
    rw [List.length_append, List.flatMap_append]
    simpa using h1
  · exact ⟨h2.os, h2.tape, h2.output, Nat.le_trans (by simp) h2.size, fun k hk hne => (h2.block k (by simp; omega) hne).trans (Below.heap_alloc W _ k hk)⟩
  · intro hv
    have := (h3.1 hv).2
    omega
  · rcases h4 with h4 | h4
    · exact .inl h4
    · exact .inr ⟨_, h4, by simp⟩

/-- append of one element, which lies in a new block. -/
theorem wpList_app1 {α : Type} {P : Program} {W W2 : World} {ops : Array Oper} {rest : List Oper} {o : Oper} {a : Act} {Q : Exit → Act → World → Prop} (hgd : o.guard = none) (s x : Operand) (t : TypeId)
    (ho : o.op = .call { callee := .builtin .append, args := #[s, x], argTypes := #[t, t] })
    (e : TypeId) (i : TypeInfo) (z : Value) (size bytes : Nat) (ht : P.underlying t = some (.slice e)) (hi : P.info? e = some i) (hz : i.zero = some z)
    (hsize : i.size = size) (hby : i.bytes = bytes) (hzs : z.cells.size = size) (hsz : 0 < size) (enc : α → List Value) (hel : ∀ y, (enc y).length = size) (hone : ∀ y, ∀ u ∈ enc y, u.oneCell' = true)
    (base : Nat) (v : Value) (xs : List α) (hs : a.eval s = v) (hown : OwnL e size enc W base v xs) (cs : Array Value) (c : Nat) (y : α) (hcs : cs.toList = enc y)
    (g : Nat) (hg : g = W.heap.size) (hx : a.eval x = .slice (some ⟨g, 0, none⟩) 1 c) (hb8 : bytes ≤ 64) (hlen : xs.length < 1000000000) (hbase : base ≤ W.heap.size)
    (hW : W2 = W.alloc (.cells cs e))
    (h : ∀ v' w', OwnL e size enc w' base v' (xs ++ [y]) → W.grownBy w' v.ownBlock → v' ≠ .slice none 0 0 → Hat W v v' → wpList P ops Q rest (a.put o.dst v') w') :
    wpList P ops Q (o :: rest) a W2 := by
  subst hW
  subst hg
  refine wpList_plain hgd fun K hK => ?_
  obtain ⟨v', w', hr, h2, h3, h4, h5⟩ := run_app1 (P := P) t o.type e i z size bytes ht hi hz hsize hby hzs hsz enc hel hone base v xs hown cs c y hcs hb8 hlen hbase
  unfold Oper.wp execOp
  simp only [ho, resolve, invoke, builtin, Sem.run_bind, Sem.run_pure, Result.andThen_ok, List.map_toArray, List.map_cons, List.map_nil, hs, hx, hr]
  exact hK _ _ (h v' w' h2 h3 h4 h5)

/-- The same as one step of a region that draws its order. -/
theorem step_app1 {α : Type} {P : Program} {W W2 : World} {ops : Array Oper} {o : Oper} {a : Act} {K : Act → World → Prop} {Q : Exit → Act → World → Prop} {E : Prop} (hgd : o.guard = none) (s x : Operand) (t : TypeId)
    (ho : o.op = .call { callee := .builtin .append, args := #[s, x], argTypes := #[t, t] })
    (e : TypeId) (i : TypeInfo) (z : Value) (size bytes : Nat) (ht : P.underlying t = some (.slice e)) (hi : P.info? e = some i) (hz : i.zero = some z)
    (hsize : i.size = size) (hby : i.bytes = bytes) (hzs : z.cells.size = size) (hsz : 0 < size) (enc : α → List Value) (hel : ∀ y, (enc y).length = size) (hone : ∀ y, ∀ u ∈ enc y, u.oneCell' = true)
    (base : Nat) (v : Value) (xs : List α) (hs : a.eval s = v) (hown : OwnL e size enc W base v xs) (cs : Array Value) (c : Nat) (y : α) (hcs : cs.toList = enc y)
    (g : Nat) (hg : g = W.heap.size) (hx : a.eval x = .slice (some ⟨g, 0, none⟩) 1 c) (hb8 : bytes ≤ 64) (hlen : xs.length < 1000000000) (hbase : base ≤ W.heap.size)
    (hW : W2 = W.alloc (.cells cs e))
    (h : ∀ v' w', OwnL e size enc w' base v' (xs ++ [y]) → W.grownBy w' v.ownBlock → v' ≠ .slice none 0 0 → Hat W v v' → K (a.put o.dst v') w') :
    if Region.wanted o (yielded ops a.tmps) = true then Oper.wp P o a W2 K Q else E := by
  subst hW
  subst hg
  have hw : Region.wanted o (yielded ops a.tmps) = true := by simp [Region.wanted, hgd]
  rw [if_pos hw]
  obtain ⟨v', w', hr, h2, h3, h4, h5⟩ := run_app1 (P := P) t o.type e i z size bytes ht hi hz hsize hby hzs hsz enc hel hone base v xs hown cs c y hcs hb8 hlen hbase
  unfold Oper.wp execOp
  simp only [ho, resolve, invoke, builtin, Sem.run_bind, Sem.run_pure, Result.andThen_ok, List.map_toArray, List.map_cons, List.map_nil, hs, hx, hr]
  exact h v' w' h2 h3 h4 h5

/-- At address a lie the elements xs, each in the cells that enc tells. -/
def RdA {α : Type} (sz : Nat) (enc : α → List Value) (w : World) (a : Option Addr) (xs : List α) : Prop :=
  ∀ (i : Nat) (x : α), xs[i]? = some x → ∃ b off, a = some ⟨b, off, none⟩ ∧ b < w.heap.size ∧ ∀ (j : Nat) (u : Value), (enc x)[j]? = some u → w.cell? ⟨b, off + i * sz + j, none⟩ = some u
/-- v is a slice that reads as xs in w. -/
def RdL {α : Type} (sz : Nat) (enc : α → List Value) (w : World) (v : Value) (xs : List α) : Prop :=
  ∃ a c, v = .slice a xs.length c ∧ xs.length ≤ c ∧ c ≤ maxLen ∧ RdA sz enc w a xs

section
variable {α : Type} {e : TypeId} {sz : Nat} {enc : α → List Value} {w w' : World} {base : Nat} {v : Value} {xs : List α} {a : Option Addr}
theorem RdA.later (h : RdA sz enc w a xs) (hb : Below w.heap.size w w') : RdA sz enc w' a xs := fun i x hx => by
  obtain ⟨b, off, ha, hlt, hcell⟩ := h i x hx
  exact ⟨b, off, ha, Nat.lt_of_lt_of_le hlt hb.size, fun j u hu => (hb.cell (p := ⟨b, _, none⟩) hlt).trans (hcell j u hu)⟩
theorem RdA.alloc (h : RdA sz enc w a xs) (o : Obj) : RdA sz enc (w.alloc o) a xs := h.later ((Below.refl _ _).alloc (Nat.le_refl _) o)
theorem RdL.later (h : RdL sz enc w v xs) (hb : Below w.heap.size w w') : RdL sz enc w' v xs := by
  obtain ⟨a, c, hv, hl, hm, hc⟩ := h
  exact ⟨a, c, hv, hl, hm, hc.later hb⟩
theorem RdL.alloc (h : RdL sz enc w v xs) (o : Obj) : RdL sz enc (w.alloc o) v xs := h.later ((Below.refl _ _).alloc (Nat.le_refl _) o)
theorem OwnL.rd (h : OwnL e sz enc w base v xs) (hl : ∀ y, (enc y).length = sz) : RdL sz enc w v xs := by
  rcases h.2 with ⟨rfl, h0⟩ | ⟨g, cap, cur, rfl, hb, hg, hc, hm, _⟩
  · refine ⟨none, 0, by rw [h0], by omega, by unfold maxLen; omega, fun i x hx => ?_⟩
    have := (List.getElem?_eq_some_iff.1 hx).1
    omega
  · refine ⟨_, _, rfl, hc, hm, fun i x hx => ?_⟩
    obtain ⟨g', c', hv, _, hcell⟩ := OwnL.cell h hl i x hx
    injection hv with h1 _ _
    injection h1 with h1
    injection h1 with h1
    subst h1
    refine ⟨g, 0, rfl, (Array.getElem?_eq_some_iff.1 hg).1, fun j u hu => ?_⟩
    rw [Nat.zero_add]
    exact hcell j u hu
theorem RdL.slice (h : RdL sz enc w v xs) : ∃ a c, v = .slice a xs.length c ∧ xs.length ≤ 9223372036854775807 ∧ RdA sz enc w a xs := by
  obtain ⟨a, c, hv, hl, hm, hc⟩ := h
  exact ⟨a, c, hv, by unfold maxLen at hm; omega, hc⟩
end
end Go.Proofs.YtepofpnbgbmihaaDoor

/-
  Arguments opened: slices whose elements take several cells; any program.
-/
namespace Go.Proofs.YtepofpnbgbmihaaDoor
open Go Go.RowKit Go.ChangeShapes Go.WideShapes Go.Deep

theorem list_of {α : Type} {Q : Nat → α → Prop} : ∀ n : Nat, (∀ i, i < n → ∃ z, Q i z) → ∃ xs : List α, xs.length = n ∧ ∀ i x, xs[i]? = some x → Q i x
  | 0, _ => ⟨[], rfl, fun i x h => by simp at h⟩
  | n + 1, h => by
    obtain ⟨xs, hl, hx⟩ := list_of n (fun i hi => h i (by omega))
    obtain ⟨z, hz⟩ := h n (by omega)
    refine ⟨xs ++ [z], by simp [hl], fun i x hi => ?_⟩
    by_cases e : i < xs.length
    · rw [List.getElem?_append_left e] at hi
      exact hx i x hi
    · have hlt := (List.getElem?_eq_some_iff.1 hi).1
      simp at hlt
      obtain rfl : i = n := by omega
      rw [List.getElem?_append_right (by omega), hl, Nat.sub_self] at hi
      simp at hi
      subst hi
      exact hz

section
variable {H : Type} {enc : TypeId × Value → H} {P : Program} {w : World} {base : Nat} {spare : Nat → Bool} {held : Bool}
theorem rd_of_trod {α : Type} {t e : TypeId} {sz : Nat} {en : α → List Value} {good : α → Prop} {fuel : Nat} {cs : List Value} {x : DataW H × List MemPlace}
    (ht : P.underlying t = some (.slice e)) (hC : P.cellsOf e = sz) (hsz : 0 < sz)
    (hdec : ∀ (n : Nat) (cs' : List Value) (y : DataW H × List MemPlace), DataW.trod enc P w base spare held n e cs' = some y → ∃ z, cs' = en z ∧ good z)
    (h : DataW.trod enc P w base spare held fuel t cs = some x) :
    ∃ v xs, cs = [v] ∧ RdL sz en w v xs ∧ ∀ (i : Nat) (z : α), xs[i]? = some z → good z := by
  rcases open_slice ht h with ⟨rfl, _⟩ | ⟨a, len, cap, m, n, D, Pl, rfl, hb, hl, hm, hmm, hx, hi⟩
  · exact ⟨_, [], rfl, ⟨none, 0, rfl, Nat.le_refl _, by unfold maxLen; omega, fun i x hx => by simp at hx⟩, fun i z hz => by simp at hz⟩
  · have hle : len ≤ m := by rw [hmm]; split <;> omega
    obtain ⟨xs, hxl, hxs⟩ := list_of (Q := fun i z => w.cells? base (a.add (i * sz)) sz = some (en z) ∧ good z) len (fun i hil => by
      obtain ⟨cs', hc, ht'⟩ := hi i (by omega)
      obtain ⟨z, rfl, hg⟩ := hdec _ _ _ ht'
      rw [hC] at hc
      exact ⟨z, hc, hg⟩)
    refine ⟨_, xs, rfl, ⟨some a, cap, by rw [hxl], by omega, hm, fun i x hx => ?_⟩, fun i z hz => (hxs i z hz).2⟩
    obtain ⟨hc, _⟩ := hxs i x hx
    obtain ⟨_, hcl, hat⟩ := World.cells?_some hc
    have h0l : 0 < len := by have := (List.getElem?_eq_some_iff.1 hx).1; omega
    obtain ⟨x0, hx0⟩ : ∃ x0, xs[0]? = some x0 := ⟨_, List.getElem?_eq_getElem (by omega)⟩
    obtain ⟨hc0, _⟩ := hxs 0 x0 hx0
    obtain ⟨_, hcl0, hat0⟩ := World.cells?_some hc0
    have h00 := hat0 0 hsz
    rw [List.getElem?_eq_getElem (by omega), Nat.zero_mul] at h00
    obtain ⟨b, off, spot⟩ := a
    have hspot : spot = none := by simpa [Addr.add] using World.cell?_spot h00
    subst hspot
    have hadd : ∀ o j, (⟨b, o, none⟩ : Addr).add j = ⟨b, o + j, none⟩ := fun o j => by unfold Addr.add; split <;> simp_all
    refine ⟨b, off, rfl, ?_, fun j u hu => ?_⟩
    · exact World.block_lt_of_cell? _ _ h00
    · have hj : j < sz := by have := (List.getElem?_eq_some_iff.1 hu).1; omega
      have := hat j hj
      rw [hadd, hadd] at this
      exact this.trans hu
/-- Elements that are whole numbers of one cell. -/
theorem rd_ints {t e : TypeId} {k : IntKind} {fuel : Nat} {cs : List Value} {x : DataW H × List MemPlace} (ht : P.underlying t = some (.slice e)) (he : P.underlying e = some (.int k)) (hC : P.cellsOf e = 1)
    (h : DataW.trod enc P w base spare held fuel t cs = some x) : ∃ v xs, cs = [v] ∧ RdL 1 (fun n => [.int k n]) w v xs ∧ ∀ (i : Nat) (z : Int), xs[i]? = some z → (Lit.int k z).wf = true :=
  rd_of_trod ht hC (by omega) (fun n cs' y hy => by
    obtain ⟨z, hz, _, hw⟩ := DataW.trod_int he hy
    exact ⟨z, hz, hw⟩) h
end

section
variable {H : Type} {enc : TypeId × Value → H} {P : Program}
/-- Arguments read behind the call as they did, where nothing old has turned. -/
theorem all_stay (hl : laidOutB P = true) {W W' : World} {sp : Nat → Bool} : ∀ {ts : List TypeId} {vs : List Value} {ds : List (DataW H)} {ps : List MemPlace}, (∀ t ∈ ts, P.readableRec t = true ∧ t < P.types.size) →
    DataW.TrodAll enc P W 0 (fun _ => true) true ts vs ds ps → (∀ p ∈ ps, W.sameAt W' p) → (∀ p ∈ ps, sp p.block = true) → DataW.TrodAll enc P W' 0 sp true ts vs ds ps
  | [], [], [], _, _, h, _, _ => h
  | [], _ :: _, _, _, _, h, _, _ => h.elim
  | [], [], _ :: _, _, _, h, _, _ => h.elim
  | _ :: _, [], _, _, _, h, _, _ => h.elim
  | _ :: _, _ :: _, [], _, _, h, _, _ => h.elim
  | t :: ts, v :: vs, d :: ds, ps, ht, h, hs, hsp => by
    obtain ⟨p, q, h1, h2, e⟩ := h
    have ht0 := ht t (by simp)
    exact ⟨p, q, WideElems.Trod_stays hl ht0.1 ht0.2 h1 (fun x hx => hs x (by rw [e]; simp [hx])) (fun x hx => hsp x (by rw [e]; simp [hx])),
      all_stay hl (fun t' h' => ht t' (by simp [h'])) h2 (fun x hx => hs x (by rw [e]; simp [hx])) (fun x hx => hsp x (by rw [e]; simp [hx])), e⟩
/-- A law that answers true and turns nothing old does what its row asks. -/
theorem law_post {f : Func} {s : ChangeSpec} {W W' : World} {args : Array Value} {ds gs : List (DataW H)} {before : List MemPlace} {tb : TypeId} (hl : laidOutB P = true)
    (hW : DataW.Whole enc P f.params.toList s.vars false W args.toList ds gs before) (hb : Below W.heap.size W W') (hp : ∀ t ∈ f.params.toList, P.readableRec t = true ∧ t < P.types.size)
    (hr : f.resultTypes = #[tb]) (ht : P.underlying tb = some .bool) (hv : s.vars = []) (hs : s.fn H (ds ++ gs) = { results := [.lit (.bool true)], args := ds }) :
    s.post enc P f false true false false W args (.bool true) W' := by
  have hlt : ∀ p ∈ before, p.block < W.heap.size := fun p hp => hW.lt p hp
  obtain ⟨p, q, hA, hV, e, hz, hn⟩ := hW
  rw [hv] at hV
  obtain ⟨hgs, hq⟩ := trodVars_none hV
  subst hq
  rw [List.append_nil] at e
  subst e
  have hargs : ∀ sp : Nat → Bool, (∀ x ∈ before, sp x.block = true) → DataW.TrodAll enc P W' 0 sp true f.params.toList args.toList ds before := fun sp hsp =>
    all_stay hl hp hA (fun x hx => hb.same (hlt x hx)) hsp
  have hold : ∀ x ∈ before, (fun b => decide (b < W.heap.size)) x.block = true := fun x hx => by simpa using hlt x hx
  have hres : ∀ (b : Nat) (sp : Nat → Bool) (hd : Bool), DataW.TrodAll enc P W' b sp hd f.resultTypes.toList ((Value.bool true).resultList f.resultTypes.size) [.lit (.bool true)] [] := fun b sp hd => by
    rw [hr]
    exact trodAll_cons_mk (shut_bool ht _) trodAll_mk0
  refine ⟨ds, gs, before, [], before, [], ⟨before, [], hA, by rw [hv]; exact hV, by simp, hz, hn⟩, by rw [hs]; exact hres _ _ _, by rw [hs]; exact hargs _ hold, by rw [hs, hv]; rfl, World.keptBut_mono (fun x hx => ⟨hx, by simpa using hx⟩) (hb.frame (· ∈ before)), fun _ => ?_⟩
  refine ⟨ok_one hr rfl (okWide_bool_mk ht _), _, [], ([] ++ before) ++ [], ⟨[] ++ before, [], trodAll_append (hargs _ (fun _ _ => rfl)) (hres _ _ _), by rw [hv]; rfl, rfl, ?_, ?_⟩, ?_⟩
  · intro b off hx
    have hin : MemPlace.cell b off ∈ before := by simpa using hx
    rw [hb.frozen (hlt _ hin)]
    exact hz b off hin
  · intro ha
    simpa using hn ha
  · intro x hx _
    simpa using hx
end
end Go.Proofs.YtepofpnbgbmihaaDoor

/-
  A range over an iterator that reads nothing between its rounds: each round goes on, or returns.
-/
namespace Go.Proofs.YtepofpnbgbmihaaDoor
open Go.RowKit Go.Shelf

/-- How a round ends: it goes on, G is so and all that lay lies as it lay; or it returns, Lf is so. -/
def stopPost (G : Prop) (Lf : World → Prop) (W : World) : Exit → Act → World → Prop
  | .normal, _, W' => G ∧ Below W.heap.size W W'
  | .ret, _, W' => Lf W' ∧ KeepsOthers W W'
  | _, _, _ => False

theorem rangeFunc_stops {P : Program} {g : Operand} {ps : Array Tmp} {assign body : Code} {Q : Exit → Act → World → Prop} {a : Act} {w : World} (n : Nat) {gf : Nat} {lb : Array Value} (hg : a.eval g = .func (.func gf) #[] lb)
    (eg : ∀ args w, (callFunc gf args).run P w = .ok (.enter gf args) w) {α : Type} (encs : α → Array Value) (hps : ∀ x, (encs x).size = ps.size) (S Sp : List α → Prop) (Nn : Nat) (G : α → Prop) (Lf : α → World → Prop)
    (iter : ∀ (l : Nat) (J Jx : List α → World → Prop) (W : World), Below w.heap.size w W → (∀ s A B, J s A → Below A.heap.size A B → J s B) → (∀ s A B, Jx s A → Below A.heap.size A B → Jx s B) →
      (∀ pre x W1, J pre W1 → pre.length < Nn → YieldAt Fence.wide (n - 1 - 1) P l (encs x) W1 fun e W' =>
        (e = .returned (.bool true) ∧ J (pre ++ [x]) W' ∧ Below W1.heap.size W1 W') ∨ (e = .returned (.bool false) ∧ Jx (pre ++ [x]) W')) → J [] W →
      CallsIn Fence.wide (n - 1) P gf (#[.func (.yield l) #[] #[]] ++ lb) W fun e W' => (∃ v, e = .returned v) ∧ ((∃ xs, S xs ∧ J xs W') ∨ (∃ pre, Sp pre ∧ Jx pre W')))
    (hLb : ∀ x A B, Lf x A → Below A.heap.size A B → Lf x B) (hLp : ∀ x A l r o, Lf x A → A.heap[l]? = some (.loop r) → w.heap.size ≤ l → Lf x (A.putObj l o))
    (hround : ∀ (l : Nat) (x : α) (W : World), Below w.heap.size w W → l < W.heap.size → w.heap.size ≤ l → assign.wpIn (Fence.wide.inRound l) (n - 1 - 1) P
      (Exit.then (fun a1 w1 => Below W.heap.size W w1 ∧ ∀ o, body.wpIn (Fence.wide.inRound l) (n - 1 - 1) P (stopPost (G x) (Lf x) (w1.putObj l o)) a1 (w1.putObj l o)) (fun _ _ _ => False))
      { tmps := (ps.zip (encs x)).foldl (fun t (p, v) => t.setIfInBounds p v) a.tmps, defers := [] } W)
    (hdone : ∀ (D : Nat) (xs : List α) (W : World), w.heap.size ≤ D → Below w.heap.size w W → S xs → (∀ x ∈ xs, G x) → W.heap[D]? = some (.deferred (some [])) → Q .normal { a with defers := { target := .collected D, args := #[] } :: a.defers } W)
    (hstop : ∀ (D : Nat) (pre : List α) (x : α) (W : World), w.heap.size ≤ D → Sp (pre ++ [x]) → (∀ y ∈ pre, G y) → Lf x W → W.heap[D]? = some (.deferred (some [])) → (∀ (E : Nat) (o : Obj), w.heap[E]? = some o → o.isCells = false → W.heap[E]? = some o) → Q .ret { a with defers := { target := .collected D, args := #[] } :: a.defers } W) :
    (Code.rangeFunc g ps assign body).wpIn Fence.wide n P Q a w := by
  refine wpIn_rangeFunc fun fn hfn => ?_
  obtain ⟨rec, hrec⟩ : ∃ rec : LoopState → Option Code → Loop, rec = fun st pe => { state := st, pending := pe, fn, tmps := a.tmps, params := ps, assign, body, defers := w.heap.size } := ⟨_, rfl⟩
  obtain ⟨W1, hW1⟩ : ∃ W1, W1 = (w.alloc (.deferred (some []))).alloc (.loop (rec .ready none)) := ⟨_, rfl⟩
  have hl1 : W1.heap[w.heap.size + 1]? = some (.loop (rec .ready none)) := by
    rw [hW1]; have := World.alloc_heap_new (w.alloc (.deferred (some []))) (.loop (rec .ready none)); rwa [World.size_alloc] at this
  have hd1 : W1.heap[w.heap.size]? = some (.deferred (some [])) := by
    rw [hW1]; exact (Below.heap_alloc _ _ _ (by simp)).trans (World.alloc_heap_new w _)
  have hb1 : Below w.heap.size w W1 := by rw [hW1]; exact ((Below.refl _ w).alloc (Nat.le_refl _) _).alloc (by simp) _
  refine ⟨w.heap.size + 1, [{ target := .collected w.heap.size, args := #[] }], W1, { target := .fn (.func gf) lb, args := #[.func (.yield (w.heap.size + 1)) #[] #[]] }, W1, gf,
    #[.func (.yield (w.heap.size + 1)) #[] #[]] ++ lb, W1, ?_, ?_, fun _ _ => trivial, ?_, fun h => absurd h (by decide), ?_⟩
  · rw [hW1, hrec]; exact run_enterLoop_outer _ _ _ _ _
  · simp only [resolve, hg]
    simp [go_sem]
  · simp [invoke, go_sem, eg]
  · refine (iter (w.heap.size + 1)
      (fun pre W => Below w.heap.size w W ∧ (∀ x ∈ pre, G x) ∧ W.heap[w.heap.size + 1]? = some (.loop (rec .ready none)) ∧ W.heap[w.heap.size]? = some (.deferred (some [])))
      (fun pre W => ∃ pre' x, pre = pre' ++ [x] ∧ (∀ y ∈ pre', G y) ∧ Lf x W ∧ W.heap[w.heap.size + 1]? = some (.loop (rec .done (some .ret))) ∧ W.heap[w.heap.size]? = some (.deferred (some [])) ∧ (∀ (E : Nat) (o : Obj), w.heap[E]? = some o → o.isCells = false → W.heap[E]? = some o))
      W1 hb1
      (fun s A B hs hb => ⟨hs.1.trans (hb.mono hs.1.size), hs.2.1, (hb.block _ (Array.getElem?_eq_some_iff.1 hs.2.2.1).1).trans hs.2.2.1, (hb.block _ (Array.getElem?_eq_some_iff.1 hs.2.2.2).1).trans hs.2.2.2⟩)
      (fun s A B hs hb => by
        obtain ⟨p, x, h1, h2, h3, h4, h5, h6⟩ := hs
        exact ⟨p, x, h1, h2, hLb x A B h3 hb, (hb.block _ (Array.getElem?_eq_some_iff.1 h4).1).trans h4, (hb.block _ (Array.getElem?_eq_some_iff.1 h5).1).trans h5, fun E o hE ho => (hb.block _ (Array.getElem?_eq_some_iff.1 (h6 E o hE ho)).1).trans (h6 E o hE ho)⟩)
      ?_ ⟨hb1, by simp, hl1, hd1⟩).mono ?_
    · rintro pre x W ⟨hbw, hG, h1, h2⟩ _
      have hlt : w.heap.size + 1 < W.heap.size := (Array.getElem?_eq_some_iff.1 h1).1
      have hy := run_yield (P := P) (args := encs x) h1 (by rw [hrec]; exact hps x)
      rw [hrec] at hy
      refine ⟨fn, _, assign, body, hy, roundIn_of_wpIn trivial (wpIn_mono (hround (w.heap.size + 1) x W hbw hlt (by omega)) ?_)⟩
      rintro ex a1 w1 hp
      cases ex with
      | normal =>
        obtain ⟨hB, hbody⟩ := hp
        have hl2 : w1.heap[w.heap.size + 1]? = some (.loop (rec .ready none)) := (hB.block _ hlt).trans h1
        have hlt1 : w.heap.size + 1 < w1.heap.size := (Array.getElem?_eq_some_iff.1 hl2).1
        refine ⟨_, run_beginRound hl2 (by rw [hrec]), wpIn_mono (hbody _) ?_⟩
        have hlb : (w1.putObj (w.heap.size + 1) (.loop { rec .ready none with state := .busy })).heap[w.heap.size + 1]? = some (.loop { rec .ready none with state := .busy }) := World.putObj_heap_same hlt1
        have hdb : (w1.putObj (w.heap.size + 1) (.loop { rec .ready none with state := .busy })).heap[w.heap.size]? = some (.deferred (some [])) := (World.putObj_heap_other (by omega)).trans ((hB.block _ (by omega)).trans h2)
        rintro e2 a2 w2 hp2
        cases e2 with
        | normal =>
          obtain ⟨hg1, hB2⟩ := hp2
          have hl3 : w2.heap[w.heap.size + 1]? = some (.loop { rec .ready none with state := .busy }) := (hB2.block _ (by simp; exact hlt1)).trans hlb
          refine ⟨_, _, run_endRound (P := P) none hl3, .inl ⟨rfl, ?_⟩⟩
          have hsz : W.heap.size ≤ w2.heap.size := by have h5 := hB2.size; have h6 := hB.size; simp at h5; omega
          have hbb : Below W.heap.size W (w2.putObj (w.heap.size + 1) (.loop { rec .ready none with state := if (none : Option Code).isNone then .ready else .done, pending := none })) := by
            refine ⟨hB2.os.trans hB.os, hB2.tape.trans hB.tape, hB2.output.trans hB.output, by simpa using hsz, fun k hk => ?_⟩
            by_cases e : k = w.heap.size + 1
            · subst e
              rw [World.putObj_heap_same (by omega), h1, hrec]; rfl
            · rw [World.putObj_heap_other e]
              have hk1 : k < w1.heap.size := Nat.lt_of_lt_of_le hk hB.size
              exact ((hB2.block k (by simp; exact hk1)).trans (World.putObj_heap_other e)).trans (hB.block k hk)
          refine ⟨⟨hbw.trans (hbb.mono hbw.size), ?_, (hbb.block _ hlt).trans h1, (hbb.block _ (by omega)).trans h2⟩, hbb⟩
          intro y hy
          rw [List.mem_append, List.mem_singleton] at hy
          rcases hy with hy | rfl
          · exact hG y hy
          · exact hg1
        | ret =>
          obtain ⟨hlf, hko⟩ := hp2
          have hl3 := hko.same _ _ hlb rfl
          have hd3 := hko.same _ _ hdb rfl
          have hlt3 : w.heap.size + 1 < w2.heap.size := (Array.getElem?_eq_some_iff.1 hl3).1
          refine ⟨_, _, run_endRound (P := P) (some .ret) hl3, .inr ⟨rfl, pre, x, rfl, hG, hLp x w2 _ _ _ hlf hl3 (by omega), ?_, (World.putObj_heap_other (by omega)).trans hd3, fun E o hE ho => ?_⟩⟩
          · rw [World.putObj_heap_same hlt3, hrec]; rfl
          · have hEl := (Array.getElem?_eq_some_iff.1 hE).1
            have hEW : W.heap.size ≥ w.heap.size := hbw.size
            have h9 : (w1.putObj (w.heap.size + 1) (.loop { rec .ready none with state := .busy })).heap[E]? = some o := (World.putObj_heap_other (by omega)).trans ((hB.block E (by omega)).trans ((hbw.block E hEl).trans hE))
            exact (World.putObj_heap_other (by omega)).trans (hko.same E o h9 ho)
        | _ => exact hp2.elim
      | _ => exact hp.elim
    · rintro e W2 ⟨⟨v, rfl⟩, (⟨xs, hS, hbw, hG, h1, h2⟩ | ⟨pre, hSp, p, x, rfl, hG, hlf, h1, h2, h6⟩)⟩
      · refine ⟨none, _, by have := run_endLoop (P := P) h1 (by rw [hrec]; simp); rw [hrec] at this; exact this, hdone _ xs _ (Nat.le_refl _) ?_ hS hG ((World.putObj_heap_other (by omega)).trans h2)⟩
        exact ⟨hbw.os, hbw.tape, hbw.output, by simpa using hbw.size, fun k hk => (World.putObj_heap_other (by omega)).trans (hbw.block k hk)⟩
      · refine ⟨some .ret, _, by have := run_endLoop (P := P) h1 (by rw [hrec]; simp); rw [hrec] at this; exact this, wpIn_ret (hstop _ p x _ (Nat.le_refl _) hSp hG (hLp x W2 _ _ _ hlf h1 (by omega)) ((World.putObj_heap_other (by omega)).trans h2) (fun E o hE ho => (World.putObj_heap_other (by have := (Array.getElem?_eq_some_iff.1 hE).1; omega)).trans (h6 E o hE ho)))⟩
end Go.Proofs.YtepofpnbgbmihaaDoor

/-
  Plain functions on letters and words: no program in sight.
-/
namespace Go.Proofs.YtepofpnbgbmihaaDoor
open Go Go.RowKit

/-- The letters of a word of moves: CTLRPctlr. -/
def L9 : List UInt8 := [67, 84, 76, 82, 80, 99, 116, 108, 114]
/-- The error of a word: 0, 3 (too long), 6 (a letter that is none). -/
def wordErr (l : List UInt8) : Int := if 16 < l.length then 3 else if l.all (fun c => L9.contains c) then 0 else 6
/-- How often the left pair, the middle and the right pair are crossed by a letter. -/
def tw0 (c : Int) : Int := if c = 76 then -1 else if c = 84 then -1 else if c = 108 then 1 else if c = 116 then 1 else 0
def tw1 (c : Int) : Int := if c = 67 then 1 else if c = 99 then -1 else 0
def tw2 (c : Int) : Int := if c = 82 then -1 else if c = 84 then -1 else if c = 114 then 1 else if c = 116 then 1 else 0
def nz (l : List Int) : List Int := l.filter (fun n => n != 0)
/-- The crossings of a letter, as numbers with signs: 1 (left), 2 (middle), 3 (right). -/
def crossC (c : UInt8) : List Int := nz [tw0 c.toNat, tw1 c.toNat * 2, tw2 c.toNat * 3]
def crossW (l : List UInt8) : List Int := l.flatMap crossC

theorem indexByte_neg (l : List UInt8) (c : UInt8) : decide (Lib.indexByte l c < 0) = !l.contains c := by
  have key : (Lib.indexByte l c < 0) ↔ l.contains c = false := by
    induction l with
    | nil => simp [Lib.indexByte]
    | cons b l ih =>
      have hge := Lib.indexByte_ge l c
      unfold Lib.indexByte
      by_cases h : b = c
      · subst h; simp
      · have h2 : (b == c) = false := by simpa using h
        have h3 : c ≠ b := fun e => h e.symm
        simp only [h2, Bool.false_eq_true, if_false]
        have h4 : ((b :: l).contains c) = l.contains c := by simp [h3]
        rw [h4, ← ih]
        by_cases h5 : Lib.indexByte l c = -1
        · simp [h5]
        · have h6 : (Lib.indexByte l c == -1) = false := by simpa using h5
          simp only [h6, Bool.false_eq_true, if_false]
          omega
  cases h : l.contains c with
  | true =>
    have : ¬ (Lib.indexByte l c < 0) := by rw [key, h]; exact Bool.noConfusion
    rw [decide_eq_false this]; rfl
  | false => rw [decide_eq_true (key.2 h)]; rfl
end Go.Proofs.YtepofpnbgbmihaaDoor

/-
  Words of moves: what the functions of package stitches compute.
-/
namespace Go.Proofs.YtepofpnbgbmihaaDoor
open Go.RowKit

set_option maxHeartbeats 1000000 in
theorem twists_any (c : Int) (hc : c ∈ [67, 84, 76, 82, 80, 99, 116, 108, 114]) (w : World) :
    Calls Tryd.prog 63 #[.int .u8 c] w fun e w' => e = .returned (.agg #[.int .i64 (tw0 c), .int .i64 (tw1 c), .int .i64 (tw2 c)]) ∧ Below w.heap.size w w' := by
  simp only [List.mem_cons, List.not_mem_nil, or_false] at hc
  rcases hc with rfl | rfl | rfl | rfl | rfl | rfl | rfl | rfl | rfl
  all_goals
    go_enter Tryd.func63, Tryd.ntmps63
    go_wp2
    refine bodyPost_ret (v := .agg #[.int .i64 _, .int .i64 _, .int .i64 _]) (by simp [results, Tryd.results63, go_sem]; exact ⟨rfl, rfl, rfl⟩) rfl ⟨rfl, ?_⟩
    first
      | exact ((Below.refl _ _).alloc (Nat.le_refl _) _).alloc (by simp) _
      | exact (((Below.refl _ _).alloc (Nat.le_refl _) _).alloc (by simp) _).setCell (by simp) _
end Go.Proofs.YtepofpnbgbmihaaDoor

/-
  Words of moves: stitches.Check.
-/
namespace Go.Proofs.YtepofpnbgbmihaaDoor
open Go.RowKit

theorem ret_int {k : IntKind} {a b : Int} (h : a = b) : Ending.returned (.int k a) = .returned (.int k b) := by rw [h]

theorem all_take_snoc (p : UInt8 → Bool) (s : ByteArray) (k : Nat) (h : k < s.size) : (s.data.toList.take (k + 1)).all p = ((s.data.toList.take k).all p && p s[k]) := by
  rw [List.take_succ_eq_append_getElem (by simpa using h), List.all_append]
  simp; rfl

theorem all_of_bad (p : UInt8 → Bool) (s : ByteArray) (k : Nat) (h : k < s.size) (hb : p s[k] = false) : s.data.toList.all p = false := by
  rw [List.all_eq_false]
  exact ⟨s[k], by exact Array.getElem_mem_toList (by simpa using h), by simp [hb]⟩

theorem wordErr_of (s : ByteArray) : wordErr s.data.toList = if 16 < s.size then 3 else if s.data.toList.all (fun c => L9.contains c) then 0 else 6 := rfl

theorem index9_yes (b : UInt8) (h : L9.contains b = true) (w : World) :
    Calls Tryd.prog 62 #[.string { data := #[67, 84, 76, 82, 80, 99, 116, 108, 114] }, .int .u8 b.toNat] w fun e w' => ∃ n : Int, 0 ≤ n ∧ e = .returned (.int .i64 n) ∧ w' = w := by
  refine (Tryd.strings_IndexByte _ _ w).mono ?_
  rintro e w' ⟨rfl, rfl⟩
  have hi := indexByte_neg L9 b
  rw [h] at hi
  have hb : ((b.toNat : Int)).toNat.toUInt8 = b := by simp
  rw [hb]
  exact ⟨_, Int.not_lt.1 (of_decide_eq_false hi), rfl, rfl⟩
theorem index9_no (b : UInt8) (h : L9.contains b = false) (w : World) :
    Calls Tryd.prog 62 #[.string { data := #[67, 84, 76, 82, 80, 99, 116, 108, 114] }, .int .u8 b.toNat] w fun e w' => ∃ n : Int, n < 0 ∧ e = .returned (.int .i64 n) ∧ w' = w := by
  refine (Tryd.strings_IndexByte _ _ w).mono ?_
  rintro e w' ⟨rfl, rfl⟩
  have hi := indexByte_neg L9 b
  rw [h] at hi
  have hb : ((b.toNat : Int)).toNat.toUInt8 = b := by simp
  rw [hb]
  exact ⟨_, of_decide_eq_true hi, rfl, rfl⟩

set_option maxHeartbeats 400000 in
theorem stCheck_any (s : ByteArray) (w : World) (hs : s.size ≤ 9223372036854775807) :
    Calls Tryd.prog 42 #[.string s] w fun e w' => e = .returned (.int .i64 (wordErr s.data.toList)) ∧ w' = w := by
  by_cases h16 : 16 < s.size
  · go_enter Tryd.func42, Tryd.ntmps42
    go_wp2
    go_ret
    exact ⟨ret_int (by rw [wordErr_of, if_pos h16]), rfl⟩
  · go_enter Tryd.func42, Tryd.ntmps42
    go_wp2
    go_loop [9] (fun i => ∃ k : Nat, k ≤ s.size ∧ i = .int .i64 k ∧ Hid ((s.data.toList.take k).all (fun c => L9.contains c) = true)) (fun i => s.size - (intOf i).toNat)
    case atStart => exact ⟨0, Nat.zero_le _, rfl, by simp [Hid]⟩
    case round =>
      obtain ⟨k, hk, rfl, ha⟩ := hrel
      by_cases hlt : k < s.size
      · have hsn := all_take_snoc (fun c => L9.contains c) s k hlt
        have hbad := all_of_bad (fun c => L9.contains c) s k hlt
        cases hcc : L9.contains s[k] with
        | true =>
          have hy := index9_yes s[k] hcc
          have HA : Hid ((s.data.toList.take (k + 1)).all (fun c => L9.contains c) = true) := by rw [hsn, ha.out, hcc]; rfl
          clear hsn hbad hcc ha
          have HY := Lib.hid hy
          clear hy
          go_wp2_with (go_at_call 62; refine (HY.out _).mono ?_; rintro e w' ⟨n, hn, rfl, rfl⟩)
          go_round
          case rel => exact ⟨k + 1, by omega, by go_num, HA⟩
          case measure => simp [intOf]; omega
        | false =>
          have hy := index9_no s[k] hcc
          have HA : Hid (s.data.toList.all (fun c => L9.contains c) = false) := hbad hcc
          clear hsn hbad hcc ha
          have HY := Lib.hid hy
          clear hy
          go_wp2_with (go_at_call 62; refine (HY.out _).mono ?_; rintro e w' ⟨n, hn, rfl, rfl⟩)
          go_ret
          exact ⟨ret_int (by rw [wordErr_of, if_neg h16, HA.out]; rfl), rfl⟩
      · go_wp2
        go_ret
        have e1 : s.data.toList.take k = s.data.toList := List.take_of_length_le (by simp; omega)
        have ha' := ha.out
        rw [e1] at ha'
        exact ⟨ret_int (by rw [wordErr_of, if_neg h16, ha']; rfl), rfl⟩
end Go.Proofs.YtepofpnbgbmihaaDoor

/-
  Words of moves: the crossings of a valid word.
-/
namespace Go.Proofs.YtepofpnbgbmihaaDoor
open Go.RowKit

theorem info_int : (Tryd.prog.info? 3).map (fun i => (i.zero, i.size, i.bytes)) = some (some (.int .i64 0), 1, 8) := by kernel_rfl

def encI (x : Int) : List Value := [.int .i64 x]
theorem encI_len (x : Int) : (encI x).length = 1 := rfl
theorem encI_one (x : Int) : ∀ u ∈ encI x, u.oneCell' = true := by intro u hu; simp only [encI, List.mem_singleton] at hu; subst hu; rfl
/-- A slice of ints that the call made. -/
abbrev OwnI (w : World) (base : Nat) (v : Value) (xs : List Int) : Prop := OwnL 3 1 encI w base v xs

theorem app_int {W W2 : World} {ops : Array Oper} {rest : List Oper} {o : Oper} {a : Act} {Q : Exit → Act → World → Prop} (hgd : o.guard = none) (s x : Operand)
    (ho : o.op = .call { callee := .builtin .append, args := #[s, x], argTypes := #[35, 35] })
    (base : Nat) (v : Value) (xs : List Int) (hs : a.eval s = v) (hown : OwnI W base v xs) (c : Nat) (y : Int)
    (g : Nat) (hg : g = W.heap.size) (hx : a.eval x = .slice (some ⟨g, 0, none⟩) 1 c) (hlen : xs.length < 1000000000) (hbase : base ≤ W.heap.size)
    (hW : W2 = W.alloc (.cells #[.int .i64 y] 3))
    (h : ∀ v' w', OwnI w' base v' (xs ++ [y]) → W.grownBy w' v.ownBlock → v' ≠ .slice none 0 0 → Hat W v v' → wpList Tryd.prog ops Q rest (a.put o.dst v') w') :
    wpList Tryd.prog ops Q (o :: rest) a W2 := by
  obtain ⟨i0, hi, hz0, hz1, hz2⟩ := info_parts info_int
  exact wpList_app1 hgd s x 35 ho 3 i0 (.int .i64 0) 1 8 Tryd.underlying35 hi hz0 hz1 hz2 rfl (by decide) encI encI_len encI_one base v xs hs hown _ c y rfl g hg hx (by omega) hlen hbase hW h
theorem step_int {W W2 : World} {ops : Array Oper} {o : Oper} {a : Act} {K : Act → World → Prop} {E : Prop} {Q : Exit → Act → World → Prop} (hgd : o.guard = none) (s x : Operand)
    (ho : o.op = .call { callee := .builtin .append, args := #[s, x], argTypes := #[35, 35] })
    (base : Nat) (v : Value) (xs : List Int) (hs : a.eval s = v) (hown : OwnI W base v xs) (c : Nat) (y : Int)
    (g : Nat) (hg : g = W.heap.size) (hx : a.eval x = .slice (some ⟨g, 0, none⟩) 1 c) (hlen : xs.length < 1000000000) (hbase : base ≤ W.heap.size)
    (hW : W2 = W.alloc (.cells #[.int .i64 y] 3))
    (h : ∀ v' w', OwnI w' base v' (xs ++ [y]) → W.grownBy w' v.ownBlock → v' ≠ .slice none 0 0 → Hat W v v' → K (a.put o.dst v') w') :
    if Region.wanted o (yielded ops a.tmps) = true then Oper.wp Tryd.prog o a W2 K Q else E := by
  obtain ⟨i0, hi, hz0, hz1, hz2⟩ := info_parts info_int
  exact step_app1 hgd s x 35 ho 3 i0 (.int .i64 0) 1 8 Tryd.underlying35 hi hz0 hz1 hz2 rfl (by decide) encI encI_len encI_one base v xs hs hown _ c y rfl g hg hx (by omega) hlen hbase hW h

theorem nz_length (l : List Int) : (nz l).length ≤ l.length := List.length_filter_le _ _
theorem crossC_length (c : UInt8) : (crossC c).length ≤ 3 := by unfold crossC; exact nz_length _
theorem crossW_length (l : List UInt8) : (crossW l).length ≤ 3 * l.length := by
  unfold crossW
  induction l with
  | nil => simp
  | cons c l ih => rw [List.flatMap_cons, List.length_append, List.length_cons]; have := crossC_length c; omega

theorem crossW_take (s : ByteArray) (k : Nat) (h : k < s.size) : crossW (s.data.toList.take (k + 1)) = crossW (s.data.toList.take k) ++ crossC s[k] := by
  unfold crossW
  rw [List.take_succ_eq_append_getElem (by simpa using h), List.flatMap_append]
  simp; rfl

theorem L9_mem (b : UInt8) (h : L9.contains b = true) : (b.toNat : Int) ∈ [67, 84, 76, 82, 80, 99, 116, 108, 114] := by
  have h2 : b ∈ L9 := by simpa using h
  simp only [L9, List.mem_cons, List.not_mem_nil, or_false] at h2
  rcases h2 with rfl | rfl | rfl | rfl | rfl | rfl | rfl | rfl | rfl <;> simp

theorem tw_bd (c : Int) : -1 ≤ tw0 c ∧ tw0 c ≤ 1 ∧ -1 ≤ tw1 c ∧ tw1 c ≤ 1 ∧ -1 ≤ tw2 c ∧ tw2 c ≤ 1 := by
  unfold tw0 tw1 tw2
  refine ⟨?_, ?_, ?_, ?_, ?_, ?_⟩ <;> (repeat' split) <;> omega

def nzs (a b c : Int) : Nat → List Int
  | 0 => []
  | 1 => nz [a]
  | 2 => nz [a, b * 2]
  | _ => nz [a, b * 2, c * 3]
theorem nz_snoc_zero (l : List Int) : nz (l ++ [0]) = nz l := by simp [nz]
theorem nz_snoc (l : List Int) (x : Int) (h : x ≠ 0) : nz (l ++ [x]) = nz l ++ [x] := by simp [nz, h]
theorem nzs_len (a b c : Int) (j : Nat) : (nzs a b c j).length ≤ 3 := by
  unfold nzs
  split
  · simp
  all_goals (refine Nat.le_trans (nz_length _) (by simp))

set_option maxHeartbeats 1600000 in
theorem crossings_any (s : ByteArray) (w : World) (hs : s.size ≤ 16) (hok : ∀ k, (h : k < s.size) → L9.contains s[k] = true) :
    Calls Tryd.prog 43 #[.string s] w fun e w' => ∃ v, e = .returned v ∧ OwnI w' w.heap.size v (crossW s.data.toList) ∧ Below w.heap.size w w' := by
  go_enter Tryd.func43, Tryd.ntmps43
  go_wp2
  go_loopw [3, 4, 5, 6, 9] (fun v i4 i5 i6 i wr => ∃ k : Nat, k ≤ s.size ∧ i = .int .i64 k ∧ OwnI wr w.heap.size v (crossW (s.data.toList.take k)) ∧ Below w.heap.size w wr) (fun v i4 i5 i6 i _ => s.size - (intOf i).toNat)
  case atStart => exact ⟨0, Nat.zero_le _, rfl, World.ownsRow_nil _ _ _ _, Below.refl _ _⟩
  case round =>
    obtain ⟨k, hk, rfl, hown, hB⟩ := hrel
    by_cases hlt : k < s.size
    · have hcm := L9_mem s[k] (hok k hlt)
      have hct := crossW_take s k hlt
      have hcl := crossW_length (s.data.toList.take k)
      have hlen : (s.data.toList.take k).length ≤ k := List.length_take_le _ _
      have htw := fun w => twists_any (s[k].toNat : Int) hcm w
      have HT := Lib.hid htw
      have HC := Lib.hid hct
      have HO := Lib.hid hown
      clear htw hct hcm hown
      go_wp2_with (go_at_call 63; refine (HT.out _).mono ?_; rintro e w1 ⟨rfl, hb1⟩)
      have hbd := tw_bd (s[k].toNat : Int)
      have HX : Hid (crossC s[k] = nzs (tw0 (s[k].toNat : Int)) (tw1 (s[k].toNat : Int)) (tw2 (s[k].toNat : Int)) 3) := rfl
      clear HT
      generalize tw0 (s[k].toNat : Int) = ta at hbd HX ⊢
      generalize tw1 (s[k].toNat : Int) = tb at hbd HX ⊢
      generalize tw2 (s[k].toNat : Int) = tc at hbd HX ⊢
      obtain ⟨ha1, ha2, hb1', hb2', hc1', hc2'⟩ := hbd
      have x0 : ∀ w, (Instr.index 125 (.agg #[.int .i64 ta, .int .i64 tb, .int .i64 tc]) (.int .i64 0)).run Tryd.prog w = .ok (.int .i64 ta) w := fun _ => by kernel_rfl
      have x1 : ∀ w, (Instr.index 125 (.agg #[.int .i64 ta, .int .i64 tb, .int .i64 tc]) (.int .i64 1)).run Tryd.prog w = .ok (.int .i64 tb) w := fun _ => by kernel_rfl
      have x2 : ∀ w, (Instr.index 125 (.agg #[.int .i64 ta, .int .i64 tb, .int .i64 tc]) (.int .i64 2)).run Tryd.prog w = .ok (.int .i64 tc) w := fun _ => by kernel_rfl
      have hB1 : Below w.heap.size w w1 := hB.trans (hb1.mono hB.size)
      have hown1 : OwnI w1 w.heap.size u3 (crossW (s.data.toList.take k)) := World.ownsRow.kept HO.out (⟨hb1.os, hb1.tape, hb1.output, hb1.size, fun i hi _ => hb1.block i hi⟩ : wr.grownBy w1 none) (by cases u3.ownBlock <;> simp)
      generalize crossW (s.data.toList.take k) = acc at HC hcl hown1 ⊢
      clear HO hB hb1
      go_loopw [3, 5, 6, 16] (fun v i5 i6 i16 wr => ∃ j : Nat, j ≤ 3 ∧ i16 = .int .i64 j ∧ OwnI wr w.heap.size v (acc ++ nzs ta tb tc j) ∧ Below w.heap.size w wr) (fun v i5 i6 i16 _ => 3 - (intOf i16).toNat)
      case atStart => exact ⟨0, by omega, rfl, by simpa [nzs] using hown1, hB1⟩
      case round =>
        clear hown1 hB1
        obtain ⟨j, hj, rfl, hown, hB⟩ := hrel
        obtain rfl | rfl | rfl | rfl : j = 0 ∨ j = 1 ∨ j = 2 ∨ j = 3 := by omega
        · have hln : (acc ++ nzs ta tb tc 0).length < 1000000000 := by rw [List.length_append]; have := nzs_len ta tb tc 0; omega
          by_cases h0 : ta = 0
          · have hz : (ta != 0) = false := by simp [h0]
            have HN : Hid (nzs ta tb tc 1 = nzs ta tb tc 0) := by rw [h0]; exact nz_snoc_zero []
            have HO := Lib.hid hown
            clear h0 hown
            go_wp2
            go_roundw
            case rel => exact ⟨1, by omega, by go_num, by rw [HN.out]; exact HO.out, hB⟩
            case measure => first | (simp [intOf]; done) | (simp [intOf]; omega)
          · have hz : (ta != 0) = true := by simp [h0]
            have HN : Hid (acc ++ nzs ta tb tc 1 = (acc ++ nzs ta tb tc 0) ++ [ta]) := by rw [List.append_assoc]; exact congrArg _ (nz_snoc [] _ h0)
            clear h0
            go_wp2_with (at_builtin; refine app_int rfl _ _ rfl w.heap.size u3 (acc ++ nzs ta tb tc 0) rfl hown _ ta _ rfl rfl hln hB.size rfl ?_; intro v' w2 hown2 hg2 hv2 _; have hB2 := below_own hB hown (Nat.le_refl _) hB.size hg2; clear hg2 hown hB hv2)
            go_roundw
            case rel => exact ⟨1, by omega, by go_num, by rw [HN.out]; exact hown2, hB2⟩
            case measure => first | (simp [intOf]; done) | (simp [intOf]; omega)
        · have hln : (acc ++ nzs ta tb tc 1).length < 1000000000 := by rw [List.length_append]; have := nzs_len ta tb tc 1; omega
          by_cases h0 : tb = 0
          · have hz : (tb != 0) = false := by simp [h0]
            have HN : Hid (nzs ta tb tc 2 = nzs ta tb tc 1) := by rw [h0]; exact nz_snoc_zero [ta]
            have HO := Lib.hid hown
            clear h0 hown
            go_wp2
            go_roundw
            case rel => exact ⟨2, by omega, by go_num, by rw [HN.out]; exact HO.out, hB⟩
            case measure => first | (simp [intOf]; done) | (simp [intOf]; omega)
          · have hz : (tb != 0) = true := by simp [h0]
            have HN : Hid (acc ++ nzs ta tb tc 2 = (acc ++ nzs ta tb tc 1) ++ [(tb * 2)]) := by rw [List.append_assoc]; exact congrArg _ (nz_snoc [ta] _ (by omega))
            clear h0
            go_wp2_with (at_builtin; refine app_int rfl _ _ rfl w.heap.size u3 (acc ++ nzs ta tb tc 1) rfl hown _ (tb * 2) _ rfl rfl hln hB.size rfl ?_; intro v' w2 hown2 hg2 hv2 _; have hB2 := below_own hB hown (Nat.le_refl _) hB.size hg2; clear hg2 hown hB hv2)
            go_roundw
            case rel => exact ⟨2, by omega, by go_num, by rw [HN.out]; exact hown2, hB2⟩
            case measure => first | (simp [intOf]; done) | (simp [intOf]; omega)
        · have hln : (acc ++ nzs ta tb tc 2).length < 1000000000 := by rw [List.length_append]; have := nzs_len ta tb tc 2; omega
          by_cases h0 : tc = 0
          · have hz : (tc != 0) = false := by simp [h0]
            have HN : Hid (nzs ta tb tc 3 = nzs ta tb tc 2) := by rw [h0]; exact nz_snoc_zero [ta, tb * 2]
            have HO := Lib.hid hown
            clear h0 hown
            go_wp2
            go_roundw
            case rel => exact ⟨3, by omega, by go_num, by rw [HN.out]; exact HO.out, hB⟩
            case measure => first | (simp [intOf]; done) | (simp [intOf]; omega)
          · have hz : (tc != 0) = true := by simp [h0]
            have HN : Hid (acc ++ nzs ta tb tc 3 = (acc ++ nzs ta tb tc 2) ++ [(tc * 3)]) := by rw [List.append_assoc]; exact congrArg _ (nz_snoc [ta, tb * 2] _ (by omega))
            clear h0
            go_wp2_with (at_builtin; refine app_int rfl _ _ rfl w.heap.size u3 (acc ++ nzs ta tb tc 2) rfl hown _ (tc * 3) _ rfl rfl hln hB.size rfl ?_; intro v' w2 hown2 hg2 hv2 _; have hB2 := below_own hB hown (Nat.le_refl _) hB.size hg2; clear hg2 hown hB hv2)
            go_roundw
            case rel => exact ⟨3, by omega, by go_num, by rw [HN.out]; exact hown2, hB2⟩
            case measure => first | (simp [intOf]; done) | (simp [intOf]; omega)
        · have HO := Lib.hid hown
          clear hown
          go_wp2
          go_roundw
          case rel => exact ⟨k + 1, by omega, by go_num, by rw [HC.out, HX.out]; exact HO.out, hB⟩
          case measure => first | (simp [intOf]; done) | (simp [intOf]; omega)
    · go_wp2
      go_ret
      have e1 : s.data.toList.take k = s.data.toList := List.take_of_length_le (by simp; omega)
      rw [e1] at hown
      exact ⟨_, rfl, hown, hB⟩
end Go.Proofs.YtepofpnbgbmihaaDoor

/-
  Sheets, in plain words.
-/
namespace Go.Proofs.YtepofpnbgbmihaaDoor
open Go Go.RowKit

structure Wk where
  kind : Int
  at_ : Int
  word : ByteArray
deriving DecidableEq
structure Sh where
  pairs : Int
  works : List Wk

def okWord (l : List UInt8) : Prop := ∀ k, (h : k < l.length) → L9.contains l[k] = true
structure ValidW (p : Int) (w : Wk) : Prop where
  kind : w.kind = 1 ∨ (w.kind = 2 ∧ w.word.size = 0)
  lo : 0 ≤ w.at_
  hi : w.at_ ≤ p - 2
  size : w.word.size ≤ 16
  word : ∀ k, (h : k < w.word.size) → L9.contains w.word[k] = true
structure Valid (s : Sh) : Prop where
  lo : 2 ≤ s.pairs
  hi : s.pairs ≤ 24
  len : s.works.length ≤ 400
  all : ∀ (i : Nat) (w : Wk), s.works[i]? = some w → ValidW s.pairs w
def encW (w : Wk) : List Value := [.int .i64 w.kind, .int .i64 w.at_, .string w.word]
theorem encW_len (w : Wk) : (encW w).length = 3 := rfl
theorem encW_one (w : Wk) : ∀ u ∈ encW w, u.oneCell' = true := by
  intro u hu
  simp only [encW, List.mem_cons, List.not_mem_nil, or_false] at hu
  rcases hu with rfl | rfl | rfl <;> rfl
theorem encW_at {w : World} {b o : Nat} {x : Wk} (h : ∀ (j : Nat) (u : Value), (encW x)[j]? = some u → w.cell? ⟨b, o + j, none⟩ = some u) :
    w.cell? ⟨b, o, none⟩ = some (.int .i64 x.kind) ∧ w.cell? ⟨b, o + 1, none⟩ = some (.int .i64 x.at_) ∧ w.cell? ⟨b, o + 2, none⟩ = some (.string x.word) := ⟨h 0 _ rfl, h 1 _ rfl, h 2 _ rfl⟩
theorem cells_below {B : Nat} {w w' : World} (hB : Below B w w') {b o : Nat} (hb : b < B) {cs : List Value} (h : ∀ (j : Nat) (u : Value), cs[j]? = some u → w.cell? ⟨b, o + j, none⟩ = some u) :
    ∀ (j : Nat) (u : Value), cs[j]? = some u → w'.cell? ⟨b, o + j, none⟩ = some u := fun j u hu => (hB.cell (p := ⟨b, _, none⟩) hb).trans (h j u hu)
end Go.Proofs.YtepofpnbgbmihaaDoor

/-
  sheet.Check of a valid sheet; stitches.Crossings of a valid word.
-/
namespace Go.Proofs.YtepofpnbgbmihaaDoor
open Go.RowKit

theorem wordErr_ok (s : ByteArray) (hs : s.size ≤ 16) (hok : ∀ k, (h : k < s.size) → L9.contains s[k] = true) : wordErr s.data.toList = 0 := by
  rw [wordErr_of, if_neg (by omega), if_pos]
  rw [List.all_eq_true]
  intro c hc
  obtain ⟨i, hi, rfl⟩ := List.mem_iff_getElem.1 hc
  exact hok i (by simpa using hi)

theorem Crossings_any (s : ByteArray) (w : World) (hs : s.size ≤ 16) (hok : ∀ k, (h : k < s.size) → L9.contains s[k] = true) :
    Calls Tryd.prog 22 #[.string s] w fun e w' => ∃ v, e = .returned (.tuple #[v, .int .i64 0]) ∧ OwnI w' w.heap.size v (crossW s.data.toList) ∧ Below w.heap.size w w' := by
  have hc := fun w => stCheck_any s w (by omega)
  rw [wordErr_ok s hs hok] at hc
  have hx := fun w => crossings_any s w hs hok
  have HC := Lib.hid hc
  have HX := Lib.hid hx
  clear hc hx hok
  go_enter Tryd.func22, Tryd.ntmps22
  go_wp2_with (first | (go_at_call 42; refine (HC.out _).mono ?_; rintro e w' ⟨rfl, rfl⟩) | (go_at_call 43; refine (HX.out _).mono ?_; rintro e w' ⟨v, rfl, ho, hb⟩))
  go_ret2
  exact ⟨_, rfl, ho, hb⟩

set_option maxHeartbeats 400000 in
theorem idxWork_any (v : Value) (ws : List Wk) (w : World) (hr : RdL 3 encW w v ws) (hall : ∀ (i : Nat) (x : Wk), ws[i]? = some x → x.word.size ≤ 16) :
    Calls Tryd.prog 61 #[v, .func (.func 41) #[] #[]] w fun e w' => e = .returned (.int .i64 (-1)) ∧ Below w.heap.size w w' := by
  obtain ⟨a, c, rfl, hlen, hc⟩ := hr.slice
  have HC := Lib.hid hc
  have HA := Lib.hid hall
  clear hc hall hr
  go_enter Tryd.func61, Tryd.ntmps61
  go_wp2
  go_loopw [8] (fun i wr => ∃ k : Nat, k ≤ ws.length ∧ i = .int .i64 k ∧ Below w.heap.size w wr) (fun i _ => ws.length - (intOf i).toNat)
  case atStart => exact ⟨0, Nat.zero_le _, rfl, Below.refl _ _⟩
  case round =>
    obtain ⟨k, hk, rfl, hB⟩ := hrel
    by_cases hlt : k < ws.length
    · obtain ⟨b, off, rfl, hbl, hcell⟩ := HC.out k ws[k] (List.getElem?_eq_getElem hlt)
      obtain ⟨h0, h1, h2⟩ := encW_at (cells_below hB hbl hcell)
      have hsz := HA.out k ws[k] (List.getElem?_eq_getElem hlt)
      have hbl2 : b < wr.heap.size := Nat.lt_of_lt_of_le hbl hB.size
      generalize ws[k] = x at h0 h1 h2 hsz
      clear hcell
      go_wp2
      go_roundw
      case rel => exact ⟨k + 1, by omega, by go_num, hB.alloc hB.size _⟩
      case measure => first | (simp [intOf]; done) | (simp [intOf]; omega)
    · go_wp2
      go_ret
      exact ⟨rfl, hB⟩
end Go.Proofs.YtepofpnbgbmihaaDoor

/-
  Lines of threads: cloth.begun, (*line).swap.
-/
namespace Go.Proofs.YtepofpnbgbmihaaDoor
open Go.RowKit Go.Proofs.YtepofpnbgbmihaaDoorW.PrintLast
set_option linter.unusedSimpArgs false
set_option linter.unusedVariables false

/-- A line of 48 threads as cells. -/
def lineArr (l : Nat → Int) : Array Value := ((List.range 48).map fun p => Value.int .i64 (l p)).toArray
theorem lineArr_size (l : Nat → Int) : (lineArr l).size = 48 := by simp [lineArr]
theorem lineArr_get (l : Nat → Int) (p : Nat) (h : p < 48) : (lineArr l)[p]? = some (.int .i64 (l p)) := by
  simp only [lineArr, List.getElem?_toArray, List.getElem?_map, List.getElem?_range h, Option.map_some]
theorem lineArr_set (l : Nat → Int) (p : Nat) (x : Int) (h : p < 48) : (lineArr l).setIfInBounds p (.int .i64 x) = lineArr (fun q => if q = p then x else l q) := by
  apply Array.ext_getElem?
  intro q
  rw [Array.getElem?_setIfInBounds, lineArr_size]
  by_cases hq : q < 48
  · rw [lineArr_get _ q hq]
    by_cases e : p = q
    · subst e; rw [lineArr_get _ p hq]; simp [hq]
    · rw [if_neg e, lineArr_get _ q hq, if_neg (Ne.symm e)]
  · have h1 : ∀ m, (lineArr m)[q]? = none := fun m => by rw [Array.getElem?_eq_none_iff, lineArr_size]; omega
    rw [h1, h1]
    by_cases e : p = q
    · omega
    · rw [if_neg e]
theorem lineArr_congr {l m : Nat → Int} (h : ∀ p, p < 48 → l p = m p) : lineArr l = lineArr m := by
  apply Array.ext_getElem?
  intro q
  by_cases hq : q < 48
  · rw [lineArr_get _ q hq, lineArr_get _ q hq, h q hq]
  · have h1 : ∀ m, (lineArr m)[q]? = none := fun m => by rw [Array.getElem?_eq_none_iff, lineArr_size]; omega
    rw [h1, h1]
theorem lineArr_one (l : Nat → Int) : (lineArr l).all (·.oneCell') = true := by
  rw [Array.all_eq_true_iff_forall_mem]
  intro v hv
  simp only [lineArr, List.mem_toArray, List.mem_map] at hv
  obtain ⟨p, _, rfl⟩ := hv
  rfl

/-- Block L holds the line l. -/
def LineAt (w : World) (L : Nat) (l : Nat → Int) : Prop := w.heap[L]? = some (.cells (lineArr l) 68 (0, 0))
theorem LineAt.cell {w : World} {L : Nat} {l : Nat → Int} (h : LineAt w L l) (p : Nat) (hp : p < 48) : w.cell? ⟨L, p, none⟩ = some (.int .i64 (l p)) := by
  rw [cell_of_row w L p _ _ _ h, lineArr_get l p hp]
theorem LineAt.free {w : World} {L : Nat} {l : Nat → Int} (h : LineAt w L l) (p : Nat) : w.frozen? ⟨L, p, none⟩ = false := frozen_of_row w L p _ _ h
theorem LineAt.lt {w : World} {L : Nat} {l : Nat → Int} (h : LineAt w L l) : L < w.heap.size := (Array.getElem?_eq_some_iff.1 h).1
theorem LineAt.set {w : World} {L : Nat} {l : Nat → Int} (h : LineAt w L l) (p : Nat) (hp : p < 48) (x : Int) : LineAt (w.setCell ⟨L, p, none⟩ (.int .i64 x)) L (fun q => if q = p then x else l q) := by
  have := heap_setCell_same w L p _ _ (.int .i64 x) h
  rw [lineArr_set l p x hp] at this
  exact this
theorem LineAt.kept {w w' : World} {L : Nat} {l : Nat → Int} (h : LineAt w L l) (hk : w'.heap[L]? = w.heap[L]?) : LineAt w' L l := hk.trans h
theorem LineAt.later {w w' : World} {L : Nat} {l : Nat → Int} (h : LineAt w L l) (hb : Below w.heap.size w w') : LineAt w' L l := h.kept (hb.block L h.lt)
theorem LineAt.congr {w : World} {L : Nat} {l m : Nat → Int} (h : LineAt w L l) (e : ∀ p, p < 48 → l p = m p) : LineAt w L m := by
  unfold LineAt at h ⊢; rw [← lineArr_congr e]; exact h

theorem info_line : (Tryd.prog.info? 68).map (·.size) = some 48 := by kernel_rfl

set_option maxRecDepth 100000 in
set_option maxHeartbeats 1000000 in
theorem begun_any (w : World) : Calls Tryd.prog 20 #[] w fun e w' => e = .returned (.agg (lineArr fun p => (p : Int))) ∧ Below w.heap.size w w' := by
  have hz : (lineArr fun _ => 0) = #[.int .i64 0, .int .i64 0, .int .i64 0, .int .i64 0, .int .i64 0, .int .i64 0, .int .i64 0, .int .i64 0, .int .i64 0, .int .i64 0, .int .i64 0, .int .i64 0, .int .i64 0, .int .i64 0, .int .i64 0, .int .i64 0, .int .i64 0, .int .i64 0, .int .i64 0, .int .i64 0, .int .i64 0, .int .i64 0, .int .i64 0, .int .i64 0, .int .i64 0, .int .i64 0, .int .i64 0, .int .i64 0, .int .i64 0, .int .i64 0, .int .i64 0, .int .i64 0, .int .i64 0, .int .i64 0, .int .i64 0, .int .i64 0, .int .i64 0, .int .i64 0, .int .i64 0, .int .i64 0, .int .i64 0, .int .i64 0, .int .i64 0, .int .i64 0, .int .i64 0, .int .i64 0, .int .i64 0, .int .i64 0] := rfl
  have HZ := Lib.hid hz
  clear hz
  go_enter Tryd.func20, Tryd.ntmps20
  go_wp2
  rw [← HZ.out]
  obtain ⟨w1, hw1⟩ : ∃ w1, w1 = (w.alloc (.cells (lineArr fun _ => 0) 68)).alloc (.cells (lineArr fun _ => 0) 68) := ⟨_, rfl⟩
  have hl0 : LineAt w1 w.heap.size (fun _ => 0) := by rw [hw1]; exact heap_alloc2_old w _ _
  have hl1 : LineAt w1 (w.heap.size + 1) (fun _ => 0) := by rw [hw1]; exact heap_alloc2_new w _ _
  have hB1 : Below w.heap.size w w1 := by rw [hw1]; exact ((Below.refl _ _).alloc (Nat.le_refl _) _).alloc (by simp) _
  rw [← hw1]
  have H0 := Lib.hid hl0
  have H1 := Lib.hid hl1
  clear hw1 HZ hl0 hl1
  go_loopw [2, 3] (fun _ i wr => ∃ k : Nat, k ≤ 48 ∧ i = .int .i64 k ∧ Hid (LineAt wr w.heap.size (fun _ => 0)) ∧ Hid (LineAt wr (w.heap.size + 1) (fun p => if p < k then (p : Int) else 0)) ∧ Below w.heap.size w wr) (fun _ i _ => 48 - (intOf i).toNat)
  case atStart => exact ⟨0, Nat.zero_le _, rfl, H0, H1.out.congr (fun p _ => by simp), hB1⟩
  case round =>
    obtain ⟨k, hk, rfl, hL0, hL1, hB⟩ := hrel
    clear H0 H1 hB1
    by_cases hlt : k < 48
    · have hi0 : (k : Int) < 48 := by omega
      have hc := hL1.out.cell k hlt
      have hf := hL1.out.free k
      have hL2 : Hid (LineAt (wr.setCell ⟨w.heap.size + 1, k, none⟩ (.int .i64 k)) w.heap.size (fun _ => 0)) := hL0.out.kept (Below.heap_setCell wr ⟨w.heap.size + 1, k, none⟩ _ _ (by simp))
      have hL3 : Hid (LineAt (wr.setCell ⟨w.heap.size + 1, k, none⟩ (.int .i64 k)) (w.heap.size + 1) (fun p => if p < k + 1 then (p : Int) else 0)) := (hL1.out.set k hlt k).congr (fun p _ => by
        by_cases e : p = k
        · subst e; simp
        · by_cases e2 : p < k
          · simp [e, e2, show p < k + 1 by omega]
          · simp [e, e2, show ¬ p < k + 1 by omega])
      clear hL0 hL1
      go_wp2
      go_roundw
      case rel => exact ⟨k + 1, by omega, by go_num, hL2, hL3, hB.setCell (by simp) _⟩
      case measure => first | (simp [intOf]; done) | (simp [intOf]; omega)
    · obtain rfl : k = 48 := by omega
      have hE : LineAt wr (w.heap.size + 1) (fun p => (p : Int)) := hL1.out.congr (fun p hp => by simp [hp])
      have hle : w.heap.size ≤ wr.heap.size := hB.size
      go_wp2_with (first | (refine wpList_load_row rfl 68 _ rfl (w.heap.size + 1) rfl _ _ _ _ hE Tryd.underlying68 rfl (by rw [lineArr_size]; exact info_line) ?_) | (refine wpList_store_row rfl 68 _ _ rfl w.heap.size (lineArr fun p => (p : Int)) rfl rfl _ _ hL0.out (by rw [lineArr_size]; exact info_line) (by rw [lineArr_size, lineArr_size]) (lineArr_one _) ?_))
      refine bodyPost_ret (v := .agg (lineArr fun p => (p : Int))) (results_cell_row (P := Tryd.prog) rfl _ _ w.heap.size 68 (lineArr fun p => (p : Int)) (0, 0) _ rfl (setRow_heap wr w.heap.size _ _ _ _ hL0.out) Tryd.underlying68 rfl (by rw [lineArr_size]; exact info_line)) rfl ⟨rfl, ?_⟩
      exact hB.trans ⟨rfl, rfl, rfl, by simp, fun i hi => setRow_other wr w.heap.size i _ (by omega)⟩
end Go.Proofs.YtepofpnbgbmihaaDoor

/-
  (*line).swap.
-/
namespace Go.Proofs.YtepofpnbgbmihaaDoor
open Go.RowKit Go.Proofs.YtepofpnbgbmihaaDoorW.PrintLast
set_option linter.unusedSimpArgs false
set_option linter.unusedVariables false

def swapL (l : Nat → Int) (a : Nat) : Nat → Int := fun p => if p = a then l (a + 1) else if p = a + 1 then l a else l p

set_option maxRecDepth 100000 in
set_option maxHeartbeats 1000000 in
theorem swap_any (L a : Nat) (l : Nat → Int) (w : World) (ha : a + 1 < 48) (hL : LineAt w L l) :
    Calls Tryd.prog 23 #[.pointer (some ⟨L, 0, none⟩), .int .i64 a] w fun e w' => e = .returned (.tuple #[]) ∧ LineAt w' L (swapL l a) ∧ w.grownBy w' (some L) := by
  have hc1 := hL.cell a (by omega)
  have hc2 := hL.cell (a + 1) ha
  have hf1 := hL.free a
  have hf2 := hL.free (a + 1)
  have ha0 : (0 : Int) ≤ (a : Int) := by omega
  have ha1 : (a : Int) < 48 := by omega
  have ha2 : (a : Int) + 1 < 48 := by omega
  have hw64 := w64_succ a (by omega)
  have hw0 := z_succ a
  have hwn := n_succ a
  have H1 := (hL.set a (by omega) (l (a + 1))).set (a + 1) ha (l a)
  have HL : Hid (LineAt ((w.setCell ⟨L, a, none⟩ (.int .i64 (l (a + 1)))).setCell ⟨L, a + 1, none⟩ (.int .i64 (l a))) L (swapL l a)) := H1.congr (fun p _ => by
    unfold swapL
    by_cases e : p = a + 1
    · subst e; simp
    · by_cases e2 : p = a
      · subst e2; simp
      · simp [e, e2])
  have HG : Hid (w.grownBy ((w.setCell ⟨L, a, none⟩ (.int .i64 (l (a + 1)))).setCell ⟨L, a + 1, none⟩ (.int .i64 (l a))) (some L)) :=
    ⟨rfl, rfl, rfl, by simp [World.setCell], fun k _ hk => by
      have hne : k ≠ L := fun e => hk (by rw [e])
      rw [Below.heap_setCell _ ⟨L, a + 1, none⟩ _ k hne, Below.heap_setCell _ ⟨L, a, none⟩ _ k hne]⟩
  generalize l a = x at hc1 HL HG
  generalize l (a + 1) = y at hc2 HL HG
  clear hL H1
  go_enter Tryd.func23, Tryd.ntmps23
  go_wp2
  refine start_ (n := 22) (S := fun w' => w'.cell? ⟨L, a, none⟩ = some (.int .i64 x) ∧ w'.cell? ⟨L, a + 1, none⟩ = some (.int .i64 y)) (ds := [18, 21]) #[false, false, false, false, false, false, false, false, false, false, false, false, false, false, false, false, false, false, false, false, false, false] (by kernel_rfl) rfl rfl ⟨hc1, hc2⟩ (fun hHeld => ?_)
  refine pure_ (i := 0) (N := some 4) (v := ?_) (a' := ?_) #[true, false, false, false, false, false, false, false, false, false, false, false, false, false, false, false, false, false, false, false, false, false] rfl rfl (by kernel_rfl) (fun _ _ _ h => h) (Or.inl ⟨by rfl, ?_⟩) ?_ ?_
  rotate_left
  · intro w'
    go_simp
    with_reducible rfl
  rotate_left
  · simp only [Act.put, List.setIfInBounds_toArray, List.set_cons_zero, List.set_cons_succ, i64_w, i32_w]
    rfl
  refine pure_ (i := 1) (N := some 5) (v := ?_) (a' := ?_) #[true, true, false, false, false, false, false, false, false, false, false, false, false, false, false, false, false, false, false, false, false, false] rfl rfl (by kernel_rfl) (fun _ _ _ h => h) (Or.inl ⟨by rfl, ?_⟩) ?_ ?_
  rotate_left
  · intro w'
    go_simp
    with_reducible rfl
  rotate_left
  · simp only [Act.put, List.setIfInBounds_toArray, List.set_cons_zero, List.set_cons_succ, i64_w, i32_w]
    rfl
  refine pure_ (i := 2) (N := some 6) (v := ?_) (a' := ?_) #[true, true, true, false, false, false, false, false, false, false, false, false, false, false, false, false, false, false, false, false, false, false] rfl rfl (by kernel_rfl) (fun _ _ _ h => h) (Or.inl ⟨by rfl, ?_⟩) ?_ ?_
  rotate_left
  · intro w'
    go_simp
    with_reducible rfl
  rotate_left
  · simp only [Act.put, List.setIfInBounds_toArray, List.set_cons_zero, List.set_cons_succ, i64_w, i32_w]
    rfl
  refine pure_ (i := 3) (N := some 7) (v := ?_) (a' := ?_) #[true, true, true, true, false, false, false, false, false, false, false, false, false, false, false, false, false, false, false, false, false, false] rfl rfl (by kernel_rfl) (fun _ _ _ h => h) (Or.inl ⟨by rfl, ?_⟩) ?_ ?_
  rotate_left
  · intro w'
    go_simp
    with_reducible rfl
  rotate_left
  · simp only [Act.put, List.setIfInBounds_toArray, List.set_cons_zero, List.set_cons_succ, i64_w, i32_w]
    rfl
  refine pure_ (i := 4) (N := some 8) (v := ?_) (a' := ?_) #[true, true, true, true, true, false, false, false, false, false, false, false, false, false, false, false, false, false, false, false, false, false] rfl rfl (by kernel_rfl) (fun _ _ _ h => h) (Or.inl ⟨by rfl, ?_⟩) ?_ ?_
  rotate_left
  · intro w'
    go_simp
    with_reducible rfl
  rotate_left
  · simp only [Act.put, List.setIfInBounds_toArray, List.set_cons_zero, List.set_cons_succ, i64_w, i32_w]
    rfl
  refine pure_ (i := 5) (N := some 9) (v := ?_) (a' := ?_) #[true, true, true, true, true, true, false, false, false, false, false, false, false, false, false, false, false, false, false, false, false, false] rfl rfl (by kernel_rfl) (fun _ _ _ h => h) (Or.inl ⟨by rfl, ?_⟩) ?_ ?_
  rotate_left
  · intro w'
    go_simp
    with_reducible rfl
  rotate_left
  · simp only [Act.put, List.setIfInBounds_toArray, List.set_cons_zero, List.set_cons_succ, i64_w, i32_w]
    rfl
  refine pure_ (i := 6) (N := some 10) (v := ?_) (a' := ?_) #[true, true, true, true, true, true, true, false, false, false, false, false, false, false, false, false, false, false, false, false, false, false] rfl rfl (by kernel_rfl) (fun _ _ _ h => h) (Or.inl ⟨by rfl, ?_⟩) ?_ ?_
  rotate_left
  · intro w'
    go_simp
    with_reducible rfl
  rotate_left
  · simp only [Act.put, List.setIfInBounds_toArray, List.set_cons_zero, List.set_cons_succ, i64_w, i32_w]
    rfl
  refine pure_ (i := 7) (N := some 11) (v := ?_) (a' := ?_) #[true, true, true, true, true, true, true, true, false, false, false, false, false, false, false, false, false, false, false, false, false, false] rfl rfl (by kernel_rfl) (fun _ _ _ h => h) (Or.inl ⟨by rfl, ?_⟩) ?_ ?_
  rotate_left
  · intro w'
    go_simp
    with_reducible rfl
  rotate_left
  · simp only [Act.put, List.setIfInBounds_toArray, List.set_cons_zero, List.set_cons_succ, i64_w, i32_w]
    rfl
  refine pure_ (i := 8) (N := some 12) (v := ?_) (a' := ?_) #[true, true, true, true, true, true, true, true, true, false, false, false, false, false, false, false, false, false, false, false, false, false] rfl rfl (by kernel_rfl) (fun _ _ _ h => h) (Or.inl ⟨by rfl, ?_⟩) ?_ ?_
  rotate_left
  · intro w'
    go_simp
    with_reducible rfl
  rotate_left
  · simp only [Act.put, List.setIfInBounds_toArray, List.set_cons_zero, List.set_cons_succ, i64_w, i32_w]
    rfl
  refine pure_ (i := 9) (N := some 13) (v := ?_) (a' := ?_) #[true, true, true, true, true, true, true, true, true, true, false, false, false, false, false, false, false, false, false, false, false, false] rfl rfl (by kernel_rfl) (fun _ _ _ h => h) (Or.inl ⟨by rfl, ?_⟩) ?_ ?_
  rotate_left
  · intro w'
    go_simp
    with_reducible rfl
  rotate_left
  · simp only [Act.put, List.setIfInBounds_toArray, List.set_cons_zero, List.set_cons_succ, i64_w, i32_w]
    rfl
  refine pure_ (i := 11) (N := some 15) (v := ?_) (a' := ?_) #[true, true, true, true, true, true, true, true, true, true, false, true, false, false, false, false, false, false, false, false, false, false] rfl rfl (by kernel_rfl) (fun _ _ _ h => h) (Or.inl ⟨by rfl, ?_⟩) ?_ ?_
  rotate_left
  · intro w'
    go_simp
    with_reducible rfl
  rotate_left
  · simp only [Act.put, List.setIfInBounds_toArray, List.set_cons_zero, List.set_cons_succ, i64_w, i32_w]
    rfl
  refine pure_ (i := 12) (N := some 16) (v := ?_) (a' := ?_) #[true, true, true, true, true, true, true, true, true, true, false, true, true, false, false, false, false, false, false, false, false, false] rfl rfl (by kernel_rfl) (fun _ _ _ h => h) (Or.inl ⟨by rfl, ?_⟩) ?_ ?_
  rotate_left
  · intro w'
    go_simp
    with_reducible rfl
  rotate_left
  · simp only [Act.put, List.setIfInBounds_toArray, List.set_cons_zero, List.set_cons_succ, i64_w, i32_w]
    rfl
  refine pure_ (i := 13) (N := some 17) (v := ?_) (a' := ?_) #[true, true, true, true, true, true, true, true, true, true, false, true, true, true, false, false, false, false, false, false, false, false] rfl rfl (by kernel_rfl) (fun _ _ _ h => h) (Or.inl ⟨by rfl, ?_⟩) ?_ ?_
  rotate_left
  · intro w'
    go_simp
    with_reducible rfl
  rotate_left
  · simp only [Act.put, List.setIfInBounds_toArray, List.set_cons_zero, List.set_cons_succ, i64_w, i32_w]
    rfl
  refine pure_ (i := 14) (N := some 18) (v := ?_) (a' := ?_) #[true, true, true, true, true, true, true, true, true, true, false, true, true, true, true, false, false, false, false, false, false, false] rfl rfl (by kernel_rfl) (fun _ _ _ h => h) (Or.inl ⟨by rfl, ?_⟩) ?_ ?_
  rotate_left
  · intro w'
    go_simp
    with_reducible rfl
  rotate_left
  · simp only [Act.put, List.setIfInBounds_toArray, List.set_cons_zero, List.set_cons_succ, i64_w, i32_w]
    rfl
  refine pure_ (i := 16) (N := some 20) (v := ?_) (a' := ?_) #[true, true, true, true, true, true, true, true, true, true, false, true, true, true, true, false, true, false, false, false, false, false] rfl rfl (by kernel_rfl) (fun _ _ _ h => h) (Or.inl ⟨by rfl, ?_⟩) ?_ ?_
  rotate_left
  · intro w'
    go_simp
    with_reducible rfl
  rotate_left
  · simp only [Act.put, List.setIfInBounds_toArray, List.set_cons_zero, List.set_cons_succ, i64_w, i32_w]
    rfl
  refine pure_ (i := 19) (N := some 22) (v := ?_) (a' := ?_) #[true, true, true, true, true, true, true, true, true, true, false, true, true, true, true, false, true, false, false, true, false, false] rfl rfl (by kernel_rfl) (fun _ _ _ h => h) (Or.inl ⟨by rfl, ?_⟩) ?_ ?_
  rotate_left
  · intro w'
    go_simp
    with_reducible rfl
  rotate_left
  · simp only [Act.put, List.setIfInBounds_toArray, List.set_cons_zero, List.set_cons_succ, i64_w, i32_w]
    rfl
  refine take_ (i := 10) (N := some 14) (v := ?_) (a' := ?_) #[true, true, true, true, true, true, true, true, true, true, true, true, true, true, true, false, true, false, false, true, false, false] rfl rfl (by kernel_rfl) (fun _ _ _ h => h) (Or.inl ⟨by rfl, ?_⟩) hHeld ?_ ?_
  rotate_left
  · rintro w' ⟨s0, s1⟩
    go_simp
    with_reducible rfl
  rotate_left
  · simp only [Act.put, List.setIfInBounds_toArray, List.set_cons_zero, List.set_cons_succ, i64_w, i32_w]
    rfl
  refine take_ (i := 15) (N := some 19) (v := ?_) (a' := ?_) #[true, true, true, true, true, true, true, true, true, true, true, true, true, true, true, true, true, false, false, true, false, false] rfl rfl (by kernel_rfl) (fun _ _ _ h => h) (Or.inl ⟨by rfl, ?_⟩) hHeld ?_ ?_
  rotate_left
  · rintro w' ⟨s0, s1⟩
    go_simp
    with_reducible rfl
  rotate_left
  · simp only [Act.put, List.setIfInBounds_toArray, List.set_cons_zero, List.set_cons_succ, i64_w, i32_w]
    rfl
  refine pure_ (i := 17) (N := some 21) (v := ?_) (a' := ?_) #[true, true, true, true, true, true, true, true, true, true, true, true, true, true, true, true, true, true, false, true, false, false] rfl rfl (by kernel_rfl) (fun _ _ _ h => h) (Or.inl ⟨by rfl, ?_⟩) ?_ ?_
  rotate_left
  · intro w'
    go_simp
    with_reducible rfl
  rotate_left
  · simp only [Act.put, List.setIfInBounds_toArray, List.set_cons_zero, List.set_cons_succ, i64_w, i32_w]
    rfl
  refine last_ (i := 18) (N := none) #[true, true, true, true, true, true, true, true, true, true, true, true, true, true, true, true, true, true, true, true, false, false] rfl rfl (by kernel_rfl) (by decide) (fun K hK => ?_)
  refine skip_ (w1 := ?_) (by rfl) rfl ?_ ?_
  rotate_left
  · go_simp
    rfl
  refine hK.out _ _ ?_
  clear hK K
  refine pure_ (i := 20) (N := some 23) (v := ?_) (a' := ?_) #[true, true, true, true, true, true, true, true, true, true, true, true, true, true, true, true, true, true, true, true, true, false] rfl rfl (by kernel_rfl) (fun _ _ _ h => h) (Or.inl ⟨by rfl, ?_⟩) ?_ ?_
  rotate_left
  · intro w'
    go_simp
    with_reducible rfl
  rotate_left
  · simp only [Act.put, List.setIfInBounds_toArray, List.set_cons_zero, List.set_cons_succ, i64_w, i32_w]
    rfl
  refine last_ (i := 21) (N := none) #[true, true, true, true, true, true, true, true, true, true, true, true, true, true, true, true, true, true, true, true, true, true] rfl rfl (by kernel_rfl) (by decide) (fun K hK => ?_)
  refine skip_ (w1 := ?_) (by rfl) rfl ?_ ?_
  rotate_left
  · go_simp
    rfl
  refine hK.out _ _ ?_
  clear hK K
  refine done_ (by kernel_rfl) ?_
  clear hw64 hw0 hwn
  go_end0
  exact ⟨rfl, HL.out, ⟨HG.out.os, HG.out.tape, HG.out.output, HG.out.size, HG.out.block⟩⟩
end Go.Proofs.YtepofpnbgbmihaaDoor

/-
  cloth.Make's closure: a pin.
-/
namespace Go.Proofs.YtepofpnbgbmihaaDoor
open Go.RowKit Go.Proofs.YtepofpnbgbmihaaDoorW.PrintLast
set_option linter.unusedSimpArgs false
set_option linter.unusedVariables false

structure Crs where
  work : Int
  at_ : Int
  over : Int
  under : Int
deriving DecidableEq
structure Pn where
  work : Int
  at_ : Int
  left : Int
  right : Int
deriving DecidableEq
def encX (c : Crs) : List Value := [.int .i64 c.work, .int .i64 c.at_, .int .i64 c.over, .int .i64 c.under]
def encP (c : Pn) : List Value := [.int .i64 c.work, .int .i64 c.at_, .int .i64 c.left, .int .i64 c.right]
theorem encX_len (c : Crs) : (encX c).length = 4 := rfl
theorem encP_len (c : Pn) : (encP c).length = 4 := rfl
theorem encX_one (c : Crs) : ∀ u ∈ encX c, u.oneCell' = true := by
  intro u hu
  simp only [encX, List.mem_cons, List.not_mem_nil, or_false] at hu
  rcases hu with rfl | rfl | rfl | rfl <;> rfl
theorem encP_one (c : Pn) : ∀ u ∈ encP c, u.oneCell' = true := by
  intro u hu
  simp only [encP, List.mem_cons, List.not_mem_nil, or_false] at hu
  rcases hu with rfl | rfl | rfl | rfl <;> rfl

theorem info_cross : (Tryd.prog.info? 74).map (fun i => (i.zero, i.size, i.bytes)) = some (some (.agg #[.int .i64 0, .int .i64 0, .int .i64 0, .int .i64 0]), 4, 32) := by kernel_rfl
theorem info_pin : (Tryd.prog.info? 71).map (fun i => (i.zero, i.size, i.bytes)) = some (some (.agg #[.int .i64 0, .int .i64 0, .int .i64 0, .int .i64 0]), 4, 32) := by kernel_rfl

abbrev OwnX (w : World) (base : Nat) (v : Value) (xs : List Crs) : Prop := OwnL 74 4 encX w base v xs
abbrev OwnP (w : World) (base : Nat) (v : Value) (xs : List Pn) : Prop := OwnL 71 4 encP w base v xs

theorem step_pin {W W2 : World} {ops : Array Oper} {o : Oper} {a : Act} {K : Act → World → Prop} {E : Prop} {Q : Exit → Act → World → Prop} (hgd : o.guard = none) (s x : Operand)
    (ho : o.op = .call { callee := .builtin .append, args := #[s, x], argTypes := #[39, 39] })
    (base : Nat) (v : Value) (xs : List Pn) (hs : a.eval s = v) (hown : OwnP W base v xs) (c : Nat) (y : Pn)
    (g : Nat) (hg : g = W.heap.size) (hx : a.eval x = .slice (some ⟨g, 0, none⟩) 1 c) (hlen : xs.length < 1000000000) (hbase : base ≤ W.heap.size)
    (hW : W2 = W.alloc (.cells #[.int .i64 y.work, .int .i64 y.at_, .int .i64 y.left, .int .i64 y.right] 71))
    (h : ∀ v' w', OwnP w' base v' (xs ++ [y]) → W.grownBy w' v.ownBlock → v' ≠ .slice none 0 0 → Hat W v v' → K (a.put o.dst v') w') :
    if Region.wanted o (yielded ops a.tmps) = true then Oper.wp Tryd.prog o a W2 K Q else E := by
  obtain ⟨i0, hi, hz0, hz1, hz2⟩ := info_parts info_pin
  exact step_app1 hgd s x 39 ho 71 i0 _ 4 32 Tryd.underlying39 hi hz0 hz1 hz2 rfl (by decide) encP encP_len encP_one base v xs hs hown _ c y rfl g hg hx (by omega) hlen hbase hW h
theorem step_cross {W W2 : World} {ops : Array Oper} {o : Oper} {a : Act} {K : Act → World → Prop} {E : Prop} {Q : Exit → Act → World → Prop} (hgd : o.guard = none) (s x : Operand)
    (ho : o.op = .call { callee := .builtin .append, args := #[s, x], argTypes := #[38, 38] })
    (base : Nat) (v : Value) (xs : List Crs) (hs : a.eval s = v) (hown : OwnX W base v xs) (c : Nat) (y : Crs)
    (g : Nat) (hg : g = W.heap.size) (hx : a.eval x = .slice (some ⟨g, 0, none⟩) 1 c) (hlen : xs.length < 1000000000) (hbase : base ≤ W.heap.size)
    (hW : W2 = W.alloc (.cells #[.int .i64 y.work, .int .i64 y.at_, .int .i64 y.over, .int .i64 y.under] 74))
    (h : ∀ v' w', OwnX w' base v' (xs ++ [y]) → W.grownBy w' v.ownBlock → v' ≠ .slice none 0 0 → Hat W v v' → K (a.put o.dst v') w') :
    if Region.wanted o (yielded ops a.tmps) = true then Oper.wp Tryd.prog o a W2 K Q else E := by
  obtain ⟨i0, hi, hz0, hz1, hz2⟩ := info_parts info_cross
  exact step_app1 hgd s x 38 ho 74 i0 _ 4 32 Tryd.underlying38 hi hz0 hz1 hz2 rfl (by decide) encX encX_len encX_one base v xs hs hown _ c y rfl g hg hx (by omega) hlen hbase hW h
theorem app_cross {W W2 : World} {ops : Array Oper} {rest : List Oper} {o : Oper} {a : Act} {Q : Exit → Act → World → Prop} (hgd : o.guard = none) (s x : Operand)
    (ho : o.op = .call { callee := .builtin .append, args := #[s, x], argTypes := #[38, 38] })
    (base : Nat) (v : Value) (xs : List Crs) (hs : a.eval s = v) (hown : OwnX W base v xs) (c : Nat) (y : Crs)
    (g : Nat) (hg : g = W.heap.size) (hx : a.eval x = .slice (some ⟨g, 0, none⟩) 1 c) (hlen : xs.length < 1000000000) (hbase : base ≤ W.heap.size)
    (hW : W2 = W.alloc (.cells #[.int .i64 y.work, .int .i64 y.at_, .int .i64 y.over, .int .i64 y.under] 74))
    (h : ∀ v' w', OwnX w' base v' (xs ++ [y]) → W.grownBy w' v.ownBlock → v' ≠ .slice none 0 0 → Hat W v v' → wpList Tryd.prog ops Q rest (a.put o.dst v') w') :
    wpList Tryd.prog ops Q (o :: rest) a W2 := by
  obtain ⟨i0, hi, hz0, hz1, hz2⟩ := info_parts info_cross
  exact wpList_app1 hgd s x 38 ho 74 i0 _ 4 32 Tryd.underlying38 hi hz0 hz1 hz2 rfl (by decide) encX encX_len encX_one base v xs hs hown _ c y rfl g hg hx (by omega) hlen hbase hW h

/-- A row's block is none of another type. -/
theorem own_type_ne {α : Type} {e : TypeId} {sz : Nat} {enc : α → List Value} {w : World} {base : Nat} {v : Value} {xs : List α} (h : OwnL e sz enc w base v xs) {k : Nat} {cs : Array Value} {t : TypeId} {fr : Nat × Nat}
    (hk : w.heap[k]? = some (.cells cs t fr)) (hne : t ≠ e) : v.ownBlock ≠ some k := by
  rcases h.2 with ⟨rfl, _⟩ | ⟨g, cap, cur, rfl, _, hg, _⟩
  · simp [Value.ownBlock]
  · intro he
    simp only [Value.ownBlock, Option.some.injEq] at he
    subst he
    rw [hg] at hk
    injection hk with hk
    injection hk with _ h2 _
    exact hne h2.symm
theorem own_types {α β : Type} {e e2 : TypeId} {sz sz2 : Nat} {enc : α → List Value} {enc2 : β → List Value} {w : World} {base base2 : Nat} {v v2 : Value} {xs : List α} {ys : List β}
    (h : OwnL e sz enc w base v xs) (h2 : OwnL e2 sz2 enc2 w base2 v2 ys) (hne : e2 ≠ e) : v2.ownBlock = none ∨ v2.ownBlock ≠ v.ownBlock := by
  rcases h2.2 with ⟨rfl, _⟩ | ⟨g, cap, cur, hv, _, hg, _⟩
  · exact .inl rfl
  · refine .inr fun e3 => own_type_ne h hg hne ?_
    rw [← e3, hv]; rfl

/-- What a step keeps: all blocks that lay, but those of S. -/
structure Kp (w w' : World) (S : Nat → Prop) : Prop where
  os : w'.os = w.os
  tape : w'.tape = w.tape
  output : w'.output = w.output
  size : w.heap.size ≤ w'.heap.size
  block : ∀ k, k < w.heap.size → ¬ S k → w'.heap[k]? = w.heap[k]?
theorem Kp.refl (w : World) (S : Nat → Prop) : Kp w w S := ⟨rfl, rfl, rfl, Nat.le_refl _, fun _ _ _ => rfl⟩
theorem Kp.trans {a b c : World} {S : Nat → Prop} (h : Kp a b S) (k : Kp b c S) : Kp a c S :=
  ⟨k.os.trans h.os, k.tape.trans h.tape, k.output.trans h.output, Nat.le_trans h.size k.size, fun i hi hs => (k.block i (Nat.lt_of_lt_of_le hi h.size) hs).trans (h.block i hi hs)⟩
theorem Kp.mono {a b : World} {S T : Nat → Prop} (h : Kp a b S) (hST : ∀ k, k < a.heap.size → S k → T k) : Kp a b T := ⟨h.os, h.tape, h.output, h.size, fun i hi hs => h.block i hi (fun h2 => hs (hST i hi h2))⟩
theorem Kp.below {B : Nat} {w0 w w' : World} {S : Nat → Prop} (hB : Below B w0 w) (hle : B ≤ w.heap.size) (h : Kp w w' S) (hS : ∀ k, S k → B ≤ k) : Below B w0 w' :=
  hB.trans ⟨h.os, h.tape, h.output, h.size, fun i hi => h.block i (Nat.lt_of_lt_of_le hi hle) (fun hs => by have := hS i hs; omega)⟩
theorem Kp.of_grown {w w' : World} {row : Option Nat} {S : Nat → Prop} (h : w.grownBy w' row) (hS : ∀ k, row = some k → S k) : Kp w w' S := ⟨h.os, h.tape, h.output, h.size, fun i hi hs => h.block i hi (fun e => hs (hS i e.symm))⟩
theorem Kp.setCell (w : World) (p : Addr) (v : Value) {S : Nat → Prop} (hS : S p.block) : Kp w (w.setCell p v) S :=
  ⟨rfl, rfl, rfl, by simp [World.setCell], fun i _ hs => Below.heap_setCell w p v i (fun e => hs (e ▸ hS))⟩
theorem Kp.alloc (w : World) (o : Obj) (S : Nat → Prop) : Kp w (w.alloc o) S := ⟨rfl, rfl, rfl, by simp, fun i hi _ => Below.heap_alloc w o i hi⟩
theorem Kp.drew (w : World) (S : Nat → Prop) : Kp w w.drew S := ⟨rfl, rfl, rfl, Nat.le_refl _, fun _ _ _ => rfl⟩
theorem Kp.of_below {w w' : World} {S : Nat → Prop} (h : Below w.heap.size w w') : Kp w w' S := ⟨h.os, h.tape, h.output, h.size, fun i hi _ => h.block i hi⟩
theorem OwnL.kp {α : Type} {e : TypeId} {sz : Nat} {enc : α → List Value} {w w' : World} {base : Nat} {v : Value} {xs : List α} {S : Nat → Prop} (h : OwnL e sz enc w base v xs) (hk : Kp w w' S) (hS : ∀ k, v.ownBlock = some k → ¬ S k) : OwnL e sz enc w' base v xs := by
  refine ⟨h.1, ?_⟩
  rcases h.2 with hn | ⟨g, cap, cur, rfl, hb, hgg, rest⟩
  · exact .inl hn
  · exact .inr ⟨g, cap, cur, rfl, hb, (hk.block g (Array.getElem?_eq_some_iff.1 hgg).1 (hS g rfl)).trans hgg, rest⟩

set_option maxRecDepth 100000 in
set_option maxHeartbeats 1000000 in
theorem pin_any (C I M L base : Nat) (thr : Int) (i mid : Nat) (l : Nat → Int) (cv pv : Value) (ps : List Pn) (w : World) (hmid : mid + 1 < 48) (hps : ps.length < 1000000) (hbase : base ≤ w.heap.size)
    (hC : w.heap[C]? = some (.cells #[.int .i64 thr, cv, pv] 41 (0, 0))) (hI : w.heap[I]? = some (.cells #[.int .i64 i] 3 (0, 0))) (hM : w.heap[M]? = some (.cells #[.int .i64 mid] 3 (0, 0)))
    (hL : LineAt w L l) (hO : OwnP w base pv ps) :
    Calls Tryd.prog 21 #[.pointer (some ⟨C, 0, none⟩), .pointer (some ⟨I, 0, none⟩), .pointer (some ⟨M, 0, none⟩), .pointer (some ⟨L, 0, none⟩)] w fun e w' => e = .returned (.tuple #[]) ∧
      (∃ pv', w'.heap[C]? = some (.cells #[.int .i64 thr, cv, pv'] 41 (0, 0)) ∧ OwnP w' base pv' (ps ++ [⟨i, mid, l mid, l (mid + 1)⟩])) ∧ Kp w w' (fun k => k = C ∨ pv.ownBlock = some k) := by
  have hcC : w.cell? ⟨C, 2, none⟩ = some pv := by rw [cell_of_row w C 2 _ _ _ hC]; rfl
  have hcI : w.cell? ⟨I, 0, none⟩ = some (.int .i64 i) := by rw [cell_of_row w I 0 _ _ _ hI]; rfl
  have hcM : w.cell? ⟨M, 0, none⟩ = some (.int .i64 mid) := by rw [cell_of_row w M 0 _ _ _ hM]; rfl
  have hc1 := hL.cell mid (by omega)
  have hc2 := hL.cell (mid + 1) hmid
  have hfC := frozen_of_row w C 2 _ _ hC
  have hnC := own_type_ne hO hC (by decide)
  have hnI := own_type_ne hO hI (by decide)
  have hnM := own_type_ne hO hM (by decide)
  have hnL := own_type_ne hO hL (by decide)
  have HnC := Lib.hid hnC
  have HnI := Lib.hid hnI
  have HnM := Lib.hid hnM
  have HnL := Lib.hid hnL
  have hClt : C < w.heap.size := (Array.getElem?_eq_some_iff.1 hC).1
  have HC := Lib.hid hC
  have HO := Lib.hid hO
  have hm0 : (0 : Int) ≤ (mid : Int) := by omega
  have hm1 : (mid : Int) < 48 := by omega
  have hm2 : (mid : Int) + 1 < 48 := by omega
  have hw64 := w64_succ mid (by omega)
  have hw0 := z_succ mid
  have hwn := n_succ mid
  generalize l mid = x at hc1
  generalize l (mid + 1) = y at hc2
  clear hnC hnI hnM hnL hC hI hM hL hO
  go_enter Tryd.func21, Tryd.ntmps21
  go_wp2
  refine start_ (n := 16) (S := fun w' => w'.cell? ⟨C, 2, none⟩ = some pv ∧ w'.cell? ⟨I, 0, none⟩ = some (.int .i64 i) ∧ w'.cell? ⟨M, 0, none⟩ = some (.int .i64 mid) ∧ w'.cell? ⟨L, mid, none⟩ = some (.int .i64 x) ∧ w'.cell? ⟨L, mid + 1, none⟩ = some (.int .i64 y)) (ds := [15]) #[false, false, false, false, false, false, false, false, false, false, false, false, false, false, false, false] (by kernel_rfl) rfl rfl ⟨hcC, hcI, hcM, hc1, hc2⟩ (fun hHeld => ?_)
  refine pure_ (i := 0) (N := some 4) (v := ?_) (a' := ?_) #[true, false, false, false, false, false, false, false, false, false, false, false, false, false, false, false] rfl rfl (by kernel_rfl) (fun _ _ _ h => h) (Or.inl ⟨by rfl, ?_⟩) ?_ ?_
  rotate_left
  · intro w'
    go_simp
    with_reducible rfl
  rotate_left
  · simp only [Act.put, List.setIfInBounds_toArray, List.set_cons_zero, List.set_cons_succ, i64_w, i32_w]
    rfl
  refine take_ (i := 1) (N := some 5) (v := ?_) (a' := ?_) #[true, true, false, false, false, false, false, false, false, false, false, false, false, false, false, false] rfl rfl (by kernel_rfl) (fun _ _ _ h => h) (Or.inl ⟨by rfl, ?_⟩) hHeld ?_ ?_
  rotate_left
  · rintro w' ⟨s0, s1, s2, s3, s4⟩
    go_simp
    with_reducible rfl
  rotate_left
  · simp only [Act.put, List.setIfInBounds_toArray, List.set_cons_zero, List.set_cons_succ, i64_w, i32_w]
    rfl
  refine take_ (i := 2) (N := some 6) (v := ?_) (a' := ?_) #[true, true, true, false, false, false, false, false, false, false, false, false, false, false, false, false] rfl rfl (by kernel_rfl) (fun _ _ _ h => h) (Or.inl ⟨by rfl, ?_⟩) hHeld ?_ ?_
  rotate_left
  · rintro w' ⟨s0, s1, s2, s3, s4⟩
    go_simp
    with_reducible rfl
  rotate_left
  · simp only [Act.put, List.setIfInBounds_toArray, List.set_cons_zero, List.set_cons_succ, i64_w, i32_w]
    rfl
  refine take_ (i := 3) (N := some 7) (v := ?_) (a' := ?_) #[true, true, true, true, false, false, false, false, false, false, false, false, false, false, false, false] rfl rfl (by kernel_rfl) (fun _ _ _ h => h) (Or.inl ⟨by rfl, ?_⟩) hHeld ?_ ?_
  rotate_left
  · rintro w' ⟨s0, s1, s2, s3, s4⟩
    go_simp
    with_reducible rfl
  rotate_left
  · simp only [Act.put, List.setIfInBounds_toArray, List.set_cons_zero, List.set_cons_succ, i64_w, i32_w]
    rfl
  refine take_ (i := 4) (N := some 8) (v := ?_) (a' := ?_) #[true, true, true, true, true, false, false, false, false, false, false, false, false, false, false, false] rfl rfl (by kernel_rfl) (fun _ _ _ h => h) (Or.inl ⟨by rfl, ?_⟩) hHeld ?_ ?_
  rotate_left
  · rintro w' ⟨s0, s1, s2, s3, s4⟩
    go_simp
    with_reducible rfl
  rotate_left
  · simp only [Act.put, List.setIfInBounds_toArray, List.set_cons_zero, List.set_cons_succ, i64_w, i32_w]
    rfl
  refine pure_ (i := 5) (N := some 9) (v := ?_) (a' := ?_) #[true, true, true, true, true, true, false, false, false, false, false, false, false, false, false, false] rfl rfl (by kernel_rfl) (fun _ _ _ h => h) (Or.inl ⟨by rfl, ?_⟩) ?_ ?_
  rotate_left
  · intro w'
    go_simp
    with_reducible rfl
  rotate_left
  · simp only [Act.put, List.setIfInBounds_toArray, List.set_cons_zero, List.set_cons_succ, i64_w, i32_w]
    rfl
  refine take_ (i := 6) (N := some 10) (v := ?_) (a' := ?_) #[true, true, true, true, true, true, true, false, false, false, false, false, false, false, false, false] rfl rfl (by kernel_rfl) (fun _ _ _ h => h) (Or.inl ⟨by rfl, ?_⟩) hHeld ?_ ?_
  rotate_left
  · rintro w' ⟨s0, s1, s2, s3, s4⟩
    go_simp
    with_reducible rfl
  rotate_left
  · simp only [Act.put, List.setIfInBounds_toArray, List.set_cons_zero, List.set_cons_succ, i64_w, i32_w]
    rfl
  refine take_ (i := 7) (N := some 11) (v := ?_) (a' := ?_) #[true, true, true, true, true, true, true, true, false, false, false, false, false, false, false, false] rfl rfl (by kernel_rfl) (fun _ _ _ h => h) (Or.inl ⟨by rfl, ?_⟩) hHeld ?_ ?_
  rotate_left
  · rintro w' ⟨s0, s1, s2, s3, s4⟩
    go_simp
    with_reducible rfl
  rotate_left
  · simp only [Act.put, List.setIfInBounds_toArray, List.set_cons_zero, List.set_cons_succ, i64_w, i32_w]
    rfl
  refine pure_ (i := 8) (N := some 12) (v := ?_) (a' := ?_) #[true, true, true, true, true, true, true, true, true, false, false, false, false, false, false, false] rfl rfl (by kernel_rfl) (fun _ _ _ h => h) (Or.inl ⟨by rfl, ?_⟩) ?_ ?_
  rotate_left
  · intro w'
    go_simp
    with_reducible rfl
  rotate_left
  · simp only [Act.put, List.setIfInBounds_toArray, List.set_cons_zero, List.set_cons_succ, i64_w, i32_w]
    rfl
  refine pure_ (i := 9) (N := some 13) (v := ?_) (a' := ?_) #[true, true, true, true, true, true, true, true, true, true, false, false, false, false, false, false] rfl rfl (by kernel_rfl) (fun _ _ _ h => h) (Or.inl ⟨by rfl, ?_⟩) ?_ ?_
  rotate_left
  · intro w'
    go_simp
    with_reducible rfl
  rotate_left
  · simp only [Act.put, List.setIfInBounds_toArray, List.set_cons_zero, List.set_cons_succ, i64_w, i32_w]
    rfl
  refine take_ (i := 10) (N := some 14) (v := ?_) (a' := ?_) #[true, true, true, true, true, true, true, true, true, true, true, false, false, false, false, false] rfl rfl (by kernel_rfl) (fun _ _ _ h => h) (Or.inl ⟨by rfl, ?_⟩) hHeld ?_ ?_
  rotate_left
  · rintro w' ⟨s0, s1, s2, s3, s4⟩
    go_simp
    with_reducible rfl
  rotate_left
  · simp only [Act.put, List.setIfInBounds_toArray, List.set_cons_zero, List.set_cons_succ, i64_w, i32_w]
    rfl
  refine pure_ (i := 11) (N := some 15) (v := ?_) (a' := ?_) #[true, true, true, true, true, true, true, true, true, true, true, true, false, false, false, false] rfl rfl (by kernel_rfl) (fun _ _ _ h => h) (Or.inl ⟨by rfl, ?_⟩) ?_ ?_
  rotate_left
  · intro w'
    go_simp
    with_reducible rfl
  rotate_left
  · simp only [Act.put, List.setIfInBounds_toArray, List.set_cons_zero, List.set_cons_succ, i64_w, i32_w]
    rfl
  refine one_ (i := 12) (N := some 16) #[true, true, true, true, true, true, true, true, true, true, true, true, true, false, false, false] rfl rfl (by kernel_rfl) (by decide) (fun K hK => ?_)
  refine value_ (w1 := ?_) (v := ?_) (by rfl) rfl ?_ ?_
  rotate_left 2
  · go_simp
    constructor
    · rfl
    · rfl
  refine hK.out _ _ ⟨(World.cell?_alloc_lt _ _ _ (World.block_lt_of_cell? _ _ (hHeld.1))).trans (hHeld.1), (World.cell?_alloc_lt _ _ _ (World.block_lt_of_cell? _ _ (hHeld.2.1))).trans (hHeld.2.1), (World.cell?_alloc_lt _ _ _ (World.block_lt_of_cell? _ _ (hHeld.2.2.1))).trans (hHeld.2.2.1), (World.cell?_alloc_lt _ _ _ (World.block_lt_of_cell? _ _ (hHeld.2.2.2.1))).trans (hHeld.2.2.2.1), (World.cell?_alloc_lt _ _ _ (World.block_lt_of_cell? _ _ (hHeld.2.2.2.2))).trans (hHeld.2.2.2.2)⟩ (fun hHeld => ?_)
  clear hK K
  refine norm_ (a' := ?_) ?_ ?_
  rotate_left
  · show Act.put _ (some 16) _ = _
    simp only [Act.put, List.setIfInBounds_toArray, List.set_cons_zero, List.set_cons_succ, i64_w, i32_w]
    rfl
  refine one_ (i := 13) (N := some 17) #[true, true, true, true, true, true, true, true, true, true, true, true, true, true, false, false] rfl rfl (by kernel_rfl) (by decide) (fun K hK => ?_)
  refine step_pin rfl _ _ rfl base pv ps rfl HO.out.drew 1 ⟨i, mid, x, y⟩ _ rfl rfl (by omega) hbase rfl ?_
  intro v2 w2 hown2 hg2 hv2 hat2
  obtain ⟨g2, c2, rfl⟩ := hown2.some_ hv2
  have hfC2 : w2.frozen? ⟨C, 2, none⟩ = false := (World.frozen?_of_block (w := w) (hg2.block C hClt (fun e => HnC.out e.symm))).trans hfC
  refine hK.out _ _ ⟨hg2.cell (w := w.drew) hcC (fun e => HnC.out e.symm), hg2.cell (w := w.drew) hcI (fun e => HnI.out e.symm), hg2.cell (w := w.drew) hcM (fun e => HnM.out e.symm), hg2.cell (w := w.drew) hc1 (fun e => HnL.out e.symm), hg2.cell (w := w.drew) hc2 (fun e => HnL.out e.symm)⟩ (fun hHeld => ?_)
  clear hK K
  refine norm_ (a' := ?_) ?_ ?_
  rotate_left
  · show Act.put _ (some 17) _ = _
    simp only [Act.put, List.setIfInBounds_toArray, List.set_cons_zero, List.set_cons_succ, i64_w, i32_w]
    rfl
  refine pure_ (i := 14) (N := some 18) (v := ?_) (a' := ?_) #[true, true, true, true, true, true, true, true, true, true, true, true, true, true, true, false] rfl rfl (by kernel_rfl) (fun _ _ _ h => h) (Or.inl ⟨by rfl, ?_⟩) ?_ ?_
  rotate_left
  · intro w'
    go_simp
    with_reducible rfl
  rotate_left
  · simp only [Act.put, List.setIfInBounds_toArray, List.set_cons_zero, List.set_cons_succ, i64_w, i32_w]
    rfl
  refine last_ (i := 15) (N := none) #[true, true, true, true, true, true, true, true, true, true, true, true, true, true, true, true] rfl rfl (by kernel_rfl) (by decide) (fun K hK => ?_)
  have hcC2 := hHeld.1
  refine skip_ (w1 := ?_) (by rfl) rfl ?_ ?_
  rotate_left
  · go_simp
    rfl
  refine hK.out _ _ ?_
  clear hK K
  refine done_ (by kernel_rfl) ?_
  clear hw64 hw0 hwn
  go_end0
  have hC2 : w2.heap[C]? = some (.cells #[.int .i64 thr, cv, pv] 41 (0, 0)) := (hg2.block C hClt (fun e => HnC.out e.symm)).trans HC.out
  have hne : (Value.slice (some ⟨g2, 0, none⟩) (ps ++ [(⟨i, mid, x, y⟩ : Pn)]).length c2).ownBlock ≠ some C := by
    rcases hat2 with e | ⟨b, e, hb⟩
    · rw [e]; exact HnC.out
    · rw [e]; intro e2; injection e2 with e2; subst e2; exact absurd hClt (Nat.not_lt.2 hb)
  rw [List.length_append, List.length_singleton] at hown2 hne
  refine ⟨rfl, ⟨_, heap_setCell_same w2 C 2 _ _ _ hC2, OwnL.kp hown2 (Kp.setCell w2 ⟨C, 2, none⟩ _ (S := fun k => k = C) rfl) (fun k hk e => hne (e ▸ hk))⟩, ?_⟩
  exact ((Kp.drew w _).trans (Kp.of_grown hg2 (fun k hk => .inr hk))).trans (Kp.setCell w2 ⟨C, 2, none⟩ _ (.inl rfl))
end Go.Proofs.YtepofpnbgbmihaaDoor

/-
  The cloth of a sheet, in plain words.
-/
namespace Go.Proofs.YtepofpnbgbmihaaDoor
open Go Go.RowKit

structure St where
  l : Nat → Int
  cs : List Crs
  ps : List Pn
/-- A crossing n (1, 2, 3 with a sign) of work i, whose middle is mid. -/
def crossAt (i mid : Nat) (l : Nat → Int) (n : Int) : Crs :=
  if n < 0 then ⟨i, (mid + n.natAbs - 2 : Nat), l (mid + n.natAbs - 2 + 1), l (mid + n.natAbs - 2)⟩ else ⟨i, (mid + n.natAbs - 2 : Nat), l (mid + n.natAbs - 2), l (mid + n.natAbs - 2 + 1)⟩
def crossStep (i mid : Nat) (s : St) (n : Int) : St := ⟨swapL s.l (mid + n.natAbs - 2), s.cs ++ [crossAt i mid s.l n], s.ps⟩
def pinStep (i mid : Nat) (s : St) : St := ⟨s.l, s.cs, s.ps ++ [⟨i, mid, s.l mid, s.l (mid + 1)⟩]⟩
def letterStep (i mid : Nat) (s : St) (c : UInt8) : St := if c = 80 then pinStep i mid s else (crossC c).foldl (crossStep i mid) s
def begunStep (i mid : Nat) (s : St) (x : Wk) : St := if x.kind = 2 then pinStep i mid s else s
def workStep (i : Nat) (s : St) (x : Wk) : St :=
  x.word.data.toList.foldl (letterStep i (2 * x.at_.toNat + 1)) (begunStep i (2 * x.at_.toNat + 1) s x)
def st0 : St := ⟨fun p => (p : Int), [], []⟩
/-- Behind the first k works. -/
def mkTo (ws : List Wk) : Nat → St
  | 0 => st0
  | k + 1 => match ws[k]? with
    | some x => workStep k (mkTo ws k) x
    | none => mkTo ws k
theorem mkTo_succ (ws : List Wk) (k : Nat) (x : Wk) (h : ws[k]? = some x) : mkTo ws (k + 1) = workStep k (mkTo ws k) x := by
  show (match ws[k]? with | some x => workStep k (mkTo ws k) x | none => mkTo ws k) = _
  rw [h]

theorem crossFold_len (i mid : Nat) : ∀ (l : List Int) (s : St), (l.foldl (crossStep i mid) s).cs.length = s.cs.length + l.length ∧ (l.foldl (crossStep i mid) s).ps = s.ps
  | [], s => ⟨rfl, rfl⟩
  | n :: l, s => by
    rw [List.foldl_cons]
    obtain ⟨h1, h2⟩ := crossFold_len i mid l (crossStep i mid s n)
    refine ⟨?_, h2⟩
    rw [h1]
    show (s.cs ++ [_]).length + l.length = _
    rw [List.length_append, List.length_singleton, List.length_cons]; omega
theorem letterStep_len (i mid : Nat) (s : St) (c : UInt8) : (letterStep i mid s c).cs.length ≤ s.cs.length + 3 ∧ (letterStep i mid s c).ps.length ≤ s.ps.length + 1 := by
  unfold letterStep
  split
  · exact ⟨by show s.cs.length ≤ _; omega, by show (s.ps ++ [_]).length ≤ _; simp⟩
  · obtain ⟨h1, h2⟩ := crossFold_len i mid (crossC c) s
    rw [h1, h2]
    have := crossC_length c
    omega
theorem letters_len (i mid : Nat) : ∀ (l : List UInt8) (s : St), (l.foldl (letterStep i mid) s).cs.length ≤ s.cs.length + 3 * l.length ∧ (l.foldl (letterStep i mid) s).ps.length ≤ s.ps.length + l.length
  | [], s => by simp
  | c :: l, s => by
    rw [List.foldl_cons]
    obtain ⟨h1, h2⟩ := letters_len i mid l (letterStep i mid s c)
    obtain ⟨h3, h4⟩ := letterStep_len i mid s c
    rw [List.length_cons]; omega
theorem workStep_len (i : Nat) (s : St) (x : Wk) (hx : x.word.size ≤ 16) : (workStep i s x).cs.length ≤ s.cs.length + 48 ∧ (workStep i s x).ps.length ≤ s.ps.length + 17 := by
  unfold workStep
  obtain ⟨h1, h2⟩ := letters_len i (2 * x.at_.toNat + 1) x.word.data.toList (begunStep i (2 * x.at_.toNat + 1) s x)
  have hl : x.word.data.toList.length ≤ 16 := hx
  have h3 : (begunStep i (2 * x.at_.toNat + 1) s x).cs.length = s.cs.length ∧ (begunStep i (2 * x.at_.toNat + 1) s x).ps.length ≤ s.ps.length + 1 := by
    unfold begunStep
    split
    · exact ⟨rfl, by show (s.ps ++ [_]).length ≤ _; simp⟩
    · exact ⟨rfl, by omega⟩
  omega
theorem mkTo_len (ws : List Wk) (hw : ∀ (i : Nat) (x : Wk), ws[i]? = some x → x.word.size ≤ 16) : ∀ k, (mkTo ws k).cs.length ≤ 48 * k ∧ (mkTo ws k).ps.length ≤ 17 * k
  | 0 => by simp [mkTo, st0]
  | k + 1 => by
    obtain ⟨h1, h2⟩ := mkTo_len ws hw k
    cases hx : ws[k]? with
    | none =>
      have e : mkTo ws (k + 1) = mkTo ws k := by show (match ws[k]? with | some x => workStep k (mkTo ws k) x | none => mkTo ws k) = _; rw [hx]
      rw [e]; omega
    | some x =>
      rw [mkTo_succ ws k x hx]
      have := workStep_len k (mkTo ws k) x (hw k x hx)
      omega
end Go.Proofs.YtepofpnbgbmihaaDoor

/-
  sheet.Check of a valid sheet.
-/
namespace Go.Proofs.YtepofpnbgbmihaaDoor
open Go.RowKit

theorem contWork_any (v : Value) (ws : List Wk) (w : World) (hr : RdL 3 encW w v ws) (hall : ∀ (i : Nat) (x : Wk), ws[i]? = some x → x.word.size ≤ 16) :
    Calls Tryd.prog 40 #[v, .func (.func 41) #[] #[]] w fun e w' => e = .returned (.bool false) ∧ Below w.heap.size w w' := by
  have hx := fun w hr => idxWork_any v ws w hr hall
  have HX := Lib.hid hx
  have HR := Lib.hid hr
  clear hx hr hall
  go_enter Tryd.func40, Tryd.ntmps40
  go_wp2_with (go_at_call 61; refine (HX.out _ HR.out).mono ?_; rintro e w' ⟨rfl, hb⟩)
  go_ret
  exact ⟨rfl, hb⟩

set_option maxHeartbeats 1000000 in
theorem shCheck_any (s : Sh) (v : Value) (w : World) (hV : Valid s) (hr : RdL 3 encW w v s.works) :
    Calls Tryd.prog 19 #[.agg #[.int .i64 s.pairs, v]] w fun e w' => e = .returned (.int .i64 0) ∧ Below w.heap.size w w' := by
  obtain ⟨p, ws⟩ := s
  obtain ⟨hp1, hp2, hwl, hall⟩ := hV
  dsimp only at hp1 hp2 hwl hall hr ⊢
  have hx := fun (W : World) (hr : RdL 3 encW W v ws) => contWork_any v ws W hr (fun i x hx => (hall i x hx).size)
  have HX := Lib.hid hx
  have HR := Lib.hid hr
  obtain ⟨a, c, rfl, hlen, hc⟩ := hr.slice
  have HC := Lib.hid hc
  have HA := Lib.hid hall
  clear hc hall hr hx
  go_enter Tryd.func19, Tryd.ntmps19
  go_wp2_with (go_at_call 40; refine (HX.out _ (HR.out.alloc _)).mono ?_; rintro e w1 ⟨rfl, hb⟩; have hs1 : w1.cell? ⟨w.heap.size, 0, none⟩ = some (.int .i64 p) := (hb.cell (p := ⟨w.heap.size, 0, none⟩) (by simp)).trans (by simp [World.cell?_alloc_at]); have hs2 : w1.cell? ⟨w.heap.size, 1, none⟩ = some (.slice a ws.length c) := (hb.cell (p := ⟨w.heap.size, 1, none⟩) (by simp)).trans (by simp [World.cell?_alloc_at]))
  have hw1 : w.heap.size + 1 ≤ w1.heap.size := by have := hb.size; simpa using this
  have HB0 : Hid (Below w.heap.size w w1) := ((Below.refl _ _).alloc (Nat.le_refl _) _).trans (hb.mono (by simp))
  have hR1 : Hid (RdA 3 encW w1 a ws) := (HC.out.alloc _).later hb
  clear hb HX
  go_loopw [3, 26] (fun f i wr => ∃ k : Nat, k ≤ ws.length ∧ i = .int .i64 k ∧ f = .int .i64 0 ∧ Below w1.heap.size w1 wr) (fun _ i _ => ws.length - (intOf i).toNat)
  case atStart => exact ⟨0, Nat.zero_le _, rfl, rfl, Below.refl _ _⟩
  case round =>
    obtain ⟨k, hk, rfl, rfl, hB⟩ := hrel
    have hs1' : wr.cell? ⟨w.heap.size, 0, none⟩ = some (.int .i64 p) := (hB.cell (p := ⟨w.heap.size, 0, none⟩) (by simp; omega)).trans hs1
    have hwr : w.heap.size < wr.heap.size := by have := hB.size; omega
    by_cases hlt : k < ws.length
    · obtain ⟨b, off, rfl, hbl, hcell⟩ := hR1.out k ws[k] (List.getElem?_eq_getElem hlt)
      obtain ⟨h0, h1, h2⟩ := encW_at (cells_below hB hbl hcell)
      have hbl2 : b < wr.heap.size := Nat.lt_of_lt_of_le hbl hB.size
      obtain ⟨hkd, hlo, hhi, hsz, hwd⟩ := HA.out k ws[k] (List.getElem?_eq_getElem hlt)
      clear hcell HC HR HA hR1 HB0 hs1 hs2
      generalize ws[k] = x at h0 h1 h2 hkd hlo hhi hsz hwd
      obtain ⟨xk, xa, xw⟩ := x
      dsimp only at h0 h1 h2 hkd hlo hhi hsz hwd
      have hck := fun W => stCheck_any xw W (by omega)
      rw [wordErr_ok xw hsz hwd] at hck
      have HK := Lib.hid hck
      clear hck hwd
      rcases hkd with rfl | ⟨rfl, hw0⟩
      · skip
        go_wp2_with (go_at_call 42; refine (HK.out _).mono ?_; rintro e w2 ⟨rfl, rfl⟩)
        go_roundw
        case rel => exact ⟨k + 1, by omega, by go_num, rfl, (hB.alloc hB.size _)⟩
        case measure => first | (simp [intOf]; done) | (simp [intOf]; omega)
      · obtain rfl : xw = ByteArray.empty := by
          obtain ⟨⟨l⟩⟩ := xw
          cases l with
          | nil => rfl
          | cons c l => simp [ByteArray.size] at hw0
        go_wp2_with (go_at_call 42; refine (HK.out _).mono ?_; rintro e w2 ⟨rfl, rfl⟩)
        go_roundw
        case rel => exact ⟨k + 1, by omega, by go_num, rfl, (hB.alloc hB.size _)⟩
        case measure => first | (simp [intOf]; done) | (simp [intOf]; omega)
    · go_wp2
      go_ret
      exact ⟨rfl, HB0.out.trans (hB.mono (by omega))⟩
end Go.Proofs.YtepofpnbgbmihaaDoor

/-
  What cloth.Make holds, and what its steps turn.
-/
namespace Go.Proofs.YtepofpnbgbmihaaDoor
open Go.RowKit
set_option linter.unusedSimpArgs false
set_option linter.unusedVariables false

/-- What Make holds: the cloth in block C, the line in block L. -/
def MkInv (w : World) (C L base : Nat) (thr : Int) (s : St) (cv pv : Value) : Prop :=
  w.heap[C]? = some (.cells #[.int .i64 thr, cv, pv] 41 (0, 0)) ∧ LineAt w L s.l ∧ OwnX w base cv s.cs ∧ OwnP w base pv s.ps
def KpS (C L : Nat) (cv pv : Value) : Nat → Prop := fun k => k = C ∨ k = L ∨ cv.ownBlock = some k ∨ pv.ownBlock = some k
theorem MkInv.other {w w' : World} {C L base : Nat} {thr : Int} {s : St} {cv pv : Value} (h : MkInv w C L base thr s cv pv) (hK : Kp w w' (KpS C L cv pv)) {k : Nat} {cs : Array Value} {t : TypeId} {fr : Nat × Nat}
    (hk : w.heap[k]? = some (.cells cs t fr)) (h1 : t ≠ 41) (h2 : t ≠ 68) (h3 : t ≠ 74) (h4 : t ≠ 71) : w'.heap[k]? = some (.cells cs t fr) := by
  obtain ⟨hC, hL, hX, hP⟩ := h
  refine (hK.block k (Array.getElem?_eq_some_iff.1 hk).1 ?_).trans hk
  rintro (rfl | rfl | e | e)
  · rw [hC] at hk; injection hk with hk; injection hk with _ e _; exact h1 e.symm
  · rw [hL] at hk; injection hk with hk; injection hk with _ e _; exact h2 e.symm
  · exact own_type_ne hX hk h3 e
  · exact own_type_ne hP hk h4 e
theorem MkInv.later {w w' : World} {C L base : Nat} {thr : Int} {s : St} {cv pv : Value} (h : MkInv w C L base thr s cv pv) (hb : Below w.heap.size w w') : MkInv w' C L base thr s cv pv :=
  ⟨(hb.block C (Array.getElem?_eq_some_iff.1 h.1).1).trans h.1, h.2.1.later hb, h.2.2.1.later hb, h.2.2.2.later hb⟩
/-- Behind a pin. -/
theorem MkInv.pin {w w' : World} {C L base : Nat} {thr : Int} {s : St} {cv pv pv' : Value} (h : MkInv w C L base thr s cv pv) {i mid : Nat} (hC : w'.heap[C]? = some (.cells #[.int .i64 thr, cv, pv'] 41 (0, 0)))
    (hP : OwnP w' base pv' (s.ps ++ [⟨i, mid, s.l mid, s.l (mid + 1)⟩])) (hK : Kp w w' (fun k => k = C ∨ pv.ownBlock = some k)) : MkInv w' C L base thr (pinStep i mid s) cv pv' := by
  obtain ⟨h1, h2, h3, h4⟩ := h
  refine ⟨hC, h2.kept (hK.block L h2.lt ?_), OwnL.kp h3 hK ?_, hP⟩
  · rintro (rfl | e)
    · unfold LineAt at h2; rw [h1] at h2; injection h2 with h2; injection h2 with _ e _; exact absurd e (by decide)
    · exact own_type_ne h4 h2 (by decide) e
  · rintro k hk (rfl | e)
    · exact own_type_ne h3 h1 (by decide) hk
    · rcases own_types h4 h3 (by decide) with e2 | e2
      · rw [hk] at e2; cases e2
      · exact e2 (hk.trans e.symm)

/-- What is so when Make's outer loop begins: the cloth in block w1.heap.size, the line in block w2.heap.size. -/
structure Mk0 (w w1 w2 w3 : World) (a : Option Addr) (ws : List Wk) (p : Int) (c : Nat) : Prop where
  z1 : w.heap.size + 2 ≤ w1.heap.size
  z2 : w1.heap.size + 1 ≤ w2.heap.size
  z3 : w2.heap.size + 1 ≤ w3.heap.size
  row : w3.cell? ⟨w.heap.size, 1, none⟩ = some (.slice a ws.length c)
  t : w3.heap[w.heap.size + 1]? = some (.cells #[.int .i64 0, .slice none 0 0, .slice none 0 0] 41 (0, 0))
  c : w3.heap[w1.heap.size]? = some (.cells #[.int .i64 (2 * p), .slice none 0 0, .slice none 0 0] 41 (0, 0))
  l : LineAt w3 w2.heap.size (fun p => (p : Int))
  rd : RdA 3 encW w3 a ws
  below : Below w.heap.size w w3
theorem Mk0.of {w w1 w2 w3 : World} {a : Option Addr} {ws : List Wk} {p : Int} {c : Nat} {cs0 : Array Value} (z1 : w.heap.size + 2 ≤ w1.heap.size) (z2 : w1.heap.size + 1 ≤ w2.heap.size)
    (hC : w2.heap[w1.heap.size]? = some (.cells #[.int .i64 (2 * p), .slice none 0 0, .slice none 0 0] 41 (0, 0)))
    (hS : w2.heap[w.heap.size]? = some (.cells #[.int .i64 p, .slice a ws.length c] 24 (0, 0)))
    (hT : w2.heap[w.heap.size + 1]? = some (.cells #[.int .i64 0, .slice none 0 0, .slice none 0 0] 41 (0, 0)))
    (hR : RdA 3 encW w2 a ws) (hB : Below w.heap.size w w2) (h : (w2.alloc (.cells cs0 68)).setRow w2.heap.size (lineArr fun p => (p : Int)) = w3) : Mk0 w w1 w2 w3 a ws p c := by
  have hold : ∀ k, k < w2.heap.size → w3.heap[k]? = w2.heap[k]? := fun k hk => by
    rw [← h, setRow_other _ _ _ _ (by omega)]; exact Below.heap_alloc w2 _ k hk
  have hsz : w3.heap.size = w2.heap.size + 1 := by rw [← h]; simp
  have hlat : Below w2.heap.size w2 w3 := ⟨by rw [← h]; rfl, by rw [← h]; rfl, by rw [← h]; rfl, by omega, fun i hi => hold i hi⟩
  refine ⟨z1, z2, by omega, ?_, (hold _ (by omega)).trans hT, (hold _ (by omega)).trans hC, ?_, hR.later hlat, hB.trans (hlat.mono (by omega))⟩
  · rw [cell_of_row w3 _ 1 _ _ _ ((hold _ (by omega)).trans hS)]; rfl
  · unfold LineAt
    rw [← h]; exact setRow_heap _ _ _ _ _ _ (heap_alloc_new w2 _)

/-- What is so at the head of Make's outer loop: block T is the result's. -/
structure MkQ (w wr : World) (C L T : Nat) (thr : Int) (s : St) (cv pv : Value) : Prop where
  inv : MkInv wr C L w.heap.size thr s cv pv
  t : wr.heap[T]? = some (.cells #[.int .i64 0, .slice none 0 0, .slice none 0 0] 41 (0, 0))
  ne : T ≠ C
  cge : w.heap.size ≤ C
  lge : w.heap.size ≤ L
  below : Below w.heap.size w wr
theorem MkQ.kps {w wr : World} {C L T : Nat} {thr : Int} {s : St} {cv pv : Value} (h : MkQ w wr C L T thr s cv pv) : ∀ k, KpS C L cv pv k → w.heap.size ≤ k := by
  rintro k (rfl | rfl | e | e)
  · exact h.cge
  · exact h.lge
  · exact (h.inv.2.2.1.lt k e).1
  · exact (h.inv.2.2.2.lt k e).1
theorem MkQ.step {w wr wr' : World} {C L T : Nat} {thr : Int} {s s' : St} {cv pv cv' pv' : Value} (h : MkQ w wr C L T thr s cv pv) (hi : MkInv wr' C L w.heap.size thr s' cv' pv') (hK : Kp wr wr' (KpS C L cv pv)) : MkQ w wr' C L T thr s' cv' pv' := by
  refine ⟨hi, ?_, h.ne, h.cge, h.lge, hK.below h.below h.below.size h.kps⟩
  refine (hK.block T (Array.getElem?_eq_some_iff.1 h.t).1 ?_).trans h.t
  rintro (e | rfl | e | e)
  · exact h.ne e
  · have hL := h.inv.2.1
    unfold LineAt at hL; rw [h.t] at hL; injection hL with hL; injection hL with _ e _; exact absurd e (by decide)
  · exact own_type_ne h.inv.2.2.1 h.t (by decide) e
  · exact own_type_ne h.inv.2.2.2 h.t (by decide) e
theorem MkQ.later {w wr wr' : World} {C L T : Nat} {thr : Int} {s : St} {cv pv : Value} (h : MkQ w wr C L T thr s cv pv) (hb : Below wr.heap.size wr wr') : MkQ w wr' C L T thr s cv pv :=
  h.step (h.inv.later hb) (Kp.of_below hb)
/-- In the round of work k: its boxes lie in blocks I, I + 1, I + 2. -/
structure MkB (w wx : World) (C L T : Nat) (thr : Int) (I k q : Nat) (xk : Int) (xw : ByteArray) (s : St) (cv pv : Value) : Prop where
  mq : MkQ w wx C L T thr s cv pv
  hI : wx.heap[I]? = some (.cells #[.int .i64 k] 3 (0, 0))
  hW : wx.heap[I + 1]? = some (.cells #[.int .i64 xk, .int .i64 q, .string xw] 60 (0, 0))
  hM : wx.heap[I + 2]? = some (.cells #[.int .i64 (2 * q + 1)] 3 (0, 0))
theorem MkB.of {w wr : World} {C L T : Nat} {thr : Int} {s : St} {cv pv : Value} (h : MkQ w wr C L T thr s cv pv) (k q : Nat) (xk : Int) (xw : ByteArray) :
    MkB w (((wr.alloc (.cells #[.int .i64 k] 3)).alloc (.cells #[.int .i64 xk, .int .i64 q, .string xw] 60)).alloc (.cells #[.int .i64 (2 * q + 1)] 3)) C L T thr wr.heap.size k q xk xw s cv pv := by
  refine ⟨h.later (((Below.refl _ _).alloc (Nat.le_refl _) _).alloc (by simp) _ |>.alloc (by simp; omega) _), ?_, ?_, ?_⟩
  · exact (Below.heap_alloc _ _ _ (by simp; omega)).trans (heap_alloc2_old wr _ _)
  · exact (Below.heap_alloc _ _ _ (by simp)).trans (heap_alloc2_new wr _ _)
  · have := heap_alloc_new ((wr.alloc (.cells #[.int .i64 k] 3)).alloc (.cells #[.int .i64 xk, .int .i64 q, .string xw] 60)) (.cells #[.int .i64 (2 * q + 1)] 3)
    simpa using this
theorem MkB.step {w wx wx' : World} {C L T : Nat} {thr : Int} {I k q : Nat} {xk : Int} {xw : ByteArray} {s s' : St} {cv pv cv' pv' : Value} (h : MkB w wx C L T thr I k q xk xw s cv pv)
    (hi : MkInv wx' C L w.heap.size thr s' cv' pv') (hK : Kp wx wx' (KpS C L cv pv)) : MkB w wx' C L T thr I k q xk xw s' cv' pv' :=
  ⟨h.mq.step hi hK, h.mq.inv.other hK h.hI (by decide) (by decide) (by decide) (by decide), h.mq.inv.other hK h.hW (by decide) (by decide) (by decide) (by decide), h.mq.inv.other hK h.hM (by decide) (by decide) (by decide) (by decide)⟩
theorem MkB.later {w wx wx' : World} {C L T : Nat} {thr : Int} {I k q : Nat} {xk : Int} {xw : ByteArray} {s : St} {cv pv : Value} (h : MkB w wx C L T thr I k q xk xw s cv pv) (hb : Below wx.heap.size wx wx') : MkB w wx' C L T thr I k q xk xw s cv pv :=
  h.step (h.mq.inv.later hb) (Kp.of_below hb)
/-- What the walk looks up. -/
structure MkC (wx : World) (C L T : Nat) (thr : Int) (I k q : Nat) (xk : Int) (xw : ByteArray) (cv pv : Value) : Prop where
  c0 : wx.cell? ⟨C, 0, none⟩ = some (.int .i64 thr)
  c1 : wx.cell? ⟨C, 1, none⟩ = some cv
  c2 : wx.cell? ⟨C, 2, none⟩ = some pv
  i0 : wx.cell? ⟨I, 0, none⟩ = some (.int .i64 k)
  w0 : wx.cell? ⟨I + 1, 0, none⟩ = some (.int .i64 xk)
  w1 : wx.cell? ⟨I + 1, 1, none⟩ = some (.int .i64 q)
  w2 : wx.cell? ⟨I + 1, 2, none⟩ = some (.string xw)
  m0 : wx.cell? ⟨I + 1 + 1, 0, none⟩ = some (.int .i64 (2 * q + 1))
  fc : wx.frozen? ⟨C, 1, none⟩ = false
  lt : I + 1 + 1 < wx.heap.size
  ltc : C < wx.heap.size
theorem MkB.c {w wx : World} {C L T : Nat} {thr : Int} {I k q : Nat} {xk : Int} {xw : ByteArray} {s : St} {cv pv : Value} (h : MkB w wx C L T thr I k q xk xw s cv pv) : MkC wx C L T thr I k q xk xw cv pv := by
  refine ⟨?_, ?_, ?_, ?_, ?_, ?_, ?_, ?_, frozen_of_row wx C 1 _ _ h.mq.inv.1, (Array.getElem?_eq_some_iff.1 h.hM).1, (Array.getElem?_eq_some_iff.1 h.mq.inv.1).1⟩
  · rw [cell_of_row wx C 0 _ _ _ h.mq.inv.1]; rfl
  · rw [cell_of_row wx C 1 _ _ _ h.mq.inv.1]; rfl
  · rw [cell_of_row wx C 2 _ _ _ h.mq.inv.1]; rfl
  · rw [cell_of_row wx I 0 _ _ _ h.hI]; rfl
  · rw [cell_of_row wx (I + 1) 0 _ _ _ h.hW]; rfl
  · rw [cell_of_row wx (I + 1) 1 _ _ _ h.hW]; rfl
  · rw [cell_of_row wx (I + 1) 2 _ _ _ h.hW]; rfl
  · rw [cell_of_row wx (I + 2) 0 _ _ _ h.hM]; rfl
theorem pin_MkB {w wx : World} {C L T : Nat} {thr : Int} {I k q : Nat} {xk : Int} {xw : ByteArray} {s : St} {cv pv : Value} (h : MkB w wx C L T thr I k q xk xw s cv pv) (hq : q + 1 < 24) (hs : s.ps.length < 1000000) :
    Calls Tryd.prog 21 #[.pointer (some ⟨C, 0, none⟩), .pointer (some ⟨I, 0, none⟩), .pointer (some ⟨I + 2, 0, none⟩), .pointer (some ⟨L, 0, none⟩)] wx fun e w' => e = .returned (.tuple #[]) ∧
      ∃ pv', MkB w w' C L T thr I k q xk xw (pinStep k (2 * q + 1) s) cv pv' := by
  refine (pin_any C I (I + 2) L w.heap.size thr k (2 * q + 1) s.l cv pv s.ps wx (by omega) hs h.mq.below.size h.mq.inv.1 h.hI (by rw [h.hM]; rfl) h.mq.inv.2.1 h.mq.inv.2.2.2).mono ?_
  rintro e w' ⟨rfl, ⟨pv', hC, hP⟩, hK⟩
  refine ⟨rfl, pv', h.step (h.mq.inv.pin hC ?_ hK) (hK.mono ?_)⟩
  · exact hP
  · rintro k _ (rfl | e)
    · exact .inl rfl
    · exact .inr (.inr (.inr e))
theorem swap_MkB {w wx : World} {C L T : Nat} {thr : Int} {I k q : Nat} {xk : Int} {xw : ByteArray} {s : St} {cv pv : Value} (h : MkB w wx C L T thr I k q xk xw s cv pv) (a : Nat) (ha : a + 1 < 48) :
    Calls Tryd.prog 23 #[.pointer (some ⟨L, 0, none⟩), .int .i64 a] wx fun e w' => e = .returned (.tuple #[]) ∧ MkB w w' C L T thr I k q xk xw ⟨swapL s.l a, s.cs, s.ps⟩ cv pv ∧ Kp wx w' (KpS C L cv pv) := by
  refine (swap_any L a s.l wx ha h.mq.inv.2.1).mono ?_
  rintro e w' ⟨rfl, hL, hG⟩
  have hK : Kp wx w' (KpS C L cv pv) := Kp.of_grown hG (fun k e => by injection e with e; exact .inr (.inl e.symm))
  have hK2 : Kp wx w' (fun k => k = L) := Kp.of_grown hG (fun k e => by injection e with e; exact e.symm)
  obtain ⟨h1, h2, h3, h4⟩ := h.mq.inv
  refine ⟨rfl, h.step ⟨?_, hL, OwnL.kp h3 hK2 ?_, OwnL.kp h4 hK2 ?_⟩ hK, hK⟩
  · refine (hK2.block C (Array.getElem?_eq_some_iff.1 h1).1 ?_).trans h1
    rintro rfl
    unfold LineAt at h2; rw [h1] at h2; injection h2 with h2; injection h2 with _ e _; exact absurd e (by decide)
  · rintro k hk rfl; exact own_type_ne h3 h2 (by decide) hk
  · rintro k hk rfl; exact own_type_ne h4 h2 (by decide) hk
/-- Behind a crossing's append and store. -/
theorem MkB.app {w wx w4 : World} {C L T : Nat} {thr : Int} {I k q : Nat} {xk : Int} {xw : ByteArray} {s : St} {cv pv : Value} (h : MkB w wx C L T thr I k q xk xw s cv pv) (v : Value) (y : Crs)
    (hO : OwnX w4 w.heap.size v (s.cs ++ [y])) (hG : wx.grownBy w4 cv.ownBlock) :
    MkB w (w4.setCell ⟨C, 1, none⟩ v) C L T thr I k q xk xw ⟨s.l, s.cs ++ [y], s.ps⟩ v pv ∧ Kp wx (w4.setCell ⟨C, 1, none⟩ v) (KpS C L cv pv) := by
  have hK0 : Kp wx w4 (fun k => cv.ownBlock = some k) := Kp.of_grown hG (fun k e => e)
  have hK : Kp wx (w4.setCell ⟨C, 1, none⟩ v) (KpS C L cv pv) := (hK0.mono (fun k _ e => .inr (.inr (.inl e)))).trans (Kp.setCell w4 _ v (.inl rfl))
  have hK2 : Kp wx (w4.setCell ⟨C, 1, none⟩ v) (fun k => k = C ∨ cv.ownBlock = some k) := (hK0.mono (fun k _ e => .inr e)).trans (Kp.setCell w4 _ v (.inl rfl))
  obtain ⟨h1, h2, h3, h4⟩ := h.mq.inv
  have hC4 : w4.heap[C]? = some (.cells #[.int .i64 thr, cv, pv] 41 (0, 0)) := (hK0.block C (Array.getElem?_eq_some_iff.1 h1).1 (own_type_ne h3 h1 (by decide))).trans h1
  refine ⟨h.step ⟨heap_setCell_same w4 C 1 _ _ _ hC4, h2.kept (hK2.block L h2.lt ?_), OwnL.kp hO (Kp.setCell w4 ⟨C, 1, none⟩ v (S := fun k => k = C) rfl) ?_, OwnL.kp h4 hK2 ?_⟩ hK, hK⟩
  · rintro (rfl | e)
    · unfold LineAt at h2; rw [h1] at h2; injection h2 with h2; injection h2 with _ e _; exact absurd e (by decide)
    · exact own_type_ne h3 h2 (by decide) e
  · rintro k hk rfl; exact own_type_ne hO hC4 (by decide) hk
  · rintro k hk (rfl | e)
    · exact own_type_ne h4 h1 (by decide) hk
    · rcases own_types h4 h3 (by decide) with e2 | e2
      · rw [e2] at e; cases e
      · exact e2 (e.trans hk.symm)
/-- Rows of integers are kept by each of these steps. -/
theorem OwnI.kps {wx wx' : World} {C L b : Nat} {thr : Int} {s : St} {cv pv v : Value} {xs : List Int} {base : Nat} (hi : MkInv wx C L base thr s cv pv) (h : OwnI wx b v xs) (hK : Kp wx wx' (KpS C L cv pv)) : OwnI wx' b v xs := by
  refine OwnL.kp h hK ?_
  rintro k hk (rfl | rfl | e | e)
  · exact own_type_ne h hi.1 (by decide) hk
  · exact own_type_ne h hi.2.1 (by decide) hk
  · rcases own_types hi.2.2.1 h (by decide) with e2 | e2
    · rw [hk] at e2; cases e2
    · exact e2 (hk.trans e.symm)
  · rcases own_types hi.2.2.2 h (by decide) with e2 | e2
    · rw [hk] at e2; cases e2
    · exact e2 (hk.trans e.symm)
theorem letters_take {β : Type} (s : ByteArray) (j : Nat) (h : j < s.size) (f : β → UInt8 → β) (b : β) : (s.data.toList.take (j + 1)).foldl f b = f ((s.data.toList.take j).foldl f b) s[j] := by
  have h2 : j < s.data.toList.length := h
  rw [List.take_succ_eq_append_getElem h2, List.foldl_append]
  rfl
theorem letters_all {β : Type} (s : ByteArray) (f : β → UInt8 → β) (b : β) : (s.data.toList.take s.size).foldl f b = s.data.toList.foldl f b := by
  rw [List.take_of_length_le (show s.data.toList.length ≤ s.size from Nat.le_of_eq rfl)]
theorem fold_len (s : ByteArray) (hs : s.size ≤ 16) (j i mid : Nat) (x : Wk) (σ : St) : ((s.data.toList.take j).foldl (letterStep i mid) (begunStep i mid σ x)).cs.length ≤ σ.cs.length + 48 ∧ ((s.data.toList.take j).foldl (letterStep i mid) (begunStep i mid σ x)).ps.length ≤ σ.ps.length + 17 := by
  obtain ⟨h1, h2⟩ := letters_len i mid (s.data.toList.take j) (begunStep i mid σ x)
  have h3 : (begunStep i mid σ x).cs.length = σ.cs.length ∧ (begunStep i mid σ x).ps.length ≤ σ.ps.length + 1 := by
    unfold begunStep
    split
    · exact ⟨rfl, by show (σ.ps ++ [_]).length ≤ _; simp⟩
    · exact ⟨rfl, by omega⟩
  have h4 : (s.data.toList.take j).length ≤ 16 := Nat.le_trans (List.length_take_le' _ _) hs
  omega
theorem crossC_in (c : UInt8) : ∀ n ∈ crossC c, n ≠ 0 ∧ n.natAbs ≤ 3 := by
  intro n hn
  unfold crossC nz at hn
  rw [List.mem_filter] at hn
  obtain ⟨h1, h2⟩ := hn
  have h3 : n ≠ 0 := by simpa using h2
  refine ⟨h3, ?_⟩
  have t0 : (tw0 c.toNat).natAbs ≤ 1 := by unfold tw0; (repeat' split) <;> simp
  have t1 : (tw1 c.toNat).natAbs ≤ 1 := by unfold tw1; (repeat' split) <;> simp
  have t2 : (tw2 c.toNat).natAbs ≤ 1 := by unfold tw2; (repeat' split) <;> simp
  simp only [List.mem_cons, List.not_mem_nil, or_false] at h1
  rcases h1 with rfl | rfl | rfl <;> omega
theorem moves_take (l : List Int) (m : Nat) (h : m < l.length) (f : St → Int → St) (b : St) : (l.take (m + 1)).foldl f b = f ((l.take m).foldl f b) l[m] := by
  rw [List.take_succ_eq_append_getElem h, List.foldl_append]; rfl
theorem crossW_one (c : UInt8) : crossW [c] = crossC c := by unfold crossW; simp
theorem extract_one (s : ByteArray) (j : Nat) (h : j < s.size) : (s.extract j (j + 1)).data.toList = [s[j]] := by
  have h2 : j < s.data.toList.length := h
  have : (s.extract j (j + 1)).data = s.data.extract j (j + 1) := by simp [ByteArray.extract, ByteArray.copySlice]
  rw [this]
  apply List.ext_getElem?
  intro i
  simp [Array.toList_extract, List.extract]
  rw [List.drop_eq_getElem_cons h2]
  rfl
theorem Crossings_one (s : ByteArray) (j : Nat) (lc : UInt8) (hE : (s.extract j (j + 1)).data.toList = [lc]) (h9 : L9.contains lc = true) (w : World) :
    Calls Tryd.prog 22 #[.string (s.extract j (j + 1))] w fun e w' => ∃ v, e = .returned (.tuple #[v, .int .i64 0]) ∧ OwnI w' w.heap.size v (crossC lc) ∧ Below w.heap.size w w' := by
  have hsz : (s.extract j (j + 1)).size = 1 := by
    show (s.extract j (j + 1)).data.toList.length = 1
    rw [hE]; rfl
  have h := Crossings_any (s.extract j (j + 1)) w (by omega) (fun k hk => by
    obtain rfl : k = 0 := by omega
    have h2 : (s.extract j (j + 1)).data.toList[0]? = some lc := by rw [hE]; rfl
    have h3 : (s.extract j (j + 1))[0] = lc := by
      have h4 := (List.getElem?_eq_some_iff.1 h2).2
      exact h4
    rw [h3]; exact h9)
  rw [hE, crossW_one] at h
  exact h
theorem u8_ne80 (c : UInt8) (h : c ≠ 80) : ((c.toNat : Int) == 80) = false := by
  rw [beq_eq_false_iff_ne]
  intro e
  have e2 : c.toNat = 80 := by omega
  exact h (UInt8.toNat_inj.1 (by rw [e2]; rfl))
theorem u8_eq80 (c : UInt8) (h : c = 80) : ((c.toNat : Int) == 80) = true := by subst h; rfl
theorem at_eq (q : Nat) (n : Int) (h : n ≠ 0) : 2 * (q : Int) + 1 - 2 + max n (-n) = ((2 * q + 1 + n.natAbs - 2 : Nat) : Int) := by omega
theorem crossStep_eq {k mid A : Nat} {n x y : Int} {s : St} (hA : A = mid + n.natAbs - 2) (hx : s.l A = x) (hy : s.l (A + 1) = y) (z : Crs) (hz : z = if n < 0 then ⟨k, A, y, x⟩ else ⟨k, A, x, y⟩) :
    (⟨swapL s.l A, s.cs ++ [z], s.ps⟩ : St) = crossStep k mid s n := by
  subst hA hx hy hz; rfl
end Go.Proofs.YtepofpnbgbmihaaDoor

/-
  cloth.Make of a valid sheet.
-/
import Derived.Test.YtepofpnbgbmihaaDoorM1
import Derived.Test.YtepofpnbgbmihaaDoorWWords
import Derived.Deep.DeepMust
import Derived.Deep.DeepCutAuto
import Derived.Handy
import Derived.RangeFuncNested
import Derived.RangeFuncBound
import Derived.RangeFuncCalls
import Derived.RangeFuncLeaves
import Derived.Shelf.Abstract
import Derived.Shelf.RegionOpen
import Derived.WalkKit
import Derived.OwnWalkIn
import Derived.TacticsInMore
import Derived.LoopNIn
import Derived.LoopIn

/-
  cloth.Make of a valid sheet.
-/
namespace Go.Proofs.YtepofpnbgbmihaaDoor
open Go.RowKit Go.Proofs.YtepofpnbgbmihaaDoorW.PrintLast
set_option linter.unusedSimpArgs false
set_option linter.unusedVariables false

theorem info_cloth : (Tryd.prog.info? 41).map (·.size) = some 3 := by kernel_rfl

set_option maxRecDepth 100000 in
set_option maxHeartbeats 1500000 in
theorem make_any (s : Sh) (v : Value) (w : World) (hV : Valid s) (hr : RdL 3 encW w v s.works) :
    Calls Tryd.prog 8 #[.agg #[.int .i64 s.pairs, v]] w fun e w' => (∃ cv pv, e = .returned (.tuple #[.agg #[.int .i64 (2 * s.pairs), cv, pv], .int .i64 0]) ∧ OwnX w' w.heap.size cv (mkTo s.works s.works.length).cs ∧ OwnP w' w.heap.size pv (mkTo s.works s.works.length).ps) ∧ Below w.heap.size w w' := by
  have hck := fun W hr => shCheck_any s v W hV hr
  have HCK := Lib.hid hck
  obtain ⟨p, ws⟩ := s
  obtain ⟨hp1, hp2, hwl, hall⟩ := hV
  dsimp only at hp1 hp2 hwl hall hr HCK ⊢
  have HR := Lib.hid hr
  obtain ⟨a, c, rfl, hlen, hc⟩ := hr.slice
  have HC := Lib.hid hc
  have HC0 := Lib.hid hc
  have HA := Lib.hid hall
  have HA0 := Lib.hid hall
  have hbg := begun_any
  have HBG := Lib.hid hbg
  clear hc hall hr hck hbg
  go_enter Tryd.func8, Tryd.ntmps8
  go_wp2_with fail
  refine (HCK.out _ ((HR.out.alloc _).alloc _)).mono ?_
  rintro e w1 ⟨rfl, hb1⟩
  have HB1 := Lib.hid hb1
  clear hb1
  have hS1 : w1.heap[w.heap.size]? = some (.cells #[.int .i64 p, .slice a ws.length c] 24 (0, 0)) := (HB1.out.block w.heap.size (by simp <;> omega)).trans (heap_alloc2_old w _ _)
  have hT1 : w1.heap[w.heap.size + 1]? = some (.cells #[.int .i64 0, .slice none 0 0, .slice none 0 0] 41 (0, 0)) := (HB1.out.block (w.heap.size + 1) (by simp <;> omega)).trans (heap_alloc2_new w _ _)
  have hs1 : w1.cell? ⟨w.heap.size, 0, none⟩ = some (.int .i64 p) := by rw [cell_of_row w1 _ 0 _ _ _ hS1]; rfl
  have hs2 : w1.cell? ⟨w.heap.size, 1, none⟩ = some (.slice a ws.length c) := by rw [cell_of_row w1 _ 1 _ _ _ hS1]; rfl
  have HS1 := Lib.hid hS1
  have HT1 := Lib.hid hT1
  clear hS1 hT1
  have hz1 : w.heap.size + 2 ≤ w1.heap.size := by have := HB1.out.size; simpa using this
  have HBw1 : Hid (Below w.heap.size w w1) := (((Below.refl _ _).alloc (Nat.le_refl _) _).alloc (by simp) _).trans (HB1.out.mono (by simp; omega))
  have HC1 : Hid (RdA 3 encW w1 a ws) := HC.out.later HBw1.out
  clear HB1 HCK HR HC
  go_wp2_with fail
  refine (HBG.out _).mono ?_
  rintro e w2 ⟨rfl, hb2⟩
  have hz2 : w1.heap.size + 1 ≤ w2.heap.size := by have := hb2.size; simpa using this
  have hC2 : w2.heap[w1.heap.size]? = some (.cells #[.int .i64 (2 * p), .slice none 0 0, .slice none 0 0] 41 (0, 0)) := (hb2.block w1.heap.size (by simp <;> omega)).trans (heap_alloc_new w1 _)
  have hold2 : ∀ k, k < w1.heap.size → w2.heap[k]? = w1.heap[k]? := fun k hk => (hb2.block k (by simp <;> omega)).trans (Below.heap_alloc w1 _ k hk)
  have hS2 := (hold2 w.heap.size (by omega)).trans HS1.out
  have hT2 := (hold2 (w.heap.size + 1) (by omega)).trans HT1.out
  have hBw2 : Below w.heap.size w w2 := (HBw1.out.alloc (by omega) _).trans (hb2.mono (by simp <;> omega))
  have hs3 : w2.cell? ⟨w.heap.size, 1, none⟩ = some (.slice a ws.length c) := by rw [cell_of_row w2 _ 1 _ _ _ hS2]; rfl
  have HC2 := Lib.hid hC2
  have HS2 := Lib.hid hS2
  have HT2 := Lib.hid hT2
  have HR2 : Hid (RdA 3 encW w2 a ws) := HC1.out.later ((Below.refl _ w1 |>.alloc (Nat.le_refl _) _).trans (hb2.mono (by simp)))
  have HBw2 := Lib.hid hBw2
  clear hC2 hS2 hT2 hold2 hb2 hBw2 hs1 hs2 HC1 HBw1 HS1 HT1 HBG
  go_wp2_with (refine wpList_store_row rfl 68 _ _ rfl w2.heap.size (lineArr fun p => (p : Int)) rfl rfl _ _ (heap_alloc_new w2 _) (by rw [lineArr_size]; exact info_line) (by rw [lineArr_size]; rfl) (lineArr_one _) ?_; generalize hw3 : World.setRow (World.alloc w2 _) w2.heap.size (lineArr _) = w3; have hst : Mk0 w w1 w2 w3 a ws p c := Mk0.of hz1 hz2 HC2.out HS2.out HT2.out HR2.out HBw2.out hw3; have hs4 := hst.row; have HST := Lib.hid hst; clear hw3 hst HC2 HS2 HT2 HR2 HBw2)
  obtain ⟨C, hCe⟩ : ∃ C, C = w1.heap.size := ⟨_, rfl⟩
  obtain ⟨L, hLe⟩ : ∃ L, L = w2.heap.size := ⟨_, rfl⟩
  have hC0 : w.heap.size + 2 ≤ C := by omega
  have hL0 : w.heap.size + 2 ≤ L := by have := HST.out.z2; omega
  have h0 : Hid (∃ cv pv, MkQ w w3 C L (w.heap.size + 1) (2 * p) (mkTo ws 0) cv pv) := by
    subst hCe hLe
    exact ⟨_, _, ⟨HST.out.c, HST.out.l, OwnL.nil, OwnL.nil⟩, HST.out.t, by omega, by omega, by omega, HST.out.below⟩
  rw [← hCe, ← hLe]
  clear hCe hLe HST hz1 hz2
  go_loopw [32] (fun i wr => ∃ k : Nat, k ≤ ws.length ∧ i = .int .i64 k ∧ ∃ cv pv, MkQ w wr C L (w.heap.size + 1) (2 * p) (mkTo ws k) cv pv) (fun i _ => ws.length - (intOf i).toNat)
  case atStart => exact ⟨0, Nat.zero_le _, rfl, h0.out⟩
  case round =>
    obtain ⟨k, hk, rfl, cv, pv, hM⟩ := hrel
    have HM := Lib.hid hM
    clear hM h0
    by_cases hlt : k < ws.length
    · obtain ⟨b', off, rfl, hbl', hcell⟩ := HC0.out k ws[k] (List.getElem?_eq_getElem hlt)
      obtain ⟨hx0, hx1, hx2⟩ := encW_at (cells_below HM.out.below hbl' hcell)
      have hbl2 : b' < wr.heap.size := Nat.lt_of_lt_of_le hbl' HM.out.below.size
      have hVW := HA.out k ws[k] (List.getElem?_eq_getElem hlt)
      have hgk : ws[k]? = some ws[k] := List.getElem?_eq_getElem hlt
      generalize ws[k] = x at hx0 hx1 hx2 hVW hgk
      have HG := Lib.hid hgk
      have HVW := Lib.hid hVW
      clear hcell HC0 HA hgk hVW
      obtain ⟨xk, xa, xw⟩ := x
      obtain ⟨hlo, hhi⟩ : 0 ≤ xa ∧ xa ≤ p - 2 := ⟨HVW.out.lo, HVW.out.hi⟩
      dsimp only at hx0 hx1 hx2
      obtain ⟨q, rfl⟩ := Int.eq_ofNat_of_zero_le hlo
      have hq : q + 1 < 24 := by omega
      have hlen1 := mkTo_len ws (fun i x h => (HA0.out i x h).size) k
      go_upto_if 44 with (fail)
      have hB0 := MkB.of HM.out k q xk xw
      generalize (((wr.alloc (.cells #[.int .i64 k] 3)).alloc (.cells #[.int .i64 xk, .int .i64 q, .string xw] 60)).alloc (.cells #[.int .i64 (2 * q + 1)] 3)) = wb at hB0 ⊢
      generalize wr.heap.size = I at hB0 ⊢
      have HB0 := Lib.hid hB0
      clear hB0 HM hx0 hx1 hx2 hs3 hs4 hbl2 hbl'
      go_cut [] (fun wx => ∃ cv pv, MkB w wx C L (w.heap.size + 1) (2 * p) I k q xk xw (begunStep k (2 * q + 1) (mkTo ws k) ⟨xk, q, xw⟩) cv pv)
      case first =>
        by_cases h2 : xk = 2
        · subst h2
          go_wp2_with (go_at_call 21; refine (pin_MkB HB0.out hq (by omega)).mono ?_; rintro e w' ⟨rfl, pv', hB'⟩; have HB' := Lib.hid hB'; clear hB')
          go_meet
          case rel => exact ⟨_, _, HB'.out⟩
        · have t2 : (xk == 2) = false := beq_eq_false_iff_ne.2 h2
          go_wp2_with (fail)
          go_meet
          case rel =>
            refine ⟨cv, pv, ?_⟩
            have e : begunStep k (2 * q + 1) (mkTo ws k) ⟨xk, q, xw⟩ = mkTo ws k := if_neg h2
            rw [e]; exact HB0.out
      case rest =>
        obtain ⟨cv1, pv1, hB1⟩ := hcut
        have HB1 := Lib.hid hB1
        have hc1 := HB1.out.c.w2
        clear hB1 HB0
        have hxs : xw.size ≤ 16 := HVW.out.size
        go_wp2_with (fail)
        go_loopw [50] (fun i wr => ∃ (j : Nat) (cv pv : Value), j ≤ xw.size ∧ i = .int .i64 j ∧ MkB w wr C L (w.heap.size + 1) (2 * p) I k q xk xw ((xw.data.toList.take j).foldl (letterStep k (2 * q + 1)) (begunStep k (2 * q + 1) (mkTo ws k) ⟨xk, q, xw⟩)) cv pv) (fun i _ => xw.size - (intOf i).toNat)
        case atStart => exact ⟨0, _, _, Nat.zero_le _, rfl, by rw [List.take_zero]; exact HB1.out⟩
        case round =>
          obtain ⟨j, cv2, pv2, hj, rfl, hB2⟩ := hrel
          have HB2 := Lib.hid hB2
          have hfl := fold_len xw hxs j k (2 * q + 1) ⟨xk, q, xw⟩ (mkTo ws k)
          clear hB2 HB1
          by_cases hjl : j < xw.size
          · have HT := Lib.hid (letters_take xw j hjl (letterStep k (2 * q + 1)) (begunStep k (2 * q + 1) (mkTo ws k) ⟨xk, q, xw⟩))
            generalize (xw.data.toList.take j).foldl (letterStep k (2 * q + 1)) (begunStep k (2 * q + 1) (mkTo ws k) ⟨xk, q, xw⟩) = σ at HB2 HT hfl
            have hps : σ.ps.length < 1000000 := by omega
            have hcs : σ.cs.length < 1000000 := by omega
            have hj1 : j + 1 ≤ xw.size := by omega
            have hjm : xw.size - (j + 1) < xw.size - j := by omega
            have HPS := Lib.hid hps
            have HCS := Lib.hid hcs
            have HJ1 := Lib.hid hj1
            have HJM := Lib.hid hjm
            clear hfl hps hcs hj1 hjm
            obtain ⟨lc, hlc⟩ : ∃ lc, lc = xw[j] := ⟨_, rfl⟩
            have hE : (xw.extract j (j + 1)).data.toList = [lc] := by rw [hlc]; exact extract_one xw j hjl
            have hL9 : L9.contains lc = true := by rw [hlc]; exact HVW.out.word j hjl
            have hT : (xw.data.toList.take (j + 1)).foldl (letterStep k (2 * q + 1)) (begunStep k (2 * q + 1) (mkTo ws k) ⟨xk, q, xw⟩) = letterStep k (2 * q + 1) σ lc := by rw [hlc]; exact HT.out
            have HE := Lib.hid hE
            have HL9 := Lib.hid hL9
            have HT2 := Lib.hid hT
            have HLC := Lib.hid hlc
            clear hE hL9 hT hlc HT
            have hw2 := HB2.out.c.w2
            by_cases h80 : lc = 80
            · have t80 := u8_eq80 xw[j] (HLC.out.symm.trans h80)
              have H80 := Lib.hid h80
              clear h80
              go_wp2_with (go_at_call 21; refine (pin_MkB HB2.out hq HPS.out).mono ?_; rintro e w' ⟨rfl, pv', hB'⟩; have HB' := Lib.hid hB'; clear hB')
              go_roundw
              case rel => exact ⟨j + 1, _, _, HJ1.out, by go_num, by rw [HT2.out, letterStep, if_pos H80.out]; exact HB'.out⟩
              case measure => simpa [intOf] using HJM.out
            · have t80 := u8_ne80 xw[j] (fun e => h80 (HLC.out.trans e))
              have H80 := Lib.hid h80
              clear h80
              go_wp2_with (go_at_call 22; refine (Crossings_one xw j lc HE.out HL9.out _).mono ?_; rintro e w5 ⟨v5, rfl, hO5, hb5⟩; obtain ⟨a5, c5, rfl, hle5⟩ := hO5.slice; have HB5 := Lib.hid (HB2.out.later hb5); have HO5 := Lib.hid hO5; clear hO5 hb5)
              have HIN := Lib.hid (crossC_in lc)
              have hml := crossC_length lc
              have hT3 : Hid (letterStep k (2 * q + 1) σ lc = (crossC lc).foldl (crossStep k (2 * q + 1)) σ) := if_neg H80.out
              clear HB2 HE HL9 HLC
              generalize crossC lc = ms at HO5 HIN hml hT3 hle5 ⊢
              generalize wr.heap.size = b5 at HO5
              go_loopw [72] (fun i wr => ∃ (m : Nat) (cv pv : Value), m ≤ ms.length ∧ i = .int .i64 m ∧ MkB w wr C L (w.heap.size + 1) (2 * p) I k q xk xw ((ms.take m).foldl (crossStep k (2 * q + 1)) σ) cv pv ∧ OwnI wr b5 (.slice a5 ms.length c5) ms) (fun i _ => ms.length - (intOf i).toNat)
              case atStart => exact ⟨0, _, _, Nat.zero_le _, rfl, HB5.out, HO5.out⟩
              case round =>
                obtain ⟨m, cv3, pv3, hm, rfl, hB3, hO3⟩ := hrel
                have HB3 := Lib.hid hB3
                have HO3 := Lib.hid hO3
                clear HB5 HO5 hB3 hO3
                by_cases hml2 : m < ms.length
                · have hMT := moves_take ms m hml2 (crossStep k (2 * q + 1)) σ
                  obtain ⟨n, hn⟩ : ∃ n, ms[m]? = some n := ⟨_, List.getElem?_eq_getElem hml2⟩
                  have hn2 : ms[m] = n := (List.getElem?_eq_some_iff.1 hn).2
                  rw [hn2] at hMT
                  have HMT := Lib.hid hMT
                  obtain ⟨g5, c6, hv5, hbg5, hcell5⟩ := OwnL.cell HO3.out encI_len m n hn
                  obtain ⟨hn0, hn3⟩ := HIN.out n (List.mem_of_getElem? hn)
                  obtain ⟨rfl, rfl⟩ : a5 = some ⟨g5, 0, none⟩ ∧ c5 = c6 := by injection hv5 with e1 _ e3; exact ⟨e1, e3⟩
                  have hcl5 : wr.cell? ⟨g5, m, none⟩ = some (.int .i64 n) := by
                    have := hcell5 0 _ rfl
                    rwa [Nat.mul_one, Nat.add_zero] at this
                  clear hMT hn hn2 hv5 hcell5
                  obtain ⟨A, hA⟩ : ∃ A, A = 2 * q + 1 + n.natAbs - 2 := ⟨_, rfl⟩
                  have hat := at_eq q n hn0
                  rw [← hA] at hat
                  have hAm : A + 1 < 48 := by omega
                  have hbB : w.heap.size ≤ wr.heap.size := HB3.out.mq.below.size
                  have HSL : Hid (((ms.take m).foldl (crossStep k (2 * q + 1)) σ).cs.length < 1000000000) := by
                    have e1 := (crossFold_len k (2 * q + 1) (ms.take m) σ).1
                    have e2 := List.length_take_le' m ms
                    have e3 := HCS.out
                    rw [Hid]; omega
                  generalize (ms.take m).foldl (crossStep k (2 * q + 1)) σ = σ3 at HB3 HMT HSL
                  obtain ⟨x, hx⟩ : ∃ x, σ3.l A = x := ⟨_, rfl⟩
                  obtain ⟨y, hy⟩ : ∃ y, σ3.l (A + 1) = y := ⟨_, rfl⟩
                  have hl1 := HB3.out.mq.inv.2.1.cell A (by omega)
                  have hl2 := HB3.out.mq.inv.2.1.cell (A + 1) hAm
                  rw [hx] at hl1
                  rw [hy] at hl2
                  have HCE := Lib.hid (fun z => crossStep_eq (k := k) (s := σ3) hA hx hy z)
                  have hc := HB3.out.c
                  have hm0 := hc.m0
                  have hi0 := hc.i0
                  have hcc1 := hc.c1
                  have hcf1 := hc.fc
                  have hclt := hc.ltc
                  have HNC := Lib.hid (own_type_ne HB3.out.mq.inv.2.2.1 HB3.out.mq.inv.1 (by decide))
                  have hA0 : (0 : Int) ≤ (A : Int) := by omega
                  have hA1 : (A : Int) < 48 := by omega
                  have hA2 : (A : Int) + 1 < 48 := by omega
                  have hm1 : m + 1 ≤ ms.length := by omega
                  have hmd : ms.length - (m + 1) < ms.length - m := by omega
                  have HM1 := Lib.hid hm1
                  have HMD := Lib.hid hmd
                  have HAM := Lib.hid hAm
                  clear hc hx hy hA hm1 hmd hAm
                  go_upto_region 23 with (fail)
                  clear hat
                  have hw64 := w64_succ A (by omega)
                  have hw0 := z_succ A
                  have hwn := n_succ A
                  refine start_ (n := 12) (S := fun w' => w'.cell? ⟨I, 0, none⟩ = some (.int .i64 k) ∧ w'.cell? ⟨L, A, none⟩ = some (.int .i64 x) ∧ w'.cell? ⟨L, A + 1, none⟩ = some (.int .i64 y)) (ds := [11]) #[false, false, false, false, false, false, false, false, false, false, false, false] (by kernel_rfl) rfl rfl ⟨hi0, hl1, hl2⟩ (fun hHeld => ?_)
                  refine pure_ (i := 1) (N := some 84) (v := ?_) (a' := ?_) #[false, true, false, false, false, false, false, false, false, false, false, false] rfl rfl (by kernel_rfl) (fun _ _ _ h => h) (Or.inl ⟨by rfl, ?_⟩) ?_ ?_
                  rotate_left
                  · intro w'
                    go_simp
                    with_reducible rfl
                  rotate_left
                  · simp only [Act.put, List.setIfInBounds_toArray, List.set_cons_zero, List.set_cons_succ, i64_w, i32_w]
                    rfl
                  refine pure_ (i := 2) (N := some 85) (v := ?_) (a' := ?_) #[false, true, true, false, false, false, false, false, false, false, false, false] rfl rfl (by kernel_rfl) (fun _ _ _ h => h) (Or.inl ⟨by rfl, ?_⟩) ?_ ?_
                  rotate_left
                  · intro w'
                    go_simp
                    with_reducible rfl
                  rotate_left
                  · simp only [Act.put, List.setIfInBounds_toArray, List.set_cons_zero, List.set_cons_succ, i64_w, i32_w]
                    rfl
                  refine pure_ (i := 3) (N := some 86) (v := ?_) (a' := ?_) #[false, true, true, true, false, false, false, false, false, false, false, false] rfl rfl (by kernel_rfl) (fun _ _ _ h => h) (Or.inl ⟨by rfl, ?_⟩) ?_ ?_
                  rotate_left
                  · intro w'
                    go_simp
                    with_reducible rfl
                  rotate_left
                  · simp only [Act.put, List.setIfInBounds_toArray, List.set_cons_zero, List.set_cons_succ, i64_w, i32_w]
                    rfl
                  refine pure_ (i := 5) (N := some 88) (v := ?_) (a' := ?_) #[false, true, true, true, false, true, false, false, false, false, false, false] rfl rfl (by kernel_rfl) (fun _ _ _ h => h) (Or.inl ⟨by rfl, ?_⟩) ?_ ?_
                  rotate_left
                  · intro w'
                    go_simp
                    with_reducible rfl
                  rotate_left
                  · simp only [Act.put, List.setIfInBounds_toArray, List.set_cons_zero, List.set_cons_succ, i64_w, i32_w]
                    rfl
                  refine pure_ (i := 6) (N := some 89) (v := ?_) (a' := ?_) #[false, true, true, true, false, true, true, false, false, false, false, false] rfl rfl (by kernel_rfl) (fun _ _ _ h => h) (Or.inl ⟨by rfl, ?_⟩) ?_ ?_
                  rotate_left
                  · intro w'
                    go_simp
                    with_reducible rfl
                  rotate_left
                  · simp only [Act.put, List.setIfInBounds_toArray, List.set_cons_zero, List.set_cons_succ, i64_w, i32_w]
                    rfl
                  refine pure_ (i := 7) (N := some 90) (v := ?_) (a' := ?_) #[false, true, true, true, false, true, true, true, false, false, false, false] rfl rfl (by kernel_rfl) (fun _ _ _ h => h) (Or.inl ⟨by rfl, ?_⟩) ?_ ?_
                  rotate_left
                  · intro w'
                    go_simp
                    with_reducible rfl
                  rotate_left
                  · simp only [Act.put, List.setIfInBounds_toArray, List.set_cons_zero, List.set_cons_succ, i64_w, i32_w]
                    rfl
                  refine take_ (i := 0) (N := some 83) (v := ?_) (a' := ?_) #[true, true, true, true, false, true, true, true, false, false, false, false] rfl rfl (by kernel_rfl) (fun _ _ _ h => h) (Or.inl ⟨by rfl, ?_⟩) hHeld ?_ ?_
                  rotate_left
                  · rintro w' ⟨s0, s1, s2⟩
                    go_simp
                    with_reducible rfl
                  rotate_left
                  · simp only [Act.put, List.setIfInBounds_toArray, List.set_cons_zero, List.set_cons_succ, i64_w, i32_w]
                    rfl
                  refine take_ (i := 4) (N := some 87) (v := ?_) (a' := ?_) #[true, true, true, true, true, true, true, true, false, false, false, false] rfl rfl (by kernel_rfl) (fun _ _ _ h => h) (Or.inl ⟨by rfl, ?_⟩) hHeld ?_ ?_
                  rotate_left
                  · rintro w' ⟨s0, s1, s2⟩
                    go_simp
                    with_reducible rfl
                  rotate_left
                  · simp only [Act.put, List.setIfInBounds_toArray, List.set_cons_zero, List.set_cons_succ, i64_w, i32_w]
                    rfl
                  refine take_ (i := 8) (N := some 91) (v := ?_) (a' := ?_) #[true, true, true, true, true, true, true, true, true, false, false, false] rfl rfl (by kernel_rfl) (fun _ _ _ h => h) (Or.inl ⟨by rfl, ?_⟩) hHeld ?_ ?_
                  rotate_left
                  · rintro w' ⟨s0, s1, s2⟩
                    go_simp
                    with_reducible rfl
                  rotate_left
                  · simp only [Act.put, List.setIfInBounds_toArray, List.set_cons_zero, List.set_cons_succ, i64_w, i32_w]
                    rfl
                  refine pure_ (i := 9) (N := some 92) (v := ?_) (a' := ?_) #[true, true, true, true, true, true, true, true, true, true, false, false] rfl rfl (by kernel_rfl) (fun _ _ _ h => h) (Or.inl ⟨by rfl, ?_⟩) ?_ ?_
                  rotate_left
                  · intro w'
                    go_simp
                    with_reducible rfl
                  rotate_left
                  · simp only [Act.put, List.setIfInBounds_toArray, List.set_cons_zero, List.set_cons_succ, i64_w, i32_w]
                    rfl
                  refine one_ (i := 10) (N := some 17) #[true, true, true, true, true, true, true, true, true, true, true, false] rfl rfl (by kernel_rfl) (by decide) (fun K hK => ?_)
                  refine value_ (w1 := ?_) (v := ?_) (by rfl) rfl ?_ ?_
                  rotate_left 2
                  · go_simp
                    constructor
                    · rfl
                    · rfl
                  refine hK.out _ _ ⟨(World.cell?_alloc_lt _ _ _ (World.block_lt_of_cell? _ _ (hHeld.1))).trans (hHeld.1), (World.cell?_alloc_lt _ _ _ (World.block_lt_of_cell? _ _ (hHeld.2.1))).trans (hHeld.2.1), (World.cell?_alloc_lt _ _ _ (World.block_lt_of_cell? _ _ (hHeld.2.2))).trans (hHeld.2.2)⟩ (fun hHeld => ?_)
                  clear hK K
                  refine norm_ (a' := ?_) ?_ ?_
                  rotate_left
                  · show Act.put _ (some 17) _ = _
                    simp only [Act.put, List.setIfInBounds_toArray, List.set_cons_zero, List.set_cons_succ, i64_w, i32_w]
                    rfl
                  refine last_ (i := 11) (N := none) #[true, true, true, true, true, true, true, true, true, true, true, true] rfl rfl (by kernel_rfl) (by decide) (fun K hK => ?_)
                  refine skip_ (w1 := ?_) (by rfl) rfl ?_ ?_
                  rotate_left
                  · go_simp
                    rfl
                  refine hK.out _ _ ?_
                  clear hK K
                  refine done_ (by kernel_rfl) ?_
                  clear hw64 hw0 hwn hHeld
                  clear hHeld
                  obtain ⟨o, u, hz, hz1, hz2⟩ : ∃ o u, (⟨k, A, o, u⟩ : Crs) = (if n < 0 then ⟨k, A, y, x⟩ else ⟨k, A, x, y⟩) ∧ (n < 0 → o = y ∧ u = x) ∧ (¬ n < 0 → o = x ∧ u = y) := by
                    by_cases h : n < 0
                    · exact ⟨y, x, (if_pos h).symm, fun _ => ⟨rfl, rfl⟩, fun h2 => absurd h h2⟩
                    · exact ⟨x, y, (if_neg h).symm, fun h2 => absurd h2 h, fun _ => ⟨rfl, rfl⟩⟩
                  have HZ := Lib.hid hz
                  have HZ1 := Lib.hid hz1
                  have HZ2 := Lib.hid hz2
                  clear hz hz1 hz2
                  go_upto_if 94 with (fail)
                  go_cut [] (fun wx => wx = (wr.alloc (.cells #[.int .i64 k, .int .i64 A, .int .i64 o, .int .i64 u] 74)).drew)
                  case first =>
                    by_cases hneg : n < 0
                    · obtain ⟨rfl, rfl⟩ := HZ1.out hneg
                      have tn : decide (n < 0) = true := decide_eq_true hneg
                      clear HZ1 HZ2
                      go_wp2_with (fail)
                      go_meet
                      case rel => rfl
                    · obtain ⟨rfl, rfl⟩ := HZ2.out hneg
                      have tn : decide (n < 0) = false := decide_eq_false hneg
                      clear HZ1 HZ2
                      go_wp2_with (fail)
                      go_meet
                      case rel => rfl
                  case rest =>
                    subst hcut
                    clear HZ1 HZ2 hl1 hl2 hcl5 hm0 hi0
                    have hbb : Below wr.heap.size wr (wr.alloc (.cells #[.int .i64 k, .int .i64 A, .int .i64 o, .int .i64 u] 74)).drew := ((Below.refl _ _).alloc (Nat.le_refl _) _).drew
                    have hbz : ((wr.alloc (.cells #[.int .i64 k, .int .i64 A, .int .i64 o, .int .i64 u] 74)).drew).heap.size = wr.heap.size + 1 := by simp
                    have hX : ((wr.alloc (.cells #[.int .i64 k, .int .i64 A, .int .i64 o, .int .i64 u] 74)).drew).heap[wr.heap.size]? = some (.cells #[.int .i64 k, .int .i64 A, .int .i64 o, .int .i64 u] 74 (0, 0)) := heap_alloc_new wr _
                    generalize (wr.alloc (.cells #[.int .i64 k, .int .i64 A, .int .i64 o, .int .i64 u] 74)).drew = wx at hbb hbz hX ⊢
                    have HB4 := Lib.hid (HB3.out.later hbb)
                    have HO4 := Lib.hid (HO3.out.later hbb)
                    have hccx : wx.cell? ⟨C, 1, none⟩ = some cv3 := (hbb.cell (p := ⟨C, 1, none⟩) hclt).trans hcc1
                    have hcfx := HB4.out.c.fc
                    have hcltx : C < wx.heap.size := by omega
                    have hx0 : wx.cell? ⟨wr.heap.size, 0, none⟩ = some (.int .i64 k) := by rw [cell_of_row wx _ 0 _ _ _ hX]; rfl
                    have hx1 : wx.cell? ⟨wr.heap.size, 1, none⟩ = some (.int .i64 A) := by rw [cell_of_row wx _ 1 _ _ _ hX]; rfl
                    have hx2 : wx.cell? ⟨wr.heap.size, 2, none⟩ = some (.int .i64 o) := by rw [cell_of_row wx _ 2 _ _ _ hX]; rfl
                    have hx3 : wx.cell? ⟨wr.heap.size, 3, none⟩ = some (.int .i64 u) := by rw [cell_of_row wx _ 3 _ _ _ hX]; rfl
                    have hbBx : w.heap.size ≤ wx.heap.size := by omega
                    have HbBx := Lib.hid hbBx
                    have Hcltx := Lib.hid hcltx
                    generalize wr.heap.size = B at hx0 hx1 hx2 hx3 ⊢
                    clear HB3 HO3 hcc1 hcf1 hclt hbb hbz hX hbB hbBx hcltx
                    go_wp2_with (first | (at_builtin; go_must (refine app_cross rfl _ _ rfl w.heap.size cv3 σ3.cs rfl HB4.out.mq.inv.2.2.1 1 ⟨k, A, o, u⟩ _ rfl rfl HSL.out HbBx.out rfl ?_); intro v4 w4 hown4 hg4 hv4 hat4; obtain ⟨g4, c4, rfl⟩ := hown4.some_ hv4; rw [List.length_append, List.length_singleton] at hown4; have hcf4 : w4.frozen? ⟨C, 1, none⟩ = false := (World.frozen?_of_block (w := wx) (hg4.block C Hcltx.out (fun e => HNC.out e.symm))).trans hcfx; have hcc4 : w4.cell? ⟨C, 1, none⟩ = some cv3 := hg4.cell (w := wx) hccx (fun e => HNC.out e.symm); have hA5 := HB4.out.app (.slice (some ⟨g4, 0, none⟩) (σ3.cs.length + 1) c4) ⟨k, A, o, u⟩ hown4 hg4; have HB5 := Lib.hid hA5.1; have HK5 := Lib.hid hA5.2; clear hown4 hg4 hv4 hat4 hA5) | (go_at_call 23; refine (swap_MkB HB5.out A HAM.out).mono ?_; rintro e w6 ⟨rfl, hB6, hK6⟩; have HB6 := Lib.hid hB6; have HK6 := Lib.hid hK6; clear hB6 hK6))
                    go_roundw
                    case rel => exact ⟨m + 1, _, _, HM1.out, by go_num, by rw [HMT.out, ← HCE.out _ HZ.out]; exact HB6.out, OwnI.kps HB5.out.mq.inv (OwnI.kps HB4.out.mq.inv HO4.out HK5.out) HK6.out⟩
                    case measure => simpa [intOf] using HMD.out
                · go_wp2_with (fail)
                  obtain rfl : m = ms.length := by omega
                  have hB9 := HB3.out
                  rw [List.take_length, ← hT3.out, ← HT2.out] at hB9
                  go_roundw
                  case rel => exact ⟨j + 1, _, _, HJ1.out, by go_num, hB9⟩
                  case measure => simpa [intOf] using HJM.out
          · go_wp2_with (fail)
            obtain rfl : j = xw.size := by omega
            have hE := HB2.out.mq
            rw [letters_all] at hE
            go_roundw
            case rel => exact ⟨k + 1, by omega, by go_num, _, _, by rw [mkTo_succ ws k _ HG.out]; exact hE⟩
            case measure => first | (simp [intOf]; done) | (simp [intOf]; omega)
    · obtain rfl : k = ws.length := by omega
      have hk0 : wr.cell? ⟨C, 0, none⟩ = some (.int .i64 (2 * p)) := by rw [cell_of_row wr C 0 _ _ _ HM.out.inv.1]; rfl
      have hk1 : wr.cell? ⟨C, 1, none⟩ = some cv := by rw [cell_of_row wr C 1 _ _ _ HM.out.inv.1]; rfl
      have hk2 : wr.cell? ⟨C, 2, none⟩ = some pv := by rw [cell_of_row wr C 2 _ _ _ HM.out.inv.1]; rfl
      have ht0 : wr.cell? ⟨w.heap.size + 1, 0, none⟩ = some (.int .i64 0) := by rw [cell_of_row wr _ 0 _ _ _ HM.out.t]; rfl
      have ht1 : wr.cell? ⟨w.heap.size + 1, 1, none⟩ = some (.slice none 0 0) := by rw [cell_of_row wr _ 1 _ _ _ HM.out.t]; rfl
      have ht2 : wr.cell? ⟨w.heap.size + 1, 2, none⟩ = some (.slice none 0 0) := by rw [cell_of_row wr _ 2 _ _ _ HM.out.t]; rfl
      have hf0 := frozen_of_row wr _ 0 _ _ HM.out.t
      have hf1 := frozen_of_row wr _ 1 _ _ HM.out.t
      have hf2 := frozen_of_row wr _ 2 _ _ HM.out.t
      obtain ⟨ga, ca, rfl, _⟩ := HM.out.inv.2.2.1.slice
      obtain ⟨gp, cp, rfl, _⟩ := HM.out.inv.2.2.2.slice
      have HX := Lib.hid HM.out.inv.2.2.1
      have HP := Lib.hid HM.out.inv.2.2.2
      have HTT := Lib.hid HM.out.t
      have HBE := Lib.hid HM.out.below
      go_wp2_with (fail)
      refine bodyPost_ret (Go.Proofs.YtepofpnbgbmihaaDoorW.PrintWords.results_ct (P := Tryd.prog) rfl _ _ (w.heap.size + 1) 41 #[.int .i64 (2 * p), .slice ga (mkTo ws ws.length).cs.length ca, .slice gp (mkTo ws ws.length).ps.length cp] (0, 0) _ rfl (heap_setCell_same _ _ 2 _ _ _ (heap_setCell_same _ _ 1 _ _ _ (heap_setCell_same wr _ 0 _ _ _ HTT.out))) Tryd.underlying41 rfl info_cloth) rfl ?_
      have hKf := ((Kp.setCell wr ⟨w.heap.size + 1, 0, none⟩ (.int .i64 (2 * p)) (S := fun k => k = w.heap.size + 1) rfl).trans (Kp.setCell _ ⟨w.heap.size + 1, 1, none⟩ (.slice ga (mkTo ws ws.length).cs.length ca) rfl)).trans (Kp.setCell _ ⟨w.heap.size + 1, 2, none⟩ (.slice gp (mkTo ws ws.length).ps.length cp) rfl)
      refine ⟨⟨_, _, rfl, OwnL.kp HX.out hKf ?_, OwnL.kp HP.out hKf ?_⟩, ?_⟩
      · intro k hk e
        exact own_type_ne HX.out HTT.out (by decide) (hk.trans (congrArg some e))
      · intro k hk e
        exact own_type_ne HP.out HTT.out (by decide) (hk.trans (congrArg some e))
      · exact ((HBE.out.setCell (by simp) _).setCell (by simp) _).setCell (by simp) _
end Go.Proofs.YtepofpnbgbmihaaDoor

/-
  cloth.in.
-/
namespace Go.Proofs.YtepofpnbgbmihaaDoor
open Go.RowKit
set_option linter.unusedSimpArgs false
set_option linter.unusedVariables false

set_option maxHeartbeats 400000 in
theorem in_any (n lo hi : Int) (w : World) (h1 : lo ≤ n) (h2 : n ≤ hi) : Calls Tryd.prog 56 #[.int .i64 n, .int .i64 lo, .int .i64 hi] w fun e w' => e = .returned (.bool true) ∧ w' = w := by
  go_enter Tryd.func56, Tryd.ntmps56
  go_wp2
  go_ret
  exact ⟨rfl, rfl⟩
end Go.Proofs.YtepofpnbgbmihaaDoor

/-
  cloth.crossings: the iterator over a cloth's crossings, at each the threads of the line.
-/
namespace Go.Proofs.YtepofpnbgbmihaaDoor
open Go.RowKit Go.Shelf
set_option linter.unusedSimpArgs false
set_option linter.unusedVariables false
attribute [local go_sem] Oper.semAt_some

/-- The line ahead of crossing k. -/
def lineTo (l : Nat → Int) (cs : List Crs) : Nat → Nat → Int
  | 0 => l
  | k + 1 => match cs[k]? with
    | some x => swapL (lineTo l cs k) x.at_.toNat
    | none => lineTo l cs k
theorem lineTo_succ (l : Nat → Int) (cs : List Crs) (k : Nat) (x : Crs) (h : cs[k]? = some x) : lineTo l cs (k + 1) = swapL (lineTo l cs k) x.at_.toNat := by
  show (match cs[k]? with | some x => swapL (lineTo l cs k) x.at_.toNat | none => lineTo l cs k) = _
  rw [h]

theorem share {T G : Prop} (f : T → G) (x : T) : G := f x
/-- Between two rounds: the cloth's box B1, the line's pointer in B2, the line in L. -/
structure ItSt (w0 W : World) (B1 B2 L : Nat) (v : Value) (l : Nat → Int) : Prop where
  c1 : W.cell? ⟨B1, 1, none⟩ = some v
  b1 : B1 < W.heap.size
  p : W.cell? ⟨B2, 0, none⟩ = some (.pointer (some ⟨L, 0, none⟩))
  b2 : B2 < W.heap.size
  line : LineAt W L l
  n1 : B1 ≠ L
  n2 : B2 ≠ L
  lge : w0.heap.size ≤ L
  below : Below w0.heap.size w0 W
theorem ItSt.later {w0 W W' : World} {B1 B2 L : Nat} {v : Value} {l : Nat → Int} (h : ItSt w0 W B1 B2 L v l) (hb : Below W.heap.size W W') : ItSt w0 W' B1 B2 L v l :=
  ⟨(hb.cell (p := ⟨B1, 1, none⟩) h.b1).trans h.c1, Nat.lt_of_lt_of_le h.b1 hb.size, (hb.cell (p := ⟨B2, 0, none⟩) h.b2).trans h.p, Nat.lt_of_lt_of_le h.b2 hb.size, h.line.later hb, h.n1, h.n2, h.lge, h.below.trans (hb.mono h.below.size)⟩
theorem ItSt.swap {w0 W W' : World} {B1 B2 L : Nat} {v : Value} {l m : Nat → Int} (h : ItSt w0 W B1 B2 L v l) (hL : LineAt W' L m) (hg : W.grownBy W' (some L)) : ItSt w0 W' B1 B2 L v m :=
  ⟨hg.cell h.c1 (fun e => h.n1 (by injection e)), Nat.lt_of_lt_of_le h.b1 hg.size, hg.cell h.p (fun e => h.n2 (by injection e)), Nat.lt_of_lt_of_le h.b2 hg.size, hL, h.n1, h.n2, h.lge,
    h.below.grown hg h.below.size (fun k e => by injection e with e; exact e ▸ h.lge)⟩

set_option maxRecDepth 100000 in
set_option maxHeartbeats 1000000 in
theorem crossings1_in (n : Nat) (l B1 B2 L c : Nat) (a : Option Addr) (cs : List Crs) (l0 : Nat → Int) (w0 W : World) (Rec : World → Prop) (hrd : RdA 4 encX w0 a cs) (hat : ∀ (i : Nat) (x : Crs), cs[i]? = some x → 0 ≤ x.at_ ∧ x.at_ < 47)
    (hlen : cs.length ≤ 9223372036854775807)
    (hRec : ∀ A B row, (row = none ∨ row = some L) → Rec A → A.grownBy B row → Rec B)
    (hY : ∀ (k : Nat) (x : Crs) (W1 : World), cs[k]? = some x → ItSt w0 W1 B1 B2 L (.slice a cs.length c) (lineTo l0 cs k) → Rec W1 →
      YieldAt Fence.wide (n - 1) Tryd.prog l #[.agg #[.int .i64 x.work, .int .i64 x.at_, .int .i64 x.over, .int .i64 x.under], .agg #[.int .i64 (lineTo l0 cs k x.at_.toNat), .int .i64 (lineTo l0 cs k (x.at_.toNat + 1))]] W1 fun e W' =>
        e = .returned (.bool true) ∧ Below W1.heap.size W1 W')
    (h0 : ItSt w0 W B1 B2 L (.slice a cs.length c) l0) (hR0 : Rec W) :
    CallsIn Fence.wide n Tryd.prog 64 #[.func (.yield l) #[] #[], .pointer (some ⟨B1, 0, none⟩), .pointer (some ⟨B2, 0, none⟩)] W fun e W' => (∃ v, e = .returned v) ∧
      ItSt w0 W' B1 B2 L (.slice a cs.length c) (lineTo l0 cs cs.length) ∧ Rec W' := by
  have HY := Lib.hid hY
  have HAT := Lib.hid hat
  have HREC := Lib.hid hRec
  have H0 := Lib.hid h0
  have HR0 := Lib.hid hR0
  have HRD := Lib.hid hrd
  have hc1 := h0.c1
  clear hY hat hRec h0 hR0 hrd
  refine callsIn_of_wp Tryd.func64 rfl trivial ?_ rfl
  simp only [Tryd.ntmps64, List.size_toArray, List.length_cons, List.length_nil, Nat.reduceAdd, Nat.reduceSub, Array.replicate_succ, Array.replicate_zero, List.push_toArray, List.append_toArray, List.nil_append, List.cons_append]
  gi_wp2
  gi_loopw [9] (fun i wr => ∃ k : Nat, k ≤ cs.length ∧ i = .int .i64 k ∧ ItSt w0 wr B1 B2 L (.slice a cs.length c) (lineTo l0 cs k) ∧ Rec wr) (fun i _ => cs.length - (intOf i).toNat)
  case atStart => exact ⟨0, Nat.zero_le _, rfl, H0.out, HR0.out⟩
  case round =>
    obtain ⟨k, hk, rfl, hI, hRc⟩ := hrel
    have HI := Lib.hid hI
    have HRC := Lib.hid hRc
    clear hI hRc H0 HR0 hc1
    by_cases hlt : k < cs.length
    · obtain ⟨b', off, rfl, hbl', hcell⟩ := HRD.out k cs[k] (List.getElem?_eq_getElem hlt)
      have hcb := cells_below HI.out.below hbl' hcell
      have hx0 := hcb 0 _ rfl
      have hx1 := hcb 1 _ rfl
      have hx2 := hcb 2 _ rfl
      have hx3 := hcb 3 _ rfl
      have hbl2 : b' < wr.heap.size := Nat.lt_of_lt_of_le hbl' HI.out.below.size
      obtain ⟨hlo, hhi⟩ := HAT.out k cs[k] (List.getElem?_eq_getElem hlt)
      have hgk : cs[k]? = some cs[k] := List.getElem?_eq_getElem hlt
      generalize cs[k] = x at hx0 hx1 hx2 hx3 hlo hhi hgk
      have HG := Lib.hid hgk
      rw [Nat.add_zero] at hx0
      clear hcell hcb HRD HAT hgk
      obtain ⟨xw, xa, xo, xu⟩ := x
      dsimp only at hx0 hx1 hx2 hx3 hlo hhi
      obtain ⟨q, rfl⟩ := Int.eq_ofNat_of_zero_le hlo
      have hq : q + 1 < 48 := by omega
      have hbb : Below wr.heap.size wr (wr.alloc (.cells #[.int .i64 xw, .int .i64 q, .int .i64 xo, .int .i64 xu] 74)).drew := ((Below.refl _ _).alloc (Nat.le_refl _) _).drew
      have HI2 := Lib.hid (HI.out.later hbb)
      have HRC2 := Lib.hid (HREC.out _ _ none (.inl rfl) HRC.out (grown_of_belowN hbb none))
      obtain ⟨fn, tmps, assign, body, hy, hR⟩ := HY.out k _ _ HG.out HI2.out HRC2.out
      dsimp only [Int.toNat_natCast] at hy hR
      have hl1 := HI.out.line.cell q (by omega)
      have hl2 := HI.out.line.cell (q + 1) hq
      have hp := HI.out.p
      have hb2 := HI.out.b2
      have hLlt := HI.out.line.lt
      have HR := Lib.hid hR
      have hX : ((wr.alloc (.cells #[.int .i64 xw, .int .i64 q, .int .i64 xo, .int .i64 xu] 74)).drew).cell? ⟨wr.heap.size, 1, none⟩ = some (.int .i64 q) := by simp [World.cell?_alloc_at]
      have HXC := Lib.hid hX
      clear hR HY hbb hX
      have hmo : Tryd.prog.follows .mixedOrders = true := by kernel_rfl
      have hq1 : (q : Int) < 48 := by omega
      have hq2 : (q : Int) + 1 < 48 := by omega
      gi_wp2
      have hw64 := w64_succ q (by omega)
      have hwi : IntKind.i64.wrap ((q : Int) + 1) = (q : Int) + 1 := by rw [IntKind.wrap_i64]; unfold wrap64 at hw64; omega
      have hw0 := z_succ q
      have hwn := n_succ q
      refine wpIn_region_any (by kernel_rfl) ?_
      change wpAnyIn _ _ _ _ _ _ _ _ _ (World.drew _)
      refine wpAnyIn_take (i := 0) (v := ?_) rfl rfl (by kernel_rfl) (by kernel_rfl) (by kernel_rfl) (fun _ _ _ h => h) ⟨Or.inl ⟨by rfl, ?_⟩, fun _ => rfl⟩ ?_
      rotate_left
      · (intro w; go_simp; with_reducible rfl)
      refine wpAnyIn_take (i := 3) (v := ?_) rfl rfl (by kernel_rfl) (by kernel_rfl) (by kernel_rfl) (fun _ _ _ h => h) ⟨Or.inl ⟨by rfl, ?_⟩, fun _ => rfl⟩ ?_
      rotate_left
      · (intro w; go_simp; with_reducible rfl)
      refine wpAnyIn_take (i := 9) (v := ?_) rfl rfl (by kernel_rfl) (by kernel_rfl) (by kernel_rfl) (fun _ _ _ h => h) ⟨Or.inl ⟨by rfl, ?_⟩, fun _ => rfl⟩ ?_
      rotate_left
      · (intro w; go_simp; with_reducible rfl)
      try simp only [Act.put, List.setIfInBounds_toArray, List.set_cons_zero, List.set_cons_succ]
      apply share
      intro hI49
      apply share
      intro hI48
      apply share
      intro hI47
      apply share
      intro hI46
      apply share
      intro hI45
      apply share
      intro hI44
      apply share
      intro hI43
      apply share
      intro hI42
      apply share
      intro hI41
      apply share
      intro hI40
      apply share
      intro hI39
      apply share
      intro hI38
      apply share
      intro hI37
      apply share
      intro hI36
      apply share
      intro hI35
      apply share
      intro hI34
      apply share
      intro hI33
      apply share
      intro hI32
      apply share
      intro hI31
      apply share
      intro hI30
      apply share
      intro hI29
      apply share
      intro hI28
      apply share
      intro hI27
      apply share
      intro hI26
      apply share
      intro hI25
      apply share
      intro hI24
      apply share
      intro hI23
      apply share
      intro hI22
      apply share
      intro hI21
      apply share
      intro hI20
      apply share
      intro hI19
      apply share
      intro hI18
      apply share
      intro hI17
      apply share
      intro hI16
      apply share
      intro hI15
      apply share
      intro hI14
      apply share
      intro hI13
      apply share
      intro hI12
      apply share
      intro hI11
      apply share
      intro hI10
      apply share
      intro hI9
      apply share
      intro hI8
      apply share
      intro hI7
      apply share
      intro hI6
      apply share
      intro hI5
      apply share
      intro hI4
      apply share
      intro hI3
      apply share
      intro hI2
      apply share
      intro hI1
      · skip -- [0, 3, 9]
        refine wpAnyIn_ready (rs := [1, 2, 4, 8, 10]) (by kernel_rfl) (by simp) ?_
        refine AllReadyIn.cons rfl (fun K hK => ?_) ?_
        · go_simp
          refine hK _ _ ?_
          clear hK K
          try simp only [Act.put, List.setIfInBounds_toArray, List.set_cons_zero, List.set_cons_succ]
          exact hI1
        refine AllReadyIn.cons rfl (fun K hK => ?_) ?_
        · go_simp
          refine hK _ _ ?_
          clear hK K
          refine wpAnyIn_take (i := 5) (v := ?_) rfl rfl (by kernel_rfl) (by kernel_rfl) (by kernel_rfl) (fun _ _ _ h => h) ⟨Or.inl ⟨by rfl, ?_⟩, fun _ => rfl⟩ ?_
          rotate_left
          · (intro w; go_simp; with_reducible rfl)
          try simp only [Act.put, List.setIfInBounds_toArray, List.set_cons_zero, List.set_cons_succ]
          exact hI3
        refine AllReadyIn.cons rfl (fun K hK => ?_) ?_
        · go_simp
          refine hK _ _ ?_
          clear hK K
          try simp only [Act.put, List.setIfInBounds_toArray, List.set_cons_zero, List.set_cons_succ]
          exact hI2
        refine AllReadyIn.cons rfl (fun K hK => ?_) ?_
        · go_simp
          refine hK _ _ ?_
          clear hK K
          refine wpAnyIn_take (i := 12) (v := ?_) rfl rfl (by kernel_rfl) (by kernel_rfl) (by kernel_rfl) (fun _ _ _ h => h) ⟨Or.inl ⟨by rfl, ?_⟩, fun _ => rfl⟩ ?_
          rotate_left
          · (intro w; go_simp; with_reducible rfl)
          try simp only [Act.put, List.setIfInBounds_toArray, List.set_cons_zero, List.set_cons_succ]
          exact hI4
        refine AllReadyIn.cons rfl (fun K hK => ?_) ?_
        · go_simp
          refine hK _ _ ?_
          clear hK K
          refine wpAnyIn_take (i := 11) (v := ?_) rfl rfl (by kernel_rfl) (by kernel_rfl) (by kernel_rfl) (fun _ _ _ h => h) ⟨Or.inl ⟨by rfl, ?_⟩, fun _ => rfl⟩ ?_
          rotate_left
          · (intro w; go_simp; with_reducible rfl)
          try simp only [Act.put, List.setIfInBounds_toArray, List.set_cons_zero, List.set_cons_succ]
          exact hI5
        exact AllReadyIn.nil
      · skip -- [0, 1, 3, 9]
        refine wpAnyIn_ready (rs := [2, 4, 8, 10]) (by kernel_rfl) (by simp) ?_
        refine AllReadyIn.cons rfl (fun K hK => ?_) ?_
        · go_simp
          refine hK _ _ ?_
          clear hK K
          refine wpAnyIn_take (i := 5) (v := ?_) rfl rfl (by kernel_rfl) (by kernel_rfl) (by kernel_rfl) (fun _ _ _ h => h) ⟨Or.inl ⟨by rfl, ?_⟩, fun _ => rfl⟩ ?_
          rotate_left
          · (intro w; go_simp; with_reducible rfl)
          try simp only [Act.put, List.setIfInBounds_toArray, List.set_cons_zero, List.set_cons_succ]
          exact hI7
        refine AllReadyIn.cons rfl (fun K hK => ?_) ?_
        · go_simp
          refine hK _ _ ?_
          clear hK K
          try simp only [Act.put, List.setIfInBounds_toArray, List.set_cons_zero, List.set_cons_succ]
          exact hI6
        refine AllReadyIn.cons rfl (fun K hK => ?_) ?_
        · go_simp
          refine hK _ _ ?_
          clear hK K
          refine wpAnyIn_take (i := 12) (v := ?_) rfl rfl (by kernel_rfl) (by kernel_rfl) (by kernel_rfl) (fun _ _ _ h => h) ⟨Or.inl ⟨by rfl, ?_⟩, fun _ => rfl⟩ ?_
          rotate_left
          · (intro w; go_simp; with_reducible rfl)
          try simp only [Act.put, List.setIfInBounds_toArray, List.set_cons_zero, List.set_cons_succ]
          exact hI8
        refine AllReadyIn.cons rfl (fun K hK => ?_) ?_
        · go_simp
          refine hK _ _ ?_
          clear hK K
          refine wpAnyIn_take (i := 11) (v := ?_) rfl rfl (by kernel_rfl) (by kernel_rfl) (by kernel_rfl) (fun _ _ _ h => h) ⟨Or.inl ⟨by rfl, ?_⟩, fun _ => rfl⟩ ?_
          rotate_left
          · (intro w; go_simp; with_reducible rfl)
          try simp only [Act.put, List.setIfInBounds_toArray, List.set_cons_zero, List.set_cons_succ]
          exact hI9
        exact AllReadyIn.nil
      · skip -- [0, 3, 4, 9]
        refine wpAnyIn_ready (rs := [1, 2, 8, 10]) (by kernel_rfl) (by simp) ?_
        refine AllReadyIn.cons rfl (fun K hK => ?_) ?_
        · go_simp
          refine hK _ _ ?_
          clear hK K
          try simp only [Act.put, List.setIfInBounds_toArray, List.set_cons_zero, List.set_cons_succ]
          exact hI6
        refine AllReadyIn.cons rfl (fun K hK => ?_) ?_
        · go_simp
          refine hK _ _ ?_
          clear hK K
          refine wpAnyIn_take (i := 5) (v := ?_) rfl rfl (by kernel_rfl) (by kernel_rfl) (by kernel_rfl) (fun _ _ _ h => h) ⟨Or.inl ⟨by rfl, ?_⟩, fun _ => rfl⟩ ?_
          rotate_left
          · (intro w; go_simp; with_reducible rfl)
          refine wpAnyIn_take (i := 6) (v := ?_) rfl rfl (by kernel_rfl) (by kernel_rfl) (by kernel_rfl) (fun _ _ _ h => h) ⟨Or.inl ⟨by rfl, ?_⟩, fun _ => rfl⟩ ?_
          rotate_left
          · (intro w; go_simp; with_reducible rfl)
          try simp only [Act.put, List.setIfInBounds_toArray, List.set_cons_zero, List.set_cons_succ]
          exact hI12
        refine AllReadyIn.cons rfl (fun K hK => ?_) ?_
        · go_simp
          refine hK _ _ ?_
          clear hK K
          refine wpAnyIn_take (i := 12) (v := ?_) rfl rfl (by kernel_rfl) (by kernel_rfl) (by kernel_rfl) (fun _ _ _ h => h) ⟨Or.inl ⟨by rfl, ?_⟩, fun _ => rfl⟩ ?_
          rotate_left
          · (intro w; go_simp; with_reducible rfl)
          try simp only [Act.put, List.setIfInBounds_toArray, List.set_cons_zero, List.set_cons_succ]
          exact hI10
        refine AllReadyIn.cons rfl (fun K hK => ?_) ?_
        · go_simp
          refine hK _ _ ?_
          clear hK K
          refine wpAnyIn_take (i := 11) (v := ?_) rfl rfl (by kernel_rfl) (by kernel_rfl) (by kernel_rfl) (fun _ _ _ h => h) ⟨Or.inl ⟨by rfl, ?_⟩, fun _ => rfl⟩ ?_
          rotate_left
          · (intro w; go_simp; with_reducible rfl)
          try simp only [Act.put, List.setIfInBounds_toArray, List.set_cons_zero, List.set_cons_succ]
          exact hI11
        exact AllReadyIn.nil
      · skip -- [0, 2, 3, 5, 9]
        refine wpAnyIn_ready (rs := [1, 4, 8, 10]) (by kernel_rfl) (by simp) ?_
        refine AllReadyIn.cons rfl (fun K hK => ?_) ?_
        · go_simp
          refine hK _ _ ?_
          clear hK K
          try simp only [Act.put, List.setIfInBounds_toArray, List.set_cons_zero, List.set_cons_succ]
          exact hI7
        refine AllReadyIn.cons rfl (fun K hK => ?_) ?_
        · go_simp
          refine hK _ _ ?_
          clear hK K
          refine wpAnyIn_take (i := 6) (v := ?_) rfl rfl (by kernel_rfl) (by kernel_rfl) (by kernel_rfl) (fun _ _ _ h => h) ⟨Or.inl ⟨by rfl, ?_⟩, fun _ => rfl⟩ ?_
          rotate_left
          · (intro w; go_simp; with_reducible rfl)
          try simp only [Act.put, List.setIfInBounds_toArray, List.set_cons_zero, List.set_cons_succ]
          exact hI12
        refine AllReadyIn.cons rfl (fun K hK => ?_) ?_
        · go_simp
          refine hK _ _ ?_
          clear hK K
          refine wpAnyIn_take (i := 12) (v := ?_) rfl rfl (by kernel_rfl) (by kernel_rfl) (by kernel_rfl) (fun _ _ _ h => h) ⟨Or.inl ⟨by rfl, ?_⟩, fun _ => rfl⟩ ?_
          rotate_left
          · (intro w; go_simp; with_reducible rfl)
          try simp only [Act.put, List.setIfInBounds_toArray, List.set_cons_zero, List.set_cons_succ]
          exact hI13
        refine AllReadyIn.cons rfl (fun K hK => ?_) ?_
        · go_simp
          refine hK _ _ ?_
          clear hK K
          refine wpAnyIn_take (i := 11) (v := ?_) rfl rfl (by kernel_rfl) (by kernel_rfl) (by kernel_rfl) (fun _ _ _ h => h) ⟨Or.inl ⟨by rfl, ?_⟩, fun _ => rfl⟩ ?_
          rotate_left
          · (intro w; go_simp; with_reducible rfl)
          try simp only [Act.put, List.setIfInBounds_toArray, List.set_cons_zero, List.set_cons_succ]
          exact hI14
        exact AllReadyIn.nil
      · skip -- [0, 3, 8, 9, 12]
        refine wpAnyIn_ready (rs := [1, 2, 4, 10]) (by kernel_rfl) (by simp) ?_
        refine AllReadyIn.cons rfl (fun K hK => ?_) ?_
        · go_simp
          refine hK _ _ ?_
          clear hK K
          try simp only [Act.put, List.setIfInBounds_toArray, List.set_cons_zero, List.set_cons_succ]
          exact hI8
        refine AllReadyIn.cons rfl (fun K hK => ?_) ?_
        · go_simp
          refine hK _ _ ?_
          clear hK K
          refine wpAnyIn_take (i := 5) (v := ?_) rfl rfl (by kernel_rfl) (by kernel_rfl) (by kernel_rfl) (fun _ _ _ h => h) ⟨Or.inl ⟨by rfl, ?_⟩, fun _ => rfl⟩ ?_
          rotate_left
          · (intro w; go_simp; with_reducible rfl)
          try simp only [Act.put, List.setIfInBounds_toArray, List.set_cons_zero, List.set_cons_succ]
          exact hI13
        refine AllReadyIn.cons rfl (fun K hK => ?_) ?_
        · go_simp
          refine hK _ _ ?_
          clear hK K
          try simp only [Act.put, List.setIfInBounds_toArray, List.set_cons_zero, List.set_cons_succ]
          exact hI10
        refine AllReadyIn.cons rfl (fun K hK => ?_) ?_
        · go_simp
          refine hK _ _ ?_
          clear hK K
          refine wpAnyIn_take (i := 11) (v := ?_) rfl rfl (by kernel_rfl) (by kernel_rfl) (by kernel_rfl) (fun _ _ _ h => h) ⟨Or.inl ⟨by rfl, ?_⟩, fun _ => rfl⟩ ?_
          rotate_left
          · (intro w; go_simp; with_reducible rfl)
          refine wpAnyIn_take (i := 13) (v := ?_) rfl rfl (by kernel_rfl) (by kernel_rfl) (by kernel_rfl) (fun _ _ _ h => h) ⟨Or.inl ⟨by rfl, ?_⟩, fun _ => rfl⟩ ?_
          rotate_left
          · (intro w; go_simp; with_reducible rfl)
          try simp only [Act.put, List.setIfInBounds_toArray, List.set_cons_zero, List.set_cons_succ]
          exact hI17
        exact AllReadyIn.nil
      · skip -- [0, 3, 9, 10, 11]
        refine wpAnyIn_ready (rs := [1, 2, 4, 8]) (by kernel_rfl) (by simp) ?_
        refine AllReadyIn.cons rfl (fun K hK => ?_) ?_
        · go_simp
          refine hK _ _ ?_
          clear hK K
          try simp only [Act.put, List.setIfInBounds_toArray, List.set_cons_zero, List.set_cons_succ]
          exact hI9
        refine AllReadyIn.cons rfl (fun K hK => ?_) ?_
        · go_simp
          refine hK _ _ ?_
          clear hK K
          refine wpAnyIn_take (i := 5) (v := ?_) rfl rfl (by kernel_rfl) (by kernel_rfl) (by kernel_rfl) (fun _ _ _ h => h) ⟨Or.inl ⟨by rfl, ?_⟩, fun _ => rfl⟩ ?_
          rotate_left
          · (intro w; go_simp; with_reducible rfl)
          try simp only [Act.put, List.setIfInBounds_toArray, List.set_cons_zero, List.set_cons_succ]
          exact hI14
        refine AllReadyIn.cons rfl (fun K hK => ?_) ?_
        · go_simp
          refine hK _ _ ?_
          clear hK K
          try simp only [Act.put, List.setIfInBounds_toArray, List.set_cons_zero, List.set_cons_succ]
          exact hI11
        refine AllReadyIn.cons rfl (fun K hK => ?_) ?_
        · go_simp
          refine hK _ _ ?_
          clear hK K
          refine wpAnyIn_take (i := 12) (v := ?_) rfl rfl (by kernel_rfl) (by kernel_rfl) (by kernel_rfl) (fun _ _ _ h => h) ⟨Or.inl ⟨by rfl, ?_⟩, fun _ => rfl⟩ ?_
          rotate_left
          · (intro w; go_simp; with_reducible rfl)
          refine wpAnyIn_take (i := 13) (v := ?_) rfl rfl (by kernel_rfl) (by kernel_rfl) (by kernel_rfl) (fun _ _ _ h => h) ⟨Or.inl ⟨by rfl, ?_⟩, fun _ => rfl⟩ ?_
          rotate_left
          · (intro w; go_simp; with_reducible rfl)
          try simp only [Act.put, List.setIfInBounds_toArray, List.set_cons_zero, List.set_cons_succ]
          exact hI17
        exact AllReadyIn.nil
      · skip -- [0, 1, 3, 4, 9]
        refine wpAnyIn_ready (rs := [2, 8, 10]) (by kernel_rfl) (by simp) ?_
        refine AllReadyIn.cons rfl (fun K hK => ?_) ?_
        · go_simp
          refine hK _ _ ?_
          clear hK K
          refine wpAnyIn_take (i := 5) (v := ?_) rfl rfl (by kernel_rfl) (by kernel_rfl) (by kernel_rfl) (fun _ _ _ h => h) ⟨Or.inl ⟨by rfl, ?_⟩, fun _ => rfl⟩ ?_
          rotate_left
          · (intro w; go_simp; with_reducible rfl)
          refine wpAnyIn_take (i := 6) (v := ?_) rfl rfl (by kernel_rfl) (by kernel_rfl) (by kernel_rfl) (fun _ _ _ h => h) ⟨Or.inl ⟨by rfl, ?_⟩, fun _ => rfl⟩ ?_
          rotate_left
          · (intro w; go_simp; with_reducible rfl)
          try simp only [Act.put, List.setIfInBounds_toArray, List.set_cons_zero, List.set_cons_succ]
          exact hI18
        refine AllReadyIn.cons rfl (fun K hK => ?_) ?_
        · go_simp
          refine hK _ _ ?_
          clear hK K
          refine wpAnyIn_take (i := 12) (v := ?_) rfl rfl (by kernel_rfl) (by kernel_rfl) (by kernel_rfl) (fun _ _ _ h => h) ⟨Or.inl ⟨by rfl, ?_⟩, fun _ => rfl⟩ ?_
          rotate_left
          · (intro w; go_simp; with_reducible rfl)
          try simp only [Act.put, List.setIfInBounds_toArray, List.set_cons_zero, List.set_cons_succ]
          exact hI15
        refine AllReadyIn.cons rfl (fun K hK => ?_) ?_
        · go_simp
          refine hK _ _ ?_
          clear hK K
          refine wpAnyIn_take (i := 11) (v := ?_) rfl rfl (by kernel_rfl) (by kernel_rfl) (by kernel_rfl) (fun _ _ _ h => h) ⟨Or.inl ⟨by rfl, ?_⟩, fun _ => rfl⟩ ?_
          rotate_left
          · (intro w; go_simp; with_reducible rfl)
          try simp only [Act.put, List.setIfInBounds_toArray, List.set_cons_zero, List.set_cons_succ]
          exact hI16
        exact AllReadyIn.nil
      · skip -- [0, 1, 2, 3, 5, 9]
        refine wpAnyIn_ready (rs := [4, 8, 10]) (by kernel_rfl) (by simp) ?_
        refine AllReadyIn.cons rfl (fun K hK => ?_) ?_
        · go_simp
          refine hK _ _ ?_
          clear hK K
          refine wpAnyIn_take (i := 6) (v := ?_) rfl rfl (by kernel_rfl) (by kernel_rfl) (by kernel_rfl) (fun _ _ _ h => h) ⟨Or.inl ⟨by rfl, ?_⟩, fun _ => rfl⟩ ?_
          rotate_left
          · (intro w; go_simp; with_reducible rfl)
          try simp only [Act.put, List.setIfInBounds_toArray, List.set_cons_zero, List.set_cons_succ]
          exact hI18
        refine AllReadyIn.cons rfl (fun K hK => ?_) ?_
        · go_simp
          refine hK _ _ ?_
          clear hK K
          refine wpAnyIn_take (i := 12) (v := ?_) rfl rfl (by kernel_rfl) (by kernel_rfl) (by kernel_rfl) (fun _ _ _ h => h) ⟨Or.inl ⟨by rfl, ?_⟩, fun _ => rfl⟩ ?_
          rotate_left
          · (intro w; go_simp; with_reducible rfl)
          try simp only [Act.put, List.setIfInBounds_toArray, List.set_cons_zero, List.set_cons_succ]
          exact hI19
        refine AllReadyIn.cons rfl (fun K hK => ?_) ?_
        · go_simp
          refine hK _ _ ?_
          clear hK K
          refine wpAnyIn_take (i := 11) (v := ?_) rfl rfl (by kernel_rfl) (by kernel_rfl) (by kernel_rfl) (fun _ _ _ h => h) ⟨Or.inl ⟨by rfl, ?_⟩, fun _ => rfl⟩ ?_
          rotate_left
          · (intro w; go_simp; with_reducible rfl)
          try simp only [Act.put, List.setIfInBounds_toArray, List.set_cons_zero, List.set_cons_succ]
          exact hI20
        exact AllReadyIn.nil
      · skip -- [0, 1, 3, 8, 9, 12]
        refine wpAnyIn_ready (rs := [2, 4, 10]) (by kernel_rfl) (by simp) ?_
        refine AllReadyIn.cons rfl (fun K hK => ?_) ?_
        · go_simp
          refine hK _ _ ?_
          clear hK K
          refine wpAnyIn_take (i := 5) (v := ?_) rfl rfl (by kernel_rfl) (by kernel_rfl) (by kernel_rfl) (fun _ _ _ h => h) ⟨Or.inl ⟨by rfl, ?_⟩, fun _ => rfl⟩ ?_
          rotate_left
          · (intro w; go_simp; with_reducible rfl)
          try simp only [Act.put, List.setIfInBounds_toArray, List.set_cons_zero, List.set_cons_succ]
          exact hI19
        refine AllReadyIn.cons rfl (fun K hK => ?_) ?_
        · go_simp
          refine hK _ _ ?_
          clear hK K
          try simp only [Act.put, List.setIfInBounds_toArray, List.set_cons_zero, List.set_cons_succ]
          exact hI15
        refine AllReadyIn.cons rfl (fun K hK => ?_) ?_
        · go_simp
          refine hK _ _ ?_
          clear hK K
          refine wpAnyIn_take (i := 11) (v := ?_) rfl rfl (by kernel_rfl) (by kernel_rfl) (by kernel_rfl) (fun _ _ _ h => h) ⟨Or.inl ⟨by rfl, ?_⟩, fun _ => rfl⟩ ?_
          rotate_left
          · (intro w; go_simp; with_reducible rfl)
          refine wpAnyIn_take (i := 13) (v := ?_) rfl rfl (by kernel_rfl) (by kernel_rfl) (by kernel_rfl) (fun _ _ _ h => h) ⟨Or.inl ⟨by rfl, ?_⟩, fun _ => rfl⟩ ?_
          rotate_left
          · (intro w; go_simp; with_reducible rfl)
          try simp only [Act.put, List.setIfInBounds_toArray, List.set_cons_zero, List.set_cons_succ]
          exact hI22
        exact AllReadyIn.nil
      · skip -- [0, 1, 3, 9, 10, 11]
        refine wpAnyIn_ready (rs := [2, 4, 8]) (by kernel_rfl) (by simp) ?_
        refine AllReadyIn.cons rfl (fun K hK => ?_) ?_
        · go_simp
          refine hK _ _ ?_
          clear hK K
          refine wpAnyIn_take (i := 5) (v := ?_) rfl rfl (by kernel_rfl) (by kernel_rfl) (by kernel_rfl) (fun _ _ _ h => h) ⟨Or.inl ⟨by rfl, ?_⟩, fun _ => rfl⟩ ?_
          rotate_left
          · (intro w; go_simp; with_reducible rfl)
          try simp only [Act.put, List.setIfInBounds_toArray, List.set_cons_zero, List.set_cons_succ]
          exact hI20
        refine AllReadyIn.cons rfl (fun K hK => ?_) ?_
        · go_simp
          refine hK _ _ ?_
          clear hK K
          try simp only [Act.put, List.setIfInBounds_toArray, List.set_cons_zero, List.set_cons_succ]
          exact hI16
        refine AllReadyIn.cons rfl (fun K hK => ?_) ?_
        · go_simp
          refine hK _ _ ?_
          clear hK K
          refine wpAnyIn_take (i := 12) (v := ?_) rfl rfl (by kernel_rfl) (by kernel_rfl) (by kernel_rfl) (fun _ _ _ h => h) ⟨Or.inl ⟨by rfl, ?_⟩, fun _ => rfl⟩ ?_
          rotate_left
          · (intro w; go_simp; with_reducible rfl)
          refine wpAnyIn_take (i := 13) (v := ?_) rfl rfl (by kernel_rfl) (by kernel_rfl) (by kernel_rfl) (fun _ _ _ h => h) ⟨Or.inl ⟨by rfl, ?_⟩, fun _ => rfl⟩ ?_
          rotate_left
          · (intro w; go_simp; with_reducible rfl)
          try simp only [Act.put, List.setIfInBounds_toArray, List.set_cons_zero, List.set_cons_succ]
          exact hI22
        exact AllReadyIn.nil
      · skip -- [0, 3, 4, 8, 9, 12]
        refine wpAnyIn_ready (rs := [1, 2, 10]) (by kernel_rfl) (by simp) ?_
        refine AllReadyIn.cons rfl (fun K hK => ?_) ?_
        · go_simp
          refine hK _ _ ?_
          clear hK K
          try simp only [Act.put, List.setIfInBounds_toArray, List.set_cons_zero, List.set_cons_succ]
          exact hI15
        refine AllReadyIn.cons rfl (fun K hK => ?_) ?_
        · go_simp
          refine hK _ _ ?_
          clear hK K
          refine wpAnyIn_take (i := 5) (v := ?_) rfl rfl (by kernel_rfl) (by kernel_rfl) (by kernel_rfl) (fun _ _ _ h => h) ⟨Or.inl ⟨by rfl, ?_⟩, fun _ => rfl⟩ ?_
          rotate_left
          · (intro w; go_simp; with_reducible rfl)
          refine wpAnyIn_take (i := 6) (v := ?_) rfl rfl (by kernel_rfl) (by kernel_rfl) (by kernel_rfl) (fun _ _ _ h => h) ⟨Or.inl ⟨by rfl, ?_⟩, fun _ => rfl⟩ ?_
          rotate_left
          · (intro w; go_simp; with_reducible rfl)
          try simp only [Act.put, List.setIfInBounds_toArray, List.set_cons_zero, List.set_cons_succ]
          exact hI23
        refine AllReadyIn.cons rfl (fun K hK => ?_) ?_
        · go_simp
          refine hK _ _ ?_
          clear hK K
          refine wpAnyIn_take (i := 11) (v := ?_) rfl rfl (by kernel_rfl) (by kernel_rfl) (by kernel_rfl) (fun _ _ _ h => h) ⟨Or.inl ⟨by rfl, ?_⟩, fun _ => rfl⟩ ?_
          rotate_left
          · (intro w; go_simp; with_reducible rfl)
          refine wpAnyIn_take (i := 13) (v := ?_) rfl rfl (by kernel_rfl) (by kernel_rfl) (by kernel_rfl) (fun _ _ _ h => h) ⟨Or.inl ⟨by rfl, ?_⟩, fun _ => rfl⟩ ?_
          rotate_left
          · (intro w; go_simp; with_reducible rfl)
          try simp only [Act.put, List.setIfInBounds_toArray, List.set_cons_zero, List.set_cons_succ]
          exact hI25
        exact AllReadyIn.nil
      · skip -- [0, 3, 4, 9, 10, 11]
        refine wpAnyIn_ready (rs := [1, 2, 8]) (by kernel_rfl) (by simp) ?_
        refine AllReadyIn.cons rfl (fun K hK => ?_) ?_
        · go_simp
          refine hK _ _ ?_
          clear hK K
          try simp only [Act.put, List.setIfInBounds_toArray, List.set_cons_zero, List.set_cons_succ]
          exact hI16
        refine AllReadyIn.cons rfl (fun K hK => ?_) ?_
        · go_simp
          refine hK _ _ ?_
          clear hK K
          refine wpAnyIn_take (i := 5) (v := ?_) rfl rfl (by kernel_rfl) (by kernel_rfl) (by kernel_rfl) (fun _ _ _ h => h) ⟨Or.inl ⟨by rfl, ?_⟩, fun _ => rfl⟩ ?_
          rotate_left
          · (intro w; go_simp; with_reducible rfl)
          refine wpAnyIn_take (i := 6) (v := ?_) rfl rfl (by kernel_rfl) (by kernel_rfl) (by kernel_rfl) (fun _ _ _ h => h) ⟨Or.inl ⟨by rfl, ?_⟩, fun _ => rfl⟩ ?_
          rotate_left
          · (intro w; go_simp; with_reducible rfl)
          try simp only [Act.put, List.setIfInBounds_toArray, List.set_cons_zero, List.set_cons_succ]
          exact hI24
        refine AllReadyIn.cons rfl (fun K hK => ?_) ?_
        · go_simp
          refine hK _ _ ?_
          clear hK K
          refine wpAnyIn_take (i := 12) (v := ?_) rfl rfl (by kernel_rfl) (by kernel_rfl) (by kernel_rfl) (fun _ _ _ h => h) ⟨Or.inl ⟨by rfl, ?_⟩, fun _ => rfl⟩ ?_
          rotate_left
          · (intro w; go_simp; with_reducible rfl)
          refine wpAnyIn_take (i := 13) (v := ?_) rfl rfl (by kernel_rfl) (by kernel_rfl) (by kernel_rfl) (fun _ _ _ h => h) ⟨Or.inl ⟨by rfl, ?_⟩, fun _ => rfl⟩ ?_
          rotate_left
          · (intro w; go_simp; with_reducible rfl)
          try simp only [Act.put, List.setIfInBounds_toArray, List.set_cons_zero, List.set_cons_succ]
          exact hI25
        exact AllReadyIn.nil
      · skip -- [0, 2, 3, 4, 5, 6, 9]
        refine wpAnyIn_ready (rs := [1, 7, 8, 10]) (by kernel_rfl) (by simp) ?_
        refine AllReadyIn.cons rfl (fun K hK => ?_) ?_
        · go_simp
          refine hK _ _ ?_
          clear hK K
          try simp only [Act.put, List.setIfInBounds_toArray, List.set_cons_zero, List.set_cons_succ]
          exact hI18
        refine AllReadyIn.cons rfl (fun K hK => ?_) ?_
        · go_simp
          refine hK _ _ ?_
          clear hK K
          try simp only [Act.put, List.setIfInBounds_toArray, List.set_cons_zero, List.set_cons_succ]
          exact hI21
        refine AllReadyIn.cons rfl (fun K hK => ?_) ?_
        · go_simp
          refine hK _ _ ?_
          clear hK K
          refine wpAnyIn_take (i := 12) (v := ?_) rfl rfl (by kernel_rfl) (by kernel_rfl) (by kernel_rfl) (fun _ _ _ h => h) ⟨Or.inl ⟨by rfl, ?_⟩, fun _ => rfl⟩ ?_
          rotate_left
          · (intro w; go_simp; with_reducible rfl)
          try simp only [Act.put, List.setIfInBounds_toArray, List.set_cons_zero, List.set_cons_succ]
          exact hI23
        refine AllReadyIn.cons rfl (fun K hK => ?_) ?_
        · go_simp
          refine hK _ _ ?_
          clear hK K
          refine wpAnyIn_take (i := 11) (v := ?_) rfl rfl (by kernel_rfl) (by kernel_rfl) (by kernel_rfl) (fun _ _ _ h => h) ⟨Or.inl ⟨by rfl, ?_⟩, fun _ => rfl⟩ ?_
          rotate_left
          · (intro w; go_simp; with_reducible rfl)
          try simp only [Act.put, List.setIfInBounds_toArray, List.set_cons_zero, List.set_cons_succ]
          exact hI24
        exact AllReadyIn.nil
      · skip -- [0, 2, 3, 5, 8, 9, 12]
        refine wpAnyIn_ready (rs := [1, 4, 10]) (by kernel_rfl) (by simp) ?_
        refine AllReadyIn.cons rfl (fun K hK => ?_) ?_
        · go_simp
          refine hK _ _ ?_
          clear hK K
          try simp only [Act.put, List.setIfInBounds_toArray, List.set_cons_zero, List.set_cons_succ]
          exact hI19
        refine AllReadyIn.cons rfl (fun K hK => ?_) ?_
        · go_simp
          refine hK _ _ ?_
          clear hK K
          refine wpAnyIn_take (i := 6) (v := ?_) rfl rfl (by kernel_rfl) (by kernel_rfl) (by kernel_rfl) (fun _ _ _ h => h) ⟨Or.inl ⟨by rfl, ?_⟩, fun _ => rfl⟩ ?_
          rotate_left
          · (intro w; go_simp; with_reducible rfl)
          try simp only [Act.put, List.setIfInBounds_toArray, List.set_cons_zero, List.set_cons_succ]
          exact hI23
        refine AllReadyIn.cons rfl (fun K hK => ?_) ?_
        · go_simp
          refine hK _ _ ?_
          clear hK K
          refine wpAnyIn_take (i := 11) (v := ?_) rfl rfl (by kernel_rfl) (by kernel_rfl) (by kernel_rfl) (fun _ _ _ h => h) ⟨Or.inl ⟨by rfl, ?_⟩, fun _ => rfl⟩ ?_
          rotate_left
          · (intro w; go_simp; with_reducible rfl)
          refine wpAnyIn_take (i := 13) (v := ?_) rfl rfl (by kernel_rfl) (by kernel_rfl) (by kernel_rfl) (fun _ _ _ h => h) ⟨Or.inl ⟨by rfl, ?_⟩, fun _ => rfl⟩ ?_
          rotate_left
          · (intro w; go_simp; with_reducible rfl)
          try simp only [Act.put, List.setIfInBounds_toArray, List.set_cons_zero, List.set_cons_succ]
          exact hI28
        exact AllReadyIn.nil
      · skip -- [0, 2, 3, 5, 9, 10, 11]
        refine wpAnyIn_ready (rs := [1, 4, 8]) (by kernel_rfl) (by simp) ?_
        refine AllReadyIn.cons rfl (fun K hK => ?_) ?_
        · go_simp
          refine hK _ _ ?_
          clear hK K
          try simp only [Act.put, List.setIfInBounds_toArray, List.set_cons_zero, List.set_cons_succ]
          exact hI20
        refine AllReadyIn.cons rfl (fun K hK => ?_) ?_
        · go_simp
          refine hK _ _ ?_
          clear hK K
          refine wpAnyIn_take (i := 6) (v := ?_) rfl rfl (by kernel_rfl) (by kernel_rfl) (by kernel_rfl) (fun _ _ _ h => h) ⟨Or.inl ⟨by rfl, ?_⟩, fun _ => rfl⟩ ?_
          rotate_left
          · (intro w; go_simp; with_reducible rfl)
          try simp only [Act.put, List.setIfInBounds_toArray, List.set_cons_zero, List.set_cons_succ]
          exact hI24
        refine AllReadyIn.cons rfl (fun K hK => ?_) ?_
        · go_simp
          refine hK _ _ ?_
          clear hK K
          refine wpAnyIn_take (i := 12) (v := ?_) rfl rfl (by kernel_rfl) (by kernel_rfl) (by kernel_rfl) (fun _ _ _ h => h) ⟨Or.inl ⟨by rfl, ?_⟩, fun _ => rfl⟩ ?_
          rotate_left
          · (intro w; go_simp; with_reducible rfl)
          refine wpAnyIn_take (i := 13) (v := ?_) rfl rfl (by kernel_rfl) (by kernel_rfl) (by kernel_rfl) (fun _ _ _ h => h) ⟨Or.inl ⟨by rfl, ?_⟩, fun _ => rfl⟩ ?_
          rotate_left
          · (intro w; go_simp; with_reducible rfl)
          try simp only [Act.put, List.setIfInBounds_toArray, List.set_cons_zero, List.set_cons_succ]
          exact hI28
        exact AllReadyIn.nil
      · skip -- [0, 1, 3, 4, 8, 9, 12]
        refine wpAnyIn_ready (rs := [2, 10]) (by kernel_rfl) (by simp) ?_
        refine AllReadyIn.cons rfl (fun K hK => ?_) ?_
        · go_simp
          refine hK _ _ ?_
          clear hK K
          refine wpAnyIn_take (i := 5) (v := ?_) rfl rfl (by kernel_rfl) (by kernel_rfl) (by kernel_rfl) (fun _ _ _ h => h) ⟨Or.inl ⟨by rfl, ?_⟩, fun _ => rfl⟩ ?_
          rotate_left
          · (intro w; go_simp; with_reducible rfl)
          refine wpAnyIn_take (i := 6) (v := ?_) rfl rfl (by kernel_rfl) (by kernel_rfl) (by kernel_rfl) (fun _ _ _ h => h) ⟨Or.inl ⟨by rfl, ?_⟩, fun _ => rfl⟩ ?_
          rotate_left
          · (intro w; go_simp; with_reducible rfl)
          try simp only [Act.put, List.setIfInBounds_toArray, List.set_cons_zero, List.set_cons_succ]
          exact hI29
        refine AllReadyIn.cons rfl (fun K hK => ?_) ?_
        · go_simp
          refine hK _ _ ?_
          clear hK K
          refine wpAnyIn_take (i := 11) (v := ?_) rfl rfl (by kernel_rfl) (by kernel_rfl) (by kernel_rfl) (fun _ _ _ h => h) ⟨Or.inl ⟨by rfl, ?_⟩, fun _ => rfl⟩ ?_
          rotate_left
          · (intro w; go_simp; with_reducible rfl)
          refine wpAnyIn_take (i := 13) (v := ?_) rfl rfl (by kernel_rfl) (by kernel_rfl) (by kernel_rfl) (fun _ _ _ h => h) ⟨Or.inl ⟨by rfl, ?_⟩, fun _ => rfl⟩ ?_
          rotate_left
          · (intro w; go_simp; with_reducible rfl)
          try simp only [Act.put, List.setIfInBounds_toArray, List.set_cons_zero, List.set_cons_succ]
          exact hI31
        exact AllReadyIn.nil
      · skip -- [0, 1, 3, 4, 9, 10, 11]
        refine wpAnyIn_ready (rs := [2, 8]) (by kernel_rfl) (by simp) ?_
        refine AllReadyIn.cons rfl (fun K hK => ?_) ?_
        · go_simp
          refine hK _ _ ?_
          clear hK K
          refine wpAnyIn_take (i := 5) (v := ?_) rfl rfl (by kernel_rfl) (by kernel_rfl) (by kernel_rfl) (fun _ _ _ h => h) ⟨Or.inl ⟨by rfl, ?_⟩, fun _ => rfl⟩ ?_
          rotate_left
          · (intro w; go_simp; with_reducible rfl)
          refine wpAnyIn_take (i := 6) (v := ?_) rfl rfl (by kernel_rfl) (by kernel_rfl) (by kernel_rfl) (fun _ _ _ h => h) ⟨Or.inl ⟨by rfl, ?_⟩, fun _ => rfl⟩ ?_
          rotate_left
          · (intro w; go_simp; with_reducible rfl)
          try simp only [Act.put, List.setIfInBounds_toArray, List.set_cons_zero, List.set_cons_succ]
          exact hI30
        refine AllReadyIn.cons rfl (fun K hK => ?_) ?_
        · go_simp
          refine hK _ _ ?_
          clear hK K
          refine wpAnyIn_take (i := 12) (v := ?_) rfl rfl (by kernel_rfl) (by kernel_rfl) (by kernel_rfl) (fun _ _ _ h => h) ⟨Or.inl ⟨by rfl, ?_⟩, fun _ => rfl⟩ ?_
          rotate_left
          · (intro w; go_simp; with_reducible rfl)
          refine wpAnyIn_take (i := 13) (v := ?_) rfl rfl (by kernel_rfl) (by kernel_rfl) (by kernel_rfl) (fun _ _ _ h => h) ⟨Or.inl ⟨by rfl, ?_⟩, fun _ => rfl⟩ ?_
          rotate_left
          · (intro w; go_simp; with_reducible rfl)
          try simp only [Act.put, List.setIfInBounds_toArray, List.set_cons_zero, List.set_cons_succ]
          exact hI31
        exact AllReadyIn.nil
      · skip -- [0, 3, 8, 9, 10, 11, 12, 13]
        refine wpAnyIn_ready (rs := [1, 2, 4, 14]) (by kernel_rfl) (by simp) ?_
        refine AllReadyIn.cons rfl (fun K hK => ?_) ?_
        · go_simp
          refine hK _ _ ?_
          clear hK K
          try simp only [Act.put, List.setIfInBounds_toArray, List.set_cons_zero, List.set_cons_succ]
          exact hI22
        refine AllReadyIn.cons rfl (fun K hK => ?_) ?_
        · go_simp
          refine hK _ _ ?_
          clear hK K
          refine wpAnyIn_take (i := 5) (v := ?_) rfl rfl (by kernel_rfl) (by kernel_rfl) (by kernel_rfl) (fun _ _ _ h => h) ⟨Or.inl ⟨by rfl, ?_⟩, fun _ => rfl⟩ ?_
          rotate_left
          · (intro w; go_simp; with_reducible rfl)
          try simp only [Act.put, List.setIfInBounds_toArray, List.set_cons_zero, List.set_cons_succ]
          exact hI28
        refine AllReadyIn.cons rfl (fun K hK => ?_) ?_
        · go_simp
          refine hK _ _ ?_
          clear hK K
          try simp only [Act.put, List.setIfInBounds_toArray, List.set_cons_zero, List.set_cons_succ]
          exact hI25
        refine AllReadyIn.cons rfl (fun K hK => ?_) ?_
        · go_simp
          refine hK _ _ ?_
          clear hK K
          try simp only [Act.put, List.setIfInBounds_toArray, List.set_cons_zero, List.set_cons_succ]
          exact hI26
        exact AllReadyIn.nil
      · skip -- [0, 1, 2, 3, 4, 5, 6, 9]
        refine wpAnyIn_ready (rs := [7, 8, 10]) (by kernel_rfl) (by simp) ?_
        refine AllReadyIn.cons rfl (fun K hK => ?_) ?_
        · go_simp
          refine hK _ _ ?_
          clear hK K
          try simp only [Act.put, List.setIfInBounds_toArray, List.set_cons_zero, List.set_cons_succ]
          exact hI27
        refine AllReadyIn.cons rfl (fun K hK => ?_) ?_
        · go_simp
          refine hK _ _ ?_
          clear hK K
          refine wpAnyIn_take (i := 12) (v := ?_) rfl rfl (by kernel_rfl) (by kernel_rfl) (by kernel_rfl) (fun _ _ _ h => h) ⟨Or.inl ⟨by rfl, ?_⟩, fun _ => rfl⟩ ?_
          rotate_left
          · (intro w; go_simp; with_reducible rfl)
          try simp only [Act.put, List.setIfInBounds_toArray, List.set_cons_zero, List.set_cons_succ]
          exact hI29
        refine AllReadyIn.cons rfl (fun K hK => ?_) ?_
        · go_simp
          refine hK _ _ ?_
          clear hK K
          refine wpAnyIn_take (i := 11) (v := ?_) rfl rfl (by kernel_rfl) (by kernel_rfl) (by kernel_rfl) (fun _ _ _ h => h) ⟨Or.inl ⟨by rfl, ?_⟩, fun _ => rfl⟩ ?_
          rotate_left
          · (intro w; go_simp; with_reducible rfl)
          try simp only [Act.put, List.setIfInBounds_toArray, List.set_cons_zero, List.set_cons_succ]
          exact hI30
        exact AllReadyIn.nil
      · skip -- [0, 1, 2, 3, 5, 8, 9, 12]
        refine wpAnyIn_ready (rs := [4, 10]) (by kernel_rfl) (by simp) ?_
        refine AllReadyIn.cons rfl (fun K hK => ?_) ?_
        · go_simp
          refine hK _ _ ?_
          clear hK K
          refine wpAnyIn_take (i := 6) (v := ?_) rfl rfl (by kernel_rfl) (by kernel_rfl) (by kernel_rfl) (fun _ _ _ h => h) ⟨Or.inl ⟨by rfl, ?_⟩, fun _ => rfl⟩ ?_
          rotate_left
          · (intro w; go_simp; with_reducible rfl)
          try simp only [Act.put, List.setIfInBounds_toArray, List.set_cons_zero, List.set_cons_succ]
          exact hI29
        refine AllReadyIn.cons rfl (fun K hK => ?_) ?_
        · go_simp
          refine hK _ _ ?_
          clear hK K
          refine wpAnyIn_take (i := 11) (v := ?_) rfl rfl (by kernel_rfl) (by kernel_rfl) (by kernel_rfl) (fun _ _ _ h => h) ⟨Or.inl ⟨by rfl, ?_⟩, fun _ => rfl⟩ ?_
          rotate_left
          · (intro w; go_simp; with_reducible rfl)
          refine wpAnyIn_take (i := 13) (v := ?_) rfl rfl (by kernel_rfl) (by kernel_rfl) (by kernel_rfl) (fun _ _ _ h => h) ⟨Or.inl ⟨by rfl, ?_⟩, fun _ => rfl⟩ ?_
          rotate_left
          · (intro w; go_simp; with_reducible rfl)
          try simp only [Act.put, List.setIfInBounds_toArray, List.set_cons_zero, List.set_cons_succ]
          exact hI36
        exact AllReadyIn.nil
      · skip -- [0, 1, 2, 3, 5, 9, 10, 11]
        refine wpAnyIn_ready (rs := [4, 8]) (by kernel_rfl) (by simp) ?_
        refine AllReadyIn.cons rfl (fun K hK => ?_) ?_
        · go_simp
          refine hK _ _ ?_
          clear hK K
          refine wpAnyIn_take (i := 6) (v := ?_) rfl rfl (by kernel_rfl) (by kernel_rfl) (by kernel_rfl) (fun _ _ _ h => h) ⟨Or.inl ⟨by rfl, ?_⟩, fun _ => rfl⟩ ?_
          rotate_left
          · (intro w; go_simp; with_reducible rfl)
          try simp only [Act.put, List.setIfInBounds_toArray, List.set_cons_zero, List.set_cons_succ]
          exact hI30
        refine AllReadyIn.cons rfl (fun K hK => ?_) ?_
        · go_simp
          refine hK _ _ ?_
          clear hK K
          refine wpAnyIn_take (i := 12) (v := ?_) rfl rfl (by kernel_rfl) (by kernel_rfl) (by kernel_rfl) (fun _ _ _ h => h) ⟨Or.inl ⟨by rfl, ?_⟩, fun _ => rfl⟩ ?_
          rotate_left
          · (intro w; go_simp; with_reducible rfl)
          refine wpAnyIn_take (i := 13) (v := ?_) rfl rfl (by kernel_rfl) (by kernel_rfl) (by kernel_rfl) (fun _ _ _ h => h) ⟨Or.inl ⟨by rfl, ?_⟩, fun _ => rfl⟩ ?_
          rotate_left
          · (intro w; go_simp; with_reducible rfl)
          try simp only [Act.put, List.setIfInBounds_toArray, List.set_cons_zero, List.set_cons_succ]
          exact hI36
        exact AllReadyIn.nil
      · skip -- [0, 2, 3, 4, 5, 6, 7, 9]
        refine wpAnyIn_ready (rs := [1, 8, 10]) (by kernel_rfl) (by simp) ?_
        refine AllReadyIn.cons rfl (fun K hK => ?_) ?_
        · go_simp
          refine hK _ _ ?_
          clear hK K
          try simp only [Act.put, List.setIfInBounds_toArray, List.set_cons_zero, List.set_cons_succ]
          exact hI27
        refine AllReadyIn.cons rfl (fun K hK => ?_) ?_
        · go_simp
          refine hK _ _ ?_
          clear hK K
          refine wpAnyIn_take (i := 12) (v := ?_) rfl rfl (by kernel_rfl) (by kernel_rfl) (by kernel_rfl) (fun _ _ _ h => h) ⟨Or.inl ⟨by rfl, ?_⟩, fun _ => rfl⟩ ?_
          rotate_left
          · (intro w; go_simp; with_reducible rfl)
          try simp only [Act.put, List.setIfInBounds_toArray, List.set_cons_zero, List.set_cons_succ]
          exact hI33
        refine AllReadyIn.cons rfl (fun K hK => ?_) ?_
        · go_simp
          refine hK _ _ ?_
          clear hK K
          refine wpAnyIn_take (i := 11) (v := ?_) rfl rfl (by kernel_rfl) (by kernel_rfl) (by kernel_rfl) (fun _ _ _ h => h) ⟨Or.inl ⟨by rfl, ?_⟩, fun _ => rfl⟩ ?_
          rotate_left
          · (intro w; go_simp; with_reducible rfl)
          try simp only [Act.put, List.setIfInBounds_toArray, List.set_cons_zero, List.set_cons_succ]
          exact hI34
        exact AllReadyIn.nil
      · skip -- [0, 1, 3, 8, 9, 10, 11, 12, 13]
        refine wpAnyIn_ready (rs := [2, 4, 14]) (by kernel_rfl) (by simp) ?_
        refine AllReadyIn.cons rfl (fun K hK => ?_) ?_
        · go_simp
          refine hK _ _ ?_
          clear hK K
          refine wpAnyIn_take (i := 5) (v := ?_) rfl rfl (by kernel_rfl) (by kernel_rfl) (by kernel_rfl) (fun _ _ _ h => h) ⟨Or.inl ⟨by rfl, ?_⟩, fun _ => rfl⟩ ?_
          rotate_left
          · (intro w; go_simp; with_reducible rfl)
          try simp only [Act.put, List.setIfInBounds_toArray, List.set_cons_zero, List.set_cons_succ]
          exact hI36
        refine AllReadyIn.cons rfl (fun K hK => ?_) ?_
        · go_simp
          refine hK _ _ ?_
          clear hK K
          try simp only [Act.put, List.setIfInBounds_toArray, List.set_cons_zero, List.set_cons_succ]
          exact hI31
        refine AllReadyIn.cons rfl (fun K hK => ?_) ?_
        · go_simp
          refine hK _ _ ?_
          clear hK K
          try simp only [Act.put, List.setIfInBounds_toArray, List.set_cons_zero, List.set_cons_succ]
          exact hI32
        exact AllReadyIn.nil
      · skip -- [0, 2, 3, 4, 5, 6, 8, 9, 12]
        refine wpAnyIn_ready (rs := [1, 7, 10]) (by kernel_rfl) (by simp) ?_
        refine AllReadyIn.cons rfl (fun K hK => ?_) ?_
        · go_simp
          refine hK _ _ ?_
          clear hK K
          try simp only [Act.put, List.setIfInBounds_toArray, List.set_cons_zero, List.set_cons_succ]
          exact hI29
        refine AllReadyIn.cons rfl (fun K hK => ?_) ?_
        · go_simp
          refine hK _ _ ?_
          clear hK K
          try simp only [Act.put, List.setIfInBounds_toArray, List.set_cons_zero, List.set_cons_succ]
          exact hI33
        refine AllReadyIn.cons rfl (fun K hK => ?_) ?_
        · go_simp
          refine hK _ _ ?_
          clear hK K
          refine wpAnyIn_take (i := 11) (v := ?_) rfl rfl (by kernel_rfl) (by kernel_rfl) (by kernel_rfl) (fun _ _ _ h => h) ⟨Or.inl ⟨by rfl, ?_⟩, fun _ => rfl⟩ ?_
          rotate_left
          · (intro w; go_simp; with_reducible rfl)
          refine wpAnyIn_take (i := 13) (v := ?_) rfl rfl (by kernel_rfl) (by kernel_rfl) (by kernel_rfl) (fun _ _ _ h => h) ⟨Or.inl ⟨by rfl, ?_⟩, fun _ => rfl⟩ ?_
          rotate_left
          · (intro w; go_simp; with_reducible rfl)
          try simp only [Act.put, List.setIfInBounds_toArray, List.set_cons_zero, List.set_cons_succ]
          exact hI41
        exact AllReadyIn.nil
      · skip -- [0, 2, 3, 4, 5, 6, 9, 10, 11]
        refine wpAnyIn_ready (rs := [1, 7, 8]) (by kernel_rfl) (by simp) ?_
        refine AllReadyIn.cons rfl (fun K hK => ?_) ?_
        · go_simp
          refine hK _ _ ?_
          clear hK K
          try simp only [Act.put, List.setIfInBounds_toArray, List.set_cons_zero, List.set_cons_succ]
          exact hI30
        refine AllReadyIn.cons rfl (fun K hK => ?_) ?_
        · go_simp
          refine hK _ _ ?_
          clear hK K
          try simp only [Act.put, List.setIfInBounds_toArray, List.set_cons_zero, List.set_cons_succ]
          exact hI34
        refine AllReadyIn.cons rfl (fun K hK => ?_) ?_
        · go_simp
          refine hK _ _ ?_
          clear hK K
          refine wpAnyIn_take (i := 12) (v := ?_) rfl rfl (by kernel_rfl) (by kernel_rfl) (by kernel_rfl) (fun _ _ _ h => h) ⟨Or.inl ⟨by rfl, ?_⟩, fun _ => rfl⟩ ?_
          rotate_left
          · (intro w; go_simp; with_reducible rfl)
          refine wpAnyIn_take (i := 13) (v := ?_) rfl rfl (by kernel_rfl) (by kernel_rfl) (by kernel_rfl) (fun _ _ _ h => h) ⟨Or.inl ⟨by rfl, ?_⟩, fun _ => rfl⟩ ?_
          rotate_left
          · (intro w; go_simp; with_reducible rfl)
          try simp only [Act.put, List.setIfInBounds_toArray, List.set_cons_zero, List.set_cons_succ]
          exact hI41
        exact AllReadyIn.nil
      · skip -- [0, 3, 4, 8, 9, 10, 11, 12, 13]
        refine wpAnyIn_ready (rs := [1, 2, 14]) (by kernel_rfl) (by simp) ?_
        refine AllReadyIn.cons rfl (fun K hK => ?_) ?_
        · go_simp
          refine hK _ _ ?_
          clear hK K
          try simp only [Act.put, List.setIfInBounds_toArray, List.set_cons_zero, List.set_cons_succ]
          exact hI31
        refine AllReadyIn.cons rfl (fun K hK => ?_) ?_
        · go_simp
          refine hK _ _ ?_
          clear hK K
          refine wpAnyIn_take (i := 5) (v := ?_) rfl rfl (by kernel_rfl) (by kernel_rfl) (by kernel_rfl) (fun _ _ _ h => h) ⟨Or.inl ⟨by rfl, ?_⟩, fun _ => rfl⟩ ?_
          rotate_left
          · (intro w; go_simp; with_reducible rfl)
          refine wpAnyIn_take (i := 6) (v := ?_) rfl rfl (by kernel_rfl) (by kernel_rfl) (by kernel_rfl) (fun _ _ _ h => h) ⟨Or.inl ⟨by rfl, ?_⟩, fun _ => rfl⟩ ?_
          rotate_left
          · (intro w; go_simp; with_reducible rfl)
          try simp only [Act.put, List.setIfInBounds_toArray, List.set_cons_zero, List.set_cons_succ]
          exact hI41
        refine AllReadyIn.cons rfl (fun K hK => ?_) ?_
        · go_simp
          refine hK _ _ ?_
          clear hK K
          try simp only [Act.put, List.setIfInBounds_toArray, List.set_cons_zero, List.set_cons_succ]
          exact hI35
        exact AllReadyIn.nil
      · skip -- [0, 3, 8, 9, 10, 11, 12, 13, 14]
        refine wpAnyIn_ready (rs := [1, 2, 4]) (by kernel_rfl) (by simp) ?_
        refine AllReadyIn.cons rfl (fun K hK => ?_) ?_
        · go_simp
          refine hK _ _ ?_
          clear hK K
          try simp only [Act.put, List.setIfInBounds_toArray, List.set_cons_zero, List.set_cons_succ]
          exact hI32
        refine AllReadyIn.cons rfl (fun K hK => ?_) ?_
        · go_simp
          refine hK _ _ ?_
          clear hK K
          refine wpAnyIn_take (i := 5) (v := ?_) rfl rfl (by kernel_rfl) (by kernel_rfl) (by kernel_rfl) (fun _ _ _ h => h) ⟨Or.inl ⟨by rfl, ?_⟩, fun _ => rfl⟩ ?_
          rotate_left
          · (intro w; go_simp; with_reducible rfl)
          try simp only [Act.put, List.setIfInBounds_toArray, List.set_cons_zero, List.set_cons_succ]
          exact hI37
        refine AllReadyIn.cons rfl (fun K hK => ?_) ?_
        · go_simp
          refine hK _ _ ?_
          clear hK K
          try simp only [Act.put, List.setIfInBounds_toArray, List.set_cons_zero, List.set_cons_succ]
          exact hI35
        exact AllReadyIn.nil
      · skip -- [0, 1, 2, 3, 4, 5, 6, 7, 9]
        refine wpAnyIn_ready (rs := [8, 10]) (by kernel_rfl) (by simp) ?_
        refine AllReadyIn.cons rfl (fun K hK => ?_) ?_
        · go_simp
          refine hK _ _ ?_
          clear hK K
          refine wpAnyIn_take (i := 12) (v := ?_) rfl rfl (by kernel_rfl) (by kernel_rfl) (by kernel_rfl) (fun _ _ _ h => h) ⟨Or.inl ⟨by rfl, ?_⟩, fun _ => rfl⟩ ?_
          rotate_left
          · (intro w; go_simp; with_reducible rfl)
          try simp only [Act.put, List.setIfInBounds_toArray, List.set_cons_zero, List.set_cons_succ]
          exact hI38
        refine AllReadyIn.cons rfl (fun K hK => ?_) ?_
        · go_simp
          refine hK _ _ ?_
          clear hK K
          refine wpAnyIn_take (i := 11) (v := ?_) rfl rfl (by kernel_rfl) (by kernel_rfl) (by kernel_rfl) (fun _ _ _ h => h) ⟨Or.inl ⟨by rfl, ?_⟩, fun _ => rfl⟩ ?_
          rotate_left
          · (intro w; go_simp; with_reducible rfl)
          try simp only [Act.put, List.setIfInBounds_toArray, List.set_cons_zero, List.set_cons_succ]
          exact hI39
        exact AllReadyIn.nil
      · skip -- [0, 2, 3, 5, 8, 9, 10, 11, 12, 13]
        refine wpAnyIn_ready (rs := [1, 4, 14]) (by kernel_rfl) (by simp) ?_
        refine AllReadyIn.cons rfl (fun K hK => ?_) ?_
        · go_simp
          refine hK _ _ ?_
          clear hK K
          try simp only [Act.put, List.setIfInBounds_toArray, List.set_cons_zero, List.set_cons_succ]
          exact hI36
        refine AllReadyIn.cons rfl (fun K hK => ?_) ?_
        · go_simp
          refine hK _ _ ?_
          clear hK K
          refine wpAnyIn_take (i := 6) (v := ?_) rfl rfl (by kernel_rfl) (by kernel_rfl) (by kernel_rfl) (fun _ _ _ h => h) ⟨Or.inl ⟨by rfl, ?_⟩, fun _ => rfl⟩ ?_
          rotate_left
          · (intro w; go_simp; with_reducible rfl)
          try simp only [Act.put, List.setIfInBounds_toArray, List.set_cons_zero, List.set_cons_succ]
          exact hI41
        refine AllReadyIn.cons rfl (fun K hK => ?_) ?_
        · go_simp
          refine hK _ _ ?_
          clear hK K
          try simp only [Act.put, List.setIfInBounds_toArray, List.set_cons_zero, List.set_cons_succ]
          exact hI37
        exact AllReadyIn.nil
      · skip -- [0, 1, 2, 3, 4, 5, 6, 8, 9, 12]
        refine wpAnyIn_ready (rs := [7, 10]) (by kernel_rfl) (by simp) ?_
        refine AllReadyIn.cons rfl (fun K hK => ?_) ?_
        · go_simp
          refine hK _ _ ?_
          clear hK K
          try simp only [Act.put, List.setIfInBounds_toArray, List.set_cons_zero, List.set_cons_succ]
          exact hI38
        refine AllReadyIn.cons rfl (fun K hK => ?_) ?_
        · go_simp
          refine hK _ _ ?_
          clear hK K
          refine wpAnyIn_take (i := 11) (v := ?_) rfl rfl (by kernel_rfl) (by kernel_rfl) (by kernel_rfl) (fun _ _ _ h => h) ⟨Or.inl ⟨by rfl, ?_⟩, fun _ => rfl⟩ ?_
          rotate_left
          · (intro w; go_simp; with_reducible rfl)
          refine wpAnyIn_take (i := 13) (v := ?_) rfl rfl (by kernel_rfl) (by kernel_rfl) (by kernel_rfl) (fun _ _ _ h => h) ⟨Or.inl ⟨by rfl, ?_⟩, fun _ => rfl⟩ ?_
          rotate_left
          · (intro w; go_simp; with_reducible rfl)
          try simp only [Act.put, List.setIfInBounds_toArray, List.set_cons_zero, List.set_cons_succ]
          exact hI43
        exact AllReadyIn.nil
      · skip -- [0, 1, 2, 3, 4, 5, 6, 9, 10, 11]
        refine wpAnyIn_ready (rs := [7, 8]) (by kernel_rfl) (by simp) ?_
        refine AllReadyIn.cons rfl (fun K hK => ?_) ?_
        · go_simp
          refine hK _ _ ?_
          clear hK K
          try simp only [Act.put, List.setIfInBounds_toArray, List.set_cons_zero, List.set_cons_succ]
          exact hI39
        refine AllReadyIn.cons rfl (fun K hK => ?_) ?_
        · go_simp
          refine hK _ _ ?_
          clear hK K
          refine wpAnyIn_take (i := 12) (v := ?_) rfl rfl (by kernel_rfl) (by kernel_rfl) (by kernel_rfl) (fun _ _ _ h => h) ⟨Or.inl ⟨by rfl, ?_⟩, fun _ => rfl⟩ ?_
          rotate_left
          · (intro w; go_simp; with_reducible rfl)
          refine wpAnyIn_take (i := 13) (v := ?_) rfl rfl (by kernel_rfl) (by kernel_rfl) (by kernel_rfl) (fun _ _ _ h => h) ⟨Or.inl ⟨by rfl, ?_⟩, fun _ => rfl⟩ ?_
          rotate_left
          · (intro w; go_simp; with_reducible rfl)
          try simp only [Act.put, List.setIfInBounds_toArray, List.set_cons_zero, List.set_cons_succ]
          exact hI43
        exact AllReadyIn.nil
      · skip -- [0, 1, 3, 4, 8, 9, 10, 11, 12, 13]
        refine wpAnyIn_ready (rs := [2, 14]) (by kernel_rfl) (by simp) ?_
        refine AllReadyIn.cons rfl (fun K hK => ?_) ?_
        · go_simp
          refine hK _ _ ?_
          clear hK K
          refine wpAnyIn_take (i := 5) (v := ?_) rfl rfl (by kernel_rfl) (by kernel_rfl) (by kernel_rfl) (fun _ _ _ h => h) ⟨Or.inl ⟨by rfl, ?_⟩, fun _ => rfl⟩ ?_
          rotate_left
          · (intro w; go_simp; with_reducible rfl)
          refine wpAnyIn_take (i := 6) (v := ?_) rfl rfl (by kernel_rfl) (by kernel_rfl) (by kernel_rfl) (fun _ _ _ h => h) ⟨Or.inl ⟨by rfl, ?_⟩, fun _ => rfl⟩ ?_
          rotate_left
          · (intro w; go_simp; with_reducible rfl)
          try simp only [Act.put, List.setIfInBounds_toArray, List.set_cons_zero, List.set_cons_succ]
          exact hI43
        refine AllReadyIn.cons rfl (fun K hK => ?_) ?_
        · go_simp
          refine hK _ _ ?_
          clear hK K
          try simp only [Act.put, List.setIfInBounds_toArray, List.set_cons_zero, List.set_cons_succ]
          exact hI40
        exact AllReadyIn.nil
      · skip -- [0, 1, 3, 8, 9, 10, 11, 12, 13, 14]
        refine wpAnyIn_ready (rs := [2, 4]) (by kernel_rfl) (by simp) ?_
        refine AllReadyIn.cons rfl (fun K hK => ?_) ?_
        · go_simp
          refine hK _ _ ?_
          clear hK K
          refine wpAnyIn_take (i := 5) (v := ?_) rfl rfl (by kernel_rfl) (by kernel_rfl) (by kernel_rfl) (fun _ _ _ h => h) ⟨Or.inl ⟨by rfl, ?_⟩, fun _ => rfl⟩ ?_
          rotate_left
          · (intro w; go_simp; with_reducible rfl)
          try simp only [Act.put, List.setIfInBounds_toArray, List.set_cons_zero, List.set_cons_succ]
          exact hI42
        refine AllReadyIn.cons rfl (fun K hK => ?_) ?_
        · go_simp
          refine hK _ _ ?_
          clear hK K
          try simp only [Act.put, List.setIfInBounds_toArray, List.set_cons_zero, List.set_cons_succ]
          exact hI40
        exact AllReadyIn.nil
      · skip -- [0, 2, 3, 4, 5, 6, 7, 8, 9, 12]
        refine wpAnyIn_ready (rs := [1, 10]) (by kernel_rfl) (by simp) ?_
        refine AllReadyIn.cons rfl (fun K hK => ?_) ?_
        · go_simp
          refine hK _ _ ?_
          clear hK K
          try simp only [Act.put, List.setIfInBounds_toArray, List.set_cons_zero, List.set_cons_succ]
          exact hI38
        refine AllReadyIn.cons rfl (fun K hK => ?_) ?_
        · go_simp
          refine hK _ _ ?_
          clear hK K
          refine wpAnyIn_take (i := 11) (v := ?_) rfl rfl (by kernel_rfl) (by kernel_rfl) (by kernel_rfl) (fun _ _ _ h => h) ⟨Or.inl ⟨by rfl, ?_⟩, fun _ => rfl⟩ ?_
          rotate_left
          · (intro w; go_simp; with_reducible rfl)
          refine wpAnyIn_take (i := 13) (v := ?_) rfl rfl (by kernel_rfl) (by kernel_rfl) (by kernel_rfl) (fun _ _ _ h => h) ⟨Or.inl ⟨by rfl, ?_⟩, fun _ => rfl⟩ ?_
          rotate_left
          · (intro w; go_simp; with_reducible rfl)
          try simp only [Act.put, List.setIfInBounds_toArray, List.set_cons_zero, List.set_cons_succ]
          exact hI44
        exact AllReadyIn.nil
      · skip -- [0, 2, 3, 4, 5, 6, 7, 9, 10, 11]
        refine wpAnyIn_ready (rs := [1, 8]) (by kernel_rfl) (by simp) ?_
        refine AllReadyIn.cons rfl (fun K hK => ?_) ?_
        · go_simp
          refine hK _ _ ?_
          clear hK K
          try simp only [Act.put, List.setIfInBounds_toArray, List.set_cons_zero, List.set_cons_succ]
          exact hI39
        refine AllReadyIn.cons rfl (fun K hK => ?_) ?_
        · go_simp
          refine hK _ _ ?_
          clear hK K
          refine wpAnyIn_take (i := 12) (v := ?_) rfl rfl (by kernel_rfl) (by kernel_rfl) (by kernel_rfl) (fun _ _ _ h => h) ⟨Or.inl ⟨by rfl, ?_⟩, fun _ => rfl⟩ ?_
          rotate_left
          · (intro w; go_simp; with_reducible rfl)
          refine wpAnyIn_take (i := 13) (v := ?_) rfl rfl (by kernel_rfl) (by kernel_rfl) (by kernel_rfl) (fun _ _ _ h => h) ⟨Or.inl ⟨by rfl, ?_⟩, fun _ => rfl⟩ ?_
          rotate_left
          · (intro w; go_simp; with_reducible rfl)
          try simp only [Act.put, List.setIfInBounds_toArray, List.set_cons_zero, List.set_cons_succ]
          exact hI44
        exact AllReadyIn.nil
      · skip -- [0, 3, 4, 8, 9, 10, 11, 12, 13, 14]
        refine wpAnyIn_ready (rs := [1, 2]) (by kernel_rfl) (by simp) ?_
        refine AllReadyIn.cons rfl (fun K hK => ?_) ?_
        · go_simp
          refine hK _ _ ?_
          clear hK K
          try simp only [Act.put, List.setIfInBounds_toArray, List.set_cons_zero, List.set_cons_succ]
          exact hI40
        refine AllReadyIn.cons rfl (fun K hK => ?_) ?_
        · go_simp
          refine hK _ _ ?_
          clear hK K
          refine wpAnyIn_take (i := 5) (v := ?_) rfl rfl (by kernel_rfl) (by kernel_rfl) (by kernel_rfl) (fun _ _ _ h => h) ⟨Or.inl ⟨by rfl, ?_⟩, fun _ => rfl⟩ ?_
          rotate_left
          · (intro w; go_simp; with_reducible rfl)
          refine wpAnyIn_take (i := 6) (v := ?_) rfl rfl (by kernel_rfl) (by kernel_rfl) (by kernel_rfl) (fun _ _ _ h => h) ⟨Or.inl ⟨by rfl, ?_⟩, fun _ => rfl⟩ ?_
          rotate_left
          · (intro w; go_simp; with_reducible rfl)
          try simp only [Act.put, List.setIfInBounds_toArray, List.set_cons_zero, List.set_cons_succ]
          exact hI45
        exact AllReadyIn.nil
      · skip -- [0, 1, 2, 3, 5, 8, 9, 10, 11, 12, 13]
        refine wpAnyIn_ready (rs := [4, 14]) (by kernel_rfl) (by simp) ?_
        refine AllReadyIn.cons rfl (fun K hK => ?_) ?_
        · go_simp
          refine hK _ _ ?_
          clear hK K
          refine wpAnyIn_take (i := 6) (v := ?_) rfl rfl (by kernel_rfl) (by kernel_rfl) (by kernel_rfl) (fun _ _ _ h => h) ⟨Or.inl ⟨by rfl, ?_⟩, fun _ => rfl⟩ ?_
          rotate_left
          · (intro w; go_simp; with_reducible rfl)
          try simp only [Act.put, List.setIfInBounds_toArray, List.set_cons_zero, List.set_cons_succ]
          exact hI43
        refine AllReadyIn.cons rfl (fun K hK => ?_) ?_
        · go_simp
          refine hK _ _ ?_
          clear hK K
          try simp only [Act.put, List.setIfInBounds_toArray, List.set_cons_zero, List.set_cons_succ]
          exact hI42
        exact AllReadyIn.nil
      · skip -- [0, 2, 3, 5, 8, 9, 10, 11, 12, 13, 14]
        refine wpAnyIn_ready (rs := [1, 4]) (by kernel_rfl) (by simp) ?_
        refine AllReadyIn.cons rfl (fun K hK => ?_) ?_
        · go_simp
          refine hK _ _ ?_
          clear hK K
          try simp only [Act.put, List.setIfInBounds_toArray, List.set_cons_zero, List.set_cons_succ]
          exact hI42
        refine AllReadyIn.cons rfl (fun K hK => ?_) ?_
        · go_simp
          refine hK _ _ ?_
          clear hK K
          refine wpAnyIn_take (i := 6) (v := ?_) rfl rfl (by kernel_rfl) (by kernel_rfl) (by kernel_rfl) (fun _ _ _ h => h) ⟨Or.inl ⟨by rfl, ?_⟩, fun _ => rfl⟩ ?_
          rotate_left
          · (intro w; go_simp; with_reducible rfl)
          try simp only [Act.put, List.setIfInBounds_toArray, List.set_cons_zero, List.set_cons_succ]
          exact hI45
        exact AllReadyIn.nil
      · skip -- [0, 1, 2, 3, 4, 5, 6, 7, 8, 9, 12]
        refine wpAnyIn_ready (rs := [10]) (by kernel_rfl) (by simp) ?_
        refine AllReadyIn.cons rfl (fun K hK => ?_) ?_
        · go_simp
          refine hK _ _ ?_
          clear hK K
          refine wpAnyIn_take (i := 11) (v := ?_) rfl rfl (by kernel_rfl) (by kernel_rfl) (by kernel_rfl) (fun _ _ _ h => h) ⟨Or.inl ⟨by rfl, ?_⟩, fun _ => rfl⟩ ?_
          rotate_left
          · (intro w; go_simp; with_reducible rfl)
          refine wpAnyIn_take (i := 13) (v := ?_) rfl rfl (by kernel_rfl) (by kernel_rfl) (by kernel_rfl) (fun _ _ _ h => h) ⟨Or.inl ⟨by rfl, ?_⟩, fun _ => rfl⟩ ?_
          rotate_left
          · (intro w; go_simp; with_reducible rfl)
          try simp only [Act.put, List.setIfInBounds_toArray, List.set_cons_zero, List.set_cons_succ]
          exact hI46
        exact AllReadyIn.nil
      · skip -- [0, 1, 2, 3, 4, 5, 6, 7, 9, 10, 11]
        refine wpAnyIn_ready (rs := [8]) (by kernel_rfl) (by simp) ?_
        refine AllReadyIn.cons rfl (fun K hK => ?_) ?_
        · go_simp
          refine hK _ _ ?_
          clear hK K
          refine wpAnyIn_take (i := 12) (v := ?_) rfl rfl (by kernel_rfl) (by kernel_rfl) (by kernel_rfl) (fun _ _ _ h => h) ⟨Or.inl ⟨by rfl, ?_⟩, fun _ => rfl⟩ ?_
          rotate_left
          · (intro w; go_simp; with_reducible rfl)
          refine wpAnyIn_take (i := 13) (v := ?_) rfl rfl (by kernel_rfl) (by kernel_rfl) (by kernel_rfl) (fun _ _ _ h => h) ⟨Or.inl ⟨by rfl, ?_⟩, fun _ => rfl⟩ ?_
          rotate_left
          · (intro w; go_simp; with_reducible rfl)
          try simp only [Act.put, List.setIfInBounds_toArray, List.set_cons_zero, List.set_cons_succ]
          exact hI46
        exact AllReadyIn.nil
      · skip -- [0, 1, 3, 4, 8, 9, 10, 11, 12, 13, 14]
        refine wpAnyIn_ready (rs := [2]) (by kernel_rfl) (by simp) ?_
        refine AllReadyIn.cons rfl (fun K hK => ?_) ?_
        · go_simp
          refine hK _ _ ?_
          clear hK K
          refine wpAnyIn_take (i := 5) (v := ?_) rfl rfl (by kernel_rfl) (by kernel_rfl) (by kernel_rfl) (fun _ _ _ h => h) ⟨Or.inl ⟨by rfl, ?_⟩, fun _ => rfl⟩ ?_
          rotate_left
          · (intro w; go_simp; with_reducible rfl)
          refine wpAnyIn_take (i := 6) (v := ?_) rfl rfl (by kernel_rfl) (by kernel_rfl) (by kernel_rfl) (fun _ _ _ h => h) ⟨Or.inl ⟨by rfl, ?_⟩, fun _ => rfl⟩ ?_
          rotate_left
          · (intro w; go_simp; with_reducible rfl)
          try simp only [Act.put, List.setIfInBounds_toArray, List.set_cons_zero, List.set_cons_succ]
          exact hI47
        exact AllReadyIn.nil
      · skip -- [0, 2, 3, 4, 5, 6, 8, 9, 10, 11, 12, 13]
        refine wpAnyIn_ready (rs := [1, 7, 14]) (by kernel_rfl) (by simp) ?_
        refine AllReadyIn.cons rfl (fun K hK => ?_) ?_
        · go_simp
          refine hK _ _ ?_
          clear hK K
          try simp only [Act.put, List.setIfInBounds_toArray, List.set_cons_zero, List.set_cons_succ]
          exact hI43
        refine AllReadyIn.cons rfl (fun K hK => ?_) ?_
        · go_simp
          refine hK _ _ ?_
          clear hK K
          try simp only [Act.put, List.setIfInBounds_toArray, List.set_cons_zero, List.set_cons_succ]
          exact hI44
        refine AllReadyIn.cons rfl (fun K hK => ?_) ?_
        · go_simp
          refine hK _ _ ?_
          clear hK K
          try simp only [Act.put, List.setIfInBounds_toArray, List.set_cons_zero, List.set_cons_succ]
          exact hI45
        exact AllReadyIn.nil
      · skip -- [0, 1, 2, 3, 5, 8, 9, 10, 11, 12, 13, 14]
        refine wpAnyIn_ready (rs := [4]) (by kernel_rfl) (by simp) ?_
        refine AllReadyIn.cons rfl (fun K hK => ?_) ?_
        · go_simp
          refine hK _ _ ?_
          clear hK K
          refine wpAnyIn_take (i := 6) (v := ?_) rfl rfl (by kernel_rfl) (by kernel_rfl) (by kernel_rfl) (fun _ _ _ h => h) ⟨Or.inl ⟨by rfl, ?_⟩, fun _ => rfl⟩ ?_
          rotate_left
          · (intro w; go_simp; with_reducible rfl)
          try simp only [Act.put, List.setIfInBounds_toArray, List.set_cons_zero, List.set_cons_succ]
          exact hI47
        exact AllReadyIn.nil
      · skip -- [0, 1, 2, 3, 4, 5, 6, 8, 9, 10, 11, 12, 13]
        refine wpAnyIn_ready (rs := [7, 14]) (by kernel_rfl) (by simp) ?_
        refine AllReadyIn.cons rfl (fun K hK => ?_) ?_
        · go_simp
          refine hK _ _ ?_
          clear hK K
          try simp only [Act.put, List.setIfInBounds_toArray, List.set_cons_zero, List.set_cons_succ]
          exact hI46
        refine AllReadyIn.cons rfl (fun K hK => ?_) ?_
        · go_simp
          refine hK _ _ ?_
          clear hK K
          try simp only [Act.put, List.setIfInBounds_toArray, List.set_cons_zero, List.set_cons_succ]
          exact hI47
        exact AllReadyIn.nil
      · skip -- [0, 2, 3, 4, 5, 6, 7, 8, 9, 10, 11, 12, 13]
        refine wpAnyIn_ready (rs := [1, 14]) (by kernel_rfl) (by simp) ?_
        refine AllReadyIn.cons rfl (fun K hK => ?_) ?_
        · go_simp
          refine hK _ _ ?_
          clear hK K
          try simp only [Act.put, List.setIfInBounds_toArray, List.set_cons_zero, List.set_cons_succ]
          exact hI46
        refine AllReadyIn.cons rfl (fun K hK => ?_) ?_
        · go_simp
          refine hK _ _ ?_
          clear hK K
          refine wpAnyIn_take (i := 15) (v := ?_) rfl rfl (by kernel_rfl) (by kernel_rfl) (by kernel_rfl) (fun _ _ _ h => h) ⟨Or.inl ⟨by rfl, ?_⟩, fun _ => rfl⟩ ?_
          rotate_left
          · (intro w; go_simp; with_reducible rfl)
          try simp only [Act.put, List.setIfInBounds_toArray, List.set_cons_zero, List.set_cons_succ]
          exact hI48
        exact AllReadyIn.nil
      · skip -- [0, 2, 3, 4, 5, 6, 8, 9, 10, 11, 12, 13, 14]
        refine wpAnyIn_ready (rs := [1, 7]) (by kernel_rfl) (by simp) ?_
        refine AllReadyIn.cons rfl (fun K hK => ?_) ?_
        · go_simp
          refine hK _ _ ?_
          clear hK K
          try simp only [Act.put, List.setIfInBounds_toArray, List.set_cons_zero, List.set_cons_succ]
          exact hI47
        refine AllReadyIn.cons rfl (fun K hK => ?_) ?_
        · go_simp
          refine hK _ _ ?_
          clear hK K
          refine wpAnyIn_take (i := 15) (v := ?_) rfl rfl (by kernel_rfl) (by kernel_rfl) (by kernel_rfl) (fun _ _ _ h => h) ⟨Or.inl ⟨by rfl, ?_⟩, fun _ => rfl⟩ ?_
          rotate_left
          · (intro w; go_simp; with_reducible rfl)
          try simp only [Act.put, List.setIfInBounds_toArray, List.set_cons_zero, List.set_cons_succ]
          exact hI48
        exact AllReadyIn.nil
      · skip -- [0, 1, 2, 3, 4, 5, 6, 7, 8, 9, 10, 11, 12, 13]
        refine wpAnyIn_ready (rs := [14]) (by kernel_rfl) (by simp) ?_
        refine AllReadyIn.cons rfl (fun K hK => ?_) ?_
        · go_simp
          refine hK _ _ ?_
          clear hK K
          refine wpAnyIn_take (i := 15) (v := ?_) rfl rfl (by kernel_rfl) (by kernel_rfl) (by kernel_rfl) (fun _ _ _ h => h) ⟨Or.inl ⟨by rfl, ?_⟩, fun _ => rfl⟩ ?_
          rotate_left
          · (intro w; go_simp; with_reducible rfl)
          try simp only [Act.put, List.setIfInBounds_toArray, List.set_cons_zero, List.set_cons_succ]
          exact hI49
        exact AllReadyIn.nil
      · skip -- [0, 1, 2, 3, 4, 5, 6, 8, 9, 10, 11, 12, 13, 14]
        refine wpAnyIn_ready (rs := [7]) (by kernel_rfl) (by simp) ?_
        refine AllReadyIn.cons rfl (fun K hK => ?_) ?_
        · go_simp
          refine hK _ _ ?_
          clear hK K
          refine wpAnyIn_take (i := 15) (v := ?_) rfl rfl (by kernel_rfl) (by kernel_rfl) (by kernel_rfl) (fun _ _ _ h => h) ⟨Or.inl ⟨by rfl, ?_⟩, fun _ => rfl⟩ ?_
          rotate_left
          · (intro w; go_simp; with_reducible rfl)
          try simp only [Act.put, List.setIfInBounds_toArray, List.set_cons_zero, List.set_cons_succ]
          exact hI49
        exact AllReadyIn.nil
      · skip -- [0, 2, 3, 4, 5, 6, 7, 8, 9, 10, 11, 12, 13, 14, 15]
        refine wpAnyIn_ready (rs := [1]) (by kernel_rfl) (by simp) ?_
        refine AllReadyIn.cons rfl (fun K hK => ?_) ?_
        · go_simp
          refine hK _ _ ?_
          clear hK K
          try simp only [Act.put, List.setIfInBounds_toArray, List.set_cons_zero, List.set_cons_succ]
          exact hI49
        exact AllReadyIn.nil
      · skip -- [0, 1, 2, 3, 4, 5, 6, 7, 8, 9, 10, 11, 12, 13, 14, 15]
        refine wpAnyIn_ready (rs := [16]) (by kernel_rfl) (by simp) ?_
        refine AllReadyIn.cons rfl (fun K hK => ?_) ?_
        · go_simp
          refine ⟨fun h => absurd h (by decide), HR.out.mono ?_⟩
          rintro e W3 ⟨rfl, hB3⟩
          refine hK _ _ ?_
          clear hK K
          refine wpAnyIn_take (i := 17) (v := ?_) rfl rfl (by kernel_rfl) (by kernel_rfl) (by kernel_rfl) (fun _ _ _ h => h) ⟨Or.inl ⟨by rfl, ?_⟩, fun _ => rfl⟩ ?_
          rotate_left
          · (intro w; go_simp; with_reducible rfl)
          try simp only [Act.put, List.setIfInBounds_toArray, List.set_cons_zero, List.set_cons_succ]
          refine wpAnyIn_done (by kernel_rfl) ?_ _
          have hI3 := HI2.out.later hB3
          have hR3 := HREC.out _ _ none (.inl rfl) HRC2.out (grown_of_belowN hB3 none)
          have hx3 := (hB3.cell (p := ⟨wr.heap.size, 1, none⟩) (by simp)).trans HXC.out
          have hp3 := hI3.p
          have HI3 := Lib.hid hI3
          have HR3 := Lib.hid hR3
          clear hw64 hw0 hwn hwi hl1 hl2 hp hb2 hLlt hB3 hI3 hR3 HR HXC hy hx0 hx1 hx2 hq1 hq2
          gi_wp2_with (first | (refine ⟨trivial, fun h => absurd h (by decide), ?_⟩; gi_at_call 23; refine (callsIn_wide.2 (swap_any L q (lineTo l0 cs k) W3 hq HI3.out.line)).mono ?_; rintro e W4 ⟨rfl, hL4, hG4⟩; have HL4 := Lib.hid hL4; have HG4 := Lib.hid hG4; clear hL4 hG4) | (gi_at_call 23; refine (callsIn_wide.2 (swap_any L q (lineTo l0 cs k) W3 hq HI3.out.line)).mono ?_; rintro e W4 ⟨rfl, hL4, hG4⟩; have HL4 := Lib.hid hL4; have HG4 := Lib.hid hG4; clear hL4 hG4))
          go_roundw
          case rel => exact ⟨k + 1, by omega, by go_num, by rw [lineTo_succ l0 cs k _ HG.out]; exact ItSt.swap HI3.out HL4.out HG4.out, HREC.out _ _ (some L) (.inr rfl) HR3.out HG4.out⟩
          case measure => first | (simp [intOf]; done) | (simp [intOf]; omega)
        exact AllReadyIn.nil
    · gi_wp2
      go_end0
      obtain rfl : k = cs.length := by omega
      exact ⟨⟨_, rfl⟩, HI.out, HRC.out⟩
end Go.Proofs.YtepofpnbgbmihaaDoor

/-
  cloth.crossings: it hands back its iterator.
-/
namespace Go.Proofs.YtepofpnbgbmihaaDoor
open Go.RowKit
set_option linter.unusedSimpArgs false
set_option linter.unusedVariables false

set_option maxHeartbeats 400000 in
theorem crossings_any57 (L : Nat) (thr : Int) (v pv : Value) (w : World) : Calls Tryd.prog 57 #[.agg #[.int .i64 thr, v, pv], .pointer (some ⟨L, 0, none⟩)] w fun e w' =>
    e = .returned (.func (.func 64) #[] #[.pointer (some ⟨w.heap.size, 0, none⟩), .pointer (some ⟨w.heap.size + 1, 0, none⟩)]) ∧
    w' = (w.alloc (.cells #[.int .i64 thr, v, pv] 41)).alloc (.cells #[.pointer (some ⟨L, 0, none⟩)] 99) := by
  go_enter Tryd.func57, Tryd.ntmps57
  go_wp2
  go_ret
  exact ⟨rfl, rfl⟩
end Go.Proofs.YtepofpnbgbmihaaDoor

/-
  A range over an iterator that keeps its state in block L: every round goes on.
-/
namespace Go.Proofs.YtepofpnbgbmihaaDoor
open Go.RowKit Go.Shelf

/-- How a round ends here: it goes on, and all that lay lies as it lay. -/
def runPost (W : World) : Exit → Act → World → Prop
  | .normal, _, W' => Below W.heap.size W W'
  | _, _, _ => False

/-- **A range over an iterator all of whose rounds go on**: what the iterator keeps in block L it says itself (Fin); a round keeps all that lay. -/
theorem rangeFunc_runs {P : Program} {g : Operand} {ps : Array Tmp} {assign body : Code} {Q : Exit → Act → World → Prop} {a : Act} {w : World} (n : Nat) {gf : Nat} {lb : Array Value} (hg : a.eval g = .func (.func gf) #[] lb)
    (eg : ∀ args w, (callFunc gf args).run P w = .ok (.enter gf args) w) {α : Type} (encs : α → Array Value) (hps : ∀ x, (encs x).size = ps.size) (L : Nat) (hL : L < w.heap.size) (X : α → World → Prop) (Fin : World → Prop)
    (iter : ∀ (l : Nat) (Rec : World → Prop) (W : World), Below w.heap.size w W → (∀ A B row, (row = none ∨ row = some L) → Rec A → A.grownBy B row → Rec B) →
      (∀ x W1, X x W1 → Rec W1 → YieldAt Fence.wide (n - 1 - 1) P l (encs x) W1 fun e W' => e = .returned (.bool true) ∧ Below W1.heap.size W1 W') → Rec W →
      CallsIn Fence.wide (n - 1) P gf (#[.func (.yield l) #[] #[]] ++ lb) W fun e W' => (∃ v, e = .returned v) ∧ Fin W' ∧ Rec W')
    (hFin : ∀ W l o, Fin W → w.heap.size ≤ l → Fin (W.putObj l o))
    (hround : ∀ (l : Nat) (x : α) (W : World), X x W → l < W.heap.size → assign.wpIn (Fence.wide.inRound l) (n - 1 - 1) P
      (Exit.then (fun a1 w1 => Below W.heap.size W w1 ∧ ∀ o, body.wpIn (Fence.wide.inRound l) (n - 1 - 1) P (runPost (w1.putObj l o)) a1 (w1.putObj l o)) (fun _ _ _ => False))
      { tmps := (ps.zip (encs x)).foldl (fun t (p, v) => t.setIfInBounds p v) a.tmps, defers := [] } W)
    (hdone : ∀ (D : Nat) (W : World), w.heap.size ≤ D → Fin W → W.heap[D]? = some (.deferred (some [])) → Q .normal { a with defers := { target := .collected D, args := #[] } :: a.defers } W) :
    (Code.rangeFunc g ps assign body).wpIn Fence.wide n P Q a w := by
  refine wpIn_rangeFunc fun fn hfn => ?_
  obtain ⟨r0, hr0⟩ : ∃ r0 : Loop, r0 = { state := .ready, pending := none, fn, tmps := a.tmps, params := ps, assign, body, defers := w.heap.size } := ⟨_, rfl⟩
  obtain ⟨W1, hW1⟩ : ∃ W1, W1 = (w.alloc (.deferred (some []))).alloc (.loop r0) := ⟨_, rfl⟩
  have hl1 : W1.heap[w.heap.size + 1]? = some (.loop r0) := by
    rw [hW1]; have := World.alloc_heap_new (w.alloc (.deferred (some []))) (.loop r0); rwa [World.size_alloc] at this
  have hd1 : W1.heap[w.heap.size]? = some (.deferred (some [])) := by
    rw [hW1]; exact (Below.heap_alloc _ _ _ (by simp)).trans (World.alloc_heap_new w _)
  have hb1 : Below w.heap.size w W1 := by rw [hW1]; exact ((Below.refl _ w).alloc (Nat.le_refl _) _).alloc (by simp) _
  refine ⟨w.heap.size + 1, [{ target := .collected w.heap.size, args := #[] }], W1, { target := .fn (.func gf) lb, args := #[.func (.yield (w.heap.size + 1)) #[] #[]] }, W1, gf,
    #[.func (.yield (w.heap.size + 1)) #[] #[]] ++ lb, W1, ?_, ?_, fun _ _ => trivial, ?_, fun h => absurd h (by decide), ?_⟩
  · rw [hW1, hr0]; exact run_enterLoop_outer _ _ _ _ _
  · simp only [resolve, hg]
    simp [go_sem]
  · simp [invoke, go_sem, eg]
  · refine (iter (w.heap.size + 1) (fun W => W.heap[w.heap.size + 1]? = some (.loop r0) ∧ W.heap[w.heap.size]? = some (.deferred (some []))) W1 hb1 ?_ ?_ ⟨hl1, hd1⟩).mono ?_
    · rintro A B row hrow ⟨h1, h2⟩ hgr
      refine ⟨(hgr.block _ (Array.getElem?_eq_some_iff.1 h1).1 ?_).trans h1, (hgr.block _ (Array.getElem?_eq_some_iff.1 h2).1 ?_).trans h2⟩
      · rcases hrow with rfl | rfl
        · simp
        · intro e; injection e with e; omega
      · rcases hrow with rfl | rfl
        · simp
        · intro e; injection e with e; omega
    · rintro x W hx ⟨h1, h2⟩
      have hlt : w.heap.size + 1 < W.heap.size := (Array.getElem?_eq_some_iff.1 h1).1
      have hy := run_yield (P := P) (args := encs x) h1 (by rw [hr0]; exact hps x)
      rw [hr0] at hy
      refine ⟨fn, _, assign, body, hy, roundIn_of_wpIn trivial (wpIn_mono (hround (w.heap.size + 1) x W hx hlt) ?_)⟩
      rintro ex a1 w1 hp
      cases ex with
      | normal =>
        obtain ⟨hB, hbody⟩ := hp
        have hl2 : w1.heap[w.heap.size + 1]? = some (.loop r0) := (hB.block _ hlt).trans h1
        have hlt1 : w.heap.size + 1 < w1.heap.size := (Array.getElem?_eq_some_iff.1 hl2).1
        refine ⟨_, run_beginRound hl2 (by rw [hr0]), wpIn_mono (hbody _) ?_⟩
        rintro e2 a2 w2 hp2
        cases e2 with
        | normal =>
          have hB2 : Below (w1.putObj (w.heap.size + 1) (.loop { r0 with state := .busy })).heap.size (w1.putObj (w.heap.size + 1) (.loop { r0 with state := .busy })) w2 := hp2
          have hl3 : w2.heap[w.heap.size + 1]? = some (.loop { r0 with state := .busy }) := (hB2.block _ (by simp; exact hlt1)).trans (World.putObj_heap_same hlt1)
          refine ⟨_, _, run_endRound (P := P) none hl3, rfl, ?_⟩
          have hsz : W.heap.size ≤ w2.heap.size := by have h5 := hB2.size; have h6 := hB.size; simp at h5; omega
          refine ⟨hB2.os.trans hB.os, hB2.tape.trans hB.tape, hB2.output.trans hB.output, by simpa using hsz, fun k hk => ?_⟩
          by_cases e : k = w.heap.size + 1
          · subst e
            rw [World.putObj_heap_same (by omega), h1, hr0]; rfl
          · rw [World.putObj_heap_other e]
            have hk1 : k < w1.heap.size := Nat.lt_of_lt_of_le hk hB.size
            exact ((hB2.block k (by simp; exact hk1)).trans (World.putObj_heap_other e)).trans (hB.block k hk)
        | _ => exact hp2.elim
      | _ => exact hp.elim
    · rintro e W2 ⟨⟨v, rfl⟩, hF, h1, h2⟩
      exact ⟨none, _, by have := run_endLoop (P := P) h1 (by rw [hr0]; simp); rw [hr0] at this; exact this, hdone _ _ (Nat.le_refl _) (hFin _ _ _ hF (by omega)) ((World.putObj_heap_other (by omega)).trans h2)⟩
end Go.Proofs.YtepofpnbgbmihaaDoor

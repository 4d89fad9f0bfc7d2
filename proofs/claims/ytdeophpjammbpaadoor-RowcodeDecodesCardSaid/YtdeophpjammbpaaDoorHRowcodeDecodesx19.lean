/- For Go functions that RowcodeDecodes reaches: Lean functions, and walks that show that each call comes to what its Lean function tells; no condition but those that each theorem states. (Made by a program of this session over the kit's print.py.) -/
import Derived.Test.YtdeophpjammbpaaDoorHRowcodeDecodesx0
import Derived.Test.YtdeophpjammbpaaDoorHRowcodeDecodesx16
import Derived.Test.YtdeophpjammbpaaDoorHRowcodeDecodesx18
namespace Go.Proofs.YtdeophpjammbpaaDoor.HRowcodeDecodes
open Go.RowKit Go.Proofs.YtdeophpjammbpaaDoorW.PrintWords Go.Proofs.YtdeophpjammbpaaDoorW.PrintLast Go.Proofs.YtdeophpjammbpaaDoorW.PrintMore
attribute [local go_sem] max2_int min2_int max_two min_two max_three min_three max_four min_four   -- for this text's walks alone
set_option linter.unusedVariables false
set_option linter.unusedSimpArgs false
attribute [local go_sem] hp_s8 hp_s16 hp_s32 hp_s64 hp_m8 hp_m16 hp_m32 hp_m64
/-! ### haulageref12_Decode: function 52 -/
mutual
def haulageref12_Decode.l0 : Nat → ByteArray → Int → Int → Int → Int → ByteArray → Int → Int → List (S54) → Option ((List (S52)) × Int)
 | 0, _, _, _, _, _, _, _, _, _ => none
 | k + 1, x1, x6, x7, x8, x319000, x319001, x319002, x319003, x319004 => if x8 < (wrap64 (8 * x7)) then ((haulageref12_bit.f k x1 x8).bind fun t319 => (if t319 = 1 then (some (([] : List (S52)), 5)) else (haulageref12_Decode.l0 k x1 x6 x7 (wrap64 (x8 + 1)) x319000 x319001 x319002 x319003 x319004))) else (haulageref12_Decode.l1 k x1 x6 x7 ([] : List (S52)) 0 x319000 x319001 x319002 x319003 x319004)
def haulageref12_Decode.l1 : Nat → ByteArray → Int → Int → List (S52) → Int → Int → ByteArray → Int → Int → List (S54) → Option ((List (S52)) × Int)
 | 0, _, _, _, _, _, _, _, _, _, _ => none
 | k + 1, x1, x6, x7, x9, x10, x319000, x319001, x319002, x319003, x319004 => if x10 < x6 then ((haulageref12_bit.f k x1 x10).bind fun t320 => (if t320 = 1 then (if 0 ≤ x10 then (if x10 < (x319004.length : Int) then (if ((rd_T54 x319004 x10).f3 = true) then (if x9.length < 4398046511104 then (haulageref12_Decode.l1 k x1 x6 x7 (x9 ++ [(⟨0, 0, (⟨#[]⟩ : ByteArray)⟩ : S52)]) (wrap64 (x10 + 1)) x319000 x319001 x319002 x319003 x319004) else (none)) else (some (([] : List (S52)), 11))) else (none)) else (none)) else (if 0 ≤ x10 then (if x10 < (x319004.length : Int) then (if 0 ≤ x7 then (if x7 ≤ (x1.size : Int) then ((haulageref12_read.f k ((rd_T54 x319004 x10).f2.f0) ((rd_T54 x319004 x10).f2.f1) (x1.extract (x7 : Int).toNat x1.size)).bind fun bt326 => (if bt326.2.2.2.2 = 0 then (if x9.length < 4398046511104 then (haulageref12_Decode.l1 k x1 x6 (wrap64 (x7 + bt326.2.2.2.1)) (x9 ++ [(⟨bt326.1, bt326.2.1, bt326.2.2.1⟩ : S52)]) (wrap64 (x10 + 1)) x319000 x319001 x319002 x319003 x319004) else (none)) else (some (([] : List (S52)), bt326.2.2.2.2)))) else (none)) else (none)) else (none)) else (none)))) else (if x7 < (x1.size : Int) then (some (([] : List (S52)), 6)) else (some (x9, 0)))
end
def haulageref12_Decode.f (k : Nat) (a0_0 : Int) (a0_1 : ByteArray) (a0_2 : Int) (a0_3 : Int) (l0_4 : List (S54)) (a1 : ByteArray) : Option ((List (S52)) × Int) := if (a1.size : Int) < (wrap64 (Int.tdiv (wrap64 ((l0_4.length : Int) + 7)) 8)) then (some (([] : List (S52)), 4)) else (haulageref12_Decode.l0 k a1 (l0_4.length : Int) (wrap64 (Int.tdiv (wrap64 ((l0_4.length : Int) + 7)) 8)) (l0_4.length : Int) a0_0 a0_1 a0_2 a0_3 l0_4)
theorem haulageref12_Decode.mono_l : ∀ k, (∀ y0 y1 y2 y3 y4 y5 y6 y7 y8, LeO (haulageref12_Decode.l0 k y0 y1 y2 y3 y4 y5 y6 y7 y8) (haulageref12_Decode.l0 (k + 1) y0 y1 y2 y3 y4 y5 y6 y7 y8)) ∧ (∀ y0 y1 y2 y3 y4 y5 y6 y7 y8 y9, LeO (haulageref12_Decode.l1 k y0 y1 y2 y3 y4 y5 y6 y7 y8 y9) (haulageref12_Decode.l1 (k + 1) y0 y1 y2 y3 y4 y5 y6 y7 y8 y9))
 | 0 => by refine ⟨?_, ?_⟩ <;> intros <;> exact LeO.none _
 | k + 1 => by
  obtain ⟨ih0, ih1⟩ := haulageref12_Decode.mono_l k
  refine ⟨?_, ?_⟩ <;> intros <;> first | unfold haulageref12_Decode.l0 | unfold haulageref12_Decode.l1
  all_goals repeat' first | with_reducible (first | exact ih0 .. | exact ih1 .. | exact haulageref12_bit.mono .. | exact haulageref12_read.mono .. | exact LeO.refl .. | exact LeO.none .. | refine LeO.ite ?_ ?_ | refine LeO.bind ?_ (fun _ => ?_)) | exact ih0 .. | exact ih1 .. | exact haulageref12_bit.mono .. | exact haulageref12_read.mono .. | exact LeO.none .. | refine LeO.ite ?_ ?_ | refine LeO.bind ?_ (fun _ => ?_)
theorem haulageref12_Decode.mono : ∀ a0 a1 a2 a3 a4 a5 k, LeO (haulageref12_Decode.f k a0 a1 a2 a3 a4 a5) (haulageref12_Decode.f (k + 1) a0 a1 a2 a3 a4 a5) := by
 intro a0 a1 a2 a3 a4 a5 k
 obtain ⟨ih0, ih1⟩ := haulageref12_Decode.mono_l k
 unfold haulageref12_Decode.f
 repeat' first | with_reducible (first | exact ih0 .. | exact ih1 .. | exact haulageref12_bit.mono .. | exact haulageref12_read.mono .. | exact LeO.refl .. | exact LeO.none .. | refine LeO.ite ?_ ?_ | refine LeO.bind ?_ (fun _ => ?_)) | exact ih0 .. | exact ih1 .. | exact haulageref12_bit.mono .. | exact haulageref12_read.mono .. | exact LeO.none .. | refine LeO.ite ?_ ?_ | refine LeO.bind ?_ (fun _ => ?_)
def haulageref12_Decode.T18 : Bool × List (List Nat × List Nat) := (true, [([], []), ([0], [0]), ([], []), ([1, 2], [1, 2]), ([3], [3]), ([4], [4]), ([], []), ([], []), ([6, 7], [6, 7]), ([5, 8], [5, 8]), ([9], [9]), ([10], [10]), ([10], [10]), ([10], [10]), ([], []), ([14, 11, 9, 0, 1, 2, 3, 4, 5, 6, 7, 8, 9, 10, 11, 14], [11, 14]), ([12, 15, 0, 1, 2, 3, 4, 5, 6, 7, 8, 9, 10, 11, 12, 14, 15], [12]), ([13, 16, 0, 1, 2, 3, 4, 5, 6, 7, 8, 9, 10, 11, 12, 13, 14, 15, 16], [13])])
def haulageref12_Decode.B18 : List Nat := [0, 1, 0, 7, 15, 31, 0, 0, 192, 511, 1023, 2047, 2047, 2047, 0, 20479, 57343, 131071]
theorem haulageref12_Decode.tab18 : rtab .any (opsOf Tryd.f52 18) = haulageref12_Decode.T18 := by kernel_rfl
theorem haulageref12_Decode.bits18 : waitsOk haulageref12_Decode.T18.2 haulageref12_Decode.B18 = true := by kernel_rfl
set_option maxHeartbeats 8000000 in
set_option maxRecDepth 100000 in
theorem haulageref12_Decode.calls (k : Nat) (a0_0 : Int) (a0_1 : ByteArray) (a0_2 : Int) (a0_3 : Int) (A0_4 : Option Addr) (c0_4 : Nat) (l0_4 : List (S54)) (a1 : ByteArray) (r1 : List (S52)) (r2 : Int) (w : World) (hr0_4 : Kd.C k54 w A0_4 l0_4.length l0_4) (hc0_4 : l0_4.length ≤ c0_4) (h : haulageref12_Decode.f k a0_0 a0_1 a0_2 a0_3 l0_4 a1 = some (r1, r2)) :
  Calls Tryd.prog 52 #[.agg #[.int .i64 a0_0, .string a0_1, .int .i64 a0_2, .int .i64 a0_3, .slice A0_4 l0_4.length c0_4], .string a1] w fun e w' => ∃ v0_ : Value, e = .returned (.tuple #[v0_, .int .i64 r2]) ∧ Kd.R k52 52 w' w.heap.size (fun _ => True) v0_ r1 ∧ Below w.heap.size w w' := by
 have hu24 := Tryd.underlying24
 have hu52 := Tryd.underlying52
 have hu50 := Tryd.underlying50
 have HR0_4 := aM hr0_4
 have HC0_4 := aM hc0_4
 clear hr0_4 hc0_4
 have HB := aM (Below.refl w.heap.size w)
 have H : (if (a1.size : Int) < (wrap64 (Int.tdiv (wrap64 ((l0_4.length : Int) + 7)) 8)) then (some (([] : List (S52)), 4)) else (haulageref12_Decode.l0 k a1 (l0_4.length : Int) (wrap64 (Int.tdiv (wrap64 ((l0_4.length : Int) + 7)) 8)) (l0_4.length : Int) a0_0 a0_1 a0_2 a0_3 l0_4)) = some (r1, r2) := h
 clear h
 by_cases c3 : (a1.size : Int) < (wrap64 (Int.tdiv (wrap64 ((l0_4.length : Int) + 7)) 8))
 ·
  rw [if_pos c3] at H
  have c3b0 : decide ((a1.size : Int) < (wrap64 (Int.tdiv (wrap64 ((l0_4.length : Int) + 7)) 8))) = true := decide_eq_true c3
  clear c3
  simp only [Option.some.injEq, Prod.mk.injEq] at H
  obtain ⟨rfl, rfl⟩ := H
  go_enter Tryd.func52, Tryd.ntmps52
  go_wp2_with (first | ((with_reducible refine gate_dst (N := 2) rfl ?_); refine yX (N := 2) (cs := #[.int .i64 a0_0, .string a0_1, .int .i64 a0_2, .int .i64 a0_3, .slice A0_4 l0_4.length c0_4]) (t := 24) ?_; intro gb318 hg w4 hbox hb; have BK318 := aM (hbox); have GW318 := yZ hg (yB HB); have GE318 := yZ hg (yB HB); replace HB := aM (bP (yB HB) hb); clear hb hbox hg; obtain ⟨hcz5_0, hcz5_1, hcz5_2, hcz5_3, hcz5_4, hfz5_0, hfz5_1, hfz5_2, hfz5_3, hfz5_4⟩ := cells5 BK318.out))
  go_ret2
  exact ⟨_, yE, by first | exact Kd.R_nil _ _ _ _ _ | exact Kd.N_nil _ _ _ _ _ | exact Kd.V_nil _ _ _ _ _ | exact Kd.Q_nil _ _ _ _ _ | exact Kd.S_nil _ _ _ _ _, yG1 HB GE318.out⟩
 ·
  rw [if_neg c3] at H
  have c3b0 : decide ((a1.size : Int) < (wrap64 (Int.tdiv (wrap64 ((l0_4.length : Int) + 7)) 8))) = false := decide_eq_false c3
  clear c3
  have H' := aM H
  clear H
  go_enter Tryd.func52, Tryd.ntmps52
  go_wp2_with (first | ((with_reducible refine gate_dst (N := 2) rfl ?_); refine yX (N := 2) (cs := #[.int .i64 a0_0, .string a0_1, .int .i64 a0_2, .int .i64 a0_3, .slice A0_4 l0_4.length c0_4]) (t := 24) ?_; intro gb318 hg w6 hbox hb; have BK318 := aM (hbox); have GW318 := yZ hg (yB HB); have GE318 := yZ hg (yB HB); replace HB := aM (bP (yB HB) hb); clear hb hbox hg; obtain ⟨hcz7_0, hcz7_1, hcz7_2, hcz7_3, hcz7_4, hfz7_0, hfz7_1, hfz7_2, hfz7_3, hfz7_4⟩ := cells5 BK318.out))
  go_loopg [8] k (fun kq v8 w' => ∃ (x8_1 : Int), v8 = .int .i64 x8_1 ∧ Aside0 (haulageref12_Decode.l0 kq a1 (l0_4.length : Int) (wrap64 (Int.tdiv (wrap64 ((l0_4.length : Int) + 7)) 8)) x8_1 a0_0 a0_1 a0_2 a0_3 l0_4 = some (r1, r2)) ∧ Aside0 (kq ≤ k) ∧ Aside0 (w'.heap[gb318]? = some (.cells #[.int .i64 a0_0, .string a0_1, .int .i64 a0_2, .int .i64 a0_3, (.slice A0_4 l0_4.length c0_4)] 24 (0, 0))) ∧ Aside0 (Below w.heap.size w w'))
  case atStart => exact ⟨((l0_4.length : Int)), yS, H', ⟨Nat.le_refl _⟩, ⟨yK BK318⟩, ⟨yG1 HB GE318.out⟩⟩
  case round =>
   clear H'
   try clear c3
   try clear c3b0
   try clear hcz7_0 hcz7_1 hcz7_2 hcz7_3 hcz7_4
   try clear hfz7_0 hfz7_1 hfz7_2 hfz7_3 hfz7_4
   obtain ⟨x8_1, rfl, HA, HK1, BK318, HB⟩ := hrel
   cases gk with
   | zero => exact absurd HA.out (by simp [haulageref12_Decode.l0])
   | succ k1 =>
    have H := HA.out
    clear HA
    simp only [haulageref12_Decode.l0] at H
    by_cases c8 : x8_1 < (wrap64 (8 * (wrap64 (Int.tdiv (wrap64 ((l0_4.length : Int) + 7)) 8))))
    ·
     rw [if_pos c8] at H
     have c8b0 : decide (x8_1 < (wrap64 (8 * (wrap64 (Int.tdiv (wrap64 ((l0_4.length : Int) + 7)) 8))))) = true := decide_eq_true c8
     clear c8
     obtain ⟨t319, A9, H⟩ := yb H
     by_cases c10 : t319 = 1
     ·
      rw [if_pos c10] at H
      have c10b0 : (t319 == 1) = true := beq_iff_eq.mpr c10
      have c10b1 : (t319 != 1) = false := bne_eq_false_iff_eq.mpr c10
      clear c10
      simp only [Option.some.injEq, Prod.mk.injEq] at H
      obtain ⟨rfl, rfl⟩ := H
      go_wp2_with (first | ((with_reducible refine gate_callee (f := 86) rfl ?_); refine yC 33 Tryd.func86 #[.string a1, .int .i64 x8_1] rfl ?_; (with_reducible refine (haulageref12_bit.calls k1 a1 x8_1 t319 _ A9.out).mono ?_); rintro e w' ⟨rfl, ⟨nd, rfl⟩⟩; refine ⟨_, rfl, ?_⟩))
      go_ret2
      exact ⟨_, yE, by first | exact Kd.R_nil _ _ _ _ _ | exact Kd.N_nil _ _ _ _ _ | exact Kd.V_nil _ _ _ _ _ | exact Kd.Q_nil _ _ _ _ _ | exact Kd.S_nil _ _ _ _ _, yG1 HB GE318.out⟩
     ·
      rw [if_neg c10] at H
      have c10b0 : (t319 == 1) = false := beq_eq_false_iff_ne.mpr c10
      have c10b1 : (t319 != 1) = true := bne_iff_ne.mpr c10
      have H' := aM H
      clear H
      go_wp2_with (first | ((with_reducible refine gate_callee (f := 86) rfl ?_); refine yC 33 Tryd.func86 #[.string a1, .int .i64 x8_1] rfl ?_; (with_reducible refine (haulageref12_bit.calls k1 a1 x8_1 t319 _ A9.out).mono ?_); rintro e w' ⟨rfl, ⟨nd, rfl⟩⟩; refine ⟨_, rfl, ?_⟩))
      go_roundg k1
      case measure => have := HK1.out; omega
      case rel => exact ⟨(wrap64 (x8_1 + 1)), yS, H', ⟨by have := HK1.out; omega⟩, ⟨yK BK318⟩, ⟨yG1 HB GE318.out⟩⟩
    ·
     rw [if_neg c8] at H
     have c8b0 : decide (x8_1 < (wrap64 (8 * (wrap64 (Int.tdiv (wrap64 ((l0_4.length : Int) + 7)) 8))))) = false := decide_eq_false c8
     clear c8
     have H' := aM H
     clear H
     go_wp2
     go_loopg [7, 9, 10] k1 (fun kq v7 v9 v10 w' => ∃ (x7_2 : Int) (x9_2 : List (S52)) (x10_2 : Int), v7 = .int .i64 x7_2 ∧ v10 = .int .i64 x10_2 ∧ Aside0 (haulageref12_Decode.l1 kq a1 (l0_4.length : Int) x7_2 x9_2 x10_2 a0_0 a0_1 a0_2 a0_3 l0_4 = some (r1, r2)) ∧ Aside0 (kq ≤ k1) ∧ Aside0 (Kd.R k52 52 w' w.heap.size (fun _ => True) v9 x9_2) ∧ Aside0 (w'.heap[gb318]? = some (.cells #[.int .i64 a0_0, .string a0_1, .int .i64 a0_2, .int .i64 a0_3, (.slice A0_4 l0_4.length c0_4)] 24 (0, 0))) ∧ Aside0 (Below w.heap.size w w'))
     case atStart => exact ⟨((wrap64 (Int.tdiv (wrap64 ((l0_4.length : Int) + 7)) 8))), (([] : List (S52))), (0), yS, yS, H', ⟨Nat.le_refl _⟩, ⟨by first | exact Kd.R_nil _ _ _ _ _ | exact Kd.N_nil _ _ _ _ _ | exact Kd.V_nil _ _ _ _ _ | exact Kd.Q_nil _ _ _ _ _ | exact Kd.S_nil _ _ _ _ _⟩, ⟨yK BK318⟩, ⟨yG1 HB GE318.out⟩⟩
     case round =>
      clear H'
      try clear c3
      try clear c3b0
      try clear c8
      try clear c8b0
      try clear hcz7_0 hcz7_1 hcz7_2 hcz7_3 hcz7_4
      try clear hfz7_0 hfz7_1 hfz7_2 hfz7_3 hfz7_4
      obtain ⟨x7_2, x9_2, x10_2, rfl, rfl, HA, HK2, HO_9, BK318, HB⟩ := hrel
      cases gk with
      | zero => exact absurd HA.out (by simp [haulageref12_Decode.l1])
      | succ k2 =>
       have H := HA.out
       clear HA
       simp only [haulageref12_Decode.l1] at H
       by_cases c11 : x10_2 < (l0_4.length : Int)
       ·
        rw [if_pos c11] at H
        have c11b0 : decide (x10_2 < (l0_4.length : Int)) = true := decide_eq_true c11
        clear c11
        obtain ⟨t320, A12, H⟩ := yb H
        by_cases c13 : t320 = 1
        ·
         rw [if_pos c13] at H
         have c13b0 : (t320 == 1) = true := beq_iff_eq.mpr c13
         have c13b1 : (t320 != 1) = false := bne_eq_false_iff_eq.mpr c13
         clear c13
         by_cases c14 : 0 ≤ x10_2
         ·
          rw [if_pos c14] at H
          have c14b0 : decide (0 ≤ x10_2) = true := decide_eq_true c14
          clear c14
          by_cases c15 : x10_2 < (l0_4.length : Int)
          ·
           rw [if_pos c15] at H
           have c15b0 : decide (x10_2 < (l0_4.length : Int)) = true := decide_eq_true c15
           clear c15
           obtain ⟨bq16, hbq16⟩ : ∃ b_ : Bool, b_ = ((rd_T54 l0_4 x10_2).f3) := ⟨_, rfl⟩
           replace H : (if (bq16 = true) then (if x9_2.length < 4398046511104 then (haulageref12_Decode.l1 k2 a1 (l0_4.length : Int) x7_2 (x9_2 ++ [(⟨0, 0, (⟨#[]⟩ : ByteArray)⟩ : S52)]) (wrap64 (x10_2 + 1)) a0_0 a0_1 a0_2 a0_3 l0_4) else (none)) else (some (([] : List (S52)), 11))) = some (r1, r2) := by rw [← hbq16] at H; exact H
           have Nbq16 := aM hbq16
           clear hbq16
           by_cases c17 : (bq16 = true)
           ·
            subst c17
            replace H := yt H
            by_cases c18 : x9_2.length < 4398046511104
            ·
             rw [if_pos c18] at H
             have LMc18 := aM c18
             clear c18
             obtain ⟨y322, hy322⟩ : ∃ y_ : List (S52), y_ = (x9_2 ++ [(⟨0, 0, (⟨#[]⟩ : ByteArray)⟩ : S52)]) := ⟨_, rfl⟩
             replace H : (haulageref12_Decode.l1 k2 a1 (l0_4.length : Int) x7_2 y322 (wrap64 (x10_2 + 1)) a0_0 a0_1 a0_2 a0_3 l0_4) = some (r1, r2) := by first | (rw [hy322]; with_reducible exact H) | (have H2_ := (Option.bind_some _ _).symm.trans H; rw [hy322]; with_reducible exact H2_) | (have H2_ := (Option.bind_some _ _).symm.trans H; with_reducible exact H2_) | with_reducible exact H | (rw [hy322]; exact H) | exact H
             have Ny322 := aM hy322
             clear hy322
             have H' := aM H
             clear H
             go_wp2_with (first | ((with_reducible refine gate_callee (f := 86) rfl ?_); refine yC 42 Tryd.func86 #[.string a1, .int .i64 x10_2] rfl ?_; (with_reducible refine (haulageref12_bit.calls k2 a1 x10_2 t320 _ A12.out).mono ?_); rintro e w' ⟨rfl, ⟨nd, rfl⟩⟩; refine ⟨_, rfl, ?_⟩; obtain ⟨hcz19_0, hcz19_1, hcz19_2, hcz19_3, hcz19_4, hfz19_0, hfz19_1, hfz19_2, hfz19_3, hfz19_4⟩ := cells5 BK318.out; have p321 : 0 ≤ (x10_2 : Int) := oD yA; have q321 : x10_2 < (l0_4.length : Int) := oD yA; obtain ⟨ad321, e321, hx321_0, hx321_1, hx321_2, hx321_3, hx321_4, hx321_5, hx321_6, hx321_7⟩ := at_T54 HR0_4.out x10_2 p321 q321; (try rw [← Nbq16.out] at hx321_4); cases e321; replace hx321_0 := pw_cell_below HB.out hx321_0; replace hx321_1 := pw_cell_below HB.out hx321_1; replace hx321_2 := pw_cell_below HB.out hx321_2; replace hx321_3 := pw_cell_below HB.out hx321_3; replace hx321_4 := pw_cell_below HB.out hx321_4; replace hx321_5 := pw_cell_below HB.out hx321_5; replace hx321_6 := pw_cell_below HB.out hx321_6; replace hx321_7 := pw_cell_below HB.out hx321_7; replace p321 := eq_true p321; replace q321 := eq_true q321) | ((with_reducible refine gate_builtin (b := .append) (xs := #[.tmp 51, .tmp 53]) rfl ?_); at_builtin; refine Kd.R_append k52 (w0 := w) w.heap.size rfl (.tmp 51) (.tmp 53) 25 52 (.agg #[(.int .i64 0), (.int .i64 0), (.string ⟨#[]⟩)]) 32 rfl Tryd.underlying25 info52 rfl (by decide) (by omega) u9 x9_2 (⟨0, 0, (⟨#[]⟩ : ByteArray)⟩ : S52) [.int .i64 0, .int .i64 0, .string (⟨#[]⟩ : ByteArray)] (fun _ => True) (fun _ => False) rfl rfl ?aP (fun _ hk => hk.elim) ?aF ?aO ?aB ?aS ?aL ?_; (case aP => exact k52_mkM _ _ _ (⟨0, 0, (⟨#[]⟩ : ByteArray)⟩ : S52)); (case aB => exact (yG1 HB GE318.out)); (case aF => exact (fun _ _ => trivial)); (case aO => exact (yR HO_9.out)); (case aS => exact (bZ (yG1 HB GE318.out))); (case aL => have := LMc18.out; omega); intro v323 w20 ho hb hg hat; rw [← Ny322.out] at ho; have n0_ := aM (blk_grown (g := gb318) (o := .cells #[.int .i64 a0_0, .string a0_1, .int .i64 a0_2, .int .i64 a0_3, .slice (some ad321) l0_4.length c0_4] 24 (0, 0)) (yK BK318) hg (Kd.R_ne HO_9.out BK318.out (by decide))); have n1_ := aM (hb); have n2_ := aM (ho); clear BK318; clear HB; clear HO_9; have BK318 := n0_; have HB := n1_; have HO324 := n2_; clear n0_ n1_ n2_; clear ho hb hg hat))
             go_roundg k2
             case measure => have := HK1.out; have := HK2.out; omega
             case rel => exact ⟨(x7_2), (y322), (wrap64 (x10_2 + 1)), yS, yS, H', ⟨by have := HK1.out; have := HK2.out; omega⟩, ⟨yR HO324.out⟩, ⟨yK BK318⟩, ⟨yG1 HB GE318.out⟩⟩
            ·
             rw [if_neg c18] at H
             exact absurd H (by simp)
           ·
            replace c17 := Bool.eq_false_iff.mpr c17
            subst c17
            replace H := yf H
            simp only [Option.some.injEq, Prod.mk.injEq] at H
            obtain ⟨rfl, rfl⟩ := H
            go_wp2_with (first | ((with_reducible refine gate_callee (f := 86) rfl ?_); refine yC 42 Tryd.func86 #[.string a1, .int .i64 x10_2] rfl ?_; (with_reducible refine (haulageref12_bit.calls k2 a1 x10_2 t320 _ A12.out).mono ?_); rintro e w' ⟨rfl, ⟨nd, rfl⟩⟩; refine ⟨_, rfl, ?_⟩; obtain ⟨hcz21_0, hcz21_1, hcz21_2, hcz21_3, hcz21_4, hfz21_0, hfz21_1, hfz21_2, hfz21_3, hfz21_4⟩ := cells5 BK318.out; have p321 : 0 ≤ (x10_2 : Int) := oD yA; have q321 : x10_2 < (l0_4.length : Int) := oD yA; obtain ⟨ad321, e321, hx321_0, hx321_1, hx321_2, hx321_3, hx321_4, hx321_5, hx321_6, hx321_7⟩ := at_T54 HR0_4.out x10_2 p321 q321; (try rw [← Nbq16.out] at hx321_4); cases e321; replace hx321_0 := pw_cell_below HB.out hx321_0; replace hx321_1 := pw_cell_below HB.out hx321_1; replace hx321_2 := pw_cell_below HB.out hx321_2; replace hx321_3 := pw_cell_below HB.out hx321_3; replace hx321_4 := pw_cell_below HB.out hx321_4; replace hx321_5 := pw_cell_below HB.out hx321_5; replace hx321_6 := pw_cell_below HB.out hx321_6; replace hx321_7 := pw_cell_below HB.out hx321_7; replace p321 := eq_true p321; replace q321 := eq_true q321))
            go_ret2
            exact ⟨_, yE, by first | exact Kd.R_nil _ _ _ _ _ | exact Kd.N_nil _ _ _ _ _ | exact Kd.V_nil _ _ _ _ _ | exact Kd.Q_nil _ _ _ _ _ | exact Kd.S_nil _ _ _ _ _, yG1 HB GE318.out⟩
          ·
           rw [if_neg c15] at H
           exact absurd H (by simp)
         ·
          rw [if_neg c14] at H
          exact absurd H (by simp)
        ·
         rw [if_neg c13] at H
         have c13b0 : (t320 == 1) = false := beq_eq_false_iff_ne.mpr c13
         have c13b1 : (t320 != 1) = true := bne_iff_ne.mpr c13
         by_cases c22 : 0 ≤ x10_2
         ·
          rw [if_pos c22] at H
          have c22b0 : decide (0 ≤ x10_2) = true := decide_eq_true c22
          clear c22
          by_cases c23 : x10_2 < (l0_4.length : Int)
          ·
           rw [if_pos c23] at H
           have c23b0 : decide (x10_2 < (l0_4.length : Int)) = true := decide_eq_true c23
           clear c23
           by_cases c24 : 0 ≤ x7_2
           ·
            rw [if_pos c24] at H
            have c24b0 := eq_true c24
            have c24b1 : decide (0 ≤ x7_2) = true := decide_eq_true c24
            clear c24
            by_cases c25 : x7_2 ≤ (a1.size : Int)
            ·
             rw [if_pos c25] at H
             have c25b0 := eq_true c25
             have c25b1 : decide (x7_2 ≤ (a1.size : Int)) = true := decide_eq_true c25
             clear c25
             obtain ⟨⟨t326, t327, t328, t329, t330⟩, A26, H⟩ := yb H
             try dsimp -simprocs only at H
             by_cases c27 : t330 = 0
             ·
              rw [if_pos c27] at H
              have c27b0 : (t330 == 0) = true := beq_iff_eq.mpr c27
              have c27b1 : (t330 != 0) = false := bne_eq_false_iff_eq.mpr c27
              clear c27
              by_cases c28 : x9_2.length < 4398046511104
              ·
               rw [if_pos c28] at H
               have LMc28 := aM c28
               clear c28
               obtain ⟨y332, hy332⟩ : ∃ y_ : List (S52), y_ = (x9_2 ++ [(⟨t326, t327, t328⟩ : S52)]) := ⟨_, rfl⟩
               replace H : (haulageref12_Decode.l1 k2 a1 (l0_4.length : Int) (wrap64 (x7_2 + t329)) y332 (wrap64 (x10_2 + 1)) a0_0 a0_1 a0_2 a0_3 l0_4) = some (r1, r2) := by first | (rw [hy332]; with_reducible exact H) | (have H2_ := (Option.bind_some _ _).symm.trans H; rw [hy332]; with_reducible exact H2_) | (have H2_ := (Option.bind_some _ _).symm.trans H; with_reducible exact H2_) | with_reducible exact H | (rw [hy332]; exact H) | exact H
               have Ny332 := aM hy332
               clear hy332
               have H' := aM H
               clear H
               try go_wp2_with (first | ((with_reducible refine gate_callee (f := 86) rfl ?_); refine yC 42 Tryd.func86 #[.string a1, .int .i64 x10_2] rfl ?_; (with_reducible refine (haulageref12_bit.calls k2 a1 x10_2 t320 _ A12.out).mono ?_); rintro e w' ⟨rfl, ⟨nd, rfl⟩⟩; refine ⟨_, rfl, ?_⟩; (try (rw [drewN_self wr]; generalize hq_ : World.drewN wr _ = wr; have n0_ : Aside0 (Kd.R k52 52 wr w.heap.size (fun _ => True) u9 x9_2) := ⟨by rw [← hq_]; exact (yR HO_9.out)⟩; have n1_ : Aside0 (wr.heap[gb318]? = some (.cells #[.int .i64 a0_0, .string a0_1, .int .i64 a0_2, .int .i64 a0_3, .slice A0_4 l0_4.length c0_4] 24 (0, 0))) := ⟨by rw [← hq_]; exact (yK BK318)⟩; have n2_ : Aside0 (Below w.heap.size w wr) := ⟨by rw [← hq_]; exact (yG1 HB GE318.out)⟩; clear HO_9 BK318 HB hq_; have HO_9 := n0_; have BK318 := n1_; have HB := n2_; clear n0_ n1_ n2_))))
               have n0_ := aM (Kd.R_drew HO_9.out)
               have n1_ := aM (kD BK318.out)
               have n2_ := aM (b1 HB.out)
               clear HO_9
               clear BK318
               clear HB
               have HO_9 := n0_
               have BK318 := n1_
               have HB := n2_
               clear n0_ n1_ n2_
               have p325 : 0 ≤ (x10_2 : Int) := oD yA
               have q325 : x10_2 < (l0_4.length : Int) := oD yA
               obtain ⟨ad325, e325, hx325_0, hx325_1, hx325_2, hx325_3, hx325_4, hx325_5, hx325_6, hx325_7⟩ := at_T54 HR0_4.out x10_2 p325 q325
               have hw325_7 := hx325_7
               have hw325_6 := hx325_6
               have hw325_5 := hx325_5
               have hw325_4 := hx325_4
               have hw325_3 := hx325_3
               have hw325_2 := hx325_2
               have hw325_1 := hx325_1
               have hw325_0 := hx325_0
               cases e325
               replace hx325_0 := pw_cell_below HB.out hx325_0
               replace hx325_1 := pw_cell_below HB.out hx325_1
               replace hx325_2 := pw_cell_below HB.out hx325_2
               replace hx325_3 := pw_cell_below HB.out hx325_3
               replace hx325_4 := pw_cell_below HB.out hx325_4
               replace hx325_5 := pw_cell_below HB.out hx325_5
               replace hx325_6 := pw_cell_below HB.out hx325_6
               replace hx325_7 := pw_cell_below HB.out hx325_7
               replace p325 := eq_true p325
               replace q325 := eq_true q325
               refine start_ (n := 18) (S := fun w' => w'.cell? ⟨gb318, 0, none⟩ = some (.int .i64 a0_0) ∧ w'.cell? ⟨gb318, 1, none⟩ = some (.string a0_1) ∧ w'.cell? ⟨gb318, 2, none⟩ = some (.int .i64 a0_2) ∧ w'.cell? ⟨gb318, 3, none⟩ = some (.int .i64 a0_3) ∧ w'.cell? ⟨gb318, 4, none⟩ = some (.slice (some ad325) l0_4.length c0_4) ∧ w'.cell? (ad325.add ((x10_2).toNat * 8)) = some (.int .i64 ((rd_T54 l0_4 x10_2).f0)) ∧ w'.cell? ⟨(ad325.add ((x10_2).toNat * 8)).block, (ad325.add ((x10_2).toNat * 8)).off + 1, none⟩ = some (.string ((rd_T54 l0_4 x10_2).f1)) ∧ w'.cell? ⟨(ad325.add ((x10_2).toNat * 8)).block, (ad325.add ((x10_2).toNat * 8)).off + 2, none⟩ = some (.int .i64 ((rd_T54 l0_4 x10_2).f2.f0)) ∧ w'.cell? ⟨(ad325.add ((x10_2).toNat * 8)).block, (ad325.add ((x10_2).toNat * 8)).off + 3, none⟩ = some (.int .i64 ((rd_T54 l0_4 x10_2).f2.f1)) ∧ w'.cell? ⟨(ad325.add ((x10_2).toNat * 8)).block, (ad325.add ((x10_2).toNat * 8)).off + 4, none⟩ = some (.bool ((rd_T54 l0_4 x10_2).f3)) ∧ w'.cell? ⟨(ad325.add ((x10_2).toNat * 8)).block, (ad325.add ((x10_2).toNat * 8)).off + 5, none⟩ = some (.int .i64 ((rd_T54 l0_4 x10_2).f4.f0)) ∧ w'.cell? ⟨(ad325.add ((x10_2).toNat * 8)).block, (ad325.add ((x10_2).toNat * 8)).off + 6, none⟩ = some (.int .i64 ((rd_T54 l0_4 x10_2).f4.f1)) ∧ w'.cell? ⟨(ad325.add ((x10_2).toNat * 8)).block, (ad325.add ((x10_2).toNat * 8)).off + 7, none⟩ = some (.string ((rd_T54 l0_4 x10_2).f4.f2))) (ds := []) (tB 0 18) (by kernel_rfl) rfl rfl ⟨yV BK318 0, yV BK318 1, yV BK318 2, yV BK318 3, yV BK318 4, (pw_cell_below HB.out hw325_0), (pw_cell_below HB.out hw325_1), (pw_cell_below HB.out hw325_2), (pw_cell_below HB.out hw325_3), (pw_cell_below HB.out hw325_4), (pw_cell_below HB.out hw325_5), (pw_cell_below HB.out hw325_6), (pw_cell_below HB.out hw325_7)⟩ (fun hHeld => ?_); refine with_tabW haulageref12_Decode.tab18 haulageref12_Decode.bits18 (fun HT_ HW_ => ?_)
               generalize wr.drew = w29 at HO_9 BK318 HB hx325_0 hx325_1 hx325_2 hx325_3 hx325_4 hx325_5 hx325_6 hx325_7 hHeld ⊢
               refine yP HT_ 0 56 (tB 1 18) rfl rfl ?_
               refine yP HT_ 2 58 (tB 5 18) rfl rfl ?_
               refine yP HT_ 6 62 (tB 69 18) rfl rfl ?_
               refine yP HT_ 7 63 (tB 197 18) rfl rfl ?_
               refine yP HT_ 8 64 (tB 453 18) rfl rfl ?_
               refine yT HT_ HW_ 1 57 (tB 455 18) rfl rfl hHeld ?_
               refine yP HT_ 3 59 (tB 463 18) rfl rfl ?_
               refine yP HT_ 4 60 (tB 479 18) rfl rfl ?_
               refine yT HT_ HW_ 5 61 (tB 511 18) rfl rfl hHeld ?_
               refine join_ (σ := Nat) 3 #[true, true, true, true, true, true, true, true, true, true, true, true, true, true, true, false, false, false] (fun s_ => [(65, .tuple #[.agg #[.int .i64 t326, .int .i64 t327, .string t328], .int .i64 t329, .int .i64 t330]), (11, .pointer (some ⟨s_, 0, none⟩)), (55, .tuple #[.agg #[.int .i64 t326, .int .i64 t327, .string t328], .int .i64 t329, .int .i64 t330]), (66, .agg #[.int .i64 t326, .int .i64 t327, .string t328]), (67, .int .i64 t329), (68, .int .i64 t330)]) (fun s_ w' => (w'.cell? ⟨gb318, 0, none⟩ = some (.int .i64 a0_0) ∧ w'.cell? ⟨gb318, 1, none⟩ = some (.string a0_1) ∧ w'.cell? ⟨gb318, 2, none⟩ = some (.int .i64 a0_2) ∧ w'.cell? ⟨gb318, 3, none⟩ = some (.int .i64 a0_3) ∧ w'.cell? ⟨gb318, 4, none⟩ = some (.slice (some ad325) l0_4.length c0_4) ∧ w'.cell? (ad325.add ((x10_2).toNat * 8)) = some (.int .i64 ((rd_T54 l0_4 x10_2).f0)) ∧ w'.cell? ⟨(ad325.add ((x10_2).toNat * 8)).block, (ad325.add ((x10_2).toNat * 8)).off + 1, none⟩ = some (.string ((rd_T54 l0_4 x10_2).f1)) ∧ w'.cell? ⟨(ad325.add ((x10_2).toNat * 8)).block, (ad325.add ((x10_2).toNat * 8)).off + 2, none⟩ = some (.int .i64 ((rd_T54 l0_4 x10_2).f2.f0)) ∧ w'.cell? ⟨(ad325.add ((x10_2).toNat * 8)).block, (ad325.add ((x10_2).toNat * 8)).off + 3, none⟩ = some (.int .i64 ((rd_T54 l0_4 x10_2).f2.f1)) ∧ w'.cell? ⟨(ad325.add ((x10_2).toNat * 8)).block, (ad325.add ((x10_2).toNat * 8)).off + 4, none⟩ = some (.bool ((rd_T54 l0_4 x10_2).f3)) ∧ w'.cell? ⟨(ad325.add ((x10_2).toNat * 8)).block, (ad325.add ((x10_2).toNat * 8)).off + 5, none⟩ = some (.int .i64 ((rd_T54 l0_4 x10_2).f4.f0)) ∧ w'.cell? ⟨(ad325.add ((x10_2).toNat * 8)).block, (ad325.add ((x10_2).toNat * 8)).off + 6, none⟩ = some (.int .i64 ((rd_T54 l0_4 x10_2).f4.f1)) ∧ w'.cell? ⟨(ad325.add ((x10_2).toNat * 8)).block, (ad325.add ((x10_2).toNat * 8)).off + 7, none⟩ = some (.string ((rd_T54 l0_4 x10_2).f4.f2))) ∧ (Kd.R k52 52 w' w.heap.size (fun k_ => k_ ≠ s_) u9 x9_2) ∧ (w'.heap[gb318]? = some (.cells #[.int .i64 a0_0, .string a0_1, .int .i64 a0_2, .int .i64 a0_3, .slice (some ad325) l0_4.length c0_4] 24 (0, 0))) ∧ (w'.heap[s_]? = some (.cells #[.int .i64 0, .int .i64 0, .string (⟨#[]⟩ : ByteArray)] 52 (0, 0))) ∧ (w.heap.size ≤ s_) ∧ (w.heap.size ≤ s_) ∧ (gb318 ≠ s_) ∧ (s_ ≠ gb318) ∧ (Below w.heap.size w w')) ?_ ?_
               rotate_left
               ·
                intro hCont
                refine two_ (i := 9) (j := 14) (Ni := some 65) (Nj := some 11) (tB 1023 18) (tB 16895 18) rfl rfl rfl rfl (two_of HT_.out (by kernel_rfl)) (by decide) (by decide) (fun K hK => ?_) (fun K hK => ?_)
                ·
                 skip
                 refine yc Tryd.func87 #[.agg #[.int .i64 ((rd_T54 l0_4 x10_2).f2.f0), .int .i64 ((rd_T54 l0_4 x10_2).f2.f1)], .string (a1.extract (x7_2 : Int).toNat a1.size)] rfl rfl ?_
                 with_reducible refine (haulageref12_read.calls k2 ((rd_T54 l0_4 x10_2).f2.f0) ((rd_T54 l0_4 x10_2).f2.f1) (a1.extract (x7_2 : Int).toNat a1.size) t326 t327 t328 t329 t330 _ A26.out).mono ?_
                 rintro e w30 ⟨rfl, hb⟩
                 refine ⟨_, rfl, ?_⟩
                 have n0_ := aM (Kd.R_below (yR HO_9.out) hb)
                 have n1_ := aM (kB (yK BK318) hb)
                 have n2_ := aM (bP (yG1 HB GE318.out) hb)
                 clear HO_9
                 clear BK318
                 clear HB
                 have HO_9 := n0_
                 have BK318 := n1_
                 have HB := n2_
                 clear n0_ n1_ n2_
                 (try clear hb)
                 (try clear hb2)
                 (try clear hk)
                 (try clear hi)
                 refine hK.out _ _ ⟨yV BK318 0, yV BK318 1, yV BK318 2, yV BK318 3, yV BK318 4, (pw_cell_below HB.out hw325_0), (pw_cell_below HB.out hw325_1), (pw_cell_below HB.out hw325_2), (pw_cell_below HB.out hw325_3), (pw_cell_below HB.out hw325_4), (pw_cell_below HB.out hw325_5), (pw_cell_below HB.out hw325_6), (pw_cell_below HB.out hw325_7)⟩ (fun hHeld => ?_)
                 clear hK K
                 refine norm_ (a' := ?_) ?_ ?_
                 rotate_left
                 ·
                  show Act.put _ (some 65) _ = _
                  simp only [Act.put, s1_, s2_, s3_, i64_w, i32_w]
                  rfl
                 refine yP HT_ 10 55 (tB 2047 18) rfl rfl ?_
                 refine yP HT_ 11 66 (tB 4095 18) rfl rfl ?_
                 refine yP HT_ 12 67 (tB 8191 18) rfl rfl ?_
                 refine yP HT_ 13 68 (tB 16383 18) rfl rfl ?_
                 refine yI HT_ 14 (tB 32767 18) rfl rfl fun K hK => ?_
                 refine box_step ?hg (N := 11) ?hd (cs := #[.int .i64 0, .int .i64 0, .string (⟨#[]⟩ : ByteArray)]) (t := 52) ?hr ?_; (case hd => rfl); (case hg => rfl); (case hr => first | (go_simp; done) | (go_simp; rfl))
                 intro gb331 hg w31 hbox hb
                 have n0_ := aM (Kd.R_below (Kd.R_elderB (yR HO_9.out) gb331 (Nat.le_of_eq hg.symm)) hb)
                 have n1_ := aM (kB (yK BK318) hb)
                 have n2_ := aM (bP (yG1 HB GE318.out) hb)
                 have n3_ := aM (hbox)
                 have n4_ := yZ hg (yG1 HB GE318.out)
                 have n5_ := yZ hg (yG1 HB GE318.out)
                 have n6_ := yN hg (yK BK318)
                 have n7_ := yM hg (yK BK318)
                 clear HO_9
                 clear BK318
                 clear HB
                 have HO_9 := n0_
                 have BK318 := n1_
                 have HB := n2_
                 have BK331 := n3_
                 have GW331 := n4_
                 have GE331 := n5_
                 have NB318_331 := n6_
                 have NB331_318 := n7_
                 clear n0_ n1_ n2_ n3_ n4_ n5_ n6_ n7_
                 clear hb hbox hg
                 refine hK.out _ _ ⟨yV BK318 0, yV BK318 1, yV BK318 2, yV BK318 3, yV BK318 4, (pw_cell_below HB.out hw325_0), (pw_cell_below HB.out hw325_1), (pw_cell_below HB.out hw325_2), (pw_cell_below HB.out hw325_3), (pw_cell_below HB.out hw325_4), (pw_cell_below HB.out hw325_5), (pw_cell_below HB.out hw325_6), (pw_cell_below HB.out hw325_7)⟩ (fun hHeld => ?_)
                 clear hK K
                 refine norm_ (a' := ?_) ?_ ?_
                 rotate_left
                 ·
                  show Act.put _ (some 11) _ = _
                  simp only [Act.put, s1_, s2_, s3_, i64_w, i32_w]
                  rfl
                 exact norm_ (by simp only [putAll, Act.put, s1_, s2_, s3_]) (hCont (gb331) _ ⟨hHeld, (by (with_reducible repeat (first | apply Kd.R_alloc | apply Kd.R_drewN | apply Kd.R_drew)); exact Kd.R_mono HO_9.out (fun _ hk => hk.2)), (yK BK318), (yK BK331), GW331.out, GE331.out, NB318_331.out, NB331_318.out, (yG2 HB GE318.out GE331.out)⟩)
                ·
                 skip
                 refine box_step ?hg (N := 11) ?hd (cs := #[.int .i64 0, .int .i64 0, .string (⟨#[]⟩ : ByteArray)]) (t := 52) ?hr ?_; (case hd => rfl); (case hg => rfl); (case hr => first | (go_simp; done) | (go_simp; rfl))
                 intro gb331 hg w30 hbox hb
                 have n0_ := aM (Kd.R_below (Kd.R_elderB (yR HO_9.out) gb331 (Nat.le_of_eq hg.symm)) hb)
                 have n1_ := aM (kB (yK BK318) hb)
                 have n2_ := aM (bP (yG1 HB GE318.out) hb)
                 have n3_ := aM (hbox)
                 have n4_ := yZ hg (yG1 HB GE318.out)
                 have n5_ := yZ hg (yG1 HB GE318.out)
                 have n6_ := yN hg (yK BK318)
                 have n7_ := yM hg (yK BK318)
                 clear HO_9
                 clear BK318
                 clear HB
                 have HO_9 := n0_
                 have BK318 := n1_
                 have HB := n2_
                 have BK331 := n3_
                 have GW331 := n4_
                 have GE331 := n5_
                 have NB318_331 := n6_
                 have NB331_318 := n7_
                 clear n0_ n1_ n2_ n3_ n4_ n5_ n6_ n7_
                 clear hb hbox hg
                 refine hK.out _ _ ⟨yV BK318 0, yV BK318 1, yV BK318 2, yV BK318 3, yV BK318 4, (pw_cell_below HB.out hw325_0), (pw_cell_below HB.out hw325_1), (pw_cell_below HB.out hw325_2), (pw_cell_below HB.out hw325_3), (pw_cell_below HB.out hw325_4), (pw_cell_below HB.out hw325_5), (pw_cell_below HB.out hw325_6), (pw_cell_below HB.out hw325_7)⟩ (fun hHeld => ?_)
                 clear hK K
                 refine norm_ (a' := ?_) ?_ ?_
                 rotate_left
                 ·
                  show Act.put _ (some 11) _ = _
                  simp only [Act.put, s1_, s2_, s3_, i64_w, i32_w]
                  rfl
                 refine yI HT_ 9 (tB 17407 18) rfl rfl fun K hK => ?_
                 refine yc Tryd.func87 #[.agg #[.int .i64 ((rd_T54 l0_4 x10_2).f2.f0), .int .i64 ((rd_T54 l0_4 x10_2).f2.f1)], .string (a1.extract (x7_2 : Int).toNat a1.size)] rfl rfl ?_
                 with_reducible refine (haulageref12_read.calls k2 ((rd_T54 l0_4 x10_2).f2.f0) ((rd_T54 l0_4 x10_2).f2.f1) (a1.extract (x7_2 : Int).toNat a1.size) t326 t327 t328 t329 t330 _ A26.out).mono ?_
                 rintro e w31 ⟨rfl, hb⟩
                 refine ⟨_, rfl, ?_⟩
                 have n0_ := aM (Kd.R_below (yR HO_9.out) hb)
                 have n1_ := aM (kB (yK BK318) hb)
                 have n2_ := aM (kB (yK BK331) hb)
                 have n3_ := aM (bP (yG2 HB GE318.out GE331.out) hb)
                 clear HO_9
                 clear BK318
                 clear BK331
                 clear HB
                 have HO_9 := n0_
                 have BK318 := n1_
                 have BK331 := n2_
                 have HB := n3_
                 clear n0_ n1_ n2_ n3_
                 (try clear hb)
                 (try clear hb2)
                 (try clear hk)
                 (try clear hi)
                 refine hK.out _ _ ⟨yV BK318 0, yV BK318 1, yV BK318 2, yV BK318 3, yV BK318 4, (pw_cell_below HB.out hw325_0), (pw_cell_below HB.out hw325_1), (pw_cell_below HB.out hw325_2), (pw_cell_below HB.out hw325_3), (pw_cell_below HB.out hw325_4), (pw_cell_below HB.out hw325_5), (pw_cell_below HB.out hw325_6), (pw_cell_below HB.out hw325_7)⟩ (fun hHeld => ?_)
                 clear hK K
                 refine norm_ (a' := ?_) ?_ ?_
                 rotate_left
                 ·
                  show Act.put _ (some 65) _ = _
                  simp only [Act.put, s1_, s2_, s3_, i64_w, i32_w]
                  rfl
                 refine yP HT_ 10 55 (tB 18431 18) rfl rfl ?_
                 refine yP HT_ 11 66 (tB 20479 18) rfl rfl ?_
                 refine yP HT_ 12 67 (tB 24575 18) rfl rfl ?_
                 refine yP HT_ 13 68 (tB 32767 18) rfl rfl ?_
                 exact norm_ (by simp only [putAll, Act.put, s1_, s2_, s3_]) (hCont (gb331) _ ⟨hHeld, (by (with_reducible repeat (first | apply Kd.R_alloc | apply Kd.R_drewN | apply Kd.R_drew)); exact Kd.R_mono HO_9.out (fun _ hk => hk.2)), (yK BK318), (yK BK331), GW331.out, GE331.out, NB318_331.out, NB331_318.out, (yG2 HB GE318.out GE331.out)⟩)
               rintro gb331 w32 ⟨hS_, h0_, h1_, h2_, h3_, h4_, h5_, h6_, h7_⟩
               have n0_ : Aside0 (Kd.R k52 52 w32 w.heap.size (fun k_ => k_ ≠ gb331) u9 x9_2) := ⟨h0_⟩
               have n1_ : Aside0 (w32.heap[gb318]? = some (.cells #[.int .i64 a0_0, .string a0_1, .int .i64 a0_2, .int .i64 a0_3, .slice (some ad325) l0_4.length c0_4] 24 (0, 0))) := ⟨h1_⟩
               have n2_ : Aside0 (w32.heap[gb331]? = some (.cells #[.int .i64 0, .int .i64 0, .string (⟨#[]⟩ : ByteArray)] 52 (0, 0))) := ⟨h2_⟩
               have n3_ : Aside0 (w.heap.size ≤ gb331) := ⟨h3_⟩
               have n4_ : Aside0 (w.heap.size ≤ gb331) := ⟨h4_⟩
               have n5_ : Aside0 (gb318 ≠ gb331) := ⟨h5_⟩
               have n6_ : Aside0 (gb331 ≠ gb318) := ⟨h6_⟩
               have n7_ : Aside0 (Below w.heap.size w w32) := ⟨h7_⟩
               clear HO_9
               clear BK318
               clear HB
               clear h0_ h1_ h2_ h3_ h4_ h5_ h6_ h7_
               have HO_9 := n0_
               have BK318 := n1_
               have BK331 := n2_
               have GW331 := n3_
               have GE331 := n4_
               have NB318_331 := n5_
               have NB331_318 := n6_
               have HB := n7_
               clear n0_ n1_ n2_ n3_ n4_ n5_ n6_ n7_
               have hHeld : w32.cell? ⟨gb318, 0, none⟩ = some (.int .i64 a0_0) ∧ w32.cell? ⟨gb318, 1, none⟩ = some (.string a0_1) ∧ w32.cell? ⟨gb318, 2, none⟩ = some (.int .i64 a0_2) ∧ w32.cell? ⟨gb318, 3, none⟩ = some (.int .i64 a0_3) ∧ w32.cell? ⟨gb318, 4, none⟩ = some (.slice (some ad325) l0_4.length c0_4) ∧ w32.cell? (ad325.add ((x10_2).toNat * 8)) = some (.int .i64 ((rd_T54 l0_4 x10_2).f0)) ∧ w32.cell? ⟨(ad325.add ((x10_2).toNat * 8)).block, (ad325.add ((x10_2).toNat * 8)).off + 1, none⟩ = some (.string ((rd_T54 l0_4 x10_2).f1)) ∧ w32.cell? ⟨(ad325.add ((x10_2).toNat * 8)).block, (ad325.add ((x10_2).toNat * 8)).off + 2, none⟩ = some (.int .i64 ((rd_T54 l0_4 x10_2).f2.f0)) ∧ w32.cell? ⟨(ad325.add ((x10_2).toNat * 8)).block, (ad325.add ((x10_2).toNat * 8)).off + 3, none⟩ = some (.int .i64 ((rd_T54 l0_4 x10_2).f2.f1)) ∧ w32.cell? ⟨(ad325.add ((x10_2).toNat * 8)).block, (ad325.add ((x10_2).toNat * 8)).off + 4, none⟩ = some (.bool ((rd_T54 l0_4 x10_2).f3)) ∧ w32.cell? ⟨(ad325.add ((x10_2).toNat * 8)).block, (ad325.add ((x10_2).toNat * 8)).off + 5, none⟩ = some (.int .i64 ((rd_T54 l0_4 x10_2).f4.f0)) ∧ w32.cell? ⟨(ad325.add ((x10_2).toNat * 8)).block, (ad325.add ((x10_2).toNat * 8)).off + 6, none⟩ = some (.int .i64 ((rd_T54 l0_4 x10_2).f4.f1)) ∧ w32.cell? ⟨(ad325.add ((x10_2).toNat * 8)).block, (ad325.add ((x10_2).toNat * 8)).off + 7, none⟩ = some (.string ((rd_T54 l0_4 x10_2).f4.f2)) := hS_
               refine norm_ (a' := ?_) ?_ ?_
               rotate_left
               ·
                simp only [putAll, Act.put, s1_, s2_, s3_]
                rfl
               refine yI HT_ 15 (tB 65535 18) rfl rfl fun K hK => ?_
               have hs33 : w32.cell? ⟨gb331, 0, none⟩ = some (.int .i64 0) := (blk_cell BK331.out 0).trans rfl
               have hfs33 := blk_frozen BK331.out 0
               have hns33_0 := NB318_331.out
               have hms33_0 := NB331_318.out
               have hs34 : w32.cell? ⟨gb331, 1, none⟩ = some (.int .i64 0) := (blk_cell BK331.out 1).trans rfl
               have hfs34 := blk_frozen BK331.out 1
               have hns34_0 := NB318_331.out
               have hms34_0 := NB331_318.out
               have hs35 : w32.cell? ⟨gb331, 2, none⟩ = some (.string (⟨#[]⟩ : ByteArray)) := (blk_cell BK331.out 2).trans rfl
               have hfs35 := blk_frozen BK331.out 2
               have hns35_0 := NB318_331.out
               have hms35_0 := NB331_318.out
               refine skip_ (w1 := ?_) (by rfl) rfl ?_ ?_
               rotate_left
               ·
                go_simp
                rfl
               refine hK.out _ _ ⟨((cell_far (p := ⟨gb331, _, none⟩) NB318_331.out _).trans (((cell_far (p := ⟨gb331, _, none⟩) NB318_331.out _).trans (((cell_far (p := ⟨gb331, _, none⟩) NB318_331.out _).trans (hHeld.1)))))), ((cell_far (p := ⟨gb331, _, none⟩) NB318_331.out _).trans (((cell_far (p := ⟨gb331, _, none⟩) NB318_331.out _).trans (((cell_far (p := ⟨gb331, _, none⟩) NB318_331.out _).trans (hHeld.2.1)))))), ((cell_far (p := ⟨gb331, _, none⟩) NB318_331.out _).trans (((cell_far (p := ⟨gb331, _, none⟩) NB318_331.out _).trans (((cell_far (p := ⟨gb331, _, none⟩) NB318_331.out _).trans (hHeld.2.2.1)))))), ((cell_far (p := ⟨gb331, _, none⟩) NB318_331.out _).trans (((cell_far (p := ⟨gb331, _, none⟩) NB318_331.out _).trans (((cell_far (p := ⟨gb331, _, none⟩) NB318_331.out _).trans (hHeld.2.2.2.1)))))), ((cell_far (p := ⟨gb331, _, none⟩) NB318_331.out _).trans (((cell_far (p := ⟨gb331, _, none⟩) NB318_331.out _).trans (((cell_far (p := ⟨gb331, _, none⟩) NB318_331.out _).trans (hHeld.2.2.2.2.1)))))), ((cell_far (p := ⟨gb331, _, none⟩) (by first | exact Nat.ne_of_lt (Nat.lt_of_lt_of_le (by have := World.block_lt_of_cell? _ _ hw325_0; first | rwa [add_block] at this | exact this) GW331.out) | (rw [add_block]; exact Nat.ne_of_lt (Nat.lt_of_lt_of_le (by have := World.block_lt_of_cell? _ _ hw325_0; first | rwa [add_block] at this | exact this) GW331.out)) | (show (Addr.add _ _).block ≠ _; rw [add_block]; exact Nat.ne_of_lt (Nat.lt_of_lt_of_le (by have := World.block_lt_of_cell? _ _ hw325_0; first | rwa [add_block] at this | exact this) GW331.out)) | (dsimp only; exact Nat.ne_of_lt (Nat.lt_of_lt_of_le (by have := World.block_lt_of_cell? _ _ hw325_0; first | rwa [add_block] at this | exact this) GW331.out))) _).trans (((cell_far (p := ⟨gb331, _, none⟩) (by first | exact Nat.ne_of_lt (Nat.lt_of_lt_of_le (by have := World.block_lt_of_cell? _ _ hw325_0; first | rwa [add_block] at this | exact this) GW331.out) | (rw [add_block]; exact Nat.ne_of_lt (Nat.lt_of_lt_of_le (by have := World.block_lt_of_cell? _ _ hw325_0; first | rwa [add_block] at this | exact this) GW331.out)) | (show (Addr.add _ _).block ≠ _; rw [add_block]; exact Nat.ne_of_lt (Nat.lt_of_lt_of_le (by have := World.block_lt_of_cell? _ _ hw325_0; first | rwa [add_block] at this | exact this) GW331.out)) | (dsimp only; exact Nat.ne_of_lt (Nat.lt_of_lt_of_le (by have := World.block_lt_of_cell? _ _ hw325_0; first | rwa [add_block] at this | exact this) GW331.out))) _).trans (((cell_far (p := ⟨gb331, _, none⟩) (by first | exact Nat.ne_of_lt (Nat.lt_of_lt_of_le (by have := World.block_lt_of_cell? _ _ hw325_0; first | rwa [add_block] at this | exact this) GW331.out) | (rw [add_block]; exact Nat.ne_of_lt (Nat.lt_of_lt_of_le (by have := World.block_lt_of_cell? _ _ hw325_0; first | rwa [add_block] at this | exact this) GW331.out)) | (show (Addr.add _ _).block ≠ _; rw [add_block]; exact Nat.ne_of_lt (Nat.lt_of_lt_of_le (by have := World.block_lt_of_cell? _ _ hw325_0; first | rwa [add_block] at this | exact this) GW331.out)) | (dsimp only; exact Nat.ne_of_lt (Nat.lt_of_lt_of_le (by have := World.block_lt_of_cell? _ _ hw325_0; first | rwa [add_block] at this | exact this) GW331.out))) _).trans (hHeld.2.2.2.2.2.1)))))), ((cell_far (p := ⟨gb331, _, none⟩) (by first | exact Nat.ne_of_lt (Nat.lt_of_lt_of_le (by have := World.block_lt_of_cell? _ _ hw325_1; first | rwa [add_block] at this | exact this) GW331.out) | (rw [add_block]; exact Nat.ne_of_lt (Nat.lt_of_lt_of_le (by have := World.block_lt_of_cell? _ _ hw325_1; first | rwa [add_block] at this | exact this) GW331.out)) | (show (Addr.add _ _).block ≠ _; rw [add_block]; exact Nat.ne_of_lt (Nat.lt_of_lt_of_le (by have := World.block_lt_of_cell? _ _ hw325_1; first | rwa [add_block] at this | exact this) GW331.out)) | (dsimp only; exact Nat.ne_of_lt (Nat.lt_of_lt_of_le (by have := World.block_lt_of_cell? _ _ hw325_1; first | rwa [add_block] at this | exact this) GW331.out))) _).trans (((cell_far (p := ⟨gb331, _, none⟩) (by first | exact Nat.ne_of_lt (Nat.lt_of_lt_of_le (by have := World.block_lt_of_cell? _ _ hw325_1; first | rwa [add_block] at this | exact this) GW331.out) | (rw [add_block]; exact Nat.ne_of_lt (Nat.lt_of_lt_of_le (by have := World.block_lt_of_cell? _ _ hw325_1; first | rwa [add_block] at this | exact this) GW331.out)) | (show (Addr.add _ _).block ≠ _; rw [add_block]; exact Nat.ne_of_lt (Nat.lt_of_lt_of_le (by have := World.block_lt_of_cell? _ _ hw325_1; first | rwa [add_block] at this | exact this) GW331.out)) | (dsimp only; exact Nat.ne_of_lt (Nat.lt_of_lt_of_le (by have := World.block_lt_of_cell? _ _ hw325_1; first | rwa [add_block] at this | exact this) GW331.out))) _).trans (((cell_far (p := ⟨gb331, _, none⟩) (by first | exact Nat.ne_of_lt (Nat.lt_of_lt_of_le (by have := World.block_lt_of_cell? _ _ hw325_1; first | rwa [add_block] at this | exact this) GW331.out) | (rw [add_block]; exact Nat.ne_of_lt (Nat.lt_of_lt_of_le (by have := World.block_lt_of_cell? _ _ hw325_1; first | rwa [add_block] at this | exact this) GW331.out)) | (show (Addr.add _ _).block ≠ _; rw [add_block]; exact Nat.ne_of_lt (Nat.lt_of_lt_of_le (by have := World.block_lt_of_cell? _ _ hw325_1; first | rwa [add_block] at this | exact this) GW331.out)) | (dsimp only; exact Nat.ne_of_lt (Nat.lt_of_lt_of_le (by have := World.block_lt_of_cell? _ _ hw325_1; first | rwa [add_block] at this | exact this) GW331.out))) _).trans (hHeld.2.2.2.2.2.2.1)))))), ((cell_far (p := ⟨gb331, _, none⟩) (by first | exact Nat.ne_of_lt (Nat.lt_of_lt_of_le (by have := World.block_lt_of_cell? _ _ hw325_2; first | rwa [add_block] at this | exact this) GW331.out) | (rw [add_block]; exact Nat.ne_of_lt (Nat.lt_of_lt_of_le (by have := World.block_lt_of_cell? _ _ hw325_2; first | rwa [add_block] at this | exact this) GW331.out)) | (show (Addr.add _ _).block ≠ _; rw [add_block]; exact Nat.ne_of_lt (Nat.lt_of_lt_of_le (by have := World.block_lt_of_cell? _ _ hw325_2; first | rwa [add_block] at this | exact this) GW331.out)) | (dsimp only; exact Nat.ne_of_lt (Nat.lt_of_lt_of_le (by have := World.block_lt_of_cell? _ _ hw325_2; first | rwa [add_block] at this | exact this) GW331.out))) _).trans (((cell_far (p := ⟨gb331, _, none⟩) (by first | exact Nat.ne_of_lt (Nat.lt_of_lt_of_le (by have := World.block_lt_of_cell? _ _ hw325_2; first | rwa [add_block] at this | exact this) GW331.out) | (rw [add_block]; exact Nat.ne_of_lt (Nat.lt_of_lt_of_le (by have := World.block_lt_of_cell? _ _ hw325_2; first | rwa [add_block] at this | exact this) GW331.out)) | (show (Addr.add _ _).block ≠ _; rw [add_block]; exact Nat.ne_of_lt (Nat.lt_of_lt_of_le (by have := World.block_lt_of_cell? _ _ hw325_2; first | rwa [add_block] at this | exact this) GW331.out)) | (dsimp only; exact Nat.ne_of_lt (Nat.lt_of_lt_of_le (by have := World.block_lt_of_cell? _ _ hw325_2; first | rwa [add_block] at this | exact this) GW331.out))) _).trans (((cell_far (p := ⟨gb331, _, none⟩) (by first | exact Nat.ne_of_lt (Nat.lt_of_lt_of_le (by have := World.block_lt_of_cell? _ _ hw325_2; first | rwa [add_block] at this | exact this) GW331.out) | (rw [add_block]; exact Nat.ne_of_lt (Nat.lt_of_lt_of_le (by have := World.block_lt_of_cell? _ _ hw325_2; first | rwa [add_block] at this | exact this) GW331.out)) | (show (Addr.add _ _).block ≠ _; rw [add_block]; exact Nat.ne_of_lt (Nat.lt_of_lt_of_le (by have := World.block_lt_of_cell? _ _ hw325_2; first | rwa [add_block] at this | exact this) GW331.out)) | (dsimp only; exact Nat.ne_of_lt (Nat.lt_of_lt_of_le (by have := World.block_lt_of_cell? _ _ hw325_2; first | rwa [add_block] at this | exact this) GW331.out))) _).trans (hHeld.2.2.2.2.2.2.2.1)))))), ((cell_far (p := ⟨gb331, _, none⟩) (by first | exact Nat.ne_of_lt (Nat.lt_of_lt_of_le (by have := World.block_lt_of_cell? _ _ hw325_3; first | rwa [add_block] at this | exact this) GW331.out) | (rw [add_block]; exact Nat.ne_of_lt (Nat.lt_of_lt_of_le (by have := World.block_lt_of_cell? _ _ hw325_3; first | rwa [add_block] at this | exact this) GW331.out)) | (show (Addr.add _ _).block ≠ _; rw [add_block]; exact Nat.ne_of_lt (Nat.lt_of_lt_of_le (by have := World.block_lt_of_cell? _ _ hw325_3; first | rwa [add_block] at this | exact this) GW331.out)) | (dsimp only; exact Nat.ne_of_lt (Nat.lt_of_lt_of_le (by have := World.block_lt_of_cell? _ _ hw325_3; first | rwa [add_block] at this | exact this) GW331.out))) _).trans (((cell_far (p := ⟨gb331, _, none⟩) (by first | exact Nat.ne_of_lt (Nat.lt_of_lt_of_le (by have := World.block_lt_of_cell? _ _ hw325_3; first | rwa [add_block] at this | exact this) GW331.out) | (rw [add_block]; exact Nat.ne_of_lt (Nat.lt_of_lt_of_le (by have := World.block_lt_of_cell? _ _ hw325_3; first | rwa [add_block] at this | exact this) GW331.out)) | (show (Addr.add _ _).block ≠ _; rw [add_block]; exact Nat.ne_of_lt (Nat.lt_of_lt_of_le (by have := World.block_lt_of_cell? _ _ hw325_3; first | rwa [add_block] at this | exact this) GW331.out)) | (dsimp only; exact Nat.ne_of_lt (Nat.lt_of_lt_of_le (by have := World.block_lt_of_cell? _ _ hw325_3; first | rwa [add_block] at this | exact this) GW331.out))) _).trans (((cell_far (p := ⟨gb331, _, none⟩) (by first | exact Nat.ne_of_lt (Nat.lt_of_lt_of_le (by have := World.block_lt_of_cell? _ _ hw325_3; first | rwa [add_block] at this | exact this) GW331.out) | (rw [add_block]; exact Nat.ne_of_lt (Nat.lt_of_lt_of_le (by have := World.block_lt_of_cell? _ _ hw325_3; first | rwa [add_block] at this | exact this) GW331.out)) | (show (Addr.add _ _).block ≠ _; rw [add_block]; exact Nat.ne_of_lt (Nat.lt_of_lt_of_le (by have := World.block_lt_of_cell? _ _ hw325_3; first | rwa [add_block] at this | exact this) GW331.out)) | (dsimp only; exact Nat.ne_of_lt (Nat.lt_of_lt_of_le (by have := World.block_lt_of_cell? _ _ hw325_3; first | rwa [add_block] at this | exact this) GW331.out))) _).trans (hHeld.2.2.2.2.2.2.2.2.1)))))), ((cell_far (p := ⟨gb331, _, none⟩) (by first | exact Nat.ne_of_lt (Nat.lt_of_lt_of_le (by have := World.block_lt_of_cell? _ _ hw325_4; first | rwa [add_block] at this | exact this) GW331.out) | (rw [add_block]; exact Nat.ne_of_lt (Nat.lt_of_lt_of_le (by have := World.block_lt_of_cell? _ _ hw325_4; first | rwa [add_block] at this | exact this) GW331.out)) | (show (Addr.add _ _).block ≠ _; rw [add_block]; exact Nat.ne_of_lt (Nat.lt_of_lt_of_le (by have := World.block_lt_of_cell? _ _ hw325_4; first | rwa [add_block] at this | exact this) GW331.out)) | (dsimp only; exact Nat.ne_of_lt (Nat.lt_of_lt_of_le (by have := World.block_lt_of_cell? _ _ hw325_4; first | rwa [add_block] at this | exact this) GW331.out))) _).trans (((cell_far (p := ⟨gb331, _, none⟩) (by first | exact Nat.ne_of_lt (Nat.lt_of_lt_of_le (by have := World.block_lt_of_cell? _ _ hw325_4; first | rwa [add_block] at this | exact this) GW331.out) | (rw [add_block]; exact Nat.ne_of_lt (Nat.lt_of_lt_of_le (by have := World.block_lt_of_cell? _ _ hw325_4; first | rwa [add_block] at this | exact this) GW331.out)) | (show (Addr.add _ _).block ≠ _; rw [add_block]; exact Nat.ne_of_lt (Nat.lt_of_lt_of_le (by have := World.block_lt_of_cell? _ _ hw325_4; first | rwa [add_block] at this | exact this) GW331.out)) | (dsimp only; exact Nat.ne_of_lt (Nat.lt_of_lt_of_le (by have := World.block_lt_of_cell? _ _ hw325_4; first | rwa [add_block] at this | exact this) GW331.out))) _).trans (((cell_far (p := ⟨gb331, _, none⟩) (by first | exact Nat.ne_of_lt (Nat.lt_of_lt_of_le (by have := World.block_lt_of_cell? _ _ hw325_4; first | rwa [add_block] at this | exact this) GW331.out) | (rw [add_block]; exact Nat.ne_of_lt (Nat.lt_of_lt_of_le (by have := World.block_lt_of_cell? _ _ hw325_4; first | rwa [add_block] at this | exact this) GW331.out)) | (show (Addr.add _ _).block ≠ _; rw [add_block]; exact Nat.ne_of_lt (Nat.lt_of_lt_of_le (by have := World.block_lt_of_cell? _ _ hw325_4; first | rwa [add_block] at this | exact this) GW331.out)) | (dsimp only; exact Nat.ne_of_lt (Nat.lt_of_lt_of_le (by have := World.block_lt_of_cell? _ _ hw325_4; first | rwa [add_block] at this | exact this) GW331.out))) _).trans (hHeld.2.2.2.2.2.2.2.2.2.1)))))), ((cell_far (p := ⟨gb331, _, none⟩) (by first | exact Nat.ne_of_lt (Nat.lt_of_lt_of_le (by have := World.block_lt_of_cell? _ _ hw325_5; first | rwa [add_block] at this | exact this) GW331.out) | (rw [add_block]; exact Nat.ne_of_lt (Nat.lt_of_lt_of_le (by have := World.block_lt_of_cell? _ _ hw325_5; first | rwa [add_block] at this | exact this) GW331.out)) | (show (Addr.add _ _).block ≠ _; rw [add_block]; exact Nat.ne_of_lt (Nat.lt_of_lt_of_le (by have := World.block_lt_of_cell? _ _ hw325_5; first | rwa [add_block] at this | exact this) GW331.out)) | (dsimp only; exact Nat.ne_of_lt (Nat.lt_of_lt_of_le (by have := World.block_lt_of_cell? _ _ hw325_5; first | rwa [add_block] at this | exact this) GW331.out))) _).trans (((cell_far (p := ⟨gb331, _, none⟩) (by first | exact Nat.ne_of_lt (Nat.lt_of_lt_of_le (by have := World.block_lt_of_cell? _ _ hw325_5; first | rwa [add_block] at this | exact this) GW331.out) | (rw [add_block]; exact Nat.ne_of_lt (Nat.lt_of_lt_of_le (by have := World.block_lt_of_cell? _ _ hw325_5; first | rwa [add_block] at this | exact this) GW331.out)) | (show (Addr.add _ _).block ≠ _; rw [add_block]; exact Nat.ne_of_lt (Nat.lt_of_lt_of_le (by have := World.block_lt_of_cell? _ _ hw325_5; first | rwa [add_block] at this | exact this) GW331.out)) | (dsimp only; exact Nat.ne_of_lt (Nat.lt_of_lt_of_le (by have := World.block_lt_of_cell? _ _ hw325_5; first | rwa [add_block] at this | exact this) GW331.out))) _).trans (((cell_far (p := ⟨gb331, _, none⟩) (by first | exact Nat.ne_of_lt (Nat.lt_of_lt_of_le (by have := World.block_lt_of_cell? _ _ hw325_5; first | rwa [add_block] at this | exact this) GW331.out) | (rw [add_block]; exact Nat.ne_of_lt (Nat.lt_of_lt_of_le (by have := World.block_lt_of_cell? _ _ hw325_5; first | rwa [add_block] at this | exact this) GW331.out)) | (show (Addr.add _ _).block ≠ _; rw [add_block]; exact Nat.ne_of_lt (Nat.lt_of_lt_of_le (by have := World.block_lt_of_cell? _ _ hw325_5; first | rwa [add_block] at this | exact this) GW331.out)) | (dsimp only; exact Nat.ne_of_lt (Nat.lt_of_lt_of_le (by have := World.block_lt_of_cell? _ _ hw325_5; first | rwa [add_block] at this | exact this) GW331.out))) _).trans (hHeld.2.2.2.2.2.2.2.2.2.2.1)))))), ((cell_far (p := ⟨gb331, _, none⟩) (by first | exact Nat.ne_of_lt (Nat.lt_of_lt_of_le (by have := World.block_lt_of_cell? _ _ hw325_6; first | rwa [add_block] at this | exact this) GW331.out) | (rw [add_block]; exact Nat.ne_of_lt (Nat.lt_of_lt_of_le (by have := World.block_lt_of_cell? _ _ hw325_6; first | rwa [add_block] at this | exact this) GW331.out)) | (show (Addr.add _ _).block ≠ _; rw [add_block]; exact Nat.ne_of_lt (Nat.lt_of_lt_of_le (by have := World.block_lt_of_cell? _ _ hw325_6; first | rwa [add_block] at this | exact this) GW331.out)) | (dsimp only; exact Nat.ne_of_lt (Nat.lt_of_lt_of_le (by have := World.block_lt_of_cell? _ _ hw325_6; first | rwa [add_block] at this | exact this) GW331.out))) _).trans (((cell_far (p := ⟨gb331, _, none⟩) (by first | exact Nat.ne_of_lt (Nat.lt_of_lt_of_le (by have := World.block_lt_of_cell? _ _ hw325_6; first | rwa [add_block] at this | exact this) GW331.out) | (rw [add_block]; exact Nat.ne_of_lt (Nat.lt_of_lt_of_le (by have := World.block_lt_of_cell? _ _ hw325_6; first | rwa [add_block] at this | exact this) GW331.out)) | (show (Addr.add _ _).block ≠ _; rw [add_block]; exact Nat.ne_of_lt (Nat.lt_of_lt_of_le (by have := World.block_lt_of_cell? _ _ hw325_6; first | rwa [add_block] at this | exact this) GW331.out)) | (dsimp only; exact Nat.ne_of_lt (Nat.lt_of_lt_of_le (by have := World.block_lt_of_cell? _ _ hw325_6; first | rwa [add_block] at this | exact this) GW331.out))) _).trans (((cell_far (p := ⟨gb331, _, none⟩) (by first | exact Nat.ne_of_lt (Nat.lt_of_lt_of_le (by have := World.block_lt_of_cell? _ _ hw325_6; first | rwa [add_block] at this | exact this) GW331.out) | (rw [add_block]; exact Nat.ne_of_lt (Nat.lt_of_lt_of_le (by have := World.block_lt_of_cell? _ _ hw325_6; first | rwa [add_block] at this | exact this) GW331.out)) | (show (Addr.add _ _).block ≠ _; rw [add_block]; exact Nat.ne_of_lt (Nat.lt_of_lt_of_le (by have := World.block_lt_of_cell? _ _ hw325_6; first | rwa [add_block] at this | exact this) GW331.out)) | (dsimp only; exact Nat.ne_of_lt (Nat.lt_of_lt_of_le (by have := World.block_lt_of_cell? _ _ hw325_6; first | rwa [add_block] at this | exact this) GW331.out))) _).trans (hHeld.2.2.2.2.2.2.2.2.2.2.2.1)))))), ((cell_far (p := ⟨gb331, _, none⟩) (by first | exact Nat.ne_of_lt (Nat.lt_of_lt_of_le (by have := World.block_lt_of_cell? _ _ hw325_7; first | rwa [add_block] at this | exact this) GW331.out) | (rw [add_block]; exact Nat.ne_of_lt (Nat.lt_of_lt_of_le (by have := World.block_lt_of_cell? _ _ hw325_7; first | rwa [add_block] at this | exact this) GW331.out)) | (show (Addr.add _ _).block ≠ _; rw [add_block]; exact Nat.ne_of_lt (Nat.lt_of_lt_of_le (by have := World.block_lt_of_cell? _ _ hw325_7; first | rwa [add_block] at this | exact this) GW331.out)) | (dsimp only; exact Nat.ne_of_lt (Nat.lt_of_lt_of_le (by have := World.block_lt_of_cell? _ _ hw325_7; first | rwa [add_block] at this | exact this) GW331.out))) _).trans (((cell_far (p := ⟨gb331, _, none⟩) (by first | exact Nat.ne_of_lt (Nat.lt_of_lt_of_le (by have := World.block_lt_of_cell? _ _ hw325_7; first | rwa [add_block] at this | exact this) GW331.out) | (rw [add_block]; exact Nat.ne_of_lt (Nat.lt_of_lt_of_le (by have := World.block_lt_of_cell? _ _ hw325_7; first | rwa [add_block] at this | exact this) GW331.out)) | (show (Addr.add _ _).block ≠ _; rw [add_block]; exact Nat.ne_of_lt (Nat.lt_of_lt_of_le (by have := World.block_lt_of_cell? _ _ hw325_7; first | rwa [add_block] at this | exact this) GW331.out)) | (dsimp only; exact Nat.ne_of_lt (Nat.lt_of_lt_of_le (by have := World.block_lt_of_cell? _ _ hw325_7; first | rwa [add_block] at this | exact this) GW331.out))) _).trans (((cell_far (p := ⟨gb331, _, none⟩) (by first | exact Nat.ne_of_lt (Nat.lt_of_lt_of_le (by have := World.block_lt_of_cell? _ _ hw325_7; first | rwa [add_block] at this | exact this) GW331.out) | (rw [add_block]; exact Nat.ne_of_lt (Nat.lt_of_lt_of_le (by have := World.block_lt_of_cell? _ _ hw325_7; first | rwa [add_block] at this | exact this) GW331.out)) | (show (Addr.add _ _).block ≠ _; rw [add_block]; exact Nat.ne_of_lt (Nat.lt_of_lt_of_le (by have := World.block_lt_of_cell? _ _ hw325_7; first | rwa [add_block] at this | exact this) GW331.out)) | (dsimp only; exact Nat.ne_of_lt (Nat.lt_of_lt_of_le (by have := World.block_lt_of_cell? _ _ hw325_7; first | rwa [add_block] at this | exact this) GW331.out))) _).trans (hHeld.2.2.2.2.2.2.2.2.2.2.2.2))))))⟩ (fun hHeld => ?_)
               clear hK K
               refine yP HT_ 16 12 (tB 131071 18) rfl rfl ?_
               refine yP HT_ 17 13 (tB 262143 18) rfl rfl ?_
               refine done_ (done_of HT_.out (by kernel_rfl)) ?_
               have hnb36 := NB331_318.out
               have hnc36 := NB318_331.out
               obtain ⟨hcz37_0, hcz37_1, hcz37_2, hfz37_0, hfz37_1, hfz37_2⟩ := cells3 BK331.out
               try go_wp2_with (first | ((with_reducible refine gate_builtin (b := .append) (xs := #[.tmp 72, .tmp 74]) rfl ?_); at_builtin; refine Kd.R_append k52 (w0 := w) w.heap.size rfl (.tmp 72) (.tmp 74) 25 52 (.agg #[(.int .i64 0), (.int .i64 0), (.string ⟨#[]⟩)]) 32 rfl Tryd.underlying25 info52 rfl (by decide) (by omega) u9 x9_2 (⟨t326, t327, t328⟩ : S52) [.int .i64 t326, .int .i64 t327, .string t328] (fun k_ => k_ ≠ gb331) (fun _ => False) rfl (by first | (go_simp; done) | (go_simp; rfl)) ?aP (fun _ hk => hk.elim) ?aF ?aO ?aB ?aS ?aL ?_; (case aP => exact k52_mkM _ _ _ (⟨t326, t327, t328⟩ : S52)); (case aB => exact (yG2 HB GE318.out GE331.out)); (case aF => exact (fun k_ hk => Kd.freshB (g := gb331) (o := .cells #[.int .i64 t326, .int .i64 t327, .string t328] 52 (0, 0)) (puts3 BK331.out) k_ hk)); (case aO => exact (by (with_reducible repeat (first | apply Kd.R_alloc | apply Kd.R_drewN | apply Kd.R_drew)); exact Kd.R_mono (Kd.R_far (p := ⟨gb331, 2, none⟩) (Kd.R_far (p := ⟨gb331, 1, none⟩) (Kd.R_far (p := ⟨gb331, 0, none⟩) (Kd.R_mono HO_9.out (fun k_ hk => (⟨hk, hk⟩ : _ ∧ k_ ≠ gb331))) (fun _ hk => hk.2) (.int .i64 t326)) (fun _ hk => hk.2) (.int .i64 t327)) (fun _ hk => hk.2) (.string t328)) (fun _ hk => hk.1))); (case aS => exact (bZ (yG2 HB GE318.out GE331.out))); (case aL => have := LMc28.out; omega); intro v333 w38 ho hb hg hat; rw [← Ny332.out] at ho; have n0_ := aM (blk_grown (g := gb318) (o := .cells #[.int .i64 a0_0, .string a0_1, .int .i64 a0_2, .int .i64 a0_3, .slice (some ad325) l0_4.length c0_4] 24 (0, 0)) (yF1 BK318 NB318_331.out) hg (Kd.R_ne HO_9.out BK318.out (by decide))); have n1_ := aM (blk_grown (g := gb331) (o := .cells #[.int .i64 t326, .int .i64 t327, .string t328] 52 (0, 0)) (puts3 BK331.out) hg (Kd.R_away HO_9.out (fun _ hk => hk))); have n2_ := aM (hb); have n3_ := aM (ho); clear BK318; clear BK331; clear HB; clear HO_9; have BK318 := n0_; have BK331 := n1_; have HB := n2_; have HO334 := n3_; clear n0_ n1_ n2_ n3_; clear ho hb hg hat))
               go_roundg k2
               case measure => have := HK1.out; have := HK2.out; omega
               case rel => exact ⟨(wrap64 (x7_2 + t329)), (y332), (wrap64 (x10_2 + 1)), yS, yS, H', ⟨by have := HK1.out; have := HK2.out; omega⟩, ⟨by (with_reducible repeat (first | apply Kd.R_alloc | apply Kd.R_drewN | apply Kd.R_drew)); exact Kd.R_mono HO334.out (fun _ hk => trivial)⟩, ⟨yK BK318⟩, ⟨yG2 HB GE318.out GE331.out⟩⟩
              ·
               rw [if_neg c28] at H
               exact absurd H (by simp)
             ·
              rw [if_neg c27] at H
              have c27b0 : (t330 == 0) = false := beq_eq_false_iff_ne.mpr c27
              have c27b1 : (t330 != 0) = true := bne_iff_ne.mpr c27
              simp only [Option.some.injEq, Prod.mk.injEq] at H
              obtain ⟨rfl, rfl⟩ := H
              try go_wp2_with (first | ((with_reducible refine gate_callee (f := 86) rfl ?_); refine yC 42 Tryd.func86 #[.string a1, .int .i64 x10_2] rfl ?_; (with_reducible refine (haulageref12_bit.calls k2 a1 x10_2 t320 _ A12.out).mono ?_); rintro e w' ⟨rfl, ⟨nd, rfl⟩⟩; refine ⟨_, rfl, ?_⟩; (try (rw [drewN_self wr]; generalize hq_ : World.drewN wr _ = wr; have n0_ : Aside0 (Kd.R k52 52 wr w.heap.size (fun _ => True) u9 x9_2) := ⟨by rw [← hq_]; exact (yR HO_9.out)⟩; have n1_ : Aside0 (wr.heap[gb318]? = some (.cells #[.int .i64 a0_0, .string a0_1, .int .i64 a0_2, .int .i64 a0_3, .slice A0_4 l0_4.length c0_4] 24 (0, 0))) := ⟨by rw [← hq_]; exact (yK BK318)⟩; have n2_ : Aside0 (Below w.heap.size w wr) := ⟨by rw [← hq_]; exact (yG1 HB GE318.out)⟩; clear HO_9 BK318 HB hq_; have HO_9 := n0_; have BK318 := n1_; have HB := n2_; clear n0_ n1_ n2_))))
              have n0_ := aM (Kd.R_drew HO_9.out)
              have n1_ := aM (kD BK318.out)
              have n2_ := aM (b1 HB.out)
              clear HO_9
              clear BK318
              clear HB
              have HO_9 := n0_
              have BK318 := n1_
              have HB := n2_
              clear n0_ n1_ n2_
              have p325 : 0 ≤ (x10_2 : Int) := oD yA
              have q325 : x10_2 < (l0_4.length : Int) := oD yA
              obtain ⟨ad325, e325, hx325_0, hx325_1, hx325_2, hx325_3, hx325_4, hx325_5, hx325_6, hx325_7⟩ := at_T54 HR0_4.out x10_2 p325 q325
              have hw325_7 := hx325_7
              have hw325_6 := hx325_6
              have hw325_5 := hx325_5
              have hw325_4 := hx325_4
              have hw325_3 := hx325_3
              have hw325_2 := hx325_2
              have hw325_1 := hx325_1
              have hw325_0 := hx325_0
              cases e325
              replace hx325_0 := pw_cell_below HB.out hx325_0
              replace hx325_1 := pw_cell_below HB.out hx325_1
              replace hx325_2 := pw_cell_below HB.out hx325_2
              replace hx325_3 := pw_cell_below HB.out hx325_3
              replace hx325_4 := pw_cell_below HB.out hx325_4
              replace hx325_5 := pw_cell_below HB.out hx325_5
              replace hx325_6 := pw_cell_below HB.out hx325_6
              replace hx325_7 := pw_cell_below HB.out hx325_7
              replace p325 := eq_true p325
              replace q325 := eq_true q325
              refine start_ (n := 18) (S := fun w' => w'.cell? ⟨gb318, 0, none⟩ = some (.int .i64 a0_0) ∧ w'.cell? ⟨gb318, 1, none⟩ = some (.string a0_1) ∧ w'.cell? ⟨gb318, 2, none⟩ = some (.int .i64 a0_2) ∧ w'.cell? ⟨gb318, 3, none⟩ = some (.int .i64 a0_3) ∧ w'.cell? ⟨gb318, 4, none⟩ = some (.slice (some ad325) l0_4.length c0_4) ∧ w'.cell? (ad325.add ((x10_2).toNat * 8)) = some (.int .i64 ((rd_T54 l0_4 x10_2).f0)) ∧ w'.cell? ⟨(ad325.add ((x10_2).toNat * 8)).block, (ad325.add ((x10_2).toNat * 8)).off + 1, none⟩ = some (.string ((rd_T54 l0_4 x10_2).f1)) ∧ w'.cell? ⟨(ad325.add ((x10_2).toNat * 8)).block, (ad325.add ((x10_2).toNat * 8)).off + 2, none⟩ = some (.int .i64 ((rd_T54 l0_4 x10_2).f2.f0)) ∧ w'.cell? ⟨(ad325.add ((x10_2).toNat * 8)).block, (ad325.add ((x10_2).toNat * 8)).off + 3, none⟩ = some (.int .i64 ((rd_T54 l0_4 x10_2).f2.f1)) ∧ w'.cell? ⟨(ad325.add ((x10_2).toNat * 8)).block, (ad325.add ((x10_2).toNat * 8)).off + 4, none⟩ = some (.bool ((rd_T54 l0_4 x10_2).f3)) ∧ w'.cell? ⟨(ad325.add ((x10_2).toNat * 8)).block, (ad325.add ((x10_2).toNat * 8)).off + 5, none⟩ = some (.int .i64 ((rd_T54 l0_4 x10_2).f4.f0)) ∧ w'.cell? ⟨(ad325.add ((x10_2).toNat * 8)).block, (ad325.add ((x10_2).toNat * 8)).off + 6, none⟩ = some (.int .i64 ((rd_T54 l0_4 x10_2).f4.f1)) ∧ w'.cell? ⟨(ad325.add ((x10_2).toNat * 8)).block, (ad325.add ((x10_2).toNat * 8)).off + 7, none⟩ = some (.string ((rd_T54 l0_4 x10_2).f4.f2))) (ds := []) (tB 0 18) (by kernel_rfl) rfl rfl ⟨yV BK318 0, yV BK318 1, yV BK318 2, yV BK318 3, yV BK318 4, (pw_cell_below HB.out hw325_0), (pw_cell_below HB.out hw325_1), (pw_cell_below HB.out hw325_2), (pw_cell_below HB.out hw325_3), (pw_cell_below HB.out hw325_4), (pw_cell_below HB.out hw325_5), (pw_cell_below HB.out hw325_6), (pw_cell_below HB.out hw325_7)⟩ (fun hHeld => ?_); refine with_tabW haulageref12_Decode.tab18 haulageref12_Decode.bits18 (fun HT_ HW_ => ?_)
              generalize wr.drew = w39 at HO_9 BK318 HB hx325_0 hx325_1 hx325_2 hx325_3 hx325_4 hx325_5 hx325_6 hx325_7 hHeld ⊢
              refine yP HT_ 0 56 (tB 1 18) rfl rfl ?_
              refine yP HT_ 2 58 (tB 5 18) rfl rfl ?_
              refine yP HT_ 6 62 (tB 69 18) rfl rfl ?_
              refine yP HT_ 7 63 (tB 197 18) rfl rfl ?_
              refine yP HT_ 8 64 (tB 453 18) rfl rfl ?_
              refine yT HT_ HW_ 1 57 (tB 455 18) rfl rfl hHeld ?_
              refine yP HT_ 3 59 (tB 463 18) rfl rfl ?_
              refine yP HT_ 4 60 (tB 479 18) rfl rfl ?_
              refine yT HT_ HW_ 5 61 (tB 511 18) rfl rfl hHeld ?_
              refine join_ (σ := Nat) 3 #[true, true, true, true, true, true, true, true, true, true, true, true, true, true, true, false, false, false] (fun s_ => [(65, .tuple #[.agg #[.int .i64 t326, .int .i64 t327, .string t328], .int .i64 t329, .int .i64 t330]), (11, .pointer (some ⟨s_, 0, none⟩)), (55, .tuple #[.agg #[.int .i64 t326, .int .i64 t327, .string t328], .int .i64 t329, .int .i64 t330]), (66, .agg #[.int .i64 t326, .int .i64 t327, .string t328]), (67, .int .i64 t329), (68, .int .i64 t330)]) (fun s_ w' => (w'.cell? ⟨gb318, 0, none⟩ = some (.int .i64 a0_0) ∧ w'.cell? ⟨gb318, 1, none⟩ = some (.string a0_1) ∧ w'.cell? ⟨gb318, 2, none⟩ = some (.int .i64 a0_2) ∧ w'.cell? ⟨gb318, 3, none⟩ = some (.int .i64 a0_3) ∧ w'.cell? ⟨gb318, 4, none⟩ = some (.slice (some ad325) l0_4.length c0_4) ∧ w'.cell? (ad325.add ((x10_2).toNat * 8)) = some (.int .i64 ((rd_T54 l0_4 x10_2).f0)) ∧ w'.cell? ⟨(ad325.add ((x10_2).toNat * 8)).block, (ad325.add ((x10_2).toNat * 8)).off + 1, none⟩ = some (.string ((rd_T54 l0_4 x10_2).f1)) ∧ w'.cell? ⟨(ad325.add ((x10_2).toNat * 8)).block, (ad325.add ((x10_2).toNat * 8)).off + 2, none⟩ = some (.int .i64 ((rd_T54 l0_4 x10_2).f2.f0)) ∧ w'.cell? ⟨(ad325.add ((x10_2).toNat * 8)).block, (ad325.add ((x10_2).toNat * 8)).off + 3, none⟩ = some (.int .i64 ((rd_T54 l0_4 x10_2).f2.f1)) ∧ w'.cell? ⟨(ad325.add ((x10_2).toNat * 8)).block, (ad325.add ((x10_2).toNat * 8)).off + 4, none⟩ = some (.bool ((rd_T54 l0_4 x10_2).f3)) ∧ w'.cell? ⟨(ad325.add ((x10_2).toNat * 8)).block, (ad325.add ((x10_2).toNat * 8)).off + 5, none⟩ = some (.int .i64 ((rd_T54 l0_4 x10_2).f4.f0)) ∧ w'.cell? ⟨(ad325.add ((x10_2).toNat * 8)).block, (ad325.add ((x10_2).toNat * 8)).off + 6, none⟩ = some (.int .i64 ((rd_T54 l0_4 x10_2).f4.f1)) ∧ w'.cell? ⟨(ad325.add ((x10_2).toNat * 8)).block, (ad325.add ((x10_2).toNat * 8)).off + 7, none⟩ = some (.string ((rd_T54 l0_4 x10_2).f4.f2))) ∧ (Kd.R k52 52 w' w.heap.size (fun k_ => k_ ≠ s_) u9 x9_2) ∧ (w'.heap[gb318]? = some (.cells #[.int .i64 a0_0, .string a0_1, .int .i64 a0_2, .int .i64 a0_3, .slice (some ad325) l0_4.length c0_4] 24 (0, 0))) ∧ (w'.heap[s_]? = some (.cells #[.int .i64 0, .int .i64 0, .string (⟨#[]⟩ : ByteArray)] 52 (0, 0))) ∧ (w.heap.size ≤ s_) ∧ (w.heap.size ≤ s_) ∧ (gb318 ≠ s_) ∧ (s_ ≠ gb318) ∧ (Below w.heap.size w w')) ?_ ?_
              rotate_left
              ·
               intro hCont
               refine two_ (i := 9) (j := 14) (Ni := some 65) (Nj := some 11) (tB 1023 18) (tB 16895 18) rfl rfl rfl rfl (two_of HT_.out (by kernel_rfl)) (by decide) (by decide) (fun K hK => ?_) (fun K hK => ?_)
               ·
                skip
                refine yc Tryd.func87 #[.agg #[.int .i64 ((rd_T54 l0_4 x10_2).f2.f0), .int .i64 ((rd_T54 l0_4 x10_2).f2.f1)], .string (a1.extract (x7_2 : Int).toNat a1.size)] rfl rfl ?_
                with_reducible refine (haulageref12_read.calls k2 ((rd_T54 l0_4 x10_2).f2.f0) ((rd_T54 l0_4 x10_2).f2.f1) (a1.extract (x7_2 : Int).toNat a1.size) t326 t327 t328 t329 t330 _ A26.out).mono ?_
                rintro e w40 ⟨rfl, hb⟩
                refine ⟨_, rfl, ?_⟩
                have n0_ := aM (Kd.R_below (yR HO_9.out) hb)
                have n1_ := aM (kB (yK BK318) hb)
                have n2_ := aM (bP (yG1 HB GE318.out) hb)
                clear HO_9
                clear BK318
                clear HB
                have HO_9 := n0_
                have BK318 := n1_
                have HB := n2_
                clear n0_ n1_ n2_
                (try clear hb)
                (try clear hb2)
                (try clear hk)
                (try clear hi)
                refine hK.out _ _ ⟨yV BK318 0, yV BK318 1, yV BK318 2, yV BK318 3, yV BK318 4, (pw_cell_below HB.out hw325_0), (pw_cell_below HB.out hw325_1), (pw_cell_below HB.out hw325_2), (pw_cell_below HB.out hw325_3), (pw_cell_below HB.out hw325_4), (pw_cell_below HB.out hw325_5), (pw_cell_below HB.out hw325_6), (pw_cell_below HB.out hw325_7)⟩ (fun hHeld => ?_)
                clear hK K
                refine norm_ (a' := ?_) ?_ ?_
                rotate_left
                ·
                 show Act.put _ (some 65) _ = _
                 simp only [Act.put, s1_, s2_, s3_, i64_w, i32_w]
                 rfl
                refine yP HT_ 10 55 (tB 2047 18) rfl rfl ?_
                refine yP HT_ 11 66 (tB 4095 18) rfl rfl ?_
                refine yP HT_ 12 67 (tB 8191 18) rfl rfl ?_
                refine yP HT_ 13 68 (tB 16383 18) rfl rfl ?_
                refine yI HT_ 14 (tB 32767 18) rfl rfl fun K hK => ?_
                refine box_step ?hg (N := 11) ?hd (cs := #[.int .i64 0, .int .i64 0, .string (⟨#[]⟩ : ByteArray)]) (t := 52) ?hr ?_; (case hd => rfl); (case hg => rfl); (case hr => first | (go_simp; done) | (go_simp; rfl))
                intro gb331 hg w41 hbox hb
                have n0_ := aM (Kd.R_below (Kd.R_elderB (yR HO_9.out) gb331 (Nat.le_of_eq hg.symm)) hb)
                have n1_ := aM (kB (yK BK318) hb)
                have n2_ := aM (bP (yG1 HB GE318.out) hb)
                have n3_ := aM (hbox)
                have n4_ := yZ hg (yG1 HB GE318.out)
                have n5_ := yZ hg (yG1 HB GE318.out)
                have n6_ := yN hg (yK BK318)
                have n7_ := yM hg (yK BK318)
                clear HO_9
                clear BK318
                clear HB
                have HO_9 := n0_
                have BK318 := n1_
                have HB := n2_
                have BK331 := n3_
                have GW331 := n4_
                have GE331 := n5_
                have NB318_331 := n6_
                have NB331_318 := n7_
                clear n0_ n1_ n2_ n3_ n4_ n5_ n6_ n7_
                clear hb hbox hg
                refine hK.out _ _ ⟨yV BK318 0, yV BK318 1, yV BK318 2, yV BK318 3, yV BK318 4, (pw_cell_below HB.out hw325_0), (pw_cell_below HB.out hw325_1), (pw_cell_below HB.out hw325_2), (pw_cell_below HB.out hw325_3), (pw_cell_below HB.out hw325_4), (pw_cell_below HB.out hw325_5), (pw_cell_below HB.out hw325_6), (pw_cell_below HB.out hw325_7)⟩ (fun hHeld => ?_)
                clear hK K
                refine norm_ (a' := ?_) ?_ ?_
                rotate_left
                ·
                 show Act.put _ (some 11) _ = _
                 simp only [Act.put, s1_, s2_, s3_, i64_w, i32_w]
                 rfl
                exact norm_ (by simp only [putAll, Act.put, s1_, s2_, s3_]) (hCont (gb331) _ ⟨hHeld, (by (with_reducible repeat (first | apply Kd.R_alloc | apply Kd.R_drewN | apply Kd.R_drew)); exact Kd.R_mono HO_9.out (fun _ hk => hk.2)), (yK BK318), (yK BK331), GW331.out, GE331.out, NB318_331.out, NB331_318.out, (yG2 HB GE318.out GE331.out)⟩)
               ·
                skip
                refine box_step ?hg (N := 11) ?hd (cs := #[.int .i64 0, .int .i64 0, .string (⟨#[]⟩ : ByteArray)]) (t := 52) ?hr ?_; (case hd => rfl); (case hg => rfl); (case hr => first | (go_simp; done) | (go_simp; rfl))
                intro gb331 hg w40 hbox hb
                have n0_ := aM (Kd.R_below (Kd.R_elderB (yR HO_9.out) gb331 (Nat.le_of_eq hg.symm)) hb)
                have n1_ := aM (kB (yK BK318) hb)
                have n2_ := aM (bP (yG1 HB GE318.out) hb)
                have n3_ := aM (hbox)
                have n4_ := yZ hg (yG1 HB GE318.out)
                have n5_ := yZ hg (yG1 HB GE318.out)
                have n6_ := yN hg (yK BK318)
                have n7_ := yM hg (yK BK318)
                clear HO_9
                clear BK318
                clear HB
                have HO_9 := n0_
                have BK318 := n1_
                have HB := n2_
                have BK331 := n3_
                have GW331 := n4_
                have GE331 := n5_
                have NB318_331 := n6_
                have NB331_318 := n7_
                clear n0_ n1_ n2_ n3_ n4_ n5_ n6_ n7_
                clear hb hbox hg
                refine hK.out _ _ ⟨yV BK318 0, yV BK318 1, yV BK318 2, yV BK318 3, yV BK318 4, (pw_cell_below HB.out hw325_0), (pw_cell_below HB.out hw325_1), (pw_cell_below HB.out hw325_2), (pw_cell_below HB.out hw325_3), (pw_cell_below HB.out hw325_4), (pw_cell_below HB.out hw325_5), (pw_cell_below HB.out hw325_6), (pw_cell_below HB.out hw325_7)⟩ (fun hHeld => ?_)
                clear hK K
                refine norm_ (a' := ?_) ?_ ?_
                rotate_left
                ·
                 show Act.put _ (some 11) _ = _
                 simp only [Act.put, s1_, s2_, s3_, i64_w, i32_w]
                 rfl
                refine yI HT_ 9 (tB 17407 18) rfl rfl fun K hK => ?_
                refine yc Tryd.func87 #[.agg #[.int .i64 ((rd_T54 l0_4 x10_2).f2.f0), .int .i64 ((rd_T54 l0_4 x10_2).f2.f1)], .string (a1.extract (x7_2 : Int).toNat a1.size)] rfl rfl ?_
                with_reducible refine (haulageref12_read.calls k2 ((rd_T54 l0_4 x10_2).f2.f0) ((rd_T54 l0_4 x10_2).f2.f1) (a1.extract (x7_2 : Int).toNat a1.size) t326 t327 t328 t329 t330 _ A26.out).mono ?_
                rintro e w41 ⟨rfl, hb⟩
                refine ⟨_, rfl, ?_⟩
                have n0_ := aM (Kd.R_below (yR HO_9.out) hb)
                have n1_ := aM (kB (yK BK318) hb)
                have n2_ := aM (kB (yK BK331) hb)
                have n3_ := aM (bP (yG2 HB GE318.out GE331.out) hb)
                clear HO_9
                clear BK318
                clear BK331
                clear HB
                have HO_9 := n0_
                have BK318 := n1_
                have BK331 := n2_
                have HB := n3_
                clear n0_ n1_ n2_ n3_
                (try clear hb)
                (try clear hb2)
                (try clear hk)
                (try clear hi)
                refine hK.out _ _ ⟨yV BK318 0, yV BK318 1, yV BK318 2, yV BK318 3, yV BK318 4, (pw_cell_below HB.out hw325_0), (pw_cell_below HB.out hw325_1), (pw_cell_below HB.out hw325_2), (pw_cell_below HB.out hw325_3), (pw_cell_below HB.out hw325_4), (pw_cell_below HB.out hw325_5), (pw_cell_below HB.out hw325_6), (pw_cell_below HB.out hw325_7)⟩ (fun hHeld => ?_)
                clear hK K
                refine norm_ (a' := ?_) ?_ ?_
                rotate_left
                ·
                 show Act.put _ (some 65) _ = _
                 simp only [Act.put, s1_, s2_, s3_, i64_w, i32_w]
                 rfl
                refine yP HT_ 10 55 (tB 18431 18) rfl rfl ?_
                refine yP HT_ 11 66 (tB 20479 18) rfl rfl ?_
                refine yP HT_ 12 67 (tB 24575 18) rfl rfl ?_
                refine yP HT_ 13 68 (tB 32767 18) rfl rfl ?_
                exact norm_ (by simp only [putAll, Act.put, s1_, s2_, s3_]) (hCont (gb331) _ ⟨hHeld, (by (with_reducible repeat (first | apply Kd.R_alloc | apply Kd.R_drewN | apply Kd.R_drew)); exact Kd.R_mono HO_9.out (fun _ hk => hk.2)), (yK BK318), (yK BK331), GW331.out, GE331.out, NB318_331.out, NB331_318.out, (yG2 HB GE318.out GE331.out)⟩)
              rintro gb331 w42 ⟨hS_, h0_, h1_, h2_, h3_, h4_, h5_, h6_, h7_⟩
              have n0_ : Aside0 (Kd.R k52 52 w42 w.heap.size (fun k_ => k_ ≠ gb331) u9 x9_2) := ⟨h0_⟩
              have n1_ : Aside0 (w42.heap[gb318]? = some (.cells #[.int .i64 a0_0, .string a0_1, .int .i64 a0_2, .int .i64 a0_3, .slice (some ad325) l0_4.length c0_4] 24 (0, 0))) := ⟨h1_⟩
              have n2_ : Aside0 (w42.heap[gb331]? = some (.cells #[.int .i64 0, .int .i64 0, .string (⟨#[]⟩ : ByteArray)] 52 (0, 0))) := ⟨h2_⟩
              have n3_ : Aside0 (w.heap.size ≤ gb331) := ⟨h3_⟩
              have n4_ : Aside0 (w.heap.size ≤ gb331) := ⟨h4_⟩
              have n5_ : Aside0 (gb318 ≠ gb331) := ⟨h5_⟩
              have n6_ : Aside0 (gb331 ≠ gb318) := ⟨h6_⟩
              have n7_ : Aside0 (Below w.heap.size w w42) := ⟨h7_⟩
              clear HO_9
              clear BK318
              clear HB
              clear h0_ h1_ h2_ h3_ h4_ h5_ h6_ h7_
              have HO_9 := n0_
              have BK318 := n1_
              have BK331 := n2_
              have GW331 := n3_
              have GE331 := n4_
              have NB318_331 := n5_
              have NB331_318 := n6_
              have HB := n7_
              clear n0_ n1_ n2_ n3_ n4_ n5_ n6_ n7_
              have hHeld : w42.cell? ⟨gb318, 0, none⟩ = some (.int .i64 a0_0) ∧ w42.cell? ⟨gb318, 1, none⟩ = some (.string a0_1) ∧ w42.cell? ⟨gb318, 2, none⟩ = some (.int .i64 a0_2) ∧ w42.cell? ⟨gb318, 3, none⟩ = some (.int .i64 a0_3) ∧ w42.cell? ⟨gb318, 4, none⟩ = some (.slice (some ad325) l0_4.length c0_4) ∧ w42.cell? (ad325.add ((x10_2).toNat * 8)) = some (.int .i64 ((rd_T54 l0_4 x10_2).f0)) ∧ w42.cell? ⟨(ad325.add ((x10_2).toNat * 8)).block, (ad325.add ((x10_2).toNat * 8)).off + 1, none⟩ = some (.string ((rd_T54 l0_4 x10_2).f1)) ∧ w42.cell? ⟨(ad325.add ((x10_2).toNat * 8)).block, (ad325.add ((x10_2).toNat * 8)).off + 2, none⟩ = some (.int .i64 ((rd_T54 l0_4 x10_2).f2.f0)) ∧ w42.cell? ⟨(ad325.add ((x10_2).toNat * 8)).block, (ad325.add ((x10_2).toNat * 8)).off + 3, none⟩ = some (.int .i64 ((rd_T54 l0_4 x10_2).f2.f1)) ∧ w42.cell? ⟨(ad325.add ((x10_2).toNat * 8)).block, (ad325.add ((x10_2).toNat * 8)).off + 4, none⟩ = some (.bool ((rd_T54 l0_4 x10_2).f3)) ∧ w42.cell? ⟨(ad325.add ((x10_2).toNat * 8)).block, (ad325.add ((x10_2).toNat * 8)).off + 5, none⟩ = some (.int .i64 ((rd_T54 l0_4 x10_2).f4.f0)) ∧ w42.cell? ⟨(ad325.add ((x10_2).toNat * 8)).block, (ad325.add ((x10_2).toNat * 8)).off + 6, none⟩ = some (.int .i64 ((rd_T54 l0_4 x10_2).f4.f1)) ∧ w42.cell? ⟨(ad325.add ((x10_2).toNat * 8)).block, (ad325.add ((x10_2).toNat * 8)).off + 7, none⟩ = some (.string ((rd_T54 l0_4 x10_2).f4.f2)) := hS_
              refine norm_ (a' := ?_) ?_ ?_
              rotate_left
              ·
               simp only [putAll, Act.put, s1_, s2_, s3_]
               rfl
              refine yI HT_ 15 (tB 65535 18) rfl rfl fun K hK => ?_
              have hs43 : w42.cell? ⟨gb331, 0, none⟩ = some (.int .i64 0) := (blk_cell BK331.out 0).trans rfl
              have hfs43 := blk_frozen BK331.out 0
              have hns43_0 := NB318_331.out
              have hms43_0 := NB331_318.out
              have hs44 : w42.cell? ⟨gb331, 1, none⟩ = some (.int .i64 0) := (blk_cell BK331.out 1).trans rfl
              have hfs44 := blk_frozen BK331.out 1
              have hns44_0 := NB318_331.out
              have hms44_0 := NB331_318.out
              have hs45 : w42.cell? ⟨gb331, 2, none⟩ = some (.string (⟨#[]⟩ : ByteArray)) := (blk_cell BK331.out 2).trans rfl
              have hfs45 := blk_frozen BK331.out 2
              have hns45_0 := NB318_331.out
              have hms45_0 := NB331_318.out
              refine skip_ (w1 := ?_) (by rfl) rfl ?_ ?_
              rotate_left
              ·
               go_simp
               rfl
              refine hK.out _ _ ⟨((cell_far (p := ⟨gb331, _, none⟩) NB318_331.out _).trans (((cell_far (p := ⟨gb331, _, none⟩) NB318_331.out _).trans (((cell_far (p := ⟨gb331, _, none⟩) NB318_331.out _).trans (hHeld.1)))))), ((cell_far (p := ⟨gb331, _, none⟩) NB318_331.out _).trans (((cell_far (p := ⟨gb331, _, none⟩) NB318_331.out _).trans (((cell_far (p := ⟨gb331, _, none⟩) NB318_331.out _).trans (hHeld.2.1)))))), ((cell_far (p := ⟨gb331, _, none⟩) NB318_331.out _).trans (((cell_far (p := ⟨gb331, _, none⟩) NB318_331.out _).trans (((cell_far (p := ⟨gb331, _, none⟩) NB318_331.out _).trans (hHeld.2.2.1)))))), ((cell_far (p := ⟨gb331, _, none⟩) NB318_331.out _).trans (((cell_far (p := ⟨gb331, _, none⟩) NB318_331.out _).trans (((cell_far (p := ⟨gb331, _, none⟩) NB318_331.out _).trans (hHeld.2.2.2.1)))))), ((cell_far (p := ⟨gb331, _, none⟩) NB318_331.out _).trans (((cell_far (p := ⟨gb331, _, none⟩) NB318_331.out _).trans (((cell_far (p := ⟨gb331, _, none⟩) NB318_331.out _).trans (hHeld.2.2.2.2.1)))))), ((cell_far (p := ⟨gb331, _, none⟩) (by first | exact Nat.ne_of_lt (Nat.lt_of_lt_of_le (by have := World.block_lt_of_cell? _ _ hw325_0; first | rwa [add_block] at this | exact this) GW331.out) | (rw [add_block]; exact Nat.ne_of_lt (Nat.lt_of_lt_of_le (by have := World.block_lt_of_cell? _ _ hw325_0; first | rwa [add_block] at this | exact this) GW331.out)) | (show (Addr.add _ _).block ≠ _; rw [add_block]; exact Nat.ne_of_lt (Nat.lt_of_lt_of_le (by have := World.block_lt_of_cell? _ _ hw325_0; first | rwa [add_block] at this | exact this) GW331.out)) | (dsimp only; exact Nat.ne_of_lt (Nat.lt_of_lt_of_le (by have := World.block_lt_of_cell? _ _ hw325_0; first | rwa [add_block] at this | exact this) GW331.out))) _).trans (((cell_far (p := ⟨gb331, _, none⟩) (by first | exact Nat.ne_of_lt (Nat.lt_of_lt_of_le (by have := World.block_lt_of_cell? _ _ hw325_0; first | rwa [add_block] at this | exact this) GW331.out) | (rw [add_block]; exact Nat.ne_of_lt (Nat.lt_of_lt_of_le (by have := World.block_lt_of_cell? _ _ hw325_0; first | rwa [add_block] at this | exact this) GW331.out)) | (show (Addr.add _ _).block ≠ _; rw [add_block]; exact Nat.ne_of_lt (Nat.lt_of_lt_of_le (by have := World.block_lt_of_cell? _ _ hw325_0; first | rwa [add_block] at this | exact this) GW331.out)) | (dsimp only; exact Nat.ne_of_lt (Nat.lt_of_lt_of_le (by have := World.block_lt_of_cell? _ _ hw325_0; first | rwa [add_block] at this | exact this) GW331.out))) _).trans (((cell_far (p := ⟨gb331, _, none⟩) (by first | exact Nat.ne_of_lt (Nat.lt_of_lt_of_le (by have := World.block_lt_of_cell? _ _ hw325_0; first | rwa [add_block] at this | exact this) GW331.out) | (rw [add_block]; exact Nat.ne_of_lt (Nat.lt_of_lt_of_le (by have := World.block_lt_of_cell? _ _ hw325_0; first | rwa [add_block] at this | exact this) GW331.out)) | (show (Addr.add _ _).block ≠ _; rw [add_block]; exact Nat.ne_of_lt (Nat.lt_of_lt_of_le (by have := World.block_lt_of_cell? _ _ hw325_0; first | rwa [add_block] at this | exact this) GW331.out)) | (dsimp only; exact Nat.ne_of_lt (Nat.lt_of_lt_of_le (by have := World.block_lt_of_cell? _ _ hw325_0; first | rwa [add_block] at this | exact this) GW331.out))) _).trans (hHeld.2.2.2.2.2.1)))))), ((cell_far (p := ⟨gb331, _, none⟩) (by first | exact Nat.ne_of_lt (Nat.lt_of_lt_of_le (by have := World.block_lt_of_cell? _ _ hw325_1; first | rwa [add_block] at this | exact this) GW331.out) | (rw [add_block]; exact Nat.ne_of_lt (Nat.lt_of_lt_of_le (by have := World.block_lt_of_cell? _ _ hw325_1; first | rwa [add_block] at this | exact this) GW331.out)) | (show (Addr.add _ _).block ≠ _; rw [add_block]; exact Nat.ne_of_lt (Nat.lt_of_lt_of_le (by have := World.block_lt_of_cell? _ _ hw325_1; first | rwa [add_block] at this | exact this) GW331.out)) | (dsimp only; exact Nat.ne_of_lt (Nat.lt_of_lt_of_le (by have := World.block_lt_of_cell? _ _ hw325_1; first | rwa [add_block] at this | exact this) GW331.out))) _).trans (((cell_far (p := ⟨gb331, _, none⟩) (by first | exact Nat.ne_of_lt (Nat.lt_of_lt_of_le (by have := World.block_lt_of_cell? _ _ hw325_1; first | rwa [add_block] at this | exact this) GW331.out) | (rw [add_block]; exact Nat.ne_of_lt (Nat.lt_of_lt_of_le (by have := World.block_lt_of_cell? _ _ hw325_1; first | rwa [add_block] at this | exact this) GW331.out)) | (show (Addr.add _ _).block ≠ _; rw [add_block]; exact Nat.ne_of_lt (Nat.lt_of_lt_of_le (by have := World.block_lt_of_cell? _ _ hw325_1; first | rwa [add_block] at this | exact this) GW331.out)) | (dsimp only; exact Nat.ne_of_lt (Nat.lt_of_lt_of_le (by have := World.block_lt_of_cell? _ _ hw325_1; first | rwa [add_block] at this | exact this) GW331.out))) _).trans (((cell_far (p := ⟨gb331, _, none⟩) (by first | exact Nat.ne_of_lt (Nat.lt_of_lt_of_le (by have := World.block_lt_of_cell? _ _ hw325_1; first | rwa [add_block] at this | exact this) GW331.out) | (rw [add_block]; exact Nat.ne_of_lt (Nat.lt_of_lt_of_le (by have := World.block_lt_of_cell? _ _ hw325_1; first | rwa [add_block] at this | exact this) GW331.out)) | (show (Addr.add _ _).block ≠ _; rw [add_block]; exact Nat.ne_of_lt (Nat.lt_of_lt_of_le (by have := World.block_lt_of_cell? _ _ hw325_1; first | rwa [add_block] at this | exact this) GW331.out)) | (dsimp only; exact Nat.ne_of_lt (Nat.lt_of_lt_of_le (by have := World.block_lt_of_cell? _ _ hw325_1; first | rwa [add_block] at this | exact this) GW331.out))) _).trans (hHeld.2.2.2.2.2.2.1)))))), ((cell_far (p := ⟨gb331, _, none⟩) (by first | exact Nat.ne_of_lt (Nat.lt_of_lt_of_le (by have := World.block_lt_of_cell? _ _ hw325_2; first | rwa [add_block] at this | exact this) GW331.out) | (rw [add_block]; exact Nat.ne_of_lt (Nat.lt_of_lt_of_le (by have := World.block_lt_of_cell? _ _ hw325_2; first | rwa [add_block] at this | exact this) GW331.out)) | (show (Addr.add _ _).block ≠ _; rw [add_block]; exact Nat.ne_of_lt (Nat.lt_of_lt_of_le (by have := World.block_lt_of_cell? _ _ hw325_2; first | rwa [add_block] at this | exact this) GW331.out)) | (dsimp only; exact Nat.ne_of_lt (Nat.lt_of_lt_of_le (by have := World.block_lt_of_cell? _ _ hw325_2; first | rwa [add_block] at this | exact this) GW331.out))) _).trans (((cell_far (p := ⟨gb331, _, none⟩) (by first | exact Nat.ne_of_lt (Nat.lt_of_lt_of_le (by have := World.block_lt_of_cell? _ _ hw325_2; first | rwa [add_block] at this | exact this) GW331.out) | (rw [add_block]; exact Nat.ne_of_lt (Nat.lt_of_lt_of_le (by have := World.block_lt_of_cell? _ _ hw325_2; first | rwa [add_block] at this | exact this) GW331.out)) | (show (Addr.add _ _).block ≠ _; rw [add_block]; exact Nat.ne_of_lt (Nat.lt_of_lt_of_le (by have := World.block_lt_of_cell? _ _ hw325_2; first | rwa [add_block] at this | exact this) GW331.out)) | (dsimp only; exact Nat.ne_of_lt (Nat.lt_of_lt_of_le (by have := World.block_lt_of_cell? _ _ hw325_2; first | rwa [add_block] at this | exact this) GW331.out))) _).trans (((cell_far (p := ⟨gb331, _, none⟩) (by first | exact Nat.ne_of_lt (Nat.lt_of_lt_of_le (by have := World.block_lt_of_cell? _ _ hw325_2; first | rwa [add_block] at this | exact this) GW331.out) | (rw [add_block]; exact Nat.ne_of_lt (Nat.lt_of_lt_of_le (by have := World.block_lt_of_cell? _ _ hw325_2; first | rwa [add_block] at this | exact this) GW331.out)) | (show (Addr.add _ _).block ≠ _; rw [add_block]; exact Nat.ne_of_lt (Nat.lt_of_lt_of_le (by have := World.block_lt_of_cell? _ _ hw325_2; first | rwa [add_block] at this | exact this) GW331.out)) | (dsimp only; exact Nat.ne_of_lt (Nat.lt_of_lt_of_le (by have := World.block_lt_of_cell? _ _ hw325_2; first | rwa [add_block] at this | exact this) GW331.out))) _).trans (hHeld.2.2.2.2.2.2.2.1)))))), ((cell_far (p := ⟨gb331, _, none⟩) (by first | exact Nat.ne_of_lt (Nat.lt_of_lt_of_le (by have := World.block_lt_of_cell? _ _ hw325_3; first | rwa [add_block] at this | exact this) GW331.out) | (rw [add_block]; exact Nat.ne_of_lt (Nat.lt_of_lt_of_le (by have := World.block_lt_of_cell? _ _ hw325_3; first | rwa [add_block] at this | exact this) GW331.out)) | (show (Addr.add _ _).block ≠ _; rw [add_block]; exact Nat.ne_of_lt (Nat.lt_of_lt_of_le (by have := World.block_lt_of_cell? _ _ hw325_3; first | rwa [add_block] at this | exact this) GW331.out)) | (dsimp only; exact Nat.ne_of_lt (Nat.lt_of_lt_of_le (by have := World.block_lt_of_cell? _ _ hw325_3; first | rwa [add_block] at this | exact this) GW331.out))) _).trans (((cell_far (p := ⟨gb331, _, none⟩) (by first | exact Nat.ne_of_lt (Nat.lt_of_lt_of_le (by have := World.block_lt_of_cell? _ _ hw325_3; first | rwa [add_block] at this | exact this) GW331.out) | (rw [add_block]; exact Nat.ne_of_lt (Nat.lt_of_lt_of_le (by have := World.block_lt_of_cell? _ _ hw325_3; first | rwa [add_block] at this | exact this) GW331.out)) | (show (Addr.add _ _).block ≠ _; rw [add_block]; exact Nat.ne_of_lt (Nat.lt_of_lt_of_le (by have := World.block_lt_of_cell? _ _ hw325_3; first | rwa [add_block] at this | exact this) GW331.out)) | (dsimp only; exact Nat.ne_of_lt (Nat.lt_of_lt_of_le (by have := World.block_lt_of_cell? _ _ hw325_3; first | rwa [add_block] at this | exact this) GW331.out))) _).trans (((cell_far (p := ⟨gb331, _, none⟩) (by first | exact Nat.ne_of_lt (Nat.lt_of_lt_of_le (by have := World.block_lt_of_cell? _ _ hw325_3; first | rwa [add_block] at this | exact this) GW331.out) | (rw [add_block]; exact Nat.ne_of_lt (Nat.lt_of_lt_of_le (by have := World.block_lt_of_cell? _ _ hw325_3; first | rwa [add_block] at this | exact this) GW331.out)) | (show (Addr.add _ _).block ≠ _; rw [add_block]; exact Nat.ne_of_lt (Nat.lt_of_lt_of_le (by have := World.block_lt_of_cell? _ _ hw325_3; first | rwa [add_block] at this | exact this) GW331.out)) | (dsimp only; exact Nat.ne_of_lt (Nat.lt_of_lt_of_le (by have := World.block_lt_of_cell? _ _ hw325_3; first | rwa [add_block] at this | exact this) GW331.out))) _).trans (hHeld.2.2.2.2.2.2.2.2.1)))))), ((cell_far (p := ⟨gb331, _, none⟩) (by first | exact Nat.ne_of_lt (Nat.lt_of_lt_of_le (by have := World.block_lt_of_cell? _ _ hw325_4; first | rwa [add_block] at this | exact this) GW331.out) | (rw [add_block]; exact Nat.ne_of_lt (Nat.lt_of_lt_of_le (by have := World.block_lt_of_cell? _ _ hw325_4; first | rwa [add_block] at this | exact this) GW331.out)) | (show (Addr.add _ _).block ≠ _; rw [add_block]; exact Nat.ne_of_lt (Nat.lt_of_lt_of_le (by have := World.block_lt_of_cell? _ _ hw325_4; first | rwa [add_block] at this | exact this) GW331.out)) | (dsimp only; exact Nat.ne_of_lt (Nat.lt_of_lt_of_le (by have := World.block_lt_of_cell? _ _ hw325_4; first | rwa [add_block] at this | exact this) GW331.out))) _).trans (((cell_far (p := ⟨gb331, _, none⟩) (by first | exact Nat.ne_of_lt (Nat.lt_of_lt_of_le (by have := World.block_lt_of_cell? _ _ hw325_4; first | rwa [add_block] at this | exact this) GW331.out) | (rw [add_block]; exact Nat.ne_of_lt (Nat.lt_of_lt_of_le (by have := World.block_lt_of_cell? _ _ hw325_4; first | rwa [add_block] at this | exact this) GW331.out)) | (show (Addr.add _ _).block ≠ _; rw [add_block]; exact Nat.ne_of_lt (Nat.lt_of_lt_of_le (by have := World.block_lt_of_cell? _ _ hw325_4; first | rwa [add_block] at this | exact this) GW331.out)) | (dsimp only; exact Nat.ne_of_lt (Nat.lt_of_lt_of_le (by have := World.block_lt_of_cell? _ _ hw325_4; first | rwa [add_block] at this | exact this) GW331.out))) _).trans (((cell_far (p := ⟨gb331, _, none⟩) (by first | exact Nat.ne_of_lt (Nat.lt_of_lt_of_le (by have := World.block_lt_of_cell? _ _ hw325_4; first | rwa [add_block] at this | exact this) GW331.out) | (rw [add_block]; exact Nat.ne_of_lt (Nat.lt_of_lt_of_le (by have := World.block_lt_of_cell? _ _ hw325_4; first | rwa [add_block] at this | exact this) GW331.out)) | (show (Addr.add _ _).block ≠ _; rw [add_block]; exact Nat.ne_of_lt (Nat.lt_of_lt_of_le (by have := World.block_lt_of_cell? _ _ hw325_4; first | rwa [add_block] at this | exact this) GW331.out)) | (dsimp only; exact Nat.ne_of_lt (Nat.lt_of_lt_of_le (by have := World.block_lt_of_cell? _ _ hw325_4; first | rwa [add_block] at this | exact this) GW331.out))) _).trans (hHeld.2.2.2.2.2.2.2.2.2.1)))))), ((cell_far (p := ⟨gb331, _, none⟩) (by first | exact Nat.ne_of_lt (Nat.lt_of_lt_of_le (by have := World.block_lt_of_cell? _ _ hw325_5; first | rwa [add_block] at this | exact this) GW331.out) | (rw [add_block]; exact Nat.ne_of_lt (Nat.lt_of_lt_of_le (by have := World.block_lt_of_cell? _ _ hw325_5; first | rwa [add_block] at this | exact this) GW331.out)) | (show (Addr.add _ _).block ≠ _; rw [add_block]; exact Nat.ne_of_lt (Nat.lt_of_lt_of_le (by have := World.block_lt_of_cell? _ _ hw325_5; first | rwa [add_block] at this | exact this) GW331.out)) | (dsimp only; exact Nat.ne_of_lt (Nat.lt_of_lt_of_le (by have := World.block_lt_of_cell? _ _ hw325_5; first | rwa [add_block] at this | exact this) GW331.out))) _).trans (((cell_far (p := ⟨gb331, _, none⟩) (by first | exact Nat.ne_of_lt (Nat.lt_of_lt_of_le (by have := World.block_lt_of_cell? _ _ hw325_5; first | rwa [add_block] at this | exact this) GW331.out) | (rw [add_block]; exact Nat.ne_of_lt (Nat.lt_of_lt_of_le (by have := World.block_lt_of_cell? _ _ hw325_5; first | rwa [add_block] at this | exact this) GW331.out)) | (show (Addr.add _ _).block ≠ _; rw [add_block]; exact Nat.ne_of_lt (Nat.lt_of_lt_of_le (by have := World.block_lt_of_cell? _ _ hw325_5; first | rwa [add_block] at this | exact this) GW331.out)) | (dsimp only; exact Nat.ne_of_lt (Nat.lt_of_lt_of_le (by have := World.block_lt_of_cell? _ _ hw325_5; first | rwa [add_block] at this | exact this) GW331.out))) _).trans (((cell_far (p := ⟨gb331, _, none⟩) (by first | exact Nat.ne_of_lt (Nat.lt_of_lt_of_le (by have := World.block_lt_of_cell? _ _ hw325_5; first | rwa [add_block] at this | exact this) GW331.out) | (rw [add_block]; exact Nat.ne_of_lt (Nat.lt_of_lt_of_le (by have := World.block_lt_of_cell? _ _ hw325_5; first | rwa [add_block] at this | exact this) GW331.out)) | (show (Addr.add _ _).block ≠ _; rw [add_block]; exact Nat.ne_of_lt (Nat.lt_of_lt_of_le (by have := World.block_lt_of_cell? _ _ hw325_5; first | rwa [add_block] at this | exact this) GW331.out)) | (dsimp only; exact Nat.ne_of_lt (Nat.lt_of_lt_of_le (by have := World.block_lt_of_cell? _ _ hw325_5; first | rwa [add_block] at this | exact this) GW331.out))) _).trans (hHeld.2.2.2.2.2.2.2.2.2.2.1)))))), ((cell_far (p := ⟨gb331, _, none⟩) (by first | exact Nat.ne_of_lt (Nat.lt_of_lt_of_le (by have := World.block_lt_of_cell? _ _ hw325_6; first | rwa [add_block] at this | exact this) GW331.out) | (rw [add_block]; exact Nat.ne_of_lt (Nat.lt_of_lt_of_le (by have := World.block_lt_of_cell? _ _ hw325_6; first | rwa [add_block] at this | exact this) GW331.out)) | (show (Addr.add _ _).block ≠ _; rw [add_block]; exact Nat.ne_of_lt (Nat.lt_of_lt_of_le (by have := World.block_lt_of_cell? _ _ hw325_6; first | rwa [add_block] at this | exact this) GW331.out)) | (dsimp only; exact Nat.ne_of_lt (Nat.lt_of_lt_of_le (by have := World.block_lt_of_cell? _ _ hw325_6; first | rwa [add_block] at this | exact this) GW331.out))) _).trans (((cell_far (p := ⟨gb331, _, none⟩) (by first | exact Nat.ne_of_lt (Nat.lt_of_lt_of_le (by have := World.block_lt_of_cell? _ _ hw325_6; first | rwa [add_block] at this | exact this) GW331.out) | (rw [add_block]; exact Nat.ne_of_lt (Nat.lt_of_lt_of_le (by have := World.block_lt_of_cell? _ _ hw325_6; first | rwa [add_block] at this | exact this) GW331.out)) | (show (Addr.add _ _).block ≠ _; rw [add_block]; exact Nat.ne_of_lt (Nat.lt_of_lt_of_le (by have := World.block_lt_of_cell? _ _ hw325_6; first | rwa [add_block] at this | exact this) GW331.out)) | (dsimp only; exact Nat.ne_of_lt (Nat.lt_of_lt_of_le (by have := World.block_lt_of_cell? _ _ hw325_6; first | rwa [add_block] at this | exact this) GW331.out))) _).trans (((cell_far (p := ⟨gb331, _, none⟩) (by first | exact Nat.ne_of_lt (Nat.lt_of_lt_of_le (by have := World.block_lt_of_cell? _ _ hw325_6; first | rwa [add_block] at this | exact this) GW331.out) | (rw [add_block]; exact Nat.ne_of_lt (Nat.lt_of_lt_of_le (by have := World.block_lt_of_cell? _ _ hw325_6; first | rwa [add_block] at this | exact this) GW331.out)) | (show (Addr.add _ _).block ≠ _; rw [add_block]; exact Nat.ne_of_lt (Nat.lt_of_lt_of_le (by have := World.block_lt_of_cell? _ _ hw325_6; first | rwa [add_block] at this | exact this) GW331.out)) | (dsimp only; exact Nat.ne_of_lt (Nat.lt_of_lt_of_le (by have := World.block_lt_of_cell? _ _ hw325_6; first | rwa [add_block] at this | exact this) GW331.out))) _).trans (hHeld.2.2.2.2.2.2.2.2.2.2.2.1)))))), ((cell_far (p := ⟨gb331, _, none⟩) (by first | exact Nat.ne_of_lt (Nat.lt_of_lt_of_le (by have := World.block_lt_of_cell? _ _ hw325_7; first | rwa [add_block] at this | exact this) GW331.out) | (rw [add_block]; exact Nat.ne_of_lt (Nat.lt_of_lt_of_le (by have := World.block_lt_of_cell? _ _ hw325_7; first | rwa [add_block] at this | exact this) GW331.out)) | (show (Addr.add _ _).block ≠ _; rw [add_block]; exact Nat.ne_of_lt (Nat.lt_of_lt_of_le (by have := World.block_lt_of_cell? _ _ hw325_7; first | rwa [add_block] at this | exact this) GW331.out)) | (dsimp only; exact Nat.ne_of_lt (Nat.lt_of_lt_of_le (by have := World.block_lt_of_cell? _ _ hw325_7; first | rwa [add_block] at this | exact this) GW331.out))) _).trans (((cell_far (p := ⟨gb331, _, none⟩) (by first | exact Nat.ne_of_lt (Nat.lt_of_lt_of_le (by have := World.block_lt_of_cell? _ _ hw325_7; first | rwa [add_block] at this | exact this) GW331.out) | (rw [add_block]; exact Nat.ne_of_lt (Nat.lt_of_lt_of_le (by have := World.block_lt_of_cell? _ _ hw325_7; first | rwa [add_block] at this | exact this) GW331.out)) | (show (Addr.add _ _).block ≠ _; rw [add_block]; exact Nat.ne_of_lt (Nat.lt_of_lt_of_le (by have := World.block_lt_of_cell? _ _ hw325_7; first | rwa [add_block] at this | exact this) GW331.out)) | (dsimp only; exact Nat.ne_of_lt (Nat.lt_of_lt_of_le (by have := World.block_lt_of_cell? _ _ hw325_7; first | rwa [add_block] at this | exact this) GW331.out))) _).trans (((cell_far (p := ⟨gb331, _, none⟩) (by first | exact Nat.ne_of_lt (Nat.lt_of_lt_of_le (by have := World.block_lt_of_cell? _ _ hw325_7; first | rwa [add_block] at this | exact this) GW331.out) | (rw [add_block]; exact Nat.ne_of_lt (Nat.lt_of_lt_of_le (by have := World.block_lt_of_cell? _ _ hw325_7; first | rwa [add_block] at this | exact this) GW331.out)) | (show (Addr.add _ _).block ≠ _; rw [add_block]; exact Nat.ne_of_lt (Nat.lt_of_lt_of_le (by have := World.block_lt_of_cell? _ _ hw325_7; first | rwa [add_block] at this | exact this) GW331.out)) | (dsimp only; exact Nat.ne_of_lt (Nat.lt_of_lt_of_le (by have := World.block_lt_of_cell? _ _ hw325_7; first | rwa [add_block] at this | exact this) GW331.out))) _).trans (hHeld.2.2.2.2.2.2.2.2.2.2.2.2))))))⟩ (fun hHeld => ?_)
              clear hK K
              refine yP HT_ 16 12 (tB 131071 18) rfl rfl ?_
              refine yP HT_ 17 13 (tB 262143 18) rfl rfl ?_
              refine done_ (done_of HT_.out (by kernel_rfl)) ?_
              try go_wp2
              go_ret2
              exact ⟨_, yE, by first | exact Kd.R_nil _ _ _ _ _ | exact Kd.N_nil _ _ _ _ _ | exact Kd.V_nil _ _ _ _ _ | exact Kd.Q_nil _ _ _ _ _ | exact Kd.S_nil _ _ _ _ _, yG2 HB GE318.out GE331.out⟩
            ·
             rw [if_neg c25] at H
             exact absurd H (by simp)
           ·
            rw [if_neg c24] at H
            exact absurd H (by simp)
          ·
           rw [if_neg c23] at H
           exact absurd H (by simp)
         ·
          rw [if_neg c22] at H
          exact absurd H (by simp)
       ·
        rw [if_neg c11] at H
        have c11b0 : decide (x10_2 < (l0_4.length : Int)) = false := decide_eq_false c11
        clear c11
        by_cases c46 : x7_2 < (a1.size : Int)
        ·
         rw [if_pos c46] at H
         have c46b0 : decide (x7_2 < (a1.size : Int)) = true := decide_eq_true c46
         clear c46
         simp only [Option.some.injEq, Prod.mk.injEq] at H
         obtain ⟨rfl, rfl⟩ := H
         go_wp2
         go_ret2
         exact ⟨_, yE, by first | exact Kd.R_nil _ _ _ _ _ | exact Kd.N_nil _ _ _ _ _ | exact Kd.V_nil _ _ _ _ _ | exact Kd.Q_nil _ _ _ _ _ | exact Kd.S_nil _ _ _ _ _, yG1 HB GE318.out⟩
        ·
         rw [if_neg c46] at H
         have c46b0 : decide (x7_2 < (a1.size : Int)) = false := decide_eq_false c46
         clear c46
         simp only [Option.some.injEq, Prod.mk.injEq] at H
         obtain ⟨rfl, rfl⟩ := H
         go_wp2
         go_ret2
         exact ⟨_, yE, yR HO_9.out, yG1 HB GE318.out⟩
end Go.Proofs.YtdeophpjammbpaaDoor.HRowcodeDecodes

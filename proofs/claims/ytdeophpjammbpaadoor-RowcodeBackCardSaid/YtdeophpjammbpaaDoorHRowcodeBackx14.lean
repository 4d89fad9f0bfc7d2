/- For Go functions that RowcodeBack reaches: Lean functions, and walks that show that each call comes to what its Lean function tells; no condition but those that each theorem states. (Made by a program of this session over the kit's print.py.) -/
import Derived.Test.YtdeophpjammbpaaDoorHRowcodeBackx0
import Derived.Test.YtdeophpjammbpaaDoorHRowcodeBackx1
import Derived.Test.YtdeophpjammbpaaDoorHRowcodeBackx11
import Derived.Test.YtdeophpjammbpaaDoorHRowcodeBackx13
namespace Go.Proofs.YtdeophpjammbpaaDoor.HRowcodeBack
open Go.RowKit Go.Proofs.YtdeophpjammbpaaDoorW.PrintWords Go.Proofs.YtdeophpjammbpaaDoorW.PrintLast Go.Proofs.YtdeophpjammbpaaDoorW.PrintMore
attribute [local go_sem] max2_int min2_int max_two min_two max_three min_three max_four min_four   -- for this text's walks alone
set_option linter.unusedVariables false
set_option linter.unusedSimpArgs false
attribute [local go_sem] hp_s8 hp_s16 hp_s32 hp_s64 hp_m8 hp_m16 hp_m32 hp_m64
attribute [local go_sem high] eqA52
/-! ### haulageref08_Row: function 17 -/
def haulageref08_Row.l0 : Nat → List (S52) → Int → Int → ByteArray → Int → Int → List (S54) → Option (Int)
 | 0, _, _, _, _, _, _, _ => none
 | k + 1, x1, x5, x279000, x279001, x279002, x279003, x279004 => if x5 < (x1.length : Int) then (if 0 ≤ x5 then (if (((rd_T52 x1 x5).f0) == 0 && (((rd_T52 x1 x5).f1) == 0 && ((((rd_T52 x1 x5).f2).toList) == ([] : List UInt8)))) = true then (if x5 < (x279004.length : Int) then (if ((rd_T54 x279004 x5).f3 = true) then (haulageref08_Row.l0 k x1 (wrap64 (x5 + 1)) x279000 x279001 x279002 x279003 x279004) else (some 11)) else (none)) else (if x5 < (x279004.length : Int) then ((haulageref06_Fits.f k ((rd_T54 x279004 x5).f2.f0) ((rd_T54 x279004 x5).f2.f1) ((rd_T52 x1 x5).f0) ((rd_T52 x1 x5).f1) ((rd_T52 x1 x5).f2)).bind fun t284 => (if t284 = true then (haulageref08_Row.l0 k x1 (wrap64 (x5 + 1)) x279000 x279001 x279002 x279003 x279004) else (some 10))) else (none))) else (none)) else (some 0)
def haulageref08_Row.f (k : Nat) (a0_0 : Int) (a0_1 : ByteArray) (a0_2 : Int) (a0_3 : Int) (l0_4 : List (S54)) (l1 : List (S52)) : Option (Int) := (haulageref08_Table.f k a0_0 a0_1 a0_2 a0_3 l0_4).bind fun t279 => (if t279 = true then (if (l1.length : Int) = (l0_4.length : Int) then (haulageref08_Row.l0 k l1 0 a0_0 a0_1 a0_2 a0_3 l0_4) else (some 5)) else (some 2))
theorem haulageref08_Row.mono_l : ∀ k, (∀ y0 y1 y2 y3 y4 y5 y6, LeO (haulageref08_Row.l0 k y0 y1 y2 y3 y4 y5 y6) (haulageref08_Row.l0 (k + 1) y0 y1 y2 y3 y4 y5 y6))
 | 0 => fun _ _ _ _ _ _ _ r h => by simp [haulageref08_Row.l0] at h
 | k + 1 => by
  have ih0 := haulageref08_Row.mono_l k
  ·
   intro y0 y1 y2 y3 y4 y5 y6
   unfold haulageref08_Row.l0
   repeat' first
   | (with_reducible exact ih0 _ _ _ _ _ _ _)
   | (with_reducible exact haulageref06_Fits.mono _ _ _ _ _ _)
   | (with_reducible exact haulageref08_Table.mono _ _ _ _ _ _)
   | (with_reducible exact LeO.refl _)
   | (with_reducible exact LeO.none _)
   | (with_reducible refine LeO.ite ?_ ?_)
   | (with_reducible refine LeO.bind ?_ (fun _ => ?_))
   | exact ih0 _ _ _ _ _ _ _
   | exact haulageref06_Fits.mono _ _ _ _ _ _
   | exact haulageref08_Table.mono _ _ _ _ _ _
   | exact LeO.none _
   | refine LeO.ite ?_ ?_
   | refine LeO.bind ?_ (fun _ => ?_)
theorem haulageref08_Row.mono : ∀ a0 a1 a2 a3 a4 a5 k, LeO (haulageref08_Row.f k a0 a1 a2 a3 a4 a5) (haulageref08_Row.f (k + 1) a0 a1 a2 a3 a4 a5) := by
 intro a0 a1 a2 a3 a4 a5 k
 have ih0 := haulageref08_Row.mono_l k
 unfold haulageref08_Row.f
 repeat' first | with_reducible (first | exact ih0 .. | exact haulageref06_Fits.mono .. | exact haulageref08_Table.mono .. | exact LeO.refl .. | exact LeO.none .. | refine LeO.ite ?_ ?_ | refine LeO.bind ?_ (fun _ => ?_)) | exact ih0 .. | exact haulageref06_Fits.mono .. | exact haulageref08_Table.mono .. | exact LeO.none .. | refine LeO.ite ?_ ?_ | refine LeO.bind ?_ (fun _ => ?_)
def haulageref08_Row.T11 : Bool × List (List Nat × List Nat) := (true, [([], []), ([0], [0]), ([], []), ([1, 2], [1, 2]), ([3], [3]), ([4], [4]), ([], []), ([], []), ([6, 7], [6, 7]), ([8], [8]), ([5, 9], [5, 9]), ([10], [10])])
def haulageref08_Row.B11 : List Nat := [0, 1, 0, 7, 15, 31, 0, 0, 192, 448, 1023, 2047]
theorem haulageref08_Row.tab11 : rtab .any (opsOf Tryd.f17 11) = haulageref08_Row.T11 := by kernel_rfl
theorem haulageref08_Row.bits11 : waitsOk haulageref08_Row.T11.2 haulageref08_Row.B11 = true := by kernel_rfl
set_option maxHeartbeats 8000000 in
set_option maxRecDepth 100000 in
theorem haulageref08_Row.calls (k : Nat) (a0_0 : Int) (a0_1 : ByteArray) (a0_2 : Int) (a0_3 : Int) (A0_4 : Option Addr) (c0_4 : Nat) (l0_4 : List (S54)) (A1 : Option Addr) (c1 : Nat) (l1 : List (S52)) (r : Int) (w : World) (hr0_4 : Kd.C k54 w A0_4 l0_4.length l0_4) (hc0_4 : l0_4.length ≤ c0_4) (hr1 : Kd.C k52 w A1 l1.length l1) (hc1 : l1.length ≤ c1) (h : haulageref08_Row.f k a0_0 a0_1 a0_2 a0_3 l0_4 l1 = some r) :
  Calls Tryd.prog 17 #[.agg #[.int .i64 a0_0, .string a0_1, .int .i64 a0_2, .int .i64 a0_3, .slice A0_4 l0_4.length c0_4], .slice A1 l1.length c1] w fun e w' => e = .returned (.int .i64 r) ∧ Below w.heap.size w w' := by
 have hu24 := Tryd.underlying24
 have hu52 := Tryd.underlying52
 have hu50 := Tryd.underlying50
 have HR0_4 := aM hr0_4
 have HC0_4 := aM hc0_4
 clear hr0_4 hc0_4
 have HR1 := aM hr1
 have HC1 := aM hc1
 clear hr1 hc1
 have HB := aM (Below.refl w.heap.size w)
 have H : ((haulageref08_Table.f k a0_0 a0_1 a0_2 a0_3 l0_4).bind fun t279 => (if t279 = true then (if (l1.length : Int) = (l0_4.length : Int) then (haulageref08_Row.l0 k l1 0 a0_0 a0_1 a0_2 a0_3 l0_4) else (some 5)) else (some 2))) = some r := h
 clear h
 obtain ⟨t279, A3, H⟩ := yb H
 by_cases c4 : t279 = true
 ·
  subst c4
  replace H := yt H
  by_cases c5 : (l1.length : Int) = (l0_4.length : Int)
  ·
   rw [if_pos c5] at H
   have c5b0 : ((l1.length : Int) == (l0_4.length : Int)) = true := beq_iff_eq.mpr c5
   have c5b1 : ((l1.length : Int) != (l0_4.length : Int)) = false := bne_eq_false_iff_eq.mpr c5
   have c5b2 : (l1.length == l0_4.length) = true := by first | simpa using c5 | (simp at c5 ⊢; omega)
   clear c5
   have H' := aM H
   clear H
   go_enter Tryd.func17, Tryd.ntmps17
   go_wp2_with (first | ((with_reducible refine gate_dst (N := 2) rfl ?_); refine yX (N := 2) (cs := #[.int .i64 a0_0, .string a0_1, .int .i64 a0_2, .int .i64 a0_3, .slice A0_4 l0_4.length c0_4]) (t := 24) ?_; intro gb278 hg w6 hbox hb; have BK278 := aM (hbox); have GW278 := yZ hg (yB HB); have GE278 := yZ hg (yB HB); replace HB := aM (bP (yB HB) hb); clear hb hbox hg; obtain ⟨hcz7_0, hcz7_1, hcz7_2, hcz7_3, hcz7_4, hfz7_0, hfz7_1, hfz7_2, hfz7_3, hfz7_4⟩ := cells5 BK278.out) | ((with_reducible refine gate_callee (f := 27) rfl ?_); refine yC 7 Tryd.func27 #[.agg #[.int .i64 a0_0, .string a0_1, .int .i64 a0_2, .int .i64 a0_3, .slice A0_4 l0_4.length c0_4]] rfl ?_; (with_reducible refine (haulageref08_Table.calls k a0_0 a0_1 a0_2 a0_3 _ _ l0_4 true _ ?side1 ?side2 A3.out).mono ?_); (case side1 => exact yW (Kd.C_below HR0_4.out HB.out)); (case side2 => exact HC0_4.out); rintro e w8 ⟨rfl, hb⟩; refine ⟨_, rfl, ?_⟩; replace BK278 := aM (kB (yK BK278) hb); replace HB := aM (bP (yG1 HB GE278.out) hb); (try clear hb); obtain ⟨hcz9_0, hcz9_1, hcz9_2, hcz9_3, hcz9_4, hfz9_0, hfz9_1, hfz9_2, hfz9_3, hfz9_4⟩ := cells5 BK278.out))
   go_loopg [5] k (fun kq v5 w' => ∃ (x5_1 : Int), v5 = .int .i64 x5_1 ∧ Aside0 (haulageref08_Row.l0 kq l1 x5_1 a0_0 a0_1 a0_2 a0_3 l0_4 = some r) ∧ Aside0 (kq ≤ k) ∧ Aside0 (w'.heap[gb278]? = some (.cells #[.int .i64 a0_0, .string a0_1, .int .i64 a0_2, .int .i64 a0_3, (.slice A0_4 l0_4.length c0_4)] 24 (0, 0))) ∧ Aside0 (Below w.heap.size w w'))
   case atStart => exact ⟨(0), yS, H', ⟨Nat.le_refl _⟩, ⟨yK BK278⟩, ⟨yG1 HB GE278.out⟩⟩
   case round =>
    clear H'
    try clear c1
    try clear c4
    try clear c5
    try clear c5b0
    try clear c5b1
    try clear c5b2
    try clear hcz7_0 hcz7_1 hcz7_2 hcz7_3 hcz7_4
    try clear hcz9_0 hcz9_1 hcz9_2 hcz9_3 hcz9_4
    try clear hfz7_0 hfz7_1 hfz7_2 hfz7_3 hfz7_4
    try clear hfz9_0 hfz9_1 hfz9_2 hfz9_3 hfz9_4
    obtain ⟨x5_1, rfl, HA, HK1, BK278, HB⟩ := hrel
    cases gk with
    | zero => exact absurd HA.out (by simp [haulageref08_Row.l0])
    | succ k1 =>
     have H := HA.out
     clear HA
     simp only [haulageref08_Row.l0] at H
     by_cases c10 : x5_1 < (l1.length : Int)
     ·
      rw [if_pos c10] at H
      have c10b0 : decide (x5_1 < (l1.length : Int)) = true := decide_eq_true c10
      clear c10
      by_cases c11 : 0 ≤ x5_1
      ·
       rw [if_pos c11] at H
       have c11b0 : decide (0 ≤ x5_1) = true := decide_eq_true c11
       clear c11
       by_cases c12 : (((rd_T52 l1 x5_1).f0) == 0 && (((rd_T52 l1 x5_1).f1) == 0 && ((((rd_T52 l1 x5_1).f2).toList) == ([] : List UInt8)))) = true
       ·
        rw [if_pos c12] at H
        have c12b0 : (((rd_T52 l1 x5_1).f0) == 0 && (((rd_T52 l1 x5_1).f1) == 0 && ((((rd_T52 l1 x5_1).f2).toList) == ([] : List UInt8)))) = true := c12
        (try have c12b0_e : (((rd_T52 l1 x5_1).f0) == 0 && (((rd_T52 l1 x5_1).f1) == 0 && (((((rd_T52 l1 x5_1).f2).toList).isEmpty)))) = true := by have h_ := c12b0; simp only [hp_nil] at h_; exact h_)
        (try (have c12b1 : decide (((rd_T52 l1 x5_1).f0) = 0 && (((rd_T52 l1 x5_1).f1) == 0 && ((((rd_T52 l1 x5_1).f2).toList) == ([] : List UInt8)))) = true := by simpa using c12))
        (try have c12b1_e : decide (((rd_T52 l1 x5_1).f0) = 0 && (((rd_T52 l1 x5_1).f1) == 0 && (((((rd_T52 l1 x5_1).f2).toList).isEmpty)))) = true := by have h_ := c12b1; simp only [hp_nil] at h_; exact h_)
        (try (have c12b2 : (((rd_T52 l1 x5_1).f0) == 0 && (((rd_T52 l1 x5_1).f1) == 0 && ((((rd_T52 l1 x5_1).f2).toList) == ([] : List UInt8)))) = true := by simpa using c12))
        (try have c12b2_e : (((rd_T52 l1 x5_1).f0) == 0 && (((rd_T52 l1 x5_1).f1) == 0 && (((((rd_T52 l1 x5_1).f2).toList).isEmpty)))) = true := by have h_ := c12b2; simp only [hp_nil] at h_; exact h_)
        clear c12
        by_cases c13 : x5_1 < (l0_4.length : Int)
        ·
         rw [if_pos c13] at H
         have c13b0 : decide (x5_1 < (l0_4.length : Int)) = true := decide_eq_true c13
         clear c13
         obtain ⟨bq14, hbq14⟩ : ∃ b_ : Bool, b_ = ((rd_T54 l0_4 x5_1).f3) := ⟨_, rfl⟩
         replace H : (if (bq14 = true) then (haulageref08_Row.l0 k1 l1 (wrap64 (x5_1 + 1)) a0_0 a0_1 a0_2 a0_3 l0_4) else (some 11)) = some r := by rw [← hbq14] at H; exact H
         have Nbq14 := aM hbq14
         clear hbq14
         by_cases c15 : (bq14 = true)
         ·
          subst c15
          replace H := yt H
          have H' := aM H
          clear H
          have p280 : 0 ≤ (x5_1 : Int) := oD yA
          have q280 : x5_1 < (l1.length : Int) := oD yA
          obtain ⟨ad280, e280, hx280_0, hx280_1, hx280_2⟩ := at_T52 HR1.out x5_1 p280 q280
          cases e280
          replace hx280_0 := pw_cell_below HB.out hx280_0
          replace hx280_1 := pw_cell_below HB.out hx280_1
          replace hx280_2 := pw_cell_below HB.out hx280_2
          replace p280 := eq_true p280
          replace q280 := eq_true q280
          obtain ⟨hcz16_0, hcz16_1, hcz16_2, hcz16_3, hcz16_4, hfz16_0, hfz16_1, hfz16_2, hfz16_3, hfz16_4⟩ := cells5 BK278.out
          have p281 : 0 ≤ (x5_1 : Int) := oD yA
          have q281 : x5_1 < (l0_4.length : Int) := oD yA
          obtain ⟨ad281, e281, hx281_0, hx281_1, hx281_2, hx281_3, hx281_4, hx281_5, hx281_6, hx281_7⟩ := at_T54 HR0_4.out x5_1 p281 q281
          (try rw [← Nbq14.out] at hx281_4)
          cases e281
          replace hx281_0 := pw_cell_below HB.out hx281_0
          replace hx281_1 := pw_cell_below HB.out hx281_1
          replace hx281_2 := pw_cell_below HB.out hx281_2
          replace hx281_3 := pw_cell_below HB.out hx281_3
          replace hx281_4 := pw_cell_below HB.out hx281_4
          replace hx281_5 := pw_cell_below HB.out hx281_5
          replace hx281_6 := pw_cell_below HB.out hx281_6
          replace hx281_7 := pw_cell_below HB.out hx281_7
          replace p281 := eq_true p281
          replace q281 := eq_true q281
          go_wp2
          go_roundg k1
          case measure => have := HK1.out; omega
          case rel => exact ⟨(wrap64 (x5_1 + 1)), yS, H', ⟨by have := HK1.out; omega⟩, ⟨yK BK278⟩, ⟨yG1 HB GE278.out⟩⟩
         ·
          replace c15 := Bool.eq_false_iff.mpr c15
          subst c15
          replace H := yf H
          obtain rfl := Option.some.inj H
          have p280 : 0 ≤ (x5_1 : Int) := oD yA
          have q280 : x5_1 < (l1.length : Int) := oD yA
          obtain ⟨ad280, e280, hx280_0, hx280_1, hx280_2⟩ := at_T52 HR1.out x5_1 p280 q280
          cases e280
          replace hx280_0 := pw_cell_below HB.out hx280_0
          replace hx280_1 := pw_cell_below HB.out hx280_1
          replace hx280_2 := pw_cell_below HB.out hx280_2
          replace p280 := eq_true p280
          replace q280 := eq_true q280
          obtain ⟨hcz17_0, hcz17_1, hcz17_2, hcz17_3, hcz17_4, hfz17_0, hfz17_1, hfz17_2, hfz17_3, hfz17_4⟩ := cells5 BK278.out
          have p281 : 0 ≤ (x5_1 : Int) := oD yA
          have q281 : x5_1 < (l0_4.length : Int) := oD yA
          obtain ⟨ad281, e281, hx281_0, hx281_1, hx281_2, hx281_3, hx281_4, hx281_5, hx281_6, hx281_7⟩ := at_T54 HR0_4.out x5_1 p281 q281
          (try rw [← Nbq14.out] at hx281_4)
          cases e281
          replace hx281_0 := pw_cell_below HB.out hx281_0
          replace hx281_1 := pw_cell_below HB.out hx281_1
          replace hx281_2 := pw_cell_below HB.out hx281_2
          replace hx281_3 := pw_cell_below HB.out hx281_3
          replace hx281_4 := pw_cell_below HB.out hx281_4
          replace hx281_5 := pw_cell_below HB.out hx281_5
          replace hx281_6 := pw_cell_below HB.out hx281_6
          replace hx281_7 := pw_cell_below HB.out hx281_7
          replace p281 := eq_true p281
          replace q281 := eq_true q281
          go_wp2
          go_ret
          exact ⟨yE, yG1 HB GE278.out⟩
        ·
         rw [if_neg c13] at H
         exact absurd H (by simp)
       ·
        rw [if_neg c12] at H
        have c12b0 : (((rd_T52 l1 x5_1).f0) == 0 && (((rd_T52 l1 x5_1).f1) == 0 && ((((rd_T52 l1 x5_1).f2).toList) == ([] : List UInt8)))) = false := by simpa using c12
        (try have c12b0_e : (((rd_T52 l1 x5_1).f0) == 0 && (((rd_T52 l1 x5_1).f1) == 0 && (((((rd_T52 l1 x5_1).f2).toList).isEmpty)))) = false := by have h_ := c12b0; simp only [hp_nil] at h_; exact h_)
        (try (have c12b1 : decide (((rd_T52 l1 x5_1).f0) = 0 && (((rd_T52 l1 x5_1).f1) == 0 && ((((rd_T52 l1 x5_1).f2).toList) == ([] : List UInt8)))) = false := by simpa using c12))
        (try have c12b1_e : decide (((rd_T52 l1 x5_1).f0) = 0 && (((rd_T52 l1 x5_1).f1) == 0 && (((((rd_T52 l1 x5_1).f2).toList).isEmpty)))) = false := by have h_ := c12b1; simp only [hp_nil] at h_; exact h_)
        (try (have c12b2 : (((rd_T52 l1 x5_1).f0) == 0 && (((rd_T52 l1 x5_1).f1) == 0 && ((((rd_T52 l1 x5_1).f2).toList) == ([] : List UInt8)))) = false := by simpa using c12))
        (try have c12b2_e : (((rd_T52 l1 x5_1).f0) == 0 && (((rd_T52 l1 x5_1).f1) == 0 && (((((rd_T52 l1 x5_1).f2).toList).isEmpty)))) = false := by have h_ := c12b2; simp only [hp_nil] at h_; exact h_)
        (try (have c12b3 : ¬ (((rd_T52 l1 x5_1).f0) = 0 && (((rd_T52 l1 x5_1).f1) == 0 && ((((rd_T52 l1 x5_1).f2).toList) == ([] : List UInt8)))) := by simpa using c12))
        (try have c12b3_e : ¬ (((rd_T52 l1 x5_1).f0) = 0 && (((rd_T52 l1 x5_1).f1) == 0 && (((((rd_T52 l1 x5_1).f2).toList).isEmpty)))) := by have h_ := c12b3; simp only [hp_nil] at h_; exact h_)
        clear c12
        by_cases c18 : x5_1 < (l0_4.length : Int)
        ·
         rw [if_pos c18] at H
         have c18b0 : decide (x5_1 < (l0_4.length : Int)) = true := decide_eq_true c18
         clear c18
         obtain ⟨t284, A19, H⟩ := yb H
         by_cases c20 : t284 = true
         ·
          subst c20
          replace H := yt H
          have H' := aM H
          clear H
          have p280 : 0 ≤ (x5_1 : Int) := oD yA
          have q280 : x5_1 < (l1.length : Int) := oD yA
          obtain ⟨ad280, e280, hx280_0, hx280_1, hx280_2⟩ := at_T52 HR1.out x5_1 p280 q280
          cases e280
          replace hx280_0 := pw_cell_below HB.out hx280_0
          replace hx280_1 := pw_cell_below HB.out hx280_1
          replace hx280_2 := pw_cell_below HB.out hx280_2
          replace p280 := eq_true p280
          replace q280 := eq_true q280
          try go_wp2
          have n0_ := aM (kD BK278.out)
          have n1_ := aM (b1 HB.out)
          clear BK278
          clear HB
          have BK278 := n0_
          have HB := n1_
          clear n0_ n1_
          have p282 : 0 ≤ (x5_1 : Int) := oD yA
          have q282 : x5_1 < (l0_4.length : Int) := oD yA
          obtain ⟨ad282, e282, hx282_0, hx282_1, hx282_2, hx282_3, hx282_4, hx282_5, hx282_6, hx282_7⟩ := at_T54 HR0_4.out x5_1 p282 q282
          have hw282_7 := hx282_7
          have hw282_6 := hx282_6
          have hw282_5 := hx282_5
          have hw282_4 := hx282_4
          have hw282_3 := hx282_3
          have hw282_2 := hx282_2
          have hw282_1 := hx282_1
          have hw282_0 := hx282_0
          cases e282
          replace hx282_0 := pw_cell_below HB.out hx282_0
          replace hx282_1 := pw_cell_below HB.out hx282_1
          replace hx282_2 := pw_cell_below HB.out hx282_2
          replace hx282_3 := pw_cell_below HB.out hx282_3
          replace hx282_4 := pw_cell_below HB.out hx282_4
          replace hx282_5 := pw_cell_below HB.out hx282_5
          replace hx282_6 := pw_cell_below HB.out hx282_6
          replace hx282_7 := pw_cell_below HB.out hx282_7
          replace p282 := eq_true p282
          replace q282 := eq_true q282
          have p283 : 0 ≤ (x5_1 : Int) := oD yA
          have q283 : x5_1 < (l1.length : Int) := oD yA
          obtain ⟨ad283, e283, hx283_0, hx283_1, hx283_2⟩ := at_T52 HR1.out x5_1 p283 q283
          have hw283_2 := hx283_2
          have hw283_1 := hx283_1
          have hw283_0 := hx283_0
          obtain rfl : ad280 = ad283 := (by injection e283)
          replace hx283_0 := pw_cell_below HB.out hx283_0
          replace hx283_1 := pw_cell_below HB.out hx283_1
          replace hx283_2 := pw_cell_below HB.out hx283_2
          replace p283 := eq_true p283
          replace q283 := eq_true q283
          refine start_ (n := 12) (S := fun w' => w'.cell? ⟨gb278, 0, none⟩ = some (.int .i64 a0_0) ∧ w'.cell? ⟨gb278, 1, none⟩ = some (.string a0_1) ∧ w'.cell? ⟨gb278, 2, none⟩ = some (.int .i64 a0_2) ∧ w'.cell? ⟨gb278, 3, none⟩ = some (.int .i64 a0_3) ∧ w'.cell? ⟨gb278, 4, none⟩ = some (.slice (some ad282) l0_4.length c0_4) ∧ w'.cell? (ad282.add ((x5_1).toNat * 8)) = some (.int .i64 ((rd_T54 l0_4 x5_1).f0)) ∧ w'.cell? ⟨(ad282.add ((x5_1).toNat * 8)).block, (ad282.add ((x5_1).toNat * 8)).off + 1, none⟩ = some (.string ((rd_T54 l0_4 x5_1).f1)) ∧ w'.cell? ⟨(ad282.add ((x5_1).toNat * 8)).block, (ad282.add ((x5_1).toNat * 8)).off + 2, none⟩ = some (.int .i64 ((rd_T54 l0_4 x5_1).f2.f0)) ∧ w'.cell? ⟨(ad282.add ((x5_1).toNat * 8)).block, (ad282.add ((x5_1).toNat * 8)).off + 3, none⟩ = some (.int .i64 ((rd_T54 l0_4 x5_1).f2.f1)) ∧ w'.cell? ⟨(ad282.add ((x5_1).toNat * 8)).block, (ad282.add ((x5_1).toNat * 8)).off + 4, none⟩ = some (.bool ((rd_T54 l0_4 x5_1).f3)) ∧ w'.cell? ⟨(ad282.add ((x5_1).toNat * 8)).block, (ad282.add ((x5_1).toNat * 8)).off + 5, none⟩ = some (.int .i64 ((rd_T54 l0_4 x5_1).f4.f0)) ∧ w'.cell? ⟨(ad282.add ((x5_1).toNat * 8)).block, (ad282.add ((x5_1).toNat * 8)).off + 6, none⟩ = some (.int .i64 ((rd_T54 l0_4 x5_1).f4.f1)) ∧ w'.cell? ⟨(ad282.add ((x5_1).toNat * 8)).block, (ad282.add ((x5_1).toNat * 8)).off + 7, none⟩ = some (.string ((rd_T54 l0_4 x5_1).f4.f2)) ∧ w'.cell? (ad280.add ((x5_1).toNat * 3)) = some (.int .i64 ((rd_T52 l1 x5_1).f0)) ∧ w'.cell? ⟨(ad280.add ((x5_1).toNat * 3)).block, (ad280.add ((x5_1).toNat * 3)).off + 1, none⟩ = some (.int .i64 ((rd_T52 l1 x5_1).f1)) ∧ w'.cell? ⟨(ad280.add ((x5_1).toNat * 3)).block, (ad280.add ((x5_1).toNat * 3)).off + 2, none⟩ = some (.string ((rd_T52 l1 x5_1).f2))) (ds := []) (tB 0 12) (by kernel_rfl) rfl rfl ⟨yV BK278 0, yV BK278 1, yV BK278 2, yV BK278 3, yV BK278 4, (pw_cell_below HB.out hw282_0), (pw_cell_below HB.out hw282_1), (pw_cell_below HB.out hw282_2), (pw_cell_below HB.out hw282_3), (pw_cell_below HB.out hw282_4), (pw_cell_below HB.out hw282_5), (pw_cell_below HB.out hw282_6), (pw_cell_below HB.out hw282_7), (pw_cell_below HB.out hw283_0), (pw_cell_below HB.out hw283_1), (pw_cell_below HB.out hw283_2)⟩ (fun hHeld => ?_); refine with_tabW haulageref08_Row.tab11 haulageref08_Row.bits11 (fun HT_ HW_ => ?_)
          generalize wr.drew = w21 at BK278 HB hx282_0 hx282_1 hx282_2 hx282_3 hx282_4 hx282_5 hx282_6 hx282_7 hx283_0 hx283_1 hx283_2 hHeld ⊢
          refine yP HT_ 0 34 (tB 1 12) rfl rfl ?_
          refine yP HT_ 2 36 (tB 5 12) rfl rfl ?_
          refine yP HT_ 6 40 (tB 69 12) rfl rfl ?_
          refine yP HT_ 7 41 (tB 197 12) rfl rfl ?_
          refine yP HT_ 8 42 (tB 453 12) rfl rfl ?_
          refine yT HT_ HW_ 1 35 (tB 455 12) rfl rfl hHeld ?_
          refine yP HT_ 3 37 (tB 463 12) rfl rfl ?_
          refine yP HT_ 4 38 (tB 479 12) rfl rfl ?_
          refine yT HT_ HW_ 5 39 (tB 511 12) rfl rfl hHeld ?_
          refine yT HT_ HW_ 9 43 (tB 1023 12) rfl rfl hHeld ?_
          refine yI HT_ 10 (tB 2047 12) rfl rfl fun K hK => ?_
          refine yc Tryd.func57 #[.agg #[.int .i64 ((rd_T54 l0_4 x5_1).f2.f0), .int .i64 ((rd_T54 l0_4 x5_1).f2.f1)], .agg #[.int .i64 ((rd_T52 l1 x5_1).f0), .int .i64 ((rd_T52 l1 x5_1).f1), .string ((rd_T52 l1 x5_1).f2)]] rfl rfl ?_
          with_reducible refine (haulageref06_Fits.calls k1 ((rd_T54 l0_4 x5_1).f2.f0) ((rd_T54 l0_4 x5_1).f2.f1) ((rd_T52 l1 x5_1).f0) ((rd_T52 l1 x5_1).f1) ((rd_T52 l1 x5_1).f2) true _ A19.out).mono ?_
          rintro e w22 ⟨rfl, hb⟩
          refine ⟨_, rfl, ?_⟩
          have n0_ := aM (kB (yK BK278) hb)
          have n1_ := aM (bP (yG1 HB GE278.out) hb)
          clear BK278
          clear HB
          have BK278 := n0_
          have HB := n1_
          clear n0_ n1_
          (try clear hb)
          (try clear hb2)
          (try clear hk)
          (try clear hi)
          refine hK.out _ _ ⟨yV BK278 0, yV BK278 1, yV BK278 2, yV BK278 3, yV BK278 4, (pw_cell_below HB.out hw282_0), (pw_cell_below HB.out hw282_1), (pw_cell_below HB.out hw282_2), (pw_cell_below HB.out hw282_3), (pw_cell_below HB.out hw282_4), (pw_cell_below HB.out hw282_5), (pw_cell_below HB.out hw282_6), (pw_cell_below HB.out hw282_7), (pw_cell_below HB.out hw283_0), (pw_cell_below HB.out hw283_1), (pw_cell_below HB.out hw283_2)⟩ (fun hHeld => ?_)
          clear hK K
          refine norm_ (a' := ?_) ?_ ?_
          rotate_left
          ·
           show Act.put _ (some 44) _ = _
           simp only [Act.put, s1_, s2_, s3_, i64_w, i32_w]
           rfl
          refine yP HT_ 11 45 (tB 4095 12) rfl rfl ?_
          refine done_ (done_of HT_.out (by kernel_rfl)) ?_
          try go_wp2
          go_roundg k1
          case measure => have := HK1.out; omega
          case rel => exact ⟨(wrap64 (x5_1 + 1)), yS, H', ⟨by have := HK1.out; omega⟩, ⟨yK BK278⟩, ⟨yG1 HB GE278.out⟩⟩
         ·
          replace c20 := Bool.eq_false_iff.mpr c20
          subst c20
          replace H := yf H
          obtain rfl := Option.some.inj H
          have p280 : 0 ≤ (x5_1 : Int) := oD yA
          have q280 : x5_1 < (l1.length : Int) := oD yA
          obtain ⟨ad280, e280, hx280_0, hx280_1, hx280_2⟩ := at_T52 HR1.out x5_1 p280 q280
          cases e280
          replace hx280_0 := pw_cell_below HB.out hx280_0
          replace hx280_1 := pw_cell_below HB.out hx280_1
          replace hx280_2 := pw_cell_below HB.out hx280_2
          replace p280 := eq_true p280
          replace q280 := eq_true q280
          try go_wp2
          have n0_ := aM (kD BK278.out)
          have n1_ := aM (b1 HB.out)
          clear BK278
          clear HB
          have BK278 := n0_
          have HB := n1_
          clear n0_ n1_
          have p282 : 0 ≤ (x5_1 : Int) := oD yA
          have q282 : x5_1 < (l0_4.length : Int) := oD yA
          obtain ⟨ad282, e282, hx282_0, hx282_1, hx282_2, hx282_3, hx282_4, hx282_5, hx282_6, hx282_7⟩ := at_T54 HR0_4.out x5_1 p282 q282
          have hw282_7 := hx282_7
          have hw282_6 := hx282_6
          have hw282_5 := hx282_5
          have hw282_4 := hx282_4
          have hw282_3 := hx282_3
          have hw282_2 := hx282_2
          have hw282_1 := hx282_1
          have hw282_0 := hx282_0
          cases e282
          replace hx282_0 := pw_cell_below HB.out hx282_0
          replace hx282_1 := pw_cell_below HB.out hx282_1
          replace hx282_2 := pw_cell_below HB.out hx282_2
          replace hx282_3 := pw_cell_below HB.out hx282_3
          replace hx282_4 := pw_cell_below HB.out hx282_4
          replace hx282_5 := pw_cell_below HB.out hx282_5
          replace hx282_6 := pw_cell_below HB.out hx282_6
          replace hx282_7 := pw_cell_below HB.out hx282_7
          replace p282 := eq_true p282
          replace q282 := eq_true q282
          have p283 : 0 ≤ (x5_1 : Int) := oD yA
          have q283 : x5_1 < (l1.length : Int) := oD yA
          obtain ⟨ad283, e283, hx283_0, hx283_1, hx283_2⟩ := at_T52 HR1.out x5_1 p283 q283
          have hw283_2 := hx283_2
          have hw283_1 := hx283_1
          have hw283_0 := hx283_0
          obtain rfl : ad280 = ad283 := (by injection e283)
          replace hx283_0 := pw_cell_below HB.out hx283_0
          replace hx283_1 := pw_cell_below HB.out hx283_1
          replace hx283_2 := pw_cell_below HB.out hx283_2
          replace p283 := eq_true p283
          replace q283 := eq_true q283
          refine start_ (n := 12) (S := fun w' => w'.cell? ⟨gb278, 0, none⟩ = some (.int .i64 a0_0) ∧ w'.cell? ⟨gb278, 1, none⟩ = some (.string a0_1) ∧ w'.cell? ⟨gb278, 2, none⟩ = some (.int .i64 a0_2) ∧ w'.cell? ⟨gb278, 3, none⟩ = some (.int .i64 a0_3) ∧ w'.cell? ⟨gb278, 4, none⟩ = some (.slice (some ad282) l0_4.length c0_4) ∧ w'.cell? (ad282.add ((x5_1).toNat * 8)) = some (.int .i64 ((rd_T54 l0_4 x5_1).f0)) ∧ w'.cell? ⟨(ad282.add ((x5_1).toNat * 8)).block, (ad282.add ((x5_1).toNat * 8)).off + 1, none⟩ = some (.string ((rd_T54 l0_4 x5_1).f1)) ∧ w'.cell? ⟨(ad282.add ((x5_1).toNat * 8)).block, (ad282.add ((x5_1).toNat * 8)).off + 2, none⟩ = some (.int .i64 ((rd_T54 l0_4 x5_1).f2.f0)) ∧ w'.cell? ⟨(ad282.add ((x5_1).toNat * 8)).block, (ad282.add ((x5_1).toNat * 8)).off + 3, none⟩ = some (.int .i64 ((rd_T54 l0_4 x5_1).f2.f1)) ∧ w'.cell? ⟨(ad282.add ((x5_1).toNat * 8)).block, (ad282.add ((x5_1).toNat * 8)).off + 4, none⟩ = some (.bool ((rd_T54 l0_4 x5_1).f3)) ∧ w'.cell? ⟨(ad282.add ((x5_1).toNat * 8)).block, (ad282.add ((x5_1).toNat * 8)).off + 5, none⟩ = some (.int .i64 ((rd_T54 l0_4 x5_1).f4.f0)) ∧ w'.cell? ⟨(ad282.add ((x5_1).toNat * 8)).block, (ad282.add ((x5_1).toNat * 8)).off + 6, none⟩ = some (.int .i64 ((rd_T54 l0_4 x5_1).f4.f1)) ∧ w'.cell? ⟨(ad282.add ((x5_1).toNat * 8)).block, (ad282.add ((x5_1).toNat * 8)).off + 7, none⟩ = some (.string ((rd_T54 l0_4 x5_1).f4.f2)) ∧ w'.cell? (ad280.add ((x5_1).toNat * 3)) = some (.int .i64 ((rd_T52 l1 x5_1).f0)) ∧ w'.cell? ⟨(ad280.add ((x5_1).toNat * 3)).block, (ad280.add ((x5_1).toNat * 3)).off + 1, none⟩ = some (.int .i64 ((rd_T52 l1 x5_1).f1)) ∧ w'.cell? ⟨(ad280.add ((x5_1).toNat * 3)).block, (ad280.add ((x5_1).toNat * 3)).off + 2, none⟩ = some (.string ((rd_T52 l1 x5_1).f2))) (ds := []) (tB 0 12) (by kernel_rfl) rfl rfl ⟨yV BK278 0, yV BK278 1, yV BK278 2, yV BK278 3, yV BK278 4, (pw_cell_below HB.out hw282_0), (pw_cell_below HB.out hw282_1), (pw_cell_below HB.out hw282_2), (pw_cell_below HB.out hw282_3), (pw_cell_below HB.out hw282_4), (pw_cell_below HB.out hw282_5), (pw_cell_below HB.out hw282_6), (pw_cell_below HB.out hw282_7), (pw_cell_below HB.out hw283_0), (pw_cell_below HB.out hw283_1), (pw_cell_below HB.out hw283_2)⟩ (fun hHeld => ?_); refine with_tabW haulageref08_Row.tab11 haulageref08_Row.bits11 (fun HT_ HW_ => ?_)
          generalize wr.drew = w23 at BK278 HB hx282_0 hx282_1 hx282_2 hx282_3 hx282_4 hx282_5 hx282_6 hx282_7 hx283_0 hx283_1 hx283_2 hHeld ⊢
          refine yP HT_ 0 34 (tB 1 12) rfl rfl ?_
          refine yP HT_ 2 36 (tB 5 12) rfl rfl ?_
          refine yP HT_ 6 40 (tB 69 12) rfl rfl ?_
          refine yP HT_ 7 41 (tB 197 12) rfl rfl ?_
          refine yP HT_ 8 42 (tB 453 12) rfl rfl ?_
          refine yT HT_ HW_ 1 35 (tB 455 12) rfl rfl hHeld ?_
          refine yP HT_ 3 37 (tB 463 12) rfl rfl ?_
          refine yP HT_ 4 38 (tB 479 12) rfl rfl ?_
          refine yT HT_ HW_ 5 39 (tB 511 12) rfl rfl hHeld ?_
          refine yT HT_ HW_ 9 43 (tB 1023 12) rfl rfl hHeld ?_
          refine yI HT_ 10 (tB 2047 12) rfl rfl fun K hK => ?_
          refine yc Tryd.func57 #[.agg #[.int .i64 ((rd_T54 l0_4 x5_1).f2.f0), .int .i64 ((rd_T54 l0_4 x5_1).f2.f1)], .agg #[.int .i64 ((rd_T52 l1 x5_1).f0), .int .i64 ((rd_T52 l1 x5_1).f1), .string ((rd_T52 l1 x5_1).f2)]] rfl rfl ?_
          with_reducible refine (haulageref06_Fits.calls k1 ((rd_T54 l0_4 x5_1).f2.f0) ((rd_T54 l0_4 x5_1).f2.f1) ((rd_T52 l1 x5_1).f0) ((rd_T52 l1 x5_1).f1) ((rd_T52 l1 x5_1).f2) false _ A19.out).mono ?_
          rintro e w24 ⟨rfl, hb⟩
          refine ⟨_, rfl, ?_⟩
          have n0_ := aM (kB (yK BK278) hb)
          have n1_ := aM (bP (yG1 HB GE278.out) hb)
          clear BK278
          clear HB
          have BK278 := n0_
          have HB := n1_
          clear n0_ n1_
          (try clear hb)
          (try clear hb2)
          (try clear hk)
          (try clear hi)
          refine hK.out _ _ ⟨yV BK278 0, yV BK278 1, yV BK278 2, yV BK278 3, yV BK278 4, (pw_cell_below HB.out hw282_0), (pw_cell_below HB.out hw282_1), (pw_cell_below HB.out hw282_2), (pw_cell_below HB.out hw282_3), (pw_cell_below HB.out hw282_4), (pw_cell_below HB.out hw282_5), (pw_cell_below HB.out hw282_6), (pw_cell_below HB.out hw282_7), (pw_cell_below HB.out hw283_0), (pw_cell_below HB.out hw283_1), (pw_cell_below HB.out hw283_2)⟩ (fun hHeld => ?_)
          clear hK K
          refine norm_ (a' := ?_) ?_ ?_
          rotate_left
          ·
           show Act.put _ (some 44) _ = _
           simp only [Act.put, s1_, s2_, s3_, i64_w, i32_w]
           rfl
          refine yP HT_ 11 45 (tB 4095 12) rfl rfl ?_
          refine done_ (done_of HT_.out (by kernel_rfl)) ?_
          try go_wp2
          go_ret
          exact ⟨yE, yG1 HB GE278.out⟩
        ·
         rw [if_neg c18] at H
         exact absurd H (by simp)
      ·
       rw [if_neg c11] at H
       exact absurd H (by simp)
     ·
      rw [if_neg c10] at H
      have c10b0 : decide (x5_1 < (l1.length : Int)) = false := decide_eq_false c10
      clear c10
      obtain rfl := Option.some.inj H
      go_wp2
      go_ret
      exact ⟨yE, yG1 HB GE278.out⟩
  ·
   rw [if_neg c5] at H
   have c5b0 : ((l1.length : Int) == (l0_4.length : Int)) = false := beq_eq_false_iff_ne.mpr c5
   have c5b1 : ((l1.length : Int) != (l0_4.length : Int)) = true := bne_iff_ne.mpr c5
   have c5b2 : (l1.length == l0_4.length) = false := by first | simpa using c5 | (simp at c5 ⊢; omega)
   obtain rfl := Option.some.inj H
   go_enter Tryd.func17, Tryd.ntmps17
   go_wp2_with (first | ((with_reducible refine gate_dst (N := 2) rfl ?_); refine yX (N := 2) (cs := #[.int .i64 a0_0, .string a0_1, .int .i64 a0_2, .int .i64 a0_3, .slice A0_4 l0_4.length c0_4]) (t := 24) ?_; intro gb278 hg w25 hbox hb; have BK278 := aM (hbox); have GW278 := yZ hg (yB HB); have GE278 := yZ hg (yB HB); replace HB := aM (bP (yB HB) hb); clear hb hbox hg; obtain ⟨hcz26_0, hcz26_1, hcz26_2, hcz26_3, hcz26_4, hfz26_0, hfz26_1, hfz26_2, hfz26_3, hfz26_4⟩ := cells5 BK278.out) | ((with_reducible refine gate_callee (f := 27) rfl ?_); refine yC 7 Tryd.func27 #[.agg #[.int .i64 a0_0, .string a0_1, .int .i64 a0_2, .int .i64 a0_3, .slice A0_4 l0_4.length c0_4]] rfl ?_; (with_reducible refine (haulageref08_Table.calls k a0_0 a0_1 a0_2 a0_3 _ _ l0_4 true _ ?side1 ?side2 A3.out).mono ?_); (case side1 => exact yW (Kd.C_below HR0_4.out HB.out)); (case side2 => exact HC0_4.out); rintro e w27 ⟨rfl, hb⟩; refine ⟨_, rfl, ?_⟩; replace BK278 := aM (kB (yK BK278) hb); replace HB := aM (bP (yG1 HB GE278.out) hb); (try clear hb); obtain ⟨hcz28_0, hcz28_1, hcz28_2, hcz28_3, hcz28_4, hfz28_0, hfz28_1, hfz28_2, hfz28_3, hfz28_4⟩ := cells5 BK278.out))
   go_ret
   exact ⟨yE, yG1 HB GE278.out⟩
 ·
  replace c4 := Bool.eq_false_iff.mpr c4
  subst c4
  replace H := yf H
  obtain rfl := Option.some.inj H
  go_enter Tryd.func17, Tryd.ntmps17
  go_wp2_with (first | ((with_reducible refine gate_dst (N := 2) rfl ?_); refine yX (N := 2) (cs := #[.int .i64 a0_0, .string a0_1, .int .i64 a0_2, .int .i64 a0_3, .slice A0_4 l0_4.length c0_4]) (t := 24) ?_; intro gb278 hg w29 hbox hb; have BK278 := aM (hbox); have GW278 := yZ hg (yB HB); have GE278 := yZ hg (yB HB); replace HB := aM (bP (yB HB) hb); clear hb hbox hg; obtain ⟨hcz30_0, hcz30_1, hcz30_2, hcz30_3, hcz30_4, hfz30_0, hfz30_1, hfz30_2, hfz30_3, hfz30_4⟩ := cells5 BK278.out) | ((with_reducible refine gate_callee (f := 27) rfl ?_); refine yC 7 Tryd.func27 #[.agg #[.int .i64 a0_0, .string a0_1, .int .i64 a0_2, .int .i64 a0_3, .slice A0_4 l0_4.length c0_4]] rfl ?_; (with_reducible refine (haulageref08_Table.calls k a0_0 a0_1 a0_2 a0_3 _ _ l0_4 false _ ?side1 ?side2 A3.out).mono ?_); (case side1 => exact yW (Kd.C_below HR0_4.out HB.out)); (case side2 => exact HC0_4.out); rintro e w31 ⟨rfl, hb⟩; refine ⟨_, rfl, ?_⟩; replace BK278 := aM (kB (yK BK278) hb); replace HB := aM (bP (yG1 HB GE278.out) hb); (try clear hb)))
  go_ret
  exact ⟨yE, yG1 HB GE278.out⟩
/-! ### haulageref08_SameRow: function 23 -/
def haulageref08_SameRow.l0 : Nat → List (S52) → List (S52) → Int → Option (Bool)
 | 0, _, _, _ => none
 | k + 1, x0, x1, x5 => if x5 < (x0.length : Int) then (if 0 ≤ x5 then (if x5 < (x1.length : Int) then (if (!(((rd_T52 x0 x5).f0) == ((rd_T52 x1 x5).f0)) || (!(((rd_T52 x0 x5).f1) == ((rd_T52 x1 x5).f1)) || (!((((rd_T52 x0 x5).f2).toList) == (((rd_T52 x1 x5).f2).toList))))) = true then (some false) else (haulageref08_SameRow.l0 k x0 x1 (wrap64 (x5 + 1)))) else (none)) else (none)) else (some true)
def haulageref08_SameRow.f (k : Nat) (l0 : List (S52)) (l1 : List (S52)) : Option (Bool) := if (l0.length : Int) = (l1.length : Int) then (haulageref08_SameRow.l0 k l0 l1 0) else (some false)
theorem haulageref08_SameRow.mono_l : ∀ k, (∀ y0 y1 y2, LeO (haulageref08_SameRow.l0 k y0 y1 y2) (haulageref08_SameRow.l0 (k + 1) y0 y1 y2))
 | 0 => fun _ _ _ r h => by simp [haulageref08_SameRow.l0] at h
 | k + 1 => by
  have ih0 := haulageref08_SameRow.mono_l k
  ·
   intro y0 y1 y2
   unfold haulageref08_SameRow.l0
   repeat' first
   | (with_reducible exact ih0 _ _ _)
   | (with_reducible exact LeO.refl _)
   | (with_reducible exact LeO.none _)
   | (with_reducible refine LeO.ite ?_ ?_)
   | (with_reducible refine LeO.bind ?_ (fun _ => ?_))
   | exact ih0 _ _ _
   | exact LeO.none _
   | refine LeO.ite ?_ ?_
   | refine LeO.bind ?_ (fun _ => ?_)
theorem haulageref08_SameRow.mono : ∀ a0 a1 k, LeO (haulageref08_SameRow.f k a0 a1) (haulageref08_SameRow.f (k + 1) a0 a1) := by
 intro a0 a1 k
 have ih0 := haulageref08_SameRow.mono_l k
 unfold haulageref08_SameRow.f
 repeat' first | with_reducible (first | exact ih0 .. | exact LeO.refl .. | exact LeO.none .. | refine LeO.ite ?_ ?_ | refine LeO.bind ?_ (fun _ => ?_)) | exact ih0 .. | exact LeO.none .. | refine LeO.ite ?_ ?_ | refine LeO.bind ?_ (fun _ => ?_)
set_option maxHeartbeats 8000000 in
set_option maxRecDepth 100000 in
theorem haulageref08_SameRow.calls (k : Nat) (A0 : Option Addr) (c0 : Nat) (l0 : List (S52)) (A1 : Option Addr) (c1 : Nat) (l1 : List (S52)) (r : Bool) (w : World) (hr0 : Kd.C k52 w A0 l0.length l0) (hc0 : l0.length ≤ c0) (hr1 : Kd.C k52 w A1 l1.length l1) (hc1 : l1.length ≤ c1) (h : haulageref08_SameRow.f k l0 l1 = some r) :
  Calls Tryd.prog 23 #[.slice A0 l0.length c0, .slice A1 l1.length c1] w fun e w' => e = .returned (.bool r) ∧ Drawn0 w w' := by
 have hu52 := Tryd.underlying52
 have HR0 := aM hr0
 have HC0 := aM hc0
 clear hr0 hc0
 have HR1 := aM hr1
 have HC1 := aM hc1
 clear hr1 hc1
 have H : (if (l0.length : Int) = (l1.length : Int) then (haulageref08_SameRow.l0 k l0 l1 0) else (some false)) = some r := h
 clear h
 by_cases c3 : (l0.length : Int) = (l1.length : Int)
 ·
  rw [if_pos c3] at H
  have c3b0 : ((l0.length : Int) == (l1.length : Int)) = true := beq_iff_eq.mpr c3
  have c3b1 : ((l0.length : Int) != (l1.length : Int)) = false := bne_eq_false_iff_eq.mpr c3
  have c3b2 : (l0.length == l1.length) = true := by first | simpa using c3 | (simp at c3 ⊢; omega)
  clear c3
  have H' := aM H
  clear H
  go_enter Tryd.func23, Tryd.ntmps23
  go_wp2
  repeat (go_quiet (fail); try go_wp2)
  go_loopg [5] k (fun kq v5 w' => ∃ (x5_1 : Int), v5 = .int .i64 x5_1 ∧ Aside0 (haulageref08_SameRow.l0 kq l0 l1 x5_1 = some r) ∧ Aside0 (kq ≤ k) ∧ Drawn0 w w')
  case atStart => exact ⟨(0), yS, H', ⟨Nat.le_refl _⟩, yD⟩
  case round =>
   clear H'
   try clear c1
   try clear c3
   try clear c3b0
   try clear c3b1
   try clear c3b2
   obtain ⟨x5_1, rfl, HA, HK1, ⟨m1, rfl⟩⟩ := hrel
   cases gk with
   | zero => exact absurd HA.out (by simp [haulageref08_SameRow.l0])
   | succ k1 =>
    have H := HA.out
    clear HA
    simp only [haulageref08_SameRow.l0] at H
    by_cases c4 : x5_1 < (l0.length : Int)
    ·
     rw [if_pos c4] at H
     have c4b0 : decide (x5_1 < (l0.length : Int)) = true := decide_eq_true c4
     clear c4
     by_cases c5 : 0 ≤ x5_1
     ·
      rw [if_pos c5] at H
      have c5b0 : decide (0 ≤ x5_1) = true := decide_eq_true c5
      clear c5
      by_cases c6 : x5_1 < (l1.length : Int)
      ·
       rw [if_pos c6] at H
       have c6b0 : decide (x5_1 < (l1.length : Int)) = true := decide_eq_true c6
       clear c6
       by_cases c7 : (!(((rd_T52 l0 x5_1).f0) == ((rd_T52 l1 x5_1).f0)) || (!(((rd_T52 l0 x5_1).f1) == ((rd_T52 l1 x5_1).f1)) || (!((((rd_T52 l0 x5_1).f2).toList) == (((rd_T52 l1 x5_1).f2).toList))))) = true
       ·
        rw [if_pos c7] at H
        have c7b0 : (!(((rd_T52 l0 x5_1).f0) == ((rd_T52 l1 x5_1).f0)) || (!(((rd_T52 l0 x5_1).f1) == ((rd_T52 l1 x5_1).f1)) || (!((((rd_T52 l0 x5_1).f2).toList) == (((rd_T52 l1 x5_1).f2).toList))))) = true := c7
        clear c7
        obtain rfl := Option.some.inj H
        have p285 : 0 ≤ (x5_1 : Int) := oD yA
        have q285 : x5_1 < (l0.length : Int) := oD yA
        obtain ⟨ad285, e285, hx285_0, hx285_1, hx285_2⟩ := at_T52 HR0.out x5_1 p285 q285
        cases e285
        replace p285 := eq_true p285
        replace q285 := eq_true q285
        have p286 : 0 ≤ (x5_1 : Int) := oD yA
        have q286 : x5_1 < (l1.length : Int) := oD yA
        obtain ⟨ad286, e286, hx286_0, hx286_1, hx286_2⟩ := at_T52 HR1.out x5_1 p286 q286
        cases e286
        replace p286 := eq_true p286
        replace q286 := eq_true q286
        go_wp2
        repeat (go_quiet (fail); try go_wp2)
        go_ret
        exact ⟨yS, yD⟩
       ·
        rw [if_neg c7] at H
        have c7b0 : (!(((rd_T52 l0 x5_1).f0) == ((rd_T52 l1 x5_1).f0)) || (!(((rd_T52 l0 x5_1).f1) == ((rd_T52 l1 x5_1).f1)) || (!((((rd_T52 l0 x5_1).f2).toList) == (((rd_T52 l1 x5_1).f2).toList))))) = false := by simpa using c7
        clear c7
        have H' := aM H
        clear H
        have p285 : 0 ≤ (x5_1 : Int) := oD yA
        have q285 : x5_1 < (l0.length : Int) := oD yA
        obtain ⟨ad285, e285, hx285_0, hx285_1, hx285_2⟩ := at_T52 HR0.out x5_1 p285 q285
        cases e285
        replace p285 := eq_true p285
        replace q285 := eq_true q285
        have p286 : 0 ≤ (x5_1 : Int) := oD yA
        have q286 : x5_1 < (l1.length : Int) := oD yA
        obtain ⟨ad286, e286, hx286_0, hx286_1, hx286_2⟩ := at_T52 HR1.out x5_1 p286 q286
        cases e286
        replace p286 := eq_true p286
        replace q286 := eq_true q286
        go_wp2
        repeat (go_quiet (fail); try go_wp2)
        go_roundg k1
        case measure => have := HK1.out; omega
        case rel => exact ⟨(wrap64 (x5_1 + 1)), yS, H', ⟨by have := HK1.out; omega⟩, yD⟩
      ·
       rw [if_neg c6] at H
       exact absurd H (by simp)
     ·
      rw [if_neg c5] at H
      exact absurd H (by simp)
    ·
     rw [if_neg c4] at H
     have c4b0 : decide (x5_1 < (l0.length : Int)) = false := decide_eq_false c4
     clear c4
     obtain rfl := Option.some.inj H
     go_wp2
     repeat (go_quiet (fail); try go_wp2)
     go_ret
     exact ⟨yS, yD⟩
 ·
  rw [if_neg c3] at H
  have c3b0 : ((l0.length : Int) == (l1.length : Int)) = false := beq_eq_false_iff_ne.mpr c3
  have c3b1 : ((l0.length : Int) != (l1.length : Int)) = true := bne_iff_ne.mpr c3
  have c3b2 : (l0.length == l1.length) = false := by first | simpa using c3 | (simp at c3 ⊢; omega)
  obtain rfl := Option.some.inj H
  go_enter Tryd.func23, Tryd.ntmps23
  go_wp2
  repeat (go_quiet (fail); try go_wp2)
  go_ret
  exact ⟨yS, yD⟩
end Go.Proofs.YtdeophpjammbpaaDoor.HRowcodeBack

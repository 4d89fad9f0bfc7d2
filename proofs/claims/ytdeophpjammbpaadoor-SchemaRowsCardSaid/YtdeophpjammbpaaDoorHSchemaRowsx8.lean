/- For Go functions that SchemaRows reaches: Lean functions, and walks that show that each call comes to what its Lean function tells; no condition but those that each theorem states. (Made by a program of this session over the kit's print.py.) -/
import Derived.Test.YtdeophpjammbpaaDoorHSchemaRowsx0
import Derived.Test.YtdeophpjammbpaaDoorHSchemaRowsx1
import Derived.Test.YtdeophpjammbpaaDoorHSchemaRowsx5
import Derived.Test.YtdeophpjammbpaaDoorHSchemaRowsx7
namespace Go.Proofs.YtdeophpjammbpaaDoor.HSchemaRows
open Go.RowKit Go.Proofs.YtdeophpjammbpaaDoorW.PrintWords Go.Proofs.YtdeophpjammbpaaDoorW.PrintLast Go.Proofs.YtdeophpjammbpaaDoorW.PrintMore
attribute [local go_sem] max2_int min2_int max_two min_two max_three min_three max_four min_four   -- for this text's walks alone
set_option linter.unusedVariables false
set_option linter.unusedSimpArgs false
attribute [local go_sem] hp_s8 hp_s16 hp_s32 hp_s64 hp_m8 hp_m16 hp_m32 hp_m64
attribute [local go_sem high] eqA52
/-! ### haulageref08_Row: function 17 -/
def haulageref08_Row.l0 : Nat → List (S52) → Int → Int → ByteArray → Int → Int → List (S54) → Option (Int)
 | 0, _, _, _, _, _, _, _ => none
 | k + 1, x1, x5, x163000, x163001, x163002, x163003, x163004 => if x5 < (x1.length : Int) then (if 0 ≤ x5 then (if (((rd_T52 x1 x5).f0) == 0 && (((rd_T52 x1 x5).f1) == 0 && ((((rd_T52 x1 x5).f2).toList) == ([] : List UInt8)))) = true then (if x5 < (x163004.length : Int) then (if ((rd_T54 x163004 x5).f3 = true) then (haulageref08_Row.l0 k x1 (wrap64 (x5 + 1)) x163000 x163001 x163002 x163003 x163004) else (some 11)) else (none)) else (if x5 < (x163004.length : Int) then ((haulageref06_Fits.f k ((rd_T54 x163004 x5).f2.f0) ((rd_T54 x163004 x5).f2.f1) ((rd_T52 x1 x5).f0) ((rd_T52 x1 x5).f1) ((rd_T52 x1 x5).f2)).bind fun t168 => (if t168 = true then (haulageref08_Row.l0 k x1 (wrap64 (x5 + 1)) x163000 x163001 x163002 x163003 x163004) else (some 10))) else (none))) else (none)) else (some 0)
def haulageref08_Row.f (k : Nat) (a0_0 : Int) (a0_1 : ByteArray) (a0_2 : Int) (a0_3 : Int) (l0_4 : List (S54)) (l1 : List (S52)) : Option (Int) := (haulageref08_Table.f k a0_0 a0_1 a0_2 a0_3 l0_4).bind fun t163 => (if t163 = true then (if (l1.length : Int) = (l0_4.length : Int) then (haulageref08_Row.l0 k l1 0 a0_0 a0_1 a0_2 a0_3 l0_4) else (some 5)) else (some 2))
theorem haulageref08_Row.mono_l : ∀ k, (∀ y0 y1 y2 y3 y4 y5 y6, LeO (haulageref08_Row.l0 k y0 y1 y2 y3 y4 y5 y6) (haulageref08_Row.l0 (k + 1) y0 y1 y2 y3 y4 y5 y6))
 | 0 => fun _ _ _ _ _ _ _ r h => by simp [haulageref08_Row.l0] at h
 | k + 1 => by
  have ih0 := haulageref08_Row.mono_l k
  ·
   intro y0 y1 y2 y3 y4 y5 y6
   unfold haulageref08_Row.l0
   repeat' first
   | (with_reducible exact ih0 _ _ _ _ _ _ _)
   | (with_reducible exact haulageref06_Fits.mono _ _ _ _ _ _)
   | (with_reducible exact haulageref08_Table.mono _ _ _ _ _ _)
   | (with_reducible exact LeO.refl _)
   | (with_reducible exact LeO.none _)
   | (with_reducible refine LeO.ite ?_ ?_)
   | (with_reducible refine LeO.bind ?_ (fun _ => ?_))
   | exact ih0 _ _ _ _ _ _ _
   | exact haulageref06_Fits.mono _ _ _ _ _ _
   | exact haulageref08_Table.mono _ _ _ _ _ _
   | exact LeO.none _
   | refine LeO.ite ?_ ?_
   | refine LeO.bind ?_ (fun _ => ?_)
theorem haulageref08_Row.mono : ∀ a0 a1 a2 a3 a4 a5 k, LeO (haulageref08_Row.f k a0 a1 a2 a3 a4 a5) (haulageref08_Row.f (k + 1) a0 a1 a2 a3 a4 a5) := by
 intro a0 a1 a2 a3 a4 a5 k
 have ih0 := haulageref08_Row.mono_l k
 unfold haulageref08_Row.f
 repeat' first
   | (with_reducible exact ih0 _ _ _ _ _ _ _)
   | (with_reducible exact haulageref06_Fits.mono _ _ _ _ _ _)
   | (with_reducible exact haulageref08_Table.mono _ _ _ _ _ _)
   | (with_reducible exact LeO.refl _)
   | (with_reducible exact LeO.none _)
   | (with_reducible refine LeO.ite ?_ ?_)
   | (with_reducible refine LeO.bind ?_ (fun _ => ?_))
   | exact ih0 _ _ _ _ _ _ _
   | exact haulageref06_Fits.mono _ _ _ _ _ _
   | exact haulageref08_Table.mono _ _ _ _ _ _
   | exact LeO.none _
   | refine LeO.ite ?_ ?_
   | refine LeO.bind ?_ (fun _ => ?_)
def haulageref08_Row.T11 : Bool × List (List Nat × List Nat) := (true, [([], []), ([0], [0]), ([], []), ([1, 2], [1, 2]), ([3], [3]), ([4], [4]), ([], []), ([], []), ([6, 7], [6, 7]), ([8], [8]), ([5, 9], [5, 9]), ([10], [10])])
def haulageref08_Row.B11 : List Nat := [0, 1, 0, 7, 15, 31, 0, 0, 192, 448, 1023, 2047]
theorem haulageref08_Row.tab11 : rtab .any (opsOf Tryd.f17 11) = haulageref08_Row.T11 := by kernel_rfl
theorem haulageref08_Row.bits11 : waitsOk haulageref08_Row.T11.2 haulageref08_Row.B11 = true := by kernel_rfl
set_option maxHeartbeats 8000000 in
set_option maxRecDepth 100000 in
theorem haulageref08_Row.calls (k : Nat) (a0_0 : Int) (a0_1 : ByteArray) (a0_2 : Int) (a0_3 : Int) (A0_4 : Option Addr) (c0_4 : Nat) (l0_4 : List (S54)) (A1 : Option Addr) (c1 : Nat) (l1 : List (S52)) (r : Int) (w : World) (hr0_4 : Kd.C k54 w A0_4 l0_4.length l0_4) (hc0_4 : l0_4.length ≤ c0_4) (hr1 : Kd.C k52 w A1 l1.length l1) (hc1 : l1.length ≤ c1) (h : haulageref08_Row.f k a0_0 a0_1 a0_2 a0_3 l0_4 l1 = some r) :
  Calls Tryd.prog 17 #[.agg #[.int .i64 a0_0, .string a0_1, .int .i64 a0_2, .int .i64 a0_3, .slice A0_4 l0_4.length c0_4], .slice A1 l1.length c1] w fun e w' => e = .returned (.int .i64 r) ∧ Below w.heap.size w w' := by
 have hu24 := Tryd.underlying24
 have hu52 := Tryd.underlying52
 have hu50 := Tryd.underlying50
 have HR0_4 := aM hr0_4
 have HC0_4 := aM hc0_4
 clear hr0_4 hc0_4
 have HR1 := aM hr1
 have HC1 := aM hc1
 clear hr1 hc1
 have HB := aM (Below.refl w.heap.size w)
 have H : ((haulageref08_Table.f k a0_0 a0_1 a0_2 a0_3 l0_4).bind fun t163 => (if t163 = true then (if (l1.length : Int) = (l0_4.length : Int) then (haulageref08_Row.l0 k l1 0 a0_0 a0_1 a0_2 a0_3 l0_4) else (some 5)) else (some 2))) = some r := h
 clear h
 replace H := Option.bind_eq_some_iff.mp H
 obtain ⟨t163, A30, H⟩ := H
 replace H : (if t163 = true then (if (l1.length : Int) = (l0_4.length : Int) then (haulageref08_Row.l0 k l1 0 a0_0 a0_1 a0_2 a0_3 l0_4) else (some 5)) else (some 2)) = some r := H
 have A3 := aM A30
 clear A30
 by_cases c4 : t163 = true
 ·
  subst c4
  have H1 : (if (l1.length : Int) = (l0_4.length : Int) then (haulageref08_Row.l0 k l1 0 a0_0 a0_1 a0_2 a0_3 l0_4) else (some 5)) = some r := by rw [if_pos rfl] at H; exact H
  clear H
  have H := H1
  clear H1
  by_cases c5 : (l1.length : Int) = (l0_4.length : Int)
  ·
   rw [if_pos c5] at H
   have c5b0 : ((l1.length : Int) == (l0_4.length : Int)) = true := beq_iff_eq.mpr c5
   have c5b1 : ((l1.length : Int) != (l0_4.length : Int)) = false := bne_eq_false_iff_eq.mpr c5
   have c5b2 : (l1.length == l0_4.length) = true := by first | simpa using c5 | (simp at c5 ⊢; omega)
   clear c5
   have H' := aM H
   clear H
   go_enter Tryd.func17, Tryd.ntmps17
   go_wp2_with (first | ((with_reducible refine gate_dst (N := 2) rfl ?_); refine yX (N := 2) (cs := #[.int .i64 a0_0, .string a0_1, .int .i64 a0_2, .int .i64 a0_3, .slice A0_4 l0_4.length c0_4]) (t := 24) ?_; intro gb162 hg w6 hbox hb; have BK162 := aM (hbox); have GW162 := yZ hg (yB HB); have GE162 := yZ hg (yB HB); replace HB := aM (bP (yB HB) hb); clear hb hbox hg; obtain ⟨hcz7_0, hcz7_1, hcz7_2, hcz7_3, hcz7_4, hfz7_0, hfz7_1, hfz7_2, hfz7_3, hfz7_4⟩ := cells5 BK162.out) | ((with_reducible refine gate_callee (f := 27) rfl ?_); refine yC 7 Tryd.func27 #[.agg #[.int .i64 a0_0, .string a0_1, .int .i64 a0_2, .int .i64 a0_3, .slice A0_4 l0_4.length c0_4]] rfl ?_; (with_reducible refine (haulageref08_Table.calls k a0_0 a0_1 a0_2 a0_3 _ _ l0_4 true _ ?side1 ?side2 A3.out).mono ?_); (case side1 => exact yW (Kd.C_below HR0_4.out HB.out)); (case side2 => exact HC0_4.out); rintro e w8 ⟨rfl, hb⟩; refine ⟨_, rfl, ?_⟩; replace BK162 := aM (kB (yK BK162) hb); replace HB := aM (bP (yG1 HB GE162.out) hb); (try clear hb); obtain ⟨hcz9_0, hcz9_1, hcz9_2, hcz9_3, hcz9_4, hfz9_0, hfz9_1, hfz9_2, hfz9_3, hfz9_4⟩ := cells5 BK162.out))
   go_loopg [5] k (fun kq v5 w' => ∃ (x5_1 : Int), v5 = .int .i64 x5_1 ∧ Aside0 (haulageref08_Row.l0 kq l1 x5_1 a0_0 a0_1 a0_2 a0_3 l0_4 = some r) ∧ Aside0 (kq ≤ k) ∧ Aside0 (w'.heap[gb162]? = some (.cells #[.int .i64 a0_0, .string a0_1, .int .i64 a0_2, .int .i64 a0_3, (.slice A0_4 l0_4.length c0_4)] 24 (0, 0))) ∧ Aside0 (Below w.heap.size w w'))
   case atStart => exact ⟨(0), yS, H', ⟨Nat.le_refl _⟩, ⟨yK BK162⟩, ⟨yG1 HB GE162.out⟩⟩
   case round =>
    clear H'
    try clear c1
    try clear c2
    try clear p2
    try clear c4
    try clear c5
    try clear c5b0
    try clear c5b1
    try clear c5b2
    try clear hcz7_0 hcz7_1 hcz7_2 hcz7_3 hcz7_4
    try clear hcz9_0 hcz9_1 hcz9_2 hcz9_3 hcz9_4
    try clear hfz7_0 hfz7_1 hfz7_2 hfz7_3 hfz7_4
    try clear hfz9_0 hfz9_1 hfz9_2 hfz9_3 hfz9_4
    obtain ⟨x5_1, rfl, HA, HK1, BK162, HB⟩ := hrel
    cases gk with
    | zero => exact absurd HA.out (by simp [haulageref08_Row.l0])
    | succ k1 =>
     have H := HA.out
     clear HA
     simp only [haulageref08_Row.l0] at H
     by_cases c10 : x5_1 < (l1.length : Int)
     ·
      rw [if_pos c10] at H
      have c10b0 : decide (x5_1 < (l1.length : Int)) = true := decide_eq_true c10
      clear c10
      by_cases c11 : 0 ≤ x5_1
      ·
       rw [if_pos c11] at H
       have c11b0 : decide (0 ≤ x5_1) = true := decide_eq_true c11
       clear c11
       by_cases c12 : (((rd_T52 l1 x5_1).f0) == 0 && (((rd_T52 l1 x5_1).f1) == 0 && ((((rd_T52 l1 x5_1).f2).toList) == ([] : List UInt8)))) = true
       ·
        rw [if_pos c12] at H
        have c12b0 : (((rd_T52 l1 x5_1).f0) == 0 && (((rd_T52 l1 x5_1).f1) == 0 && ((((rd_T52 l1 x5_1).f2).toList) == ([] : List UInt8)))) = true := c12
        (try have c12b0_e : (((rd_T52 l1 x5_1).f0) == 0 && (((rd_T52 l1 x5_1).f1) == 0 && (((((rd_T52 l1 x5_1).f2).toList).isEmpty)))) = true := by have h_ := c12b0; simp only [hp_nil] at h_; exact h_)
        (try (have c12b1 : decide (((rd_T52 l1 x5_1).f0) = 0 && (((rd_T52 l1 x5_1).f1) == 0 && ((((rd_T52 l1 x5_1).f2).toList) == ([] : List UInt8)))) = true := by simpa using c12))
        (try have c12b1_e : decide (((rd_T52 l1 x5_1).f0) = 0 && (((rd_T52 l1 x5_1).f1) == 0 && (((((rd_T52 l1 x5_1).f2).toList).isEmpty)))) = true := by have h_ := c12b1; simp only [hp_nil] at h_; exact h_)
        (try (have c12b2 : (((rd_T52 l1 x5_1).f0) == 0 && (((rd_T52 l1 x5_1).f1) == 0 && ((((rd_T52 l1 x5_1).f2).toList) == ([] : List UInt8)))) = true := by simpa using c12))
        (try have c12b2_e : (((rd_T52 l1 x5_1).f0) == 0 && (((rd_T52 l1 x5_1).f1) == 0 && (((((rd_T52 l1 x5_1).f2).toList).isEmpty)))) = true := by have h_ := c12b2; simp only [hp_nil] at h_; exact h_)
        clear c12
        by_cases c13 : x5_1 < (l0_4.length : Int)
        ·
         rw [if_pos c13] at H
         have c13b0 : decide (x5_1 < (l0_4.length : Int)) = true := decide_eq_true c13
         clear c13
         obtain ⟨bq14, hbq14⟩ : ∃ b_ : Bool, b_ = ((rd_T54 l0_4 x5_1).f3) := ⟨_, rfl⟩
         replace H : (if (bq14 = true) then (haulageref08_Row.l0 k1 l1 (wrap64 (x5_1 + 1)) a0_0 a0_1 a0_2 a0_3 l0_4) else (some 11)) = some r := by rw [← hbq14] at H; exact H
         have Nbq14 := aM hbq14
         clear hbq14
         by_cases c15 : (bq14 = true)
         ·
          subst c15
          have H1 : (haulageref08_Row.l0 k1 l1 (wrap64 (x5_1 + 1)) a0_0 a0_1 a0_2 a0_3 l0_4) = some r := by rw [if_pos rfl] at H; exact H
          clear H
          have H := H1
          clear H1
          have H' := aM H
          clear H
          have p164 : 0 ≤ (x5_1 : Int) := oD yA
          have q164 : x5_1 < (l1.length : Int) := oD yA
          obtain ⟨ad164, e164, hx164_0, hx164_1, hx164_2⟩ := at_T52 HR1.out x5_1 p164 q164
          cases e164
          replace hx164_0 := pw_cell_below HB.out hx164_0
          replace hx164_1 := pw_cell_below HB.out hx164_1
          replace hx164_2 := pw_cell_below HB.out hx164_2
          replace p164 := eq_true p164
          replace q164 := eq_true q164
          obtain ⟨hcz16_0, hcz16_1, hcz16_2, hcz16_3, hcz16_4, hfz16_0, hfz16_1, hfz16_2, hfz16_3, hfz16_4⟩ := cells5 BK162.out
          have p165 : 0 ≤ (x5_1 : Int) := oD yA
          have q165 : x5_1 < (l0_4.length : Int) := oD yA
          obtain ⟨ad165, e165, hx165_0, hx165_1, hx165_2, hx165_3, hx165_4, hx165_5, hx165_6, hx165_7⟩ := at_T54 HR0_4.out x5_1 p165 q165
          (try rw [← Nbq14.out] at hx165_4)
          cases e165
          replace hx165_0 := pw_cell_below HB.out hx165_0
          replace hx165_1 := pw_cell_below HB.out hx165_1
          replace hx165_2 := pw_cell_below HB.out hx165_2
          replace hx165_3 := pw_cell_below HB.out hx165_3
          replace hx165_4 := pw_cell_below HB.out hx165_4
          replace hx165_5 := pw_cell_below HB.out hx165_5
          replace hx165_6 := pw_cell_below HB.out hx165_6
          replace hx165_7 := pw_cell_below HB.out hx165_7
          replace p165 := eq_true p165
          replace q165 := eq_true q165
          go_wp2
          go_roundg k1
          case measure => have := HK1.out; omega
          case rel => exact ⟨(wrap64 (x5_1 + 1)), yS, H', ⟨by have := HK1.out; omega⟩, ⟨yK BK162⟩, ⟨yG1 HB GE162.out⟩⟩
         ·
          replace c15 := Bool.eq_false_iff.mpr c15
          subst c15
          have H1 : (some 11) = some r := by rw [if_neg (show ¬ (false = true) by decide)] at H; exact H
          clear H
          have H := H1
          clear H1
          obtain rfl := Option.some.inj H
          have p164 : 0 ≤ (x5_1 : Int) := oD yA
          have q164 : x5_1 < (l1.length : Int) := oD yA
          obtain ⟨ad164, e164, hx164_0, hx164_1, hx164_2⟩ := at_T52 HR1.out x5_1 p164 q164
          cases e164
          replace hx164_0 := pw_cell_below HB.out hx164_0
          replace hx164_1 := pw_cell_below HB.out hx164_1
          replace hx164_2 := pw_cell_below HB.out hx164_2
          replace p164 := eq_true p164
          replace q164 := eq_true q164
          obtain ⟨hcz17_0, hcz17_1, hcz17_2, hcz17_3, hcz17_4, hfz17_0, hfz17_1, hfz17_2, hfz17_3, hfz17_4⟩ := cells5 BK162.out
          have p165 : 0 ≤ (x5_1 : Int) := oD yA
          have q165 : x5_1 < (l0_4.length : Int) := oD yA
          obtain ⟨ad165, e165, hx165_0, hx165_1, hx165_2, hx165_3, hx165_4, hx165_5, hx165_6, hx165_7⟩ := at_T54 HR0_4.out x5_1 p165 q165
          (try rw [← Nbq14.out] at hx165_4)
          cases e165
          replace hx165_0 := pw_cell_below HB.out hx165_0
          replace hx165_1 := pw_cell_below HB.out hx165_1
          replace hx165_2 := pw_cell_below HB.out hx165_2
          replace hx165_3 := pw_cell_below HB.out hx165_3
          replace hx165_4 := pw_cell_below HB.out hx165_4
          replace hx165_5 := pw_cell_below HB.out hx165_5
          replace hx165_6 := pw_cell_below HB.out hx165_6
          replace hx165_7 := pw_cell_below HB.out hx165_7
          replace p165 := eq_true p165
          replace q165 := eq_true q165
          go_wp2
          go_ret
          exact ⟨yE, yG1 HB GE162.out⟩
        ·
         rw [if_neg c13] at H
         exact absurd H (by simp)
       ·
        rw [if_neg c12] at H
        have c12b0 : (((rd_T52 l1 x5_1).f0) == 0 && (((rd_T52 l1 x5_1).f1) == 0 && ((((rd_T52 l1 x5_1).f2).toList) == ([] : List UInt8)))) = false := by simpa using c12
        (try have c12b0_e : (((rd_T52 l1 x5_1).f0) == 0 && (((rd_T52 l1 x5_1).f1) == 0 && (((((rd_T52 l1 x5_1).f2).toList).isEmpty)))) = false := by have h_ := c12b0; simp only [hp_nil] at h_; exact h_)
        (try (have c12b1 : decide (((rd_T52 l1 x5_1).f0) = 0 && (((rd_T52 l1 x5_1).f1) == 0 && ((((rd_T52 l1 x5_1).f2).toList) == ([] : List UInt8)))) = false := by simpa using c12))
        (try have c12b1_e : decide (((rd_T52 l1 x5_1).f0) = 0 && (((rd_T52 l1 x5_1).f1) == 0 && (((((rd_T52 l1 x5_1).f2).toList).isEmpty)))) = false := by have h_ := c12b1; simp only [hp_nil] at h_; exact h_)
        (try (have c12b2 : (((rd_T52 l1 x5_1).f0) == 0 && (((rd_T52 l1 x5_1).f1) == 0 && ((((rd_T52 l1 x5_1).f2).toList) == ([] : List UInt8)))) = false := by simpa using c12))
        (try have c12b2_e : (((rd_T52 l1 x5_1).f0) == 0 && (((rd_T52 l1 x5_1).f1) == 0 && (((((rd_T52 l1 x5_1).f2).toList).isEmpty)))) = false := by have h_ := c12b2; simp only [hp_nil] at h_; exact h_)
        (try (have c12b3 : ¬ (((rd_T52 l1 x5_1).f0) = 0 && (((rd_T52 l1 x5_1).f1) == 0 && ((((rd_T52 l1 x5_1).f2).toList) == ([] : List UInt8)))) := by simpa using c12))
        (try have c12b3_e : ¬ (((rd_T52 l1 x5_1).f0) = 0 && (((rd_T52 l1 x5_1).f1) == 0 && (((((rd_T52 l1 x5_1).f2).toList).isEmpty)))) := by have h_ := c12b3; simp only [hp_nil] at h_; exact h_)
        clear c12
        by_cases c18 : x5_1 < (l0_4.length : Int)
        ·
         rw [if_pos c18] at H
         have c18b0 : decide (x5_1 < (l0_4.length : Int)) = true := decide_eq_true c18
         clear c18
         replace H := Option.bind_eq_some_iff.mp H
         obtain ⟨t168, A190, H⟩ := H
         replace H : (if t168 = true then (haulageref08_Row.l0 k1 l1 (wrap64 (x5_1 + 1)) a0_0 a0_1 a0_2 a0_3 l0_4) else (some 10)) = some r := H
         have A19 := aM A190
         clear A190
         by_cases c20 : t168 = true
         ·
          subst c20
          have H1 : (haulageref08_Row.l0 k1 l1 (wrap64 (x5_1 + 1)) a0_0 a0_1 a0_2 a0_3 l0_4) = some r := by rw [if_pos rfl] at H; exact H
          clear H
          have H := H1
          clear H1
          have H' := aM H
          clear H
          have p164 : 0 ≤ (x5_1 : Int) := oD yA
          have q164 : x5_1 < (l1.length : Int) := oD yA
          obtain ⟨ad164, e164, hx164_0, hx164_1, hx164_2⟩ := at_T52 HR1.out x5_1 p164 q164
          cases e164
          replace hx164_0 := pw_cell_below HB.out hx164_0
          replace hx164_1 := pw_cell_below HB.out hx164_1
          replace hx164_2 := pw_cell_below HB.out hx164_2
          replace p164 := eq_true p164
          replace q164 := eq_true q164
          try go_wp2
          have n0_ := aM (kD BK162.out)
          have n1_ := aM (b1 HB.out)
          clear BK162
          clear HB
          have BK162 := n0_
          have HB := n1_
          clear n0_ n1_
          have p166 : 0 ≤ (x5_1 : Int) := oD yA
          have q166 : x5_1 < (l0_4.length : Int) := oD yA
          obtain ⟨ad166, e166, hx166_0, hx166_1, hx166_2, hx166_3, hx166_4, hx166_5, hx166_6, hx166_7⟩ := at_T54 HR0_4.out x5_1 p166 q166
          have hw166_7 := hx166_7
          have hw166_6 := hx166_6
          have hw166_5 := hx166_5
          have hw166_4 := hx166_4
          have hw166_3 := hx166_3
          have hw166_2 := hx166_2
          have hw166_1 := hx166_1
          have hw166_0 := hx166_0
          cases e166
          replace hx166_0 := pw_cell_below HB.out hx166_0
          replace hx166_1 := pw_cell_below HB.out hx166_1
          replace hx166_2 := pw_cell_below HB.out hx166_2
          replace hx166_3 := pw_cell_below HB.out hx166_3
          replace hx166_4 := pw_cell_below HB.out hx166_4
          replace hx166_5 := pw_cell_below HB.out hx166_5
          replace hx166_6 := pw_cell_below HB.out hx166_6
          replace hx166_7 := pw_cell_below HB.out hx166_7
          replace p166 := eq_true p166
          replace q166 := eq_true q166
          have p167 : 0 ≤ (x5_1 : Int) := oD yA
          have q167 : x5_1 < (l1.length : Int) := oD yA
          obtain ⟨ad167, e167, hx167_0, hx167_1, hx167_2⟩ := at_T52 HR1.out x5_1 p167 q167
          have hw167_2 := hx167_2
          have hw167_1 := hx167_1
          have hw167_0 := hx167_0
          obtain rfl : ad164 = ad167 := (by injection e167)
          replace hx167_0 := pw_cell_below HB.out hx167_0
          replace hx167_1 := pw_cell_below HB.out hx167_1
          replace hx167_2 := pw_cell_below HB.out hx167_2
          replace p167 := eq_true p167
          replace q167 := eq_true q167
          refine start_ (n := 12) (S := fun w' => w'.cell? ⟨gb162, 0, none⟩ = some (.int .i64 a0_0) ∧ w'.cell? ⟨gb162, 1, none⟩ = some (.string a0_1) ∧ w'.cell? ⟨gb162, 2, none⟩ = some (.int .i64 a0_2) ∧ w'.cell? ⟨gb162, 3, none⟩ = some (.int .i64 a0_3) ∧ w'.cell? ⟨gb162, 4, none⟩ = some (.slice (some ad166) l0_4.length c0_4) ∧ w'.cell? (ad166.add ((x5_1).toNat * 8)) = some (.int .i64 ((rd_T54 l0_4 x5_1).f0)) ∧ w'.cell? ⟨(ad166.add ((x5_1).toNat * 8)).block, (ad166.add ((x5_1).toNat * 8)).off + 1, none⟩ = some (.string ((rd_T54 l0_4 x5_1).f1)) ∧ w'.cell? ⟨(ad166.add ((x5_1).toNat * 8)).block, (ad166.add ((x5_1).toNat * 8)).off + 2, none⟩ = some (.int .i64 ((rd_T54 l0_4 x5_1).f2.f0)) ∧ w'.cell? ⟨(ad166.add ((x5_1).toNat * 8)).block, (ad166.add ((x5_1).toNat * 8)).off + 3, none⟩ = some (.int .i64 ((rd_T54 l0_4 x5_1).f2.f1)) ∧ w'.cell? ⟨(ad166.add ((x5_1).toNat * 8)).block, (ad166.add ((x5_1).toNat * 8)).off + 4, none⟩ = some (.bool ((rd_T54 l0_4 x5_1).f3)) ∧ w'.cell? ⟨(ad166.add ((x5_1).toNat * 8)).block, (ad166.add ((x5_1).toNat * 8)).off + 5, none⟩ = some (.int .i64 ((rd_T54 l0_4 x5_1).f4.f0)) ∧ w'.cell? ⟨(ad166.add ((x5_1).toNat * 8)).block, (ad166.add ((x5_1).toNat * 8)).off + 6, none⟩ = some (.int .i64 ((rd_T54 l0_4 x5_1).f4.f1)) ∧ w'.cell? ⟨(ad166.add ((x5_1).toNat * 8)).block, (ad166.add ((x5_1).toNat * 8)).off + 7, none⟩ = some (.string ((rd_T54 l0_4 x5_1).f4.f2)) ∧ w'.cell? (ad164.add ((x5_1).toNat * 3)) = some (.int .i64 ((rd_T52 l1 x5_1).f0)) ∧ w'.cell? ⟨(ad164.add ((x5_1).toNat * 3)).block, (ad164.add ((x5_1).toNat * 3)).off + 1, none⟩ = some (.int .i64 ((rd_T52 l1 x5_1).f1)) ∧ w'.cell? ⟨(ad164.add ((x5_1).toNat * 3)).block, (ad164.add ((x5_1).toNat * 3)).off + 2, none⟩ = some (.string ((rd_T52 l1 x5_1).f2))) (ds := []) (tB 0 12) (by kernel_rfl) rfl rfl ⟨yV BK162 0, yV BK162 1, yV BK162 2, yV BK162 3, yV BK162 4, (pw_cell_below HB.out hw166_0), (pw_cell_below HB.out hw166_1), (pw_cell_below HB.out hw166_2), (pw_cell_below HB.out hw166_3), (pw_cell_below HB.out hw166_4), (pw_cell_below HB.out hw166_5), (pw_cell_below HB.out hw166_6), (pw_cell_below HB.out hw166_7), (pw_cell_below HB.out hw167_0), (pw_cell_below HB.out hw167_1), (pw_cell_below HB.out hw167_2)⟩ (fun hHeld => ?_); refine with_tabW haulageref08_Row.tab11 haulageref08_Row.bits11 (fun HT_ HW_ => ?_)
          generalize wr.drew = w21 at BK162 HB hx166_0 hx166_1 hx166_2 hx166_3 hx166_4 hx166_5 hx166_6 hx166_7 hx167_0 hx167_1 hx167_2 hHeld ⊢
          refine yP HT_ 0 34 (tB 1 12) rfl rfl ?_
          refine yP HT_ 2 36 (tB 5 12) rfl rfl ?_
          refine yP HT_ 6 40 (tB 69 12) rfl rfl ?_
          refine yP HT_ 7 41 (tB 197 12) rfl rfl ?_
          refine yP HT_ 8 42 (tB 453 12) rfl rfl ?_
          refine yT HT_ HW_ 1 35 (tB 455 12) rfl rfl hHeld ?_
          refine yP HT_ 3 37 (tB 463 12) rfl rfl ?_
          refine yP HT_ 4 38 (tB 479 12) rfl rfl ?_
          refine yT HT_ HW_ 5 39 (tB 511 12) rfl rfl hHeld ?_
          refine yT HT_ HW_ 9 43 (tB 1023 12) rfl rfl hHeld ?_
          refine yI HT_ 10 (tB 2047 12) rfl rfl fun K hK => ?_
          refine yc Tryd.func57 #[.agg #[.int .i64 ((rd_T54 l0_4 x5_1).f2.f0), .int .i64 ((rd_T54 l0_4 x5_1).f2.f1)], .agg #[.int .i64 ((rd_T52 l1 x5_1).f0), .int .i64 ((rd_T52 l1 x5_1).f1), .string ((rd_T52 l1 x5_1).f2)]] rfl rfl ?_
          with_reducible refine (haulageref06_Fits.calls k1 ((rd_T54 l0_4 x5_1).f2.f0) ((rd_T54 l0_4 x5_1).f2.f1) ((rd_T52 l1 x5_1).f0) ((rd_T52 l1 x5_1).f1) ((rd_T52 l1 x5_1).f2) true _ A19.out).mono ?_
          rintro e w22 ⟨rfl, hb⟩
          refine ⟨_, rfl, ?_⟩
          have n0_ := aM (kB (yK BK162) hb)
          have n1_ := aM (bP (yG1 HB GE162.out) hb)
          clear BK162
          clear HB
          have BK162 := n0_
          have HB := n1_
          clear n0_ n1_
          (try clear hb)
          (try clear hb2)
          (try clear hk)
          (try clear hi)
          refine hK.out _ _ ⟨yV BK162 0, yV BK162 1, yV BK162 2, yV BK162 3, yV BK162 4, (pw_cell_below HB.out hw166_0), (pw_cell_below HB.out hw166_1), (pw_cell_below HB.out hw166_2), (pw_cell_below HB.out hw166_3), (pw_cell_below HB.out hw166_4), (pw_cell_below HB.out hw166_5), (pw_cell_below HB.out hw166_6), (pw_cell_below HB.out hw166_7), (pw_cell_below HB.out hw167_0), (pw_cell_below HB.out hw167_1), (pw_cell_below HB.out hw167_2)⟩ (fun hHeld => ?_)
          clear hK K
          refine norm_ (a' := ?_) ?_ ?_
          rotate_left
          ·
           show Act.put _ (some 44) _ = _
           simp only [Act.put, s1_, s2_, s3_, i64_w, i32_w]
           rfl
          refine yP HT_ 11 45 (tB 4095 12) rfl rfl ?_
          refine done_ (done_of HT_.out (by kernel_rfl)) ?_
          try go_wp2
          go_roundg k1
          case measure => have := HK1.out; omega
          case rel => exact ⟨(wrap64 (x5_1 + 1)), yS, H', ⟨by have := HK1.out; omega⟩, ⟨yK BK162⟩, ⟨yG1 HB GE162.out⟩⟩
         ·
          replace c20 := Bool.eq_false_iff.mpr c20
          subst c20
          have H1 : (some 10) = some r := by rw [if_neg (show ¬ (false = true) by decide)] at H; exact H
          clear H
          have H := H1
          clear H1
          obtain rfl := Option.some.inj H
          have p164 : 0 ≤ (x5_1 : Int) := oD yA
          have q164 : x5_1 < (l1.length : Int) := oD yA
          obtain ⟨ad164, e164, hx164_0, hx164_1, hx164_2⟩ := at_T52 HR1.out x5_1 p164 q164
          cases e164
          replace hx164_0 := pw_cell_below HB.out hx164_0
          replace hx164_1 := pw_cell_below HB.out hx164_1
          replace hx164_2 := pw_cell_below HB.out hx164_2
          replace p164 := eq_true p164
          replace q164 := eq_true q164
          try go_wp2
          have n0_ := aM (kD BK162.out)
          have n1_ := aM (b1 HB.out)
          clear BK162
          clear HB
          have BK162 := n0_
          have HB := n1_
          clear n0_ n1_
          have p166 : 0 ≤ (x5_1 : Int) := oD yA
          have q166 : x5_1 < (l0_4.length : Int) := oD yA
          obtain ⟨ad166, e166, hx166_0, hx166_1, hx166_2, hx166_3, hx166_4, hx166_5, hx166_6, hx166_7⟩ := at_T54 HR0_4.out x5_1 p166 q166
          have hw166_7 := hx166_7
          have hw166_6 := hx166_6
          have hw166_5 := hx166_5
          have hw166_4 := hx166_4
          have hw166_3 := hx166_3
          have hw166_2 := hx166_2
          have hw166_1 := hx166_1
          have hw166_0 := hx166_0
          cases e166
          replace hx166_0 := pw_cell_below HB.out hx166_0
          replace hx166_1 := pw_cell_below HB.out hx166_1
          replace hx166_2 := pw_cell_below HB.out hx166_2
          replace hx166_3 := pw_cell_below HB.out hx166_3
          replace hx166_4 := pw_cell_below HB.out hx166_4
          replace hx166_5 := pw_cell_below HB.out hx166_5
          replace hx166_6 := pw_cell_below HB.out hx166_6
          replace hx166_7 := pw_cell_below HB.out hx166_7
          replace p166 := eq_true p166
          replace q166 := eq_true q166
          have p167 : 0 ≤ (x5_1 : Int) := oD yA
          have q167 : x5_1 < (l1.length : Int) := oD yA
          obtain ⟨ad167, e167, hx167_0, hx167_1, hx167_2⟩ := at_T52 HR1.out x5_1 p167 q167
          have hw167_2 := hx167_2
          have hw167_1 := hx167_1
          have hw167_0 := hx167_0
          obtain rfl : ad164 = ad167 := (by injection e167)
          replace hx167_0 := pw_cell_below HB.out hx167_0
          replace hx167_1 := pw_cell_below HB.out hx167_1
          replace hx167_2 := pw_cell_below HB.out hx167_2
          replace p167 := eq_true p167
          replace q167 := eq_true q167
          refine start_ (n := 12) (S := fun w' => w'.cell? ⟨gb162, 0, none⟩ = some (.int .i64 a0_0) ∧ w'.cell? ⟨gb162, 1, none⟩ = some (.string a0_1) ∧ w'.cell? ⟨gb162, 2, none⟩ = some (.int .i64 a0_2) ∧ w'.cell? ⟨gb162, 3, none⟩ = some (.int .i64 a0_3) ∧ w'.cell? ⟨gb162, 4, none⟩ = some (.slice (some ad166) l0_4.length c0_4) ∧ w'.cell? (ad166.add ((x5_1).toNat * 8)) = some (.int .i64 ((rd_T54 l0_4 x5_1).f0)) ∧ w'.cell? ⟨(ad166.add ((x5_1).toNat * 8)).block, (ad166.add ((x5_1).toNat * 8)).off + 1, none⟩ = some (.string ((rd_T54 l0_4 x5_1).f1)) ∧ w'.cell? ⟨(ad166.add ((x5_1).toNat * 8)).block, (ad166.add ((x5_1).toNat * 8)).off + 2, none⟩ = some (.int .i64 ((rd_T54 l0_4 x5_1).f2.f0)) ∧ w'.cell? ⟨(ad166.add ((x5_1).toNat * 8)).block, (ad166.add ((x5_1).toNat * 8)).off + 3, none⟩ = some (.int .i64 ((rd_T54 l0_4 x5_1).f2.f1)) ∧ w'.cell? ⟨(ad166.add ((x5_1).toNat * 8)).block, (ad166.add ((x5_1).toNat * 8)).off + 4, none⟩ = some (.bool ((rd_T54 l0_4 x5_1).f3)) ∧ w'.cell? ⟨(ad166.add ((x5_1).toNat * 8)).block, (ad166.add ((x5_1).toNat * 8)).off + 5, none⟩ = some (.int .i64 ((rd_T54 l0_4 x5_1).f4.f0)) ∧ w'.cell? ⟨(ad166.add ((x5_1).toNat * 8)).block, (ad166.add ((x5_1).toNat * 8)).off + 6, none⟩ = some (.int .i64 ((rd_T54 l0_4 x5_1).f4.f1)) ∧ w'.cell? ⟨(ad166.add ((x5_1).toNat * 8)).block, (ad166.add ((x5_1).toNat * 8)).off + 7, none⟩ = some (.string ((rd_T54 l0_4 x5_1).f4.f2)) ∧ w'.cell? (ad164.add ((x5_1).toNat * 3)) = some (.int .i64 ((rd_T52 l1 x5_1).f0)) ∧ w'.cell? ⟨(ad164.add ((x5_1).toNat * 3)).block, (ad164.add ((x5_1).toNat * 3)).off + 1, none⟩ = some (.int .i64 ((rd_T52 l1 x5_1).f1)) ∧ w'.cell? ⟨(ad164.add ((x5_1).toNat * 3)).block, (ad164.add ((x5_1).toNat * 3)).off + 2, none⟩ = some (.string ((rd_T52 l1 x5_1).f2))) (ds := []) (tB 0 12) (by kernel_rfl) rfl rfl ⟨yV BK162 0, yV BK162 1, yV BK162 2, yV BK162 3, yV BK162 4, (pw_cell_below HB.out hw166_0), (pw_cell_below HB.out hw166_1), (pw_cell_below HB.out hw166_2), (pw_cell_below HB.out hw166_3), (pw_cell_below HB.out hw166_4), (pw_cell_below HB.out hw166_5), (pw_cell_below HB.out hw166_6), (pw_cell_below HB.out hw166_7), (pw_cell_below HB.out hw167_0), (pw_cell_below HB.out hw167_1), (pw_cell_below HB.out hw167_2)⟩ (fun hHeld => ?_); refine with_tabW haulageref08_Row.tab11 haulageref08_Row.bits11 (fun HT_ HW_ => ?_)
          generalize wr.drew = w23 at BK162 HB hx166_0 hx166_1 hx166_2 hx166_3 hx166_4 hx166_5 hx166_6 hx166_7 hx167_0 hx167_1 hx167_2 hHeld ⊢
          refine yP HT_ 0 34 (tB 1 12) rfl rfl ?_
          refine yP HT_ 2 36 (tB 5 12) rfl rfl ?_
          refine yP HT_ 6 40 (tB 69 12) rfl rfl ?_
          refine yP HT_ 7 41 (tB 197 12) rfl rfl ?_
          refine yP HT_ 8 42 (tB 453 12) rfl rfl ?_
          refine yT HT_ HW_ 1 35 (tB 455 12) rfl rfl hHeld ?_
          refine yP HT_ 3 37 (tB 463 12) rfl rfl ?_
          refine yP HT_ 4 38 (tB 479 12) rfl rfl ?_
          refine yT HT_ HW_ 5 39 (tB 511 12) rfl rfl hHeld ?_
          refine yT HT_ HW_ 9 43 (tB 1023 12) rfl rfl hHeld ?_
          refine yI HT_ 10 (tB 2047 12) rfl rfl fun K hK => ?_
          refine yc Tryd.func57 #[.agg #[.int .i64 ((rd_T54 l0_4 x5_1).f2.f0), .int .i64 ((rd_T54 l0_4 x5_1).f2.f1)], .agg #[.int .i64 ((rd_T52 l1 x5_1).f0), .int .i64 ((rd_T52 l1 x5_1).f1), .string ((rd_T52 l1 x5_1).f2)]] rfl rfl ?_
          with_reducible refine (haulageref06_Fits.calls k1 ((rd_T54 l0_4 x5_1).f2.f0) ((rd_T54 l0_4 x5_1).f2.f1) ((rd_T52 l1 x5_1).f0) ((rd_T52 l1 x5_1).f1) ((rd_T52 l1 x5_1).f2) false _ A19.out).mono ?_
          rintro e w24 ⟨rfl, hb⟩
          refine ⟨_, rfl, ?_⟩
          have n0_ := aM (kB (yK BK162) hb)
          have n1_ := aM (bP (yG1 HB GE162.out) hb)
          clear BK162
          clear HB
          have BK162 := n0_
          have HB := n1_
          clear n0_ n1_
          (try clear hb)
          (try clear hb2)
          (try clear hk)
          (try clear hi)
          refine hK.out _ _ ⟨yV BK162 0, yV BK162 1, yV BK162 2, yV BK162 3, yV BK162 4, (pw_cell_below HB.out hw166_0), (pw_cell_below HB.out hw166_1), (pw_cell_below HB.out hw166_2), (pw_cell_below HB.out hw166_3), (pw_cell_below HB.out hw166_4), (pw_cell_below HB.out hw166_5), (pw_cell_below HB.out hw166_6), (pw_cell_below HB.out hw166_7), (pw_cell_below HB.out hw167_0), (pw_cell_below HB.out hw167_1), (pw_cell_below HB.out hw167_2)⟩ (fun hHeld => ?_)
          clear hK K
          refine norm_ (a' := ?_) ?_ ?_
          rotate_left
          ·
           show Act.put _ (some 44) _ = _
           simp only [Act.put, s1_, s2_, s3_, i64_w, i32_w]
           rfl
          refine yP HT_ 11 45 (tB 4095 12) rfl rfl ?_
          refine done_ (done_of HT_.out (by kernel_rfl)) ?_
          try go_wp2
          go_ret
          exact ⟨yE, yG1 HB GE162.out⟩
        ·
         rw [if_neg c18] at H
         exact absurd H (by simp)
      ·
       rw [if_neg c11] at H
       exact absurd H (by simp)
     ·
      rw [if_neg c10] at H
      have c10b0 : decide (x5_1 < (l1.length : Int)) = false := decide_eq_false c10
      clear c10
      obtain rfl := Option.some.inj H
      go_wp2
      go_ret
      exact ⟨yE, yG1 HB GE162.out⟩
  ·
   rw [if_neg c5] at H
   have c5b0 : ((l1.length : Int) == (l0_4.length : Int)) = false := beq_eq_false_iff_ne.mpr c5
   have c5b1 : ((l1.length : Int) != (l0_4.length : Int)) = true := bne_iff_ne.mpr c5
   have c5b2 : (l1.length == l0_4.length) = false := by first | simpa using c5 | (simp at c5 ⊢; omega)
   obtain rfl := Option.some.inj H
   go_enter Tryd.func17, Tryd.ntmps17
   go_wp2_with (first | ((with_reducible refine gate_dst (N := 2) rfl ?_); refine yX (N := 2) (cs := #[.int .i64 a0_0, .string a0_1, .int .i64 a0_2, .int .i64 a0_3, .slice A0_4 l0_4.length c0_4]) (t := 24) ?_; intro gb162 hg w25 hbox hb; have BK162 := aM (hbox); have GW162 := yZ hg (yB HB); have GE162 := yZ hg (yB HB); replace HB := aM (bP (yB HB) hb); clear hb hbox hg; obtain ⟨hcz26_0, hcz26_1, hcz26_2, hcz26_3, hcz26_4, hfz26_0, hfz26_1, hfz26_2, hfz26_3, hfz26_4⟩ := cells5 BK162.out) | ((with_reducible refine gate_callee (f := 27) rfl ?_); refine yC 7 Tryd.func27 #[.agg #[.int .i64 a0_0, .string a0_1, .int .i64 a0_2, .int .i64 a0_3, .slice A0_4 l0_4.length c0_4]] rfl ?_; (with_reducible refine (haulageref08_Table.calls k a0_0 a0_1 a0_2 a0_3 _ _ l0_4 true _ ?side1 ?side2 A3.out).mono ?_); (case side1 => exact yW (Kd.C_below HR0_4.out HB.out)); (case side2 => exact HC0_4.out); rintro e w27 ⟨rfl, hb⟩; refine ⟨_, rfl, ?_⟩; replace BK162 := aM (kB (yK BK162) hb); replace HB := aM (bP (yG1 HB GE162.out) hb); (try clear hb); obtain ⟨hcz28_0, hcz28_1, hcz28_2, hcz28_3, hcz28_4, hfz28_0, hfz28_1, hfz28_2, hfz28_3, hfz28_4⟩ := cells5 BK162.out))
   go_ret
   exact ⟨yE, yG1 HB GE162.out⟩
 ·
  replace c4 := Bool.eq_false_iff.mpr c4
  subst c4
  have H1 : (some 2) = some r := by rw [if_neg (show ¬ (false = true) by decide)] at H; exact H
  clear H
  have H := H1
  clear H1
  obtain rfl := Option.some.inj H
  go_enter Tryd.func17, Tryd.ntmps17
  go_wp2_with (first | ((with_reducible refine gate_dst (N := 2) rfl ?_); refine yX (N := 2) (cs := #[.int .i64 a0_0, .string a0_1, .int .i64 a0_2, .int .i64 a0_3, .slice A0_4 l0_4.length c0_4]) (t := 24) ?_; intro gb162 hg w29 hbox hb; have BK162 := aM (hbox); have GW162 := yZ hg (yB HB); have GE162 := yZ hg (yB HB); replace HB := aM (bP (yB HB) hb); clear hb hbox hg; obtain ⟨hcz30_0, hcz30_1, hcz30_2, hcz30_3, hcz30_4, hfz30_0, hfz30_1, hfz30_2, hfz30_3, hfz30_4⟩ := cells5 BK162.out) | ((with_reducible refine gate_callee (f := 27) rfl ?_); refine yC 7 Tryd.func27 #[.agg #[.int .i64 a0_0, .string a0_1, .int .i64 a0_2, .int .i64 a0_3, .slice A0_4 l0_4.length c0_4]] rfl ?_; (with_reducible refine (haulageref08_Table.calls k a0_0 a0_1 a0_2 a0_3 _ _ l0_4 false _ ?side1 ?side2 A3.out).mono ?_); (case side1 => exact yW (Kd.C_below HR0_4.out HB.out)); (case side2 => exact HC0_4.out); rintro e w31 ⟨rfl, hb⟩; refine ⟨_, rfl, ?_⟩; replace BK162 := aM (kB (yK BK162) hb); replace HB := aM (bP (yG1 HB GE162.out) hb); (try clear hb)))
  go_ret
  exact ⟨yE, yG1 HB GE162.out⟩
/-! ### name_part: function 106 -/
mutual
def name_part.j0 : Nat → Int → Int → Bool → Option (Bool)
 | 0, _, _, _ => none
 | k + 1, x0, x1, x5 => if x5 = true then (some true) else (if x0 ≥ 48 then (name_part.j1 k x0 x1 (decide (x0 ≤ 57))) else (name_part.j1 k x0 x1 false))
def name_part.j1 : Nat → Int → Int → Bool → Option (Bool)
 | 0, _, _, _ => none
 | k + 1, x0, x1, x12 => if x12 = true then (name_part.j2 k x1 x12) else (name_part.j2 k x1 (x0 == 95))
def name_part.j2 : Nat → Int → Bool → Option (Bool)
 | 0, _, _ => none
 | k + 1, x1, x12 => if x12 = true then (some (decide (x1 > 0))) else (some false)
end
def name_part.f (k : Nat) (a0 : Int) (a1 : Int) : Option (Bool) := if a0 ≥ 97 then (name_part.j0 k a0 a1 (decide (a0 ≤ 122))) else (name_part.j0 k a0 a1 false)
theorem name_part.mono_l : ∀ k, (∀ y0 y1 y2, LeO (name_part.j0 k y0 y1 y2) (name_part.j0 (k + 1) y0 y1 y2)) ∧ (∀ y0 y1 y2, LeO (name_part.j1 k y0 y1 y2) (name_part.j1 (k + 1) y0 y1 y2)) ∧ (∀ y0 y1, LeO (name_part.j2 k y0 y1) (name_part.j2 (k + 1) y0 y1))
 | 0 => ⟨fun _ _ _ r h => by simp [name_part.j0] at h, fun _ _ _ r h => by simp [name_part.j1] at h, fun _ _ r h => by simp [name_part.j2] at h⟩
 | k + 1 => by
  obtain ⟨ih0, ih1, ih2⟩ := name_part.mono_l k
  refine ⟨?_, ?_, ?_⟩
  ·
   intro y0 y1 y2
   unfold name_part.j0
   repeat' first
   | (with_reducible exact ih0 _ _ _)
   | (with_reducible exact ih1 _ _ _)
   | (with_reducible exact ih2 _ _)
   | (with_reducible exact LeO.refl _)
   | (with_reducible exact LeO.none _)
   | (with_reducible refine LeO.ite ?_ ?_)
   | (with_reducible refine LeO.bind ?_ (fun _ => ?_))
   | exact ih0 _ _ _
   | exact ih1 _ _ _
   | exact ih2 _ _
   | exact LeO.none _
   | refine LeO.ite ?_ ?_
   | refine LeO.bind ?_ (fun _ => ?_)
  ·
   intro y0 y1 y2
   unfold name_part.j1
   repeat' first
   | (with_reducible exact ih0 _ _ _)
   | (with_reducible exact ih1 _ _ _)
   | (with_reducible exact ih2 _ _)
   | (with_reducible exact LeO.refl _)
   | (with_reducible exact LeO.none _)
   | (with_reducible refine LeO.ite ?_ ?_)
   | (with_reducible refine LeO.bind ?_ (fun _ => ?_))
   | exact ih0 _ _ _
   | exact ih1 _ _ _
   | exact ih2 _ _
   | exact LeO.none _
   | refine LeO.ite ?_ ?_
   | refine LeO.bind ?_ (fun _ => ?_)
  ·
   intro y0 y1
   unfold name_part.j2
   repeat' first
   | (with_reducible exact ih0 _ _ _)
   | (with_reducible exact ih1 _ _ _)
   | (with_reducible exact ih2 _ _)
   | (with_reducible exact LeO.refl _)
   | (with_reducible exact LeO.none _)
   | (with_reducible refine LeO.ite ?_ ?_)
   | (with_reducible refine LeO.bind ?_ (fun _ => ?_))
   | exact ih0 _ _ _
   | exact ih1 _ _ _
   | exact ih2 _ _
   | exact LeO.none _
   | refine LeO.ite ?_ ?_
   | refine LeO.bind ?_ (fun _ => ?_)
theorem name_part.mono : ∀ a0 a1 k, LeO (name_part.f k a0 a1) (name_part.f (k + 1) a0 a1) := by
 intro a0 a1 k
 obtain ⟨ih0, ih1, ih2⟩ := name_part.mono_l k
 unfold name_part.f
 repeat' first
   | (with_reducible exact ih0 _ _ _)
   | (with_reducible exact ih1 _ _ _)
   | (with_reducible exact ih2 _ _)
   | (with_reducible exact LeO.refl _)
   | (with_reducible exact LeO.none _)
   | (with_reducible refine LeO.ite ?_ ?_)
   | (with_reducible refine LeO.bind ?_ (fun _ => ?_))
   | exact ih0 _ _ _
   | exact ih1 _ _ _
   | exact ih2 _ _
   | exact LeO.none _
   | refine LeO.ite ?_ ?_
   | refine LeO.bind ?_ (fun _ => ?_)
set_option maxHeartbeats 8000000 in
set_option maxRecDepth 100000 in
theorem name_part.calls (k : Nat) (a0 : Int) (a1 : Int) (r : Bool) (w : World) (h : name_part.f k a0 a1 = some r) :
  Calls Tryd.prog 106 #[.int .u8 a0, .int .i64 a1] w fun e w' => e = .returned (.bool r) ∧ Drawn0 w w' := by
 have H : (if a0 ≥ 97 then (name_part.j0 k a0 a1 (decide (a0 ≤ 122))) else (name_part.j0 k a0 a1 false)) = some r := h
 clear h
 have HC3 := aM H
 clear H
 go_enter Tryd.func106, Tryd.ntmps106
 go_upto_region 1 with (fail)
 go_cut [5] (fun v5 wc => ∃ (kq : Nat) (x5_2 : Bool), v5 = .bool x5_2 ∧ Aside0 (name_part.j0 kq a0 a1 x5_2 = some r) ∧ Aside0 (kq ≤ k) ∧ Drawn0 w wc)
 case first =>
  have H := HC3.out
  clear HC3
  by_cases c4 : a0 ≥ 97
  ·
   rw [if_pos c4] at H
   have c4b0 : decide (97 ≤ a0) = true := decide_eq_true c4
   clear c4
   (first | rw [c4b0] | (simp only [i64_w, i32_w]; rw [c4b0]) | skip)
   have H' := aM H
   clear H
   go_wp2
   go_meet
   case rel => exact ⟨_, (decide (a0 ≤ 122)), yS, H', ⟨yO⟩, yD⟩
  ·
   rw [if_neg c4] at H
   have c4b0 : decide (97 ≤ a0) = false := decide_eq_false c4
   clear c4
   (first | rw [c4b0] | (simp only [i64_w, i32_w]; rw [c4b0]) | skip)
   have H' := aM H
   clear H
   go_wp2
   go_meet
   case rel => exact ⟨_, (false), yS, H', ⟨yO⟩, yD⟩
 case rest =>
  clear HC3
  try clear c1
  try clear p2
  try clear c4
  try clear c4b0
  obtain ⟨kq, x5_2, rfl, HA, HJ2, ⟨mc2, rfl⟩⟩ := hcut
  cases kq with
  | zero => exact absurd HA.out (by simp [name_part.j0])
  | succ kj2 =>
   have H := HA.out
   clear HA
   simp only [name_part.j0] at H
   by_cases c5 : x5_2 = true
   ·
    subst c5
    have H1 : (some true) = some r := by rw [if_pos rfl] at H; exact H
    clear H
    have H := H1
    clear H1
    obtain rfl := Option.some.inj H
    go_wp2
    go_ret
    exact ⟨yS, yD⟩
   ·
    replace c5 := Bool.eq_false_iff.mpr c5
    subst c5
    have H1 : (if a0 ≥ 48 then (name_part.j1 kj2 a0 a1 (decide (a0 ≤ 57))) else (name_part.j1 kj2 a0 a1 false)) = some r := by rw [if_neg (show ¬ (false = true) by decide)] at H; exact H
    clear H
    have H := H1
    clear H1
    have HC6 := aM H
    clear H
    go_upto_region 3 with (fail)
    go_cut [12] (fun v12 wc => ∃ (kq : Nat) (x12_5 : Bool), v12 = .bool x12_5 ∧ Aside0 (name_part.j1 kq a0 a1 x12_5 = some r) ∧ Aside0 (kq ≤ kj2) ∧ Drawn0 w wc)
    case first =>
     have H := HC6.out
     clear HC6
     by_cases c7 : a0 ≥ 48
     ·
      rw [if_pos c7] at H
      have c7b0 : decide (48 ≤ a0) = true := decide_eq_true c7
      clear c7
      (first | rw [c7b0] | (simp only [i64_w, i32_w]; rw [c7b0]) | skip)
      have H' := aM H
      clear H
      go_wp2
      go_meet
      case rel => exact ⟨_, (decide (a0 ≤ 57)), yS, H', ⟨by have := HJ2.out; first | omega | exact Nat.le_refl _⟩, yD⟩
     ·
      rw [if_neg c7] at H
      have c7b0 : decide (48 ≤ a0) = false := decide_eq_false c7
      clear c7
      (first | rw [c7b0] | (simp only [i64_w, i32_w]; rw [c7b0]) | skip)
      have H' := aM H
      clear H
      go_wp2
      go_meet
      case rel => exact ⟨_, (false), yS, H', ⟨by have := HJ2.out; first | omega | exact Nat.le_refl _⟩, yD⟩
    case rest =>
     clear HC6
     try clear c1
     try clear c2
     try clear p2
     try clear c4
     try clear c4b0
     try clear c5
     try clear c7
     try clear c7b0
     try clear p2
     obtain ⟨kq, x12_5, rfl, HA, HJ5, ⟨mc5, rfl⟩⟩ := hcut
     cases kq with
     | zero => exact absurd HA.out (by simp [name_part.j1])
     | succ kj5 =>
      have H := HA.out
      clear HA
      simp only [name_part.j1] at H
      have HC8 := aM H
      clear H
      go_upto_if 12 with (fail)
      go_cut [12] (fun v12 wc => ∃ (kq : Nat) (x12_7 : Bool), v12 = .bool x12_7 ∧ Aside0 (name_part.j2 kq a1 x12_7 = some r) ∧ Aside0 (kq ≤ kj5) ∧ Drawn0 w wc)
      case first =>
       have H := HC8.out
       clear HC8
       by_cases c9 : x12_5 = true
       ·
        subst c9
        have H1 : (name_part.j2 kj5 a1 true) = some r := by rw [if_pos rfl] at H; exact H
        clear H
        have H := H1
        clear H1
        have H' := aM H
        clear H
        go_wp2
        go_meet
        case rel => exact ⟨_, (true), yS, H', ⟨by have := HJ2.out; have := HJ5.out; first | omega | exact Nat.le_refl _⟩, yD⟩
       ·
        replace c9 := Bool.eq_false_iff.mpr c9
        subst c9
        have H1 : (name_part.j2 kj5 a1 (a0 == 95)) = some r := by rw [if_neg (show ¬ (false = true) by decide)] at H; exact H
        clear H
        have H := H1
        clear H1
        have H' := aM H
        clear H
        go_wp2
        go_meet
        case rel => exact ⟨_, ((a0 == 95)), yS, H', ⟨by have := HJ2.out; have := HJ5.out; first | omega | exact Nat.le_refl _⟩, yD⟩
      case rest =>
       clear HC8
       try clear c1
       try clear c2
       try clear p2
       try clear c4
       try clear c4b0
       try clear c5
       try clear c7
       try clear c7b0
       try clear c9
       try clear p2
       obtain ⟨kq, x12_7, rfl, HA, HJ7, ⟨mc7, rfl⟩⟩ := hcut
       cases kq with
       | zero => exact absurd HA.out (by simp [name_part.j2])
       | succ kj7 =>
        have H := HA.out
        clear HA
        simp only [name_part.j2] at H
        by_cases c10 : x12_7 = true
        ·
         subst c10
         have H1 : (some (decide (a1 > 0))) = some r := by rw [if_pos rfl] at H; exact H
         clear H
         have H := H1
         clear H1
         obtain rfl := Option.some.inj H
         go_wp2
         go_ret
         exact ⟨yS, yD⟩
        ·
         replace c10 := Bool.eq_false_iff.mpr c10
         subst c10
         have H1 : (some false) = some r := by rw [if_neg (show ¬ (false = true) by decide)] at H; exact H
         clear H
         have H := H1
         clear H1
         obtain rfl := Option.some.inj H
         go_wp2
         go_ret
         exact ⟨yS, yD⟩
end Go.Proofs.YtdeophpjammbpaaDoor.HSchemaRows

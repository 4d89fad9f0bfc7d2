/- For Go functions that CatcodeValues reaches: Lean functions, and walks that show that each call comes to what its Lean function tells; no condition but those that each theorem states. (Made by a program of this session over the kit's print.py.) -/
import Derived.Test.YtgefikclhfjcgaaDoorHCatcodeValuesx0
import Derived.Test.YtgefikclhfjcgaaDoorHCatcodeValuesx14
namespace Go.Proofs.YtgefikclhfjcgaaDoor.HCatcodeValues
open Go.RowKit Go.Proofs.YtgefikclhfjcgaaDoorW.PrintWords Go.Proofs.YtgefikclhfjcgaaDoorW.PrintLast Go.Proofs.YtgefikclhfjcgaaDoorW.PrintMore
attribute [local go_sem] max2_int min2_int max_two min_two max_three min_three max_four min_four   -- for this text's walks alone
set_option linter.unusedVariables false
set_option linter.unusedSimpArgs false
attribute [local go_sem] hp_s8 hp_s16 hp_s32 hp_s64 hp_m8 hp_m16 hp_m32 hp_m64
/-! ### haulageref01_Ends: function 141 -/
mutual
def haulageref01_Ends.l0 : Nat → ByteArray → Int → Option (Int × Int)
 | 0, _, _ => none
 | k + 1, x0, x4 => if x4 < (x0.size : Int) then (haulageref01_Ends.j1 k x0 x4 (decide (x4 < 10))) else (haulageref01_Ends.j1 k x0 x4 false)
def haulageref01_Ends.j1 : Nat → ByteArray → Int → Bool → Option (Int × Int)
 | 0, _, _, _ => none
 | k + 1, x0, x4, x12 => if x12 = true then (if 0 ≤ x4 then (if x4 < (x0.size : Int) then (if (bt x0 x4) < 128 then (if x4 > 0 then (if (bt x0 x4) = 0 then (haulageref01_Ends.j2 k x4 true) else (if x4 = 9 then (haulageref01_Ends.j2 k x4 (decide ((bt x0 x4) > 1))) else (haulageref01_Ends.j2 k x4 false))) else (if x4 = 9 then (haulageref01_Ends.j2 k x4 (decide ((bt x0 x4) > 1))) else (haulageref01_Ends.j2 k x4 false))) else (haulageref01_Ends.l0 k x0 (wrap64 (x4 + 1)))) else (none)) else (none)) else (if (x0.size : Int) < 10 then (some (0, 4)) else (some (0, 5)))
def haulageref01_Ends.j2 : Nat → Int → Bool → Option (Int × Int)
 | 0, _, _ => none
 | k + 1, x4, x36 => if x36 = true then (some (0, 5)) else (some (wrap64 (x4 + 1), 0))
end
def haulageref01_Ends.f (k : Nat) (a0 : ByteArray) : Option (Int × Int) := haulageref01_Ends.l0 k a0 0
theorem haulageref01_Ends.mono_l : ∀ k, (∀ y0 y1, LeO (haulageref01_Ends.l0 k y0 y1) (haulageref01_Ends.l0 (k + 1) y0 y1)) ∧ (∀ y0 y1 y2, LeO (haulageref01_Ends.j1 k y0 y1 y2) (haulageref01_Ends.j1 (k + 1) y0 y1 y2)) ∧ (∀ y0 y1, LeO (haulageref01_Ends.j2 k y0 y1) (haulageref01_Ends.j2 (k + 1) y0 y1))
 | 0 => by refine ⟨?_, ?_, ?_⟩ <;> intros <;> exact LeO.none _
 | k + 1 => by
  obtain ⟨ih0, ih1, ih2⟩ := haulageref01_Ends.mono_l k
  refine ⟨?_, ?_, ?_⟩ <;> intros <;> first | unfold haulageref01_Ends.l0 | unfold haulageref01_Ends.j1 | unfold haulageref01_Ends.j2
  all_goals repeat' first | with_reducible (first | exact ih0 .. | exact ih1 .. | exact ih2 .. | exact LeO.refl .. | exact LeO.none .. | refine LeO.ite ?_ ?_ | refine LeO.bind ?_ (fun _ => ?_)) | exact ih0 .. | exact ih1 .. | exact ih2 .. | exact LeO.none .. | refine LeO.ite ?_ ?_ | refine LeO.bind ?_ (fun _ => ?_)
theorem haulageref01_Ends.mono : ∀ a0 k, LeO (haulageref01_Ends.f k a0) (haulageref01_Ends.f (k + 1) a0) := by
 intro a0 k
 obtain ⟨ih0, ih1, ih2⟩ := haulageref01_Ends.mono_l k
 unfold haulageref01_Ends.f
 repeat' first | with_reducible (first | exact ih0 .. | exact ih1 .. | exact ih2 .. | exact LeO.refl .. | exact LeO.none .. | refine LeO.ite ?_ ?_ | refine LeO.bind ?_ (fun _ => ?_)) | exact ih0 .. | exact ih1 .. | exact ih2 .. | exact LeO.none .. | refine LeO.ite ?_ ?_ | refine LeO.bind ?_ (fun _ => ?_)
set_option maxHeartbeats 8000000 in
set_option maxRecDepth 100000 in
theorem haulageref01_Ends.calls (k : Nat) (a0 : ByteArray) (r1 : Int) (r2 : Int) (w : World) (h : haulageref01_Ends.f k a0 = some (r1, r2)) :
  Calls Tryd.prog 141 #[.string a0] w fun e w' => e = .returned (.tuple #[.int .i64 r1, .int .i64 r2]) ∧ Drawn0 w w' := by
 have H : (haulageref01_Ends.l0 k a0 0) = some (r1, r2) := h
 clear h
 have H' := aM H
 clear H
 go_enter Tryd.func141, Tryd.ntmps141
 go_wp2
 go_loopg [4] k (fun kq v4 w' => ∃ (x4_1 : Int), v4 = .int .i64 x4_1 ∧ Aside0 (haulageref01_Ends.l0 kq a0 x4_1 = some (r1, r2)) ∧ Aside0 (kq ≤ k) ∧ Drawn0 w w')
 case atStart => exact ⟨(0), yS, H', ⟨Nat.le_refl _⟩, yD⟩
 case round =>
  clear H'
  obtain ⟨x4_1, rfl, HA, HK1, ⟨m1, rfl⟩⟩ := hrel
  cases gk with
  | zero => exact absurd HA.out (by simp [haulageref01_Ends.l0])
  | succ k1 =>
   have H := HA.out
   clear HA
   simp only [haulageref01_Ends.l0] at H
   have HC2 := aM H
   clear H
   go_upto_region 2 with (fail)
   go_cut [12] (fun v12 wc => ∃ (kq : Nat) (x12_1 : Bool), v12 = .bool x12_1 ∧ Aside0 (haulageref01_Ends.j1 kq a0 x4_1 x12_1 = some (r1, r2)) ∧ Aside0 (kq ≤ k1) ∧ Drawn0 w wc)
   case first =>
    have H := HC2.out
    clear HC2
    by_cases c3 : x4_1 < (a0.size : Int)
    ·
     rw [if_pos c3] at H
     have c3b0 : decide (x4_1 < (a0.size : Int)) = true := decide_eq_true c3
     clear c3
     (first | rw [c3b0] | (simp only [i64_w, i32_w]; rw [c3b0]) | skip)
     have H' := aM H
     clear H
     go_wp2
     go_meet
     case rel => exact ⟨_, (decide (x4_1 < 10)), yS, H', ⟨by have := HK1.out; first | omega | exact Nat.le_refl _⟩, yD⟩
    ·
     rw [if_neg c3] at H
     have c3b0 : decide (x4_1 < (a0.size : Int)) = false := decide_eq_false c3
     clear c3
     (first | rw [c3b0] | (simp only [i64_w, i32_w]; rw [c3b0]) | skip)
     have H' := aM H
     clear H
     go_wp2
     go_meet
     case rel => exact ⟨_, (false), yS, H', ⟨by have := HK1.out; first | omega | exact Nat.le_refl _⟩, yD⟩
   case rest =>
    clear HC2
    obtain ⟨kq, x12_1, rfl, HA, HJ1, ⟨mc1, rfl⟩⟩ := hcut
    cases kq with
    | zero => exact absurd HA.out (by simp [haulageref01_Ends.j1])
    | succ kj1 =>
     have H := HA.out
     clear HA
     simp only [haulageref01_Ends.j1] at H
     by_cases c4 : x12_1 = true
     ·
      subst c4
      replace H := yt H
      by_cases c5 : 0 ≤ x4_1
      ·
       rw [if_pos c5] at H
       have c5b0 : decide (0 ≤ x4_1) = true := decide_eq_true c5
       clear c5
       by_cases c6 : x4_1 < (a0.size : Int)
       ·
        rw [if_pos c6] at H
        have c6b0 : decide (x4_1 < (a0.size : Int)) = true := decide_eq_true c6
        clear c6
        by_cases c8 : (bt a0 x4_1) < 128
        ·
         rw [if_pos c8] at H
         have c8b0 : decide ((bt a0 x4_1) < 128) = true := decide_eq_true c8
         clear c8
         have HC9 := aM H
         clear H
         have p7 : 0 ≤ (x4_1 : Int) := oD yA
         have q7 : x4_1 < (a0.size : Int) := oD yA
         have hx7 := bt_at a0 x4_1
         replace p7 := eq_true p7
         replace q7 := eq_true q7
         go_upto_region 5 with (fail)
         go_cut [36] (fun v36 wc => ∃ (kq : Nat) (x36_8 : Bool), v36 = .bool x36_8 ∧ Aside0 (haulageref01_Ends.j2 kq x4_1 x36_8 = some (r1, r2)) ∧ Aside0 (kq ≤ kj1) ∧ Drawn0 w wc)
         case first =>
          have H := HC9.out
          clear HC9
          by_cases c10 : x4_1 > 0
          ·
           rw [if_pos c10] at H
           have c10b0 : decide (0 < x4_1) = true := decide_eq_true c10
           clear c10
           (first | rw [c10b0] | (simp only [i64_w, i32_w]; rw [c10b0]) | skip)
           by_cases c12 : (bt a0 x4_1) = 0
           ·
            rw [if_pos c12] at H
            have c12b0 : ((bt a0 x4_1) == 0) = true := beq_iff_eq.mpr c12
            have c12b1 : ((bt a0 x4_1) != 0) = false := bne_eq_false_iff_eq.mpr c12
            clear c12
            have H' := aM H
            clear H
            have p11 : 0 ≤ (x4_1 : Int) := oD yA
            have q11 : x4_1 < (a0.size : Int) := oD yA
            have hx11 := bt_at a0 x4_1
            replace p11 := eq_true p11
            replace q11 := eq_true q11
            go_wp2
            go_meet
            case rel => exact ⟨_, (true), yS, H', ⟨by have := HK1.out; have := HJ1.out; first | omega | exact Nat.le_refl _⟩, yD⟩
           ·
            rw [if_neg c12] at H
            have c12b0 : ((bt a0 x4_1) == 0) = false := beq_eq_false_iff_ne.mpr c12
            have c12b1 : ((bt a0 x4_1) != 0) = true := bne_iff_ne.mpr c12
            by_cases c13 : x4_1 = 9
            ·
             rw [if_pos c13] at H
             have c13b0 : (x4_1 == 9) = true := beq_iff_eq.mpr c13
             have c13b1 : (x4_1 != 9) = false := bne_eq_false_iff_eq.mpr c13
             clear c13
             have H' := aM H
             clear H
             have p11 : 0 ≤ (x4_1 : Int) := oD yA
             have q11 : x4_1 < (a0.size : Int) := oD yA
             have hx11 := bt_at a0 x4_1
             replace p11 := eq_true p11
             replace q11 := eq_true q11
             have p14 : 0 ≤ (x4_1 : Int) := oD yA
             have q14 : x4_1 < (a0.size : Int) := oD yA
             have hx14 := bt_at a0 x4_1
             replace p14 := eq_true p14
             replace q14 := eq_true q14
             go_wp2
             go_meet
             case rel => exact ⟨_, (decide ((bt a0 x4_1) > 1)), yS, H', ⟨by have := HK1.out; have := HJ1.out; first | omega | exact Nat.le_refl _⟩, yD⟩
            ·
             rw [if_neg c13] at H
             have c13b0 : (x4_1 == 9) = false := beq_eq_false_iff_ne.mpr c13
             have c13b1 : (x4_1 != 9) = true := bne_iff_ne.mpr c13
             have H' := aM H
             clear H
             have p11 : 0 ≤ (x4_1 : Int) := oD yA
             have q11 : x4_1 < (a0.size : Int) := oD yA
             have hx11 := bt_at a0 x4_1
             replace p11 := eq_true p11
             replace q11 := eq_true q11
             go_wp2
             go_meet
             case rel => exact ⟨_, (false), yS, H', ⟨by have := HK1.out; have := HJ1.out; first | omega | exact Nat.le_refl _⟩, yD⟩
          ·
           rw [if_neg c10] at H
           have c10b0 : decide (0 < x4_1) = false := decide_eq_false c10
           clear c10
           (first | rw [c10b0] | (simp only [i64_w, i32_w]; rw [c10b0]) | skip)
           by_cases c15 : x4_1 = 9
           ·
            rw [if_pos c15] at H
            have c15b0 : (x4_1 == 9) = true := beq_iff_eq.mpr c15
            have c15b1 : (x4_1 != 9) = false := bne_eq_false_iff_eq.mpr c15
            clear c15
            have H' := aM H
            clear H
            have p16 : 0 ≤ (x4_1 : Int) := oD yA
            have q16 : x4_1 < (a0.size : Int) := oD yA
            have hx16 := bt_at a0 x4_1
            replace p16 := eq_true p16
            replace q16 := eq_true q16
            go_wp2
            go_meet
            case rel => exact ⟨_, (decide ((bt a0 x4_1) > 1)), yS, H', ⟨by have := HK1.out; have := HJ1.out; first | omega | exact Nat.le_refl _⟩, yD⟩
           ·
            rw [if_neg c15] at H
            have c15b0 : (x4_1 == 9) = false := beq_eq_false_iff_ne.mpr c15
            have c15b1 : (x4_1 != 9) = true := bne_iff_ne.mpr c15
            have H' := aM H
            clear H
            go_wp2
            go_meet
            case rel => exact ⟨_, (false), yS, H', ⟨by have := HK1.out; have := HJ1.out; first | omega | exact Nat.le_refl _⟩, yD⟩
         case rest =>
          clear HC9
          try clear c4
          try clear c5
          try clear c5b0
          try clear c6
          try clear c6b0
          try clear p7
          try clear q7
          try clear hx7
          try clear c8
          try clear c8b0
          try clear p7
          try clear q7
          obtain ⟨kq, x36_8, rfl, HA, HJ8, ⟨mc8, rfl⟩⟩ := hcut
          cases kq with
          | zero => exact absurd HA.out (by simp [haulageref01_Ends.j2])
          | succ kj8 =>
           have H := HA.out
           clear HA
           simp only [haulageref01_Ends.j2] at H
           by_cases c17 : x36_8 = true
           ·
            subst c17
            replace H := yt H
            simp only [Option.some.injEq, Prod.mk.injEq] at H
            obtain ⟨rfl, rfl⟩ := H
            go_wp2
            go_ret2
            exact ⟨yS, yD⟩
           ·
            replace c17 := Bool.eq_false_iff.mpr c17
            subst c17
            replace H := yf H
            simp only [Option.some.injEq, Prod.mk.injEq] at H
            obtain ⟨rfl, rfl⟩ := H
            go_wp2
            go_ret2
            exact ⟨yS, yD⟩
        ·
         rw [if_neg c8] at H
         have c8b0 : decide ((bt a0 x4_1) < 128) = false := decide_eq_false c8
         clear c8
         have H' := aM H
         clear H
         have p7 : 0 ≤ (x4_1 : Int) := oD yA
         have q7 : x4_1 < (a0.size : Int) := oD yA
         have hx7 := bt_at a0 x4_1
         replace p7 := eq_true p7
         replace q7 := eq_true q7
         go_wp2
         go_roundg kj1
         case measure => have := HK1.out; have := HJ1.out; omega
         case rel => exact ⟨(wrap64 (x4_1 + 1)), yS, H', ⟨by have := HK1.out; have := HJ1.out; omega⟩, yD⟩
       ·
        rw [if_neg c6] at H
        exact absurd H (by simp)
      ·
       rw [if_neg c5] at H
       exact absurd H (by simp)
     ·
      replace c4 := Bool.eq_false_iff.mpr c4
      subst c4
      replace H := yf H
      by_cases c18 : (a0.size : Int) < 10
      ·
       rw [if_pos c18] at H
       have c18b0 : decide ((a0.size : Int) < 10) = true := decide_eq_true c18
       have c18b1 : decide (a0.size < 10) = true := decide_eq_true (by omega)
       clear c18
       simp only [Option.some.injEq, Prod.mk.injEq] at H
       obtain ⟨rfl, rfl⟩ := H
       go_wp2
       go_ret2
       exact ⟨yS, yD⟩
      ·
       rw [if_neg c18] at H
       have c18b0 : decide ((a0.size : Int) < 10) = false := decide_eq_false c18
       have c18b1 : decide (a0.size < 10) = false := decide_eq_false (by omega)
       clear c18
       simp only [Option.some.injEq, Prod.mk.injEq] at H
       obtain ⟨rfl, rfl⟩ := H
       go_wp2
       go_ret2
       exact ⟨yS, yD⟩
/-! ### haulageref01_Long: function 125 -/
def haulageref01_Long.l0 : Nat → ByteArray → Int → Int → Int → Option (Int × Int × Int)
 | 0, _, _, _, _ => none
 | k + 1, x0, x5, x7, x8 => if x8 ≥ 0 then (if 0 ≤ x8 then (if x8 < (x0.size : Int) then (haulageref01_Long.l0 k x0 x5 (IntKind.u64.wrap ((IntKind.u64.wrap (x7 * 128)) + (IntKind.u64.wrap (Int.tmod (bt x0 x8) 128)))) (wrap64 (x8 - 1))) else (none)) else (none)) else (some (x7, x5, 0))
def haulageref01_Long.f (k : Nat) (a0 : ByteArray) : Option (Int × Int × Int) := (haulageref01_Ends.f k a0).bind fun bt333 => (if bt333.2 = 0 then (haulageref01_Long.l0 k a0 bt333.1 0 (wrap64 (bt333.1 - 1))) else (some (0, 0, bt333.2)))
theorem haulageref01_Long.mono_l : ∀ k, (∀ y0 y1 y2 y3, LeO (haulageref01_Long.l0 k y0 y1 y2 y3) (haulageref01_Long.l0 (k + 1) y0 y1 y2 y3))
 | 0 => fun _ _ _ _ r h => by simp [haulageref01_Long.l0] at h
 | k + 1 => by
  have ih0 := haulageref01_Long.mono_l k
  ·
   intro y0 y1 y2 y3
   unfold haulageref01_Long.l0
   repeat' first
   | (with_reducible exact ih0 _ _ _ _)
   | (with_reducible exact haulageref01_Ends.mono _ _)
   | (with_reducible exact LeO.refl _)
   | (with_reducible exact LeO.none _)
   | (with_reducible refine LeO.ite ?_ ?_)
   | (with_reducible refine LeO.bind ?_ (fun _ => ?_))
   | exact ih0 _ _ _ _
   | exact haulageref01_Ends.mono _ _
   | exact LeO.none _
   | refine LeO.ite ?_ ?_
   | refine LeO.bind ?_ (fun _ => ?_)
theorem haulageref01_Long.mono : ∀ a0 k, LeO (haulageref01_Long.f k a0) (haulageref01_Long.f (k + 1) a0) := by
 intro a0 k
 have ih0 := haulageref01_Long.mono_l k
 unfold haulageref01_Long.f
 repeat' first | with_reducible (first | exact ih0 .. | exact haulageref01_Ends.mono .. | exact LeO.refl .. | exact LeO.none .. | refine LeO.ite ?_ ?_ | refine LeO.bind ?_ (fun _ => ?_)) | exact ih0 .. | exact haulageref01_Ends.mono .. | exact LeO.none .. | refine LeO.ite ?_ ?_ | refine LeO.bind ?_ (fun _ => ?_)
set_option maxHeartbeats 8000000 in
set_option maxRecDepth 100000 in
theorem haulageref01_Long.calls (k : Nat) (a0 : ByteArray) (r1 : Int) (r2 : Int) (r3 : Int) (w : World) (h : haulageref01_Long.f k a0 = some (r1, r2, r3)) :
  Calls Tryd.prog 125 #[.string a0] w fun e w' => e = .returned (.tuple #[.int .u64 r1, .int .i64 r2, .int .i64 r3]) ∧ Drawn0 w w' := by
 have H : ((haulageref01_Ends.f k a0).bind fun bt333 => (if bt333.2 = 0 then (haulageref01_Long.l0 k a0 bt333.1 0 (wrap64 (bt333.1 - 1))) else (some (0, 0, bt333.2)))) = some (r1, r2, r3) := h
 clear h
 obtain ⟨⟨t333, t334⟩, A2, H⟩ := yb H
 try dsimp -simprocs only at H
 by_cases c3 : t334 = 0
 ·
  rw [if_pos c3] at H
  have c3b0 : (t334 == 0) = true := beq_iff_eq.mpr c3
  have c3b1 : (t334 != 0) = false := bne_eq_false_iff_eq.mpr c3
  clear c3
  have H' := aM H
  clear H
  go_enter Tryd.func125, Tryd.ntmps125
  go_wp2_with (first | ((with_reducible refine gate_callee (f := 141) rfl ?_); refine yC 11 Tryd.func141 #[.string a0] rfl ?_; (with_reducible refine (haulageref01_Ends.calls k a0 t333 t334 _ A2.out).mono ?_); rintro e w' ⟨rfl, ⟨nd, rfl⟩⟩; refine ⟨_, rfl, ?_⟩))
  go_loopg [7, 8] k (fun kq v7 v8 w' => ∃ (x7_1 : Int) (x8_1 : Int), v7 = .int .u64 x7_1 ∧ v8 = .int .i64 x8_1 ∧ Aside0 (haulageref01_Long.l0 kq a0 t333 x7_1 x8_1 = some (r1, r2, r3)) ∧ Aside0 (kq ≤ k) ∧ Drawn0 w w')
  case atStart => exact ⟨(0), (wrap64 (t333 - 1)), yS, yS, H', ⟨Nat.le_refl _⟩, yD⟩
  case round =>
   clear H'
   try clear c3
   try clear c3b0
   try clear c3b1
   obtain ⟨x7_1, x8_1, rfl, rfl, HA, HK1, ⟨m1, rfl⟩⟩ := hrel
   cases gk with
   | zero => exact absurd HA.out (by simp [haulageref01_Long.l0])
   | succ k1 =>
    have H := HA.out
    clear HA
    simp only [haulageref01_Long.l0] at H
    by_cases c4 : x8_1 ≥ 0
    ·
     rw [if_pos c4] at H
     have c4b0 : decide (0 ≤ x8_1) = true := decide_eq_true c4
     clear c4
     by_cases c5 : 0 ≤ x8_1
     ·
      rw [if_pos c5] at H
      have c5b0 : decide (0 ≤ x8_1) = true := decide_eq_true c5
      clear c5
      by_cases c6 : x8_1 < (a0.size : Int)
      ·
       rw [if_pos c6] at H
       have c6b0 : decide (x8_1 < (a0.size : Int)) = true := decide_eq_true c6
       clear c6
       have H' := aM H
       clear H
       have p7 : 0 ≤ (x8_1 : Int) := oD yA
       have q7 : x8_1 < (a0.size : Int) := oD yA
       have hx7 := bt_at a0 x8_1
       replace p7 := eq_true p7
       replace q7 := eq_true q7
       go_wp2
       go_roundg k1
       case measure => have := HK1.out; omega
       case rel => exact ⟨(IntKind.u64.wrap ((IntKind.u64.wrap (x7_1 * 128)) + (IntKind.u64.wrap (Int.tmod (bt a0 x8_1) 128)))), (wrap64 (x8_1 - 1)), yS, yS, H', ⟨by have := HK1.out; omega⟩, yD⟩
      ·
       rw [if_neg c6] at H
       exact absurd H (by simp)
     ·
      rw [if_neg c5] at H
      exact absurd H (by simp)
    ·
     rw [if_neg c4] at H
     have c4b0 : decide (0 ≤ x8_1) = false := decide_eq_false c4
     clear c4
     simp only [Option.some.injEq, Prod.mk.injEq] at H
     obtain ⟨rfl, rfl, rfl⟩ := H
     go_wp2
     go_ret3
     exact ⟨yS, yD⟩
 ·
  rw [if_neg c3] at H
  have c3b0 : (t334 == 0) = false := beq_eq_false_iff_ne.mpr c3
  have c3b1 : (t334 != 0) = true := bne_iff_ne.mpr c3
  simp only [Option.some.injEq, Prod.mk.injEq] at H
  obtain ⟨rfl, rfl, rfl⟩ := H
  go_enter Tryd.func125, Tryd.ntmps125
  go_wp2_with (first | ((with_reducible refine gate_callee (f := 141) rfl ?_); refine yC 11 Tryd.func141 #[.string a0] rfl ?_; (with_reducible refine (haulageref01_Ends.calls k a0 t333 t334 _ A2.out).mono ?_); rintro e w' ⟨rfl, ⟨nd, rfl⟩⟩; refine ⟨_, rfl, ?_⟩))
  go_ret3
  exact ⟨yS, yD⟩
/-! ### haulageref11_R_Raw: function 98 -/
def haulageref11_R_Raw.f (k : Nat) (s0_0 : ByteArray) (s0_1 : Int) (s0_2 : Int) : Option (Int × ByteArray × Int × Int) := if s0_2 = 0 then (if 0 ≤ s0_1 then (if s0_1 ≤ (s0_0.size : Int) then ((haulageref01_Long.f k (s0_0.extract (s0_1 : Int).toNat s0_0.size)).bind fun bt335 => ((haulageref11_R_bad.f s0_0 s0_1 s0_2 bt335.2.2).bind fun bt338 => (some (bt335.1, bt338.1, wrap64 (bt338.2.1 + bt335.2.1), bt338.2.2)))) else (none)) else (none)) else (some (0, s0_0, s0_1, s0_2))
theorem haulageref11_R_Raw.mono : ∀ a0 a1 a2 k, LeO (haulageref11_R_Raw.f k a0 a1 a2) (haulageref11_R_Raw.f (k + 1) a0 a1 a2) := by
 intro a0 a1 a2 k
 unfold haulageref11_R_Raw.f
 repeat' first | with_reducible (first | exact haulageref01_Long.mono .. | exact LeO.refl .. | exact LeO.none .. | refine LeO.ite ?_ ?_ | refine LeO.bind ?_ (fun _ => ?_)) | exact haulageref01_Long.mono .. | exact LeO.none .. | refine LeO.ite ?_ ?_ | refine LeO.bind ?_ (fun _ => ?_)
set_option maxHeartbeats 8000000 in
set_option maxRecDepth 100000 in
theorem haulageref11_R_Raw.calls (k : Nat) (g : Nat) (s0_0 : ByteArray) (s0_1 : Int) (s0_2 : Int) (r1 : Int) (r2 : ByteArray) (r3 : Int) (r4 : Int) (w0 w : World) (hI : IsS86 w0 w g s0_0 s0_1 s0_2) (hB : Below w0.heap.size w0 w) (h : haulageref11_R_Raw.f k s0_0 s0_1 s0_2 = some (r1, r2, r3, r4)) :
  Calls Tryd.prog 98 #[.pointer (some ⟨g, 0, none⟩)] w fun e w' => e = .returned (.int .u64 r1) ∧ IsS86 w0 w' g r2 r3 r4 ∧ Below w0.heap.size w0 w' ∧ KeepBut w w' g none := by
 have HI0 := aM hI
 have HK := aM (KeepBut.refl w g none)
 have HL := aM hB.size
 clear hI
 have HW0 := aM hB.size
 have HB := aM hB
 clear hB
 have H : (if s0_2 = 0 then (if 0 ≤ s0_1 then (if s0_1 ≤ (s0_0.size : Int) then ((haulageref01_Long.f k (s0_0.extract (s0_1 : Int).toNat s0_0.size)).bind fun bt335 => ((haulageref11_R_bad.f s0_0 s0_1 s0_2 bt335.2.2).bind fun bt338 => (some (bt335.1, bt338.1, wrap64 (bt338.2.1 + bt335.2.1), bt338.2.2)))) else (none)) else (none)) else (some (0, s0_0, s0_1, s0_2))) = some (r1, r2, r3, r4) := h
 clear h
 by_cases c2 : s0_2 = 0
 ·
  rw [if_pos c2] at H
  have c2b0 : (s0_2 == 0) = true := beq_iff_eq.mpr c2
  have c2b1 : (s0_2 != 0) = false := bne_eq_false_iff_eq.mpr c2
  clear c2
  by_cases c3 : 0 ≤ s0_1
  ·
   rw [if_pos c3] at H
   have c3b0 := eq_true c3
   have c3b1 : decide (0 ≤ s0_1) = true := decide_eq_true c3
   clear c3
   by_cases c4 : s0_1 ≤ (s0_0.size : Int)
   ·
    rw [if_pos c4] at H
    have c4b0 := eq_true c4
    have c4b1 : decide (s0_1 ≤ (s0_0.size : Int)) = true := decide_eq_true c4
    clear c4
    obtain ⟨⟨t335, t336, t337⟩, A5, H⟩ := yb H
    try dsimp -simprocs only at H
    obtain ⟨⟨t338, t339, t340⟩, A6, H⟩ := yb H
    try dsimp -simprocs only at H
    simp only [Option.some.injEq, Prod.mk.injEq] at H
    obtain ⟨rfl, rfl, rfl, rfl⟩ := H
    obtain ⟨HGz7, hgz7⟩ := HI0.out
    have hcz7_0 := cellS86_0 HGz7
    have hcz7_1 := cellS86_1 HGz7
    have hcz7_2 := cellS86_2 HGz7
    have hfz7_0 := blk_frozen HGz7 0
    have hfz7_1 := blk_frozen HGz7 1
    have hfz7_2 := blk_frozen HGz7 2
    clear HGz7 hgz7
    go_enter Tryd.func98, Tryd.ntmps98
    go_wp2_with (first | (go_at_call 125; (with_reducible refine (haulageref01_Long.calls k (s0_0.extract (s0_1 : Int).toNat s0_0.size) t335 t336 t337 _ A5.out).mono ?_); rintro e w' ⟨rfl, ⟨nd, rfl⟩⟩; (try first | exact ⟨rfl, _, World.drewN_drewN _ _ _⟩ | exact ⟨rfl, _, Eq.trans (World.drewN_drewN _ _ _) (congrArg (World.drewN _) (Nat.add_assoc _ _ _))⟩)) | (go_at_call 59; (with_reducible refine (haulageref11_R_bad.calls g s0_0 s0_1 s0_2 t337 t338 t339 t340 w0 _ ?side1 ?side2 A6.out).mono ?_); (case side1 => repeat (first | (with_reducible first | exact HI0.out | apply IsS86.alloc | apply IsS86.drewN | apply IsS86.drew | apply IsS86.set_0 | apply IsS86.set_1 | apply IsS86.set_2) | exact HI0.out)); (case side2 => exact yG1 HB (IsS86.ge HI0.out)); rintro e w8 ⟨rfl, hi, hb, hk⟩; replace HK := aM (KeepBut.trans (by repeat (first | (with_reducible first | exact HK.out | apply KeepBut.set_ | apply keep_drewN | apply keep_drew | apply keep_alloc) | exact HK.out)) hk (.inl rfl)); replace HB := aM (hb); replace HI0 := aM (hi); (try clear hb); (try clear hb2); (try clear hk); (try clear hi); obtain ⟨HGz9, hgz9⟩ := HI0.out; have hcz9_0 := cellS86_0 HGz9; have hcz9_1 := cellS86_1 HGz9; have hcz9_2 := cellS86_2 HGz9; have hfz9_0 := blk_frozen HGz9 0; have hfz9_1 := blk_frozen HGz9 1; have hfz9_2 := blk_frozen HGz9 2; clear HGz9 hgz9))
    repeat (go_quiet (first | (go_at_call 125; (with_reducible refine (haulageref01_Long.calls k (s0_0.extract (s0_1 : Int).toNat s0_0.size) t335 t336 t337 _ A5.out).mono ?_); rintro e w' ⟨rfl, ⟨nd, rfl⟩⟩; (try first | exact ⟨rfl, _, World.drewN_drewN _ _ _⟩ | exact ⟨rfl, _, Eq.trans (World.drewN_drewN _ _ _) (congrArg (World.drewN _) (Nat.add_assoc _ _ _))⟩)) | (go_at_call 59; (with_reducible refine (haulageref11_R_bad.calls g s0_0 s0_1 s0_2 t337 t338 t339 t340 w0 _ ?side1 ?side2 A6.out).mono ?_); (case side1 => repeat (first | (with_reducible first | exact HI0.out | apply IsS86.alloc | apply IsS86.drewN | apply IsS86.drew | apply IsS86.set_0 | apply IsS86.set_1 | apply IsS86.set_2) | exact HI0.out)); (case side2 => exact yG1 HB (IsS86.ge HI0.out)); rintro e w8 ⟨rfl, hi, hb, hk⟩; replace HK := aM (KeepBut.trans (by repeat (first | (with_reducible first | exact HK.out | apply KeepBut.set_ | apply keep_drewN | apply keep_drew | apply keep_alloc) | exact HK.out)) hk (.inl rfl)); replace HB := aM (hb); replace HI0 := aM (hi); (try clear hb); (try clear hb2); (try clear hk); (try clear hi); obtain ⟨HGz9, hgz9⟩ := HI0.out; have hcz9_0 := cellS86_0 HGz9; have hcz9_1 := cellS86_1 HGz9; have hcz9_2 := cellS86_2 HGz9; have hfz9_0 := blk_frozen HGz9 0; have hfz9_1 := blk_frozen HGz9 1; have hfz9_2 := blk_frozen HGz9 2; clear HGz9 hgz9)); try go_wp2_with (first | (go_at_call 125; (with_reducible refine (haulageref01_Long.calls k (s0_0.extract (s0_1 : Int).toNat s0_0.size) t335 t336 t337 _ A5.out).mono ?_); rintro e w' ⟨rfl, ⟨nd, rfl⟩⟩; (try first | exact ⟨rfl, _, World.drewN_drewN _ _ _⟩ | exact ⟨rfl, _, Eq.trans (World.drewN_drewN _ _ _) (congrArg (World.drewN _) (Nat.add_assoc _ _ _))⟩)) | (go_at_call 59; (with_reducible refine (haulageref11_R_bad.calls g s0_0 s0_1 s0_2 t337 t338 t339 t340 w0 _ ?side1 ?side2 A6.out).mono ?_); (case side1 => repeat (first | (with_reducible first | exact HI0.out | apply IsS86.alloc | apply IsS86.drewN | apply IsS86.drew | apply IsS86.set_0 | apply IsS86.set_1 | apply IsS86.set_2) | exact HI0.out)); (case side2 => exact yG1 HB (IsS86.ge HI0.out)); rintro e w8 ⟨rfl, hi, hb, hk⟩; replace HK := aM (KeepBut.trans (by repeat (first | (with_reducible first | exact HK.out | apply KeepBut.set_ | apply keep_drewN | apply keep_drew | apply keep_alloc) | exact HK.out)) hk (.inl rfl)); replace HB := aM (hb); replace HI0 := aM (hi); (try clear hb); (try clear hb2); (try clear hk); (try clear hi); obtain ⟨HGz9, hgz9⟩ := HI0.out; have hcz9_0 := cellS86_0 HGz9; have hcz9_1 := cellS86_1 HGz9; have hcz9_2 := cellS86_2 HGz9; have hfz9_0 := blk_frozen HGz9 0; have hfz9_1 := blk_frozen HGz9 1; have hfz9_2 := blk_frozen HGz9 2; clear HGz9 hgz9)))
    go_ret
    exact ⟨yE, by repeat (first | (with_reducible first | exact HI0.out | apply IsS86.alloc | apply IsS86.drewN | apply IsS86.drew | apply IsS86.set_0 | apply IsS86.set_1 | apply IsS86.set_2) | exact HI0.out), yG1 HB (IsS86.ge HI0.out), by repeat (first | (with_reducible first | exact HK.out | apply KeepBut.set_ | apply keep_drewN | apply keep_drew | apply keep_alloc) | exact HK.out)⟩
   ·
    rw [if_neg c4] at H
    exact absurd H (by simp)
  ·
   rw [if_neg c3] at H
   exact absurd H (by simp)
 ·
  rw [if_neg c2] at H
  have c2b0 : (s0_2 == 0) = false := beq_eq_false_iff_ne.mpr c2
  have c2b1 : (s0_2 != 0) = true := bne_iff_ne.mpr c2
  simp only [Option.some.injEq, Prod.mk.injEq] at H
  obtain ⟨rfl, rfl, rfl, rfl⟩ := H
  obtain ⟨HGz10, hgz10⟩ := HI0.out
  have hcz10_0 := cellS86_0 HGz10
  have hcz10_1 := cellS86_1 HGz10
  have hcz10_2 := cellS86_2 HGz10
  have hfz10_0 := blk_frozen HGz10 0
  have hfz10_1 := blk_frozen HGz10 1
  have hfz10_2 := blk_frozen HGz10 2
  clear HGz10 hgz10
  go_enter Tryd.func98, Tryd.ntmps98
  go_wp2
  repeat (go_quiet (fail); try go_wp2)
  go_ret
  exact ⟨yE, by repeat (first | (with_reducible first | exact HI0.out | apply IsS86.alloc | apply IsS86.drewN | apply IsS86.drew | apply IsS86.set_0 | apply IsS86.set_1 | apply IsS86.set_2) | exact HI0.out), yG1 HB (IsS86.ge HI0.out), by repeat (first | (with_reducible first | exact HK.out | apply KeepBut.set_ | apply keep_drewN | apply keep_drew | apply keep_alloc) | exact HK.out)⟩
/-! ### haulageref11_R_Number: function 56 -/
mutual
def haulageref11_R_Number.j0 : Nat → Int → Bool → ByteArray → Int → Int → Option (Int × ByteArray × Int × Int)
 | 0, _, _, _, _, _ => none
 | k + 1, x5, x18, x1000, x1001, x1002 => if x18 = true then ((haulageref11_R_bad.f x1000 x1001 x1002 5).bind fun bt345 => (haulageref11_R_Number.j1 k x5 bt345.1 bt345.2.1 bt345.2.2)) else (haulageref11_R_Number.j1 k x5 x1000 x1001 x1002)
def haulageref11_R_Number.j1 : Nat → Int → ByteArray → Int → Int → Option (Int × ByteArray × Int × Int)
 | 0, _, _, _, _ => none
 | k + 1, x5, x1000, x1001, x1002 => if x1002 = 0 then (some (wrap64 (x5), x1000, x1001, x1002)) else (some (0, x1000, x1001, x1002))
end
def haulageref11_R_Number.f (k : Nat) (s0_0 : ByteArray) (s0_1 : Int) (s0_2 : Int) (a1 : Int) : Option (Int × ByteArray × Int × Int) := (haulageref11_R_Raw.f k s0_0 s0_1 s0_2).bind fun bt341 => (if bt341.2.2.2 = 0 then (haulageref11_R_Number.j0 k bt341.1 (decide (bt341.1 > (IntKind.u64.wrap (a1)))) bt341.2.1 bt341.2.2.1 bt341.2.2.2) else (haulageref11_R_Number.j0 k bt341.1 false bt341.2.1 bt341.2.2.1 bt341.2.2.2))
theorem haulageref11_R_Number.mono_l : ∀ k, (∀ y0 y1 y2 y3 y4, LeO (haulageref11_R_Number.j0 k y0 y1 y2 y3 y4) (haulageref11_R_Number.j0 (k + 1) y0 y1 y2 y3 y4)) ∧ (∀ y0 y1 y2 y3, LeO (haulageref11_R_Number.j1 k y0 y1 y2 y3) (haulageref11_R_Number.j1 (k + 1) y0 y1 y2 y3))
 | 0 => by refine ⟨?_, ?_⟩ <;> intros <;> exact LeO.none _
 | k + 1 => by
  obtain ⟨ih0, ih1⟩ := haulageref11_R_Number.mono_l k
  refine ⟨?_, ?_⟩ <;> intros <;> first | unfold haulageref11_R_Number.j0 | unfold haulageref11_R_Number.j1
  all_goals repeat' first | with_reducible (first | exact ih0 .. | exact ih1 .. | exact haulageref11_R_Raw.mono .. | exact LeO.refl .. | exact LeO.none .. | refine LeO.ite ?_ ?_ | refine LeO.bind ?_ (fun _ => ?_)) | exact ih0 .. | exact ih1 .. | exact haulageref11_R_Raw.mono .. | exact LeO.none .. | refine LeO.ite ?_ ?_ | refine LeO.bind ?_ (fun _ => ?_)
theorem haulageref11_R_Number.mono : ∀ a0 a1 a2 a3 k, LeO (haulageref11_R_Number.f k a0 a1 a2 a3) (haulageref11_R_Number.f (k + 1) a0 a1 a2 a3) := by
 intro a0 a1 a2 a3 k
 obtain ⟨ih0, ih1⟩ := haulageref11_R_Number.mono_l k
 unfold haulageref11_R_Number.f
 repeat' first | with_reducible (first | exact ih0 .. | exact ih1 .. | exact haulageref11_R_Raw.mono .. | exact LeO.refl .. | exact LeO.none .. | refine LeO.ite ?_ ?_ | refine LeO.bind ?_ (fun _ => ?_)) | exact ih0 .. | exact ih1 .. | exact haulageref11_R_Raw.mono .. | exact LeO.none .. | refine LeO.ite ?_ ?_ | refine LeO.bind ?_ (fun _ => ?_)
set_option maxHeartbeats 8000000 in
set_option maxRecDepth 100000 in
theorem haulageref11_R_Number.calls (k : Nat) (g : Nat) (s0_0 : ByteArray) (s0_1 : Int) (s0_2 : Int) (a1 : Int) (r1 : Int) (r2 : ByteArray) (r3 : Int) (r4 : Int) (w0 w : World) (hI : IsS86 w0 w g s0_0 s0_1 s0_2) (hB : Below w0.heap.size w0 w) (h : haulageref11_R_Number.f k s0_0 s0_1 s0_2 a1 = some (r1, r2, r3, r4)) :
  Calls Tryd.prog 56 #[.pointer (some ⟨g, 0, none⟩), .int .i64 a1] w fun e w' => e = .returned (.int .i64 r1) ∧ IsS86 w0 w' g r2 r3 r4 ∧ Below w0.heap.size w0 w' ∧ KeepBut w w' g none := by
 have HI0 := aM hI
 have HK := aM (KeepBut.refl w g none)
 have HL := aM hB.size
 clear hI
 have HW0 := aM hB.size
 have HB := aM hB
 clear hB
 have H : ((haulageref11_R_Raw.f k s0_0 s0_1 s0_2).bind fun bt341 => (if bt341.2.2.2 = 0 then (haulageref11_R_Number.j0 k bt341.1 (decide (bt341.1 > (IntKind.u64.wrap (a1)))) bt341.2.1 bt341.2.2.1 bt341.2.2.2) else (haulageref11_R_Number.j0 k bt341.1 false bt341.2.1 bt341.2.2.1 bt341.2.2.2))) = some (r1, r2, r3, r4) := h
 clear h
 obtain ⟨⟨t341, t342, t343, t344⟩, A3, H⟩ := yb H
 try dsimp -simprocs only at H
 have HC4 := aM H
 clear H
 go_enter Tryd.func56, Tryd.ntmps56
 go_upto_region 2 with (first | ((with_reducible refine gate_callee (f := 98) rfl ?_); refine yC 7 Tryd.func98 #[.pointer (some ⟨g, 0, none⟩)] rfl ?_; (with_reducible refine (haulageref11_R_Raw.calls k g s0_0 s0_1 s0_2 t341 t342 t343 t344 w0 _ ?side1 ?side2 A3.out).mono ?_); (case side1 => repeat (first | (with_reducible first | exact HI0.out | apply IsS86.alloc | apply IsS86.drewN | apply IsS86.drew | apply IsS86.set_0 | apply IsS86.set_1 | apply IsS86.set_2) | exact HI0.out)); (case side2 => exact yG1 HB (IsS86.ge HI0.out)); rintro e w5 ⟨rfl, hi, hb, hk⟩; refine ⟨_, rfl, ?_⟩; replace HK := aM (KeepBut.trans (by repeat (first | (with_reducible first | exact HK.out | apply KeepBut.set_ | apply keep_drewN | apply keep_drew | apply keep_alloc) | exact HK.out)) hk (.inl rfl)); replace HB := aM (hb); replace HI0 := aM (hi); (try clear hb); (try clear hk); (try clear hi)))
 (try simp only [Act.put, s1_, s2_, s3_])
 go_cut [18] (fun v18 wc => ∃ (kq : Nat) (x18_3 : Bool), v18 = .bool x18_3 ∧ Aside0 (haulageref11_R_Number.j0 kq t341 x18_3 t342 t343 t344 = some (r1, r2, r3, r4)) ∧ Aside0 (kq ≤ k) ∧ Aside0 (IsS86 w0 wc g t342 t343 t344) ∧ Aside0 (KeepBut w wc g none) ∧ Aside0 (Below w0.heap.size w0 wc))
 case first =>
  have H := HC4.out
  clear HC4
  by_cases c6 : t344 = 0
  ·
   rw [if_pos c6] at H
   have c6b0 : (t344 == 0) = true := beq_iff_eq.mpr c6
   have c6b1 : (t344 != 0) = false := bne_eq_false_iff_eq.mpr c6
   clear c6
   (first | rw [c6b0] | (simp only [i64_w, i32_w]; rw [c6b0]) | skip)
   have H' := aM H
   clear H
   obtain ⟨HGz7, hgz7⟩ := HI0.out
   have hcz7_0 := cellS86_0 HGz7
   have hcz7_1 := cellS86_1 HGz7
   have hcz7_2 := cellS86_2 HGz7
   have hfz7_0 := blk_frozen HGz7 0
   have hfz7_1 := blk_frozen HGz7 1
   have hfz7_2 := blk_frozen HGz7 2
   clear HGz7 hgz7
   go_wp2
   go_meet
   case rel => exact ⟨_, (decide (t341 > (IntKind.u64.wrap (a1)))), yS, H', ⟨yO⟩, ⟨by repeat (first | (with_reducible first | exact HI0.out | apply IsS86.alloc | apply IsS86.drewN | apply IsS86.drew | apply IsS86.set_0 | apply IsS86.set_1 | apply IsS86.set_2) | exact HI0.out)⟩, ⟨by repeat (first | (with_reducible first | exact HK.out | apply KeepBut.set_ | apply keep_drewN | apply keep_drew | apply keep_alloc) | exact HK.out)⟩, ⟨yG1 HB (IsS86.ge HI0.out)⟩⟩
  ·
   rw [if_neg c6] at H
   have c6b0 : (t344 == 0) = false := beq_eq_false_iff_ne.mpr c6
   have c6b1 : (t344 != 0) = true := bne_iff_ne.mpr c6
   (first | rw [c6b0] | (simp only [i64_w, i32_w]; rw [c6b0]) | skip)
   have H' := aM H
   clear H
   obtain ⟨HGz8, hgz8⟩ := HI0.out
   have hcz8_0 := cellS86_0 HGz8
   have hcz8_1 := cellS86_1 HGz8
   have hcz8_2 := cellS86_2 HGz8
   have hfz8_0 := blk_frozen HGz8 0
   have hfz8_1 := blk_frozen HGz8 1
   have hfz8_2 := blk_frozen HGz8 2
   clear HGz8 hgz8
   go_wp2
   go_meet
   case rel => exact ⟨_, (false), yS, H', ⟨yO⟩, ⟨by repeat (first | (with_reducible first | exact HI0.out | apply IsS86.alloc | apply IsS86.drewN | apply IsS86.drew | apply IsS86.set_0 | apply IsS86.set_1 | apply IsS86.set_2) | exact HI0.out)⟩, ⟨by repeat (first | (with_reducible first | exact HK.out | apply KeepBut.set_ | apply keep_drewN | apply keep_drew | apply keep_alloc) | exact HK.out)⟩, ⟨yG1 HB (IsS86.ge HI0.out)⟩⟩
 case rest =>
  clear HC4
  obtain ⟨kq, x18_3, rfl, HA, HJ3, HI0, HK, HB⟩ := hcut
  cases kq with
  | zero => exact absurd HA.out (by simp [haulageref11_R_Number.j0])
  | succ kj3 =>
   have H := HA.out
   clear HA
   simp only [haulageref11_R_Number.j0] at H
   have HC9 := aM H
   clear H
   go_upto_if 18 with (fail)
   go_cut [] (fun wc => ∃ (kq : Nat) (x1000_8 : ByteArray) (x1001_8 : Int) (x1002_8 : Int), Aside0 (haulageref11_R_Number.j1 kq t341 x1000_8 x1001_8 x1002_8 = some (r1, r2, r3, r4)) ∧ Aside0 (kq ≤ kj3) ∧ Aside0 (IsS86 w0 wc g x1000_8 x1001_8 x1002_8) ∧ Aside0 (KeepBut w wc g none) ∧ Aside0 (Below w0.heap.size w0 wc))
   case first =>
    have H := HC9.out
    clear HC9
    by_cases c10 : x18_3 = true
    ·
     subst c10
     replace H := yt H
     obtain ⟨⟨t345, t346, t347⟩, A11, H⟩ := yb H
     try dsimp -simprocs only at H
     have H' := aM H
     clear H
     go_wp2_with (first | ((with_reducible refine gate_callee (f := 59) rfl ?_); refine yC 20 Tryd.func59 #[.pointer (some ⟨g, 0, none⟩), .int .i64 5] rfl ?_; (with_reducible refine (haulageref11_R_bad.calls g t342 t343 t344 5 t345 t346 t347 w0 _ ?side1 ?side2 A11.out).mono ?_); (case side1 => repeat (first | (with_reducible first | exact HI0.out | apply IsS86.alloc | apply IsS86.drewN | apply IsS86.drew | apply IsS86.set_0 | apply IsS86.set_1 | apply IsS86.set_2) | exact HI0.out)); (case side2 => exact yG1 HB (IsS86.ge HI0.out)); rintro e w12 ⟨rfl, hi, hb, hk⟩; refine ⟨_, rfl, ?_⟩; replace HK := aM (KeepBut.trans (by repeat (first | (with_reducible first | exact HK.out | apply KeepBut.set_ | apply keep_drewN | apply keep_drew | apply keep_alloc) | exact HK.out)) hk (.inl rfl)); replace HB := aM (hb); replace HI0 := aM (hi); (try clear hb); (try clear hk); (try clear hi)))
     go_meet
     case rel => exact ⟨_, (t345), (t346), (t347), H', ⟨by have := HJ3.out; first | omega | exact Nat.le_refl _⟩, ⟨by repeat (first | (with_reducible first | exact HI0.out | apply IsS86.alloc | apply IsS86.drewN | apply IsS86.drew | apply IsS86.set_0 | apply IsS86.set_1 | apply IsS86.set_2) | exact HI0.out)⟩, ⟨by repeat (first | (with_reducible first | exact HK.out | apply KeepBut.set_ | apply keep_drewN | apply keep_drew | apply keep_alloc) | exact HK.out)⟩, ⟨yG1 HB (IsS86.ge HI0.out)⟩⟩
    ·
     replace c10 := Bool.eq_false_iff.mpr c10
     subst c10
     replace H := yf H
     have H' := aM H
     clear H
     go_wp2
     go_meet
     case rel => exact ⟨_, (t342), (t343), (t344), H', ⟨by have := HJ3.out; first | omega | exact Nat.le_refl _⟩, ⟨by repeat (first | (with_reducible first | exact HI0.out | apply IsS86.alloc | apply IsS86.drewN | apply IsS86.drew | apply IsS86.set_0 | apply IsS86.set_1 | apply IsS86.set_2) | exact HI0.out)⟩, ⟨by repeat (first | (with_reducible first | exact HK.out | apply KeepBut.set_ | apply keep_drewN | apply keep_drew | apply keep_alloc) | exact HK.out)⟩, ⟨yG1 HB (IsS86.ge HI0.out)⟩⟩
   case rest =>
    clear HC9
    obtain ⟨kq, x1000_8, x1001_8, x1002_8, HA, HJ8, HI0, HK, HB⟩ := hcut
    cases kq with
    | zero => exact absurd HA.out (by simp [haulageref11_R_Number.j1])
    | succ kj8 =>
     have H := HA.out
     clear HA
     simp only [haulageref11_R_Number.j1] at H
     by_cases c13 : x1002_8 = 0
     ·
      rw [if_pos c13] at H
      have c13b0 : (x1002_8 == 0) = true := beq_iff_eq.mpr c13
      have c13b1 : (x1002_8 != 0) = false := bne_eq_false_iff_eq.mpr c13
      clear c13
      simp only [Option.some.injEq, Prod.mk.injEq] at H
      obtain ⟨rfl, rfl, rfl, rfl⟩ := H
      obtain ⟨HGz14, hgz14⟩ := HI0.out
      have hcz14_0 := cellS86_0 HGz14
      have hcz14_1 := cellS86_1 HGz14
      have hcz14_2 := cellS86_2 HGz14
      have hfz14_0 := blk_frozen HGz14 0
      have hfz14_1 := blk_frozen HGz14 1
      have hfz14_2 := blk_frozen HGz14 2
      clear HGz14 hgz14
      go_wp2
      go_ret
      exact ⟨yE, by repeat (first | (with_reducible first | exact HI0.out | apply IsS86.alloc | apply IsS86.drewN | apply IsS86.drew | apply IsS86.set_0 | apply IsS86.set_1 | apply IsS86.set_2) | exact HI0.out), yG1 HB (IsS86.ge HI0.out), by repeat (first | (with_reducible first | exact HK.out | apply KeepBut.set_ | apply keep_drewN | apply keep_drew | apply keep_alloc) | exact HK.out)⟩
     ·
      rw [if_neg c13] at H
      have c13b0 : (x1002_8 == 0) = false := beq_eq_false_iff_ne.mpr c13
      have c13b1 : (x1002_8 != 0) = true := bne_iff_ne.mpr c13
      simp only [Option.some.injEq, Prod.mk.injEq] at H
      obtain ⟨rfl, rfl, rfl, rfl⟩ := H
      obtain ⟨HGz15, hgz15⟩ := HI0.out
      have hcz15_0 := cellS86_0 HGz15
      have hcz15_1 := cellS86_1 HGz15
      have hcz15_2 := cellS86_2 HGz15
      have hfz15_0 := blk_frozen HGz15 0
      have hfz15_1 := blk_frozen HGz15 1
      have hfz15_2 := blk_frozen HGz15 2
      clear HGz15 hgz15
      go_wp2
      go_ret
      exact ⟨yE, by repeat (first | (with_reducible first | exact HI0.out | apply IsS86.alloc | apply IsS86.drewN | apply IsS86.drew | apply IsS86.set_0 | apply IsS86.set_1 | apply IsS86.set_2) | exact HI0.out), yG1 HB (IsS86.ge HI0.out), by repeat (first | (with_reducible first | exact HK.out | apply KeepBut.set_ | apply keep_drewN | apply keep_drew | apply keep_alloc) | exact HK.out)⟩
end Go.Proofs.YtgefikclhfjcgaaDoor.HCatcodeValues

/- For Go functions that RowcodeKeys reaches: Lean functions, and walks that show that each call comes to what its Lean function tells; no condition but those that each theorem states. (Made by a program of this session over the kit's print.py.) -/
import Derived.Test.YtdeophpjammbpaaDoorHRowcodeKeysx0
import Derived.Test.YtdeophpjammbpaaDoorHRowcodeKeysx1
import Derived.Test.YtdeophpjammbpaaDoorHRowcodeKeysx9
import Derived.Test.YtdeophpjammbpaaDoorHRowcodeKeysx11
namespace Go.Proofs.YtdeophpjammbpaaDoor.HRowcodeKeys
open Go.RowKit Go.Proofs.YtdeophpjammbpaaDoorW.PrintWords Go.Proofs.YtdeophpjammbpaaDoorW.PrintLast Go.Proofs.YtdeophpjammbpaaDoorW.PrintMore
attribute [local go_sem] max2_int min2_int max_two min_two max_three min_three max_four min_four   -- for this text's walks alone
set_option linter.unusedVariables false
set_option linter.unusedSimpArgs false
attribute [local go_sem] hp_s8 hp_s16 hp_s32 hp_s64 hp_m8 hp_m16 hp_m32 hp_m64
attribute [local go_sem high] eqA52
/-! ### haulageref04_Read: function 96 -/
mutual
def haulageref04_Read.l0 : Nat → ByteArray → Int → Option (Int)
 | 0, _, _ => none
 | k + 1, x0, x3 => if x3 < (x0.size : Int) then (if 0 ≤ x3 then ((haulageref04_Part.f (bt x0 x3)).bind fun t259 => (if t259 = true then (if x3 > 0 then (haulageref04_Read.j1 k x0 x3 true) else (if 0 < (x0.size : Int) then ((haulageref04_letter.f (bt x0 0)).bind fun t260 => (haulageref04_Read.j1 k x0 x3 t260)) else (none))) else (haulageref04_Read.j1 k x0 x3 false))) else (none)) else (haulageref04_Read.j1 k x0 x3 false)
def haulageref04_Read.j1 : Nat → ByteArray → Int → Bool → Option (Int)
 | 0, _, _, _ => none
 | k + 1, x0, x3, x22 => if x22 = true then (haulageref04_Read.l0 k x0 (wrap64 (x3 + 1))) else (some x3)
end
def haulageref04_Read.f (k : Nat) (a0 : ByteArray) : Option (Int) := haulageref04_Read.l0 k a0 0
theorem haulageref04_Read.mono_l : ∀ k, (∀ y0 y1, LeO (haulageref04_Read.l0 k y0 y1) (haulageref04_Read.l0 (k + 1) y0 y1)) ∧ (∀ y0 y1 y2, LeO (haulageref04_Read.j1 k y0 y1 y2) (haulageref04_Read.j1 (k + 1) y0 y1 y2))
 | 0 => by refine ⟨?_, ?_⟩ <;> intros <;> exact LeO.none _
 | k + 1 => by
  obtain ⟨ih0, ih1⟩ := haulageref04_Read.mono_l k
  refine ⟨?_, ?_⟩ <;> intros <;> first | unfold haulageref04_Read.l0 | unfold haulageref04_Read.j1
  all_goals repeat' first | with_reducible (first | exact ih0 .. | exact ih1 .. | exact LeO.refl .. | exact LeO.none .. | refine LeO.ite ?_ ?_ | refine LeO.bind ?_ (fun _ => ?_)) | exact ih0 .. | exact ih1 .. | exact LeO.none .. | refine LeO.ite ?_ ?_ | refine LeO.bind ?_ (fun _ => ?_)
theorem haulageref04_Read.mono : ∀ a0 k, LeO (haulageref04_Read.f k a0) (haulageref04_Read.f (k + 1) a0) := by
 intro a0 k
 obtain ⟨ih0, ih1⟩ := haulageref04_Read.mono_l k
 unfold haulageref04_Read.f
 repeat' first | with_reducible (first | exact ih0 .. | exact ih1 .. | exact LeO.refl .. | exact LeO.none .. | refine LeO.ite ?_ ?_ | refine LeO.bind ?_ (fun _ => ?_)) | exact ih0 .. | exact ih1 .. | exact LeO.none .. | refine LeO.ite ?_ ?_ | refine LeO.bind ?_ (fun _ => ?_)
set_option maxHeartbeats 8000000 in
set_option maxRecDepth 100000 in
theorem haulageref04_Read.calls (k : Nat) (a0 : ByteArray) (r : Int) (w : World) (h : haulageref04_Read.f k a0 = some r) :
  Calls Tryd.prog 96 #[.string a0] w fun e w' => e = .returned (.int .i64 r) ∧ Drawn0 w w' := by
 have H : (haulageref04_Read.l0 k a0 0) = some r := h
 clear h
 have H' := aM H
 clear H
 go_enter Tryd.func96, Tryd.ntmps96
 go_wp2
 go_loopg [3] k (fun kq v3 w' => ∃ (x3_1 : Int), v3 = .int .i64 x3_1 ∧ Aside0 (haulageref04_Read.l0 kq a0 x3_1 = some r) ∧ Aside0 (kq ≤ k) ∧ Drawn0 w w')
 case atStart => exact ⟨(0), yS, H', ⟨Nat.le_refl _⟩, yD⟩
 case round =>
  clear H'
  obtain ⟨x3_1, rfl, HA, HK1, ⟨m1, rfl⟩⟩ := hrel
  cases gk with
  | zero => exact absurd HA.out (by simp [haulageref04_Read.l0])
  | succ k1 =>
   have H := HA.out
   clear HA
   simp only [haulageref04_Read.l0] at H
   have HC2 := aM H
   clear H
   go_upto_region 2 with (fail)
   go_cut [22] (fun v22 wc => ∃ (kq : Nat) (x22_1 : Bool), v22 = .bool x22_1 ∧ Aside0 (haulageref04_Read.j1 kq a0 x3_1 x22_1 = some r) ∧ Aside0 (kq ≤ k1) ∧ Drawn0 w wc)
   case first =>
    have H := HC2.out
    clear HC2
    by_cases c3 : x3_1 < (a0.size : Int)
    ·
     rw [if_pos c3] at H
     have c3b0 : decide (x3_1 < (a0.size : Int)) = true := decide_eq_true c3
     clear c3
     (first | rw [c3b0] | (simp only [i64_w, i32_w]; rw [c3b0]) | skip)
     by_cases c4 : 0 ≤ x3_1
     ·
      rw [if_pos c4] at H
      have c4b0 : decide (0 ≤ x3_1) = true := decide_eq_true c4
      clear c4
      obtain ⟨t259, A6, H⟩ := yb H
      by_cases c7 : t259 = true
      ·
       subst c7
       replace H := yt H
       by_cases c8 : x3_1 > 0
       ·
        rw [if_pos c8] at H
        have c8b0 : decide (0 < x3_1) = true := decide_eq_true c8
        clear c8
        have H' := aM H
        clear H
        have p5 : 0 ≤ (x3_1 : Int) := oD yA
        have q5 : x3_1 < (a0.size : Int) := oD yA
        have hx5 := bt_at a0 x3_1
        replace p5 := eq_true p5
        replace q5 := eq_true q5
        go_wp2_with (first | (go_at_call 107; (with_reducible refine (haulageref04_Part.calls (bt a0 x3_1) true _ A6.out).mono ?_); rintro e w' ⟨rfl, ⟨nd, rfl⟩⟩))
        go_meet
        case rel => exact ⟨_, (true), yS, H', ⟨by have := HK1.out; first | omega | exact Nat.le_refl _⟩, yD⟩
       ·
        rw [if_neg c8] at H
        have c8b0 : decide (0 < x3_1) = false := decide_eq_false c8
        clear c8
        by_cases c9 : 0 < (a0.size : Int)
        ·
         rw [if_pos c9] at H
         have c9b0 : decide (0 < (a0.size : Int)) = true := decide_eq_true c9
         have c9b1 : decide (0 < a0.size) = true := decide_eq_true (by omega)
         clear c9
         obtain ⟨t260, A11, H⟩ := yb H
         have H' := aM H
         clear H
         have p5 : 0 ≤ (x3_1 : Int) := oD yA
         have q5 : x3_1 < (a0.size : Int) := oD yA
         have hx5 := bt_at a0 x3_1
         replace p5 := eq_true p5
         replace q5 := eq_true q5
         go_wp2_with (first | (go_at_call 107; (with_reducible refine (haulageref04_Part.calls (bt a0 x3_1) true _ A6.out).mono ?_); rintro e w' ⟨rfl, ⟨nd, rfl⟩⟩; have p10 : 0 ≤ (0 : Int) := (by omega); have q10 : 0 < a0.size := (by have : (0 : Int) < (a0.size : Int) := oD yA; omega); have hx10 : ∀ h : 0 < a0.size, ((a0[0]'h).toNat : Int) = bt a0 0 := bt_at a0 0; clear p10; have qi10 : (0 < (a0.size : Int)) = True := eq_true (oD yA); replace q10 := eq_true q10) | (go_at_call 108; (with_reducible refine (haulageref04_letter.calls (bt a0 0) t260 _ A11.out).mono ?_); rintro e w' ⟨rfl, ⟨nd, rfl⟩⟩))
         go_meet
         case rel => exact ⟨_, (t260), yS, H', ⟨by have := HK1.out; first | omega | exact Nat.le_refl _⟩, yD⟩
        ·
         rw [if_neg c9] at H
         exact absurd H (by simp)
      ·
       replace c7 := Bool.eq_false_iff.mpr c7
       subst c7
       replace H := yf H
       have H' := aM H
       clear H
       have p5 : 0 ≤ (x3_1 : Int) := oD yA
       have q5 : x3_1 < (a0.size : Int) := oD yA
       have hx5 := bt_at a0 x3_1
       replace p5 := eq_true p5
       replace q5 := eq_true q5
       go_wp2_with (first | (go_at_call 107; (with_reducible refine (haulageref04_Part.calls (bt a0 x3_1) false _ A6.out).mono ?_); rintro e w' ⟨rfl, ⟨nd, rfl⟩⟩))
       go_meet
       case rel => exact ⟨_, (false), yS, H', ⟨by have := HK1.out; first | omega | exact Nat.le_refl _⟩, yD⟩
     ·
      rw [if_neg c4] at H
      exact absurd H (by simp)
    ·
     rw [if_neg c3] at H
     have c3b0 : decide (x3_1 < (a0.size : Int)) = false := decide_eq_false c3
     clear c3
     (first | rw [c3b0] | (simp only [i64_w, i32_w]; rw [c3b0]) | skip)
     have H' := aM H
     clear H
     go_wp2
     go_meet
     case rel => exact ⟨_, (false), yS, H', ⟨by have := HK1.out; first | omega | exact Nat.le_refl _⟩, yD⟩
   case rest =>
    clear HC2
    obtain ⟨kq, x22_1, rfl, HA, HJ1, ⟨mc1, rfl⟩⟩ := hcut
    cases kq with
    | zero => exact absurd HA.out (by simp [haulageref04_Read.j1])
    | succ kj1 =>
     have H := HA.out
     clear HA
     simp only [haulageref04_Read.j1] at H
     by_cases c12 : x22_1 = true
     ·
      subst c12
      replace H := yt H
      have H' := aM H
      clear H
      go_wp2
      go_roundg kj1
      case measure => have := HK1.out; have := HJ1.out; omega
      case rel => exact ⟨(wrap64 (x3_1 + 1)), yS, H', ⟨by have := HK1.out; have := HJ1.out; omega⟩, yD⟩
     ·
      replace c12 := Bool.eq_false_iff.mpr c12
      subst c12
      replace H := yf H
      obtain rfl := Option.some.inj H
      go_wp2
      go_ret
      exact ⟨yS, yD⟩
/-! ### haulageref04_Right: function 69 -/
def haulageref04_Right.f (k : Nat) (a0 : ByteArray) : Option (Bool) := if (a0.size : Int) > 0 then (if (a0.size : Int) ≤ 16 then ((haulageref04_Read.f k a0).bind fun t261 => (some (t261 == (a0.size : Int)))) else (some false)) else (some false)
theorem haulageref04_Right.mono : ∀ a0 k, LeO (haulageref04_Right.f k a0) (haulageref04_Right.f (k + 1) a0) := by
 intro a0 k
 unfold haulageref04_Right.f
 repeat' first | with_reducible (first | exact haulageref04_Read.mono .. | exact LeO.refl .. | exact LeO.none .. | refine LeO.ite ?_ ?_ | refine LeO.bind ?_ (fun _ => ?_)) | exact haulageref04_Read.mono .. | exact LeO.none .. | refine LeO.ite ?_ ?_ | refine LeO.bind ?_ (fun _ => ?_)
set_option maxHeartbeats 8000000 in
set_option maxRecDepth 100000 in
theorem haulageref04_Right.calls (k : Nat) (a0 : ByteArray) (r : Bool) (w : World) (h : haulageref04_Right.f k a0 = some r) :
  Calls Tryd.prog 69 #[.string a0] w fun e w' => e = .returned (.bool r) ∧ Drawn0 w w' := by
 have H : (if (a0.size : Int) > 0 then (if (a0.size : Int) ≤ 16 then ((haulageref04_Read.f k a0).bind fun t261 => (some (t261 == (a0.size : Int)))) else (some false)) else (some false)) = some r := h
 clear h
 by_cases c2 : (a0.size : Int) > 0
 ·
  rw [if_pos c2] at H
  have c2b0 : decide (0 < (a0.size : Int)) = true := decide_eq_true c2
  have c2b1 : decide (0 < a0.size) = true := decide_eq_true (by omega)
  clear c2
  by_cases c3 : (a0.size : Int) ≤ 16
  ·
   rw [if_pos c3] at H
   have c3b0 : decide ((a0.size : Int) ≤ 16) = true := decide_eq_true c3
   have c3b1 : decide (a0.size ≤ 16) = true := decide_eq_true (by omega)
   clear c3
   obtain ⟨t261, A4, H⟩ := yb H
   obtain rfl := Option.some.inj H
   go_enter Tryd.func69, Tryd.ntmps69
   go_wp2_with (first | (go_at_call 96; (with_reducible refine (haulageref04_Read.calls k a0 t261 _ A4.out).mono ?_); rintro e w' ⟨rfl, ⟨nd, rfl⟩⟩))
   go_ret
   exact ⟨yS, yD⟩
  ·
   rw [if_neg c3] at H
   have c3b0 : decide ((a0.size : Int) ≤ 16) = false := decide_eq_false c3
   have c3b1 : decide (a0.size ≤ 16) = false := decide_eq_false (by omega)
   clear c3
   obtain rfl := Option.some.inj H
   go_enter Tryd.func69, Tryd.ntmps69
   go_wp2
   go_ret
   exact ⟨yS, yD⟩
 ·
  rw [if_neg c2] at H
  have c2b0 : decide (0 < (a0.size : Int)) = false := decide_eq_false c2
  have c2b1 : decide (0 < a0.size) = false := decide_eq_false (by omega)
  clear c2
  obtain rfl := Option.some.inj H
  go_enter Tryd.func69, Tryd.ntmps69
  go_wp2
  go_ret
  exact ⟨yS, yD⟩
/-! ### haulageref08_Column: function 29 -/
def haulageref08_Column.f (k : Nat) (a0_0 : Int) (a0_1 : ByteArray) (a0_2 : Int) (a0_3 : Int) (a0_4 : Bool) (a0_5 : Int) (a0_6 : Int) (a0_7 : ByteArray) : Option (Bool) := if a0_0 ≥ 0 then (if a0_0 < 200 then ((haulageref04_Right.f k a0_1).bind fun t263 => (if t263 = true then ((haulageref06_Right.f a0_2 a0_3).bind fun t264 => (if t264 = true then (if (a0_5 == 0 && (a0_6 == 0 && (a0_7.toList == ([] : List UInt8)))) = true then (some true) else ((haulageref06_Fits.f k a0_2 a0_3 a0_5 a0_6 a0_7).bind fun t265 => (some t265))) else (some false))) else (some false))) else (some false)) else (some false)
theorem haulageref08_Column.mono : ∀ a0 a1 a2 a3 a4 a5 a6 a7 k, LeO (haulageref08_Column.f k a0 a1 a2 a3 a4 a5 a6 a7) (haulageref08_Column.f (k + 1) a0 a1 a2 a3 a4 a5 a6 a7) := by
 intro a0 a1 a2 a3 a4 a5 a6 a7 k
 unfold haulageref08_Column.f
 repeat' first | with_reducible (first | exact haulageref04_Right.mono .. | exact haulageref06_Fits.mono .. | exact LeO.refl .. | exact LeO.none .. | refine LeO.ite ?_ ?_ | refine LeO.bind ?_ (fun _ => ?_)) | exact haulageref04_Right.mono .. | exact haulageref06_Fits.mono .. | exact LeO.none .. | refine LeO.ite ?_ ?_ | refine LeO.bind ?_ (fun _ => ?_)
set_option maxHeartbeats 8000000 in
set_option maxRecDepth 100000 in
theorem haulageref08_Column.calls (k : Nat) (a0_0 : Int) (a0_1 : ByteArray) (a0_2 : Int) (a0_3 : Int) (a0_4 : Bool) (a0_5 : Int) (a0_6 : Int) (a0_7 : ByteArray) (r : Bool) (w : World) (h : haulageref08_Column.f k a0_0 a0_1 a0_2 a0_3 a0_4 a0_5 a0_6 a0_7 = some r) :
  Calls Tryd.prog 29 #[.agg #[.int .i64 a0_0, .string a0_1, .int .i64 a0_2, .int .i64 a0_3, .bool a0_4, .int .i64 a0_5, .int .i64 a0_6, .string a0_7]] w fun e w' => e = .returned (.bool r) ∧ Below w.heap.size w w' := by
 have hu54 := Tryd.underlying54
 have hu50 := Tryd.underlying50
 have hu52 := Tryd.underlying52
 have HB := aM (Below.refl w.heap.size w)
 have H : (if a0_0 ≥ 0 then (if a0_0 < 200 then ((haulageref04_Right.f k a0_1).bind fun t263 => (if t263 = true then ((haulageref06_Right.f a0_2 a0_3).bind fun t264 => (if t264 = true then (if (a0_5 == 0 && (a0_6 == 0 && (a0_7.toList == ([] : List UInt8)))) = true then (some true) else ((haulageref06_Fits.f k a0_2 a0_3 a0_5 a0_6 a0_7).bind fun t265 => (some t265))) else (some false))) else (some false))) else (some false)) else (some false)) = some r := h
 clear h
 by_cases c2 : a0_0 ≥ 0
 ·
  rw [if_pos c2] at H
  have c2b0 : decide (0 ≤ a0_0) = true := decide_eq_true c2
  clear c2
  by_cases c3 : a0_0 < 200
  ·
   rw [if_pos c3] at H
   have c3b0 : decide (a0_0 < 200) = true := decide_eq_true c3
   clear c3
   obtain ⟨t263, A4, H⟩ := yb H
   by_cases c5 : t263 = true
   ·
    subst c5
    replace H := yt H
    obtain ⟨t264, A6, H⟩ := yb H
    by_cases c7 : t264 = true
    ·
     subst c7
     replace H := yt H
     by_cases c8 : (a0_5 == 0 && (a0_6 == 0 && (a0_7.toList == ([] : List UInt8)))) = true
     ·
      rw [if_pos c8] at H
      have c8b0 : (a0_5 == 0 && (a0_6 == 0 && (a0_7.toList == ([] : List UInt8)))) = true := c8
      (try have c8b0_e : (a0_5 == 0 && (a0_6 == 0 && ((a0_7.toList.isEmpty)))) = true := by have h_ := c8b0; simp only [hp_nil] at h_; exact h_)
      (try (have c8b1 : decide (a0_5 = 0 && (a0_6 == 0 && (a0_7.toList == ([] : List UInt8)))) = true := by simpa using c8))
      (try have c8b1_e : decide (a0_5 = 0 && (a0_6 == 0 && ((a0_7.toList.isEmpty)))) = true := by have h_ := c8b1; simp only [hp_nil] at h_; exact h_)
      (try (have c8b2 : (a0_5 == 0 && (a0_6 == 0 && (a0_7.toList == ([] : List UInt8)))) = true := by simpa using c8))
      (try have c8b2_e : (a0_5 == 0 && (a0_6 == 0 && ((a0_7.toList.isEmpty)))) = true := by have h_ := c8b2; simp only [hp_nil] at h_; exact h_)
      clear c8
      obtain rfl := Option.some.inj H
      go_enter Tryd.func29, Tryd.ntmps29
      go_wp2_with (first | ((with_reducible refine gate_dst (N := 1) rfl ?_); refine yX (N := 1) (cs := #[.int .i64 a0_0, .string a0_1, .int .i64 a0_2, .int .i64 a0_3, .bool a0_4, .int .i64 a0_5, .int .i64 a0_6, .string a0_7]) (t := 54) ?_; intro gb262 hg w9 hbox hb; have BK262 := aM (hbox); have GW262 := yZ hg (yB HB); have GE262 := yZ hg (yB HB); replace HB := aM (bP (yB HB) hb); clear hb hbox hg; obtain ⟨hcz10_0, hcz10_1, hcz10_2, hcz10_3, hcz10_4, hcz10_5, hcz10_6, hcz10_7, hfz10_0, hfz10_1, hfz10_2, hfz10_3, hfz10_4, hfz10_5, hfz10_6, hfz10_7⟩ := cells8 BK262.out) | (go_at_call 69; (with_reducible refine (haulageref04_Right.calls k a0_1 true _ A4.out).mono ?_); rintro e w' ⟨rfl, ⟨nd, rfl⟩⟩) | (go_at_call 72; (with_reducible refine (haulageref06_Right.calls a0_2 a0_3 true _ A6.out).mono ?_); rintro e w11 ⟨rfl, hb⟩; replace BK262 := aM (kB (yK BK262) hb); replace HB := aM (bP (yG1 HB GE262.out) hb); (try clear hb); obtain ⟨hcz12_0, hcz12_1, hcz12_2, hcz12_3, hcz12_4, hcz12_5, hcz12_6, hcz12_7, hfz12_0, hfz12_1, hfz12_2, hfz12_3, hfz12_4, hfz12_5, hfz12_6, hfz12_7⟩ := cells8 BK262.out))
      go_ret
      exact ⟨yE, yG1 HB GE262.out⟩
     ·
      rw [if_neg c8] at H
      have c8b0 : (a0_5 == 0 && (a0_6 == 0 && (a0_7.toList == ([] : List UInt8)))) = false := by simpa using c8
      (try have c8b0_e : (a0_5 == 0 && (a0_6 == 0 && ((a0_7.toList.isEmpty)))) = false := by have h_ := c8b0; simp only [hp_nil] at h_; exact h_)
      (try (have c8b1 : decide (a0_5 = 0 && (a0_6 == 0 && (a0_7.toList == ([] : List UInt8)))) = false := by simpa using c8))
      (try have c8b1_e : decide (a0_5 = 0 && (a0_6 == 0 && ((a0_7.toList.isEmpty)))) = false := by have h_ := c8b1; simp only [hp_nil] at h_; exact h_)
      (try (have c8b2 : (a0_5 == 0 && (a0_6 == 0 && (a0_7.toList == ([] : List UInt8)))) = false := by simpa using c8))
      (try have c8b2_e : (a0_5 == 0 && (a0_6 == 0 && ((a0_7.toList.isEmpty)))) = false := by have h_ := c8b2; simp only [hp_nil] at h_; exact h_)
      (try (have c8b3 : ¬ (a0_5 = 0 && (a0_6 == 0 && (a0_7.toList == ([] : List UInt8)))) := by simpa using c8))
      (try have c8b3_e : ¬ (a0_5 = 0 && (a0_6 == 0 && ((a0_7.toList.isEmpty)))) := by have h_ := c8b3; simp only [hp_nil] at h_; exact h_)
      clear c8
      obtain ⟨t265, A13, H⟩ := yb H
      obtain rfl := Option.some.inj H
      go_enter Tryd.func29, Tryd.ntmps29
      go_wp2_with (first | ((with_reducible refine gate_dst (N := 1) rfl ?_); refine yX (N := 1) (cs := #[.int .i64 a0_0, .string a0_1, .int .i64 a0_2, .int .i64 a0_3, .bool a0_4, .int .i64 a0_5, .int .i64 a0_6, .string a0_7]) (t := 54) ?_; intro gb262 hg w14 hbox hb; have BK262 := aM (hbox); have GW262 := yZ hg (yB HB); have GE262 := yZ hg (yB HB); replace HB := aM (bP (yB HB) hb); clear hb hbox hg; obtain ⟨hcz15_0, hcz15_1, hcz15_2, hcz15_3, hcz15_4, hcz15_5, hcz15_6, hcz15_7, hfz15_0, hfz15_1, hfz15_2, hfz15_3, hfz15_4, hfz15_5, hfz15_6, hfz15_7⟩ := cells8 BK262.out) | (go_at_call 69; (with_reducible refine (haulageref04_Right.calls k a0_1 true _ A4.out).mono ?_); rintro e w' ⟨rfl, ⟨nd, rfl⟩⟩) | (go_at_call 72; (with_reducible refine (haulageref06_Right.calls a0_2 a0_3 true _ A6.out).mono ?_); rintro e w16 ⟨rfl, hb⟩; replace BK262 := aM (kB (yK BK262) hb); replace HB := aM (bP (yG1 HB GE262.out) hb); (try clear hb); obtain ⟨hcz17_0, hcz17_1, hcz17_2, hcz17_3, hcz17_4, hcz17_5, hcz17_6, hcz17_7, hfz17_0, hfz17_1, hfz17_2, hfz17_3, hfz17_4, hfz17_5, hfz17_6, hfz17_7⟩ := cells8 BK262.out) | (go_at_call 57; (with_reducible refine (haulageref06_Fits.calls k a0_2 a0_3 a0_5 a0_6 a0_7 t265 _ A13.out).mono ?_); rintro e w18 ⟨rfl, hb⟩; replace BK262 := aM (kB (yK BK262) hb); replace HB := aM (bP (yG1 HB GE262.out) hb); (try clear hb)))
      go_ret
      exact ⟨yE, yG1 HB GE262.out⟩
    ·
     replace c7 := Bool.eq_false_iff.mpr c7
     subst c7
     replace H := yf H
     obtain rfl := Option.some.inj H
     go_enter Tryd.func29, Tryd.ntmps29
     go_wp2_with (first | ((with_reducible refine gate_dst (N := 1) rfl ?_); refine yX (N := 1) (cs := #[.int .i64 a0_0, .string a0_1, .int .i64 a0_2, .int .i64 a0_3, .bool a0_4, .int .i64 a0_5, .int .i64 a0_6, .string a0_7]) (t := 54) ?_; intro gb262 hg w19 hbox hb; have BK262 := aM (hbox); have GW262 := yZ hg (yB HB); have GE262 := yZ hg (yB HB); replace HB := aM (bP (yB HB) hb); clear hb hbox hg; obtain ⟨hcz20_0, hcz20_1, hcz20_2, hcz20_3, hcz20_4, hcz20_5, hcz20_6, hcz20_7, hfz20_0, hfz20_1, hfz20_2, hfz20_3, hfz20_4, hfz20_5, hfz20_6, hfz20_7⟩ := cells8 BK262.out) | (go_at_call 69; (with_reducible refine (haulageref04_Right.calls k a0_1 true _ A4.out).mono ?_); rintro e w' ⟨rfl, ⟨nd, rfl⟩⟩) | (go_at_call 72; (with_reducible refine (haulageref06_Right.calls a0_2 a0_3 false _ A6.out).mono ?_); rintro e w21 ⟨rfl, hb⟩; replace BK262 := aM (kB (yK BK262) hb); replace HB := aM (bP (yG1 HB GE262.out) hb); (try clear hb)))
     go_ret
     exact ⟨yE, yG1 HB GE262.out⟩
   ·
    replace c5 := Bool.eq_false_iff.mpr c5
    subst c5
    replace H := yf H
    obtain rfl := Option.some.inj H
    go_enter Tryd.func29, Tryd.ntmps29
    go_wp2_with (first | ((with_reducible refine gate_dst (N := 1) rfl ?_); refine yX (N := 1) (cs := #[.int .i64 a0_0, .string a0_1, .int .i64 a0_2, .int .i64 a0_3, .bool a0_4, .int .i64 a0_5, .int .i64 a0_6, .string a0_7]) (t := 54) ?_; intro gb262 hg w22 hbox hb; have BK262 := aM (hbox); have GW262 := yZ hg (yB HB); have GE262 := yZ hg (yB HB); replace HB := aM (bP (yB HB) hb); clear hb hbox hg; obtain ⟨hcz23_0, hcz23_1, hcz23_2, hcz23_3, hcz23_4, hcz23_5, hcz23_6, hcz23_7, hfz23_0, hfz23_1, hfz23_2, hfz23_3, hfz23_4, hfz23_5, hfz23_6, hfz23_7⟩ := cells8 BK262.out) | (go_at_call 69; (with_reducible refine (haulageref04_Right.calls k a0_1 false _ A4.out).mono ?_); rintro e w' ⟨rfl, ⟨nd, rfl⟩⟩))
    go_ret
    exact ⟨yE, yG1 HB GE262.out⟩
  ·
   rw [if_neg c3] at H
   have c3b0 : decide (a0_0 < 200) = false := decide_eq_false c3
   clear c3
   obtain rfl := Option.some.inj H
   go_enter Tryd.func29, Tryd.ntmps29
   go_wp2_with (first | ((with_reducible refine gate_dst (N := 1) rfl ?_); refine yX (N := 1) (cs := #[.int .i64 a0_0, .string a0_1, .int .i64 a0_2, .int .i64 a0_3, .bool a0_4, .int .i64 a0_5, .int .i64 a0_6, .string a0_7]) (t := 54) ?_; intro gb262 hg w24 hbox hb; have BK262 := aM (hbox); have GW262 := yZ hg (yB HB); have GE262 := yZ hg (yB HB); replace HB := aM (bP (yB HB) hb); clear hb hbox hg; obtain ⟨hcz25_0, hcz25_1, hcz25_2, hcz25_3, hcz25_4, hcz25_5, hcz25_6, hcz25_7, hfz25_0, hfz25_1, hfz25_2, hfz25_3, hfz25_4, hfz25_5, hfz25_6, hfz25_7⟩ := cells8 BK262.out))
   go_ret
   exact ⟨yE, yG1 HB GE262.out⟩
 ·
  rw [if_neg c2] at H
  have c2b0 : decide (0 ≤ a0_0) = false := decide_eq_false c2
  clear c2
  obtain rfl := Option.some.inj H
  go_enter Tryd.func29, Tryd.ntmps29
  go_wp2_with (first | ((with_reducible refine gate_dst (N := 1) rfl ?_); refine yX (N := 1) (cs := #[.int .i64 a0_0, .string a0_1, .int .i64 a0_2, .int .i64 a0_3, .bool a0_4, .int .i64 a0_5, .int .i64 a0_6, .string a0_7]) (t := 54) ?_; intro gb262 hg w26 hbox hb; have BK262 := aM (hbox); have GW262 := yZ hg (yB HB); have GE262 := yZ hg (yB HB); replace HB := aM (bP (yB HB) hb); clear hb hbox hg; obtain ⟨hcz27_0, hcz27_1, hcz27_2, hcz27_3, hcz27_4, hcz27_5, hcz27_6, hcz27_7, hfz27_0, hfz27_1, hfz27_2, hfz27_3, hfz27_4, hfz27_5, hfz27_6, hfz27_7⟩ := cells8 BK262.out))
  go_ret
  exact ⟨yE, yG1 HB GE262.out⟩
/-! ### haulageref08_Col: function 47 -/
def haulageref08_Col.l0 : Nat → ByteArray → Int → Int → ByteArray → Int → Int → List (S54) → Option (Int)
 | 0, _, _, _, _, _, _, _ => none
 | k + 1, x1, x5, x267000, x267001, x267002, x267003, x267004 => if x5 < (x267004.length : Int) then (if 0 ≤ x5 then (if ((rd_T54 x267004 x5).f1).toList = x1.toList then (some x5) else (haulageref08_Col.l0 k x1 (wrap64 (x5 + 1)) x267000 x267001 x267002 x267003 x267004)) else (none)) else (some (-1))
def haulageref08_Col.f (k : Nat) (a0_0 : Int) (a0_1 : ByteArray) (a0_2 : Int) (a0_3 : Int) (l0_4 : List (S54)) (a1 : ByteArray) : Option (Int) := haulageref08_Col.l0 k a1 0 a0_0 a0_1 a0_2 a0_3 l0_4
theorem haulageref08_Col.mono_l : ∀ k, (∀ y0 y1 y2 y3 y4 y5 y6, LeO (haulageref08_Col.l0 k y0 y1 y2 y3 y4 y5 y6) (haulageref08_Col.l0 (k + 1) y0 y1 y2 y3 y4 y5 y6))
 | 0 => fun _ _ _ _ _ _ _ r h => by simp [haulageref08_Col.l0] at h
 | k + 1 => by
  have ih0 := haulageref08_Col.mono_l k
  ·
   intro y0 y1 y2 y3 y4 y5 y6
   unfold haulageref08_Col.l0
   repeat' first
   | (with_reducible exact ih0 _ _ _ _ _ _ _)
   | (with_reducible exact LeO.refl _)
   | (with_reducible exact LeO.none _)
   | (with_reducible refine LeO.ite ?_ ?_)
   | (with_reducible refine LeO.bind ?_ (fun _ => ?_))
   | exact ih0 _ _ _ _ _ _ _
   | exact LeO.none _
   | refine LeO.ite ?_ ?_
   | refine LeO.bind ?_ (fun _ => ?_)
theorem haulageref08_Col.mono : ∀ a0 a1 a2 a3 a4 a5 k, LeO (haulageref08_Col.f k a0 a1 a2 a3 a4 a5) (haulageref08_Col.f (k + 1) a0 a1 a2 a3 a4 a5) := by
 intro a0 a1 a2 a3 a4 a5 k
 have ih0 := haulageref08_Col.mono_l k
 unfold haulageref08_Col.f
 repeat' first | with_reducible (first | exact ih0 .. | exact LeO.refl .. | exact LeO.none .. | refine LeO.ite ?_ ?_ | refine LeO.bind ?_ (fun _ => ?_)) | exact ih0 .. | exact LeO.none .. | refine LeO.ite ?_ ?_ | refine LeO.bind ?_ (fun _ => ?_)
set_option maxHeartbeats 8000000 in
set_option maxRecDepth 100000 in
theorem haulageref08_Col.calls (k : Nat) (a0_0 : Int) (a0_1 : ByteArray) (a0_2 : Int) (a0_3 : Int) (A0_4 : Option Addr) (c0_4 : Nat) (l0_4 : List (S54)) (a1 : ByteArray) (r : Int) (w : World) (hr0_4 : Kd.C k54 w A0_4 l0_4.length l0_4) (hc0_4 : l0_4.length ≤ c0_4) (h : haulageref08_Col.f k a0_0 a0_1 a0_2 a0_3 l0_4 a1 = some r) :
  Calls Tryd.prog 47 #[.agg #[.int .i64 a0_0, .string a0_1, .int .i64 a0_2, .int .i64 a0_3, .slice A0_4 l0_4.length c0_4], .string a1] w fun e w' => e = .returned (.int .i64 r) ∧ Below w.heap.size w w' := by
 have hu24 := Tryd.underlying24
 have HR0_4 := aM hr0_4
 have HC0_4 := aM hc0_4
 clear hr0_4 hc0_4
 have HB := aM (Below.refl w.heap.size w)
 have H : (haulageref08_Col.l0 k a1 0 a0_0 a0_1 a0_2 a0_3 l0_4) = some r := h
 clear h
 have H' := aM H
 clear H
 go_enter Tryd.func47, Tryd.ntmps47
 go_wp2_with (first | ((with_reducible refine gate_dst (N := 2) rfl ?_); refine yX (N := 2) (cs := #[.int .i64 a0_0, .string a0_1, .int .i64 a0_2, .int .i64 a0_3, .slice A0_4 l0_4.length c0_4]) (t := 24) ?_; intro gb266 hg w3 hbox hb; have BK266 := aM (hbox); have GW266 := yZ hg (yB HB); have GE266 := yZ hg (yB HB); replace HB := aM (bP (yB HB) hb); clear hb hbox hg))
 go_loopg [5] k (fun kq v5 w' => ∃ (x5_1 : Int), v5 = .int .i64 x5_1 ∧ Aside0 (haulageref08_Col.l0 kq a1 x5_1 a0_0 a0_1 a0_2 a0_3 l0_4 = some r) ∧ Aside0 (kq ≤ k) ∧ Aside0 (w'.heap[gb266]? = some (.cells #[.int .i64 a0_0, .string a0_1, .int .i64 a0_2, .int .i64 a0_3, (.slice A0_4 l0_4.length c0_4)] 24 (0, 0))) ∧ Aside0 (Below w.heap.size w w'))
 case atStart => exact ⟨(0), yS, H', ⟨Nat.le_refl _⟩, ⟨yK BK266⟩, ⟨yG1 HB GE266.out⟩⟩
 case round =>
  clear H'
  obtain ⟨x5_1, rfl, HA, HK1, BK266, HB⟩ := hrel
  cases gk with
  | zero => exact absurd HA.out (by simp [haulageref08_Col.l0])
  | succ k1 =>
   have H := HA.out
   clear HA
   simp only [haulageref08_Col.l0] at H
   by_cases c4 : x5_1 < (l0_4.length : Int)
   ·
    rw [if_pos c4] at H
    have c4b0 : decide (x5_1 < (l0_4.length : Int)) = true := decide_eq_true c4
    clear c4
    by_cases c5 : 0 ≤ x5_1
    ·
     rw [if_pos c5] at H
     have c5b0 : decide (0 ≤ x5_1) = true := decide_eq_true c5
     clear c5
     by_cases c6 : ((rd_T54 l0_4 x5_1).f1).toList = a1.toList
     ·
      rw [if_pos c6] at H
      have c6b0 : (((rd_T54 l0_4 x5_1).f1).toList == a1.toList) = true := beq_iff_eq.mpr c6
      have c6b1 : (((rd_T54 l0_4 x5_1).f1).toList != a1.toList) = false := bne_eq_false_iff_eq.mpr c6
      clear c6
      obtain rfl := Option.some.inj H
      obtain ⟨hcz7_0, hcz7_1, hcz7_2, hcz7_3, hcz7_4, hfz7_0, hfz7_1, hfz7_2, hfz7_3, hfz7_4⟩ := cells5 BK266.out
      have p267 : 0 ≤ (x5_1 : Int) := oD yA
      have q267 : x5_1 < (l0_4.length : Int) := oD yA
      obtain ⟨ad267, e267, hx267_0, hx267_1, hx267_2, hx267_3, hx267_4, hx267_5, hx267_6, hx267_7⟩ := at_T54 HR0_4.out x5_1 p267 q267
      cases e267
      replace hx267_0 := pw_cell_below HB.out hx267_0
      replace hx267_1 := pw_cell_below HB.out hx267_1
      replace hx267_2 := pw_cell_below HB.out hx267_2
      replace hx267_3 := pw_cell_below HB.out hx267_3
      replace hx267_4 := pw_cell_below HB.out hx267_4
      replace hx267_5 := pw_cell_below HB.out hx267_5
      replace hx267_6 := pw_cell_below HB.out hx267_6
      replace hx267_7 := pw_cell_below HB.out hx267_7
      replace p267 := eq_true p267
      replace q267 := eq_true q267
      go_wp2
      go_ret
      exact ⟨yE, yG1 HB GE266.out⟩
     ·
      rw [if_neg c6] at H
      have c6b0 : (((rd_T54 l0_4 x5_1).f1).toList == a1.toList) = false := beq_eq_false_iff_ne.mpr c6
      have c6b1 : (((rd_T54 l0_4 x5_1).f1).toList != a1.toList) = true := bne_iff_ne.mpr c6
      have H' := aM H
      clear H
      obtain ⟨hcz8_0, hcz8_1, hcz8_2, hcz8_3, hcz8_4, hfz8_0, hfz8_1, hfz8_2, hfz8_3, hfz8_4⟩ := cells5 BK266.out
      have p267 : 0 ≤ (x5_1 : Int) := oD yA
      have q267 : x5_1 < (l0_4.length : Int) := oD yA
      obtain ⟨ad267, e267, hx267_0, hx267_1, hx267_2, hx267_3, hx267_4, hx267_5, hx267_6, hx267_7⟩ := at_T54 HR0_4.out x5_1 p267 q267
      cases e267
      replace hx267_0 := pw_cell_below HB.out hx267_0
      replace hx267_1 := pw_cell_below HB.out hx267_1
      replace hx267_2 := pw_cell_below HB.out hx267_2
      replace hx267_3 := pw_cell_below HB.out hx267_3
      replace hx267_4 := pw_cell_below HB.out hx267_4
      replace hx267_5 := pw_cell_below HB.out hx267_5
      replace hx267_6 := pw_cell_below HB.out hx267_6
      replace hx267_7 := pw_cell_below HB.out hx267_7
      replace p267 := eq_true p267
      replace q267 := eq_true q267
      go_wp2
      go_roundg k1
      case measure => have := HK1.out; omega
      case rel => exact ⟨(wrap64 (x5_1 + 1)), yS, H', ⟨by have := HK1.out; omega⟩, ⟨yK BK266⟩, ⟨yG1 HB GE266.out⟩⟩
    ·
     rw [if_neg c5] at H
     exact absurd H (by simp)
   ·
    rw [if_neg c4] at H
    have c4b0 : decide (x5_1 < (l0_4.length : Int)) = false := decide_eq_false c4
    clear c4
    obtain rfl := Option.some.inj H
    obtain ⟨hcz9_0, hcz9_1, hcz9_2, hcz9_3, hcz9_4, hfz9_0, hfz9_1, hfz9_2, hfz9_3, hfz9_4⟩ := cells5 BK266.out
    go_wp2
    go_ret
    exact ⟨yE, yG1 HB GE266.out⟩
end Go.Proofs.YtdeophpjammbpaaDoor.HRowcodeKeys

/- For Go functions that RowcodeKeys reaches: Lean functions, and walks that show that each call comes to what its Lean function tells; no condition but those that each theorem states. (Made by a program of this session over the kit's print.py.) -/
import Derived.Test.YtdeophpjammbpaaDoorHRowcodeKeysx0
namespace Go.Proofs.YtdeophpjammbpaaDoor.HRowcodeKeys
open Go.RowKit Go.Proofs.YtdeophpjammbpaaDoorW.PrintWords Go.Proofs.YtdeophpjammbpaaDoorW.PrintLast Go.Proofs.YtdeophpjammbpaaDoorW.PrintMore
attribute [local go_sem] max2_int min2_int max_two min_two max_three min_three max_four min_four   -- for this text's walks alone
set_option linter.unusedVariables false
set_option linter.unusedSimpArgs false
attribute [local go_sem] hp_s8 hp_s16 hp_s32 hp_s64 hp_m8 hp_m16 hp_m32 hp_m64
/-! ### name_part: function 106 -/
mutual
def name_part.j0 : Nat → Int → Int → Bool → Option (Bool)
 | 0, _, _, _ => none
 | k + 1, x0, x1, x5 => if x5 = true then (some true) else (if x0 ≥ 48 then (name_part.j1 k x0 x1 (decide (x0 ≤ 57))) else (name_part.j1 k x0 x1 false))
def name_part.j1 : Nat → Int → Int → Bool → Option (Bool)
 | 0, _, _, _ => none
 | k + 1, x0, x1, x12 => if x12 = true then (name_part.j2 k x1 x12) else (name_part.j2 k x1 (x0 == 95))
def name_part.j2 : Nat → Int → Bool → Option (Bool)
 | 0, _, _ => none
 | k + 1, x1, x12 => if x12 = true then (some (decide (x1 > 0))) else (some false)
end
def name_part.f (k : Nat) (a0 : Int) (a1 : Int) : Option (Bool) := if a0 ≥ 97 then (name_part.j0 k a0 a1 (decide (a0 ≤ 122))) else (name_part.j0 k a0 a1 false)
theorem name_part.mono_l : ∀ k, (∀ y0 y1 y2, LeO (name_part.j0 k y0 y1 y2) (name_part.j0 (k + 1) y0 y1 y2)) ∧ (∀ y0 y1 y2, LeO (name_part.j1 k y0 y1 y2) (name_part.j1 (k + 1) y0 y1 y2)) ∧ (∀ y0 y1, LeO (name_part.j2 k y0 y1) (name_part.j2 (k + 1) y0 y1))
 | 0 => by refine ⟨?_, ?_, ?_⟩ <;> intros <;> exact LeO.none _
 | k + 1 => by
  obtain ⟨ih0, ih1, ih2⟩ := name_part.mono_l k
  refine ⟨?_, ?_, ?_⟩ <;> intros <;> first | unfold name_part.j0 | unfold name_part.j1 | unfold name_part.j2
  all_goals repeat' first | with_reducible (first | exact ih0 .. | exact ih1 .. | exact ih2 .. | exact LeO.refl .. | exact LeO.none .. | refine LeO.ite ?_ ?_ | refine LeO.bind ?_ (fun _ => ?_)) | exact ih0 .. | exact ih1 .. | exact ih2 .. | exact LeO.none .. | refine LeO.ite ?_ ?_ | refine LeO.bind ?_ (fun _ => ?_)
theorem name_part.mono : ∀ a0 a1 k, LeO (name_part.f k a0 a1) (name_part.f (k + 1) a0 a1) := by
 intro a0 a1 k
 obtain ⟨ih0, ih1, ih2⟩ := name_part.mono_l k
 unfold name_part.f
 repeat' first | with_reducible (first | exact ih0 .. | exact ih1 .. | exact ih2 .. | exact LeO.refl .. | exact LeO.none .. | refine LeO.ite ?_ ?_ | refine LeO.bind ?_ (fun _ => ?_)) | exact ih0 .. | exact ih1 .. | exact ih2 .. | exact LeO.none .. | refine LeO.ite ?_ ?_ | refine LeO.bind ?_ (fun _ => ?_)
set_option maxHeartbeats 8000000 in
set_option maxRecDepth 100000 in
theorem name_part.calls (k : Nat) (a0 : Int) (a1 : Int) (r : Bool) (w : World) (h : name_part.f k a0 a1 = some r) :
  Calls Tryd.prog 106 #[.int .u8 a0, .int .i64 a1] w fun e w' => e = .returned (.bool r) ∧ Drawn0 w w' := by
 have H : (if a0 ≥ 97 then (name_part.j0 k a0 a1 (decide (a0 ≤ 122))) else (name_part.j0 k a0 a1 false)) = some r := h
 clear h
 have HC3 := aM H
 clear H
 go_enter Tryd.func106, Tryd.ntmps106
 go_upto_region 1 with (fail)
 go_cut [5] (fun v5 wc => ∃ (kq : Nat) (x5_2 : Bool), v5 = .bool x5_2 ∧ Aside0 (name_part.j0 kq a0 a1 x5_2 = some r) ∧ Aside0 (kq ≤ k) ∧ Drawn0 w wc)
 case first =>
  have H := HC3.out
  clear HC3
  by_cases c4 : a0 ≥ 97
  ·
   rw [if_pos c4] at H
   have c4b0 : decide (97 ≤ a0) = true := decide_eq_true c4
   clear c4
   (first | rw [c4b0] | (simp only [i64_w, i32_w]; rw [c4b0]) | skip)
   have H' := aM H
   clear H
   go_wp2
   go_meet
   case rel => exact ⟨_, (decide (a0 ≤ 122)), yS, H', ⟨yO⟩, yD⟩
  ·
   rw [if_neg c4] at H
   have c4b0 : decide (97 ≤ a0) = false := decide_eq_false c4
   clear c4
   (first | rw [c4b0] | (simp only [i64_w, i32_w]; rw [c4b0]) | skip)
   have H' := aM H
   clear H
   go_wp2
   go_meet
   case rel => exact ⟨_, (false), yS, H', ⟨yO⟩, yD⟩
 case rest =>
  clear HC3
  obtain ⟨kq, x5_2, rfl, HA, HJ2, ⟨mc2, rfl⟩⟩ := hcut
  cases kq with
  | zero => exact absurd HA.out (by simp [name_part.j0])
  | succ kj2 =>
   have H := HA.out
   clear HA
   simp only [name_part.j0] at H
   by_cases c5 : x5_2 = true
   ·
    subst c5
    replace H := yt H
    obtain rfl := Option.some.inj H
    go_wp2
    go_ret
    exact ⟨yS, yD⟩
   ·
    replace c5 := Bool.eq_false_iff.mpr c5
    subst c5
    replace H := yf H
    have HC6 := aM H
    clear H
    go_upto_region 3 with (fail)
    go_cut [12] (fun v12 wc => ∃ (kq : Nat) (x12_5 : Bool), v12 = .bool x12_5 ∧ Aside0 (name_part.j1 kq a0 a1 x12_5 = some r) ∧ Aside0 (kq ≤ kj2) ∧ Drawn0 w wc)
    case first =>
     have H := HC6.out
     clear HC6
     by_cases c7 : a0 ≥ 48
     ·
      rw [if_pos c7] at H
      have c7b0 : decide (48 ≤ a0) = true := decide_eq_true c7
      clear c7
      (first | rw [c7b0] | (simp only [i64_w, i32_w]; rw [c7b0]) | skip)
      have H' := aM H
      clear H
      go_wp2
      go_meet
      case rel => exact ⟨_, (decide (a0 ≤ 57)), yS, H', ⟨by have := HJ2.out; first | omega | exact Nat.le_refl _⟩, yD⟩
     ·
      rw [if_neg c7] at H
      have c7b0 : decide (48 ≤ a0) = false := decide_eq_false c7
      clear c7
      (first | rw [c7b0] | (simp only [i64_w, i32_w]; rw [c7b0]) | skip)
      have H' := aM H
      clear H
      go_wp2
      go_meet
      case rel => exact ⟨_, (false), yS, H', ⟨by have := HJ2.out; first | omega | exact Nat.le_refl _⟩, yD⟩
    case rest =>
     clear HC6
     try clear c5
     obtain ⟨kq, x12_5, rfl, HA, HJ5, ⟨mc5, rfl⟩⟩ := hcut
     cases kq with
     | zero => exact absurd HA.out (by simp [name_part.j1])
     | succ kj5 =>
      have H := HA.out
      clear HA
      simp only [name_part.j1] at H
      have HC8 := aM H
      clear H
      go_upto_if 12 with (fail)
      go_cut [12] (fun v12 wc => ∃ (kq : Nat) (x12_7 : Bool), v12 = .bool x12_7 ∧ Aside0 (name_part.j2 kq a1 x12_7 = some r) ∧ Aside0 (kq ≤ kj5) ∧ Drawn0 w wc)
      case first =>
       have H := HC8.out
       clear HC8
       by_cases c9 : x12_5 = true
       ·
        subst c9
        replace H := yt H
        have H' := aM H
        clear H
        go_wp2
        go_meet
        case rel => exact ⟨_, (true), yS, H', ⟨by have := HJ2.out; have := HJ5.out; first | omega | exact Nat.le_refl _⟩, yD⟩
       ·
        replace c9 := Bool.eq_false_iff.mpr c9
        subst c9
        replace H := yf H
        have H' := aM H
        clear H
        go_wp2
        go_meet
        case rel => exact ⟨_, ((a0 == 95)), yS, H', ⟨by have := HJ2.out; have := HJ5.out; first | omega | exact Nat.le_refl _⟩, yD⟩
      case rest =>
       clear HC8
       try clear c5
       obtain ⟨kq, x12_7, rfl, HA, HJ7, ⟨mc7, rfl⟩⟩ := hcut
       cases kq with
       | zero => exact absurd HA.out (by simp [name_part.j2])
       | succ kj7 =>
        have H := HA.out
        clear HA
        simp only [name_part.j2] at H
        by_cases c10 : x12_7 = true
        ·
         subst c10
         replace H := yt H
         obtain rfl := Option.some.inj H
         go_wp2
         go_ret
         exact ⟨yS, yD⟩
        ·
         replace c10 := Bool.eq_false_iff.mpr c10
         subst c10
         replace H := yf H
         obtain rfl := Option.some.inj H
         go_wp2
         go_ret
         exact ⟨yS, yD⟩
/-! ### name_Read: function 95 -/
def name_Read.l0 : Nat → ByteArray → Int → Int → Option (Int)
 | 0, _, _, _ => none
 | k + 1, x0, x5, x6 => if x6 < x5 then (if 0 ≤ x6 then (if x6 < (x0.size : Int) then ((name_part.f k (bt x0 x6) x6).bind fun t101 => (if t101 = true then (name_Read.l0 k x0 x5 (wrap64 (x6 + 1))) else (some x6))) else (none)) else (none)) else (some (x0.size : Int))
def name_Read.f (k : Nat) (a0 : ByteArray) : Option (Int) := name_Read.l0 k a0 (a0.size : Int) 0
theorem name_Read.mono_l : ∀ k, (∀ y0 y1 y2, LeO (name_Read.l0 k y0 y1 y2) (name_Read.l0 (k + 1) y0 y1 y2))
 | 0 => fun _ _ _ r h => by simp [name_Read.l0] at h
 | k + 1 => by
  have ih0 := name_Read.mono_l k
  ·
   intro y0 y1 y2
   unfold name_Read.l0
   repeat' first
   | (with_reducible exact ih0 _ _ _)
   | (with_reducible exact name_part.mono _ _ _)
   | (with_reducible exact LeO.refl _)
   | (with_reducible exact LeO.none _)
   | (with_reducible refine LeO.ite ?_ ?_)
   | (with_reducible refine LeO.bind ?_ (fun _ => ?_))
   | exact ih0 _ _ _
   | exact name_part.mono _ _ _
   | exact LeO.none _
   | refine LeO.ite ?_ ?_
   | refine LeO.bind ?_ (fun _ => ?_)
theorem name_Read.mono : ∀ a0 k, LeO (name_Read.f k a0) (name_Read.f (k + 1) a0) := by
 intro a0 k
 have ih0 := name_Read.mono_l k
 unfold name_Read.f
 repeat' first | with_reducible (first | exact ih0 .. | exact name_part.mono .. | exact LeO.refl .. | exact LeO.none .. | refine LeO.ite ?_ ?_ | refine LeO.bind ?_ (fun _ => ?_)) | exact ih0 .. | exact name_part.mono .. | exact LeO.none .. | refine LeO.ite ?_ ?_ | refine LeO.bind ?_ (fun _ => ?_)
set_option maxHeartbeats 8000000 in
set_option maxRecDepth 100000 in
theorem name_Read.calls (k : Nat) (a0 : ByteArray) (r : Int) (w : World) (h : name_Read.f k a0 = some r) :
  Calls Tryd.prog 95 #[.string a0] w fun e w' => e = .returned (.int .i64 r) ∧ Drawn0 w w' := by
 have H : (name_Read.l0 k a0 (a0.size : Int) 0) = some r := h
 clear h
 have H' := aM H
 clear H
 go_enter Tryd.func95, Tryd.ntmps95
 go_wp2
 go_loopg [6] k (fun kq v6 w' => ∃ (x6_1 : Int), v6 = .int .i64 x6_1 ∧ Aside0 (name_Read.l0 kq a0 (a0.size : Int) x6_1 = some r) ∧ Aside0 (kq ≤ k) ∧ Drawn0 w w')
 case atStart => exact ⟨(0), yS, H', ⟨Nat.le_refl _⟩, yD⟩
 case round =>
  clear H'
  obtain ⟨x6_1, rfl, HA, HK1, ⟨m1, rfl⟩⟩ := hrel
  cases gk with
  | zero => exact absurd HA.out (by simp [name_Read.l0])
  | succ k1 =>
   have H := HA.out
   clear HA
   simp only [name_Read.l0] at H
   by_cases c2 : x6_1 < (a0.size : Int)
   ·
    rw [if_pos c2] at H
    have c2b0 : decide (x6_1 < (a0.size : Int)) = true := decide_eq_true c2
    clear c2
    by_cases c3 : 0 ≤ x6_1
    ·
     rw [if_pos c3] at H
     have c3b0 : decide (0 ≤ x6_1) = true := decide_eq_true c3
     clear c3
     by_cases c4 : x6_1 < (a0.size : Int)
     ·
      rw [if_pos c4] at H
      have c4b0 : decide (x6_1 < (a0.size : Int)) = true := decide_eq_true c4
      clear c4
      obtain ⟨t101, A6, H⟩ := yb H
      by_cases c7 : t101 = true
      ·
       subst c7
       replace H := yt H
       have H' := aM H
       clear H
       have p5 : 0 ≤ (x6_1 : Int) := oD yA
       have q5 : x6_1 < (a0.size : Int) := oD yA
       have hx5 := bt_at a0 x6_1
       replace p5 := eq_true p5
       replace q5 := eq_true q5
       go_wp2_with (first | ((with_reducible refine gate_callee (f := 106) rfl ?_); refine yC 13 Tryd.func106 #[.int .u8 (bt a0 x6_1), .int .i64 x6_1] rfl ?_; (with_reducible refine (name_part.calls k1 (bt a0 x6_1) x6_1 true _ A6.out).mono ?_); rintro e w' ⟨rfl, ⟨nd, rfl⟩⟩; refine ⟨_, rfl, ?_⟩))
       go_roundg k1
       case measure => have := HK1.out; omega
       case rel => exact ⟨(wrap64 (x6_1 + 1)), yS, H', ⟨by have := HK1.out; omega⟩, yD⟩
      ·
       replace c7 := Bool.eq_false_iff.mpr c7
       subst c7
       replace H := yf H
       obtain rfl := Option.some.inj H
       have p5 : 0 ≤ (x6_1 : Int) := oD yA
       have q5 : x6_1 < (a0.size : Int) := oD yA
       have hx5 := bt_at a0 x6_1
       replace p5 := eq_true p5
       replace q5 := eq_true q5
       go_wp2_with (first | ((with_reducible refine gate_callee (f := 106) rfl ?_); refine yC 13 Tryd.func106 #[.int .u8 (bt a0 x6_1), .int .i64 x6_1] rfl ?_; (with_reducible refine (name_part.calls k1 (bt a0 x6_1) x6_1 false _ A6.out).mono ?_); rintro e w' ⟨rfl, ⟨nd, rfl⟩⟩; refine ⟨_, rfl, ?_⟩))
       go_ret
       exact ⟨yS, yD⟩
     ·
      rw [if_neg c4] at H
      exact absurd H (by simp)
    ·
     rw [if_neg c3] at H
     exact absurd H (by simp)
   ·
    rw [if_neg c2] at H
    have c2b0 : decide (x6_1 < (a0.size : Int)) = false := decide_eq_false c2
    clear c2
    obtain rfl := Option.some.inj H
    go_wp2
    go_ret
    exact ⟨yS, yD⟩
/-! ### name_Right: function 68 -/
def name_Right.f (k : Nat) (a0 : ByteArray) : Option (Bool) := if a0.toList = ([] : List UInt8) then (some false) else (if (a0.size : Int) ≤ 16 then ((name_Read.f k a0).bind fun t102 => (some (t102 == (a0.size : Int)))) else (some false))
theorem name_Right.mono : ∀ a0 k, LeO (name_Right.f k a0) (name_Right.f (k + 1) a0) := by
 intro a0 k
 unfold name_Right.f
 repeat' first | with_reducible (first | exact name_Read.mono .. | exact LeO.refl .. | exact LeO.none .. | refine LeO.ite ?_ ?_ | refine LeO.bind ?_ (fun _ => ?_)) | exact name_Read.mono .. | exact LeO.none .. | refine LeO.ite ?_ ?_ | refine LeO.bind ?_ (fun _ => ?_)
set_option maxHeartbeats 8000000 in
set_option maxRecDepth 100000 in
theorem name_Right.calls (k : Nat) (a0 : ByteArray) (r : Bool) (w : World) (h : name_Right.f k a0 = some r) :
  Calls Tryd.prog 68 #[.string a0] w fun e w' => e = .returned (.bool r) ∧ Drawn0 w w' := by
 have H : (if a0.toList = ([] : List UInt8) then (some false) else (if (a0.size : Int) ≤ 16 then ((name_Read.f k a0).bind fun t102 => (some (t102 == (a0.size : Int)))) else (some false))) = some r := h
 clear h
 by_cases c2 : a0.toList = ([] : List UInt8)
 ·
  rw [if_pos c2] at H
  have c2b0 : (a0.toList == ([] : List UInt8)) = true := beq_iff_eq.mpr c2
  have c2b1 : (a0.toList != ([] : List UInt8)) = false := bne_eq_false_iff_eq.mpr c2
  clear c2
  obtain rfl := Option.some.inj H
  go_enter Tryd.func68, Tryd.ntmps68
  go_wp2
  go_ret
  exact ⟨yS, yD⟩
 ·
  rw [if_neg c2] at H
  have c2b0 : (a0.toList == ([] : List UInt8)) = false := beq_eq_false_iff_ne.mpr c2
  have c2b1 : (a0.toList != ([] : List UInt8)) = true := bne_iff_ne.mpr c2
  by_cases c3 : (a0.size : Int) ≤ 16
  ·
   rw [if_pos c3] at H
   have c3b0 : decide ((a0.size : Int) ≤ 16) = true := decide_eq_true c3
   have c3b1 : decide (a0.size ≤ 16) = true := decide_eq_true (by omega)
   clear c3
   obtain ⟨t102, A4, H⟩ := yb H
   obtain rfl := Option.some.inj H
   go_enter Tryd.func68, Tryd.ntmps68
   go_wp2_with (first | (go_at_call 95; (with_reducible refine (name_Read.calls k a0 t102 _ A4.out).mono ?_); rintro e w' ⟨rfl, ⟨nd, rfl⟩⟩))
   go_ret
   exact ⟨yS, yD⟩
  ·
   rw [if_neg c3] at H
   have c3b0 : decide ((a0.size : Int) ≤ 16) = false := decide_eq_false c3
   have c3b1 : decide (a0.size ≤ 16) = false := decide_eq_false (by omega)
   clear c3
   obtain rfl := Option.some.inj H
   go_enter Tryd.func68, Tryd.ntmps68
   go_wp2
   go_ret
   exact ⟨yS, yD⟩
/-! ### typ_Right: function 70 -/
mutual
def typ_Right.j0 : Nat → Int → Bool → Int → Int → Option (Bool)
 | 0, _, _, _, _ => none
 | k + 1, x4, x5, x104000, x104001 => if x5 = true then (some (x104001 == 0)) else (if x4 = 3 then (typ_Right.j1 k (x4 == 3) x104000 x104001) else (typ_Right.j1 k (x4 == 4) x104000 x104001))
def typ_Right.j1 : Nat → Bool → Int → Int → Option (Bool)
 | 0, _, _, _ => none
 | k + 1, x11, x104000, x104001 => if x11 = true then (if x104001 ≥ 1 then (some (decide (x104001 ≤ 120))) else (some false)) else (some false)
end
def typ_Right.f (k : Nat) (a0_0 : Int) (a0_1 : Int) : Option (Bool) := if a0_0 = 1 then (typ_Right.j0 k a0_0 (a0_0 == 1) a0_0 a0_1) else (typ_Right.j0 k a0_0 (a0_0 == 2) a0_0 a0_1)
theorem typ_Right.mono_l : ∀ k, (∀ y0 y1 y2 y3, LeO (typ_Right.j0 k y0 y1 y2 y3) (typ_Right.j0 (k + 1) y0 y1 y2 y3)) ∧ (∀ y0 y1 y2, LeO (typ_Right.j1 k y0 y1 y2) (typ_Right.j1 (k + 1) y0 y1 y2))
 | 0 => by refine ⟨?_, ?_⟩ <;> intros <;> exact LeO.none _
 | k + 1 => by
  obtain ⟨ih0, ih1⟩ := typ_Right.mono_l k
  refine ⟨?_, ?_⟩ <;> intros <;> first | unfold typ_Right.j0 | unfold typ_Right.j1
  all_goals repeat' first | with_reducible (first | exact ih0 .. | exact ih1 .. | exact LeO.refl .. | exact LeO.none .. | refine LeO.ite ?_ ?_ | refine LeO.bind ?_ (fun _ => ?_)) | exact ih0 .. | exact ih1 .. | exact LeO.none .. | refine LeO.ite ?_ ?_ | refine LeO.bind ?_ (fun _ => ?_)
theorem typ_Right.mono : ∀ a0 a1 k, LeO (typ_Right.f k a0 a1) (typ_Right.f (k + 1) a0 a1) := by
 intro a0 a1 k
 obtain ⟨ih0, ih1⟩ := typ_Right.mono_l k
 unfold typ_Right.f
 repeat' first | with_reducible (first | exact ih0 .. | exact ih1 .. | exact LeO.refl .. | exact LeO.none .. | refine LeO.ite ?_ ?_ | refine LeO.bind ?_ (fun _ => ?_)) | exact ih0 .. | exact ih1 .. | exact LeO.none .. | refine LeO.ite ?_ ?_ | refine LeO.bind ?_ (fun _ => ?_)
set_option maxHeartbeats 8000000 in
set_option maxRecDepth 100000 in
theorem typ_Right.calls (k : Nat) (a0_0 : Int) (a0_1 : Int) (r : Bool) (w : World) (h : typ_Right.f k a0_0 a0_1 = some r) :
  Calls Tryd.prog 70 #[.agg #[.int .i64 a0_0, .int .i64 a0_1]] w fun e w' => e = .returned (.bool r) ∧ Below w.heap.size w w' := by
 have hu50 := Tryd.underlying50
 have HB := aM (Below.refl w.heap.size w)
 have H : (if a0_0 = 1 then (typ_Right.j0 k a0_0 (a0_0 == 1) a0_0 a0_1) else (typ_Right.j0 k a0_0 (a0_0 == 2) a0_0 a0_1)) = some r := h
 clear h
 have HC2 := aM H
 clear H
 go_enter Tryd.func70, Tryd.ntmps70
 go_upto_if 5 with (first | ((with_reducible refine gate_dst (N := 1) rfl ?_); refine yX (N := 1) (cs := #[.int .i64 a0_0, .int .i64 a0_1]) (t := 50) ?_; intro gb103 hg w3 hbox hb; have BK103 := aM (hbox); have GW103 := yZ hg (yB HB); have GE103 := yZ hg (yB HB); replace HB := aM (bP (yB HB) hb); clear hb hbox hg; obtain ⟨hcz4_0, hcz4_1, hfz4_0, hfz4_1⟩ := cells2 BK103.out))
 (try simp only [Act.put, s1_, s2_, s3_])
 go_cut [5] (fun v5 wc => ∃ (kq : Nat) (x5_1 : Bool), v5 = .bool x5_1 ∧ Aside0 (typ_Right.j0 kq a0_0 x5_1 a0_0 a0_1 = some r) ∧ Aside0 (kq ≤ k) ∧ Aside0 (wc.heap[gb103]? = some (.cells #[.int .i64 a0_0, .int .i64 a0_1] 50 (0, 0))) ∧ Aside0 (Below w.heap.size w wc))
 case first =>
  have H := HC2.out
  clear HC2
  by_cases c5 : a0_0 = 1
  ·
   rw [if_pos c5] at H
   have c5b0 : (a0_0 == 1) = true := beq_iff_eq.mpr c5
   have c5b1 : (a0_0 != 1) = false := bne_eq_false_iff_eq.mpr c5
   clear c5
   (first | rw [c5b0] | (simp only [i64_w, i32_w]; rw [c5b0]) | skip)
   have H' := aM H
   clear H
   go_wp2
   go_meet
   case rel => exact ⟨_, ((a0_0 == 1)), yS, H', ⟨yO⟩, ⟨yK BK103⟩, ⟨yG1 HB GE103.out⟩⟩
  ·
   rw [if_neg c5] at H
   have c5b0 : (a0_0 == 1) = false := beq_eq_false_iff_ne.mpr c5
   have c5b1 : (a0_0 != 1) = true := bne_iff_ne.mpr c5
   (first | rw [c5b0] | (simp only [i64_w, i32_w]; rw [c5b0]) | skip)
   have H' := aM H
   clear H
   go_wp2
   go_meet
   case rel => exact ⟨_, ((a0_0 == 2)), yS, H', ⟨yO⟩, ⟨yK BK103⟩, ⟨yG1 HB GE103.out⟩⟩
 case rest =>
  clear HC2
  try clear hcz4_0 hcz4_1
  try clear hfz4_0 hfz4_1
  obtain ⟨kq, x5_1, rfl, HA, HJ1, BK103, HB⟩ := hcut
  cases kq with
  | zero => exact absurd HA.out (by simp [typ_Right.j0])
  | succ kj1 =>
   have H := HA.out
   clear HA
   simp only [typ_Right.j0] at H
   by_cases c6 : x5_1 = true
   ·
    subst c6
    replace H := yt H
    obtain rfl := Option.some.inj H
    obtain ⟨hcz7_0, hcz7_1, hfz7_0, hfz7_1⟩ := cells2 BK103.out
    go_wp2
    go_ret
    exact ⟨yE, yG1 HB GE103.out⟩
   ·
    replace c6 := Bool.eq_false_iff.mpr c6
    subst c6
    replace H := yf H
    have HC8 := aM H
    clear H
    go_upto_if 11 with (fail)
    go_cut [11] (fun v11 wc => ∃ (kq : Nat) (x11_7 : Bool), v11 = .bool x11_7 ∧ Aside0 (typ_Right.j1 kq x11_7 a0_0 a0_1 = some r) ∧ Aside0 (kq ≤ kj1) ∧ Aside0 (wc.heap[gb103]? = some (.cells #[.int .i64 a0_0, .int .i64 a0_1] 50 (0, 0))) ∧ Aside0 (Below w.heap.size w wc))
    case first =>
     have H := HC8.out
     clear HC8
     by_cases c9 : a0_0 = 3
     ·
      rw [if_pos c9] at H
      have c9b0 : (a0_0 == 3) = true := beq_iff_eq.mpr c9
      have c9b1 : (a0_0 != 3) = false := bne_eq_false_iff_eq.mpr c9
      clear c9
      (first | rw [c9b0] | (simp only [i64_w, i32_w]; rw [c9b0]) | skip)
      have H' := aM H
      clear H
      go_wp2
      go_meet
      case rel => exact ⟨_, ((a0_0 == 3)), yS, H', ⟨by have := HJ1.out; first | omega | exact Nat.le_refl _⟩, ⟨yK BK103⟩, ⟨yG1 HB GE103.out⟩⟩
     ·
      rw [if_neg c9] at H
      have c9b0 : (a0_0 == 3) = false := beq_eq_false_iff_ne.mpr c9
      have c9b1 : (a0_0 != 3) = true := bne_iff_ne.mpr c9
      (first | rw [c9b0] | (simp only [i64_w, i32_w]; rw [c9b0]) | skip)
      have H' := aM H
      clear H
      go_wp2
      go_meet
      case rel => exact ⟨_, ((a0_0 == 4)), yS, H', ⟨by have := HJ1.out; first | omega | exact Nat.le_refl _⟩, ⟨yK BK103⟩, ⟨yG1 HB GE103.out⟩⟩
    case rest =>
     clear HC8
     try clear c6
     try clear hcz4_0 hcz4_1
     try clear hfz4_0 hfz4_1
     obtain ⟨kq, x11_7, rfl, HA, HJ7, BK103, HB⟩ := hcut
     cases kq with
     | zero => exact absurd HA.out (by simp [typ_Right.j1])
     | succ kj7 =>
      have H := HA.out
      clear HA
      simp only [typ_Right.j1] at H
      by_cases c10 : x11_7 = true
      ·
       subst c10
       replace H := yt H
       by_cases c11 : a0_1 ≥ 1
       ·
        rw [if_pos c11] at H
        have c11b0 : decide (1 ≤ a0_1) = true := decide_eq_true c11
        clear c11
        obtain rfl := Option.some.inj H
        obtain ⟨hcz12_0, hcz12_1, hfz12_0, hfz12_1⟩ := cells2 BK103.out
        go_wp2
        go_ret
        exact ⟨yE, yG1 HB GE103.out⟩
       ·
        rw [if_neg c11] at H
        have c11b0 : decide (1 ≤ a0_1) = false := decide_eq_false c11
        clear c11
        obtain rfl := Option.some.inj H
        obtain ⟨hcz13_0, hcz13_1, hfz13_0, hfz13_1⟩ := cells2 BK103.out
        go_wp2
        go_ret
        exact ⟨yE, yG1 HB GE103.out⟩
      ·
       replace c10 := Bool.eq_false_iff.mpr c10
       subst c10
       replace H := yf H
       obtain rfl := Option.some.inj H
       go_wp2
       go_ret
       exact ⟨yE, yG1 HB GE103.out⟩
/-- A state of type 3 at block g of W; what its slices lead to came in by w0. -/
def IsS3 (w0 W : World) (g : Nat) (f0 : Int) : Prop := W.heap[g]? = some (.cells #[.int .i64 f0] 3 (0, 0)) ∧ w0.heap.size ≤ g
theorem IsS3.grown {w0 W : World} {g : Nat} {f0 : Int} {W1 : World} {row : Option Nat} (h : IsS3 w0 W g f0) (hw : W.grownBy W1 row) (hne : some g ≠ row) : IsS3 w0 W1 g f0 := by
 obtain ⟨hb, hg⟩ := h
 exact ⟨blk_grown hb hw hne, hg⟩
theorem IsS3.own_neN {w0 W : World} {g : Nat} {f0 : Int} {α : Type} {d : Kd α} {e : Nat} {base : Nat} {ok : Nat → Prop} {v : Value} {xs : List α} (h : IsS3 w0 W g f0) (ho : Kd.N d e W base ok v xs) (ht : e ≠ 3) : some g ≠ v.ownBlock := by
 obtain ⟨hb, hg⟩ := h
 exact Kd.N_ne ho hb ht
theorem IsS3.fresh {w0 W : World} {g : Nat} {f0 : Int} (h : IsS3 w0 W g f0) : ∀ k, W.heap.size ≤ k → k ≠ g := by
 obtain ⟨hb, hg⟩ := h
 exact Kd.freshB hb
theorem IsS3.kept {w0 W : World} {g : Nat} {f0 : Int} {W1 : World} {S : Nat → Prop} (h : IsS3 w0 W g f0) (hk : Kept W W1 S) (hne : ¬ S g) : IsS3 w0 W1 g f0 := by
 obtain ⟨hb, hg⟩ := h
 exact ⟨blk_kept hb hk hne, hg⟩
theorem IsS3.below {w0 W : World} {g : Nat} {f0 : Int} {W1 : World} (h : IsS3 w0 W g f0) (hw : Below W.heap.size W W1) : IsS3 w0 W1 g f0 := h.grown (grown_of_below hw none) (by simp)
theorem IsS3.alloc {w0 W : World} {g : Nat} {f0 : Int} (h : IsS3 w0 W g f0) (o : Obj) : IsS3 w0 (W.alloc o) g f0 := h.below (bA (Below.refl _ _) o)
theorem IsS3.drewN {w0 W : World} {g : Nat} {f0 : Int} (h : IsS3 w0 W g f0) (m : Nat) : IsS3 w0 (W.drewN m) g f0 := h
theorem IsS3.drew {w0 W : World} {g : Nat} {f0 : Int} (h : IsS3 w0 W g f0) : IsS3 w0 W.drew g f0 := h
theorem IsS3.at_ {w0 W : World} {g : Nat} {f0 : Int} {w' : World} {m : Nat} (hq : W.drewN m = w') (h : IsS3 w0 W g f0) : IsS3 w0 w' g f0 := by subst hq; exact IsS3.drewN h m
theorem IsS3.apart {w0 W : World} {g : Nat} {f0 : Int} {α : Type} {d : Kd α} {e : Nat} {base : Nat} {ok : Nat → Prop} {v : Value} {xs : List α} (h : IsS3 w0 W g f0) (ho : d.R e W base ok v xs) (ht : ∀ q, q ∈ e :: d.E → q ≠ 3) : d.R e W base (fun k => ok k ∧ k ≠ g) v xs := by
 obtain ⟨hb, hg⟩ := h
 exact Kd.R_types ho hb ht
theorem IsS3.own_ne {w0 W : World} {g : Nat} {f0 : Int} {α : Type} {d : Kd α} {e : Nat} {base : Nat} {ok : Nat → Prop} {v : Value} {xs : List α} (h : IsS3 w0 W g f0) (ho : d.R e W base ok v xs) (ht : e ≠ 3) : some g ≠ v.ownBlock := by
 obtain ⟨hb, hg⟩ := h
 exact Kd.R_ne ho hb ht
theorem IsS3.apartQ {w0 W : World} {g : Nat} {f0 : Int} {α : Type} {d : Kd α} {e : Nat} {base : Nat} {ok : Nat → Prop} {v : Value} {xs : List α} (h : IsS3 w0 W g f0) (ho : d.Q e W base ok v xs) (ht : ∀ q, q ∈ e :: d.E → q ≠ 3) : d.Q e W base (fun k => ok k ∧ k ≠ g) v xs := by
 obtain ⟨hb, hg⟩ := h
 exact Kd.Q_types ho hb ht
theorem IsS3.own_neQ {w0 W : World} {g : Nat} {f0 : Int} {α : Type} {d : Kd α} {e : Nat} {base : Nat} {ok : Nat → Prop} {v : Value} {xs : List α} (h : IsS3 w0 W g f0) (ho : d.Q e W base ok v xs) (ht : e ≠ 3) : some g ≠ v.ownBlock := by
 obtain ⟨hb, hg⟩ := h
 exact Kd.Q_ne ho hb ht
theorem IsS3.apartS {w0 W : World} {g : Nat} {f0 : Int} {α : Type} {d : Kd α} {e : Nat} {base : Nat} {ok : Nat → Prop} {v : Value} {xs : List α} (h : IsS3 w0 W g f0) (ho : d.S e W base ok v xs) (ht : ∀ q, q ∈ e :: d.E → q ≠ 3) : d.S e W base (fun k => ok k ∧ k ≠ g) v xs := by
 obtain ⟨hb, hg⟩ := h
 exact Kd.S_types ho hb ht
theorem IsS3.own_neS {w0 W : World} {g : Nat} {f0 : Int} {α : Type} {d : Kd α} {e : Nat} {base : Nat} {ok : Nat → Prop} {v : Value} {xs : List α} (h : IsS3 w0 W g f0) (ho : d.S e W base ok v xs) (ht : e ≠ 3) : some g ≠ v.ownBlock := by
 obtain ⟨hb, hg⟩ := h
 exact Kd.S_ne ho hb ht
theorem IsS3.lt {w0 W : World} {g : Nat} {f0 : Int} (h : IsS3 w0 W g f0) : g < W.heap.size := by
 obtain ⟨hb, hg⟩ := h
 exact blk_lt hb
theorem IsS3.ge {w0 W : World} {g : Nat} {f0 : Int} (h : IsS3 w0 W g f0) : w0.heap.size ≤ g := by
 obtain ⟨hb, hg⟩ := h
 exact hg
theorem IsS3.ne_blk {w0 W : World} {g : Nat} {f0 : Int} {a : Nat} {cs : Array Value} {t : TypeId} {fr : Nat × Nat} (h : IsS3 w0 W g f0) (hb2 : W.heap[a]? = some (.cells cs t fr)) (ht : t ≠ 3) : g ≠ a := by
 obtain ⟨hb, hg⟩ := h
 rintro rfl
 rw [hb] at hb2
 injection hb2 with hb2
 injection hb2 with _ ht2
 exact ht ht2.symm
theorem IsS3.far {w0 W : World} {g : Nat} {f0 : Int} {p : Addr} (h : IsS3 w0 W g f0) (hne : g ≠ p.block) (u : Value) : IsS3 w0 (W.setCell p u) g f0 := by
 obtain ⟨hb, hg⟩ := h
 exact ⟨kF hb hne u, hg⟩
theorem cellS3_0 {W : World} {g : Nat} {f0 : Int} (h : W.heap[g]? = some (.cells #[.int .i64 f0] 3 (0, 0))) : W.cell? ⟨g, 0, none⟩ = some (.int .i64 f0) := (blk_cell h 0).trans rfl
theorem IsS3.set_0 {w0 W : World} {g : Nat} {f0 : Int} (h : IsS3 w0 W g f0) (x : Int) : IsS3 w0 (W.setCell ⟨g, 0, none⟩ (.int .i64 x)) g x := by
 obtain ⟨hb, hg⟩ := h
 exact ⟨by simpa using blk_set hb 0 (.int .i64 x), hg⟩
theorem IsS3.new (w0 W : World) (f0 : Int) (hB : Below w0.heap.size w0 W) : IsS3 w0 (W.alloc (.cells #[.int .i64 f0] 3)) W.heap.size f0 := ⟨by simpa using heap_alloc_new W _, hB.size⟩
theorem IsS3.box {w0 W : World} {g : Nat} {f0 : Int} (h : Aside0 (IsS3 w0 W g f0)) : Aside0 (W.heap[g]? = some (.cells #[.int .i64 f0] 3 (0, 0))) := ⟨h.out.1⟩
/-! ### utf_Count_1: function 116 -/
def utf_Count_1.f (a0 : Int) (a1 : Int) (s2_0 : Int) : Option (Int) := some (wrap64 (s2_0 + 1))
set_option maxHeartbeats 8000000 in
set_option maxRecDepth 100000 in
theorem utf_Count_1.calls (a0 : Int) (a1 : Int) (g : Nat) (s2_0 : Int) (r : Int) (w0 w : World) (hI : IsS3 w0 w g s2_0) (hB : Below w0.heap.size w0 w) (h : utf_Count_1.f a0 a1 s2_0 = some r) :
  Calls Tryd.prog 116 #[.int .i64 a0, .int .i64 a1, .pointer (some ⟨g, 0, none⟩)] w fun e w' => e = .returned (.tuple #[]) ∧ IsS3 w0 w' g r ∧ Below w0.heap.size w0 w' ∧ KeepBut w w' g none := by
 have HI2 := aM hI
 have HK := aM (KeepBut.refl w g none)
 have HL := aM hB.size
 clear hI
 have HW0 := aM hB.size
 have HB := aM hB
 clear hB
 have H : (some (wrap64 (s2_0 + 1))) = some r := h
 clear h
 obtain rfl := Option.some.inj H
 obtain ⟨HGz4, hgz4⟩ := HI2.out
 have hcz4_0 := cellS3_0 HGz4
 have hfz4_0 := blk_frozen HGz4 0
 clear HGz4 hgz4
 go_enter Tryd.func116, Tryd.ntmps116
 go_wp2
 first | go_end0 | ((try simp only [Exit.inBlock, Exit.then]); refine bodyPost_ret (results_none rfl _ _ _) rfl ?_)
 exact ⟨yE, by repeat (first | (with_reducible first | exact HI2.out | apply IsS3.alloc | apply IsS3.drewN | apply IsS3.drew | apply IsS3.set_0) | exact HI2.out), yG1 HB (IsS3.ge HI2.out), by repeat (first | (with_reducible first | exact HK.out | apply KeepBut.set_ | apply keep_drewN | apply keep_drew | apply keep_alloc) | exact HK.out)⟩
/-! ### utf_lead: function 121 -/
def utf_lead.f (a0 : Int) : Option (Int × Int) := if a0 < 128 then (some (1, wrap64 (a0))) else (if (a0 / 32) = 6 then (some (2, wrap64 (Go.bits .and .u8 a0 31))) else (if (a0 / 16) = 14 then (some (3, wrap64 (Go.bits .and .u8 a0 15))) else (if (a0 / 8) = 30 then (some (4, wrap64 (Go.bits .and .u8 a0 7))) else (some (0, 0)))))
set_option maxHeartbeats 8000000 in
set_option maxRecDepth 100000 in
theorem utf_lead.calls (a0 : Int) (r1 : Int) (r2 : Int) (w : World) (h : utf_lead.f a0 = some (r1, r2)) :
  Calls Tryd.prog 121 #[.int .u8 a0] w fun e w' => e = .returned (.tuple #[.int .i64 r1, .int .i64 r2]) ∧ Drawn0 w w' := by
 have H : (if a0 < 128 then (some (1, wrap64 (a0))) else (if (a0 / 32) = 6 then (some (2, wrap64 (Go.bits .and .u8 a0 31))) else (if (a0 / 16) = 14 then (some (3, wrap64 (Go.bits .and .u8 a0 15))) else (if (a0 / 8) = 30 then (some (4, wrap64 (Go.bits .and .u8 a0 7))) else (some (0, 0)))))) = some (r1, r2) := h
 clear h
 by_cases c2 : a0 < 128
 ·
  rw [if_pos c2] at H
  have c2b0 : decide (a0 < 128) = true := decide_eq_true c2
  clear c2
  simp only [Option.some.injEq, Prod.mk.injEq] at H
  obtain ⟨rfl, rfl⟩ := H
  go_enter Tryd.func121, Tryd.ntmps121
  go_wp2
  go_ret2
  exact ⟨yS, yD⟩
 ·
  rw [if_neg c2] at H
  have c2b0 : decide (a0 < 128) = false := decide_eq_false c2
  clear c2
  by_cases c3 : (a0 / 32) = 6
  ·
   rw [if_pos c3] at H
   have c3b0 : ((a0 / 32) == 6) = true := beq_iff_eq.mpr c3
   have c3b1 : ((a0 / 32) != 6) = false := bne_eq_false_iff_eq.mpr c3
   clear c3
   simp only [Option.some.injEq, Prod.mk.injEq] at H
   obtain ⟨rfl, rfl⟩ := H
   go_enter Tryd.func121, Tryd.ntmps121
   go_wp2
   go_ret2
   exact ⟨yS, yD⟩
  ·
   rw [if_neg c3] at H
   have c3b0 : ((a0 / 32) == 6) = false := beq_eq_false_iff_ne.mpr c3
   have c3b1 : ((a0 / 32) != 6) = true := bne_iff_ne.mpr c3
   by_cases c4 : (a0 / 16) = 14
   ·
    rw [if_pos c4] at H
    have c4b0 : ((a0 / 16) == 14) = true := beq_iff_eq.mpr c4
    have c4b1 : ((a0 / 16) != 14) = false := bne_eq_false_iff_eq.mpr c4
    clear c4
    simp only [Option.some.injEq, Prod.mk.injEq] at H
    obtain ⟨rfl, rfl⟩ := H
    go_enter Tryd.func121, Tryd.ntmps121
    go_wp2
    go_ret2
    exact ⟨yS, yD⟩
   ·
    rw [if_neg c4] at H
    have c4b0 : ((a0 / 16) == 14) = false := beq_eq_false_iff_ne.mpr c4
    have c4b1 : ((a0 / 16) != 14) = true := bne_iff_ne.mpr c4
    by_cases c5 : (a0 / 8) = 30
    ·
     rw [if_pos c5] at H
     have c5b0 : ((a0 / 8) == 30) = true := beq_iff_eq.mpr c5
     have c5b1 : ((a0 / 8) != 30) = false := bne_eq_false_iff_eq.mpr c5
     clear c5
     simp only [Option.some.injEq, Prod.mk.injEq] at H
     obtain ⟨rfl, rfl⟩ := H
     go_enter Tryd.func121, Tryd.ntmps121
     go_wp2
     go_ret2
     exact ⟨yS, yD⟩
    ·
     rw [if_neg c5] at H
     have c5b0 : ((a0 / 8) == 30) = false := beq_eq_false_iff_ne.mpr c5
     have c5b1 : ((a0 / 8) != 30) = true := bne_iff_ne.mpr c5
     simp only [Option.some.injEq, Prod.mk.injEq] at H
     obtain ⟨rfl, rfl⟩ := H
     go_enter Tryd.func121, Tryd.ntmps121
     go_wp2
     go_ret2
     exact ⟨yS, yD⟩
/-! ### utf_is: function 122 -/
def utf_is.f (a0 : Int) : Option (Bool) := if a0 ≥ 0 then (if a0 ≤ 1114111 then (if a0 < 55296 then (some true) else (some (decide (a0 > 57343)))) else (some false)) else (some false)
set_option maxHeartbeats 8000000 in
set_option maxRecDepth 100000 in
theorem utf_is.calls (a0 : Int) (r : Bool) (w : World) (h : utf_is.f a0 = some r) :
  Calls Tryd.prog 122 #[.int .i64 a0] w fun e w' => e = .returned (.bool r) ∧ Drawn0 w w' := by
 have H : (if a0 ≥ 0 then (if a0 ≤ 1114111 then (if a0 < 55296 then (some true) else (some (decide (a0 > 57343)))) else (some false)) else (some false)) = some r := h
 clear h
 by_cases c2 : a0 ≥ 0
 ·
  rw [if_pos c2] at H
  have c2b0 : decide (0 ≤ a0) = true := decide_eq_true c2
  clear c2
  by_cases c3 : a0 ≤ 1114111
  ·
   rw [if_pos c3] at H
   have c3b0 : decide (a0 ≤ 1114111) = true := decide_eq_true c3
   clear c3
   by_cases c4 : a0 < 55296
   ·
    rw [if_pos c4] at H
    have c4b0 : decide (a0 < 55296) = true := decide_eq_true c4
    clear c4
    obtain rfl := Option.some.inj H
    go_enter Tryd.func122, Tryd.ntmps122
    go_wp2
    go_ret
    exact ⟨yS, yD⟩
   ·
    rw [if_neg c4] at H
    have c4b0 : decide (a0 < 55296) = false := decide_eq_false c4
    clear c4
    obtain rfl := Option.some.inj H
    go_enter Tryd.func122, Tryd.ntmps122
    go_wp2
    go_ret
    exact ⟨yS, yD⟩
  ·
   rw [if_neg c3] at H
   have c3b0 : decide (a0 ≤ 1114111) = false := decide_eq_false c3
   clear c3
   obtain rfl := Option.some.inj H
   go_enter Tryd.func122, Tryd.ntmps122
   go_wp2
   go_ret
   exact ⟨yS, yD⟩
 ·
  rw [if_neg c2] at H
  have c2b0 : decide (0 ≤ a0) = false := decide_eq_false c2
  clear c2
  obtain rfl := Option.some.inj H
  go_enter Tryd.func122, Tryd.ntmps122
  go_wp2
  go_ret
  exact ⟨yS, yD⟩
end Go.Proofs.YtdeophpjammbpaaDoor.HRowcodeKeys

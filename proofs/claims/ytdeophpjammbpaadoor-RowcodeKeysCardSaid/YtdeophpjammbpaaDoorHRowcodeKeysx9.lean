/- For Go functions that RowcodeKeys reaches: Lean functions, and walks that show that each call comes to what its Lean function tells; no condition but those that each theorem states. (Made by a program of this session over the kit's print.py.) -/
import Derived.Test.YtdeophpjammbpaaDoorHRowcodeKeysx0
import Derived.Test.YtdeophpjammbpaaDoorHRowcodeKeysx8
namespace Go.Proofs.YtdeophpjammbpaaDoor.HRowcodeKeys
open Go.RowKit Go.Proofs.YtdeophpjammbpaaDoorW.PrintWords Go.Proofs.YtdeophpjammbpaaDoorW.PrintLast Go.Proofs.YtdeophpjammbpaaDoorW.PrintMore
attribute [local go_sem] max2_int min2_int max_two min_two max_three min_three max_four min_four   -- for this text's walks alone
set_option linter.unusedVariables false
set_option linter.unusedSimpArgs false
attribute [local go_sem] hp_s8 hp_s16 hp_s32 hp_s64 hp_m8 hp_m16 hp_m32 hp_m64
/-! ### haulagelaw08_Few: function 14 -/
mutual
def haulagelaw08_Few.j0 : Nat → Bool → Int → ByteArray → Int → Int → List (S54) → Option (Bool)
 | 0, _, _, _, _, _, _ => none
 | k + 1, x13, x218000, x218001, x218002, x218003, x218004 => if x13 = true then (some false) else (haulagelaw08_Few.l0 k 0 x218000 x218001 x218002 x218003 x218004)
def haulagelaw08_Few.l0 : Nat → Int → Int → ByteArray → Int → Int → List (S54) → Option (Bool)
 | 0, _, _, _, _, _, _ => none
 | k + 1, x3, x218000, x218001, x218002, x218003, x218004 => if x3 < (x218004.length : Int) then (if 0 ≤ x3 then ((haulagelaw08_short.f ((rd_T54 x218004 x3).f1)).bind fun t220 => (if t220 = true then ((haulagelaw08_short.f ((rd_T54 x218004 x3).f4.f2)).bind fun t222 => (if t222 = true then (haulagelaw08_Few.l0 k (wrap64 (x3 + 1)) x218000 x218001 x218002 x218003 x218004) else (some false))) else (some false))) else (none)) else (some true)
end
def haulagelaw08_Few.f (k : Nat) (a0_0 : Int) (a0_1 : ByteArray) (a0_2 : Int) (a0_3 : Int) (l0_4 : List (S54)) : Option (Bool) := if (l0_4.length : Int) > 20 then (haulagelaw08_Few.j0 k true a0_0 a0_1 a0_2 a0_3 l0_4) else ((haulagelaw08_short.f a0_1).bind fun t218 => (haulagelaw08_Few.j0 k (!t218) a0_0 a0_1 a0_2 a0_3 l0_4))
theorem haulagelaw08_Few.mono_l : ∀ k, (∀ y0 y1 y2 y3 y4 y5, LeO (haulagelaw08_Few.j0 k y0 y1 y2 y3 y4 y5) (haulagelaw08_Few.j0 (k + 1) y0 y1 y2 y3 y4 y5)) ∧ (∀ y0 y1 y2 y3 y4 y5, LeO (haulagelaw08_Few.l0 k y0 y1 y2 y3 y4 y5) (haulagelaw08_Few.l0 (k + 1) y0 y1 y2 y3 y4 y5))
 | 0 => by refine ⟨?_, ?_⟩ <;> intros <;> exact LeO.none _
 | k + 1 => by
  obtain ⟨ih0, ih1⟩ := haulagelaw08_Few.mono_l k
  refine ⟨?_, ?_⟩ <;> intros <;> first | unfold haulagelaw08_Few.j0 | unfold haulagelaw08_Few.l0
  all_goals repeat' first | with_reducible (first | exact ih0 .. | exact ih1 .. | exact LeO.refl .. | exact LeO.none .. | refine LeO.ite ?_ ?_ | refine LeO.bind ?_ (fun _ => ?_)) | exact ih0 .. | exact ih1 .. | exact LeO.none .. | refine LeO.ite ?_ ?_ | refine LeO.bind ?_ (fun _ => ?_)
theorem haulagelaw08_Few.mono : ∀ a0 a1 a2 a3 a4 k, LeO (haulagelaw08_Few.f k a0 a1 a2 a3 a4) (haulagelaw08_Few.f (k + 1) a0 a1 a2 a3 a4) := by
 intro a0 a1 a2 a3 a4 k
 obtain ⟨ih0, ih1⟩ := haulagelaw08_Few.mono_l k
 unfold haulagelaw08_Few.f
 repeat' first | with_reducible (first | exact ih0 .. | exact ih1 .. | exact LeO.refl .. | exact LeO.none .. | refine LeO.ite ?_ ?_ | refine LeO.bind ?_ (fun _ => ?_)) | exact ih0 .. | exact ih1 .. | exact LeO.none .. | refine LeO.ite ?_ ?_ | refine LeO.bind ?_ (fun _ => ?_)
set_option maxHeartbeats 8000000 in
set_option maxRecDepth 100000 in
theorem haulagelaw08_Few.calls (k : Nat) (a0_0 : Int) (a0_1 : ByteArray) (a0_2 : Int) (a0_3 : Int) (A0_4 : Option Addr) (c0_4 : Nat) (l0_4 : List (S54)) (r : Bool) (w : World) (hr0_4 : Kd.C k54 w A0_4 l0_4.length l0_4) (hc0_4 : l0_4.length ≤ c0_4) (h : haulagelaw08_Few.f k a0_0 a0_1 a0_2 a0_3 l0_4 = some r) :
  Calls Tryd.prog 14 #[.agg #[.int .i64 a0_0, .string a0_1, .int .i64 a0_2, .int .i64 a0_3, .slice A0_4 l0_4.length c0_4]] w fun e w' => e = .returned (.bool r) ∧ Below w.heap.size w w' := by
 have hu24 := Tryd.underlying24
 have HR0_4 := aM hr0_4
 have HC0_4 := aM hc0_4
 clear hr0_4 hc0_4
 have HB := aM (Below.refl w.heap.size w)
 have H : (if (l0_4.length : Int) > 20 then (haulagelaw08_Few.j0 k true a0_0 a0_1 a0_2 a0_3 l0_4) else ((haulagelaw08_short.f a0_1).bind fun t218 => (haulagelaw08_Few.j0 k (!t218) a0_0 a0_1 a0_2 a0_3 l0_4))) = some r := h
 clear h
 have HC2 := aM H
 clear H
 go_enter Tryd.func14, Tryd.ntmps14
 go_upto_region 1 with (first | ((with_reducible refine gate_dst (N := 1) rfl ?_); refine yX (N := 1) (cs := #[.int .i64 a0_0, .string a0_1, .int .i64 a0_2, .int .i64 a0_3, .slice A0_4 l0_4.length c0_4]) (t := 24) ?_; intro gb217 hg w3 hbox hb; have BK217 := aM (hbox); have GW217 := yZ hg (yB HB); have GE217 := yZ hg (yB HB); replace HB := aM (bP (yB HB) hb); clear hb hbox hg))
 (try simp only [Act.put, s1_, s2_, s3_])
 go_cut [13] (fun v13 wc => ∃ (kq : Nat) (x13_1 : Bool), v13 = .bool x13_1 ∧ Aside0 (haulagelaw08_Few.j0 kq x13_1 a0_0 a0_1 a0_2 a0_3 l0_4 = some r) ∧ Aside0 (kq ≤ k) ∧ Aside0 (wc.heap[gb217]? = some (.cells #[.int .i64 a0_0, .string a0_1, .int .i64 a0_2, .int .i64 a0_3, (.slice A0_4 l0_4.length c0_4)] 24 (0, 0))) ∧ Aside0 (Below w.heap.size w wc))
 case first =>
  have H := HC2.out
  clear HC2
  by_cases c4 : (l0_4.length : Int) > 20
  ·
   rw [if_pos c4] at H
   have c4b0 : decide (20 < (l0_4.length : Int)) = true := decide_eq_true c4
   have c4b1 : decide (20 < l0_4.length) = true := decide_eq_true (by omega)
   clear c4
   (first | rw [c4b0] | (simp only [i64_w, i32_w]; rw [c4b0]) | skip)
   have H' := aM H
   clear H
   obtain ⟨hcz5_0, hcz5_1, hcz5_2, hcz5_3, hcz5_4, hfz5_0, hfz5_1, hfz5_2, hfz5_3, hfz5_4⟩ := cells5 BK217.out
   go_wp2
   go_meet
   case rel => exact ⟨_, (true), yS, H', ⟨yO⟩, ⟨yK BK217⟩, ⟨yG1 HB GE217.out⟩⟩
  ·
   rw [if_neg c4] at H
   have c4b0 : decide (20 < (l0_4.length : Int)) = false := decide_eq_false c4
   have c4b1 : decide (20 < l0_4.length) = false := decide_eq_false (by omega)
   clear c4
   (first | rw [c4b0] | (simp only [i64_w, i32_w]; rw [c4b0]) | skip)
   obtain ⟨t218, A6, H⟩ := yb H
   have H' := aM H
   clear H
   obtain ⟨hcz7_0, hcz7_1, hcz7_2, hcz7_3, hcz7_4, hfz7_0, hfz7_1, hfz7_2, hfz7_3, hfz7_4⟩ := cells5 BK217.out
   go_wp2_with (first | (go_at_call 38; (with_reducible refine (haulagelaw08_short.calls a0_1 t218 _ A6.out).mono ?_); rintro e w' ⟨rfl, ⟨nd, rfl⟩⟩))
   go_meet
   case rel => exact ⟨_, (!t218), yS, H', ⟨yO⟩, ⟨yK BK217⟩, ⟨yG1 HB GE217.out⟩⟩
 case rest =>
  clear HC2
  obtain ⟨kq, x13_1, rfl, HA, HJ1, BK217, HB⟩ := hcut
  cases kq with
  | zero => exact absurd HA.out (by simp [haulagelaw08_Few.j0])
  | succ kj1 =>
   have H := HA.out
   clear HA
   simp only [haulagelaw08_Few.j0] at H
   by_cases c8 : x13_1 = true
   ·
    subst c8
    replace H := yt H
    obtain rfl := Option.some.inj H
    go_wp2
    go_ret
    exact ⟨yE, yG1 HB GE217.out⟩
   ·
    replace c8 := Bool.eq_false_iff.mpr c8
    subst c8
    replace H := yf H
    have H' := aM H
    clear H
    go_wp2
    go_loopg [3] kj1 (fun kq v3 w' => ∃ (x3_2 : Int), v3 = .int .i64 x3_2 ∧ Aside0 (haulagelaw08_Few.l0 kq x3_2 a0_0 a0_1 a0_2 a0_3 l0_4 = some r) ∧ Aside0 (kq ≤ kj1) ∧ Aside0 (w'.heap[gb217]? = some (.cells #[.int .i64 a0_0, .string a0_1, .int .i64 a0_2, .int .i64 a0_3, (.slice A0_4 l0_4.length c0_4)] 24 (0, 0))) ∧ Aside0 (Below w.heap.size w w'))
    case atStart => exact ⟨(0), yS, H', ⟨Nat.le_refl _⟩, ⟨yK BK217⟩, ⟨yG1 HB GE217.out⟩⟩
    case round =>
     clear H'
     try clear c8
     obtain ⟨x3_2, rfl, HA, HK2, BK217, HB⟩ := hrel
     cases gk with
     | zero => exact absurd HA.out (by simp [haulagelaw08_Few.l0])
     | succ k2 =>
      have H := HA.out
      clear HA
      simp only [haulagelaw08_Few.l0] at H
      by_cases c9 : x3_2 < (l0_4.length : Int)
      ·
       rw [if_pos c9] at H
       have c9b0 : decide (x3_2 < (l0_4.length : Int)) = true := decide_eq_true c9
       clear c9
       by_cases c10 : 0 ≤ x3_2
       ·
        rw [if_pos c10] at H
        have c10b0 : decide (0 ≤ x3_2) = true := decide_eq_true c10
        clear c10
        obtain ⟨t220, A11, H⟩ := yb H
        by_cases c12 : t220 = true
        ·
         subst c12
         replace H := yt H
         obtain ⟨t222, A13, H⟩ := yb H
         by_cases c14 : t222 = true
         ·
          subst c14
          replace H := yt H
          have H' := aM H
          clear H
          obtain ⟨hcz15_0, hcz15_1, hcz15_2, hcz15_3, hcz15_4, hfz15_0, hfz15_1, hfz15_2, hfz15_3, hfz15_4⟩ := cells5 BK217.out
          have p219 : 0 ≤ (x3_2 : Int) := oD yA
          have q219 : x3_2 < (l0_4.length : Int) := oD yA
          obtain ⟨ad219, e219, hx219_0, hx219_1, hx219_2, hx219_3, hx219_4, hx219_5, hx219_6, hx219_7⟩ := at_T54 HR0_4.out x3_2 p219 q219
          cases e219
          replace hx219_0 := pw_cell_below HB.out hx219_0
          replace hx219_1 := pw_cell_below HB.out hx219_1
          replace hx219_2 := pw_cell_below HB.out hx219_2
          replace hx219_3 := pw_cell_below HB.out hx219_3
          replace hx219_4 := pw_cell_below HB.out hx219_4
          replace hx219_5 := pw_cell_below HB.out hx219_5
          replace hx219_6 := pw_cell_below HB.out hx219_6
          replace hx219_7 := pw_cell_below HB.out hx219_7
          replace p219 := eq_true p219
          replace q219 := eq_true q219
          go_wp2_with (first | ((with_reducible refine gate_callee (f := 38) rfl ?_); refine yC 27 Tryd.func38 #[.string ((rd_T54 l0_4 x3_2).f1)] rfl ?_; (with_reducible refine (haulagelaw08_short.calls ((rd_T54 l0_4 x3_2).f1) true _ A11.out).mono ?_); rintro e w' ⟨rfl, ⟨nd, rfl⟩⟩; refine ⟨_, rfl, ?_⟩; have p221 : 0 ≤ (x3_2 : Int) := oD yA; have q221 : x3_2 < (l0_4.length : Int) := oD yA; obtain ⟨ad221, e221, hx221_0, hx221_1, hx221_2, hx221_3, hx221_4, hx221_5, hx221_6, hx221_7⟩ := at_T54 HR0_4.out x3_2 p221 q221; obtain rfl : ad219 = ad221 := (by injection e221); replace hx221_0 := pw_cell_below HB.out hx221_0; replace hx221_1 := pw_cell_below HB.out hx221_1; replace hx221_2 := pw_cell_below HB.out hx221_2; replace hx221_3 := pw_cell_below HB.out hx221_3; replace hx221_4 := pw_cell_below HB.out hx221_4; replace hx221_5 := pw_cell_below HB.out hx221_5; replace hx221_6 := pw_cell_below HB.out hx221_6; replace hx221_7 := pw_cell_below HB.out hx221_7; replace p221 := eq_true p221; replace q221 := eq_true q221) | (go_at_call 38; (with_reducible refine (haulagelaw08_short.calls ((rd_T54 l0_4 x3_2).f4.f2) true _ A13.out).mono ?_); rintro e w' ⟨rfl, ⟨nd, rfl⟩⟩))
          go_roundg k2
          case measure => have := HJ1.out; have := HK2.out; omega
          case rel => exact ⟨(wrap64 (x3_2 + 1)), yS, H', ⟨by have := HJ1.out; have := HK2.out; omega⟩, ⟨yK BK217⟩, ⟨yG1 HB GE217.out⟩⟩
         ·
          replace c14 := Bool.eq_false_iff.mpr c14
          subst c14
          replace H := yf H
          obtain rfl := Option.some.inj H
          obtain ⟨hcz16_0, hcz16_1, hcz16_2, hcz16_3, hcz16_4, hfz16_0, hfz16_1, hfz16_2, hfz16_3, hfz16_4⟩ := cells5 BK217.out
          have p219 : 0 ≤ (x3_2 : Int) := oD yA
          have q219 : x3_2 < (l0_4.length : Int) := oD yA
          obtain ⟨ad219, e219, hx219_0, hx219_1, hx219_2, hx219_3, hx219_4, hx219_5, hx219_6, hx219_7⟩ := at_T54 HR0_4.out x3_2 p219 q219
          cases e219
          replace hx219_0 := pw_cell_below HB.out hx219_0
          replace hx219_1 := pw_cell_below HB.out hx219_1
          replace hx219_2 := pw_cell_below HB.out hx219_2
          replace hx219_3 := pw_cell_below HB.out hx219_3
          replace hx219_4 := pw_cell_below HB.out hx219_4
          replace hx219_5 := pw_cell_below HB.out hx219_5
          replace hx219_6 := pw_cell_below HB.out hx219_6
          replace hx219_7 := pw_cell_below HB.out hx219_7
          replace p219 := eq_true p219
          replace q219 := eq_true q219
          go_wp2_with (first | ((with_reducible refine gate_callee (f := 38) rfl ?_); refine yC 27 Tryd.func38 #[.string ((rd_T54 l0_4 x3_2).f1)] rfl ?_; (with_reducible refine (haulagelaw08_short.calls ((rd_T54 l0_4 x3_2).f1) true _ A11.out).mono ?_); rintro e w' ⟨rfl, ⟨nd, rfl⟩⟩; refine ⟨_, rfl, ?_⟩; have p221 : 0 ≤ (x3_2 : Int) := oD yA; have q221 : x3_2 < (l0_4.length : Int) := oD yA; obtain ⟨ad221, e221, hx221_0, hx221_1, hx221_2, hx221_3, hx221_4, hx221_5, hx221_6, hx221_7⟩ := at_T54 HR0_4.out x3_2 p221 q221; obtain rfl : ad219 = ad221 := (by injection e221); replace hx221_0 := pw_cell_below HB.out hx221_0; replace hx221_1 := pw_cell_below HB.out hx221_1; replace hx221_2 := pw_cell_below HB.out hx221_2; replace hx221_3 := pw_cell_below HB.out hx221_3; replace hx221_4 := pw_cell_below HB.out hx221_4; replace hx221_5 := pw_cell_below HB.out hx221_5; replace hx221_6 := pw_cell_below HB.out hx221_6; replace hx221_7 := pw_cell_below HB.out hx221_7; replace p221 := eq_true p221; replace q221 := eq_true q221) | (go_at_call 38; (with_reducible refine (haulagelaw08_short.calls ((rd_T54 l0_4 x3_2).f4.f2) false _ A13.out).mono ?_); rintro e w' ⟨rfl, ⟨nd, rfl⟩⟩))
          go_ret
          exact ⟨yE, yG1 HB GE217.out⟩
        ·
         replace c12 := Bool.eq_false_iff.mpr c12
         subst c12
         replace H := yf H
         obtain rfl := Option.some.inj H
         obtain ⟨hcz17_0, hcz17_1, hcz17_2, hcz17_3, hcz17_4, hfz17_0, hfz17_1, hfz17_2, hfz17_3, hfz17_4⟩ := cells5 BK217.out
         have p219 : 0 ≤ (x3_2 : Int) := oD yA
         have q219 : x3_2 < (l0_4.length : Int) := oD yA
         obtain ⟨ad219, e219, hx219_0, hx219_1, hx219_2, hx219_3, hx219_4, hx219_5, hx219_6, hx219_7⟩ := at_T54 HR0_4.out x3_2 p219 q219
         cases e219
         replace hx219_0 := pw_cell_below HB.out hx219_0
         replace hx219_1 := pw_cell_below HB.out hx219_1
         replace hx219_2 := pw_cell_below HB.out hx219_2
         replace hx219_3 := pw_cell_below HB.out hx219_3
         replace hx219_4 := pw_cell_below HB.out hx219_4
         replace hx219_5 := pw_cell_below HB.out hx219_5
         replace hx219_6 := pw_cell_below HB.out hx219_6
         replace hx219_7 := pw_cell_below HB.out hx219_7
         replace p219 := eq_true p219
         replace q219 := eq_true q219
         go_wp2_with (first | ((with_reducible refine gate_callee (f := 38) rfl ?_); refine yC 27 Tryd.func38 #[.string ((rd_T54 l0_4 x3_2).f1)] rfl ?_; (with_reducible refine (haulagelaw08_short.calls ((rd_T54 l0_4 x3_2).f1) false _ A11.out).mono ?_); rintro e w' ⟨rfl, ⟨nd, rfl⟩⟩; refine ⟨_, rfl, ?_⟩))
         go_ret
         exact ⟨yE, yG1 HB GE217.out⟩
       ·
        rw [if_neg c10] at H
        exact absurd H (by simp)
      ·
       rw [if_neg c9] at H
       have c9b0 : decide (x3_2 < (l0_4.length : Int)) = false := decide_eq_false c9
       clear c9
       obtain rfl := Option.some.inj H
       obtain ⟨hcz18_0, hcz18_1, hcz18_2, hcz18_3, hcz18_4, hfz18_0, hfz18_1, hfz18_2, hfz18_3, hfz18_4⟩ := cells5 BK217.out
       go_wp2
       go_ret
       exact ⟨yE, yG1 HB GE217.out⟩
/-! ### haulageref06_Right: function 72 -/
def haulageref06_Right.f (a0_0 : Int) (a0_1 : Int) : Option (Bool) := if a0_0 = 1 then (some (a0_1 == 0)) else (if a0_0 = 2 then (some (a0_1 == 0)) else (if a0_0 = 3 then (if a0_1 ≥ 1 then (some (decide (a0_1 ≤ 120))) else (some false)) else (if a0_0 = 4 then (if a0_1 ≥ 1 then (some (decide (a0_1 ≤ 120))) else (some false)) else (some false))))
set_option maxHeartbeats 8000000 in
set_option maxRecDepth 100000 in
theorem haulageref06_Right.calls (a0_0 : Int) (a0_1 : Int) (r : Bool) (w : World) (h : haulageref06_Right.f a0_0 a0_1 = some r) :
  Calls Tryd.prog 72 #[.agg #[.int .i64 a0_0, .int .i64 a0_1]] w fun e w' => e = .returned (.bool r) ∧ Below w.heap.size w w' := by
 have hu50 := Tryd.underlying50
 have HB := aM (Below.refl w.heap.size w)
 have H : (if a0_0 = 1 then (some (a0_1 == 0)) else (if a0_0 = 2 then (some (a0_1 == 0)) else (if a0_0 = 3 then (if a0_1 ≥ 1 then (some (decide (a0_1 ≤ 120))) else (some false)) else (if a0_0 = 4 then (if a0_1 ≥ 1 then (some (decide (a0_1 ≤ 120))) else (some false)) else (some false))))) = some r := h
 clear h
 by_cases c2 : a0_0 = 1
 ·
  rw [if_pos c2] at H
  have c2b0 : (a0_0 == 1) = true := beq_iff_eq.mpr c2
  have c2b1 : (a0_0 != 1) = false := bne_eq_false_iff_eq.mpr c2
  clear c2
  obtain rfl := Option.some.inj H
  go_enter Tryd.func72, Tryd.ntmps72
  go_wp2_with (first | ((with_reducible refine gate_dst (N := 1) rfl ?_); refine yX (N := 1) (cs := #[.int .i64 a0_0, .int .i64 a0_1]) (t := 50) ?_; intro gb223 hg w3 hbox hb; have BK223 := aM (hbox); have GW223 := yZ hg (yB HB); have GE223 := yZ hg (yB HB); replace HB := aM (bP (yB HB) hb); clear hb hbox hg; obtain ⟨hcz4_0, hcz4_1, hfz4_0, hfz4_1⟩ := cells2 BK223.out))
  go_ret
  exact ⟨yE, yG1 HB GE223.out⟩
 ·
  rw [if_neg c2] at H
  have c2b0 : (a0_0 == 1) = false := beq_eq_false_iff_ne.mpr c2
  have c2b1 : (a0_0 != 1) = true := bne_iff_ne.mpr c2
  by_cases c5 : a0_0 = 2
  ·
   rw [if_pos c5] at H
   have c5b0 : (a0_0 == 2) = true := beq_iff_eq.mpr c5
   have c5b1 : (a0_0 != 2) = false := bne_eq_false_iff_eq.mpr c5
   clear c5
   obtain rfl := Option.some.inj H
   go_enter Tryd.func72, Tryd.ntmps72
   go_wp2_with (first | ((with_reducible refine gate_dst (N := 1) rfl ?_); refine yX (N := 1) (cs := #[.int .i64 a0_0, .int .i64 a0_1]) (t := 50) ?_; intro gb223 hg w6 hbox hb; have BK223 := aM (hbox); have GW223 := yZ hg (yB HB); have GE223 := yZ hg (yB HB); replace HB := aM (bP (yB HB) hb); clear hb hbox hg; obtain ⟨hcz7_0, hcz7_1, hfz7_0, hfz7_1⟩ := cells2 BK223.out))
   go_ret
   exact ⟨yE, yG1 HB GE223.out⟩
  ·
   rw [if_neg c5] at H
   have c5b0 : (a0_0 == 2) = false := beq_eq_false_iff_ne.mpr c5
   have c5b1 : (a0_0 != 2) = true := bne_iff_ne.mpr c5
   by_cases c8 : a0_0 = 3
   ·
    rw [if_pos c8] at H
    have c8b0 : (a0_0 == 3) = true := beq_iff_eq.mpr c8
    have c8b1 : (a0_0 != 3) = false := bne_eq_false_iff_eq.mpr c8
    clear c8
    by_cases c9 : a0_1 ≥ 1
    ·
     rw [if_pos c9] at H
     have c9b0 : decide (1 ≤ a0_1) = true := decide_eq_true c9
     clear c9
     obtain rfl := Option.some.inj H
     go_enter Tryd.func72, Tryd.ntmps72
     go_wp2_with (first | ((with_reducible refine gate_dst (N := 1) rfl ?_); refine yX (N := 1) (cs := #[.int .i64 a0_0, .int .i64 a0_1]) (t := 50) ?_; intro gb223 hg w10 hbox hb; have BK223 := aM (hbox); have GW223 := yZ hg (yB HB); have GE223 := yZ hg (yB HB); replace HB := aM (bP (yB HB) hb); clear hb hbox hg; obtain ⟨hcz11_0, hcz11_1, hfz11_0, hfz11_1⟩ := cells2 BK223.out))
     go_ret
     exact ⟨yE, yG1 HB GE223.out⟩
    ·
     rw [if_neg c9] at H
     have c9b0 : decide (1 ≤ a0_1) = false := decide_eq_false c9
     clear c9
     obtain rfl := Option.some.inj H
     go_enter Tryd.func72, Tryd.ntmps72
     go_wp2_with (first | ((with_reducible refine gate_dst (N := 1) rfl ?_); refine yX (N := 1) (cs := #[.int .i64 a0_0, .int .i64 a0_1]) (t := 50) ?_; intro gb223 hg w12 hbox hb; have BK223 := aM (hbox); have GW223 := yZ hg (yB HB); have GE223 := yZ hg (yB HB); replace HB := aM (bP (yB HB) hb); clear hb hbox hg; obtain ⟨hcz13_0, hcz13_1, hfz13_0, hfz13_1⟩ := cells2 BK223.out))
     go_ret
     exact ⟨yE, yG1 HB GE223.out⟩
   ·
    rw [if_neg c8] at H
    have c8b0 : (a0_0 == 3) = false := beq_eq_false_iff_ne.mpr c8
    have c8b1 : (a0_0 != 3) = true := bne_iff_ne.mpr c8
    by_cases c14 : a0_0 = 4
    ·
     rw [if_pos c14] at H
     have c14b0 : (a0_0 == 4) = true := beq_iff_eq.mpr c14
     have c14b1 : (a0_0 != 4) = false := bne_eq_false_iff_eq.mpr c14
     clear c14
     by_cases c15 : a0_1 ≥ 1
     ·
      rw [if_pos c15] at H
      have c15b0 : decide (1 ≤ a0_1) = true := decide_eq_true c15
      clear c15
      obtain rfl := Option.some.inj H
      go_enter Tryd.func72, Tryd.ntmps72
      go_wp2_with (first | ((with_reducible refine gate_dst (N := 1) rfl ?_); refine yX (N := 1) (cs := #[.int .i64 a0_0, .int .i64 a0_1]) (t := 50) ?_; intro gb223 hg w16 hbox hb; have BK223 := aM (hbox); have GW223 := yZ hg (yB HB); have GE223 := yZ hg (yB HB); replace HB := aM (bP (yB HB) hb); clear hb hbox hg; obtain ⟨hcz17_0, hcz17_1, hfz17_0, hfz17_1⟩ := cells2 BK223.out))
      go_ret
      exact ⟨yE, yG1 HB GE223.out⟩
     ·
      rw [if_neg c15] at H
      have c15b0 : decide (1 ≤ a0_1) = false := decide_eq_false c15
      clear c15
      obtain rfl := Option.some.inj H
      go_enter Tryd.func72, Tryd.ntmps72
      go_wp2_with (first | ((with_reducible refine gate_dst (N := 1) rfl ?_); refine yX (N := 1) (cs := #[.int .i64 a0_0, .int .i64 a0_1]) (t := 50) ?_; intro gb223 hg w18 hbox hb; have BK223 := aM (hbox); have GW223 := yZ hg (yB HB); have GE223 := yZ hg (yB HB); replace HB := aM (bP (yB HB) hb); clear hb hbox hg; obtain ⟨hcz19_0, hcz19_1, hfz19_0, hfz19_1⟩ := cells2 BK223.out))
      go_ret
      exact ⟨yE, yG1 HB GE223.out⟩
    ·
     rw [if_neg c14] at H
     have c14b0 : (a0_0 == 4) = false := beq_eq_false_iff_ne.mpr c14
     have c14b1 : (a0_0 != 4) = true := bne_iff_ne.mpr c14
     obtain rfl := Option.some.inj H
     go_enter Tryd.func72, Tryd.ntmps72
     go_wp2_with (first | ((with_reducible refine gate_dst (N := 1) rfl ?_); refine yX (N := 1) (cs := #[.int .i64 a0_0, .int .i64 a0_1]) (t := 50) ?_; intro gb223 hg w20 hbox hb; have BK223 := aM (hbox); have GW223 := yZ hg (yB HB); have GE223 := yZ hg (yB HB); replace HB := aM (bP (yB HB) hb); clear hb hbox hg; obtain ⟨hcz21_0, hcz21_1, hfz21_0, hfz21_1⟩ := cells2 BK223.out))
     go_ret
     exact ⟨yE, yG1 HB GE223.out⟩
/-! ### haulageref03_Is: function 119 -/
def haulageref03_Is.f (a0 : Int) : Option (Bool) := if a0 ≥ 0 then (if a0 ≤ 1114111 then (if a0 < 55296 then (some true) else (some (decide (a0 > 57343)))) else (some false)) else (some false)
set_option maxHeartbeats 8000000 in
set_option maxRecDepth 100000 in
theorem haulageref03_Is.calls (a0 : Int) (r : Bool) (w : World) (h : haulageref03_Is.f a0 = some r) :
  Calls Tryd.prog 119 #[.int .i64 a0] w fun e w' => e = .returned (.bool r) ∧ Drawn0 w w' := by
 have H : (if a0 ≥ 0 then (if a0 ≤ 1114111 then (if a0 < 55296 then (some true) else (some (decide (a0 > 57343)))) else (some false)) else (some false)) = some r := h
 clear h
 by_cases c2 : a0 ≥ 0
 ·
  rw [if_pos c2] at H
  have c2b0 : decide (0 ≤ a0) = true := decide_eq_true c2
  clear c2
  by_cases c3 : a0 ≤ 1114111
  ·
   rw [if_pos c3] at H
   have c3b0 : decide (a0 ≤ 1114111) = true := decide_eq_true c3
   clear c3
   by_cases c4 : a0 < 55296
   ·
    rw [if_pos c4] at H
    have c4b0 : decide (a0 < 55296) = true := decide_eq_true c4
    clear c4
    obtain rfl := Option.some.inj H
    go_enter Tryd.func119, Tryd.ntmps119
    go_wp2
    go_ret
    exact ⟨yS, yD⟩
   ·
    rw [if_neg c4] at H
    have c4b0 : decide (a0 < 55296) = false := decide_eq_false c4
    clear c4
    obtain rfl := Option.some.inj H
    go_enter Tryd.func119, Tryd.ntmps119
    go_wp2
    go_ret
    exact ⟨yS, yD⟩
  ·
   rw [if_neg c3] at H
   have c3b0 : decide (a0 ≤ 1114111) = false := decide_eq_false c3
   clear c3
   obtain rfl := Option.some.inj H
   go_enter Tryd.func119, Tryd.ntmps119
   go_wp2
   go_ret
   exact ⟨yS, yD⟩
 ·
  rw [if_neg c2] at H
  have c2b0 : decide (0 ≤ a0) = false := decide_eq_false c2
  clear c2
  obtain rfl := Option.some.inj H
  go_enter Tryd.func119, Tryd.ntmps119
  go_wp2
  go_ret
  exact ⟨yS, yD⟩
/-! ### haulageref03_one: function 124 -/
def haulageref03_one.f (a0 : Int) : Option (ByteArray) := some (strOfNums (([(a0) % 256] : List Int)))
set_option maxHeartbeats 8000000 in
set_option maxRecDepth 100000 in
theorem haulageref03_one.calls (a0 : Int) (r : ByteArray) (w : World) (h : haulageref03_one.f a0 = some r) :
  Calls Tryd.prog 124 #[.int .i64 a0] w fun e w' => e = .returned (.string r) ∧ Below w.heap.size w w' := by
 have HB := aM (Below.refl w.heap.size w)
 have H : (some (strOfNums (([(a0) % 256] : List Int)))) = some r := h
 clear h
 obtain ⟨y224, hy224⟩ : ∃ y_ : List Int, y_ = (([(a0) % 256] : List Int)) := ⟨_, rfl⟩
 replace H : (some (strOfNums y224)) = some r := by first | (rw [hy224]; with_reducible exact H) | (have H2_ := (Option.bind_some _ _).symm.trans H; rw [hy224]; with_reducible exact H2_) | (have H2_ := (Option.bind_some _ _).symm.trans H; with_reducible exact H2_) | with_reducible exact H | (rw [hy224]; exact H) | exact H
 have Ny224 := aM hy224
 clear hy224
 obtain rfl := Option.some.inj H
 go_enter Tryd.func124, Tryd.ntmps124
 go_wp2_with (first | ((with_reducible refine gate_dst (N := 5) rfl ?_); refine Kd.R_lit (Kd.int .u8) _ 5 ?hg (N := 5) ?hd (xs := ([(a0) % 256] : List Int)) (inner := [.int .u8 ((a0) % 256)]) (ok := fun _ => True) (okp := fun _ => True) ?hr ?hp (fun _ hk => hk) trivial (Below.refl _ _) (Nat.le_refl _) (by simp) ?_; (case hd => rfl); (case hg => rfl); (case hr => first | (go_simp; done) | (go_simp; rfl)); (case hp => exact (Reps.one (show Kd.M (Kd.int .u8) _ _ _ ((a0) % 256) [.int .u8 ((a0) % 256)] from rfl) (Reps.none _ _))); intro v225 w2 ho3 hb hg_ hnew_; clear hg_ hnew_; (first | rw [← Ny224.out] at ho3 | (simp only [Int.reduceToNat] at ho3; rw [← Ny224.out] at ho3)); have HO226 := aM (Kd.R_lower ho3 (bZ (yB HB))); replace HB := aM (bP (yB HB) hb); clear hb ho3; have hcv4 := own_string (P := Tryd.prog) Tryd.underlying91 Tryd.underlying5 Tryd.underlying9 (Kd.own_of_R HO226.out)))
 go_ret
 exact ⟨yE, yB HB⟩
/-! ### haulageref03_Put: function 120 -/
def haulageref03_Put.f (a0 : Int) : Option (ByteArray) := if a0 < 128 then ((haulageref03_one.f a0).bind fun t227 => (some t227)) else (if a0 < 2048 then ((haulageref03_one.f (wrap64 (192 + (wrap64 (Int.tdiv a0 64))))).bind fun t228 => ((haulageref03_one.f (wrap64 (128 + (Int.tmod a0 64)))).bind fun t229 => (if t228.size + t229.size ≤ 9223372036854775807 then (some (t228 ++ t229)) else (none)))) else (if a0 < 65536 then ((haulageref03_one.f (wrap64 (224 + (wrap64 (Int.tdiv a0 4096))))).bind fun t230 => ((haulageref03_one.f (wrap64 (128 + (Int.tmod (wrap64 (Int.tdiv a0 64)) 64)))).bind fun t231 => (if t230.size + t231.size ≤ 9223372036854775807 then ((haulageref03_one.f (wrap64 (128 + (Int.tmod a0 64)))).bind fun t232 => (if (t230 ++ t231).size + t232.size ≤ 9223372036854775807 then (some ((t230 ++ t231) ++ t232)) else (none))) else (none)))) else ((haulageref03_one.f (wrap64 (240 + (wrap64 (Int.tdiv a0 262144))))).bind fun t233 => ((haulageref03_one.f (wrap64 (128 + (Int.tmod (wrap64 (Int.tdiv a0 4096)) 64)))).bind fun t234 => (if t233.size + t234.size ≤ 9223372036854775807 then ((haulageref03_one.f (wrap64 (128 + (Int.tmod (wrap64 (Int.tdiv a0 64)) 64)))).bind fun t235 => (if (t233 ++ t234).size + t235.size ≤ 9223372036854775807 then ((haulageref03_one.f (wrap64 (128 + (Int.tmod a0 64)))).bind fun t236 => (if ((t233 ++ t234) ++ t235).size + t236.size ≤ 9223372036854775807 then (some (((t233 ++ t234) ++ t235) ++ t236)) else (none))) else (none))) else (none))))))
set_option maxHeartbeats 8000000 in
set_option maxRecDepth 100000 in
theorem haulageref03_Put.calls (a0 : Int) (r : ByteArray) (w : World) (h : haulageref03_Put.f a0 = some r) :
  Calls Tryd.prog 120 #[.int .i64 a0] w fun e w' => e = .returned (.string r) ∧ Below w.heap.size w w' := by
 have HB := aM (Below.refl w.heap.size w)
 have H : (if a0 < 128 then ((haulageref03_one.f a0).bind fun t227 => (some t227)) else (if a0 < 2048 then ((haulageref03_one.f (wrap64 (192 + (wrap64 (Int.tdiv a0 64))))).bind fun t228 => ((haulageref03_one.f (wrap64 (128 + (Int.tmod a0 64)))).bind fun t229 => (if t228.size + t229.size ≤ 9223372036854775807 then (some (t228 ++ t229)) else (none)))) else (if a0 < 65536 then ((haulageref03_one.f (wrap64 (224 + (wrap64 (Int.tdiv a0 4096))))).bind fun t230 => ((haulageref03_one.f (wrap64 (128 + (Int.tmod (wrap64 (Int.tdiv a0 64)) 64)))).bind fun t231 => (if t230.size + t231.size ≤ 9223372036854775807 then ((haulageref03_one.f (wrap64 (128 + (Int.tmod a0 64)))).bind fun t232 => (if (t230 ++ t231).size + t232.size ≤ 9223372036854775807 then (some ((t230 ++ t231) ++ t232)) else (none))) else (none)))) else ((haulageref03_one.f (wrap64 (240 + (wrap64 (Int.tdiv a0 262144))))).bind fun t233 => ((haulageref03_one.f (wrap64 (128 + (Int.tmod (wrap64 (Int.tdiv a0 4096)) 64)))).bind fun t234 => (if t233.size + t234.size ≤ 9223372036854775807 then ((haulageref03_one.f (wrap64 (128 + (Int.tmod (wrap64 (Int.tdiv a0 64)) 64)))).bind fun t235 => (if (t233 ++ t234).size + t235.size ≤ 9223372036854775807 then ((haulageref03_one.f (wrap64 (128 + (Int.tmod a0 64)))).bind fun t236 => (if ((t233 ++ t234) ++ t235).size + t236.size ≤ 9223372036854775807 then (some (((t233 ++ t234) ++ t235) ++ t236)) else (none))) else (none))) else (none))))))) = some r := h
 clear h
 by_cases c2 : a0 < 128
 ·
  rw [if_pos c2] at H
  have c2b0 : decide (a0 < 128) = true := decide_eq_true c2
  clear c2
  obtain ⟨t227, A3, H⟩ := yb H
  obtain rfl := Option.some.inj H
  go_enter Tryd.func120, Tryd.ntmps120
  go_wp2_with (first | ((with_reducible refine gate_callee (f := 124) rfl ?_); refine yC 7 Tryd.func124 #[.int .i64 a0] rfl ?_; (with_reducible refine (haulageref03_one.calls a0 t227 _ A3.out).mono ?_); rintro e w4 ⟨rfl, hb⟩; refine ⟨_, rfl, ?_⟩; replace HB := aM (bP (yB HB) hb); (try clear hb)))
  go_ret
  exact ⟨yE, yB HB⟩
 ·
  rw [if_neg c2] at H
  have c2b0 : decide (a0 < 128) = false := decide_eq_false c2
  clear c2
  by_cases c5 : a0 < 2048
  ·
   rw [if_pos c5] at H
   have c5b0 : decide (a0 < 2048) = true := decide_eq_true c5
   clear c5
   obtain ⟨t228, A6, H⟩ := yb H
   obtain ⟨t229, A7, H⟩ := yb H
   by_cases c8 : t228.size + t229.size ≤ 9223372036854775807
   ·
    rw [if_pos c8] at H
    have c8b0 := eq_true c8
    have c8b1 : decide (t228.size + t229.size ≤ 9223372036854775807) = true := decide_eq_true c8
    try have c8b2 : (9223372036854775807 < t228.size + t229.size) = False := eq_false (Nat.not_lt.2 c8)
    obtain rfl := Option.some.inj H
    go_enter Tryd.func120, Tryd.ntmps120
    go_wp2_with (first | ((with_reducible refine gate_callee (f := 124) rfl ?_); refine yC 14 Tryd.func124 #[.int .i64 (wrap64 (192 + (wrap64 (Int.tdiv a0 64))))] rfl ?_; (with_reducible refine (haulageref03_one.calls (wrap64 (192 + (wrap64 (Int.tdiv a0 64)))) t228 _ A6.out).mono ?_); rintro e w9 ⟨rfl, hb⟩; refine ⟨_, rfl, ?_⟩; replace HB := aM (bP (yB HB) hb); (try clear hb)) | ((with_reducible refine gate_callee (f := 124) rfl ?_); refine yC 18 Tryd.func124 #[.int .i64 (wrap64 (128 + (Int.tmod a0 64)))] rfl ?_; (with_reducible refine (haulageref03_one.calls (wrap64 (128 + (Int.tmod a0 64))) t229 _ A7.out).mono ?_); rintro e w10 ⟨rfl, hb⟩; refine ⟨_, rfl, ?_⟩; replace HB := aM (bP (yB HB) hb); (try clear hb)))
    go_ret
    exact ⟨yE, yB HB⟩
   ·
    rw [if_neg c8] at H
    exact absurd H (by simp)
  ·
   rw [if_neg c5] at H
   have c5b0 : decide (a0 < 2048) = false := decide_eq_false c5
   clear c5
   by_cases c11 : a0 < 65536
   ·
    rw [if_pos c11] at H
    have c11b0 : decide (a0 < 65536) = true := decide_eq_true c11
    clear c11
    obtain ⟨t230, A12, H⟩ := yb H
    obtain ⟨t231, A13, H⟩ := yb H
    by_cases c14 : t230.size + t231.size ≤ 9223372036854775807
    ·
     rw [if_pos c14] at H
     have c14b0 := eq_true c14
     have c14b1 : decide (t230.size + t231.size ≤ 9223372036854775807) = true := decide_eq_true c14
     try have c14b2 : (9223372036854775807 < t230.size + t231.size) = False := eq_false (Nat.not_lt.2 c14)
     obtain ⟨t232, A15, H⟩ := yb H
     by_cases c16 : (t230 ++ t231).size + t232.size ≤ 9223372036854775807
     ·
      rw [if_pos c16] at H
      have c16b0 := eq_true c16
      have c16b1 : decide ((t230 ++ t231).size + t232.size ≤ 9223372036854775807) = true := decide_eq_true c16
      have c16z : (9223372036854775807 < t230.size + t231.size + t232.size) = False := eq_false (by have h_ := oD c16b1; simp only [ByteArray.size_append] at h_; omega)
      try have c16b2 : (9223372036854775807 < (t230 ++ t231).size + t232.size) = False := eq_false (Nat.not_lt.2 c16)
      obtain rfl := Option.some.inj H
      go_enter Tryd.func120, Tryd.ntmps120
      go_wp2_with (first | ((with_reducible refine gate_callee (f := 124) rfl ?_); refine yC 26 Tryd.func124 #[.int .i64 (wrap64 (224 + (wrap64 (Int.tdiv a0 4096))))] rfl ?_; (with_reducible refine (haulageref03_one.calls (wrap64 (224 + (wrap64 (Int.tdiv a0 4096)))) t230 _ A12.out).mono ?_); rintro e w17 ⟨rfl, hb⟩; refine ⟨_, rfl, ?_⟩; replace HB := aM (bP (yB HB) hb); (try clear hb)) | ((with_reducible refine gate_callee (f := 124) rfl ?_); refine yC 31 Tryd.func124 #[.int .i64 (wrap64 (128 + (Int.tmod (wrap64 (Int.tdiv a0 64)) 64)))] rfl ?_; (with_reducible refine (haulageref03_one.calls (wrap64 (128 + (Int.tmod (wrap64 (Int.tdiv a0 64)) 64))) t231 _ A13.out).mono ?_); rintro e w18 ⟨rfl, hb⟩; refine ⟨_, rfl, ?_⟩; replace HB := aM (bP (yB HB) hb); (try clear hb)) | ((with_reducible refine gate_callee (f := 124) rfl ?_); refine yC 36 Tryd.func124 #[.int .i64 (wrap64 (128 + (Int.tmod a0 64)))] rfl ?_; (with_reducible refine (haulageref03_one.calls (wrap64 (128 + (Int.tmod a0 64))) t232 _ A15.out).mono ?_); rintro e w19 ⟨rfl, hb⟩; refine ⟨_, rfl, ?_⟩; replace HB := aM (bP (yB HB) hb); (try clear hb)))
      go_ret
      exact ⟨yE, yB HB⟩
     ·
      rw [if_neg c16] at H
      exact absurd H (by simp)
    ·
     rw [if_neg c14] at H
     exact absurd H (by simp)
   ·
    rw [if_neg c11] at H
    have c11b0 : decide (a0 < 65536) = false := decide_eq_false c11
    clear c11
    obtain ⟨t233, A20, H⟩ := yb H
    obtain ⟨t234, A21, H⟩ := yb H
    by_cases c22 : t233.size + t234.size ≤ 9223372036854775807
    ·
     rw [if_pos c22] at H
     have c22b0 := eq_true c22
     have c22b1 : decide (t233.size + t234.size ≤ 9223372036854775807) = true := decide_eq_true c22
     try have c22b2 : (9223372036854775807 < t233.size + t234.size) = False := eq_false (Nat.not_lt.2 c22)
     obtain ⟨t235, A23, H⟩ := yb H
     by_cases c24 : (t233 ++ t234).size + t235.size ≤ 9223372036854775807
     ·
      rw [if_pos c24] at H
      have c24b0 := eq_true c24
      have c24b1 : decide ((t233 ++ t234).size + t235.size ≤ 9223372036854775807) = true := decide_eq_true c24
      have c24z : (9223372036854775807 < t233.size + t234.size + t235.size) = False := eq_false (by have h_ := oD c24b1; simp only [ByteArray.size_append] at h_; omega)
      try have c24b2 : (9223372036854775807 < (t233 ++ t234).size + t235.size) = False := eq_false (Nat.not_lt.2 c24)
      obtain ⟨t236, A25, H⟩ := yb H
      by_cases c26 : ((t233 ++ t234) ++ t235).size + t236.size ≤ 9223372036854775807
      ·
       rw [if_pos c26] at H
       have c26b0 := eq_true c26
       have c26b1 : decide (((t233 ++ t234) ++ t235).size + t236.size ≤ 9223372036854775807) = true := decide_eq_true c26
       have c26z : (9223372036854775807 < t233.size + t234.size + t235.size + t236.size) = False := eq_false (by have h_ := oD c26b1; simp only [ByteArray.size_append] at h_; omega)
       try have c26b2 : (9223372036854775807 < ((t233 ++ t234) ++ t235).size + t236.size) = False := eq_false (Nat.not_lt.2 c26)
       obtain rfl := Option.some.inj H
       go_enter Tryd.func120, Tryd.ntmps120
       go_wp2_with (first | ((with_reducible refine gate_callee (f := 124) rfl ?_); refine yC 41 Tryd.func124 #[.int .i64 (wrap64 (240 + (wrap64 (Int.tdiv a0 262144))))] rfl ?_; (with_reducible refine (haulageref03_one.calls (wrap64 (240 + (wrap64 (Int.tdiv a0 262144)))) t233 _ A20.out).mono ?_); rintro e w27 ⟨rfl, hb⟩; refine ⟨_, rfl, ?_⟩; replace HB := aM (bP (yB HB) hb); (try clear hb)) | ((with_reducible refine gate_callee (f := 124) rfl ?_); refine yC 46 Tryd.func124 #[.int .i64 (wrap64 (128 + (Int.tmod (wrap64 (Int.tdiv a0 4096)) 64)))] rfl ?_; (with_reducible refine (haulageref03_one.calls (wrap64 (128 + (Int.tmod (wrap64 (Int.tdiv a0 4096)) 64))) t234 _ A21.out).mono ?_); rintro e w28 ⟨rfl, hb⟩; refine ⟨_, rfl, ?_⟩; replace HB := aM (bP (yB HB) hb); (try clear hb)) | ((with_reducible refine gate_callee (f := 124) rfl ?_); refine yC 52 Tryd.func124 #[.int .i64 (wrap64 (128 + (Int.tmod (wrap64 (Int.tdiv a0 64)) 64)))] rfl ?_; (with_reducible refine (haulageref03_one.calls (wrap64 (128 + (Int.tmod (wrap64 (Int.tdiv a0 64)) 64))) t235 _ A23.out).mono ?_); rintro e w29 ⟨rfl, hb⟩; refine ⟨_, rfl, ?_⟩; replace HB := aM (bP (yB HB) hb); (try clear hb)) | ((with_reducible refine gate_callee (f := 124) rfl ?_); refine yC 57 Tryd.func124 #[.int .i64 (wrap64 (128 + (Int.tmod a0 64)))] rfl ?_; (with_reducible refine (haulageref03_one.calls (wrap64 (128 + (Int.tmod a0 64))) t236 _ A25.out).mono ?_); rintro e w30 ⟨rfl, hb⟩; refine ⟨_, rfl, ?_⟩; replace HB := aM (bP (yB HB) hb); (try clear hb)))
       go_ret
       exact ⟨yE, yB HB⟩
      ·
       rw [if_neg c26] at H
       exact absurd H (by simp)
     ·
      rw [if_neg c24] at H
      exact absurd H (by simp)
    ·
     rw [if_neg c22] at H
     exact absurd H (by simp)
end Go.Proofs.YtdeophpjammbpaaDoor.HRowcodeKeys

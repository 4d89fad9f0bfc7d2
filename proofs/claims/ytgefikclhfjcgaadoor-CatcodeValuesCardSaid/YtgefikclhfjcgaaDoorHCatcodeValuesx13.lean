/- For Go functions that CatcodeValues reaches: Lean functions, and walks that show that each call comes to what its Lean function tells; no condition but those that each theorem states. (Made by a program of this session over the kit's print.py.) -/
import Derived.Test.YtgefikclhfjcgaaDoorHCatcodeValuesx0
import Derived.Test.YtgefikclhfjcgaaDoorHCatcodeValuesx12
namespace Go.Proofs.YtgefikclhfjcgaaDoor.HCatcodeValues
open Go.RowKit Go.Proofs.YtgefikclhfjcgaaDoorW.PrintWords Go.Proofs.YtgefikclhfjcgaaDoorW.PrintLast Go.Proofs.YtgefikclhfjcgaaDoorW.PrintMore
attribute [local go_sem] max2_int min2_int max_two min_two max_three min_three max_four min_four   -- for this text's walks alone
set_option linter.unusedVariables false
set_option linter.unusedSimpArgs false
attribute [local go_sem] hp_s8 hp_s16 hp_s32 hp_s64 hp_m8 hp_m16 hp_m32 hp_m64
/-! ### haulageref03_Read: function 126 -/
mutual
def haulageref03_Read.l0 : Nat → ByteArray → Int → Option (Int × Int × Bool)
 | 0, _, _ => none
 | k + 1, x0, x5 => if x5 ≤ 4 then (haulageref03_Read.j1 k x0 x5 (decide (x5 ≤ (x0.size : Int)))) else (haulageref03_Read.j1 k x0 x5 false)
def haulageref03_Read.j1 : Nat → ByteArray → Int → Bool → Option (Int × Int × Bool)
 | 0, _, _, _ => none
 | k + 1, x0, x5, x15 => if x15 = true then (if 0 < (x0.size : Int) then (if x5 = 2 then (haulageref03_Read.j2 k x0 x5 (wrap64 ((wrap64 (bt x0 0)) - 192))) else (haulageref03_Read.j2 k x0 x5 (wrap64 (bt x0 0)))) else (none)) else (some (0, 0, false))
def haulageref03_Read.j2 : Nat → ByteArray → Int → Int → Option (Int × Int × Bool)
 | 0, _, _, _ => none
 | k + 1, x0, x5, x6 => if x5 = 3 then (haulageref03_Read.j3 k x0 x5 (wrap64 (x6 - 224))) else (haulageref03_Read.j3 k x0 x5 x6)
def haulageref03_Read.j3 : Nat → ByteArray → Int → Int → Option (Int × Int × Bool)
 | 0, _, _, _ => none
 | k + 1, x0, x5, x6 => if x5 = 4 then (haulageref03_Read.j4 k x0 x5 (wrap64 (x6 - 240))) else (haulageref03_Read.j4 k x0 x5 x6)
def haulageref03_Read.j4 : Nat → ByteArray → Int → Int → Option (Int × Int × Bool)
 | 0, _, _, _ => none
 | k + 1, x0, x5, x6 => haulageref03_Read.l1 k x0 x5 x6 1
def haulageref03_Read.l1 : Nat → ByteArray → Int → Int → Int → Option (Int × Int × Bool)
 | 0, _, _, _, _ => none
 | k + 1, x0, x5, x6, x7 => if x7 < x5 then (if 0 ≤ x7 then (if x7 < (x0.size : Int) then (haulageref03_Read.l1 k x0 x5 (wrap64 ((wrap64 ((wrap64 (x6 * 64)) + (wrap64 (bt x0 x7)))) - 128)) (wrap64 (x7 + 1))) else (none)) else (none)) else ((haulageref03_Is.f x6).bind fun t312 => (if t312 = true then ((haulageref03_Put.f x6).bind fun t313 => (if 0 ≤ x5 then (if x5 ≤ (x0.size : Int) then (if t313.toList = (x0.extract 0 (x5 : Int).toNat).toList then (some (x6, x5, true)) else (haulageref03_Read.l0 k x0 (wrap64 (x5 + 1)))) else (none)) else (none))) else (haulageref03_Read.l0 k x0 (wrap64 (x5 + 1)))))
end
def haulageref03_Read.f (k : Nat) (a0 : ByteArray) : Option (Int × Int × Bool) := haulageref03_Read.l0 k a0 1
theorem haulageref03_Read.mono_l : ∀ k, (∀ y0 y1, LeO (haulageref03_Read.l0 k y0 y1) (haulageref03_Read.l0 (k + 1) y0 y1)) ∧ (∀ y0 y1 y2, LeO (haulageref03_Read.j1 k y0 y1 y2) (haulageref03_Read.j1 (k + 1) y0 y1 y2)) ∧ (∀ y0 y1 y2, LeO (haulageref03_Read.j2 k y0 y1 y2) (haulageref03_Read.j2 (k + 1) y0 y1 y2)) ∧ (∀ y0 y1 y2, LeO (haulageref03_Read.j3 k y0 y1 y2) (haulageref03_Read.j3 (k + 1) y0 y1 y2)) ∧ (∀ y0 y1 y2, LeO (haulageref03_Read.j4 k y0 y1 y2) (haulageref03_Read.j4 (k + 1) y0 y1 y2)) ∧ (∀ y0 y1 y2 y3, LeO (haulageref03_Read.l1 k y0 y1 y2 y3) (haulageref03_Read.l1 (k + 1) y0 y1 y2 y3))
 | 0 => by refine ⟨?_, ?_, ?_, ?_, ?_, ?_⟩ <;> intros <;> exact LeO.none _
 | k + 1 => by
  obtain ⟨ih0, ih1, ih2, ih3, ih4, ih5⟩ := haulageref03_Read.mono_l k
  refine ⟨?_, ?_, ?_, ?_, ?_, ?_⟩ <;> intros <;> first | unfold haulageref03_Read.l0 | unfold haulageref03_Read.j1 | unfold haulageref03_Read.j2 | unfold haulageref03_Read.j3 | unfold haulageref03_Read.j4 | unfold haulageref03_Read.l1
  all_goals repeat' first | with_reducible (first | exact ih0 .. | exact ih1 .. | exact ih2 .. | exact ih3 .. | exact ih4 .. | exact ih5 .. | exact LeO.refl .. | exact LeO.none .. | refine LeO.ite ?_ ?_ | refine LeO.bind ?_ (fun _ => ?_)) | exact ih0 .. | exact ih1 .. | exact ih2 .. | exact ih3 .. | exact ih4 .. | exact ih5 .. | exact LeO.none .. | refine LeO.ite ?_ ?_ | refine LeO.bind ?_ (fun _ => ?_)
theorem haulageref03_Read.mono : ∀ a0 k, LeO (haulageref03_Read.f k a0) (haulageref03_Read.f (k + 1) a0) := by
 intro a0 k
 obtain ⟨ih0, ih1, ih2, ih3, ih4, ih5⟩ := haulageref03_Read.mono_l k
 unfold haulageref03_Read.f
 repeat' first | with_reducible (first | exact ih0 .. | exact ih1 .. | exact ih2 .. | exact ih3 .. | exact ih4 .. | exact ih5 .. | exact LeO.refl .. | exact LeO.none .. | refine LeO.ite ?_ ?_ | refine LeO.bind ?_ (fun _ => ?_)) | exact ih0 .. | exact ih1 .. | exact ih2 .. | exact ih3 .. | exact ih4 .. | exact ih5 .. | exact LeO.none .. | refine LeO.ite ?_ ?_ | refine LeO.bind ?_ (fun _ => ?_)
def haulageref03_Read.T15 : Bool × List (List Nat × List Nat) := (true, [([], []), ([0], [0]), ([1, 1], [1]), ([2], [2]), ([3, 2, 2], [2, 3]), ([2], [2]), ([2], [2]), ([5, 6, 2], [2, 5, 6]), ([4, 7, 2], [2, 4, 7]), ([2, 8], [2, 8])])
def haulageref03_Read.B15 : List Nat := [0, 1, 3, 7, 15, 7, 7, 103, 255, 511]
theorem haulageref03_Read.tab15 : rtab .any (opsOf Tryd.f126 15) = haulageref03_Read.T15 := by kernel_rfl
theorem haulageref03_Read.bits15 : waitsOk haulageref03_Read.T15.2 haulageref03_Read.B15 = true := by kernel_rfl
set_option maxHeartbeats 8000000 in
set_option maxRecDepth 100000 in
theorem haulageref03_Read.calls (k : Nat) (a0 : ByteArray) (r1 : Int) (r2 : Int) (r3 : Bool) (w : World) (h : haulageref03_Read.f k a0 = some (r1, r2, r3)) :
  Calls Tryd.prog 126 #[.string a0] w fun e w' => e = .returned (.tuple #[.int .i64 r1, .int .i64 r2, .bool r3]) ∧ Below w.heap.size w w' := by
 have HB := aM (Below.refl w.heap.size w)
 have H : (haulageref03_Read.l0 k a0 1) = some (r1, r2, r3) := h
 clear h
 have H' := aM H
 clear H
 go_enter Tryd.func126, Tryd.ntmps126
 go_wp2
 go_loopg [5] k (fun kq v5 w' => ∃ (x5_1 : Int), v5 = .int .i64 x5_1 ∧ Aside0 (haulageref03_Read.l0 kq a0 x5_1 = some (r1, r2, r3)) ∧ Aside0 (kq ≤ k) ∧ Aside0 (Below w.heap.size w w'))
 case atStart => exact ⟨(1), yS, H', ⟨Nat.le_refl _⟩, ⟨yB HB⟩⟩
 case round =>
  clear H'
  obtain ⟨x5_1, rfl, HA, HK1, HB⟩ := hrel
  cases gk with
  | zero => exact absurd HA.out (by simp [haulageref03_Read.l0])
  | succ k1 =>
   have H := HA.out
   clear HA
   simp only [haulageref03_Read.l0] at H
   have HC2 := aM H
   clear H
   go_upto_region 2 with (fail)
   go_cut [15] (fun v15 wc => ∃ (kq : Nat) (x15_1 : Bool), v15 = .bool x15_1 ∧ Aside0 (haulageref03_Read.j1 kq a0 x5_1 x15_1 = some (r1, r2, r3)) ∧ Aside0 (kq ≤ k1) ∧ Aside0 (Below w.heap.size w wc))
   case first =>
    have H := HC2.out
    clear HC2
    by_cases c3 : x5_1 ≤ 4
    ·
     rw [if_pos c3] at H
     have c3b0 : decide (x5_1 ≤ 4) = true := decide_eq_true c3
     clear c3
     (first | rw [c3b0] | (simp only [i64_w, i32_w]; rw [c3b0]) | skip)
     have H' := aM H
     clear H
     go_wp2
     go_meet
     case rel => exact ⟨_, (decide (x5_1 ≤ (a0.size : Int))), yS, H', ⟨by have := HK1.out; first | omega | exact Nat.le_refl _⟩, ⟨yB HB⟩⟩
    ·
     rw [if_neg c3] at H
     have c3b0 : decide (x5_1 ≤ 4) = false := decide_eq_false c3
     clear c3
     (first | rw [c3b0] | (simp only [i64_w, i32_w]; rw [c3b0]) | skip)
     have H' := aM H
     clear H
     go_wp2
     go_meet
     case rel => exact ⟨_, (false), yS, H', ⟨by have := HK1.out; first | omega | exact Nat.le_refl _⟩, ⟨yB HB⟩⟩
   case rest =>
    clear HC2
    obtain ⟨kq, x15_1, rfl, HA, HJ1, HB⟩ := hcut
    cases kq with
    | zero => exact absurd HA.out (by simp [haulageref03_Read.j1])
    | succ kj1 =>
     have H := HA.out
     clear HA
     simp only [haulageref03_Read.j1] at H
     by_cases c4 : x15_1 = true
     ·
      subst c4
      replace H := yt H
      by_cases c5 : 0 < (a0.size : Int)
      ·
       rw [if_pos c5] at H
       have c5b0 : decide (0 < (a0.size : Int)) = true := decide_eq_true c5
       have c5b1 : decide (0 < a0.size) = true := decide_eq_true (by omega)
       clear c5
       have HC7 := aM H
       clear H
       have p6 : 0 ≤ (0 : Int) := (by omega)
       have q6 : 0 < a0.size := (by have : (0 : Int) < (a0.size : Int) := oD yA; omega)
       have hx6 : ∀ h : 0 < a0.size, ((a0[0]'h).toNat : Int) = bt a0 0 := bt_at a0 0
       clear p6
       have qi6 : (0 < (a0.size : Int)) = True := eq_true (oD yA)
       replace q6 := eq_true q6
       go_upto_if 22 with (fail)
       go_cut [6] (fun v6 wc => ∃ (kq : Nat) (x6_6 : Int), v6 = .int .i64 x6_6 ∧ Aside0 (haulageref03_Read.j2 kq a0 x5_1 x6_6 = some (r1, r2, r3)) ∧ Aside0 (kq ≤ kj1) ∧ Aside0 (Below w.heap.size w wc))
       case first =>
        have H := HC7.out
        clear HC7
        by_cases c8 : x5_1 = 2
        ·
         rw [if_pos c8] at H
         have c8b0 : (x5_1 == 2) = true := beq_iff_eq.mpr c8
         have c8b1 : (x5_1 != 2) = false := bne_eq_false_iff_eq.mpr c8
         clear c8
         (first | rw [c8b0] | (simp only [i64_w, i32_w]; rw [c8b0]) | skip)
         have H' := aM H
         clear H
         go_wp2
         go_meet
         case rel => exact ⟨_, (wrap64 ((wrap64 (bt a0 0)) - 192)), yS, H', ⟨by have := HK1.out; have := HJ1.out; first | omega | exact Nat.le_refl _⟩, ⟨yB HB⟩⟩
        ·
         rw [if_neg c8] at H
         have c8b0 : (x5_1 == 2) = false := beq_eq_false_iff_ne.mpr c8
         have c8b1 : (x5_1 != 2) = true := bne_iff_ne.mpr c8
         (first | rw [c8b0] | (simp only [i64_w, i32_w]; rw [c8b0]) | skip)
         have H' := aM H
         clear H
         go_wp2
         go_meet
         case rel => exact ⟨_, (wrap64 (bt a0 0)), yS, H', ⟨by have := HK1.out; have := HJ1.out; first | omega | exact Nat.le_refl _⟩, ⟨yB HB⟩⟩
       case rest =>
        clear HC7
        try clear c4
        try clear c5
        try clear c5b0
        try clear c5b1
        try clear p6
        try clear q6
        try clear hx6
        try clear qi6
        try clear p6
        try clear q6
        obtain ⟨kq, x6_6, rfl, HA, HJ6, HB⟩ := hcut
        cases kq with
        | zero => exact absurd HA.out (by simp [haulageref03_Read.j2])
        | succ kj6 =>
         have H := HA.out
         clear HA
         simp only [haulageref03_Read.j2] at H
         have HC9 := aM H
         clear H
         go_upto_if 26 with (fail)
         go_cut [6] (fun v6 wc => ∃ (kq : Nat) (x6_8 : Int), v6 = .int .i64 x6_8 ∧ Aside0 (haulageref03_Read.j3 kq a0 x5_1 x6_8 = some (r1, r2, r3)) ∧ Aside0 (kq ≤ kj6) ∧ Aside0 (Below w.heap.size w wc))
         case first =>
          have H := HC9.out
          clear HC9
          by_cases c10 : x5_1 = 3
          ·
           rw [if_pos c10] at H
           have c10b0 : (x5_1 == 3) = true := beq_iff_eq.mpr c10
           have c10b1 : (x5_1 != 3) = false := bne_eq_false_iff_eq.mpr c10
           clear c10
           (first | rw [c10b0] | (simp only [i64_w, i32_w]; rw [c10b0]) | skip)
           have H' := aM H
           clear H
           go_wp2
           go_meet
           case rel => exact ⟨_, (wrap64 (x6_6 - 224)), yS, H', ⟨by have := HK1.out; have := HJ1.out; have := HJ6.out; first | omega | exact Nat.le_refl _⟩, ⟨yB HB⟩⟩
          ·
           rw [if_neg c10] at H
           have c10b0 : (x5_1 == 3) = false := beq_eq_false_iff_ne.mpr c10
           have c10b1 : (x5_1 != 3) = true := bne_iff_ne.mpr c10
           (first | rw [c10b0] | (simp only [i64_w, i32_w]; rw [c10b0]) | skip)
           have H' := aM H
           clear H
           go_wp2
           go_meet
           case rel => exact ⟨_, (x6_6), yS, H', ⟨by have := HK1.out; have := HJ1.out; have := HJ6.out; first | omega | exact Nat.le_refl _⟩, ⟨yB HB⟩⟩
         case rest =>
          clear HC9
          try clear c4
          try clear c5
          try clear c5b0
          try clear c5b1
          try clear p6
          try clear q6
          try clear hx6
          try clear qi6
          try clear p6
          try clear q6
          obtain ⟨kq, x6_8, rfl, HA, HJ8, HB⟩ := hcut
          cases kq with
          | zero => exact absurd HA.out (by simp [haulageref03_Read.j3])
          | succ kj8 =>
           have H := HA.out
           clear HA
           simp only [haulageref03_Read.j3] at H
           have HC11 := aM H
           clear H
           go_upto_if 30 with (fail)
           go_cut [6] (fun v6 wc => ∃ (kq : Nat) (x6_10 : Int), v6 = .int .i64 x6_10 ∧ Aside0 (haulageref03_Read.j4 kq a0 x5_1 x6_10 = some (r1, r2, r3)) ∧ Aside0 (kq ≤ kj8) ∧ Aside0 (Below w.heap.size w wc))
           case first =>
            have H := HC11.out
            clear HC11
            by_cases c12 : x5_1 = 4
            ·
             rw [if_pos c12] at H
             have c12b0 : (x5_1 == 4) = true := beq_iff_eq.mpr c12
             have c12b1 : (x5_1 != 4) = false := bne_eq_false_iff_eq.mpr c12
             clear c12
             (first | rw [c12b0] | (simp only [i64_w, i32_w]; rw [c12b0]) | skip)
             have H' := aM H
             clear H
             go_wp2
             go_meet
             case rel => exact ⟨_, (wrap64 (x6_8 - 240)), yS, H', ⟨by have := HK1.out; have := HJ1.out; have := HJ6.out; have := HJ8.out; first | omega | exact Nat.le_refl _⟩, ⟨yB HB⟩⟩
            ·
             rw [if_neg c12] at H
             have c12b0 : (x5_1 == 4) = false := beq_eq_false_iff_ne.mpr c12
             have c12b1 : (x5_1 != 4) = true := bne_iff_ne.mpr c12
             (first | rw [c12b0] | (simp only [i64_w, i32_w]; rw [c12b0]) | skip)
             have H' := aM H
             clear H
             go_wp2
             go_meet
             case rel => exact ⟨_, (x6_8), yS, H', ⟨by have := HK1.out; have := HJ1.out; have := HJ6.out; have := HJ8.out; first | omega | exact Nat.le_refl _⟩, ⟨yB HB⟩⟩
           case rest =>
            clear HC11
            try clear c4
            try clear c5
            try clear c5b0
            try clear c5b1
            try clear p6
            try clear q6
            try clear hx6
            try clear qi6
            try clear p6
            try clear q6
            obtain ⟨kq, x6_10, rfl, HA, HJ10, HB⟩ := hcut
            cases kq with
            | zero => exact absurd HA.out (by simp [haulageref03_Read.j4])
            | succ kj10 =>
             have H := HA.out
             clear HA
             simp only [haulageref03_Read.j4] at H
             have H' := aM H
             clear H
             go_wp2
             go_loopg [6, 7] kj10 (fun kq v6 v7 w' => ∃ (x6_6 : Int) (x7_6 : Int), v6 = .int .i64 x6_6 ∧ v7 = .int .i64 x7_6 ∧ Aside0 (haulageref03_Read.l1 kq a0 x5_1 x6_6 x7_6 = some (r1, r2, r3)) ∧ Aside0 (kq ≤ kj10) ∧ Aside0 (Below w.heap.size w w'))
             case atStart => exact ⟨(x6_10), (1), yS, yS, H', ⟨Nat.le_refl _⟩, ⟨yB HB⟩⟩
             case round =>
              clear H'
              try clear c4
              try clear c5
              try clear c5b0
              try clear c5b1
              try clear p6
              try clear q6
              try clear hx6
              try clear qi6
              try clear p6
              try clear q6
              obtain ⟨x6_6, x7_6, rfl, rfl, HA, HK6, HB⟩ := hrel
              cases gk with
              | zero => exact absurd HA.out (by simp [haulageref03_Read.l1])
              | succ k6 =>
               have H := HA.out
               clear HA
               simp only [haulageref03_Read.l1] at H
               by_cases c13 : x7_6 < x5_1
               ·
                rw [if_pos c13] at H
                have c13b0 : decide (x7_6 < x5_1) = true := decide_eq_true c13
                clear c13
                by_cases c14 : 0 ≤ x7_6
                ·
                 rw [if_pos c14] at H
                 have c14b0 : decide (0 ≤ x7_6) = true := decide_eq_true c14
                 clear c14
                 by_cases c15 : x7_6 < (a0.size : Int)
                 ·
                  rw [if_pos c15] at H
                  have c15b0 : decide (x7_6 < (a0.size : Int)) = true := decide_eq_true c15
                  clear c15
                  have H' := aM H
                  clear H
                  have p16 : 0 ≤ (x7_6 : Int) := oD yA
                  have q16 : x7_6 < (a0.size : Int) := oD yA
                  have hx16 := bt_at a0 x7_6
                  replace p16 := eq_true p16
                  replace q16 := eq_true q16
                  go_wp2
                  go_roundg k6
                  case measure => have := HK1.out; have := HJ1.out; have := HJ6.out; have := HJ8.out; have := HJ10.out; have := HK6.out; omega
                  case rel => exact ⟨(wrap64 ((wrap64 ((wrap64 (x6_6 * 64)) + (wrap64 (bt a0 x7_6)))) - 128)), (wrap64 (x7_6 + 1)), yS, yS, H', ⟨by have := HK1.out; have := HJ1.out; have := HJ6.out; have := HJ8.out; have := HJ10.out; have := HK6.out; omega⟩, ⟨yB HB⟩⟩
                 ·
                  rw [if_neg c15] at H
                  exact absurd H (by simp)
                ·
                 rw [if_neg c14] at H
                 exact absurd H (by simp)
               ·
                rw [if_neg c13] at H
                have c13b0 : decide (x7_6 < x5_1) = false := decide_eq_false c13
                clear c13
                obtain ⟨t312, A17, H⟩ := yb H
                by_cases c18 : t312 = true
                ·
                 subst c18
                 replace H := yt H
                 obtain ⟨t313, A19, H⟩ := yb H
                 by_cases c20 : 0 ≤ x5_1
                 ·
                  rw [if_pos c20] at H
                  have c20b0 := eq_true c20
                  have c20b1 : decide (0 ≤ x5_1) = true := decide_eq_true c20
                  clear c20
                  by_cases c21 : x5_1 ≤ (a0.size : Int)
                  ·
                   rw [if_pos c21] at H
                   have c21b0 := eq_true c21
                   have c21b1 : decide (x5_1 ≤ (a0.size : Int)) = true := decide_eq_true c21
                   clear c21
                   by_cases c22 : t313.toList = (a0.extract 0 (x5_1 : Int).toNat).toList
                   ·
                    rw [if_pos c22] at H
                    have c22b0 : (t313.toList == (a0.extract 0 (x5_1 : Int).toNat).toList) = true := beq_iff_eq.mpr c22
                    have c22b1 : (t313.toList != (a0.extract 0 (x5_1 : Int).toNat).toList) = false := bne_eq_false_iff_eq.mpr c22
                    clear c22
                    simp only [Option.some.injEq, Prod.mk.injEq] at H
                    obtain ⟨rfl, rfl, rfl⟩ := H
                    try go_wp2
                    have n0_ := aM (b1 HB.out)
                    clear HB
                    have HB := n0_
                    clear n0_
                    refine start_ (n := 10) (S := fun w' => True) (ds := []) (tB 0 10) (by kernel_rfl) rfl rfl trivial (fun hHeld => ?_); refine with_tabW haulageref03_Read.tab15 haulageref03_Read.bits15 (fun HT_ HW_ => ?_)
                    generalize wr.drew = w23 at HB hHeld ⊢
                    refine yP HT_ 0 46 (tB 1 10) rfl rfl ?_
                    refine yI HT_ 1 (tB 3 10) rfl rfl fun K hK => ?_
                    refine yc Tryd.func142 #[.int .i64 x6_6] rfl rfl ?_
                    with_reducible refine (haulageref03_Is.calls x6_6 true _ A17.out).mono ?_
                    rintro e w' ⟨rfl, ⟨nd, rfl⟩⟩
                    refine ⟨_, rfl, ?_⟩
                    refine hK.out _ _ trivial (fun hHeld => ?_)
                    clear hK K
                    refine norm_ (a' := ?_) ?_ ?_
                    rotate_left
                    ·
                     show Act.put _ (some 47) _ = _
                     simp only [Act.put, s1_, s2_, s3_, i64_w, i32_w]
                     rfl
                    refine yP HT_ 2 48 (tB 7 10) rfl rfl ?_
                    refine yP HT_ 3 49 (tB 15 10) rfl rfl ?_
                    refine yP HT_ 5 51 (tB 47 10) rfl rfl ?_
                    refine yP HT_ 6 52 (tB 111 10) rfl rfl ?_
                    refine yP HT_ 7 53 (tB 239 10) rfl rfl ?_
                    refine yI HT_ 4 (tB 255 10) rfl rfl fun K hK => ?_
                    refine yc Tryd.func143 #[.int .i64 x6_6] rfl rfl ?_
                    with_reducible refine (haulageref03_Put.calls x6_6 t313 _ A19.out).mono ?_
                    rintro e w24 ⟨rfl, hb⟩
                    refine ⟨_, rfl, ?_⟩
                    have n0_ := aM (bP (yB HB) hb)
                    clear HB
                    have HB := n0_
                    clear n0_
                    (try clear hb)
                    (try clear hb2)
                    (try clear hk)
                    (try clear hi)
                    refine hK.out _ _ trivial (fun hHeld => ?_)
                    clear hK K
                    refine norm_ (a' := ?_) ?_ ?_
                    rotate_left
                    ·
                     show Act.put _ (some 50) _ = _
                     simp only [Act.put, s1_, s2_, s3_, i64_w, i32_w]
                     rfl
                    refine yP HT_ 8 54 (tB 511 10) rfl rfl ?_
                    refine yP HT_ 9 55 (tB 1023 10) rfl rfl ?_
                    refine done_ (done_of HT_.out (by kernel_rfl)) ?_
                    try go_wp2
                    go_ret3
                    exact ⟨yE, yB HB⟩
                   ·
                    rw [if_neg c22] at H
                    have c22b0 : (t313.toList == (a0.extract 0 (x5_1 : Int).toNat).toList) = false := beq_eq_false_iff_ne.mpr c22
                    have c22b1 : (t313.toList != (a0.extract 0 (x5_1 : Int).toNat).toList) = true := bne_iff_ne.mpr c22
                    have H' := aM H
                    clear H
                    try go_wp2
                    have n0_ := aM (b1 HB.out)
                    clear HB
                    have HB := n0_
                    clear n0_
                    refine start_ (n := 10) (S := fun w' => True) (ds := []) (tB 0 10) (by kernel_rfl) rfl rfl trivial (fun hHeld => ?_); refine with_tabW haulageref03_Read.tab15 haulageref03_Read.bits15 (fun HT_ HW_ => ?_)
                    generalize wr.drew = w25 at HB hHeld ⊢
                    refine yP HT_ 0 46 (tB 1 10) rfl rfl ?_
                    refine yI HT_ 1 (tB 3 10) rfl rfl fun K hK => ?_
                    refine yc Tryd.func142 #[.int .i64 x6_6] rfl rfl ?_
                    with_reducible refine (haulageref03_Is.calls x6_6 true _ A17.out).mono ?_
                    rintro e w' ⟨rfl, ⟨nd, rfl⟩⟩
                    refine ⟨_, rfl, ?_⟩
                    refine hK.out _ _ trivial (fun hHeld => ?_)
                    clear hK K
                    refine norm_ (a' := ?_) ?_ ?_
                    rotate_left
                    ·
                     show Act.put _ (some 47) _ = _
                     simp only [Act.put, s1_, s2_, s3_, i64_w, i32_w]
                     rfl
                    refine yP HT_ 2 48 (tB 7 10) rfl rfl ?_
                    refine yP HT_ 3 49 (tB 15 10) rfl rfl ?_
                    refine yP HT_ 5 51 (tB 47 10) rfl rfl ?_
                    refine yP HT_ 6 52 (tB 111 10) rfl rfl ?_
                    refine yP HT_ 7 53 (tB 239 10) rfl rfl ?_
                    refine yI HT_ 4 (tB 255 10) rfl rfl fun K hK => ?_
                    refine yc Tryd.func143 #[.int .i64 x6_6] rfl rfl ?_
                    with_reducible refine (haulageref03_Put.calls x6_6 t313 _ A19.out).mono ?_
                    rintro e w26 ⟨rfl, hb⟩
                    refine ⟨_, rfl, ?_⟩
                    have n0_ := aM (bP (yB HB) hb)
                    clear HB
                    have HB := n0_
                    clear n0_
                    (try clear hb)
                    (try clear hb2)
                    (try clear hk)
                    (try clear hi)
                    refine hK.out _ _ trivial (fun hHeld => ?_)
                    clear hK K
                    refine norm_ (a' := ?_) ?_ ?_
                    rotate_left
                    ·
                     show Act.put _ (some 50) _ = _
                     simp only [Act.put, s1_, s2_, s3_, i64_w, i32_w]
                     rfl
                    refine yP HT_ 8 54 (tB 511 10) rfl rfl ?_
                    refine yP HT_ 9 55 (tB 1023 10) rfl rfl ?_
                    refine done_ (done_of HT_.out (by kernel_rfl)) ?_
                    try go_wp2
                    go_roundg k6
                    case measure => have := HK1.out; have := HJ1.out; have := HJ6.out; have := HJ8.out; have := HJ10.out; have := HK6.out; omega
                    case rel => exact ⟨(wrap64 (x5_1 + 1)), yS, H', ⟨by have := HK1.out; have := HJ1.out; have := HJ6.out; have := HJ8.out; have := HJ10.out; have := HK6.out; omega⟩, ⟨yB HB⟩⟩
                  ·
                   rw [if_neg c21] at H
                   exact absurd H (by simp)
                 ·
                  rw [if_neg c20] at H
                  exact absurd H (by simp)
                ·
                 replace c18 := Bool.eq_false_iff.mpr c18
                 subst c18
                 replace H := yf H
                 have H' := aM H
                 clear H
                 try go_wp2
                 have n0_ := aM (b1 HB.out)
                 clear HB
                 have HB := n0_
                 clear n0_
                 refine start_ (n := 10) (S := fun w' => True) (ds := []) (tB 0 10) (by kernel_rfl) rfl rfl trivial (fun hHeld => ?_); refine with_tabW haulageref03_Read.tab15 haulageref03_Read.bits15 (fun HT_ HW_ => ?_)
                 generalize wr.drew = w27 at HB hHeld ⊢
                 refine yP HT_ 0 46 (tB 1 10) rfl rfl ?_
                 refine yI HT_ 1 (tB 3 10) rfl rfl fun K hK => ?_
                 refine yc Tryd.func142 #[.int .i64 x6_6] rfl rfl ?_
                 with_reducible refine (haulageref03_Is.calls x6_6 false _ A17.out).mono ?_
                 rintro e w' ⟨rfl, ⟨nd, rfl⟩⟩
                 refine ⟨_, rfl, ?_⟩
                 refine hK.out _ _ trivial (fun hHeld => ?_)
                 clear hK K
                 refine norm_ (a' := ?_) ?_ ?_
                 rotate_left
                 ·
                  show Act.put _ (some 47) _ = _
                  simp only [Act.put, s1_, s2_, s3_, i64_w, i32_w]
                  rfl
                 refine yP HT_ 2 48 (tB 7 10) rfl rfl ?_
                 refine yU HT_ 3 49 (tB 15 10) rfl rfl ?_
                 refine yU HT_ 4 50 (tB 31 10) rfl rfl ?_
                 refine yU HT_ 5 51 (tB 63 10) rfl rfl ?_
                 refine yU HT_ 6 52 (tB 127 10) rfl rfl ?_
                 refine yU HT_ 7 53 (tB 255 10) rfl rfl ?_
                 refine yU HT_ 8 54 (tB 511 10) rfl rfl ?_
                 refine yP HT_ 9 55 (tB 1023 10) rfl rfl ?_
                 refine done_ (done_of HT_.out (by kernel_rfl)) ?_
                 try go_wp2
                 go_roundg k6
                 case measure => have := HK1.out; have := HJ1.out; have := HJ6.out; have := HJ8.out; have := HJ10.out; have := HK6.out; omega
                 case rel => exact ⟨(wrap64 (x5_1 + 1)), yS, H', ⟨by have := HK1.out; have := HJ1.out; have := HJ6.out; have := HJ8.out; have := HJ10.out; have := HK6.out; omega⟩, ⟨yB HB⟩⟩
      ·
       rw [if_neg c5] at H
       exact absurd H (by simp)
     ·
      replace c4 := Bool.eq_false_iff.mpr c4
      subst c4
      replace H := yf H
      simp only [Option.some.injEq, Prod.mk.injEq] at H
      obtain ⟨rfl, rfl, rfl⟩ := H
      go_wp2
      go_ret3
      exact ⟨yE, yB HB⟩
end Go.Proofs.YtgefikclhfjcgaaDoor.HCatcodeValues

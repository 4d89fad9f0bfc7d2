/- For Go functions that RowcodeKeys reaches: Lean functions, and walks that show that each call comes to what its Lean function tells; no condition but those that each theorem states. (Made by a program of this session over the kit's print.py.) -/
import Derived.Test.YtdeophpjammbpaaDoorHRowcodeKeysx0
import Derived.Test.YtdeophpjammbpaaDoorHRowcodeKeysx2
import Derived.Test.YtdeophpjammbpaaDoorHRowcodeKeysx3
namespace Go.Proofs.YtdeophpjammbpaaDoor.HRowcodeKeys
open Go.RowKit Go.Proofs.YtdeophpjammbpaaDoorW.PrintWords Go.Proofs.YtdeophpjammbpaaDoorW.PrintLast Go.Proofs.YtdeophpjammbpaaDoorW.PrintMore
attribute [local go_sem] max2_int min2_int max_two min_two max_three min_three max_four min_four   -- for this text's walks alone
set_option linter.unusedVariables false
set_option linter.unusedSimpArgs false
attribute [local go_sem] hp_s8 hp_s16 hp_s32 hp_s64 hp_m8 hp_m16 hp_m32 hp_m64
/-! ### value_Right: function 97 -/
mutual
def value_Right.j0 : Nat → Bool → Bool → Int → Int → ByteArray → Option (Bool)
 | 0, _, _, _, _, _ => none
 | k + 1, x3, x4, x119000, x119001, x119002 => if x119001 = 0 then (if x119002.toList = ([] : List UInt8) then (value_Right.j1 k (decide ((x119002.size : Int) > 120))) else (if x4 = true then (value_Right.j1 k (decide ((x119002.size : Int) > 120))) else (value_Right.j1 k true))) else (if x3 = true then (if x119002.toList = ([] : List UInt8) then (value_Right.j1 k (decide ((x119002.size : Int) > 120))) else (if x4 = true then (value_Right.j1 k (decide ((x119002.size : Int) > 120))) else (value_Right.j1 k true))) else (value_Right.j1 k true))
def value_Right.j1 : Nat → Bool → Option (Bool)
 | 0, _ => none
 | k + 1, x44 => if x44 = true then (some false) else (some true)
end
def value_Right.f (k : Nat) (a0_0 : Int) (a0_1 : Int) (a0_2 : ByteArray) : Option (Bool) := if a0_0 = 0 then (value_Right.j0 k false false a0_0 a0_1 a0_2) else (if a0_0 = 1 then ((word_Fits.f a0_1 32).bind fun t119 => (value_Right.j0 k t119 false a0_0 a0_1 a0_2)) else (if a0_0 = 2 then (value_Right.j0 k true false a0_0 a0_1 a0_2) else (if a0_0 = 3 then ((utf_Right.f k a0_2).bind fun t120 => (value_Right.j0 k false t120 a0_0 a0_1 a0_2)) else (if a0_0 = 4 then (value_Right.j0 k false true a0_0 a0_1 a0_2) else (some false)))))
theorem value_Right.mono_l : ∀ k, (∀ y0 y1 y2 y3 y4, LeO (value_Right.j0 k y0 y1 y2 y3 y4) (value_Right.j0 (k + 1) y0 y1 y2 y3 y4)) ∧ (∀ y0, LeO (value_Right.j1 k y0) (value_Right.j1 (k + 1) y0))
 | 0 => by refine ⟨?_, ?_⟩ <;> intros <;> exact LeO.none _
 | k + 1 => by
  obtain ⟨ih0, ih1⟩ := value_Right.mono_l k
  refine ⟨?_, ?_⟩ <;> intros <;> first | unfold value_Right.j0 | unfold value_Right.j1
  all_goals repeat' first | with_reducible (first | exact ih0 .. | exact ih1 .. | exact utf_Right.mono .. | exact LeO.refl .. | exact LeO.none .. | refine LeO.ite ?_ ?_ | refine LeO.bind ?_ (fun _ => ?_)) | exact ih0 .. | exact ih1 .. | exact utf_Right.mono .. | exact LeO.none .. | refine LeO.ite ?_ ?_ | refine LeO.bind ?_ (fun _ => ?_)
theorem value_Right.mono : ∀ a0 a1 a2 k, LeO (value_Right.f k a0 a1 a2) (value_Right.f (k + 1) a0 a1 a2) := by
 intro a0 a1 a2 k
 obtain ⟨ih0, ih1⟩ := value_Right.mono_l k
 unfold value_Right.f
 repeat' first | with_reducible (first | exact ih0 .. | exact ih1 .. | exact utf_Right.mono .. | exact LeO.refl .. | exact LeO.none .. | refine LeO.ite ?_ ?_ | refine LeO.bind ?_ (fun _ => ?_)) | exact ih0 .. | exact ih1 .. | exact utf_Right.mono .. | exact LeO.none .. | refine LeO.ite ?_ ?_ | refine LeO.bind ?_ (fun _ => ?_)
set_option maxHeartbeats 8000000 in
set_option maxRecDepth 100000 in
theorem value_Right.calls (k : Nat) (a0_0 : Int) (a0_1 : Int) (a0_2 : ByteArray) (r : Bool) (w : World) (hG : Glob w) (h : value_Right.f k a0_0 a0_1 a0_2 = some r) :
  Calls Tryd.prog 97 #[.agg #[.int .i64 a0_0, .int .i64 a0_1, .string a0_2]] w fun e w' => e = .returned (.bool r) ∧ Below w.heap.size w w' := by
 have hu52 := Tryd.underlying52
 have HG := aM hG
 clear hG
 have HB := aM (Below.refl w.heap.size w)
 have H : (if a0_0 = 0 then (value_Right.j0 k false false a0_0 a0_1 a0_2) else (if a0_0 = 1 then ((word_Fits.f a0_1 32).bind fun t119 => (value_Right.j0 k t119 false a0_0 a0_1 a0_2)) else (if a0_0 = 2 then (value_Right.j0 k true false a0_0 a0_1 a0_2) else (if a0_0 = 3 then ((utf_Right.f k a0_2).bind fun t120 => (value_Right.j0 k false t120 a0_0 a0_1 a0_2)) else (if a0_0 = 4 then (value_Right.j0 k false true a0_0 a0_1 a0_2) else (some false)))))) = some r := h
 clear h
 have HC2 := aM H
 clear H
 go_enter Tryd.func97, Tryd.ntmps97
 go_upto_block 0 with (first | ((with_reducible refine gate_dst (N := 1) rfl ?_); (try (refine gate_guard (by rfl) ?_; dsimp only)); refine yX (N := 1) (cs := #[.int .i64 a0_0, .int .i64 a0_1, .string a0_2]) (t := 52) ?_; intro gb118 hg w3 hbox hb; have BK118 := aM (hbox); have GW118 := yZ hg (yB HB); have GE118 := yZ hg (yB HB); replace HB := aM (bP (yB HB) hb); clear hb hbox hg; obtain ⟨hcz4_0, hcz4_1, hcz4_2, hfz4_0, hfz4_1, hfz4_2⟩ := cells3 BK118.out))
 (try simp only [Act.put, s1_, s2_, s3_])
 go_cut [3, 4] (fun v3 v4 wc => ∃ (kq : Nat) (x3_1 : Bool) (x4_1 : Bool), v3 = .bool x3_1 ∧ v4 = .bool x4_1 ∧ Aside0 (value_Right.j0 kq x3_1 x4_1 a0_0 a0_1 a0_2 = some r) ∧ Aside0 (kq ≤ k) ∧ Aside0 (wc.heap[gb118]? = some (.cells #[.int .i64 a0_0, .int .i64 a0_1, .string a0_2] 52 (0, 0))) ∧ Aside0 (Below w.heap.size w wc))
 case first =>
  have H := HC2.out
  clear HC2
  by_cases c5 : a0_0 = 0
  ·
   rw [if_pos c5] at H
   have c5b0 : (a0_0 == 0) = true := beq_iff_eq.mpr c5
   have c5b1 : (a0_0 != 0) = false := bne_eq_false_iff_eq.mpr c5
   clear c5
   (first | rw [c5b0] | (simp only [i64_w, i32_w]; rw [c5b0]) | skip)
   have H' := aM H
   clear H
   go_wp2
   go_meet
   case rel => exact ⟨_, (false), (false), yS, yS, H', ⟨yO⟩, ⟨yK BK118⟩, ⟨yG1 HB GE118.out⟩⟩
  ·
   rw [if_neg c5] at H
   have c5b0 : (a0_0 == 0) = false := beq_eq_false_iff_ne.mpr c5
   have c5b1 : (a0_0 != 0) = true := bne_iff_ne.mpr c5
   (first | rw [c5b0] | (simp only [i64_w, i32_w]; rw [c5b0]) | skip)
   by_cases c6 : a0_0 = 1
   ·
    rw [if_pos c6] at H
    have c6b0 : (a0_0 == 1) = true := beq_iff_eq.mpr c6
    have c6b1 : (a0_0 != 1) = false := bne_eq_false_iff_eq.mpr c6
    clear c6
    obtain ⟨t119, A7, H⟩ := yb H
    have H' := aM H
    clear H
    obtain ⟨hcz8_0, hcz8_1, hcz8_2, hfz8_0, hfz8_1, hfz8_2⟩ := cells3 BK118.out
    go_wp2_with (first | ((with_reducible refine gate_callee (f := 109) rfl ?_); refine yC 13 Tryd.func109 #[.int .i64 a0_1, .int .i64 32] rfl ?_; (with_reducible refine (word_Fits.calls a0_1 32 t119 _ A7.out).mono ?_); rintro e w' ⟨rfl, ⟨nd, rfl⟩⟩; refine ⟨_, rfl, ?_⟩))
    go_meet
    case rel => exact ⟨_, (t119), (false), yS, yS, H', ⟨yO⟩, ⟨yK BK118⟩, ⟨yG1 HB GE118.out⟩⟩
   ·
    rw [if_neg c6] at H
    have c6b0 : (a0_0 == 1) = false := beq_eq_false_iff_ne.mpr c6
    have c6b1 : (a0_0 != 1) = true := bne_iff_ne.mpr c6
    by_cases c9 : a0_0 = 2
    ·
     rw [if_pos c9] at H
     have c9b0 : (a0_0 == 2) = true := beq_iff_eq.mpr c9
     have c9b1 : (a0_0 != 2) = false := bne_eq_false_iff_eq.mpr c9
     clear c9
     have H' := aM H
     clear H
     go_wp2
     go_meet
     case rel => exact ⟨_, (true), (false), yS, yS, H', ⟨yO⟩, ⟨yK BK118⟩, ⟨yG1 HB GE118.out⟩⟩
    ·
     rw [if_neg c9] at H
     have c9b0 : (a0_0 == 2) = false := beq_eq_false_iff_ne.mpr c9
     have c9b1 : (a0_0 != 2) = true := bne_iff_ne.mpr c9
     by_cases c10 : a0_0 = 3
     ·
      rw [if_pos c10] at H
      have c10b0 : (a0_0 == 3) = true := beq_iff_eq.mpr c10
      have c10b1 : (a0_0 != 3) = false := bne_eq_false_iff_eq.mpr c10
      clear c10
      obtain ⟨t120, A11, H⟩ := yb H
      have H' := aM H
      clear H
      obtain ⟨hcz12_0, hcz12_1, hcz12_2, hfz12_0, hfz12_1, hfz12_2⟩ := cells3 BK118.out
      go_wp2_with (first | ((with_reducible refine gate_callee (f := 101) rfl ?_); refine yC 20 Tryd.func101 #[.string a0_2] rfl ?_; (with_reducible refine (utf_Right.calls k a0_2 t120 _ ?side1 A11.out).mono ?_); (case side1 => first | (with_reducible exact HG.out) | exact Glob.below HG.out (yG1 HB GE118.out)); rintro e w13 ⟨rfl, hb⟩; refine ⟨_, rfl, ?_⟩; replace BK118 := aM (kB (yK BK118) hb); replace HB := aM (bP (yG1 HB GE118.out) hb); (try clear hb)))
      go_meet
      case rel => exact ⟨_, (false), (t120), yS, yS, H', ⟨yO⟩, ⟨yK BK118⟩, ⟨yG1 HB GE118.out⟩⟩
     ·
      rw [if_neg c10] at H
      have c10b0 : (a0_0 == 3) = false := beq_eq_false_iff_ne.mpr c10
      have c10b1 : (a0_0 != 3) = true := bne_iff_ne.mpr c10
      by_cases c14 : a0_0 = 4
      ·
       rw [if_pos c14] at H
       have c14b0 : (a0_0 == 4) = true := beq_iff_eq.mpr c14
       have c14b1 : (a0_0 != 4) = false := bne_eq_false_iff_eq.mpr c14
       clear c14
       have H' := aM H
       clear H
       go_wp2
       go_meet
       case rel => exact ⟨_, (false), (true), yS, yS, H', ⟨yO⟩, ⟨yK BK118⟩, ⟨yG1 HB GE118.out⟩⟩
      ·
       rw [if_neg c14] at H
       have c14b0 : (a0_0 == 4) = false := beq_eq_false_iff_ne.mpr c14
       have c14b1 : (a0_0 != 4) = true := bne_iff_ne.mpr c14
       obtain rfl := Option.some.inj H
       go_wp2
       go_ret
       exact ⟨yE, yG1 HB GE118.out⟩
 case rest =>
  clear HC2
  try clear hcz4_0 hcz4_1 hcz4_2
  try clear hfz4_0 hfz4_1 hfz4_2
  obtain ⟨kq, x3_1, x4_1, rfl, rfl, HA, HJ1, BK118, HB⟩ := hcut
  cases kq with
  | zero => exact absurd HA.out (by simp [value_Right.j0])
  | succ kj1 =>
   have H := HA.out
   clear HA
   simp only [value_Right.j0] at H
   have HC15 := aM H
   clear H
   go_upto_region 13 with (fail)
   go_cut [44] (fun v44 wc => ∃ (kq : Nat) (x44_14 : Bool), v44 = .bool x44_14 ∧ Aside0 (value_Right.j1 kq x44_14 = some r) ∧ Aside0 (kq ≤ kj1) ∧ Aside0 (wc.heap[gb118]? = some (.cells #[.int .i64 a0_0, .int .i64 a0_1, .string a0_2] 52 (0, 0))) ∧ Aside0 (Below w.heap.size w wc))
   case first =>
    have H := HC15.out
    clear HC15
    by_cases c16 : a0_1 = 0
    ·
     rw [if_pos c16] at H
     have c16b0 : (a0_1 == 0) = true := beq_iff_eq.mpr c16
     have c16b1 : (a0_1 != 0) = false := bne_eq_false_iff_eq.mpr c16
     clear c16
     (first | rw [c16b0] | (simp only [i64_w, i32_w]; rw [c16b0]) | skip)
     by_cases c17 : a0_2.toList = ([] : List UInt8)
     ·
      rw [if_pos c17] at H
      have c17b0 : (a0_2.toList == ([] : List UInt8)) = true := beq_iff_eq.mpr c17
      have c17b1 : (a0_2.toList != ([] : List UInt8)) = false := bne_eq_false_iff_eq.mpr c17
      clear c17
      have H' := aM H
      clear H
      obtain ⟨hcz18_0, hcz18_1, hcz18_2, hfz18_0, hfz18_1, hfz18_2⟩ := cells3 BK118.out
      go_wp2
      go_meet
      case rel => exact ⟨_, (decide ((a0_2.size : Int) > 120)), yS, H', ⟨by have := HJ1.out; first | omega | exact Nat.le_refl _⟩, ⟨yK BK118⟩, ⟨yG1 HB GE118.out⟩⟩
     ·
      rw [if_neg c17] at H
      have c17b0 : (a0_2.toList == ([] : List UInt8)) = false := beq_eq_false_iff_ne.mpr c17
      have c17b1 : (a0_2.toList != ([] : List UInt8)) = true := bne_iff_ne.mpr c17
      by_cases c19 : x4_1 = true
      ·
       subst c19
       replace H := yt H
       have H' := aM H
       clear H
       obtain ⟨hcz20_0, hcz20_1, hcz20_2, hfz20_0, hfz20_1, hfz20_2⟩ := cells3 BK118.out
       go_wp2
       go_meet
       case rel => exact ⟨_, (decide ((a0_2.size : Int) > 120)), yS, H', ⟨by have := HJ1.out; first | omega | exact Nat.le_refl _⟩, ⟨yK BK118⟩, ⟨yG1 HB GE118.out⟩⟩
      ·
       replace c19 := Bool.eq_false_iff.mpr c19
       subst c19
       replace H := yf H
       have H' := aM H
       clear H
       obtain ⟨hcz21_0, hcz21_1, hcz21_2, hfz21_0, hfz21_1, hfz21_2⟩ := cells3 BK118.out
       go_wp2
       go_meet
       case rel => exact ⟨_, (true), yS, H', ⟨by have := HJ1.out; first | omega | exact Nat.le_refl _⟩, ⟨yK BK118⟩, ⟨yG1 HB GE118.out⟩⟩
    ·
     rw [if_neg c16] at H
     have c16b0 : (a0_1 == 0) = false := beq_eq_false_iff_ne.mpr c16
     have c16b1 : (a0_1 != 0) = true := bne_iff_ne.mpr c16
     (first | rw [c16b0] | (simp only [i64_w, i32_w]; rw [c16b0]) | skip)
     by_cases c22 : x3_1 = true
     ·
      subst c22
      replace H := yt H
      by_cases c23 : a0_2.toList = ([] : List UInt8)
      ·
       rw [if_pos c23] at H
       have c23b0 : (a0_2.toList == ([] : List UInt8)) = true := beq_iff_eq.mpr c23
       have c23b1 : (a0_2.toList != ([] : List UInt8)) = false := bne_eq_false_iff_eq.mpr c23
       clear c23
       have H' := aM H
       clear H
       obtain ⟨hcz24_0, hcz24_1, hcz24_2, hfz24_0, hfz24_1, hfz24_2⟩ := cells3 BK118.out
       go_wp2
       go_meet
       case rel => exact ⟨_, (decide ((a0_2.size : Int) > 120)), yS, H', ⟨by have := HJ1.out; first | omega | exact Nat.le_refl _⟩, ⟨yK BK118⟩, ⟨yG1 HB GE118.out⟩⟩
      ·
       rw [if_neg c23] at H
       have c23b0 : (a0_2.toList == ([] : List UInt8)) = false := beq_eq_false_iff_ne.mpr c23
       have c23b1 : (a0_2.toList != ([] : List UInt8)) = true := bne_iff_ne.mpr c23
       by_cases c25 : x4_1 = true
       ·
        subst c25
        replace H := yt H
        have H' := aM H
        clear H
        obtain ⟨hcz26_0, hcz26_1, hcz26_2, hfz26_0, hfz26_1, hfz26_2⟩ := cells3 BK118.out
        go_wp2
        go_meet
        case rel => exact ⟨_, (decide ((a0_2.size : Int) > 120)), yS, H', ⟨by have := HJ1.out; first | omega | exact Nat.le_refl _⟩, ⟨yK BK118⟩, ⟨yG1 HB GE118.out⟩⟩
       ·
        replace c25 := Bool.eq_false_iff.mpr c25
        subst c25
        replace H := yf H
        have H' := aM H
        clear H
        obtain ⟨hcz27_0, hcz27_1, hcz27_2, hfz27_0, hfz27_1, hfz27_2⟩ := cells3 BK118.out
        go_wp2
        go_meet
        case rel => exact ⟨_, (true), yS, H', ⟨by have := HJ1.out; first | omega | exact Nat.le_refl _⟩, ⟨yK BK118⟩, ⟨yG1 HB GE118.out⟩⟩
     ·
      replace c22 := Bool.eq_false_iff.mpr c22
      subst c22
      replace H := yf H
      have H' := aM H
      clear H
      obtain ⟨hcz28_0, hcz28_1, hcz28_2, hfz28_0, hfz28_1, hfz28_2⟩ := cells3 BK118.out
      go_wp2
      go_meet
      case rel => exact ⟨_, (true), yS, H', ⟨by have := HJ1.out; first | omega | exact Nat.le_refl _⟩, ⟨yK BK118⟩, ⟨yG1 HB GE118.out⟩⟩
   case rest =>
    clear HC15
    try clear hcz4_0 hcz4_1 hcz4_2
    try clear hfz4_0 hfz4_1 hfz4_2
    obtain ⟨kq, x44_14, rfl, HA, HJ14, BK118, HB⟩ := hcut
    cases kq with
    | zero => exact absurd HA.out (by simp [value_Right.j1])
    | succ kj14 =>
     have H := HA.out
     clear HA
     simp only [value_Right.j1] at H
     by_cases c29 : x44_14 = true
     ·
      subst c29
      replace H := yt H
      obtain rfl := Option.some.inj H
      go_wp2
      go_ret
      exact ⟨yE, yG1 HB GE118.out⟩
     ·
      replace c29 := Bool.eq_false_iff.mpr c29
      subst c29
      replace H := yf H
      obtain rfl := Option.some.inj H
      go_wp2
      go_ret
      exact ⟨yE, yG1 HB GE118.out⟩
/-! ### typ_long: function 98 -/
def typ_long.f (a0 : Int) : Option (Bool) := if a0 = 3 then (some true) else (some (a0 == 4))
set_option maxHeartbeats 8000000 in
set_option maxRecDepth 100000 in
theorem typ_long.calls (a0 : Int) (r : Bool) (w : World) (h : typ_long.f a0 = some r) :
  Calls Tryd.prog 98 #[.int .i64 a0] w fun e w' => e = .returned (.bool r) ∧ Drawn0 w w' := by
 have H : (if a0 = 3 then (some true) else (some (a0 == 4))) = some r := h
 clear h
 by_cases c2 : a0 = 3
 ·
  rw [if_pos c2] at H
  have c2b0 : (a0 == 3) = true := beq_iff_eq.mpr c2
  have c2b1 : (a0 != 3) = false := bne_eq_false_iff_eq.mpr c2
  clear c2
  obtain rfl := Option.some.inj H
  go_enter Tryd.func98, Tryd.ntmps98
  go_wp2
  go_ret
  exact ⟨yS, yD⟩
 ·
  rw [if_neg c2] at H
  have c2b0 : (a0 == 3) = false := beq_eq_false_iff_ne.mpr c2
  have c2b1 : (a0 != 3) = true := bne_iff_ne.mpr c2
  obtain rfl := Option.some.inj H
  go_enter Tryd.func98, Tryd.ntmps98
  go_wp2
  go_ret
  exact ⟨yS, yD⟩
/-! ### typ_Fits: function 71 -/
def typ_Fits.j0 : Nat → Bool → Int → Int → Int → Int → ByteArray → Option (Bool)
 | 0, _, _, _, _, _, _ => none
 | k + 1, x19, x122000, x122001, x123000, x123001, x123002 => if x19 = true then (some false) else ((typ_long.f x122000).bind fun t125 => (if t125 = true then (some (decide ((x123002.size : Int) ≤ x122001))) else (some true)))
def typ_Fits.f (k : Nat) (a0_0 : Int) (a0_1 : Int) (a1_0 : Int) (a1_1 : Int) (a1_2 : ByteArray) : Option (Bool) := (typ_Right.f k a0_0 a0_1).bind fun t123 => (if t123 = true then (if a1_0 = a0_0 then ((value_Right.f k a1_0 a1_1 a1_2).bind fun t124 => (typ_Fits.j0 k (!t124) a0_0 a0_1 a1_0 a1_1 a1_2)) else (typ_Fits.j0 k true a0_0 a0_1 a1_0 a1_1 a1_2)) else (typ_Fits.j0 k true a0_0 a0_1 a1_0 a1_1 a1_2))
theorem typ_Fits.mono_l : ∀ k, (∀ y0 y1 y2 y3 y4 y5, LeO (typ_Fits.j0 k y0 y1 y2 y3 y4 y5) (typ_Fits.j0 (k + 1) y0 y1 y2 y3 y4 y5))
 | 0 => fun _ _ _ _ _ _ r h => by simp [typ_Fits.j0] at h
 | k + 1 => by
  have ih0 := typ_Fits.mono_l k
  ·
   intro y0 y1 y2 y3 y4 y5
   unfold typ_Fits.j0
   repeat' first
   | (with_reducible exact ih0 _ _ _ _ _ _)
   | (with_reducible exact typ_Right.mono _ _ _)
   | (with_reducible exact value_Right.mono _ _ _ _)
   | (with_reducible exact LeO.refl _)
   | (with_reducible exact LeO.none _)
   | (with_reducible refine LeO.ite ?_ ?_)
   | (with_reducible refine LeO.bind ?_ (fun _ => ?_))
   | exact ih0 _ _ _ _ _ _
   | exact typ_Right.mono _ _ _
   | exact value_Right.mono _ _ _ _
   | exact LeO.none _
   | refine LeO.ite ?_ ?_
   | refine LeO.bind ?_ (fun _ => ?_)
theorem typ_Fits.mono : ∀ a0 a1 a2 a3 a4 k, LeO (typ_Fits.f k a0 a1 a2 a3 a4) (typ_Fits.f (k + 1) a0 a1 a2 a3 a4) := by
 intro a0 a1 a2 a3 a4 k
 have ih0 := typ_Fits.mono_l k
 unfold typ_Fits.f
 repeat' first | with_reducible (first | exact ih0 .. | exact typ_Right.mono .. | exact value_Right.mono .. | exact LeO.refl .. | exact LeO.none .. | refine LeO.ite ?_ ?_ | refine LeO.bind ?_ (fun _ => ?_)) | exact ih0 .. | exact typ_Right.mono .. | exact value_Right.mono .. | exact LeO.none .. | refine LeO.ite ?_ ?_ | refine LeO.bind ?_ (fun _ => ?_)
set_option maxHeartbeats 8000000 in
set_option maxRecDepth 100000 in
theorem typ_Fits.calls (k : Nat) (a0_0 : Int) (a0_1 : Int) (a1_0 : Int) (a1_1 : Int) (a1_2 : ByteArray) (r : Bool) (w : World) (hG : Glob w) (h : typ_Fits.f k a0_0 a0_1 a1_0 a1_1 a1_2 = some r) :
  Calls Tryd.prog 71 #[.agg #[.int .i64 a0_0, .int .i64 a0_1], .agg #[.int .i64 a1_0, .int .i64 a1_1, .string a1_2]] w fun e w' => e = .returned (.bool r) ∧ Below w.heap.size w w' := by
 have hu50 := Tryd.underlying50
 have hu52 := Tryd.underlying52
 have HG := aM hG
 clear hG
 have HB := aM (Below.refl w.heap.size w)
 have H : ((typ_Right.f k a0_0 a0_1).bind fun t123 => (if t123 = true then (if a1_0 = a0_0 then ((value_Right.f k a1_0 a1_1 a1_2).bind fun t124 => (typ_Fits.j0 k (!t124) a0_0 a0_1 a1_0 a1_1 a1_2)) else (typ_Fits.j0 k true a0_0 a0_1 a1_0 a1_1 a1_2)) else (typ_Fits.j0 k true a0_0 a0_1 a1_0 a1_1 a1_2))) = some r := h
 clear h
 have HC3 := aM H
 clear H
 go_enter Tryd.func71, Tryd.ntmps71
 go_upto_region 1 with (first | ((with_reducible refine gate_dst (N := 2) rfl ?_); (try (refine gate_guard (by rfl) ?_; dsimp only)); refine yX (N := 2) (cs := #[.int .i64 a0_0, .int .i64 a0_1]) (t := 50) ?_; intro gb121 hg w4 hbox hb; have BK121 := aM (hbox); have GW121 := yZ hg (yB HB); have GE121 := yZ hg (yB HB); replace HB := aM (bP (yB HB) hb); clear hb hbox hg) | ((with_reducible refine gate_dst (N := 3) rfl ?_); (try (refine gate_guard (by rfl) ?_; dsimp only)); refine yX (N := 3) (cs := #[.int .i64 a1_0, .int .i64 a1_1, .string a1_2]) (t := 52) ?_; intro gb122 hg w5 hbox hb; have BK122 := aM (hbox); have GW122 := yZ hg (yG1 HB GE121.out); have GE122 := yZ hg (yG1 HB GE121.out); replace HB := aM (bP (yG1 HB GE121.out) hb); have NB121_122 := yN hg (yK BK121); have NB122_121 := yM hg (yK BK121); replace BK121 := aM (kB (yK BK121) hb); clear hb hbox hg))
 (try simp only [Act.put, s1_, s2_, s3_])
 go_cut [19] (fun v19 wc => ∃ (kq : Nat) (x19_2 : Bool), v19 = .bool x19_2 ∧ Aside0 (typ_Fits.j0 kq x19_2 a0_0 a0_1 a1_0 a1_1 a1_2 = some r) ∧ Aside0 (kq ≤ k) ∧ Aside0 (wc.heap[gb121]? = some (.cells #[.int .i64 a0_0, .int .i64 a0_1] 50 (0, 0))) ∧ Aside0 (wc.heap[gb122]? = some (.cells #[.int .i64 a1_0, .int .i64 a1_1, .string a1_2] 52 (0, 0))) ∧ Aside0 (Below w.heap.size w wc))
 case first =>
  have H := HC3.out
  clear HC3
  obtain ⟨t123, A6, H⟩ := yb H
  by_cases c7 : t123 = true
  ·
   subst c7
   replace H := yt H
   by_cases c8 : a1_0 = a0_0
   ·
    rw [if_pos c8] at H
    have c8b0 : (a1_0 == a0_0) = true := beq_iff_eq.mpr c8
    have c8b1 : (a1_0 != a0_0) = false := bne_eq_false_iff_eq.mpr c8
    clear c8
    (first | rw [c8b0] | (simp only [i64_w, i32_w]; rw [c8b0]) | skip)
    obtain ⟨t124, A9, H⟩ := yb H
    have H' := aM H
    clear H
    have hnb10 := NB121_122.out
    have hnc10 := NB122_121.out
    obtain ⟨hcz11_0, hcz11_1, hfz11_0, hfz11_1⟩ := cells2 BK121.out
    go_wp2_with (first | ((with_reducible refine gate_callee (f := 70) rfl ?_); refine yC 6 Tryd.func70 #[.agg #[.int .i64 a0_0, .int .i64 a0_1]] rfl ?_; (with_reducible refine (typ_Right.calls k a0_0 a0_1 true _ A6.out).mono ?_); rintro e w12 ⟨rfl, hb⟩; refine ⟨_, rfl, ?_⟩; replace BK121 := aM (kB (yK BK121) hb); replace BK122 := aM (kB (yK BK122) hb); replace HB := aM (bP (yG2 HB GE121.out GE122.out) hb); (try clear hb); obtain ⟨hcz13_0, hcz13_1, hcz13_2, hfz13_0, hfz13_1, hfz13_2⟩ := cells3 BK122.out; obtain ⟨hcz14_0, hcz14_1, hfz14_0, hfz14_1⟩ := cells2 BK121.out) | (go_at_call 97; (with_reducible refine (value_Right.calls k a1_0 a1_1 a1_2 t124 _ ?side1 A9.out).mono ?_); (case side1 => first | (with_reducible exact HG.out) | exact Glob.below HG.out (yG2 HB GE121.out GE122.out)); rintro e w15 ⟨rfl, hb⟩; replace BK121 := aM (kB (yK BK121) hb); replace BK122 := aM (kB (yK BK122) hb); replace HB := aM (bP (yG2 HB GE121.out GE122.out) hb); (try clear hb)))
    go_meet
    case rel => exact ⟨_, (!t124), yS, H', ⟨yO⟩, ⟨yK BK121⟩, ⟨yK BK122⟩, ⟨yG2 HB GE121.out GE122.out⟩⟩
   ·
    rw [if_neg c8] at H
    have c8b0 : (a1_0 == a0_0) = false := beq_eq_false_iff_ne.mpr c8
    have c8b1 : (a1_0 != a0_0) = true := bne_iff_ne.mpr c8
    (first | rw [c8b0] | (simp only [i64_w, i32_w]; rw [c8b0]) | skip)
    have H' := aM H
    clear H
    have hnb16 := NB121_122.out
    have hnc16 := NB122_121.out
    obtain ⟨hcz17_0, hcz17_1, hfz17_0, hfz17_1⟩ := cells2 BK121.out
    go_wp2_with (first | ((with_reducible refine gate_callee (f := 70) rfl ?_); refine yC 6 Tryd.func70 #[.agg #[.int .i64 a0_0, .int .i64 a0_1]] rfl ?_; (with_reducible refine (typ_Right.calls k a0_0 a0_1 true _ A6.out).mono ?_); rintro e w18 ⟨rfl, hb⟩; refine ⟨_, rfl, ?_⟩; replace BK121 := aM (kB (yK BK121) hb); replace BK122 := aM (kB (yK BK122) hb); replace HB := aM (bP (yG2 HB GE121.out GE122.out) hb); (try clear hb); obtain ⟨hcz19_0, hcz19_1, hcz19_2, hfz19_0, hfz19_1, hfz19_2⟩ := cells3 BK122.out; obtain ⟨hcz20_0, hcz20_1, hfz20_0, hfz20_1⟩ := cells2 BK121.out))
    go_meet
    case rel => exact ⟨_, (true), yS, H', ⟨yO⟩, ⟨yK BK121⟩, ⟨yK BK122⟩, ⟨yG2 HB GE121.out GE122.out⟩⟩
  ·
   replace c7 := Bool.eq_false_iff.mpr c7
   subst c7
   replace H := yf H
   have H' := aM H
   clear H
   have hnb21 := NB121_122.out
   have hnc21 := NB122_121.out
   obtain ⟨hcz22_0, hcz22_1, hfz22_0, hfz22_1⟩ := cells2 BK121.out
   go_wp2_with (first | ((with_reducible refine gate_callee (f := 70) rfl ?_); refine yC 6 Tryd.func70 #[.agg #[.int .i64 a0_0, .int .i64 a0_1]] rfl ?_; (with_reducible refine (typ_Right.calls k a0_0 a0_1 false _ A6.out).mono ?_); rintro e w23 ⟨rfl, hb⟩; refine ⟨_, rfl, ?_⟩; replace BK121 := aM (kB (yK BK121) hb); replace BK122 := aM (kB (yK BK122) hb); replace HB := aM (bP (yG2 HB GE121.out GE122.out) hb); (try clear hb)))
   go_meet
   case rel => exact ⟨_, (true), yS, H', ⟨yO⟩, ⟨yK BK121⟩, ⟨yK BK122⟩, ⟨yG2 HB GE121.out GE122.out⟩⟩
 case rest =>
  clear HC3
  obtain ⟨kq, x19_2, rfl, HA, HJ2, BK121, BK122, HB⟩ := hcut
  cases kq with
  | zero => exact absurd HA.out (by simp [typ_Fits.j0])
  | succ kj2 =>
   have H := HA.out
   clear HA
   simp only [typ_Fits.j0] at H
   by_cases c24 : x19_2 = true
   ·
    subst c24
    replace H := yt H
    obtain rfl := Option.some.inj H
    go_wp2
    go_ret
    exact ⟨yE, yG2 HB GE121.out GE122.out⟩
   ·
    replace c24 := Bool.eq_false_iff.mpr c24
    subst c24
    replace H := yf H
    obtain ⟨t125, A25, H⟩ := yb H
    by_cases c26 : t125 = true
    ·
     subst c26
     replace H := yt H
     obtain rfl := Option.some.inj H
     have hnb27 := NB121_122.out
     have hnc27 := NB122_121.out
     obtain ⟨hcz28_0, hcz28_1, hfz28_0, hfz28_1⟩ := cells2 BK121.out
     go_wp2_with (first | ((with_reducible refine gate_callee (f := 98) rfl ?_); refine yC 22 Tryd.func98 #[.int .i64 a0_0] rfl ?_; (with_reducible refine (typ_long.calls a0_0 true _ A25.out).mono ?_); rintro e w' ⟨rfl, ⟨nd, rfl⟩⟩; refine ⟨_, rfl, ?_⟩; obtain ⟨hcz29_0, hcz29_1, hcz29_2, hfz29_0, hfz29_1, hfz29_2⟩ := cells3 BK122.out))
     go_ret
     exact ⟨yE, yG2 HB GE121.out GE122.out⟩
    ·
     replace c26 := Bool.eq_false_iff.mpr c26
     subst c26
     replace H := yf H
     obtain rfl := Option.some.inj H
     have hnb30 := NB121_122.out
     have hnc30 := NB122_121.out
     obtain ⟨hcz31_0, hcz31_1, hfz31_0, hfz31_1⟩ := cells2 BK121.out
     go_wp2_with (first | ((with_reducible refine gate_callee (f := 98) rfl ?_); refine yC 22 Tryd.func98 #[.int .i64 a0_0] rfl ?_; (with_reducible refine (typ_long.calls a0_0 false _ A25.out).mono ?_); rintro e w' ⟨rfl, ⟨nd, rfl⟩⟩; refine ⟨_, rfl, ?_⟩))
     go_ret
     exact ⟨yE, yG2 HB GE121.out GE122.out⟩
end Go.Proofs.YtdeophpjammbpaaDoor.HRowcodeKeys

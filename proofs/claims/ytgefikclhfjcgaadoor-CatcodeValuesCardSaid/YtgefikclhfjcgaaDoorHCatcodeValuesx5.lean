/- For Go functions that CatcodeValues reaches: Lean functions, and walks that show that each call comes to what its Lean function tells; no condition but those that each theorem states. (Made by a program of this session over the kit's print.py.) -/
import Derived.Test.YtgefikclhfjcgaaDoorHCatcodeValuesx0
import Derived.Test.YtgefikclhfjcgaaDoorHCatcodeValuesx1
import Derived.Test.YtgefikclhfjcgaaDoorHCatcodeValuesx3
import Derived.Test.YtgefikclhfjcgaaDoorHCatcodeValuesx4
namespace Go.Proofs.YtgefikclhfjcgaaDoor.HCatcodeValues
open Go.RowKit Go.Proofs.YtgefikclhfjcgaaDoorW.PrintWords Go.Proofs.YtgefikclhfjcgaaDoorW.PrintLast Go.Proofs.YtgefikclhfjcgaaDoorW.PrintMore
attribute [local go_sem] max2_int min2_int max_two min_two max_three min_three max_four min_four   -- for this text's walks alone
set_option linter.unusedVariables false
set_option linter.unusedSimpArgs false
attribute [local go_sem] hp_s8 hp_s16 hp_s32 hp_s64 hp_m8 hp_m16 hp_m32 hp_m64
attribute [local go_sem high] eqA23
/-! ### typ_Right: function 107 -/
mutual
def typ_Right.j0 : Nat → Int → Bool → Int → Int → Option (Bool)
 | 0, _, _, _, _ => none
 | k + 1, x4, x5, x158000, x158001 => if x5 = true then (some (x158001 == 0)) else (if x4 = 3 then (typ_Right.j1 k (x4 == 3) x158000 x158001) else (typ_Right.j1 k (x4 == 4) x158000 x158001))
def typ_Right.j1 : Nat → Bool → Int → Int → Option (Bool)
 | 0, _, _, _ => none
 | k + 1, x11, x158000, x158001 => if x11 = true then (if x158001 ≥ 1 then (some (decide (x158001 ≤ 120))) else (some false)) else (some false)
end
def typ_Right.f (k : Nat) (a0_0 : Int) (a0_1 : Int) : Option (Bool) := if a0_0 = 1 then (typ_Right.j0 k a0_0 (a0_0 == 1) a0_0 a0_1) else (typ_Right.j0 k a0_0 (a0_0 == 2) a0_0 a0_1)
theorem typ_Right.mono_l : ∀ k, (∀ y0 y1 y2 y3, LeO (typ_Right.j0 k y0 y1 y2 y3) (typ_Right.j0 (k + 1) y0 y1 y2 y3)) ∧ (∀ y0 y1 y2, LeO (typ_Right.j1 k y0 y1 y2) (typ_Right.j1 (k + 1) y0 y1 y2))
 | 0 => by refine ⟨?_, ?_⟩ <;> intros <;> exact LeO.none _
 | k + 1 => by
  obtain ⟨ih0, ih1⟩ := typ_Right.mono_l k
  refine ⟨?_, ?_⟩ <;> intros <;> first | unfold typ_Right.j0 | unfold typ_Right.j1
  all_goals repeat' first | with_reducible (first | exact ih0 .. | exact ih1 .. | exact LeO.refl .. | exact LeO.none .. | refine LeO.ite ?_ ?_ | refine LeO.bind ?_ (fun _ => ?_)) | exact ih0 .. | exact ih1 .. | exact LeO.none .. | refine LeO.ite ?_ ?_ | refine LeO.bind ?_ (fun _ => ?_)
theorem typ_Right.mono : ∀ a0 a1 k, LeO (typ_Right.f k a0 a1) (typ_Right.f (k + 1) a0 a1) := by
 intro a0 a1 k
 obtain ⟨ih0, ih1⟩ := typ_Right.mono_l k
 unfold typ_Right.f
 repeat' first | with_reducible (first | exact ih0 .. | exact ih1 .. | exact LeO.refl .. | exact LeO.none .. | refine LeO.ite ?_ ?_ | refine LeO.bind ?_ (fun _ => ?_)) | exact ih0 .. | exact ih1 .. | exact LeO.none .. | refine LeO.ite ?_ ?_ | refine LeO.bind ?_ (fun _ => ?_)
set_option maxHeartbeats 8000000 in
set_option maxRecDepth 100000 in
theorem typ_Right.calls (k : Nat) (a0_0 : Int) (a0_1 : Int) (r : Bool) (w : World) (h : typ_Right.f k a0_0 a0_1 = some r) :
  Calls Tryd.prog 107 #[.agg #[.int .i64 a0_0, .int .i64 a0_1]] w fun e w' => e = .returned (.bool r) ∧ Below w.heap.size w w' := by
 have hu48 := Tryd.underlying48
 have HB := aM (Below.refl w.heap.size w)
 have H : (if a0_0 = 1 then (typ_Right.j0 k a0_0 (a0_0 == 1) a0_0 a0_1) else (typ_Right.j0 k a0_0 (a0_0 == 2) a0_0 a0_1)) = some r := h
 clear h
 have HC2 := aM H
 clear H
 go_enter Tryd.func107, Tryd.ntmps107
 go_upto_if 5 with (first | ((with_reducible refine gate_dst (N := 1) rfl ?_); refine yX (N := 1) (cs := #[.int .i64 a0_0, .int .i64 a0_1]) (t := 48) ?_; intro gb157 hg w3 hbox hb; have BK157 := aM (hbox); have GW157 := yZ hg (yB HB); have GE157 := yZ hg (yB HB); replace HB := aM (bP (yB HB) hb); clear hb hbox hg; obtain ⟨hcz4_0, hcz4_1, hfz4_0, hfz4_1⟩ := cells2 BK157.out))
 (try simp only [Act.put, s1_, s2_, s3_])
 go_cut [5] (fun v5 wc => ∃ (kq : Nat) (x5_1 : Bool), v5 = .bool x5_1 ∧ Aside0 (typ_Right.j0 kq a0_0 x5_1 a0_0 a0_1 = some r) ∧ Aside0 (kq ≤ k) ∧ Aside0 (wc.heap[gb157]? = some (.cells #[.int .i64 a0_0, .int .i64 a0_1] 48 (0, 0))) ∧ Aside0 (Below w.heap.size w wc))
 case first =>
  have H := HC2.out
  clear HC2
  by_cases c5 : a0_0 = 1
  ·
   rw [if_pos c5] at H
   have c5b0 : (a0_0 == 1) = true := beq_iff_eq.mpr c5
   have c5b1 : (a0_0 != 1) = false := bne_eq_false_iff_eq.mpr c5
   clear c5
   (first | rw [c5b0] | (simp only [i64_w, i32_w]; rw [c5b0]) | skip)
   have H' := aM H
   clear H
   go_wp2
   go_meet
   case rel => exact ⟨_, ((a0_0 == 1)), yS, H', ⟨yO⟩, ⟨yK BK157⟩, ⟨yG1 HB GE157.out⟩⟩
  ·
   rw [if_neg c5] at H
   have c5b0 : (a0_0 == 1) = false := beq_eq_false_iff_ne.mpr c5
   have c5b1 : (a0_0 != 1) = true := bne_iff_ne.mpr c5
   (first | rw [c5b0] | (simp only [i64_w, i32_w]; rw [c5b0]) | skip)
   have H' := aM H
   clear H
   go_wp2
   go_meet
   case rel => exact ⟨_, ((a0_0 == 2)), yS, H', ⟨yO⟩, ⟨yK BK157⟩, ⟨yG1 HB GE157.out⟩⟩
 case rest =>
  clear HC2
  try clear hcz4_0 hcz4_1
  try clear hfz4_0 hfz4_1
  obtain ⟨kq, x5_1, rfl, HA, HJ1, BK157, HB⟩ := hcut
  cases kq with
  | zero => exact absurd HA.out (by simp [typ_Right.j0])
  | succ kj1 =>
   have H := HA.out
   clear HA
   simp only [typ_Right.j0] at H
   by_cases c6 : x5_1 = true
   ·
    subst c6
    replace H := yt H
    obtain rfl := Option.some.inj H
    obtain ⟨hcz7_0, hcz7_1, hfz7_0, hfz7_1⟩ := cells2 BK157.out
    go_wp2
    go_ret
    exact ⟨yE, yG1 HB GE157.out⟩
   ·
    replace c6 := Bool.eq_false_iff.mpr c6
    subst c6
    replace H := yf H
    have HC8 := aM H
    clear H
    go_upto_if 11 with (fail)
    go_cut [11] (fun v11 wc => ∃ (kq : Nat) (x11_7 : Bool), v11 = .bool x11_7 ∧ Aside0 (typ_Right.j1 kq x11_7 a0_0 a0_1 = some r) ∧ Aside0 (kq ≤ kj1) ∧ Aside0 (wc.heap[gb157]? = some (.cells #[.int .i64 a0_0, .int .i64 a0_1] 48 (0, 0))) ∧ Aside0 (Below w.heap.size w wc))
    case first =>
     have H := HC8.out
     clear HC8
     by_cases c9 : a0_0 = 3
     ·
      rw [if_pos c9] at H
      have c9b0 : (a0_0 == 3) = true := beq_iff_eq.mpr c9
      have c9b1 : (a0_0 != 3) = false := bne_eq_false_iff_eq.mpr c9
      clear c9
      (first | rw [c9b0] | (simp only [i64_w, i32_w]; rw [c9b0]) | skip)
      have H' := aM H
      clear H
      go_wp2
      go_meet
      case rel => exact ⟨_, ((a0_0 == 3)), yS, H', ⟨by have := HJ1.out; first | omega | exact Nat.le_refl _⟩, ⟨yK BK157⟩, ⟨yG1 HB GE157.out⟩⟩
     ·
      rw [if_neg c9] at H
      have c9b0 : (a0_0 == 3) = false := beq_eq_false_iff_ne.mpr c9
      have c9b1 : (a0_0 != 3) = true := bne_iff_ne.mpr c9
      (first | rw [c9b0] | (simp only [i64_w, i32_w]; rw [c9b0]) | skip)
      have H' := aM H
      clear H
      go_wp2
      go_meet
      case rel => exact ⟨_, ((a0_0 == 4)), yS, H', ⟨by have := HJ1.out; first | omega | exact Nat.le_refl _⟩, ⟨yK BK157⟩, ⟨yG1 HB GE157.out⟩⟩
    case rest =>
     clear HC8
     try clear c6
     try clear hcz4_0 hcz4_1
     try clear hfz4_0 hfz4_1
     obtain ⟨kq, x11_7, rfl, HA, HJ7, BK157, HB⟩ := hcut
     cases kq with
     | zero => exact absurd HA.out (by simp [typ_Right.j1])
     | succ kj7 =>
      have H := HA.out
      clear HA
      simp only [typ_Right.j1] at H
      by_cases c10 : x11_7 = true
      ·
       subst c10
       replace H := yt H
       by_cases c11 : a0_1 ≥ 1
       ·
        rw [if_pos c11] at H
        have c11b0 : decide (1 ≤ a0_1) = true := decide_eq_true c11
        clear c11
        obtain rfl := Option.some.inj H
        obtain ⟨hcz12_0, hcz12_1, hfz12_0, hfz12_1⟩ := cells2 BK157.out
        go_wp2
        go_ret
        exact ⟨yE, yG1 HB GE157.out⟩
       ·
        rw [if_neg c11] at H
        have c11b0 : decide (1 ≤ a0_1) = false := decide_eq_false c11
        clear c11
        obtain rfl := Option.some.inj H
        obtain ⟨hcz13_0, hcz13_1, hfz13_0, hfz13_1⟩ := cells2 BK157.out
        go_wp2
        go_ret
        exact ⟨yE, yG1 HB GE157.out⟩
      ·
       replace c10 := Bool.eq_false_iff.mpr c10
       subst c10
       replace H := yf H
       obtain rfl := Option.some.inj H
       go_wp2
       go_ret
       exact ⟨yE, yG1 HB GE157.out⟩
/-! ### typ_long: function 145 -/
def typ_long.f (a0 : Int) : Option (Bool) := if a0 = 3 then (some true) else (some (a0 == 4))
set_option maxHeartbeats 8000000 in
set_option maxRecDepth 100000 in
theorem typ_long.calls (a0 : Int) (r : Bool) (w : World) (h : typ_long.f a0 = some r) :
  Calls Tryd.prog 145 #[.int .i64 a0] w fun e w' => e = .returned (.bool r) ∧ Drawn0 w w' := by
 have H : (if a0 = 3 then (some true) else (some (a0 == 4))) = some r := h
 clear h
 by_cases c2 : a0 = 3
 ·
  rw [if_pos c2] at H
  have c2b0 : (a0 == 3) = true := beq_iff_eq.mpr c2
  have c2b1 : (a0 != 3) = false := bne_eq_false_iff_eq.mpr c2
  clear c2
  obtain rfl := Option.some.inj H
  go_enter Tryd.func145, Tryd.ntmps145
  go_wp2
  go_ret
  exact ⟨yS, yD⟩
 ·
  rw [if_neg c2] at H
  have c2b0 : (a0 == 3) = false := beq_eq_false_iff_ne.mpr c2
  have c2b1 : (a0 != 3) = true := bne_iff_ne.mpr c2
  obtain rfl := Option.some.inj H
  go_enter Tryd.func145, Tryd.ntmps145
  go_wp2
  go_ret
  exact ⟨yS, yD⟩
/-! ### typ_Fits: function 133 -/
def typ_Fits.j0 : Nat → Bool → Int → Int → Int → Int → ByteArray → Option (Bool)
 | 0, _, _, _, _, _, _ => none
 | k + 1, x19, x159000, x159001, x160000, x160001, x160002 => if x19 = true then (some false) else ((typ_long.f x159000).bind fun t162 => (if t162 = true then (some (decide ((x160002.size : Int) ≤ x159001))) else (some true)))
def typ_Fits.f (k : Nat) (a0_0 : Int) (a0_1 : Int) (a1_0 : Int) (a1_1 : Int) (a1_2 : ByteArray) : Option (Bool) := (typ_Right.f k a0_0 a0_1).bind fun t160 => (if t160 = true then (if a1_0 = a0_0 then ((value_Right.f k a1_0 a1_1 a1_2).bind fun t161 => (typ_Fits.j0 k (!t161) a0_0 a0_1 a1_0 a1_1 a1_2)) else (typ_Fits.j0 k true a0_0 a0_1 a1_0 a1_1 a1_2)) else (typ_Fits.j0 k true a0_0 a0_1 a1_0 a1_1 a1_2))
theorem typ_Fits.mono_l : ∀ k, (∀ y0 y1 y2 y3 y4 y5, LeO (typ_Fits.j0 k y0 y1 y2 y3 y4 y5) (typ_Fits.j0 (k + 1) y0 y1 y2 y3 y4 y5))
 | 0 => fun _ _ _ _ _ _ r h => by simp [typ_Fits.j0] at h
 | k + 1 => by
  have ih0 := typ_Fits.mono_l k
  ·
   intro y0 y1 y2 y3 y4 y5
   unfold typ_Fits.j0
   repeat' first
   | (with_reducible exact ih0 _ _ _ _ _ _)
   | (with_reducible exact typ_Right.mono _ _ _)
   | (with_reducible exact value_Right.mono _ _ _ _)
   | (with_reducible exact LeO.refl _)
   | (with_reducible exact LeO.none _)
   | (with_reducible refine LeO.ite ?_ ?_)
   | (with_reducible refine LeO.bind ?_ (fun _ => ?_))
   | exact ih0 _ _ _ _ _ _
   | exact typ_Right.mono _ _ _
   | exact value_Right.mono _ _ _ _
   | exact LeO.none _
   | refine LeO.ite ?_ ?_
   | refine LeO.bind ?_ (fun _ => ?_)
theorem typ_Fits.mono : ∀ a0 a1 a2 a3 a4 k, LeO (typ_Fits.f k a0 a1 a2 a3 a4) (typ_Fits.f (k + 1) a0 a1 a2 a3 a4) := by
 intro a0 a1 a2 a3 a4 k
 have ih0 := typ_Fits.mono_l k
 unfold typ_Fits.f
 repeat' first | with_reducible (first | exact ih0 .. | exact typ_Right.mono .. | exact value_Right.mono .. | exact LeO.refl .. | exact LeO.none .. | refine LeO.ite ?_ ?_ | refine LeO.bind ?_ (fun _ => ?_)) | exact ih0 .. | exact typ_Right.mono .. | exact value_Right.mono .. | exact LeO.none .. | refine LeO.ite ?_ ?_ | refine LeO.bind ?_ (fun _ => ?_)
set_option maxHeartbeats 8000000 in
set_option maxRecDepth 100000 in
theorem typ_Fits.calls (k : Nat) (a0_0 : Int) (a0_1 : Int) (a1_0 : Int) (a1_1 : Int) (a1_2 : ByteArray) (r : Bool) (w : World) (hG : Glob w) (h : typ_Fits.f k a0_0 a0_1 a1_0 a1_1 a1_2 = some r) :
  Calls Tryd.prog 133 #[.agg #[.int .i64 a0_0, .int .i64 a0_1], .agg #[.int .i64 a1_0, .int .i64 a1_1, .string a1_2]] w fun e w' => e = .returned (.bool r) ∧ Below w.heap.size w w' := by
 have hu48 := Tryd.underlying48
 have hu23 := Tryd.underlying23
 have HG := aM hG
 clear hG
 have HB := aM (Below.refl w.heap.size w)
 have H : ((typ_Right.f k a0_0 a0_1).bind fun t160 => (if t160 = true then (if a1_0 = a0_0 then ((value_Right.f k a1_0 a1_1 a1_2).bind fun t161 => (typ_Fits.j0 k (!t161) a0_0 a0_1 a1_0 a1_1 a1_2)) else (typ_Fits.j0 k true a0_0 a0_1 a1_0 a1_1 a1_2)) else (typ_Fits.j0 k true a0_0 a0_1 a1_0 a1_1 a1_2))) = some r := h
 clear h
 have HC3 := aM H
 clear H
 go_enter Tryd.func133, Tryd.ntmps133
 go_upto_region 1 with (first | ((with_reducible refine gate_dst (N := 2) rfl ?_); (try (refine gate_guard (by rfl) ?_; dsimp only)); refine yX (N := 2) (cs := #[.int .i64 a0_0, .int .i64 a0_1]) (t := 48) ?_; intro gb158 hg w4 hbox hb; have BK158 := aM (hbox); have GW158 := yZ hg (yB HB); have GE158 := yZ hg (yB HB); replace HB := aM (bP (yB HB) hb); clear hb hbox hg) | ((with_reducible refine gate_dst (N := 3) rfl ?_); (try (refine gate_guard (by rfl) ?_; dsimp only)); refine yX (N := 3) (cs := #[.int .i64 a1_0, .int .i64 a1_1, .string a1_2]) (t := 23) ?_; intro gb159 hg w5 hbox hb; have BK159 := aM (hbox); have GW159 := yZ hg (yG1 HB GE158.out); have GE159 := yZ hg (yG1 HB GE158.out); replace HB := aM (bP (yG1 HB GE158.out) hb); have NB158_159 := yN hg (yK BK158); have NB159_158 := yM hg (yK BK158); replace BK158 := aM (kB (yK BK158) hb); clear hb hbox hg))
 (try simp only [Act.put, s1_, s2_, s3_])
 go_cut [19] (fun v19 wc => ∃ (kq : Nat) (x19_2 : Bool), v19 = .bool x19_2 ∧ Aside0 (typ_Fits.j0 kq x19_2 a0_0 a0_1 a1_0 a1_1 a1_2 = some r) ∧ Aside0 (kq ≤ k) ∧ Aside0 (wc.heap[gb158]? = some (.cells #[.int .i64 a0_0, .int .i64 a0_1] 48 (0, 0))) ∧ Aside0 (wc.heap[gb159]? = some (.cells #[.int .i64 a1_0, .int .i64 a1_1, .string a1_2] 23 (0, 0))) ∧ Aside0 (Below w.heap.size w wc))
 case first =>
  have H := HC3.out
  clear HC3
  obtain ⟨t160, A6, H⟩ := yb H
  by_cases c7 : t160 = true
  ·
   subst c7
   replace H := yt H
   by_cases c8 : a1_0 = a0_0
   ·
    rw [if_pos c8] at H
    have c8b0 : (a1_0 == a0_0) = true := beq_iff_eq.mpr c8
    have c8b1 : (a1_0 != a0_0) = false := bne_eq_false_iff_eq.mpr c8
    clear c8
    (first | rw [c8b0] | (simp only [i64_w, i32_w]; rw [c8b0]) | skip)
    obtain ⟨t161, A9, H⟩ := yb H
    have H' := aM H
    clear H
    have hnb10 := NB158_159.out
    have hnc10 := NB159_158.out
    obtain ⟨hcz11_0, hcz11_1, hfz11_0, hfz11_1⟩ := cells2 BK158.out
    go_wp2_with (first | ((with_reducible refine gate_callee (f := 107) rfl ?_); refine yC 6 Tryd.func107 #[.agg #[.int .i64 a0_0, .int .i64 a0_1]] rfl ?_; (with_reducible refine (typ_Right.calls k a0_0 a0_1 true _ A6.out).mono ?_); rintro e w12 ⟨rfl, hb⟩; refine ⟨_, rfl, ?_⟩; replace BK158 := aM (kB (yK BK158) hb); replace BK159 := aM (kB (yK BK159) hb); replace HB := aM (bP (yG2 HB GE158.out GE159.out) hb); (try clear hb); obtain ⟨hcz13_0, hcz13_1, hcz13_2, hfz13_0, hfz13_1, hfz13_2⟩ := cells3 BK159.out; obtain ⟨hcz14_0, hcz14_1, hfz14_0, hfz14_1⟩ := cells2 BK158.out) | (go_at_call 36; (with_reducible refine (value_Right.calls k a1_0 a1_1 a1_2 t161 _ ?side1 A9.out).mono ?_); (case side1 => first | (with_reducible exact HG.out) | exact Glob.below HG.out (yG2 HB GE158.out GE159.out)); rintro e w15 ⟨rfl, hb⟩; replace BK158 := aM (kB (yK BK158) hb); replace BK159 := aM (kB (yK BK159) hb); replace HB := aM (bP (yG2 HB GE158.out GE159.out) hb); (try clear hb)))
    go_meet
    case rel => exact ⟨_, (!t161), yS, H', ⟨yO⟩, ⟨yK BK158⟩, ⟨yK BK159⟩, ⟨yG2 HB GE158.out GE159.out⟩⟩
   ·
    rw [if_neg c8] at H
    have c8b0 : (a1_0 == a0_0) = false := beq_eq_false_iff_ne.mpr c8
    have c8b1 : (a1_0 != a0_0) = true := bne_iff_ne.mpr c8
    (first | rw [c8b0] | (simp only [i64_w, i32_w]; rw [c8b0]) | skip)
    have H' := aM H
    clear H
    have hnb16 := NB158_159.out
    have hnc16 := NB159_158.out
    obtain ⟨hcz17_0, hcz17_1, hfz17_0, hfz17_1⟩ := cells2 BK158.out
    go_wp2_with (first | ((with_reducible refine gate_callee (f := 107) rfl ?_); refine yC 6 Tryd.func107 #[.agg #[.int .i64 a0_0, .int .i64 a0_1]] rfl ?_; (with_reducible refine (typ_Right.calls k a0_0 a0_1 true _ A6.out).mono ?_); rintro e w18 ⟨rfl, hb⟩; refine ⟨_, rfl, ?_⟩; replace BK158 := aM (kB (yK BK158) hb); replace BK159 := aM (kB (yK BK159) hb); replace HB := aM (bP (yG2 HB GE158.out GE159.out) hb); (try clear hb); obtain ⟨hcz19_0, hcz19_1, hcz19_2, hfz19_0, hfz19_1, hfz19_2⟩ := cells3 BK159.out; obtain ⟨hcz20_0, hcz20_1, hfz20_0, hfz20_1⟩ := cells2 BK158.out))
    go_meet
    case rel => exact ⟨_, (true), yS, H', ⟨yO⟩, ⟨yK BK158⟩, ⟨yK BK159⟩, ⟨yG2 HB GE158.out GE159.out⟩⟩
  ·
   replace c7 := Bool.eq_false_iff.mpr c7
   subst c7
   replace H := yf H
   have H' := aM H
   clear H
   have hnb21 := NB158_159.out
   have hnc21 := NB159_158.out
   obtain ⟨hcz22_0, hcz22_1, hfz22_0, hfz22_1⟩ := cells2 BK158.out
   go_wp2_with (first | ((with_reducible refine gate_callee (f := 107) rfl ?_); refine yC 6 Tryd.func107 #[.agg #[.int .i64 a0_0, .int .i64 a0_1]] rfl ?_; (with_reducible refine (typ_Right.calls k a0_0 a0_1 false _ A6.out).mono ?_); rintro e w23 ⟨rfl, hb⟩; refine ⟨_, rfl, ?_⟩; replace BK158 := aM (kB (yK BK158) hb); replace BK159 := aM (kB (yK BK159) hb); replace HB := aM (bP (yG2 HB GE158.out GE159.out) hb); (try clear hb)))
   go_meet
   case rel => exact ⟨_, (true), yS, H', ⟨yO⟩, ⟨yK BK158⟩, ⟨yK BK159⟩, ⟨yG2 HB GE158.out GE159.out⟩⟩
 case rest =>
  clear HC3
  obtain ⟨kq, x19_2, rfl, HA, HJ2, BK158, BK159, HB⟩ := hcut
  cases kq with
  | zero => exact absurd HA.out (by simp [typ_Fits.j0])
  | succ kj2 =>
   have H := HA.out
   clear HA
   simp only [typ_Fits.j0] at H
   by_cases c24 : x19_2 = true
   ·
    subst c24
    replace H := yt H
    obtain rfl := Option.some.inj H
    go_wp2
    go_ret
    exact ⟨yE, yG2 HB GE158.out GE159.out⟩
   ·
    replace c24 := Bool.eq_false_iff.mpr c24
    subst c24
    replace H := yf H
    obtain ⟨t162, A25, H⟩ := yb H
    by_cases c26 : t162 = true
    ·
     subst c26
     replace H := yt H
     obtain rfl := Option.some.inj H
     have hnb27 := NB158_159.out
     have hnc27 := NB159_158.out
     obtain ⟨hcz28_0, hcz28_1, hfz28_0, hfz28_1⟩ := cells2 BK158.out
     go_wp2_with (first | ((with_reducible refine gate_callee (f := 145) rfl ?_); refine yC 22 Tryd.func145 #[.int .i64 a0_0] rfl ?_; (with_reducible refine (typ_long.calls a0_0 true _ A25.out).mono ?_); rintro e w' ⟨rfl, ⟨nd, rfl⟩⟩; refine ⟨_, rfl, ?_⟩; obtain ⟨hcz29_0, hcz29_1, hcz29_2, hfz29_0, hfz29_1, hfz29_2⟩ := cells3 BK159.out))
     go_ret
     exact ⟨yE, yG2 HB GE158.out GE159.out⟩
    ·
     replace c26 := Bool.eq_false_iff.mpr c26
     subst c26
     replace H := yf H
     obtain rfl := Option.some.inj H
     have hnb30 := NB158_159.out
     have hnc30 := NB159_158.out
     obtain ⟨hcz31_0, hcz31_1, hfz31_0, hfz31_1⟩ := cells2 BK158.out
     go_wp2_with (first | ((with_reducible refine gate_callee (f := 145) rfl ?_); refine yC 22 Tryd.func145 #[.int .i64 a0_0] rfl ?_; (with_reducible refine (typ_long.calls a0_0 false _ A25.out).mono ?_); rintro e w' ⟨rfl, ⟨nd, rfl⟩⟩; refine ⟨_, rfl, ?_⟩))
     go_ret
     exact ⟨yE, yG2 HB GE158.out GE159.out⟩
/-! ### schema_RightColumn: function 112 -/
def schema_RightColumn.j0 : Nat → Bool → Int → ByteArray → Int → Int → Bool → Int → Int → ByteArray → Option (Bool)
 | 0, _, _, _, _, _, _, _, _, _ => none
 | k + 1, x22, x164000, x164001, x164002, x164003, x164004, x164005, x164006, x164007 => if x22 = true then (some false) else (if (x164005 == 0 && (x164006 == 0 && (x164007.toList == ([] : List UInt8)))) = true then (some true) else ((typ_Fits.f k x164002 x164003 x164005 x164006 x164007).bind fun t166 => (some t166)))
def schema_RightColumn.f (k : Nat) (a0_0 : Int) (a0_1 : ByteArray) (a0_2 : Int) (a0_3 : Int) (a0_4 : Bool) (a0_5 : Int) (a0_6 : Int) (a0_7 : ByteArray) : Option (Bool) := if a0_0 < 0 then (schema_RightColumn.j0 k true a0_0 a0_1 a0_2 a0_3 a0_4 a0_5 a0_6 a0_7) else (if a0_0 ≥ 200 then (schema_RightColumn.j0 k true a0_0 a0_1 a0_2 a0_3 a0_4 a0_5 a0_6 a0_7) else ((name_Right.f k a0_1).bind fun t164 => (if t164 = true then ((typ_Right.f k a0_2 a0_3).bind fun t165 => (schema_RightColumn.j0 k (!t165) a0_0 a0_1 a0_2 a0_3 a0_4 a0_5 a0_6 a0_7)) else (schema_RightColumn.j0 k true a0_0 a0_1 a0_2 a0_3 a0_4 a0_5 a0_6 a0_7))))
theorem schema_RightColumn.mono_l : ∀ k, (∀ y0 y1 y2 y3 y4 y5 y6 y7 y8, LeO (schema_RightColumn.j0 k y0 y1 y2 y3 y4 y5 y6 y7 y8) (schema_RightColumn.j0 (k + 1) y0 y1 y2 y3 y4 y5 y6 y7 y8))
 | 0 => fun _ _ _ _ _ _ _ _ _ r h => by simp [schema_RightColumn.j0] at h
 | k + 1 => by
  have ih0 := schema_RightColumn.mono_l k
  ·
   intro y0 y1 y2 y3 y4 y5 y6 y7 y8
   unfold schema_RightColumn.j0
   repeat' first
   | (with_reducible exact ih0 _ _ _ _ _ _ _ _ _)
   | (with_reducible exact name_Right.mono _ _)
   | (with_reducible exact typ_Fits.mono _ _ _ _ _ _)
   | (with_reducible exact typ_Right.mono _ _ _)
   | (with_reducible exact LeO.refl _)
   | (with_reducible exact LeO.none _)
   | (with_reducible refine LeO.ite ?_ ?_)
   | (with_reducible refine LeO.bind ?_ (fun _ => ?_))
   | exact ih0 _ _ _ _ _ _ _ _ _
   | exact name_Right.mono _ _
   | exact typ_Fits.mono _ _ _ _ _ _
   | exact typ_Right.mono _ _ _
   | exact LeO.none _
   | refine LeO.ite ?_ ?_
   | refine LeO.bind ?_ (fun _ => ?_)
theorem schema_RightColumn.mono : ∀ a0 a1 a2 a3 a4 a5 a6 a7 k, LeO (schema_RightColumn.f k a0 a1 a2 a3 a4 a5 a6 a7) (schema_RightColumn.f (k + 1) a0 a1 a2 a3 a4 a5 a6 a7) := by
 intro a0 a1 a2 a3 a4 a5 a6 a7 k
 have ih0 := schema_RightColumn.mono_l k
 unfold schema_RightColumn.f
 repeat' first | with_reducible (first | exact ih0 .. | exact name_Right.mono .. | exact typ_Fits.mono .. | exact typ_Right.mono .. | exact LeO.refl .. | exact LeO.none .. | refine LeO.ite ?_ ?_ | refine LeO.bind ?_ (fun _ => ?_)) | exact ih0 .. | exact name_Right.mono .. | exact typ_Fits.mono .. | exact typ_Right.mono .. | exact LeO.none .. | refine LeO.ite ?_ ?_ | refine LeO.bind ?_ (fun _ => ?_)
set_option maxHeartbeats 8000000 in
set_option maxRecDepth 100000 in
theorem schema_RightColumn.calls (k : Nat) (a0_0 : Int) (a0_1 : ByteArray) (a0_2 : Int) (a0_3 : Int) (a0_4 : Bool) (a0_5 : Int) (a0_6 : Int) (a0_7 : ByteArray) (r : Bool) (w : World) (hG : Glob w) (h : schema_RightColumn.f k a0_0 a0_1 a0_2 a0_3 a0_4 a0_5 a0_6 a0_7 = some r) :
  Calls Tryd.prog 112 #[.agg #[.int .i64 a0_0, .string a0_1, .int .i64 a0_2, .int .i64 a0_3, .bool a0_4, .int .i64 a0_5, .int .i64 a0_6, .string a0_7]] w fun e w' => e = .returned (.bool r) ∧ Below w.heap.size w w' := by
 have hu97 := Tryd.underlying97
 have hu48 := Tryd.underlying48
 have hu23 := Tryd.underlying23
 have HG := aM hG
 clear hG
 have HB := aM (Below.refl w.heap.size w)
 have H : (if a0_0 < 0 then (schema_RightColumn.j0 k true a0_0 a0_1 a0_2 a0_3 a0_4 a0_5 a0_6 a0_7) else (if a0_0 ≥ 200 then (schema_RightColumn.j0 k true a0_0 a0_1 a0_2 a0_3 a0_4 a0_5 a0_6 a0_7) else ((name_Right.f k a0_1).bind fun t164 => (if t164 = true then ((typ_Right.f k a0_2 a0_3).bind fun t165 => (schema_RightColumn.j0 k (!t165) a0_0 a0_1 a0_2 a0_3 a0_4 a0_5 a0_6 a0_7)) else (schema_RightColumn.j0 k true a0_0 a0_1 a0_2 a0_3 a0_4 a0_5 a0_6 a0_7))))) = some r := h
 clear h
 have HC2 := aM H
 clear H
 go_enter Tryd.func112, Tryd.ntmps112
 go_upto_region 1 with (first | ((with_reducible refine gate_dst (N := 1) rfl ?_); refine yX (N := 1) (cs := #[.int .i64 a0_0, .string a0_1, .int .i64 a0_2, .int .i64 a0_3, .bool a0_4, .int .i64 a0_5, .int .i64 a0_6, .string a0_7]) (t := 97) ?_; intro gb163 hg w3 hbox hb; have BK163 := aM (hbox); have GW163 := yZ hg (yB HB); have GE163 := yZ hg (yB HB); replace HB := aM (bP (yB HB) hb); clear hb hbox hg))
 (try simp only [Act.put, s1_, s2_, s3_])
 go_cut [22] (fun v22 wc => ∃ (kq : Nat) (x22_1 : Bool), v22 = .bool x22_1 ∧ Aside0 (schema_RightColumn.j0 kq x22_1 a0_0 a0_1 a0_2 a0_3 a0_4 a0_5 a0_6 a0_7 = some r) ∧ Aside0 (kq ≤ k) ∧ Aside0 (wc.heap[gb163]? = some (.cells #[.int .i64 a0_0, .string a0_1, .int .i64 a0_2, .int .i64 a0_3, .bool a0_4, .int .i64 a0_5, .int .i64 a0_6, .string a0_7] 97 (0, 0))) ∧ Aside0 (Below w.heap.size w wc))
 case first =>
  have H := HC2.out
  clear HC2
  by_cases c4 : a0_0 < 0
  ·
   rw [if_pos c4] at H
   have c4b0 : decide (a0_0 < 0) = true := decide_eq_true c4
   clear c4
   (first | rw [c4b0] | (simp only [i64_w, i32_w]; rw [c4b0]) | skip)
   have H' := aM H
   clear H
   obtain ⟨hcz5_0, hcz5_1, hcz5_2, hcz5_3, hcz5_4, hcz5_5, hcz5_6, hcz5_7, hfz5_0, hfz5_1, hfz5_2, hfz5_3, hfz5_4, hfz5_5, hfz5_6, hfz5_7⟩ := cells8 BK163.out
   go_wp2
   go_meet
   case rel => exact ⟨_, (true), yS, H', ⟨yO⟩, ⟨yK BK163⟩, ⟨yG1 HB GE163.out⟩⟩
  ·
   rw [if_neg c4] at H
   have c4b0 : decide (a0_0 < 0) = false := decide_eq_false c4
   clear c4
   (first | rw [c4b0] | (simp only [i64_w, i32_w]; rw [c4b0]) | skip)
   by_cases c6 : a0_0 ≥ 200
   ·
    rw [if_pos c6] at H
    have c6b0 : decide (200 ≤ a0_0) = true := decide_eq_true c6
    clear c6
    have H' := aM H
    clear H
    obtain ⟨hcz7_0, hcz7_1, hcz7_2, hcz7_3, hcz7_4, hcz7_5, hcz7_6, hcz7_7, hfz7_0, hfz7_1, hfz7_2, hfz7_3, hfz7_4, hfz7_5, hfz7_6, hfz7_7⟩ := cells8 BK163.out
    go_wp2
    go_meet
    case rel => exact ⟨_, (true), yS, H', ⟨yO⟩, ⟨yK BK163⟩, ⟨yG1 HB GE163.out⟩⟩
   ·
    rw [if_neg c6] at H
    have c6b0 : decide (200 ≤ a0_0) = false := decide_eq_false c6
    clear c6
    obtain ⟨t164, A8, H⟩ := yb H
    by_cases c9 : t164 = true
    ·
     subst c9
     replace H := yt H
     obtain ⟨t165, A10, H⟩ := yb H
     have H' := aM H
     clear H
     obtain ⟨hcz11_0, hcz11_1, hcz11_2, hcz11_3, hcz11_4, hcz11_5, hcz11_6, hcz11_7, hfz11_0, hfz11_1, hfz11_2, hfz11_3, hfz11_4, hfz11_5, hfz11_6, hfz11_7⟩ := cells8 BK163.out
     go_wp2_with (first | (go_at_call 111; (with_reducible refine (name_Right.calls k a0_1 true _ A8.out).mono ?_); rintro e w' ⟨rfl, ⟨nd, rfl⟩⟩) | (go_at_call 107; (with_reducible refine (typ_Right.calls k a0_2 a0_3 t165 _ A10.out).mono ?_); rintro e w12 ⟨rfl, hb⟩; replace BK163 := aM (kB (yK BK163) hb); replace HB := aM (bP (yG1 HB GE163.out) hb); (try clear hb); (try clear hb2); (try clear hk); (try clear hi)))
     go_meet
     case rel => exact ⟨_, (!t165), yS, H', ⟨yO⟩, ⟨yK BK163⟩, ⟨yG1 HB GE163.out⟩⟩
    ·
     replace c9 := Bool.eq_false_iff.mpr c9
     subst c9
     replace H := yf H
     have H' := aM H
     clear H
     obtain ⟨hcz13_0, hcz13_1, hcz13_2, hcz13_3, hcz13_4, hcz13_5, hcz13_6, hcz13_7, hfz13_0, hfz13_1, hfz13_2, hfz13_3, hfz13_4, hfz13_5, hfz13_6, hfz13_7⟩ := cells8 BK163.out
     go_wp2_with (first | (go_at_call 111; (with_reducible refine (name_Right.calls k a0_1 false _ A8.out).mono ?_); rintro e w' ⟨rfl, ⟨nd, rfl⟩⟩))
     go_meet
     case rel => exact ⟨_, (true), yS, H', ⟨yO⟩, ⟨yK BK163⟩, ⟨yG1 HB GE163.out⟩⟩
 case rest =>
  clear HC2
  obtain ⟨kq, x22_1, rfl, HA, HJ1, BK163, HB⟩ := hcut
  cases kq with
  | zero => exact absurd HA.out (by simp [schema_RightColumn.j0])
  | succ kj1 =>
   have H := HA.out
   clear HA
   simp only [schema_RightColumn.j0] at H
   by_cases c14 : x22_1 = true
   ·
    subst c14
    replace H := yt H
    obtain rfl := Option.some.inj H
    go_wp2
    go_ret
    exact ⟨yE, yG1 HB GE163.out⟩
   ·
    replace c14 := Bool.eq_false_iff.mpr c14
    subst c14
    replace H := yf H
    by_cases c15 : (a0_5 == 0 && (a0_6 == 0 && (a0_7.toList == ([] : List UInt8)))) = true
    ·
     rw [if_pos c15] at H
     have c15b0 : (a0_5 == 0 && (a0_6 == 0 && (a0_7.toList == ([] : List UInt8)))) = true := c15
     (try have c15b0_e : (a0_5 == 0 && (a0_6 == 0 && ((a0_7.toList.isEmpty)))) = true := by have h_ := c15b0; simp only [hp_nil] at h_; exact h_)
     (try (have c15b1 : decide (a0_5 = 0 && (a0_6 == 0 && (a0_7.toList == ([] : List UInt8)))) = true := by simpa using c15))
     (try have c15b1_e : decide (a0_5 = 0 && (a0_6 == 0 && ((a0_7.toList.isEmpty)))) = true := by have h_ := c15b1; simp only [hp_nil] at h_; exact h_)
     (try (have c15b2 : (a0_5 == 0 && (a0_6 == 0 && (a0_7.toList == ([] : List UInt8)))) = true := by simpa using c15))
     (try have c15b2_e : (a0_5 == 0 && (a0_6 == 0 && ((a0_7.toList.isEmpty)))) = true := by have h_ := c15b2; simp only [hp_nil] at h_; exact h_)
     clear c15
     obtain rfl := Option.some.inj H
     obtain ⟨hcz16_0, hcz16_1, hcz16_2, hcz16_3, hcz16_4, hcz16_5, hcz16_6, hcz16_7, hfz16_0, hfz16_1, hfz16_2, hfz16_3, hfz16_4, hfz16_5, hfz16_6, hfz16_7⟩ := cells8 BK163.out
     go_wp2
     go_ret
     exact ⟨yE, yG1 HB GE163.out⟩
    ·
     rw [if_neg c15] at H
     have c15b0 : (a0_5 == 0 && (a0_6 == 0 && (a0_7.toList == ([] : List UInt8)))) = false := by simpa using c15
     (try have c15b0_e : (a0_5 == 0 && (a0_6 == 0 && ((a0_7.toList.isEmpty)))) = false := by have h_ := c15b0; simp only [hp_nil] at h_; exact h_)
     (try (have c15b1 : decide (a0_5 = 0 && (a0_6 == 0 && (a0_7.toList == ([] : List UInt8)))) = false := by simpa using c15))
     (try have c15b1_e : decide (a0_5 = 0 && (a0_6 == 0 && ((a0_7.toList.isEmpty)))) = false := by have h_ := c15b1; simp only [hp_nil] at h_; exact h_)
     (try (have c15b2 : (a0_5 == 0 && (a0_6 == 0 && (a0_7.toList == ([] : List UInt8)))) = false := by simpa using c15))
     (try have c15b2_e : (a0_5 == 0 && (a0_6 == 0 && ((a0_7.toList.isEmpty)))) = false := by have h_ := c15b2; simp only [hp_nil] at h_; exact h_)
     (try (have c15b3 : ¬ (a0_5 = 0 && (a0_6 == 0 && (a0_7.toList == ([] : List UInt8)))) := by simpa using c15))
     (try have c15b3_e : ¬ (a0_5 = 0 && (a0_6 == 0 && ((a0_7.toList.isEmpty)))) := by have h_ := c15b3; simp only [hp_nil] at h_; exact h_)
     clear c15
     obtain ⟨t166, A17, H⟩ := yb H
     obtain rfl := Option.some.inj H
     obtain ⟨hcz18_0, hcz18_1, hcz18_2, hcz18_3, hcz18_4, hcz18_5, hcz18_6, hcz18_7, hfz18_0, hfz18_1, hfz18_2, hfz18_3, hfz18_4, hfz18_5, hfz18_6, hfz18_7⟩ := cells8 BK163.out
     go_wp2_with (first | (go_at_call 133; (with_reducible refine (typ_Fits.calls kj1 a0_2 a0_3 a0_5 a0_6 a0_7 t166 _ ?side1 A17.out).mono ?_); (case side1 => first | (with_reducible exact HG.out) | exact Glob.below HG.out (yG1 HB GE163.out)); rintro e w19 ⟨rfl, hb⟩; replace BK163 := aM (kB (yK BK163) hb); replace HB := aM (bP (yG1 HB GE163.out) hb); (try clear hb); (try clear hb2); (try clear hk); (try clear hi)))
     go_ret
     exact ⟨yE, yG1 HB GE163.out⟩
end Go.Proofs.YtgefikclhfjcgaaDoor.HCatcodeValues

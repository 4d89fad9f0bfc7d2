/- For Go functions that RowcodeKeys reaches: Lean functions, and walks that show that each call comes to what its Lean function tells; no condition but those that each theorem states. (Made by a program of this session over the kit's print.py.) -/
import Derived.Test.YtdeophpjammbpaaDoorHRowcodeKeysx0
import Derived.Test.YtdeophpjammbpaaDoorHRowcodeKeysx1
import Derived.Test.YtdeophpjammbpaaDoorHRowcodeKeysx2
import Derived.Test.YtdeophpjammbpaaDoorHRowcodeKeysx4
namespace Go.Proofs.YtdeophpjammbpaaDoor.HRowcodeKeys
open Go.RowKit Go.Proofs.YtdeophpjammbpaaDoorW.PrintWords Go.Proofs.YtdeophpjammbpaaDoorW.PrintLast Go.Proofs.YtdeophpjammbpaaDoorW.PrintMore
attribute [local go_sem] max2_int min2_int max_two min_two max_three min_three max_four min_four   -- for this text's walks alone
set_option linter.unusedVariables false
set_option linter.unusedSimpArgs false
attribute [local go_sem] hp_s8 hp_s16 hp_s32 hp_s64 hp_m8 hp_m16 hp_m32 hp_m64
attribute [local go_sem high] eqA52
/-! ### schema_RightColumn: function 28 -/
def schema_RightColumn.j0 : Nat → Bool → Int → ByteArray → Int → Int → Bool → Int → Int → ByteArray → Option (Bool)
 | 0, _, _, _, _, _, _, _, _, _ => none
 | k + 1, x22, x127000, x127001, x127002, x127003, x127004, x127005, x127006, x127007 => if x22 = true then (some false) else (if (x127005 == 0 && (x127006 == 0 && (x127007.toList == ([] : List UInt8)))) = true then (some true) else ((typ_Fits.f k x127002 x127003 x127005 x127006 x127007).bind fun t129 => (some t129)))
def schema_RightColumn.f (k : Nat) (a0_0 : Int) (a0_1 : ByteArray) (a0_2 : Int) (a0_3 : Int) (a0_4 : Bool) (a0_5 : Int) (a0_6 : Int) (a0_7 : ByteArray) : Option (Bool) := if a0_0 < 0 then (schema_RightColumn.j0 k true a0_0 a0_1 a0_2 a0_3 a0_4 a0_5 a0_6 a0_7) else (if a0_0 ≥ 200 then (schema_RightColumn.j0 k true a0_0 a0_1 a0_2 a0_3 a0_4 a0_5 a0_6 a0_7) else ((name_Right.f k a0_1).bind fun t127 => (if t127 = true then ((typ_Right.f k a0_2 a0_3).bind fun t128 => (schema_RightColumn.j0 k (!t128) a0_0 a0_1 a0_2 a0_3 a0_4 a0_5 a0_6 a0_7)) else (schema_RightColumn.j0 k true a0_0 a0_1 a0_2 a0_3 a0_4 a0_5 a0_6 a0_7))))
theorem schema_RightColumn.mono_l : ∀ k, (∀ y0 y1 y2 y3 y4 y5 y6 y7 y8, LeO (schema_RightColumn.j0 k y0 y1 y2 y3 y4 y5 y6 y7 y8) (schema_RightColumn.j0 (k + 1) y0 y1 y2 y3 y4 y5 y6 y7 y8))
 | 0 => fun _ _ _ _ _ _ _ _ _ r h => by simp [schema_RightColumn.j0] at h
 | k + 1 => by
  have ih0 := schema_RightColumn.mono_l k
  ·
   intro y0 y1 y2 y3 y4 y5 y6 y7 y8
   unfold schema_RightColumn.j0
   repeat' first
   | (with_reducible exact ih0 _ _ _ _ _ _ _ _ _)
   | (with_reducible exact name_Right.mono _ _)
   | (with_reducible exact typ_Fits.mono _ _ _ _ _ _)
   | (with_reducible exact typ_Right.mono _ _ _)
   | (with_reducible exact LeO.refl _)
   | (with_reducible exact LeO.none _)
   | (with_reducible refine LeO.ite ?_ ?_)
   | (with_reducible refine LeO.bind ?_ (fun _ => ?_))
   | exact ih0 _ _ _ _ _ _ _ _ _
   | exact name_Right.mono _ _
   | exact typ_Fits.mono _ _ _ _ _ _
   | exact typ_Right.mono _ _ _
   | exact LeO.none _
   | refine LeO.ite ?_ ?_
   | refine LeO.bind ?_ (fun _ => ?_)
theorem schema_RightColumn.mono : ∀ a0 a1 a2 a3 a4 a5 a6 a7 k, LeO (schema_RightColumn.f k a0 a1 a2 a3 a4 a5 a6 a7) (schema_RightColumn.f (k + 1) a0 a1 a2 a3 a4 a5 a6 a7) := by
 intro a0 a1 a2 a3 a4 a5 a6 a7 k
 have ih0 := schema_RightColumn.mono_l k
 unfold schema_RightColumn.f
 repeat' first | with_reducible (first | exact ih0 .. | exact name_Right.mono .. | exact typ_Fits.mono .. | exact typ_Right.mono .. | exact LeO.refl .. | exact LeO.none .. | refine LeO.ite ?_ ?_ | refine LeO.bind ?_ (fun _ => ?_)) | exact ih0 .. | exact name_Right.mono .. | exact typ_Fits.mono .. | exact typ_Right.mono .. | exact LeO.none .. | refine LeO.ite ?_ ?_ | refine LeO.bind ?_ (fun _ => ?_)
set_option maxHeartbeats 8000000 in
set_option maxRecDepth 100000 in
theorem schema_RightColumn.calls (k : Nat) (a0_0 : Int) (a0_1 : ByteArray) (a0_2 : Int) (a0_3 : Int) (a0_4 : Bool) (a0_5 : Int) (a0_6 : Int) (a0_7 : ByteArray) (r : Bool) (w : World) (hG : Glob w) (h : schema_RightColumn.f k a0_0 a0_1 a0_2 a0_3 a0_4 a0_5 a0_6 a0_7 = some r) :
  Calls Tryd.prog 28 #[.agg #[.int .i64 a0_0, .string a0_1, .int .i64 a0_2, .int .i64 a0_3, .bool a0_4, .int .i64 a0_5, .int .i64 a0_6, .string a0_7]] w fun e w' => e = .returned (.bool r) ∧ Below w.heap.size w w' := by
 have hu54 := Tryd.underlying54
 have hu50 := Tryd.underlying50
 have hu52 := Tryd.underlying52
 have HG := aM hG
 clear hG
 have HB := aM (Below.refl w.heap.size w)
 have H : (if a0_0 < 0 then (schema_RightColumn.j0 k true a0_0 a0_1 a0_2 a0_3 a0_4 a0_5 a0_6 a0_7) else (if a0_0 ≥ 200 then (schema_RightColumn.j0 k true a0_0 a0_1 a0_2 a0_3 a0_4 a0_5 a0_6 a0_7) else ((name_Right.f k a0_1).bind fun t127 => (if t127 = true then ((typ_Right.f k a0_2 a0_3).bind fun t128 => (schema_RightColumn.j0 k (!t128) a0_0 a0_1 a0_2 a0_3 a0_4 a0_5 a0_6 a0_7)) else (schema_RightColumn.j0 k true a0_0 a0_1 a0_2 a0_3 a0_4 a0_5 a0_6 a0_7))))) = some r := h
 clear h
 have HC2 := aM H
 clear H
 go_enter Tryd.func28, Tryd.ntmps28
 go_upto_region 1 with (first | ((with_reducible refine gate_dst (N := 1) rfl ?_); refine yX (N := 1) (cs := #[.int .i64 a0_0, .string a0_1, .int .i64 a0_2, .int .i64 a0_3, .bool a0_4, .int .i64 a0_5, .int .i64 a0_6, .string a0_7]) (t := 54) ?_; intro gb126 hg w3 hbox hb; have BK126 := aM (hbox); have GW126 := yZ hg (yB HB); have GE126 := yZ hg (yB HB); replace HB := aM (bP (yB HB) hb); clear hb hbox hg))
 (try simp only [Act.put, s1_, s2_, s3_])
 go_cut [22] (fun v22 wc => ∃ (kq : Nat) (x22_1 : Bool), v22 = .bool x22_1 ∧ Aside0 (schema_RightColumn.j0 kq x22_1 a0_0 a0_1 a0_2 a0_3 a0_4 a0_5 a0_6 a0_7 = some r) ∧ Aside0 (kq ≤ k) ∧ Aside0 (wc.heap[gb126]? = some (.cells #[.int .i64 a0_0, .string a0_1, .int .i64 a0_2, .int .i64 a0_3, .bool a0_4, .int .i64 a0_5, .int .i64 a0_6, .string a0_7] 54 (0, 0))) ∧ Aside0 (Below w.heap.size w wc))
 case first =>
  have H := HC2.out
  clear HC2
  by_cases c4 : a0_0 < 0
  ·
   rw [if_pos c4] at H
   have c4b0 : decide (a0_0 < 0) = true := decide_eq_true c4
   clear c4
   (first | rw [c4b0] | (simp only [i64_w, i32_w]; rw [c4b0]) | skip)
   have H' := aM H
   clear H
   obtain ⟨hcz5_0, hcz5_1, hcz5_2, hcz5_3, hcz5_4, hcz5_5, hcz5_6, hcz5_7, hfz5_0, hfz5_1, hfz5_2, hfz5_3, hfz5_4, hfz5_5, hfz5_6, hfz5_7⟩ := cells8 BK126.out
   go_wp2
   go_meet
   case rel => exact ⟨_, (true), yS, H', ⟨yO⟩, ⟨yK BK126⟩, ⟨yG1 HB GE126.out⟩⟩
  ·
   rw [if_neg c4] at H
   have c4b0 : decide (a0_0 < 0) = false := decide_eq_false c4
   clear c4
   (first | rw [c4b0] | (simp only [i64_w, i32_w]; rw [c4b0]) | skip)
   by_cases c6 : a0_0 ≥ 200
   ·
    rw [if_pos c6] at H
    have c6b0 : decide (200 ≤ a0_0) = true := decide_eq_true c6
    clear c6
    have H' := aM H
    clear H
    obtain ⟨hcz7_0, hcz7_1, hcz7_2, hcz7_3, hcz7_4, hcz7_5, hcz7_6, hcz7_7, hfz7_0, hfz7_1, hfz7_2, hfz7_3, hfz7_4, hfz7_5, hfz7_6, hfz7_7⟩ := cells8 BK126.out
    go_wp2
    go_meet
    case rel => exact ⟨_, (true), yS, H', ⟨yO⟩, ⟨yK BK126⟩, ⟨yG1 HB GE126.out⟩⟩
   ·
    rw [if_neg c6] at H
    have c6b0 : decide (200 ≤ a0_0) = false := decide_eq_false c6
    clear c6
    obtain ⟨t127, A8, H⟩ := yb H
    by_cases c9 : t127 = true
    ·
     subst c9
     replace H := yt H
     obtain ⟨t128, A10, H⟩ := yb H
     have H' := aM H
     clear H
     obtain ⟨hcz11_0, hcz11_1, hcz11_2, hcz11_3, hcz11_4, hcz11_5, hcz11_6, hcz11_7, hfz11_0, hfz11_1, hfz11_2, hfz11_3, hfz11_4, hfz11_5, hfz11_6, hfz11_7⟩ := cells8 BK126.out
     go_wp2_with (first | (go_at_call 68; (with_reducible refine (name_Right.calls k a0_1 true _ A8.out).mono ?_); rintro e w' ⟨rfl, ⟨nd, rfl⟩⟩) | (go_at_call 70; (with_reducible refine (typ_Right.calls k a0_2 a0_3 t128 _ A10.out).mono ?_); rintro e w12 ⟨rfl, hb⟩; replace BK126 := aM (kB (yK BK126) hb); replace HB := aM (bP (yG1 HB GE126.out) hb); (try clear hb); (try clear hb2); (try clear hk); (try clear hi)))
     go_meet
     case rel => exact ⟨_, (!t128), yS, H', ⟨yO⟩, ⟨yK BK126⟩, ⟨yG1 HB GE126.out⟩⟩
    ·
     replace c9 := Bool.eq_false_iff.mpr c9
     subst c9
     replace H := yf H
     have H' := aM H
     clear H
     obtain ⟨hcz13_0, hcz13_1, hcz13_2, hcz13_3, hcz13_4, hcz13_5, hcz13_6, hcz13_7, hfz13_0, hfz13_1, hfz13_2, hfz13_3, hfz13_4, hfz13_5, hfz13_6, hfz13_7⟩ := cells8 BK126.out
     go_wp2_with (first | (go_at_call 68; (with_reducible refine (name_Right.calls k a0_1 false _ A8.out).mono ?_); rintro e w' ⟨rfl, ⟨nd, rfl⟩⟩))
     go_meet
     case rel => exact ⟨_, (true), yS, H', ⟨yO⟩, ⟨yK BK126⟩, ⟨yG1 HB GE126.out⟩⟩
 case rest =>
  clear HC2
  obtain ⟨kq, x22_1, rfl, HA, HJ1, BK126, HB⟩ := hcut
  cases kq with
  | zero => exact absurd HA.out (by simp [schema_RightColumn.j0])
  | succ kj1 =>
   have H := HA.out
   clear HA
   simp only [schema_RightColumn.j0] at H
   by_cases c14 : x22_1 = true
   ·
    subst c14
    replace H := yt H
    obtain rfl := Option.some.inj H
    go_wp2
    go_ret
    exact ⟨yE, yG1 HB GE126.out⟩
   ·
    replace c14 := Bool.eq_false_iff.mpr c14
    subst c14
    replace H := yf H
    by_cases c15 : (a0_5 == 0 && (a0_6 == 0 && (a0_7.toList == ([] : List UInt8)))) = true
    ·
     rw [if_pos c15] at H
     have c15b0 : (a0_5 == 0 && (a0_6 == 0 && (a0_7.toList == ([] : List UInt8)))) = true := c15
     (try have c15b0_e : (a0_5 == 0 && (a0_6 == 0 && ((a0_7.toList.isEmpty)))) = true := by have h_ := c15b0; simp only [hp_nil] at h_; exact h_)
     (try (have c15b1 : decide (a0_5 = 0 && (a0_6 == 0 && (a0_7.toList == ([] : List UInt8)))) = true := by simpa using c15))
     (try have c15b1_e : decide (a0_5 = 0 && (a0_6 == 0 && ((a0_7.toList.isEmpty)))) = true := by have h_ := c15b1; simp only [hp_nil] at h_; exact h_)
     (try (have c15b2 : (a0_5 == 0 && (a0_6 == 0 && (a0_7.toList == ([] : List UInt8)))) = true := by simpa using c15))
     (try have c15b2_e : (a0_5 == 0 && (a0_6 == 0 && ((a0_7.toList.isEmpty)))) = true := by have h_ := c15b2; simp only [hp_nil] at h_; exact h_)
     clear c15
     obtain rfl := Option.some.inj H
     obtain ⟨hcz16_0, hcz16_1, hcz16_2, hcz16_3, hcz16_4, hcz16_5, hcz16_6, hcz16_7, hfz16_0, hfz16_1, hfz16_2, hfz16_3, hfz16_4, hfz16_5, hfz16_6, hfz16_7⟩ := cells8 BK126.out
     go_wp2
     go_ret
     exact ⟨yE, yG1 HB GE126.out⟩
    ·
     rw [if_neg c15] at H
     have c15b0 : (a0_5 == 0 && (a0_6 == 0 && (a0_7.toList == ([] : List UInt8)))) = false := by simpa using c15
     (try have c15b0_e : (a0_5 == 0 && (a0_6 == 0 && ((a0_7.toList.isEmpty)))) = false := by have h_ := c15b0; simp only [hp_nil] at h_; exact h_)
     (try (have c15b1 : decide (a0_5 = 0 && (a0_6 == 0 && (a0_7.toList == ([] : List UInt8)))) = false := by simpa using c15))
     (try have c15b1_e : decide (a0_5 = 0 && (a0_6 == 0 && ((a0_7.toList.isEmpty)))) = false := by have h_ := c15b1; simp only [hp_nil] at h_; exact h_)
     (try (have c15b2 : (a0_5 == 0 && (a0_6 == 0 && (a0_7.toList == ([] : List UInt8)))) = false := by simpa using c15))
     (try have c15b2_e : (a0_5 == 0 && (a0_6 == 0 && ((a0_7.toList.isEmpty)))) = false := by have h_ := c15b2; simp only [hp_nil] at h_; exact h_)
     (try (have c15b3 : ¬ (a0_5 = 0 && (a0_6 == 0 && (a0_7.toList == ([] : List UInt8)))) := by simpa using c15))
     (try have c15b3_e : ¬ (a0_5 = 0 && (a0_6 == 0 && ((a0_7.toList.isEmpty)))) := by have h_ := c15b3; simp only [hp_nil] at h_; exact h_)
     clear c15
     obtain ⟨t129, A17, H⟩ := yb H
     obtain rfl := Option.some.inj H
     obtain ⟨hcz18_0, hcz18_1, hcz18_2, hcz18_3, hcz18_4, hcz18_5, hcz18_6, hcz18_7, hfz18_0, hfz18_1, hfz18_2, hfz18_3, hfz18_4, hfz18_5, hfz18_6, hfz18_7⟩ := cells8 BK126.out
     go_wp2_with (first | (go_at_call 71; (with_reducible refine (typ_Fits.calls kj1 a0_2 a0_3 a0_5 a0_6 a0_7 t129 _ ?side1 A17.out).mono ?_); (case side1 => first | (with_reducible exact HG.out) | exact Glob.below HG.out (yG1 HB GE126.out)); rintro e w19 ⟨rfl, hb⟩; replace BK126 := aM (kB (yK BK126) hb); replace HB := aM (bP (yG1 HB GE126.out) hb); (try clear hb); (try clear hb2); (try clear hk); (try clear hi)))
     go_ret
     exact ⟨yE, yG1 HB GE126.out⟩
end Go.Proofs.YtdeophpjammbpaaDoor.HRowcodeKeys

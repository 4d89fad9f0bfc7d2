/- For Go functions that RowcodeKeys reaches: Lean functions, and walks that show that each call comes to what its Lean function tells; no condition but those that each theorem states. (Made by a program of this session over the kit's print.py.) -/
import Derived.Test.YtdeophpjammbpaaDoorHRowcodeKeysx0
import Derived.Test.YtdeophpjammbpaaDoorHRowcodeKeysx1
import Derived.Test.YtdeophpjammbpaaDoorHRowcodeKeysx4
import Derived.Test.YtdeophpjammbpaaDoorHRowcodeKeysx6
namespace Go.Proofs.YtdeophpjammbpaaDoor.HRowcodeKeys
open Go.RowKit Go.Proofs.YtdeophpjammbpaaDoorW.PrintWords Go.Proofs.YtdeophpjammbpaaDoorW.PrintLast Go.Proofs.YtdeophpjammbpaaDoorW.PrintMore
attribute [local go_sem] max2_int min2_int max_two min_two max_three min_three max_four min_four   -- for this text's walks alone
set_option linter.unusedVariables false
set_option linter.unusedSimpArgs false
attribute [local go_sem] hp_s8 hp_s16 hp_s32 hp_s64 hp_m8 hp_m16 hp_m32 hp_m64
attribute [local go_sem high] eqA52
/-! ### schema_one: function 94 -/
def schema_one.j0 : Nat → Bool → Int → ByteArray → Int → Int → Bool → Int → Int → ByteArray → Int → Int → ByteArray → Option (Int)
 | 0, _, _, _, _, _, _, _, _, _, _, _, _ => none
 | k + 1, x5, x140000, x140001, x140002, x140003, x140004, x140005, x140006, x140007, x141000, x141001, x141002 => if x5 = true then (some 0) else (if (x141000 == 0 && (x141001 == 0 && (x141002.toList == ([] : List UInt8)))) = true then (some 11) else ((typ_Fits.f k x140002 x140003 x141000 x141001 x141002).bind fun t141 => (if t141 = true then (some 0) else (some 10))))
def schema_one.f (k : Nat) (a0_0 : Int) (a0_1 : ByteArray) (a0_2 : Int) (a0_3 : Int) (a0_4 : Bool) (a0_5 : Int) (a0_6 : Int) (a0_7 : ByteArray) (a1_0 : Int) (a1_1 : Int) (a1_2 : ByteArray) : Option (Int) := if (a1_0 == 0 && (a1_1 == 0 && (a1_2.toList == ([] : List UInt8)))) = true then (schema_one.j0 k a0_4 a0_0 a0_1 a0_2 a0_3 a0_4 a0_5 a0_6 a0_7 a1_0 a1_1 a1_2) else (schema_one.j0 k false a0_0 a0_1 a0_2 a0_3 a0_4 a0_5 a0_6 a0_7 a1_0 a1_1 a1_2)
theorem schema_one.mono_l : ∀ k, (∀ y0 y1 y2 y3 y4 y5 y6 y7 y8 y9 y10 y11, LeO (schema_one.j0 k y0 y1 y2 y3 y4 y5 y6 y7 y8 y9 y10 y11) (schema_one.j0 (k + 1) y0 y1 y2 y3 y4 y5 y6 y7 y8 y9 y10 y11))
 | 0 => fun _ _ _ _ _ _ _ _ _ _ _ _ r h => by simp [schema_one.j0] at h
 | k + 1 => by
  have ih0 := schema_one.mono_l k
  ·
   intro y0 y1 y2 y3 y4 y5 y6 y7 y8 y9 y10 y11
   unfold schema_one.j0
   repeat' first
   | (with_reducible exact ih0 _ _ _ _ _ _ _ _ _ _ _ _)
   | (with_reducible exact typ_Fits.mono _ _ _ _ _ _)
   | (with_reducible exact LeO.refl _)
   | (with_reducible exact LeO.none _)
   | (with_reducible refine LeO.ite ?_ ?_)
   | (with_reducible refine LeO.bind ?_ (fun _ => ?_))
   | exact ih0 _ _ _ _ _ _ _ _ _ _ _ _
   | exact typ_Fits.mono _ _ _ _ _ _
   | exact LeO.none _
   | refine LeO.ite ?_ ?_
   | refine LeO.bind ?_ (fun _ => ?_)
theorem schema_one.mono : ∀ a0 a1 a2 a3 a4 a5 a6 a7 a8 a9 a10 k, LeO (schema_one.f k a0 a1 a2 a3 a4 a5 a6 a7 a8 a9 a10) (schema_one.f (k + 1) a0 a1 a2 a3 a4 a5 a6 a7 a8 a9 a10) := by
 intro a0 a1 a2 a3 a4 a5 a6 a7 a8 a9 a10 k
 have ih0 := schema_one.mono_l k
 unfold schema_one.f
 repeat' first | with_reducible (first | exact ih0 .. | exact typ_Fits.mono .. | exact LeO.refl .. | exact LeO.none .. | refine LeO.ite ?_ ?_ | refine LeO.bind ?_ (fun _ => ?_)) | exact ih0 .. | exact typ_Fits.mono .. | exact LeO.none .. | refine LeO.ite ?_ ?_ | refine LeO.bind ?_ (fun _ => ?_)
set_option maxHeartbeats 8000000 in
set_option maxRecDepth 100000 in
theorem schema_one.calls (k : Nat) (a0_0 : Int) (a0_1 : ByteArray) (a0_2 : Int) (a0_3 : Int) (a0_4 : Bool) (a0_5 : Int) (a0_6 : Int) (a0_7 : ByteArray) (a1_0 : Int) (a1_1 : Int) (a1_2 : ByteArray) (r : Int) (w : World) (hG : Glob w) (h : schema_one.f k a0_0 a0_1 a0_2 a0_3 a0_4 a0_5 a0_6 a0_7 a1_0 a1_1 a1_2 = some r) :
  Calls Tryd.prog 94 #[.agg #[.int .i64 a0_0, .string a0_1, .int .i64 a0_2, .int .i64 a0_3, .bool a0_4, .int .i64 a0_5, .int .i64 a0_6, .string a0_7], .agg #[.int .i64 a1_0, .int .i64 a1_1, .string a1_2]] w fun e w' => e = .returned (.int .i64 r) ∧ Below w.heap.size w w' := by
 have hu54 := Tryd.underlying54
 have hu52 := Tryd.underlying52
 have hu50 := Tryd.underlying50
 have HG := aM hG
 clear hG
 have HB := aM (Below.refl w.heap.size w)
 have H : (if (a1_0 == 0 && (a1_1 == 0 && (a1_2.toList == ([] : List UInt8)))) = true then (schema_one.j0 k a0_4 a0_0 a0_1 a0_2 a0_3 a0_4 a0_5 a0_6 a0_7 a1_0 a1_1 a1_2) else (schema_one.j0 k false a0_0 a0_1 a0_2 a0_3 a0_4 a0_5 a0_6 a0_7 a1_0 a1_1 a1_2)) = some r := h
 clear h
 have HC3 := aM H
 clear H
 go_enter Tryd.func94, Tryd.ntmps94
 go_upto_region 1 with (first | ((with_reducible refine gate_dst (N := 2) rfl ?_); refine yX (N := 2) (cs := #[.int .i64 a0_0, .string a0_1, .int .i64 a0_2, .int .i64 a0_3, .bool a0_4, .int .i64 a0_5, .int .i64 a0_6, .string a0_7]) (t := 54) ?_; intro gb139 hg w4 hbox hb; have BK139 := aM (hbox); have GW139 := yZ hg (yB HB); have GE139 := yZ hg (yB HB); replace HB := aM (bP (yB HB) hb); clear hb hbox hg) | ((with_reducible refine gate_dst (N := 3) rfl ?_); refine yX (N := 3) (cs := #[.int .i64 a1_0, .int .i64 a1_1, .string a1_2]) (t := 52) ?_; intro gb140 hg w5 hbox hb; have BK140 := aM (hbox); have GW140 := yZ hg (yG1 HB GE139.out); have GE140 := yZ hg (yG1 HB GE139.out); replace HB := aM (bP (yG1 HB GE139.out) hb); have NB139_140 := yN hg (yK BK139); have NB140_139 := yM hg (yK BK139); replace BK139 := aM (kB (yK BK139) hb); clear hb hbox hg))
 (try simp only [Act.put, s1_, s2_, s3_])
 go_cut [5] (fun v5 wc => ∃ (kq : Nat) (x5_2 : Bool), v5 = .bool x5_2 ∧ Aside0 (schema_one.j0 kq x5_2 a0_0 a0_1 a0_2 a0_3 a0_4 a0_5 a0_6 a0_7 a1_0 a1_1 a1_2 = some r) ∧ Aside0 (kq ≤ k) ∧ Aside0 (wc.heap[gb139]? = some (.cells #[.int .i64 a0_0, .string a0_1, .int .i64 a0_2, .int .i64 a0_3, .bool a0_4, .int .i64 a0_5, .int .i64 a0_6, .string a0_7] 54 (0, 0))) ∧ Aside0 (wc.heap[gb140]? = some (.cells #[.int .i64 a1_0, .int .i64 a1_1, .string a1_2] 52 (0, 0))) ∧ Aside0 (Below w.heap.size w wc))
 case first =>
  have H := HC3.out
  clear HC3
  by_cases c6 : (a1_0 == 0 && (a1_1 == 0 && (a1_2.toList == ([] : List UInt8)))) = true
  ·
   rw [if_pos c6] at H
   have c6b0 : (a1_0 == 0 && (a1_1 == 0 && (a1_2.toList == ([] : List UInt8)))) = true := c6
   (try have c6b0_e : (a1_0 == 0 && (a1_1 == 0 && ((a1_2.toList.isEmpty)))) = true := by have h_ := c6b0; simp only [hp_nil] at h_; exact h_)
   (try (have c6b1 : decide (a1_0 = 0 && (a1_1 == 0 && (a1_2.toList == ([] : List UInt8)))) = true := by simpa using c6))
   (try have c6b1_e : decide (a1_0 = 0 && (a1_1 == 0 && ((a1_2.toList.isEmpty)))) = true := by have h_ := c6b1; simp only [hp_nil] at h_; exact h_)
   (try (have c6b2 : (a1_0 == 0 && (a1_1 == 0 && (a1_2.toList == ([] : List UInt8)))) = true := by simpa using c6))
   (try have c6b2_e : (a1_0 == 0 && (a1_1 == 0 && ((a1_2.toList.isEmpty)))) = true := by have h_ := c6b2; simp only [hp_nil] at h_; exact h_)
   clear c6
   (first | rw [c6b0] | (simp only [i64_w, i32_w]; rw [c6b0]) | skip)
   have H' := aM H
   clear H
   have hnb7 := NB140_139.out
   have hnc7 := NB139_140.out
   obtain ⟨hcz8_0, hcz8_1, hcz8_2, hfz8_0, hfz8_1, hfz8_2⟩ := cells3 BK140.out
   obtain ⟨hcz9_0, hcz9_1, hcz9_2, hcz9_3, hcz9_4, hcz9_5, hcz9_6, hcz9_7, hfz9_0, hfz9_1, hfz9_2, hfz9_3, hfz9_4, hfz9_5, hfz9_6, hfz9_7⟩ := cells8 BK139.out
   go_wp2
   go_meet
   case rel => exact ⟨_, (a0_4), yS, H', ⟨yO⟩, ⟨yK BK139⟩, ⟨yK BK140⟩, ⟨yG2 HB GE139.out GE140.out⟩⟩
  ·
   rw [if_neg c6] at H
   have c6b0 : (a1_0 == 0 && (a1_1 == 0 && (a1_2.toList == ([] : List UInt8)))) = false := by simpa using c6
   (try have c6b0_e : (a1_0 == 0 && (a1_1 == 0 && ((a1_2.toList.isEmpty)))) = false := by have h_ := c6b0; simp only [hp_nil] at h_; exact h_)
   (try (have c6b1 : decide (a1_0 = 0 && (a1_1 == 0 && (a1_2.toList == ([] : List UInt8)))) = false := by simpa using c6))
   (try have c6b1_e : decide (a1_0 = 0 && (a1_1 == 0 && ((a1_2.toList.isEmpty)))) = false := by have h_ := c6b1; simp only [hp_nil] at h_; exact h_)
   (try (have c6b2 : (a1_0 == 0 && (a1_1 == 0 && (a1_2.toList == ([] : List UInt8)))) = false := by simpa using c6))
   (try have c6b2_e : (a1_0 == 0 && (a1_1 == 0 && ((a1_2.toList.isEmpty)))) = false := by have h_ := c6b2; simp only [hp_nil] at h_; exact h_)
   (try (have c6b3 : ¬ (a1_0 = 0 && (a1_1 == 0 && (a1_2.toList == ([] : List UInt8)))) := by simpa using c6))
   (try have c6b3_e : ¬ (a1_0 = 0 && (a1_1 == 0 && ((a1_2.toList.isEmpty)))) := by have h_ := c6b3; simp only [hp_nil] at h_; exact h_)
   clear c6
   (first | rw [c6b0] | (simp only [i64_w, i32_w]; rw [c6b0]) | skip)
   have H' := aM H
   clear H
   have hnb10 := NB140_139.out
   have hnc10 := NB139_140.out
   obtain ⟨hcz11_0, hcz11_1, hcz11_2, hfz11_0, hfz11_1, hfz11_2⟩ := cells3 BK140.out
   go_wp2
   go_meet
   case rel => exact ⟨_, (false), yS, H', ⟨yO⟩, ⟨yK BK139⟩, ⟨yK BK140⟩, ⟨yG2 HB GE139.out GE140.out⟩⟩
 case rest =>
  clear HC3
  obtain ⟨kq, x5_2, rfl, HA, HJ2, BK139, BK140, HB⟩ := hcut
  cases kq with
  | zero => exact absurd HA.out (by simp [schema_one.j0])
  | succ kj2 =>
   have H := HA.out
   clear HA
   simp only [schema_one.j0] at H
   by_cases c12 : x5_2 = true
   ·
    subst c12
    replace H := yt H
    obtain rfl := Option.some.inj H
    go_wp2
    go_ret
    exact ⟨yE, yG2 HB GE139.out GE140.out⟩
   ·
    replace c12 := Bool.eq_false_iff.mpr c12
    subst c12
    replace H := yf H
    by_cases c13 : (a1_0 == 0 && (a1_1 == 0 && (a1_2.toList == ([] : List UInt8)))) = true
    ·
     rw [if_pos c13] at H
     have c13b0 : (a1_0 == 0 && (a1_1 == 0 && (a1_2.toList == ([] : List UInt8)))) = true := c13
     (try have c13b0_e : (a1_0 == 0 && (a1_1 == 0 && ((a1_2.toList.isEmpty)))) = true := by have h_ := c13b0; simp only [hp_nil] at h_; exact h_)
     (try (have c13b1 : decide (a1_0 = 0 && (a1_1 == 0 && (a1_2.toList == ([] : List UInt8)))) = true := by simpa using c13))
     (try have c13b1_e : decide (a1_0 = 0 && (a1_1 == 0 && ((a1_2.toList.isEmpty)))) = true := by have h_ := c13b1; simp only [hp_nil] at h_; exact h_)
     (try (have c13b2 : (a1_0 == 0 && (a1_1 == 0 && (a1_2.toList == ([] : List UInt8)))) = true := by simpa using c13))
     (try have c13b2_e : (a1_0 == 0 && (a1_1 == 0 && ((a1_2.toList.isEmpty)))) = true := by have h_ := c13b2; simp only [hp_nil] at h_; exact h_)
     clear c13
     obtain rfl := Option.some.inj H
     have hnb14 := NB140_139.out
     have hnc14 := NB139_140.out
     obtain ⟨hcz15_0, hcz15_1, hcz15_2, hfz15_0, hfz15_1, hfz15_2⟩ := cells3 BK140.out
     go_wp2
     go_ret
     exact ⟨yE, yG2 HB GE139.out GE140.out⟩
    ·
     rw [if_neg c13] at H
     have c13b0 : (a1_0 == 0 && (a1_1 == 0 && (a1_2.toList == ([] : List UInt8)))) = false := by simpa using c13
     (try have c13b0_e : (a1_0 == 0 && (a1_1 == 0 && ((a1_2.toList.isEmpty)))) = false := by have h_ := c13b0; simp only [hp_nil] at h_; exact h_)
     (try (have c13b1 : decide (a1_0 = 0 && (a1_1 == 0 && (a1_2.toList == ([] : List UInt8)))) = false := by simpa using c13))
     (try have c13b1_e : decide (a1_0 = 0 && (a1_1 == 0 && ((a1_2.toList.isEmpty)))) = false := by have h_ := c13b1; simp only [hp_nil] at h_; exact h_)
     (try (have c13b2 : (a1_0 == 0 && (a1_1 == 0 && (a1_2.toList == ([] : List UInt8)))) = false := by simpa using c13))
     (try have c13b2_e : (a1_0 == 0 && (a1_1 == 0 && ((a1_2.toList.isEmpty)))) = false := by have h_ := c13b2; simp only [hp_nil] at h_; exact h_)
     (try (have c13b3 : ¬ (a1_0 = 0 && (a1_1 == 0 && (a1_2.toList == ([] : List UInt8)))) := by simpa using c13))
     (try have c13b3_e : ¬ (a1_0 = 0 && (a1_1 == 0 && ((a1_2.toList.isEmpty)))) := by have h_ := c13b3; simp only [hp_nil] at h_; exact h_)
     clear c13
     obtain ⟨t141, A16, H⟩ := yb H
     by_cases c17 : t141 = true
     ·
      subst c17
      replace H := yt H
      obtain rfl := Option.some.inj H
      have hnb18 := NB140_139.out
      have hnc18 := NB139_140.out
      obtain ⟨hcz19_0, hcz19_1, hcz19_2, hfz19_0, hfz19_1, hfz19_2⟩ := cells3 BK140.out
      obtain ⟨hcz20_0, hcz20_1, hcz20_2, hcz20_3, hcz20_4, hcz20_5, hcz20_6, hcz20_7, hfz20_0, hfz20_1, hfz20_2, hfz20_3, hfz20_4, hfz20_5, hfz20_6, hfz20_7⟩ := cells8 BK139.out
      go_wp2_with (first | ((with_reducible refine gate_callee (f := 71) rfl ?_); refine yC 21 Tryd.func71 #[.agg #[.int .i64 a0_2, .int .i64 a0_3], .agg #[.int .i64 a1_0, .int .i64 a1_1, .string a1_2]] rfl ?_; (with_reducible refine (typ_Fits.calls kj2 a0_2 a0_3 a1_0 a1_1 a1_2 true _ ?side1 A16.out).mono ?_); (case side1 => first | (with_reducible exact HG.out) | exact Glob.below HG.out (yG2 HB GE139.out GE140.out)); rintro e w21 ⟨rfl, hb⟩; refine ⟨_, rfl, ?_⟩; replace BK139 := aM (kB (yK BK139) hb); replace BK140 := aM (kB (yK BK140) hb); replace HB := aM (bP (yG2 HB GE139.out GE140.out) hb); (try clear hb)))
      go_ret
      exact ⟨yE, yG2 HB GE139.out GE140.out⟩
     ·
      replace c17 := Bool.eq_false_iff.mpr c17
      subst c17
      replace H := yf H
      obtain rfl := Option.some.inj H
      have hnb22 := NB140_139.out
      have hnc22 := NB139_140.out
      obtain ⟨hcz23_0, hcz23_1, hcz23_2, hfz23_0, hfz23_1, hfz23_2⟩ := cells3 BK140.out
      obtain ⟨hcz24_0, hcz24_1, hcz24_2, hcz24_3, hcz24_4, hcz24_5, hcz24_6, hcz24_7, hfz24_0, hfz24_1, hfz24_2, hfz24_3, hfz24_4, hfz24_5, hfz24_6, hfz24_7⟩ := cells8 BK139.out
      go_wp2_with (first | ((with_reducible refine gate_callee (f := 71) rfl ?_); refine yC 21 Tryd.func71 #[.agg #[.int .i64 a0_2, .int .i64 a0_3], .agg #[.int .i64 a1_0, .int .i64 a1_1, .string a1_2]] rfl ?_; (with_reducible refine (typ_Fits.calls kj2 a0_2 a0_3 a1_0 a1_1 a1_2 false _ ?side1 A16.out).mono ?_); (case side1 => first | (with_reducible exact HG.out) | exact Glob.below HG.out (yG2 HB GE139.out GE140.out)); rintro e w25 ⟨rfl, hb⟩; refine ⟨_, rfl, ?_⟩; replace BK139 := aM (kB (yK BK139) hb); replace BK140 := aM (kB (yK BK140) hb); replace HB := aM (bP (yG2 HB GE139.out GE140.out) hb); (try clear hb)))
      go_ret
      exact ⟨yE, yG2 HB GE139.out GE140.out⟩
/-! ### schema_fits: function 67 -/
def schema_fits.l0 : Nat → List (S52) → Int → Int → Int → ByteArray → Int → Int → List (S54) → Option (Int)
 | 0, _, _, _, _, _, _, _, _ => none
 | k + 1, x14, x15, x16, x143000, x143001, x143002, x143003, x143004 => if x16 < x15 then (if 0 ≤ x16 then (if x16 < (x14.length : Int) then (if x16 < (x143004.length : Int) then ((schema_one.f k ((rd_T54 x143004 x16).f0) ((rd_T54 x143004 x16).f1) ((rd_T54 x143004 x16).f2.f0) ((rd_T54 x143004 x16).f2.f1) ((rd_T54 x143004 x16).f3) ((rd_T54 x143004 x16).f4.f0) ((rd_T54 x143004 x16).f4.f1) ((rd_T54 x143004 x16).f4.f2) ((rd_T52 x14 x16).f0) ((rd_T52 x14 x16).f1) ((rd_T52 x14 x16).f2)).bind fun t146 => (if t146 = 0 then (schema_fits.l0 k x14 x15 (wrap64 (x16 + 1)) x143000 x143001 x143002 x143003 x143004) else (some t146))) else (none)) else (none)) else (none)) else (some 0)
def schema_fits.f (k : Nat) (a0_0 : Int) (a0_1 : ByteArray) (a0_2 : Int) (a0_3 : Int) (l0_4 : List (S54)) (l1 : List (S52)) : Option (Int) := if (l1.length : Int) = (l0_4.length : Int) then (schema_fits.l0 k l1 (l1.length : Int) 0 a0_0 a0_1 a0_2 a0_3 l0_4) else (some 5)
theorem schema_fits.mono_l : ∀ k, (∀ y0 y1 y2 y3 y4 y5 y6 y7, LeO (schema_fits.l0 k y0 y1 y2 y3 y4 y5 y6 y7) (schema_fits.l0 (k + 1) y0 y1 y2 y3 y4 y5 y6 y7))
 | 0 => fun _ _ _ _ _ _ _ _ r h => by simp [schema_fits.l0] at h
 | k + 1 => by
  have ih0 := schema_fits.mono_l k
  ·
   intro y0 y1 y2 y3 y4 y5 y6 y7
   unfold schema_fits.l0
   repeat' first
   | (with_reducible exact ih0 _ _ _ _ _ _ _ _)
   | (with_reducible exact schema_one.mono _ _ _ _ _ _ _ _ _ _ _ _)
   | (with_reducible exact LeO.refl _)
   | (with_reducible exact LeO.none _)
   | (with_reducible refine LeO.ite ?_ ?_)
   | (with_reducible refine LeO.bind ?_ (fun _ => ?_))
   | exact ih0 _ _ _ _ _ _ _ _
   | exact schema_one.mono _ _ _ _ _ _ _ _ _ _ _ _
   | exact LeO.none _
   | refine LeO.ite ?_ ?_
   | refine LeO.bind ?_ (fun _ => ?_)
theorem schema_fits.mono : ∀ a0 a1 a2 a3 a4 a5 k, LeO (schema_fits.f k a0 a1 a2 a3 a4 a5) (schema_fits.f (k + 1) a0 a1 a2 a3 a4 a5) := by
 intro a0 a1 a2 a3 a4 a5 k
 have ih0 := schema_fits.mono_l k
 unfold schema_fits.f
 repeat' first | with_reducible (first | exact ih0 .. | exact schema_one.mono .. | exact LeO.refl .. | exact LeO.none .. | refine LeO.ite ?_ ?_ | refine LeO.bind ?_ (fun _ => ?_)) | exact ih0 .. | exact schema_one.mono .. | exact LeO.none .. | refine LeO.ite ?_ ?_ | refine LeO.bind ?_ (fun _ => ?_)
def schema_fits.T6 : Bool × List (List Nat × List Nat) := (true, [([], []), ([0], [0]), ([], []), ([1, 2], [1, 2]), ([3], [3]), ([], []), ([4, 5], [4, 5]), ([6, 6, 0, 1, 2, 3, 4, 5, 6], [6])])
def schema_fits.B6 : List Nat := [0, 1, 0, 7, 15, 0, 63, 127]
theorem schema_fits.tab6 : rtab .any (opsOf Tryd.f67 6) = schema_fits.T6 := by kernel_rfl
theorem schema_fits.bits6 : waitsOk schema_fits.T6.2 schema_fits.B6 = true := by kernel_rfl
set_option maxHeartbeats 8000000 in
set_option maxRecDepth 100000 in
theorem schema_fits.calls (k : Nat) (a0_0 : Int) (a0_1 : ByteArray) (a0_2 : Int) (a0_3 : Int) (A0_4 : Option Addr) (c0_4 : Nat) (l0_4 : List (S54)) (A1 : Option Addr) (c1 : Nat) (l1 : List (S52)) (r : Int) (w : World) (hr0_4 : Kd.C k54 w A0_4 l0_4.length l0_4) (hc0_4 : l0_4.length ≤ c0_4) (hr1 : Kd.C k52 w A1 l1.length l1) (hc1 : l1.length ≤ c1) (hG : Glob w) (h : schema_fits.f k a0_0 a0_1 a0_2 a0_3 l0_4 l1 = some r) :
  Calls Tryd.prog 67 #[.agg #[.int .i64 a0_0, .string a0_1, .int .i64 a0_2, .int .i64 a0_3, .slice A0_4 l0_4.length c0_4], .slice A1 l1.length c1] w fun e w' => e = .returned (.int .i64 r) ∧ Below w.heap.size w w' := by
 have hu24 := Tryd.underlying24
 have hu52 := Tryd.underlying52
 have hu54 := Tryd.underlying54
 have HR0_4 := aM hr0_4
 have HC0_4 := aM hc0_4
 clear hr0_4 hc0_4
 have HR1 := aM hr1
 have HC1 := aM hc1
 clear hr1 hc1
 have HG := aM hG
 clear hG
 have HB := aM (Below.refl w.heap.size w)
 have H : (if (l1.length : Int) = (l0_4.length : Int) then (schema_fits.l0 k l1 (l1.length : Int) 0 a0_0 a0_1 a0_2 a0_3 l0_4) else (some 5)) = some r := h
 clear h
 by_cases c3 : (l1.length : Int) = (l0_4.length : Int)
 ·
  rw [if_pos c3] at H
  have c3b0 : ((l1.length : Int) == (l0_4.length : Int)) = true := beq_iff_eq.mpr c3
  have c3b1 : ((l1.length : Int) != (l0_4.length : Int)) = false := bne_eq_false_iff_eq.mpr c3
  have c3b2 : (l1.length == l0_4.length) = true := by first | simpa using c3 | (simp at c3 ⊢; omega)
  clear c3
  have H' := aM H
  clear H
  go_enter Tryd.func67, Tryd.ntmps67
  go_wp2_with (first | ((with_reducible refine gate_dst (N := 2) rfl ?_); refine yX (N := 2) (cs := #[.int .i64 a0_0, .string a0_1, .int .i64 a0_2, .int .i64 a0_3, .slice A0_4 l0_4.length c0_4]) (t := 24) ?_; intro gb142 hg w4 hbox hb; have BK142 := aM (hbox); have GW142 := yZ hg (yB HB); have GE142 := yZ hg (yB HB); replace HB := aM (bP (yB HB) hb); clear hb hbox hg; obtain ⟨hcz5_0, hcz5_1, hcz5_2, hcz5_3, hcz5_4, hfz5_0, hfz5_1, hfz5_2, hfz5_3, hfz5_4⟩ := cells5 BK142.out))
  go_loopg [16] k (fun kq v16 w' => ∃ (x16_1 : Int), v16 = .int .i64 x16_1 ∧ Aside0 (schema_fits.l0 kq l1 (l1.length : Int) x16_1 a0_0 a0_1 a0_2 a0_3 l0_4 = some r) ∧ Aside0 (kq ≤ k) ∧ Aside0 (w'.heap[gb142]? = some (.cells #[.int .i64 a0_0, .string a0_1, .int .i64 a0_2, .int .i64 a0_3, (.slice A0_4 l0_4.length c0_4)] 24 (0, 0))) ∧ Aside0 (Below w.heap.size w w'))
  case atStart => exact ⟨(0), yS, H', ⟨Nat.le_refl _⟩, ⟨yK BK142⟩, ⟨yG1 HB GE142.out⟩⟩
  case round =>
   clear H'
   try clear c1
   try clear c3
   try clear c3b0
   try clear c3b1
   try clear c3b2
   try clear hcz5_0 hcz5_1 hcz5_2 hcz5_3 hcz5_4
   try clear hfz5_0 hfz5_1 hfz5_2 hfz5_3 hfz5_4
   obtain ⟨x16_1, rfl, HA, HK1, BK142, HB⟩ := hrel
   cases gk with
   | zero => exact absurd HA.out (by simp [schema_fits.l0])
   | succ k1 =>
    have H := HA.out
    clear HA
    simp only [schema_fits.l0] at H
    by_cases c6 : x16_1 < (l1.length : Int)
    ·
     rw [if_pos c6] at H
     have c6b0 : decide (x16_1 < (l1.length : Int)) = true := decide_eq_true c6
     clear c6
     by_cases c7 : 0 ≤ x16_1
     ·
      rw [if_pos c7] at H
      have c7b0 : decide (0 ≤ x16_1) = true := decide_eq_true c7
      clear c7
      by_cases c8 : x16_1 < (l1.length : Int)
      ·
       rw [if_pos c8] at H
       have c8b0 : decide (x16_1 < (l1.length : Int)) = true := decide_eq_true c8
       clear c8
       by_cases c9 : x16_1 < (l0_4.length : Int)
       ·
        rw [if_pos c9] at H
        have c9b0 : decide (x16_1 < (l0_4.length : Int)) = true := decide_eq_true c9
        clear c9
        obtain ⟨t146, A10, H⟩ := yb H
        by_cases c11 : t146 = 0
        ·
         rw [if_pos c11] at H
         have c11b0 : (t146 == 0) = true := beq_iff_eq.mpr c11
         have c11b1 : (t146 != 0) = false := bne_eq_false_iff_eq.mpr c11
         clear c11
         have H' := aM H
         clear H
         have p143 : 0 ≤ (x16_1 : Int) := oD yA
         have q143 : x16_1 < (l1.length : Int) := oD yA
         obtain ⟨ad143, e143, hx143_0, hx143_1, hx143_2⟩ := at_T52 HR1.out x16_1 p143 q143
         cases e143
         replace hx143_0 := pw_cell_below HB.out hx143_0
         replace hx143_1 := pw_cell_below HB.out hx143_1
         replace hx143_2 := pw_cell_below HB.out hx143_2
         replace p143 := eq_true p143
         replace q143 := eq_true q143
         try go_wp2_with (first | ((with_reducible refine gate_dst (N := 6) rfl ?_); refine yX (N := 6) (cs := #[.int .i64 0, .int .i64 0, .string (⟨#[]⟩ : ByteArray)]) (t := 52) ?_; intro gb144 hg w12 hbox hb; have BK144 := aM (hbox); have GW144 := yZ hg (yG1 HB GE142.out); have GE144 := yZ hg (yG1 HB GE142.out); replace HB := aM (bP (yG1 HB GE142.out) hb); have NB142_144 := yN hg (yK BK142); have NB144_142 := yM hg (yK BK142); replace BK142 := aM (kB (yK BK142) hb); clear hb hbox hg; have hnb13 := NB144_142.out; have hnc13 := NB142_144.out; obtain ⟨hcz14_0, hcz14_1, hcz14_2, hfz14_0, hfz14_1, hfz14_2⟩ := cells3 BK144.out))
         have n0_ : Aside0 ((((w12.setCell ⟨gb144, 0, none⟩ (.int .i64 ((rd_T52 l1 x16_1).f0))).setCell ⟨gb144, 1, none⟩ (.int .i64 ((rd_T52 l1 x16_1).f1))).setCell ⟨gb144, 2, none⟩ (.string ((rd_T52 l1 x16_1).f2))).heap[gb142]? = some (.cells #[.int .i64 a0_0, .string a0_1, .int .i64 a0_2, .int .i64 a0_3, .slice A0_4 l0_4.length c0_4] 24 (0, 0))) := ⟨yF1 BK142 NB142_144.out⟩
         have n1_ : Aside0 ((((w12.setCell ⟨gb144, 0, none⟩ (.int .i64 ((rd_T52 l1 x16_1).f0))).setCell ⟨gb144, 1, none⟩ (.int .i64 ((rd_T52 l1 x16_1).f1))).setCell ⟨gb144, 2, none⟩ (.string ((rd_T52 l1 x16_1).f2))).heap[gb144]? = some (.cells #[.int .i64 ((rd_T52 l1 x16_1).f0), .int .i64 ((rd_T52 l1 x16_1).f1), .string ((rd_T52 l1 x16_1).f2)] 52 (0, 0))) := ⟨puts3 BK144.out⟩
         have n2_ : Aside0 (Below w.heap.size w (((w12.setCell ⟨gb144, 0, none⟩ (.int .i64 ((rd_T52 l1 x16_1).f0))).setCell ⟨gb144, 1, none⟩ (.int .i64 ((rd_T52 l1 x16_1).f1))).setCell ⟨gb144, 2, none⟩ (.string ((rd_T52 l1 x16_1).f2)))) := ⟨yG2 HB GE142.out GE144.out⟩
         (try clear BK142)
         (try clear BK144)
         (try clear HB)
         generalize (((w12.setCell ⟨gb144, 0, none⟩ (.int .i64 ((rd_T52 l1 x16_1).f0))).setCell ⟨gb144, 1, none⟩ (.int .i64 ((rd_T52 l1 x16_1).f1))).setCell ⟨gb144, 2, none⟩ (.string ((rd_T52 l1 x16_1).f2))) = w15 at n0_ n1_ n2_ ⊢
         have BK142 := n0_
         have BK144 := n1_
         have HB := n2_
         clear n0_ n1_ n2_
         have n0_ := aM (kD BK142.out)
         have n1_ := aM (kD BK144.out)
         have n2_ := aM (b1 HB.out)
         clear BK142
         clear BK144
         clear HB
         have BK142 := n0_
         have BK144 := n1_
         have HB := n2_
         clear n0_ n1_ n2_
         have p145 : 0 ≤ (x16_1 : Int) := oD yA
         have q145 : x16_1 < (l0_4.length : Int) := oD yA
         obtain ⟨ad145, e145, hx145_0, hx145_1, hx145_2, hx145_3, hx145_4, hx145_5, hx145_6, hx145_7⟩ := at_T54 HR0_4.out x16_1 p145 q145
         have hw145_7 := hx145_7
         have hw145_6 := hx145_6
         have hw145_5 := hx145_5
         have hw145_4 := hx145_4
         have hw145_3 := hx145_3
         have hw145_2 := hx145_2
         have hw145_1 := hx145_1
         have hw145_0 := hx145_0
         cases e145
         replace hx145_0 := pw_cell_below HB.out hx145_0
         replace hx145_1 := pw_cell_below HB.out hx145_1
         replace hx145_2 := pw_cell_below HB.out hx145_2
         replace hx145_3 := pw_cell_below HB.out hx145_3
         replace hx145_4 := pw_cell_below HB.out hx145_4
         replace hx145_5 := pw_cell_below HB.out hx145_5
         replace hx145_6 := pw_cell_below HB.out hx145_6
         replace hx145_7 := pw_cell_below HB.out hx145_7
         replace p145 := eq_true p145
         replace q145 := eq_true q145
         refine start_ (n := 8) (S := fun w' => w'.cell? ⟨gb142, 0, none⟩ = some (.int .i64 a0_0) ∧ w'.cell? ⟨gb142, 1, none⟩ = some (.string a0_1) ∧ w'.cell? ⟨gb142, 2, none⟩ = some (.int .i64 a0_2) ∧ w'.cell? ⟨gb142, 3, none⟩ = some (.int .i64 a0_3) ∧ w'.cell? ⟨gb142, 4, none⟩ = some (.slice (some ad145) l0_4.length c0_4) ∧ w'.cell? ⟨gb144, 0, none⟩ = some (.int .i64 ((rd_T52 l1 x16_1).f0)) ∧ w'.cell? ⟨gb144, 1, none⟩ = some (.int .i64 ((rd_T52 l1 x16_1).f1)) ∧ w'.cell? ⟨gb144, 2, none⟩ = some (.string ((rd_T52 l1 x16_1).f2)) ∧ w'.cell? (ad145.add ((x16_1).toNat * 8)) = some (.int .i64 ((rd_T54 l0_4 x16_1).f0)) ∧ w'.cell? ⟨(ad145.add ((x16_1).toNat * 8)).block, (ad145.add ((x16_1).toNat * 8)).off + 1, none⟩ = some (.string ((rd_T54 l0_4 x16_1).f1)) ∧ w'.cell? ⟨(ad145.add ((x16_1).toNat * 8)).block, (ad145.add ((x16_1).toNat * 8)).off + 2, none⟩ = some (.int .i64 ((rd_T54 l0_4 x16_1).f2.f0)) ∧ w'.cell? ⟨(ad145.add ((x16_1).toNat * 8)).block, (ad145.add ((x16_1).toNat * 8)).off + 3, none⟩ = some (.int .i64 ((rd_T54 l0_4 x16_1).f2.f1)) ∧ w'.cell? ⟨(ad145.add ((x16_1).toNat * 8)).block, (ad145.add ((x16_1).toNat * 8)).off + 4, none⟩ = some (.bool ((rd_T54 l0_4 x16_1).f3)) ∧ w'.cell? ⟨(ad145.add ((x16_1).toNat * 8)).block, (ad145.add ((x16_1).toNat * 8)).off + 5, none⟩ = some (.int .i64 ((rd_T54 l0_4 x16_1).f4.f0)) ∧ w'.cell? ⟨(ad145.add ((x16_1).toNat * 8)).block, (ad145.add ((x16_1).toNat * 8)).off + 6, none⟩ = some (.int .i64 ((rd_T54 l0_4 x16_1).f4.f1)) ∧ w'.cell? ⟨(ad145.add ((x16_1).toNat * 8)).block, (ad145.add ((x16_1).toNat * 8)).off + 7, none⟩ = some (.string ((rd_T54 l0_4 x16_1).f4.f2))) (ds := []) (tB 0 8) (by kernel_rfl) rfl rfl ⟨yV BK142 0, yV BK142 1, yV BK142 2, yV BK142 3, yV BK142 4, yV BK144 0, yV BK144 1, yV BK144 2, (pw_cell_below HB.out hw145_0), (pw_cell_below HB.out hw145_1), (pw_cell_below HB.out hw145_2), (pw_cell_below HB.out hw145_3), (pw_cell_below HB.out hw145_4), (pw_cell_below HB.out hw145_5), (pw_cell_below HB.out hw145_6), (pw_cell_below HB.out hw145_7)⟩ (fun hHeld => ?_); refine with_tabW schema_fits.tab6 schema_fits.bits6 (fun HT_ HW_ => ?_)
         generalize w15.drew = w16 at BK142 BK144 HB hx145_0 hx145_1 hx145_2 hx145_3 hx145_4 hx145_5 hx145_6 hx145_7 hHeld ⊢
         refine yP HT_ 0 21 (tB 1 8) rfl rfl ?_
         refine yP HT_ 2 23 (tB 5 8) rfl rfl ?_
         refine yT HT_ HW_ 1 22 (tB 7 8) rfl rfl hHeld ?_
         refine yP HT_ 3 24 (tB 15 8) rfl rfl ?_
         refine yT HT_ HW_ 4 25 (tB 31 8) rfl rfl hHeld ?_
         refine yT HT_ HW_ 5 26 (tB 63 8) rfl rfl hHeld ?_
         refine yI HT_ 6 (tB 127 8) rfl rfl fun K hK => ?_
         refine yc Tryd.func94 #[.agg #[.int .i64 ((rd_T54 l0_4 x16_1).f0), .string ((rd_T54 l0_4 x16_1).f1), .int .i64 ((rd_T54 l0_4 x16_1).f2.f0), .int .i64 ((rd_T54 l0_4 x16_1).f2.f1), .bool ((rd_T54 l0_4 x16_1).f3), .int .i64 ((rd_T54 l0_4 x16_1).f4.f0), .int .i64 ((rd_T54 l0_4 x16_1).f4.f1), .string ((rd_T54 l0_4 x16_1).f4.f2)], .agg #[.int .i64 ((rd_T52 l1 x16_1).f0), .int .i64 ((rd_T52 l1 x16_1).f1), .string ((rd_T52 l1 x16_1).f2)]] rfl rfl ?_
         with_reducible refine (schema_one.calls k1 ((rd_T54 l0_4 x16_1).f0) ((rd_T54 l0_4 x16_1).f1) ((rd_T54 l0_4 x16_1).f2.f0) ((rd_T54 l0_4 x16_1).f2.f1) ((rd_T54 l0_4 x16_1).f3) ((rd_T54 l0_4 x16_1).f4.f0) ((rd_T54 l0_4 x16_1).f4.f1) ((rd_T54 l0_4 x16_1).f4.f2) ((rd_T52 l1 x16_1).f0) ((rd_T52 l1 x16_1).f1) ((rd_T52 l1 x16_1).f2) t146 _ ?side1 A10.out).mono ?_
         (case side1 => first | (with_reducible exact HG.out) | exact Glob.below HG.out (yG2 HB GE142.out GE144.out))
         rintro e w17 ⟨rfl, hb⟩
         refine ⟨_, rfl, ?_⟩
         have n0_ := aM (kB (yK BK142) hb)
         have n1_ := aM (kB (yK BK144) hb)
         have n2_ := aM (bP (yG2 HB GE142.out GE144.out) hb)
         clear BK142
         clear BK144
         clear HB
         have BK142 := n0_
         have BK144 := n1_
         have HB := n2_
         clear n0_ n1_ n2_
         (try clear hb)
         (try clear hb2)
         (try clear hk)
         (try clear hi)
         refine hK.out _ _ ⟨yV BK142 0, yV BK142 1, yV BK142 2, yV BK142 3, yV BK142 4, yV BK144 0, yV BK144 1, yV BK144 2, (pw_cell_below HB.out hw145_0), (pw_cell_below HB.out hw145_1), (pw_cell_below HB.out hw145_2), (pw_cell_below HB.out hw145_3), (pw_cell_below HB.out hw145_4), (pw_cell_below HB.out hw145_5), (pw_cell_below HB.out hw145_6), (pw_cell_below HB.out hw145_7)⟩ (fun hHeld => ?_)
         clear hK K
         refine norm_ (a' := ?_) ?_ ?_
         rotate_left
         ·
          show Act.put _ (some 27) _ = _
          simp only [Act.put, s1_, s2_, s3_, i64_w, i32_w]
          rfl
         refine yP HT_ 7 7 (tB 255 8) rfl rfl ?_
         refine done_ (done_of HT_.out (by kernel_rfl)) ?_
         try go_wp2
         go_roundg k1
         case measure => have := HK1.out; omega
         case rel => exact ⟨(wrap64 (x16_1 + 1)), yS, H', ⟨by have := HK1.out; omega⟩, ⟨yK BK142⟩, ⟨yG2 HB GE142.out GE144.out⟩⟩
        ·
         rw [if_neg c11] at H
         have c11b0 : (t146 == 0) = false := beq_eq_false_iff_ne.mpr c11
         have c11b1 : (t146 != 0) = true := bne_iff_ne.mpr c11
         obtain rfl := Option.some.inj H
         have p143 : 0 ≤ (x16_1 : Int) := oD yA
         have q143 : x16_1 < (l1.length : Int) := oD yA
         obtain ⟨ad143, e143, hx143_0, hx143_1, hx143_2⟩ := at_T52 HR1.out x16_1 p143 q143
         cases e143
         replace hx143_0 := pw_cell_below HB.out hx143_0
         replace hx143_1 := pw_cell_below HB.out hx143_1
         replace hx143_2 := pw_cell_below HB.out hx143_2
         replace p143 := eq_true p143
         replace q143 := eq_true q143
         try go_wp2_with (first | ((with_reducible refine gate_dst (N := 6) rfl ?_); refine yX (N := 6) (cs := #[.int .i64 0, .int .i64 0, .string (⟨#[]⟩ : ByteArray)]) (t := 52) ?_; intro gb144 hg w18 hbox hb; have BK144 := aM (hbox); have GW144 := yZ hg (yG1 HB GE142.out); have GE144 := yZ hg (yG1 HB GE142.out); replace HB := aM (bP (yG1 HB GE142.out) hb); have NB142_144 := yN hg (yK BK142); have NB144_142 := yM hg (yK BK142); replace BK142 := aM (kB (yK BK142) hb); clear hb hbox hg; have hnb19 := NB144_142.out; have hnc19 := NB142_144.out; obtain ⟨hcz20_0, hcz20_1, hcz20_2, hfz20_0, hfz20_1, hfz20_2⟩ := cells3 BK144.out))
         have n0_ : Aside0 ((((w18.setCell ⟨gb144, 0, none⟩ (.int .i64 ((rd_T52 l1 x16_1).f0))).setCell ⟨gb144, 1, none⟩ (.int .i64 ((rd_T52 l1 x16_1).f1))).setCell ⟨gb144, 2, none⟩ (.string ((rd_T52 l1 x16_1).f2))).heap[gb142]? = some (.cells #[.int .i64 a0_0, .string a0_1, .int .i64 a0_2, .int .i64 a0_3, .slice A0_4 l0_4.length c0_4] 24 (0, 0))) := ⟨yF1 BK142 NB142_144.out⟩
         have n1_ : Aside0 ((((w18.setCell ⟨gb144, 0, none⟩ (.int .i64 ((rd_T52 l1 x16_1).f0))).setCell ⟨gb144, 1, none⟩ (.int .i64 ((rd_T52 l1 x16_1).f1))).setCell ⟨gb144, 2, none⟩ (.string ((rd_T52 l1 x16_1).f2))).heap[gb144]? = some (.cells #[.int .i64 ((rd_T52 l1 x16_1).f0), .int .i64 ((rd_T52 l1 x16_1).f1), .string ((rd_T52 l1 x16_1).f2)] 52 (0, 0))) := ⟨puts3 BK144.out⟩
         have n2_ : Aside0 (Below w.heap.size w (((w18.setCell ⟨gb144, 0, none⟩ (.int .i64 ((rd_T52 l1 x16_1).f0))).setCell ⟨gb144, 1, none⟩ (.int .i64 ((rd_T52 l1 x16_1).f1))).setCell ⟨gb144, 2, none⟩ (.string ((rd_T52 l1 x16_1).f2)))) := ⟨yG2 HB GE142.out GE144.out⟩
         (try clear BK142)
         (try clear BK144)
         (try clear HB)
         generalize (((w18.setCell ⟨gb144, 0, none⟩ (.int .i64 ((rd_T52 l1 x16_1).f0))).setCell ⟨gb144, 1, none⟩ (.int .i64 ((rd_T52 l1 x16_1).f1))).setCell ⟨gb144, 2, none⟩ (.string ((rd_T52 l1 x16_1).f2))) = w21 at n0_ n1_ n2_ ⊢
         have BK142 := n0_
         have BK144 := n1_
         have HB := n2_
         clear n0_ n1_ n2_
         have n0_ := aM (kD BK142.out)
         have n1_ := aM (kD BK144.out)
         have n2_ := aM (b1 HB.out)
         clear BK142
         clear BK144
         clear HB
         have BK142 := n0_
         have BK144 := n1_
         have HB := n2_
         clear n0_ n1_ n2_
         have p145 : 0 ≤ (x16_1 : Int) := oD yA
         have q145 : x16_1 < (l0_4.length : Int) := oD yA
         obtain ⟨ad145, e145, hx145_0, hx145_1, hx145_2, hx145_3, hx145_4, hx145_5, hx145_6, hx145_7⟩ := at_T54 HR0_4.out x16_1 p145 q145
         have hw145_7 := hx145_7
         have hw145_6 := hx145_6
         have hw145_5 := hx145_5
         have hw145_4 := hx145_4
         have hw145_3 := hx145_3
         have hw145_2 := hx145_2
         have hw145_1 := hx145_1
         have hw145_0 := hx145_0
         cases e145
         replace hx145_0 := pw_cell_below HB.out hx145_0
         replace hx145_1 := pw_cell_below HB.out hx145_1
         replace hx145_2 := pw_cell_below HB.out hx145_2
         replace hx145_3 := pw_cell_below HB.out hx145_3
         replace hx145_4 := pw_cell_below HB.out hx145_4
         replace hx145_5 := pw_cell_below HB.out hx145_5
         replace hx145_6 := pw_cell_below HB.out hx145_6
         replace hx145_7 := pw_cell_below HB.out hx145_7
         replace p145 := eq_true p145
         replace q145 := eq_true q145
         refine start_ (n := 8) (S := fun w' => w'.cell? ⟨gb142, 0, none⟩ = some (.int .i64 a0_0) ∧ w'.cell? ⟨gb142, 1, none⟩ = some (.string a0_1) ∧ w'.cell? ⟨gb142, 2, none⟩ = some (.int .i64 a0_2) ∧ w'.cell? ⟨gb142, 3, none⟩ = some (.int .i64 a0_3) ∧ w'.cell? ⟨gb142, 4, none⟩ = some (.slice (some ad145) l0_4.length c0_4) ∧ w'.cell? ⟨gb144, 0, none⟩ = some (.int .i64 ((rd_T52 l1 x16_1).f0)) ∧ w'.cell? ⟨gb144, 1, none⟩ = some (.int .i64 ((rd_T52 l1 x16_1).f1)) ∧ w'.cell? ⟨gb144, 2, none⟩ = some (.string ((rd_T52 l1 x16_1).f2)) ∧ w'.cell? (ad145.add ((x16_1).toNat * 8)) = some (.int .i64 ((rd_T54 l0_4 x16_1).f0)) ∧ w'.cell? ⟨(ad145.add ((x16_1).toNat * 8)).block, (ad145.add ((x16_1).toNat * 8)).off + 1, none⟩ = some (.string ((rd_T54 l0_4 x16_1).f1)) ∧ w'.cell? ⟨(ad145.add ((x16_1).toNat * 8)).block, (ad145.add ((x16_1).toNat * 8)).off + 2, none⟩ = some (.int .i64 ((rd_T54 l0_4 x16_1).f2.f0)) ∧ w'.cell? ⟨(ad145.add ((x16_1).toNat * 8)).block, (ad145.add ((x16_1).toNat * 8)).off + 3, none⟩ = some (.int .i64 ((rd_T54 l0_4 x16_1).f2.f1)) ∧ w'.cell? ⟨(ad145.add ((x16_1).toNat * 8)).block, (ad145.add ((x16_1).toNat * 8)).off + 4, none⟩ = some (.bool ((rd_T54 l0_4 x16_1).f3)) ∧ w'.cell? ⟨(ad145.add ((x16_1).toNat * 8)).block, (ad145.add ((x16_1).toNat * 8)).off + 5, none⟩ = some (.int .i64 ((rd_T54 l0_4 x16_1).f4.f0)) ∧ w'.cell? ⟨(ad145.add ((x16_1).toNat * 8)).block, (ad145.add ((x16_1).toNat * 8)).off + 6, none⟩ = some (.int .i64 ((rd_T54 l0_4 x16_1).f4.f1)) ∧ w'.cell? ⟨(ad145.add ((x16_1).toNat * 8)).block, (ad145.add ((x16_1).toNat * 8)).off + 7, none⟩ = some (.string ((rd_T54 l0_4 x16_1).f4.f2))) (ds := []) (tB 0 8) (by kernel_rfl) rfl rfl ⟨yV BK142 0, yV BK142 1, yV BK142 2, yV BK142 3, yV BK142 4, yV BK144 0, yV BK144 1, yV BK144 2, (pw_cell_below HB.out hw145_0), (pw_cell_below HB.out hw145_1), (pw_cell_below HB.out hw145_2), (pw_cell_below HB.out hw145_3), (pw_cell_below HB.out hw145_4), (pw_cell_below HB.out hw145_5), (pw_cell_below HB.out hw145_6), (pw_cell_below HB.out hw145_7)⟩ (fun hHeld => ?_); refine with_tabW schema_fits.tab6 schema_fits.bits6 (fun HT_ HW_ => ?_)
         generalize w21.drew = w22 at BK142 BK144 HB hx145_0 hx145_1 hx145_2 hx145_3 hx145_4 hx145_5 hx145_6 hx145_7 hHeld ⊢
         refine yP HT_ 0 21 (tB 1 8) rfl rfl ?_
         refine yP HT_ 2 23 (tB 5 8) rfl rfl ?_
         refine yT HT_ HW_ 1 22 (tB 7 8) rfl rfl hHeld ?_
         refine yP HT_ 3 24 (tB 15 8) rfl rfl ?_
         refine yT HT_ HW_ 4 25 (tB 31 8) rfl rfl hHeld ?_
         refine yT HT_ HW_ 5 26 (tB 63 8) rfl rfl hHeld ?_
         refine yI HT_ 6 (tB 127 8) rfl rfl fun K hK => ?_
         refine yc Tryd.func94 #[.agg #[.int .i64 ((rd_T54 l0_4 x16_1).f0), .string ((rd_T54 l0_4 x16_1).f1), .int .i64 ((rd_T54 l0_4 x16_1).f2.f0), .int .i64 ((rd_T54 l0_4 x16_1).f2.f1), .bool ((rd_T54 l0_4 x16_1).f3), .int .i64 ((rd_T54 l0_4 x16_1).f4.f0), .int .i64 ((rd_T54 l0_4 x16_1).f4.f1), .string ((rd_T54 l0_4 x16_1).f4.f2)], .agg #[.int .i64 ((rd_T52 l1 x16_1).f0), .int .i64 ((rd_T52 l1 x16_1).f1), .string ((rd_T52 l1 x16_1).f2)]] rfl rfl ?_
         with_reducible refine (schema_one.calls k1 ((rd_T54 l0_4 x16_1).f0) ((rd_T54 l0_4 x16_1).f1) ((rd_T54 l0_4 x16_1).f2.f0) ((rd_T54 l0_4 x16_1).f2.f1) ((rd_T54 l0_4 x16_1).f3) ((rd_T54 l0_4 x16_1).f4.f0) ((rd_T54 l0_4 x16_1).f4.f1) ((rd_T54 l0_4 x16_1).f4.f2) ((rd_T52 l1 x16_1).f0) ((rd_T52 l1 x16_1).f1) ((rd_T52 l1 x16_1).f2) t146 _ ?side1 A10.out).mono ?_
         (case side1 => first | (with_reducible exact HG.out) | exact Glob.below HG.out (yG2 HB GE142.out GE144.out))
         rintro e w23 ⟨rfl, hb⟩
         refine ⟨_, rfl, ?_⟩
         have n0_ := aM (kB (yK BK142) hb)
         have n1_ := aM (kB (yK BK144) hb)
         have n2_ := aM (bP (yG2 HB GE142.out GE144.out) hb)
         clear BK142
         clear BK144
         clear HB
         have BK142 := n0_
         have BK144 := n1_
         have HB := n2_
         clear n0_ n1_ n2_
         (try clear hb)
         (try clear hb2)
         (try clear hk)
         (try clear hi)
         refine hK.out _ _ ⟨yV BK142 0, yV BK142 1, yV BK142 2, yV BK142 3, yV BK142 4, yV BK144 0, yV BK144 1, yV BK144 2, (pw_cell_below HB.out hw145_0), (pw_cell_below HB.out hw145_1), (pw_cell_below HB.out hw145_2), (pw_cell_below HB.out hw145_3), (pw_cell_below HB.out hw145_4), (pw_cell_below HB.out hw145_5), (pw_cell_below HB.out hw145_6), (pw_cell_below HB.out hw145_7)⟩ (fun hHeld => ?_)
         clear hK K
         refine norm_ (a' := ?_) ?_ ?_
         rotate_left
         ·
          show Act.put _ (some 27) _ = _
          simp only [Act.put, s1_, s2_, s3_, i64_w, i32_w]
          rfl
         refine yP HT_ 7 7 (tB 255 8) rfl rfl ?_
         refine done_ (done_of HT_.out (by kernel_rfl)) ?_
         try go_wp2
         go_ret
         exact ⟨yE, yG2 HB GE142.out GE144.out⟩
       ·
        rw [if_neg c9] at H
        exact absurd H (by simp)
      ·
       rw [if_neg c8] at H
       exact absurd H (by simp)
     ·
      rw [if_neg c7] at H
      exact absurd H (by simp)
    ·
     rw [if_neg c6] at H
     have c6b0 : decide (x16_1 < (l1.length : Int)) = false := decide_eq_false c6
     clear c6
     obtain rfl := Option.some.inj H
     go_wp2
     go_ret
     exact ⟨yE, yG1 HB GE142.out⟩
 ·
  rw [if_neg c3] at H
  have c3b0 : ((l1.length : Int) == (l0_4.length : Int)) = false := beq_eq_false_iff_ne.mpr c3
  have c3b1 : ((l1.length : Int) != (l0_4.length : Int)) = true := bne_iff_ne.mpr c3
  have c3b2 : (l1.length == l0_4.length) = false := by first | simpa using c3 | (simp at c3 ⊢; omega)
  obtain rfl := Option.some.inj H
  go_enter Tryd.func67, Tryd.ntmps67
  go_wp2_with (first | ((with_reducible refine gate_dst (N := 2) rfl ?_); refine yX (N := 2) (cs := #[.int .i64 a0_0, .string a0_1, .int .i64 a0_2, .int .i64 a0_3, .slice A0_4 l0_4.length c0_4]) (t := 24) ?_; intro gb142 hg w24 hbox hb; have BK142 := aM (hbox); have GW142 := yZ hg (yB HB); have GE142 := yZ hg (yB HB); replace HB := aM (bP (yB HB) hb); clear hb hbox hg; obtain ⟨hcz25_0, hcz25_1, hcz25_2, hcz25_3, hcz25_4, hfz25_0, hfz25_1, hfz25_2, hfz25_3, hfz25_4⟩ := cells5 BK142.out))
  go_ret
  exact ⟨yE, yG1 HB GE142.out⟩
/-! ### schema_Row: function 24 -/
def schema_Row.f (k : Nat) (a0_0 : Int) (a0_1 : ByteArray) (a0_2 : Int) (a0_3 : Int) (l0_4 : List (S54)) (l1 : List (S52)) : Option (Int) := (schema_RightTable.f k a0_0 a0_1 a0_2 a0_3 l0_4).bind fun t148 => (if t148 = true then ((schema_fits.f k a0_0 a0_1 a0_2 a0_3 l0_4 l1).bind fun t149 => (some t149)) else (some 2))
theorem schema_Row.mono : ∀ a0 a1 a2 a3 a4 a5 k, LeO (schema_Row.f k a0 a1 a2 a3 a4 a5) (schema_Row.f (k + 1) a0 a1 a2 a3 a4 a5) := by
 intro a0 a1 a2 a3 a4 a5 k
 unfold schema_Row.f
 repeat' first | with_reducible (first | exact schema_RightTable.mono .. | exact schema_fits.mono .. | exact LeO.refl .. | exact LeO.none .. | refine LeO.ite ?_ ?_ | refine LeO.bind ?_ (fun _ => ?_)) | exact schema_RightTable.mono .. | exact schema_fits.mono .. | exact LeO.none .. | refine LeO.ite ?_ ?_ | refine LeO.bind ?_ (fun _ => ?_)
set_option maxHeartbeats 8000000 in
set_option maxRecDepth 100000 in
theorem schema_Row.calls (k : Nat) (a0_0 : Int) (a0_1 : ByteArray) (a0_2 : Int) (a0_3 : Int) (A0_4 : Option Addr) (c0_4 : Nat) (l0_4 : List (S54)) (A1 : Option Addr) (c1 : Nat) (l1 : List (S52)) (r : Int) (w : World) (hr0_4 : Kd.C k54 w A0_4 l0_4.length l0_4) (hc0_4 : l0_4.length ≤ c0_4) (hr1 : Kd.C k52 w A1 l1.length l1) (hc1 : l1.length ≤ c1) (hG : Glob w) (h : schema_Row.f k a0_0 a0_1 a0_2 a0_3 l0_4 l1 = some r) :
  Calls Tryd.prog 24 #[.agg #[.int .i64 a0_0, .string a0_1, .int .i64 a0_2, .int .i64 a0_3, .slice A0_4 l0_4.length c0_4], .slice A1 l1.length c1] w fun e w' => e = .returned (.int .i64 r) ∧ Below w.heap.size w w' := by
 have hu24 := Tryd.underlying24
 have HR0_4 := aM hr0_4
 have HC0_4 := aM hc0_4
 clear hr0_4 hc0_4
 have HR1 := aM hr1
 have HC1 := aM hc1
 clear hr1 hc1
 have HG := aM hG
 clear hG
 have HB := aM (Below.refl w.heap.size w)
 have H : ((schema_RightTable.f k a0_0 a0_1 a0_2 a0_3 l0_4).bind fun t148 => (if t148 = true then ((schema_fits.f k a0_0 a0_1 a0_2 a0_3 l0_4 l1).bind fun t149 => (some t149)) else (some 2))) = some r := h
 clear h
 obtain ⟨t148, A3, H⟩ := yb H
 by_cases c4 : t148 = true
 ·
  subst c4
  replace H := yt H
  obtain ⟨t149, A5, H⟩ := yb H
  obtain rfl := Option.some.inj H
  go_enter Tryd.func24, Tryd.ntmps24
  go_wp2_with (first | ((with_reducible refine gate_dst (N := 2) rfl ?_); refine yX (N := 2) (cs := #[.int .i64 a0_0, .string a0_1, .int .i64 a0_2, .int .i64 a0_3, .slice A0_4 l0_4.length c0_4]) (t := 24) ?_; intro gb147 hg w6 hbox hb; have BK147 := aM (hbox); have GW147 := yZ hg (yB HB); have GE147 := yZ hg (yB HB); replace HB := aM (bP (yB HB) hb); clear hb hbox hg; obtain ⟨hcz7_0, hcz7_1, hcz7_2, hcz7_3, hcz7_4, hfz7_0, hfz7_1, hfz7_2, hfz7_3, hfz7_4⟩ := cells5 BK147.out) | ((with_reducible refine gate_callee (f := 26) rfl ?_); refine yC 6 Tryd.func26 #[.agg #[.int .i64 a0_0, .string a0_1, .int .i64 a0_2, .int .i64 a0_3, .slice A0_4 l0_4.length c0_4]] rfl ?_; (with_reducible refine (schema_RightTable.calls k a0_0 a0_1 a0_2 a0_3 _ _ l0_4 true _ ?side1 ?side2 ?side3 A3.out).mono ?_); (case side1 => exact yW (Kd.C_below HR0_4.out HB.out)); (case side2 => exact HC0_4.out); (case side3 => first | (with_reducible exact HG.out) | exact Glob.below HG.out (yG1 HB GE147.out)); rintro e w8 ⟨rfl, hb⟩; refine ⟨_, rfl, ?_⟩; replace BK147 := aM (kB (yK BK147) hb); replace HB := aM (bP (yG1 HB GE147.out) hb); (try clear hb); obtain ⟨hcz9_0, hcz9_1, hcz9_2, hcz9_3, hcz9_4, hfz9_0, hfz9_1, hfz9_2, hfz9_3, hfz9_4⟩ := cells5 BK147.out) | ((with_reducible refine gate_callee (f := 67) rfl ?_); refine yC 10 Tryd.func67 #[.agg #[.int .i64 a0_0, .string a0_1, .int .i64 a0_2, .int .i64 a0_3, .slice A0_4 l0_4.length c0_4], .slice A1 l1.length c1] rfl ?_; (with_reducible refine (schema_fits.calls k a0_0 a0_1 a0_2 a0_3 _ _ l0_4 _ _ l1 t149 _ ?side1 ?side2 ?side3 ?side4 ?side5 A5.out).mono ?_); (case side1 => exact yW (Kd.C_below HR0_4.out HB.out)); (case side2 => exact HC0_4.out); (case side3 => exact yW (Kd.C_below HR1.out HB.out)); (case side4 => exact HC1.out); (case side5 => first | (with_reducible exact HG.out) | exact Glob.below HG.out (yG1 HB GE147.out)); rintro e w10 ⟨rfl, hb⟩; refine ⟨_, rfl, ?_⟩; replace BK147 := aM (kB (yK BK147) hb); replace HB := aM (bP (yG1 HB GE147.out) hb); (try clear hb)))
  go_ret
  exact ⟨yE, yG1 HB GE147.out⟩
 ·
  replace c4 := Bool.eq_false_iff.mpr c4
  subst c4
  replace H := yf H
  obtain rfl := Option.some.inj H
  go_enter Tryd.func24, Tryd.ntmps24
  go_wp2_with (first | ((with_reducible refine gate_dst (N := 2) rfl ?_); refine yX (N := 2) (cs := #[.int .i64 a0_0, .string a0_1, .int .i64 a0_2, .int .i64 a0_3, .slice A0_4 l0_4.length c0_4]) (t := 24) ?_; intro gb147 hg w11 hbox hb; have BK147 := aM (hbox); have GW147 := yZ hg (yB HB); have GE147 := yZ hg (yB HB); replace HB := aM (bP (yB HB) hb); clear hb hbox hg; obtain ⟨hcz12_0, hcz12_1, hcz12_2, hcz12_3, hcz12_4, hfz12_0, hfz12_1, hfz12_2, hfz12_3, hfz12_4⟩ := cells5 BK147.out) | ((with_reducible refine gate_callee (f := 26) rfl ?_); refine yC 6 Tryd.func26 #[.agg #[.int .i64 a0_0, .string a0_1, .int .i64 a0_2, .int .i64 a0_3, .slice A0_4 l0_4.length c0_4]] rfl ?_; (with_reducible refine (schema_RightTable.calls k a0_0 a0_1 a0_2 a0_3 _ _ l0_4 false _ ?side1 ?side2 ?side3 A3.out).mono ?_); (case side1 => exact yW (Kd.C_below HR0_4.out HB.out)); (case side2 => exact HC0_4.out); (case side3 => first | (with_reducible exact HG.out) | exact Glob.below HG.out (yG1 HB GE147.out)); rintro e w13 ⟨rfl, hb⟩; refine ⟨_, rfl, ?_⟩; replace BK147 := aM (kB (yK BK147) hb); replace HB := aM (bP (yG1 HB GE147.out) hb); (try clear hb)))
  go_ret
  exact ⟨yE, yG1 HB GE147.out⟩
/-! ### rowcode_size: function 60 -/
def rowcode_size.f (a0 : Int) : Option (Int) := some ((wrap64 (a0 + 7)) / 8)
set_option maxHeartbeats 8000000 in
set_option maxRecDepth 100000 in
theorem rowcode_size.calls (a0 : Int) (r : Int) (w : World) (h : rowcode_size.f a0 = some r) :
  Calls Tryd.prog 60 #[.int .i64 a0] w fun e w' => e = .returned (.int .i64 r) ∧ Drawn0 w w' := by
 have H : (some ((wrap64 (a0 + 7)) / 8)) = some r := h
 clear h
 obtain rfl := Option.some.inj H
 go_enter Tryd.func60, Tryd.ntmps60
 go_wp2
 go_ret
 exact ⟨yS, yD⟩
end Go.Proofs.YtdeophpjammbpaaDoor.HRowcodeKeys

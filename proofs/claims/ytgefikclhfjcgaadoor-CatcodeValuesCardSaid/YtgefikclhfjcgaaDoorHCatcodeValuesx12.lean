/- For Go functions that CatcodeValues reaches: Lean functions, and walks that show that each call comes to what its Lean function tells; no condition but those that each theorem states. (Made by a program of this session over the kit's print.py.) -/
import Derived.Test.YtgefikclhfjcgaaDoorHCatcodeValuesx0
namespace Go.Proofs.YtgefikclhfjcgaaDoor.HCatcodeValues
open Go.RowKit Go.Proofs.YtgefikclhfjcgaaDoorW.PrintWords Go.Proofs.YtgefikclhfjcgaaDoorW.PrintLast Go.Proofs.YtgefikclhfjcgaaDoorW.PrintMore
attribute [local go_sem] max2_int min2_int max_two min_two max_three min_three max_four min_four   -- for this text's walks alone
set_option linter.unusedVariables false
set_option linter.unusedSimpArgs false
attribute [local go_sem] hp_s8 hp_s16 hp_s32 hp_s64 hp_m8 hp_m16 hp_m32 hp_m64
/-! ### haulageref01_Half: function 99 -/
def haulageref01_Half.l0 : Nat → Int → Int → Int → Option (Int)
 | 0, _, _, _ => none
 | k + 1, x0, x3, x4 => if x4 < x0 then (haulageref01_Half.l0 k x0 (wrap64 (2 * x3)) (wrap64 (x4 + 1))) else (some x3)
def haulageref01_Half.f (k : Nat) (a0 : Int) : Option (Int) := haulageref01_Half.l0 k a0 1 1
theorem haulageref01_Half.mono_l : ∀ k, (∀ y0 y1 y2, LeO (haulageref01_Half.l0 k y0 y1 y2) (haulageref01_Half.l0 (k + 1) y0 y1 y2))
 | 0 => fun _ _ _ r h => by simp [haulageref01_Half.l0] at h
 | k + 1 => by
  have ih0 := haulageref01_Half.mono_l k
  ·
   intro y0 y1 y2
   unfold haulageref01_Half.l0
   repeat' first
   | (with_reducible exact ih0 _ _ _)
   | (with_reducible exact LeO.refl _)
   | (with_reducible exact LeO.none _)
   | (with_reducible refine LeO.ite ?_ ?_)
   | (with_reducible refine LeO.bind ?_ (fun _ => ?_))
   | exact ih0 _ _ _
   | exact LeO.none _
   | refine LeO.ite ?_ ?_
   | refine LeO.bind ?_ (fun _ => ?_)
theorem haulageref01_Half.mono : ∀ a0 k, LeO (haulageref01_Half.f k a0) (haulageref01_Half.f (k + 1) a0) := by
 intro a0 k
 have ih0 := haulageref01_Half.mono_l k
 unfold haulageref01_Half.f
 repeat' first | with_reducible (first | exact ih0 .. | exact LeO.refl .. | exact LeO.none .. | refine LeO.ite ?_ ?_ | refine LeO.bind ?_ (fun _ => ?_)) | exact ih0 .. | exact LeO.none .. | refine LeO.ite ?_ ?_ | refine LeO.bind ?_ (fun _ => ?_)
set_option maxHeartbeats 8000000 in
set_option maxRecDepth 100000 in
theorem haulageref01_Half.calls (k : Nat) (a0 : Int) (r : Int) (w : World) (h : haulageref01_Half.f k a0 = some r) :
  Calls Tryd.prog 99 #[.int .i64 a0] w fun e w' => e = .returned (.int .i64 r) ∧ Drawn0 w w' := by
 have H : (haulageref01_Half.l0 k a0 1 1) = some r := h
 clear h
 have H' := aM H
 clear H
 go_enter Tryd.func99, Tryd.ntmps99
 go_wp2
 go_loopg [3, 4] k (fun kq v3 v4 w' => ∃ (x3_1 : Int) (x4_1 : Int), v3 = .int .i64 x3_1 ∧ v4 = .int .i64 x4_1 ∧ Aside0 (haulageref01_Half.l0 kq a0 x3_1 x4_1 = some r) ∧ Aside0 (kq ≤ k) ∧ Drawn0 w w')
 case atStart => exact ⟨(1), (1), yS, yS, H', ⟨Nat.le_refl _⟩, yD⟩
 case round =>
  clear H'
  obtain ⟨x3_1, x4_1, rfl, rfl, HA, HK1, ⟨m1, rfl⟩⟩ := hrel
  cases gk with
  | zero => exact absurd HA.out (by simp [haulageref01_Half.l0])
  | succ k1 =>
   have H := HA.out
   clear HA
   simp only [haulageref01_Half.l0] at H
   by_cases c2 : x4_1 < a0
   ·
    rw [if_pos c2] at H
    have c2b0 : decide (x4_1 < a0) = true := decide_eq_true c2
    clear c2
    have H' := aM H
    clear H
    go_wp2
    go_roundg k1
    case measure => have := HK1.out; omega
    case rel => exact ⟨(wrap64 (2 * x3_1)), (wrap64 (x4_1 + 1)), yS, yS, H', ⟨by have := HK1.out; omega⟩, yD⟩
   ·
    rw [if_neg c2] at H
    have c2b0 : decide (x4_1 < a0) = false := decide_eq_false c2
    clear c2
    obtain rfl := Option.some.inj H
    go_wp2
    go_ret
    exact ⟨yS, yD⟩
/-! ### haulageref01_Fits: function 40 -/
def haulageref01_Fits.j0 : Nat → Int → Int → Bool → Option (Bool)
 | 0, _, _, _ => none
 | k + 1, x0, x1, x10 => if x10 = true then (some false) else (if x1 = 64 then (some true) else ((haulageref01_Half.f k x1).bind fun t297 => (if x0 ≥ (wrap64 (-t297)) then ((haulageref01_Half.f k x1).bind fun t298 => (some (decide (x0 < t298)))) else (some false))))
def haulageref01_Fits.f (k : Nat) (a0 : Int) (a1 : Int) : Option (Bool) := if a1 < 1 then (haulageref01_Fits.j0 k a0 a1 true) else (haulageref01_Fits.j0 k a0 a1 (decide (a1 > 64)))
theorem haulageref01_Fits.mono_l : ∀ k, (∀ y0 y1 y2, LeO (haulageref01_Fits.j0 k y0 y1 y2) (haulageref01_Fits.j0 (k + 1) y0 y1 y2))
 | 0 => fun _ _ _ r h => by simp [haulageref01_Fits.j0] at h
 | k + 1 => by
  have ih0 := haulageref01_Fits.mono_l k
  ·
   intro y0 y1 y2
   unfold haulageref01_Fits.j0
   repeat' first
   | (with_reducible exact ih0 _ _ _)
   | (with_reducible exact haulageref01_Half.mono _ _)
   | (with_reducible exact LeO.refl _)
   | (with_reducible exact LeO.none _)
   | (with_reducible refine LeO.ite ?_ ?_)
   | (with_reducible refine LeO.bind ?_ (fun _ => ?_))
   | exact ih0 _ _ _
   | exact haulageref01_Half.mono _ _
   | exact LeO.none _
   | refine LeO.ite ?_ ?_
   | refine LeO.bind ?_ (fun _ => ?_)
theorem haulageref01_Fits.mono : ∀ a0 a1 k, LeO (haulageref01_Fits.f k a0 a1) (haulageref01_Fits.f (k + 1) a0 a1) := by
 intro a0 a1 k
 have ih0 := haulageref01_Fits.mono_l k
 unfold haulageref01_Fits.f
 repeat' first | with_reducible (first | exact ih0 .. | exact haulageref01_Half.mono .. | exact LeO.refl .. | exact LeO.none .. | refine LeO.ite ?_ ?_ | refine LeO.bind ?_ (fun _ => ?_)) | exact ih0 .. | exact haulageref01_Half.mono .. | exact LeO.none .. | refine LeO.ite ?_ ?_ | refine LeO.bind ?_ (fun _ => ?_)
set_option maxHeartbeats 8000000 in
set_option maxRecDepth 100000 in
theorem haulageref01_Fits.calls (k : Nat) (a0 : Int) (a1 : Int) (r : Bool) (w : World) (h : haulageref01_Fits.f k a0 a1 = some r) :
  Calls Tryd.prog 40 #[.int .i64 a0, .int .i64 a1] w fun e w' => e = .returned (.bool r) ∧ Drawn0 w w' := by
 have H : (if a1 < 1 then (haulageref01_Fits.j0 k a0 a1 true) else (haulageref01_Fits.j0 k a0 a1 (decide (a1 > 64)))) = some r := h
 clear h
 have HC3 := aM H
 clear H
 go_enter Tryd.func40, Tryd.ntmps40
 go_upto_region 1 with (fail)
 go_cut [10] (fun v10 wc => ∃ (kq : Nat) (x10_2 : Bool), v10 = .bool x10_2 ∧ Aside0 (haulageref01_Fits.j0 kq a0 a1 x10_2 = some r) ∧ Aside0 (kq ≤ k) ∧ Drawn0 w wc)
 case first =>
  have H := HC3.out
  clear HC3
  by_cases c4 : a1 < 1
  ·
   rw [if_pos c4] at H
   have c4b0 : decide (a1 < 1) = true := decide_eq_true c4
   clear c4
   (first | rw [c4b0] | (simp only [i64_w, i32_w]; rw [c4b0]) | skip)
   have H' := aM H
   clear H
   go_wp2
   go_meet
   case rel => exact ⟨_, (true), yS, H', ⟨yO⟩, yD⟩
  ·
   rw [if_neg c4] at H
   have c4b0 : decide (a1 < 1) = false := decide_eq_false c4
   clear c4
   (first | rw [c4b0] | (simp only [i64_w, i32_w]; rw [c4b0]) | skip)
   have H' := aM H
   clear H
   go_wp2
   go_meet
   case rel => exact ⟨_, (decide (a1 > 64)), yS, H', ⟨yO⟩, yD⟩
 case rest =>
  clear HC3
  obtain ⟨kq, x10_2, rfl, HA, HJ2, ⟨mc2, rfl⟩⟩ := hcut
  cases kq with
  | zero => exact absurd HA.out (by simp [haulageref01_Fits.j0])
  | succ kj2 =>
   have H := HA.out
   clear HA
   simp only [haulageref01_Fits.j0] at H
   by_cases c5 : x10_2 = true
   ·
    subst c5
    replace H := yt H
    obtain rfl := Option.some.inj H
    go_wp2
    go_ret
    exact ⟨yS, yD⟩
   ·
    replace c5 := Bool.eq_false_iff.mpr c5
    subst c5
    replace H := yf H
    by_cases c6 : a1 = 64
    ·
     rw [if_pos c6] at H
     have c6b0 : (a1 == 64) = true := beq_iff_eq.mpr c6
     have c6b1 : (a1 != 64) = false := bne_eq_false_iff_eq.mpr c6
     clear c6
     obtain rfl := Option.some.inj H
     go_wp2
     go_ret
     exact ⟨yS, yD⟩
    ·
     rw [if_neg c6] at H
     have c6b0 : (a1 == 64) = false := beq_eq_false_iff_ne.mpr c6
     have c6b1 : (a1 != 64) = true := bne_iff_ne.mpr c6
     obtain ⟨t297, A7, H⟩ := yb H
     by_cases c8 : a0 ≥ (wrap64 (-t297))
     ·
      rw [if_pos c8] at H
      have c8b0 : decide ((wrap64 (-t297)) ≤ a0) = true := decide_eq_true c8
      clear c8
      replace H := Option.bind_eq_some_iff.mp H
      obtain ⟨t298, A90, H⟩ := H
      obtain rfl : t297 = t298 := Option.some.inj (A7.out.symm.trans A90)
      replace H : (some (decide (a0 < t297))) = some r := H
      have A9 := aM A90
      clear A90
      obtain rfl := Option.some.inj H
      go_wp2_with (first | (go_at_call 99; (with_reducible refine (haulageref01_Half.calls kj2 a1 t297 _ A7.out).mono ?_); rintro e w' ⟨rfl, ⟨nd, rfl⟩⟩) | (go_at_call 99; (with_reducible refine (haulageref01_Half.calls kj2 a1 t297 _ A9.out).mono ?_); rintro e w' ⟨rfl, ⟨nd, rfl⟩⟩))
      go_ret
      exact ⟨yS, yD⟩
     ·
      rw [if_neg c8] at H
      have c8b0 : decide ((wrap64 (-t297)) ≤ a0) = false := decide_eq_false c8
      clear c8
      obtain rfl := Option.some.inj H
      go_wp2_with (first | (go_at_call 99; (with_reducible refine (haulageref01_Half.calls kj2 a1 t297 _ A7.out).mono ?_); rintro e w' ⟨rfl, ⟨nd, rfl⟩⟩))
      go_ret
      exact ⟨yS, yD⟩
/-! ### haulageref03_Is: function 142 -/
def haulageref03_Is.f (a0 : Int) : Option (Bool) := if a0 ≥ 0 then (if a0 ≤ 1114111 then (if a0 < 55296 then (some true) else (some (decide (a0 > 57343)))) else (some false)) else (some false)
set_option maxHeartbeats 8000000 in
set_option maxRecDepth 100000 in
theorem haulageref03_Is.calls (a0 : Int) (r : Bool) (w : World) (h : haulageref03_Is.f a0 = some r) :
  Calls Tryd.prog 142 #[.int .i64 a0] w fun e w' => e = .returned (.bool r) ∧ Drawn0 w w' := by
 have H : (if a0 ≥ 0 then (if a0 ≤ 1114111 then (if a0 < 55296 then (some true) else (some (decide (a0 > 57343)))) else (some false)) else (some false)) = some r := h
 clear h
 by_cases c2 : a0 ≥ 0
 ·
  rw [if_pos c2] at H
  have c2b0 : decide (0 ≤ a0) = true := decide_eq_true c2
  clear c2
  by_cases c3 : a0 ≤ 1114111
  ·
   rw [if_pos c3] at H
   have c3b0 : decide (a0 ≤ 1114111) = true := decide_eq_true c3
   clear c3
   by_cases c4 : a0 < 55296
   ·
    rw [if_pos c4] at H
    have c4b0 : decide (a0 < 55296) = true := decide_eq_true c4
    clear c4
    obtain rfl := Option.some.inj H
    go_enter Tryd.func142, Tryd.ntmps142
    go_wp2
    go_ret
    exact ⟨yS, yD⟩
   ·
    rw [if_neg c4] at H
    have c4b0 : decide (a0 < 55296) = false := decide_eq_false c4
    clear c4
    obtain rfl := Option.some.inj H
    go_enter Tryd.func142, Tryd.ntmps142
    go_wp2
    go_ret
    exact ⟨yS, yD⟩
  ·
   rw [if_neg c3] at H
   have c3b0 : decide (a0 ≤ 1114111) = false := decide_eq_false c3
   clear c3
   obtain rfl := Option.some.inj H
   go_enter Tryd.func142, Tryd.ntmps142
   go_wp2
   go_ret
   exact ⟨yS, yD⟩
 ·
  rw [if_neg c2] at H
  have c2b0 : decide (0 ≤ a0) = false := decide_eq_false c2
  clear c2
  obtain rfl := Option.some.inj H
  go_enter Tryd.func142, Tryd.ntmps142
  go_wp2
  go_ret
  exact ⟨yS, yD⟩
/-! ### haulageref03_one: function 148 -/
def haulageref03_one.f (a0 : Int) : Option (ByteArray) := some (strOfNums (([(a0) % 256] : List Int)))
set_option maxHeartbeats 8000000 in
set_option maxRecDepth 100000 in
theorem haulageref03_one.calls (a0 : Int) (r : ByteArray) (w : World) (h : haulageref03_one.f a0 = some r) :
  Calls Tryd.prog 148 #[.int .i64 a0] w fun e w' => e = .returned (.string r) ∧ Below w.heap.size w w' := by
 have HB := aM (Below.refl w.heap.size w)
 have H : (some (strOfNums (([(a0) % 256] : List Int)))) = some r := h
 clear h
 obtain ⟨y299, hy299⟩ : ∃ y_ : List Int, y_ = (([(a0) % 256] : List Int)) := ⟨_, rfl⟩
 replace H : (some (strOfNums y299)) = some r := by first | (rw [hy299]; with_reducible exact H) | (have H2_ := (Option.bind_some _ _).symm.trans H; rw [hy299]; with_reducible exact H2_) | (have H2_ := (Option.bind_some _ _).symm.trans H; with_reducible exact H2_) | with_reducible exact H | (rw [hy299]; exact H) | exact H
 have Ny299 := aM hy299
 clear hy299
 obtain rfl := Option.some.inj H
 go_enter Tryd.func148, Tryd.ntmps148
 go_wp2_with (first | ((with_reducible refine gate_dst (N := 5) rfl ?_); refine Kd.R_lit (Kd.int .u8) _ 5 ?hg (N := 5) ?hd (xs := ([(a0) % 256] : List Int)) (inner := [.int .u8 ((a0) % 256)]) (ok := fun _ => True) (okp := fun _ => True) ?hr ?hp (fun _ hk => hk) trivial (Below.refl _ _) (Nat.le_refl _) (by simp) ?_; (case hd => rfl); (case hg => rfl); (case hr => first | (go_simp; done) | (go_simp; rfl)); (case hp => exact (Reps.one (show Kd.M (Kd.int .u8) _ _ _ ((a0) % 256) [.int .u8 ((a0) % 256)] from rfl) (Reps.none _ _))); intro v300 w2 ho3 hb hg_ hnew_; clear hg_ hnew_; (first | rw [← Ny299.out] at ho3 | (simp only [Int.reduceToNat] at ho3; rw [← Ny299.out] at ho3)); have HO301 := aM (Kd.R_lower ho3 (bZ (yB HB))); replace HB := aM (bP (yB HB) hb); clear hb ho3; have hcv4 := own_string (P := Tryd.prog) Tryd.underlying78 Tryd.underlying5 Tryd.underlying9 (Kd.own_of_R HO301.out)))
 go_ret
 exact ⟨yE, yB HB⟩
/-! ### haulageref03_Put: function 143 -/
def haulageref03_Put.f (a0 : Int) : Option (ByteArray) := if a0 < 128 then ((haulageref03_one.f a0).bind fun t302 => (some t302)) else (if a0 < 2048 then ((haulageref03_one.f (wrap64 (192 + (wrap64 (Int.tdiv a0 64))))).bind fun t303 => ((haulageref03_one.f (wrap64 (128 + (Int.tmod a0 64)))).bind fun t304 => (if t303.size + t304.size ≤ 9223372036854775807 then (some (t303 ++ t304)) else (none)))) else (if a0 < 65536 then ((haulageref03_one.f (wrap64 (224 + (wrap64 (Int.tdiv a0 4096))))).bind fun t305 => ((haulageref03_one.f (wrap64 (128 + (Int.tmod (wrap64 (Int.tdiv a0 64)) 64)))).bind fun t306 => (if t305.size + t306.size ≤ 9223372036854775807 then ((haulageref03_one.f (wrap64 (128 + (Int.tmod a0 64)))).bind fun t307 => (if (t305 ++ t306).size + t307.size ≤ 9223372036854775807 then (some ((t305 ++ t306) ++ t307)) else (none))) else (none)))) else ((haulageref03_one.f (wrap64 (240 + (wrap64 (Int.tdiv a0 262144))))).bind fun t308 => ((haulageref03_one.f (wrap64 (128 + (Int.tmod (wrap64 (Int.tdiv a0 4096)) 64)))).bind fun t309 => (if t308.size + t309.size ≤ 9223372036854775807 then ((haulageref03_one.f (wrap64 (128 + (Int.tmod (wrap64 (Int.tdiv a0 64)) 64)))).bind fun t310 => (if (t308 ++ t309).size + t310.size ≤ 9223372036854775807 then ((haulageref03_one.f (wrap64 (128 + (Int.tmod a0 64)))).bind fun t311 => (if ((t308 ++ t309) ++ t310).size + t311.size ≤ 9223372036854775807 then (some (((t308 ++ t309) ++ t310) ++ t311)) else (none))) else (none))) else (none))))))
set_option maxHeartbeats 8000000 in
set_option maxRecDepth 100000 in
theorem haulageref03_Put.calls (a0 : Int) (r : ByteArray) (w : World) (h : haulageref03_Put.f a0 = some r) :
  Calls Tryd.prog 143 #[.int .i64 a0] w fun e w' => e = .returned (.string r) ∧ Below w.heap.size w w' := by
 have HB := aM (Below.refl w.heap.size w)
 have H : (if a0 < 128 then ((haulageref03_one.f a0).bind fun t302 => (some t302)) else (if a0 < 2048 then ((haulageref03_one.f (wrap64 (192 + (wrap64 (Int.tdiv a0 64))))).bind fun t303 => ((haulageref03_one.f (wrap64 (128 + (Int.tmod a0 64)))).bind fun t304 => (if t303.size + t304.size ≤ 9223372036854775807 then (some (t303 ++ t304)) else (none)))) else (if a0 < 65536 then ((haulageref03_one.f (wrap64 (224 + (wrap64 (Int.tdiv a0 4096))))).bind fun t305 => ((haulageref03_one.f (wrap64 (128 + (Int.tmod (wrap64 (Int.tdiv a0 64)) 64)))).bind fun t306 => (if t305.size + t306.size ≤ 9223372036854775807 then ((haulageref03_one.f (wrap64 (128 + (Int.tmod a0 64)))).bind fun t307 => (if (t305 ++ t306).size + t307.size ≤ 9223372036854775807 then (some ((t305 ++ t306) ++ t307)) else (none))) else (none)))) else ((haulageref03_one.f (wrap64 (240 + (wrap64 (Int.tdiv a0 262144))))).bind fun t308 => ((haulageref03_one.f (wrap64 (128 + (Int.tmod (wrap64 (Int.tdiv a0 4096)) 64)))).bind fun t309 => (if t308.size + t309.size ≤ 9223372036854775807 then ((haulageref03_one.f (wrap64 (128 + (Int.tmod (wrap64 (Int.tdiv a0 64)) 64)))).bind fun t310 => (if (t308 ++ t309).size + t310.size ≤ 9223372036854775807 then ((haulageref03_one.f (wrap64 (128 + (Int.tmod a0 64)))).bind fun t311 => (if ((t308 ++ t309) ++ t310).size + t311.size ≤ 9223372036854775807 then (some (((t308 ++ t309) ++ t310) ++ t311)) else (none))) else (none))) else (none))))))) = some r := h
 clear h
 by_cases c2 : a0 < 128
 ·
  rw [if_pos c2] at H
  have c2b0 : decide (a0 < 128) = true := decide_eq_true c2
  clear c2
  obtain ⟨t302, A3, H⟩ := yb H
  obtain rfl := Option.some.inj H
  go_enter Tryd.func143, Tryd.ntmps143
  go_wp2_with (first | ((with_reducible refine gate_callee (f := 148) rfl ?_); refine yC 7 Tryd.func148 #[.int .i64 a0] rfl ?_; (with_reducible refine (haulageref03_one.calls a0 t302 _ A3.out).mono ?_); rintro e w4 ⟨rfl, hb⟩; refine ⟨_, rfl, ?_⟩; replace HB := aM (bP (yB HB) hb); (try clear hb)))
  go_ret
  exact ⟨yE, yB HB⟩
 ·
  rw [if_neg c2] at H
  have c2b0 : decide (a0 < 128) = false := decide_eq_false c2
  clear c2
  by_cases c5 : a0 < 2048
  ·
   rw [if_pos c5] at H
   have c5b0 : decide (a0 < 2048) = true := decide_eq_true c5
   clear c5
   obtain ⟨t303, A6, H⟩ := yb H
   obtain ⟨t304, A7, H⟩ := yb H
   by_cases c8 : t303.size + t304.size ≤ 9223372036854775807
   ·
    rw [if_pos c8] at H
    have c8b0 := eq_true c8
    have c8b1 : decide (t303.size + t304.size ≤ 9223372036854775807) = true := decide_eq_true c8
    try have c8b2 : (9223372036854775807 < t303.size + t304.size) = False := eq_false (Nat.not_lt.2 c8)
    obtain rfl := Option.some.inj H
    go_enter Tryd.func143, Tryd.ntmps143
    go_wp2_with (first | ((with_reducible refine gate_callee (f := 148) rfl ?_); refine yC 14 Tryd.func148 #[.int .i64 (wrap64 (192 + (wrap64 (Int.tdiv a0 64))))] rfl ?_; (with_reducible refine (haulageref03_one.calls (wrap64 (192 + (wrap64 (Int.tdiv a0 64)))) t303 _ A6.out).mono ?_); rintro e w9 ⟨rfl, hb⟩; refine ⟨_, rfl, ?_⟩; replace HB := aM (bP (yB HB) hb); (try clear hb)) | ((with_reducible refine gate_callee (f := 148) rfl ?_); refine yC 18 Tryd.func148 #[.int .i64 (wrap64 (128 + (Int.tmod a0 64)))] rfl ?_; (with_reducible refine (haulageref03_one.calls (wrap64 (128 + (Int.tmod a0 64))) t304 _ A7.out).mono ?_); rintro e w10 ⟨rfl, hb⟩; refine ⟨_, rfl, ?_⟩; replace HB := aM (bP (yB HB) hb); (try clear hb)))
    go_ret
    exact ⟨yE, yB HB⟩
   ·
    rw [if_neg c8] at H
    exact absurd H (by simp)
  ·
   rw [if_neg c5] at H
   have c5b0 : decide (a0 < 2048) = false := decide_eq_false c5
   clear c5
   by_cases c11 : a0 < 65536
   ·
    rw [if_pos c11] at H
    have c11b0 : decide (a0 < 65536) = true := decide_eq_true c11
    clear c11
    obtain ⟨t305, A12, H⟩ := yb H
    obtain ⟨t306, A13, H⟩ := yb H
    by_cases c14 : t305.size + t306.size ≤ 9223372036854775807
    ·
     rw [if_pos c14] at H
     have c14b0 := eq_true c14
     have c14b1 : decide (t305.size + t306.size ≤ 9223372036854775807) = true := decide_eq_true c14
     try have c14b2 : (9223372036854775807 < t305.size + t306.size) = False := eq_false (Nat.not_lt.2 c14)
     obtain ⟨t307, A15, H⟩ := yb H
     by_cases c16 : (t305 ++ t306).size + t307.size ≤ 9223372036854775807
     ·
      rw [if_pos c16] at H
      have c16b0 := eq_true c16
      have c16b1 : decide ((t305 ++ t306).size + t307.size ≤ 9223372036854775807) = true := decide_eq_true c16
      have c16z : (9223372036854775807 < t305.size + t306.size + t307.size) = False := eq_false (by have h_ := oD c16b1; simp only [ByteArray.size_append] at h_; omega)
      try have c16b2 : (9223372036854775807 < (t305 ++ t306).size + t307.size) = False := eq_false (Nat.not_lt.2 c16)
      obtain rfl := Option.some.inj H
      go_enter Tryd.func143, Tryd.ntmps143
      go_wp2_with (first | ((with_reducible refine gate_callee (f := 148) rfl ?_); refine yC 26 Tryd.func148 #[.int .i64 (wrap64 (224 + (wrap64 (Int.tdiv a0 4096))))] rfl ?_; (with_reducible refine (haulageref03_one.calls (wrap64 (224 + (wrap64 (Int.tdiv a0 4096)))) t305 _ A12.out).mono ?_); rintro e w17 ⟨rfl, hb⟩; refine ⟨_, rfl, ?_⟩; replace HB := aM (bP (yB HB) hb); (try clear hb)) | ((with_reducible refine gate_callee (f := 148) rfl ?_); refine yC 31 Tryd.func148 #[.int .i64 (wrap64 (128 + (Int.tmod (wrap64 (Int.tdiv a0 64)) 64)))] rfl ?_; (with_reducible refine (haulageref03_one.calls (wrap64 (128 + (Int.tmod (wrap64 (Int.tdiv a0 64)) 64))) t306 _ A13.out).mono ?_); rintro e w18 ⟨rfl, hb⟩; refine ⟨_, rfl, ?_⟩; replace HB := aM (bP (yB HB) hb); (try clear hb)) | ((with_reducible refine gate_callee (f := 148) rfl ?_); refine yC 36 Tryd.func148 #[.int .i64 (wrap64 (128 + (Int.tmod a0 64)))] rfl ?_; (with_reducible refine (haulageref03_one.calls (wrap64 (128 + (Int.tmod a0 64))) t307 _ A15.out).mono ?_); rintro e w19 ⟨rfl, hb⟩; refine ⟨_, rfl, ?_⟩; replace HB := aM (bP (yB HB) hb); (try clear hb)))
      go_ret
      exact ⟨yE, yB HB⟩
     ·
      rw [if_neg c16] at H
      exact absurd H (by simp)
    ·
     rw [if_neg c14] at H
     exact absurd H (by simp)
   ·
    rw [if_neg c11] at H
    have c11b0 : decide (a0 < 65536) = false := decide_eq_false c11
    clear c11
    obtain ⟨t308, A20, H⟩ := yb H
    obtain ⟨t309, A21, H⟩ := yb H
    by_cases c22 : t308.size + t309.size ≤ 9223372036854775807
    ·
     rw [if_pos c22] at H
     have c22b0 := eq_true c22
     have c22b1 : decide (t308.size + t309.size ≤ 9223372036854775807) = true := decide_eq_true c22
     try have c22b2 : (9223372036854775807 < t308.size + t309.size) = False := eq_false (Nat.not_lt.2 c22)
     obtain ⟨t310, A23, H⟩ := yb H
     by_cases c24 : (t308 ++ t309).size + t310.size ≤ 9223372036854775807
     ·
      rw [if_pos c24] at H
      have c24b0 := eq_true c24
      have c24b1 : decide ((t308 ++ t309).size + t310.size ≤ 9223372036854775807) = true := decide_eq_true c24
      have c24z : (9223372036854775807 < t308.size + t309.size + t310.size) = False := eq_false (by have h_ := oD c24b1; simp only [ByteArray.size_append] at h_; omega)
      try have c24b2 : (9223372036854775807 < (t308 ++ t309).size + t310.size) = False := eq_false (Nat.not_lt.2 c24)
      obtain ⟨t311, A25, H⟩ := yb H
      by_cases c26 : ((t308 ++ t309) ++ t310).size + t311.size ≤ 9223372036854775807
      ·
       rw [if_pos c26] at H
       have c26b0 := eq_true c26
       have c26b1 : decide (((t308 ++ t309) ++ t310).size + t311.size ≤ 9223372036854775807) = true := decide_eq_true c26
       have c26z : (9223372036854775807 < t308.size + t309.size + t310.size + t311.size) = False := eq_false (by have h_ := oD c26b1; simp only [ByteArray.size_append] at h_; omega)
       try have c26b2 : (9223372036854775807 < ((t308 ++ t309) ++ t310).size + t311.size) = False := eq_false (Nat.not_lt.2 c26)
       obtain rfl := Option.some.inj H
       go_enter Tryd.func143, Tryd.ntmps143
       go_wp2_with (first | ((with_reducible refine gate_callee (f := 148) rfl ?_); refine yC 41 Tryd.func148 #[.int .i64 (wrap64 (240 + (wrap64 (Int.tdiv a0 262144))))] rfl ?_; (with_reducible refine (haulageref03_one.calls (wrap64 (240 + (wrap64 (Int.tdiv a0 262144)))) t308 _ A20.out).mono ?_); rintro e w27 ⟨rfl, hb⟩; refine ⟨_, rfl, ?_⟩; replace HB := aM (bP (yB HB) hb); (try clear hb)) | ((with_reducible refine gate_callee (f := 148) rfl ?_); refine yC 46 Tryd.func148 #[.int .i64 (wrap64 (128 + (Int.tmod (wrap64 (Int.tdiv a0 4096)) 64)))] rfl ?_; (with_reducible refine (haulageref03_one.calls (wrap64 (128 + (Int.tmod (wrap64 (Int.tdiv a0 4096)) 64))) t309 _ A21.out).mono ?_); rintro e w28 ⟨rfl, hb⟩; refine ⟨_, rfl, ?_⟩; replace HB := aM (bP (yB HB) hb); (try clear hb)) | ((with_reducible refine gate_callee (f := 148) rfl ?_); refine yC 52 Tryd.func148 #[.int .i64 (wrap64 (128 + (Int.tmod (wrap64 (Int.tdiv a0 64)) 64)))] rfl ?_; (with_reducible refine (haulageref03_one.calls (wrap64 (128 + (Int.tmod (wrap64 (Int.tdiv a0 64)) 64))) t310 _ A23.out).mono ?_); rintro e w29 ⟨rfl, hb⟩; refine ⟨_, rfl, ?_⟩; replace HB := aM (bP (yB HB) hb); (try clear hb)) | ((with_reducible refine gate_callee (f := 148) rfl ?_); refine yC 57 Tryd.func148 #[.int .i64 (wrap64 (128 + (Int.tmod a0 64)))] rfl ?_; (with_reducible refine (haulageref03_one.calls (wrap64 (128 + (Int.tmod a0 64))) t311 _ A25.out).mono ?_); rintro e w30 ⟨rfl, hb⟩; refine ⟨_, rfl, ?_⟩; replace HB := aM (bP (yB HB) hb); (try clear hb)))
       go_ret
       exact ⟨yE, yB HB⟩
      ·
       rw [if_neg c26] at H
       exact absurd H (by simp)
     ·
      rw [if_neg c24] at H
      exact absurd H (by simp)
    ·
     rw [if_neg c22] at H
     exact absurd H (by simp)
end Go.Proofs.YtgefikclhfjcgaaDoor.HCatcodeValues

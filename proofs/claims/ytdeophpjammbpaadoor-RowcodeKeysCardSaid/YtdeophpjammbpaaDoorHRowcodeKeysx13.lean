/- For Go functions that RowcodeKeys reaches: Lean functions, and walks that show that each call comes to what its Lean function tells; no condition but those that each theorem states. (Made by a program of this session over the kit's print.py.) -/
import Derived.Test.YtdeophpjammbpaaDoorHRowcodeKeysx0
import Derived.Test.YtdeophpjammbpaaDoorHRowcodeKeysx12
namespace Go.Proofs.YtdeophpjammbpaaDoor.HRowcodeKeys
open Go.RowKit Go.Proofs.YtdeophpjammbpaaDoorW.PrintWords Go.Proofs.YtdeophpjammbpaaDoorW.PrintLast Go.Proofs.YtdeophpjammbpaaDoorW.PrintMore
attribute [local go_sem] max2_int min2_int max_two min_two max_three min_three max_four min_four   -- for this text's walks alone
set_option linter.unusedVariables false
set_option linter.unusedSimpArgs false
attribute [local go_sem] hp_s8 hp_s16 hp_s32 hp_s64 hp_m8 hp_m16 hp_m32 hp_m64
/-! ### haulageref08_Table: function 27 -/
mutual
def haulageref08_Table.j0 : Nat → Bool → Int → ByteArray → Int → Int → List (S54) → Option (Bool)
 | 0, _, _, _, _, _, _ => none
 | k + 1, x31, x269000, x269001, x269002, x269003, x269004 => if x31 = true then (some false) else (haulageref08_Table.l0 k false 0 x269000 x269001 x269002 x269003 x269004)
def haulageref08_Table.l0 : Nat → Bool → Int → Int → ByteArray → Int → Int → List (S54) → Option (Bool)
 | 0, _, _, _, _, _, _, _ => none
 | k + 1, x3, x4, x269000, x269001, x269002, x269003, x269004 => if x4 < (x269004.length : Int) then (if 0 ≤ x4 then ((haulageref08_Column.f k ((rd_T54 x269004 x4).f0) ((rd_T54 x269004 x4).f1) ((rd_T54 x269004 x4).f2.f0) ((rd_T54 x269004 x4).f2.f1) ((rd_T54 x269004 x4).f3) ((rd_T54 x269004 x4).f4.f0) ((rd_T54 x269004 x4).f4.f1) ((rd_T54 x269004 x4).f4.f2)).bind fun t272 => (if t272 = true then (if ((rd_T54 x269004 x4).f0) ≥ x269003 then (haulageref08_Table.j2 k x3 x4 true x269000 x269001 x269002 x269003 x269004 ((rd_T54 x269004 x4).f0) ((rd_T54 x269004 x4).f1) ((rd_T54 x269004 x4).f2.f0) ((rd_T54 x269004 x4).f2.f1) ((rd_T54 x269004 x4).f3) ((rd_T54 x269004 x4).f4.f0) ((rd_T54 x269004 x4).f4.f1) ((rd_T54 x269004 x4).f4.f2)) else (if x4 > 0 then (if 0 ≤ (wrap64 (x4 - 1)) then (if (wrap64 (x4 - 1)) < (x269004.length : Int) then (if ((rd_T54 x269004 x4).f0) ≤ ((rd_T54 x269004 (wrap64 (x4 - 1))).f0) then (haulageref08_Table.j2 k x3 x4 true x269000 x269001 x269002 x269003 x269004 ((rd_T54 x269004 x4).f0) ((rd_T54 x269004 x4).f1) ((rd_T54 x269004 x4).f2.f0) ((rd_T54 x269004 x4).f2.f1) ((rd_T54 x269004 x4).f3) ((rd_T54 x269004 x4).f4.f0) ((rd_T54 x269004 x4).f4.f1) ((rd_T54 x269004 x4).f4.f2)) else ((haulageref08_Col.f k x269000 x269001 x269002 x269003 x269004 ((rd_T54 x269004 x4).f1)).bind fun t274 => (haulageref08_Table.j2 k x3 x4 (t274 != x4) x269000 x269001 x269002 x269003 x269004 ((rd_T54 x269004 x4).f0) ((rd_T54 x269004 x4).f1) ((rd_T54 x269004 x4).f2.f0) ((rd_T54 x269004 x4).f2.f1) ((rd_T54 x269004 x4).f3) ((rd_T54 x269004 x4).f4.f0) ((rd_T54 x269004 x4).f4.f1) ((rd_T54 x269004 x4).f4.f2)))) else (none)) else (none)) else ((haulageref08_Col.f k x269000 x269001 x269002 x269003 x269004 ((rd_T54 x269004 x4).f1)).bind fun t275 => (haulageref08_Table.j2 k x3 x4 (t275 != x4) x269000 x269001 x269002 x269003 x269004 ((rd_T54 x269004 x4).f0) ((rd_T54 x269004 x4).f1) ((rd_T54 x269004 x4).f2.f0) ((rd_T54 x269004 x4).f2.f1) ((rd_T54 x269004 x4).f3) ((rd_T54 x269004 x4).f4.f0) ((rd_T54 x269004 x4).f4.f1) ((rd_T54 x269004 x4).f4.f2))))) else (haulageref08_Table.j2 k x3 x4 true x269000 x269001 x269002 x269003 x269004 ((rd_T54 x269004 x4).f0) ((rd_T54 x269004 x4).f1) ((rd_T54 x269004 x4).f2.f0) ((rd_T54 x269004 x4).f2.f1) ((rd_T54 x269004 x4).f3) ((rd_T54 x269004 x4).f4.f0) ((rd_T54 x269004 x4).f4.f1) ((rd_T54 x269004 x4).f4.f2)))) else (none)) else (some x3)
def haulageref08_Table.j2 : Nat → Bool → Int → Bool → Int → ByteArray → Int → Int → List (S54) → Int → ByteArray → Int → Int → Bool → Int → Int → ByteArray → Option (Bool)
 | 0, _, _, _, _, _, _, _, _, _, _, _, _, _, _, _, _ => none
 | k + 1, x3, x4, x77, x269000, x269001, x269002, x269003, x269004, x272000, x272001, x272002, x272003, x272004, x272005, x272006, x272007 => if x77 = true then (some false) else (if x3 = true then (haulageref08_Table.l0 k true (wrap64 (x4 + 1)) x269000 x269001 x269002 x269003 x269004) else (if x272000 = x269002 then (haulageref08_Table.l0 k (!x272004) (wrap64 (x4 + 1)) x269000 x269001 x269002 x269003 x269004) else (haulageref08_Table.l0 k false (wrap64 (x4 + 1)) x269000 x269001 x269002 x269003 x269004)))
end
def haulageref08_Table.f (k : Nat) (a0_0 : Int) (a0_1 : ByteArray) (a0_2 : Int) (a0_3 : Int) (l0_4 : List (S54)) : Option (Bool) := if a0_0 < 0 then (haulageref08_Table.j0 k true a0_0 a0_1 a0_2 a0_3 l0_4) else ((haulageref04_Right.f k a0_1).bind fun t269 => (if t269 = true then (if (l0_4.length : Int) < 1 then (haulageref08_Table.j0 k true a0_0 a0_1 a0_2 a0_3 l0_4) else (if (l0_4.length : Int) > 10 then (haulageref08_Table.j0 k true a0_0 a0_1 a0_2 a0_3 l0_4) else (haulageref08_Table.j0 k (decide (a0_3 > 200)) a0_0 a0_1 a0_2 a0_3 l0_4))) else (haulageref08_Table.j0 k true a0_0 a0_1 a0_2 a0_3 l0_4)))
theorem haulageref08_Table.mono_l : ∀ k, (∀ y0 y1 y2 y3 y4 y5, LeO (haulageref08_Table.j0 k y0 y1 y2 y3 y4 y5) (haulageref08_Table.j0 (k + 1) y0 y1 y2 y3 y4 y5)) ∧ (∀ y0 y1 y2 y3 y4 y5 y6, LeO (haulageref08_Table.l0 k y0 y1 y2 y3 y4 y5 y6) (haulageref08_Table.l0 (k + 1) y0 y1 y2 y3 y4 y5 y6)) ∧ (∀ y0 y1 y2 y3 y4 y5 y6 y7 y8 y9 y10 y11 y12 y13 y14 y15, LeO (haulageref08_Table.j2 k y0 y1 y2 y3 y4 y5 y6 y7 y8 y9 y10 y11 y12 y13 y14 y15) (haulageref08_Table.j2 (k + 1) y0 y1 y2 y3 y4 y5 y6 y7 y8 y9 y10 y11 y12 y13 y14 y15))
 | 0 => by refine ⟨?_, ?_, ?_⟩ <;> intros <;> exact LeO.none _
 | k + 1 => by
  obtain ⟨ih0, ih1, ih2⟩ := haulageref08_Table.mono_l k
  refine ⟨?_, ?_, ?_⟩ <;> intros <;> first | unfold haulageref08_Table.j0 | unfold haulageref08_Table.l0 | unfold haulageref08_Table.j2
  all_goals repeat' first | with_reducible (first | exact ih0 .. | exact ih1 .. | exact ih2 .. | exact haulageref04_Right.mono .. | exact haulageref08_Col.mono .. | exact haulageref08_Column.mono .. | exact LeO.refl .. | exact LeO.none .. | refine LeO.ite ?_ ?_ | refine LeO.bind ?_ (fun _ => ?_)) | exact ih0 .. | exact ih1 .. | exact ih2 .. | exact haulageref04_Right.mono .. | exact haulageref08_Col.mono .. | exact haulageref08_Column.mono .. | exact LeO.none .. | refine LeO.ite ?_ ?_ | refine LeO.bind ?_ (fun _ => ?_)
theorem haulageref08_Table.mono : ∀ a0 a1 a2 a3 a4 k, LeO (haulageref08_Table.f k a0 a1 a2 a3 a4) (haulageref08_Table.f (k + 1) a0 a1 a2 a3 a4) := by
 intro a0 a1 a2 a3 a4 k
 obtain ⟨ih0, ih1, ih2⟩ := haulageref08_Table.mono_l k
 unfold haulageref08_Table.f
 repeat' first | with_reducible (first | exact ih0 .. | exact ih1 .. | exact ih2 .. | exact haulageref04_Right.mono .. | exact haulageref08_Col.mono .. | exact haulageref08_Column.mono .. | exact LeO.refl .. | exact LeO.none .. | refine LeO.ite ?_ ?_ | refine LeO.bind ?_ (fun _ => ?_)) | exact ih0 .. | exact ih1 .. | exact ih2 .. | exact haulageref04_Right.mono .. | exact haulageref08_Col.mono .. | exact haulageref08_Column.mono .. | exact LeO.none .. | refine LeO.ite ?_ ?_ | refine LeO.bind ?_ (fun _ => ?_)
def haulageref08_Table.T8 : Bool × List (List Nat × List Nat) := (true, [([], []), ([0], [0]), ([1], [1]), ([2, 1], [2]), ([3], [3]), ([4, 3], [3, 4]), ([3], [3]), ([6, 3], [3, 6]), ([5, 7, 3], [3, 5, 7]), ([3, 8], [3, 8]), ([9, 3], [9]), ([10], [10]), ([11, 10], [10, 11]), ([12, 10, 10], [10, 12]), ([13], [13]), ([14, 13], [13, 14]), ([13], [13]), ([16, 13], [13, 16]), ([13], [13]), ([18, 13], [13, 18]), ([17, 19, 13], [13, 17, 19]), ([20, 13], [13, 20]), ([21, 13], [13, 21]), ([15, 22, 13], [13, 15, 22]), ([13, 23, 10], [10, 13, 23]), ([10, 24], [10, 24]), ([25, 13], [25]), ([26], [26]), ([26], [26]), ([28, 26], [26, 28]), ([27, 29, 26, 26], [26, 27, 29]), ([26], [26]), ([30, 31, 26], [26, 30, 31]), ([26, 32], [26, 32])])
def haulageref08_Table.B8 : List Nat := [0, 1, 3, 7, 15, 31, 15, 79, 255, 511, 1023, 2047, 4095, 8191, 16383, 32767, 16383, 81919, 16383, 278527, 999423, 2047999, 4145151, 8388607, 16777215, 33554431, 67108863, 134217727, 134217727, 402653183, 1073741823, 134217727, 4294967295, 8589934591]
theorem haulageref08_Table.tab8 : rtab .any (opsOf Tryd.f27 8) = haulageref08_Table.T8 := by kernel_rfl
theorem haulageref08_Table.bits8 : waitsOk haulageref08_Table.T8.2 haulageref08_Table.B8 = true := by kernel_rfl
set_option maxHeartbeats 8000000 in
set_option maxRecDepth 100000 in
theorem haulageref08_Table.calls (k : Nat) (a0_0 : Int) (a0_1 : ByteArray) (a0_2 : Int) (a0_3 : Int) (A0_4 : Option Addr) (c0_4 : Nat) (l0_4 : List (S54)) (r : Bool) (w : World) (hr0_4 : Kd.C k54 w A0_4 l0_4.length l0_4) (hc0_4 : l0_4.length ≤ c0_4) (h : haulageref08_Table.f k a0_0 a0_1 a0_2 a0_3 l0_4 = some r) :
  Calls Tryd.prog 27 #[.agg #[.int .i64 a0_0, .string a0_1, .int .i64 a0_2, .int .i64 a0_3, .slice A0_4 l0_4.length c0_4]] w fun e w' => e = .returned (.bool r) ∧ Below w.heap.size w w' := by
 have hu24 := Tryd.underlying24
 have hu54 := Tryd.underlying54
 have HR0_4 := aM hr0_4
 have HC0_4 := aM hc0_4
 clear hr0_4 hc0_4
 have HB := aM (Below.refl w.heap.size w)
 have H : (if a0_0 < 0 then (haulageref08_Table.j0 k true a0_0 a0_1 a0_2 a0_3 l0_4) else ((haulageref04_Right.f k a0_1).bind fun t269 => (if t269 = true then (if (l0_4.length : Int) < 1 then (haulageref08_Table.j0 k true a0_0 a0_1 a0_2 a0_3 l0_4) else (if (l0_4.length : Int) > 10 then (haulageref08_Table.j0 k true a0_0 a0_1 a0_2 a0_3 l0_4) else (haulageref08_Table.j0 k (decide (a0_3 > 200)) a0_0 a0_1 a0_2 a0_3 l0_4))) else (haulageref08_Table.j0 k true a0_0 a0_1 a0_2 a0_3 l0_4)))) = some r := h
 clear h
 have HC2 := aM H
 clear H
 go_enter Tryd.func27, Tryd.ntmps27
 go_upto_region 1 with (first | ((with_reducible refine gate_dst (N := 1) rfl ?_); (try (refine gate_guard (by rfl) ?_; dsimp only)); refine yX (N := 1) (cs := #[.int .i64 a0_0, .string a0_1, .int .i64 a0_2, .int .i64 a0_3, .slice A0_4 l0_4.length c0_4]) (t := 24) ?_; intro gb268 hg w3 hbox hb; have BK268 := aM (hbox); have GW268 := yZ hg (yB HB); have GE268 := yZ hg (yB HB); replace HB := aM (bP (yB HB) hb); clear hb hbox hg))
 (try simp only [Act.put, s1_, s2_, s3_])
 go_cut [31] (fun v31 wc => ∃ (kq : Nat) (x31_1 : Bool), v31 = .bool x31_1 ∧ Aside0 (haulageref08_Table.j0 kq x31_1 a0_0 a0_1 a0_2 a0_3 l0_4 = some r) ∧ Aside0 (kq ≤ k) ∧ Aside0 (wc.heap[gb268]? = some (.cells #[.int .i64 a0_0, .string a0_1, .int .i64 a0_2, .int .i64 a0_3, (.slice A0_4 l0_4.length c0_4)] 24 (0, 0))) ∧ Aside0 (Below w.heap.size w wc))
 case first =>
  have H := HC2.out
  clear HC2
  by_cases c4 : a0_0 < 0
  ·
   rw [if_pos c4] at H
   have c4b0 : decide (a0_0 < 0) = true := decide_eq_true c4
   clear c4
   (first | rw [c4b0] | (simp only [i64_w, i32_w]; rw [c4b0]) | skip)
   have H' := aM H
   clear H
   obtain ⟨hcz5_0, hcz5_1, hcz5_2, hcz5_3, hcz5_4, hfz5_0, hfz5_1, hfz5_2, hfz5_3, hfz5_4⟩ := cells5 BK268.out
   go_wp2
   go_meet
   case rel => exact ⟨_, (true), yS, H', ⟨yO⟩, ⟨yK BK268⟩, ⟨yG1 HB GE268.out⟩⟩
  ·
   rw [if_neg c4] at H
   have c4b0 : decide (a0_0 < 0) = false := decide_eq_false c4
   clear c4
   (first | rw [c4b0] | (simp only [i64_w, i32_w]; rw [c4b0]) | skip)
   obtain ⟨t269, A6, H⟩ := yb H
   by_cases c7 : t269 = true
   ·
    subst c7
    replace H := yt H
    by_cases c8 : (l0_4.length : Int) < 1
    ·
     rw [if_pos c8] at H
     have c8b0 : decide ((l0_4.length : Int) < 1) = true := decide_eq_true c8
     have c8b1 : decide (l0_4.length < 1) = true := decide_eq_true (by omega)
     clear c8
     have H' := aM H
     clear H
     obtain ⟨hcz9_0, hcz9_1, hcz9_2, hcz9_3, hcz9_4, hfz9_0, hfz9_1, hfz9_2, hfz9_3, hfz9_4⟩ := cells5 BK268.out
     go_wp2_with (first | (go_at_call 69; (with_reducible refine (haulageref04_Right.calls k a0_1 true _ A6.out).mono ?_); rintro e w' ⟨rfl, ⟨nd, rfl⟩⟩))
     go_meet
     case rel => exact ⟨_, (true), yS, H', ⟨yO⟩, ⟨yK BK268⟩, ⟨yG1 HB GE268.out⟩⟩
    ·
     rw [if_neg c8] at H
     have c8b0 : decide ((l0_4.length : Int) < 1) = false := decide_eq_false c8
     have c8b1 : decide (l0_4.length < 1) = false := decide_eq_false (by omega)
     clear c8
     by_cases c10 : (l0_4.length : Int) > 10
     ·
      rw [if_pos c10] at H
      have c10b0 : decide (10 < (l0_4.length : Int)) = true := decide_eq_true c10
      have c10b1 : decide (10 < l0_4.length) = true := decide_eq_true (by omega)
      clear c10
      have H' := aM H
      clear H
      obtain ⟨hcz11_0, hcz11_1, hcz11_2, hcz11_3, hcz11_4, hfz11_0, hfz11_1, hfz11_2, hfz11_3, hfz11_4⟩ := cells5 BK268.out
      go_wp2_with (first | (go_at_call 69; (with_reducible refine (haulageref04_Right.calls k a0_1 true _ A6.out).mono ?_); rintro e w' ⟨rfl, ⟨nd, rfl⟩⟩))
      go_meet
      case rel => exact ⟨_, (true), yS, H', ⟨yO⟩, ⟨yK BK268⟩, ⟨yG1 HB GE268.out⟩⟩
     ·
      rw [if_neg c10] at H
      have c10b0 : decide (10 < (l0_4.length : Int)) = false := decide_eq_false c10
      have c10b1 : decide (10 < l0_4.length) = false := decide_eq_false (by omega)
      clear c10
      have H' := aM H
      clear H
      obtain ⟨hcz12_0, hcz12_1, hcz12_2, hcz12_3, hcz12_4, hfz12_0, hfz12_1, hfz12_2, hfz12_3, hfz12_4⟩ := cells5 BK268.out
      go_wp2_with (first | (go_at_call 69; (with_reducible refine (haulageref04_Right.calls k a0_1 true _ A6.out).mono ?_); rintro e w' ⟨rfl, ⟨nd, rfl⟩⟩))
      go_meet
      case rel => exact ⟨_, (decide (a0_3 > 200)), yS, H', ⟨yO⟩, ⟨yK BK268⟩, ⟨yG1 HB GE268.out⟩⟩
   ·
    replace c7 := Bool.eq_false_iff.mpr c7
    subst c7
    replace H := yf H
    have H' := aM H
    clear H
    obtain ⟨hcz13_0, hcz13_1, hcz13_2, hcz13_3, hcz13_4, hfz13_0, hfz13_1, hfz13_2, hfz13_3, hfz13_4⟩ := cells5 BK268.out
    go_wp2_with (first | (go_at_call 69; (with_reducible refine (haulageref04_Right.calls k a0_1 false _ A6.out).mono ?_); rintro e w' ⟨rfl, ⟨nd, rfl⟩⟩))
    go_meet
    case rel => exact ⟨_, (true), yS, H', ⟨yO⟩, ⟨yK BK268⟩, ⟨yG1 HB GE268.out⟩⟩
 case rest =>
  clear HC2
  obtain ⟨kq, x31_1, rfl, HA, HJ1, BK268, HB⟩ := hcut
  cases kq with
  | zero => exact absurd HA.out (by simp [haulageref08_Table.j0])
  | succ kj1 =>
   have H := HA.out
   clear HA
   simp only [haulageref08_Table.j0] at H
   by_cases c14 : x31_1 = true
   ·
    subst c14
    replace H := yt H
    obtain rfl := Option.some.inj H
    go_wp2
    go_ret
    exact ⟨yE, yG1 HB GE268.out⟩
   ·
    replace c14 := Bool.eq_false_iff.mpr c14
    subst c14
    replace H := yf H
    have H' := aM H
    clear H
    go_wp2
    go_loopg [3, 4] kj1 (fun kq v3 v4 w' => ∃ (x3_2 : Bool) (x4_2 : Int), v3 = .bool x3_2 ∧ v4 = .int .i64 x4_2 ∧ Aside0 (haulageref08_Table.l0 kq x3_2 x4_2 a0_0 a0_1 a0_2 a0_3 l0_4 = some r) ∧ Aside0 (kq ≤ kj1) ∧ Aside0 (w'.heap[gb268]? = some (.cells #[.int .i64 a0_0, .string a0_1, .int .i64 a0_2, .int .i64 a0_3, (.slice A0_4 l0_4.length c0_4)] 24 (0, 0))) ∧ Aside0 (Below w.heap.size w w'))
    case atStart => exact ⟨(false), (0), yS, yS, H', ⟨Nat.le_refl _⟩, ⟨yK BK268⟩, ⟨yG1 HB GE268.out⟩⟩
    case round =>
     clear H'
     try clear c14
     obtain ⟨x3_2, x4_2, rfl, rfl, HA, HK2, BK268, HB⟩ := hrel
     cases gk with
     | zero => exact absurd HA.out (by simp [haulageref08_Table.l0])
     | succ k2 =>
      have H := HA.out
      clear HA
      simp only [haulageref08_Table.l0] at H
      by_cases c15 : x4_2 < (l0_4.length : Int)
      ·
       rw [if_pos c15] at H
       have c15b0 : decide (x4_2 < (l0_4.length : Int)) = true := decide_eq_true c15
       clear c15
       by_cases c16 : 0 ≤ x4_2
       ·
        rw [if_pos c16] at H
        have c16b0 : decide (0 ≤ x4_2) = true := decide_eq_true c16
        clear c16
        have HC17 := aM H
        clear H
        obtain ⟨hcz18_0, hcz18_1, hcz18_2, hcz18_3, hcz18_4, hfz18_0, hfz18_1, hfz18_2, hfz18_3, hfz18_4⟩ := cells5 BK268.out
        have p270 : 0 ≤ (x4_2 : Int) := oD yA
        have q270 : x4_2 < (l0_4.length : Int) := oD yA
        obtain ⟨ad270, e270, hx270_0, hx270_1, hx270_2, hx270_3, hx270_4, hx270_5, hx270_6, hx270_7⟩ := at_T54 HR0_4.out x4_2 p270 q270
        cases e270
        replace hx270_0 := pw_cell_below HB.out hx270_0
        replace hx270_1 := pw_cell_below HB.out hx270_1
        replace hx270_2 := pw_cell_below HB.out hx270_2
        replace hx270_3 := pw_cell_below HB.out hx270_3
        replace hx270_4 := pw_cell_below HB.out hx270_4
        replace hx270_5 := pw_cell_below HB.out hx270_5
        replace hx270_6 := pw_cell_below HB.out hx270_6
        replace hx270_7 := pw_cell_below HB.out hx270_7
        replace p270 := eq_true p270
        replace q270 := eq_true q270
        go_upto_region 8 with (first | ((with_reducible refine gate_dst (N := 5) rfl ?_); (try (refine gate_guard (by rfl) ?_; dsimp only)); refine yX (N := 5) (cs := #[.int .i64 0, .string (⟨#[]⟩ : ByteArray), .int .i64 0, .int .i64 0, .bool false, .int .i64 0, .int .i64 0, .string (⟨#[]⟩ : ByteArray)]) (t := 54) ?_; intro gb271 hg w19 hbox hb; have BK271 := aM (hbox); have GW271 := yZ hg (yG1 HB GE268.out); have GE271 := yZ hg (yG1 HB GE268.out); replace HB := aM (bP (yG1 HB GE268.out) hb); have NB268_271 := yN hg (yK BK268); have NB271_268 := yM hg (yK BK268); replace BK268 := aM (kB (yK BK268) hb); clear hb hbox hg; have hnb20 := NB271_268.out; have hnc20 := NB268_271.out; obtain ⟨hcz21_0, hcz21_1, hcz21_2, hcz21_3, hcz21_4, hcz21_5, hcz21_6, hcz21_7, hfz21_0, hfz21_1, hfz21_2, hfz21_3, hfz21_4, hfz21_5, hfz21_6, hfz21_7⟩ := cells8 BK271.out))
        (try simp only [Act.put, s1_, s2_, s3_])
        go_cut [77] (fun v77 wc => ∃ (kq : Nat) (x77_16 : Bool), v77 = .bool x77_16 ∧ Aside0 (haulageref08_Table.j2 kq x3_2 x4_2 x77_16 a0_0 a0_1 a0_2 a0_3 l0_4 ((rd_T54 l0_4 x4_2).f0) ((rd_T54 l0_4 x4_2).f1) ((rd_T54 l0_4 x4_2).f2.f0) ((rd_T54 l0_4 x4_2).f2.f1) ((rd_T54 l0_4 x4_2).f3) ((rd_T54 l0_4 x4_2).f4.f0) ((rd_T54 l0_4 x4_2).f4.f1) ((rd_T54 l0_4 x4_2).f4.f2) = some r) ∧ Aside0 (kq ≤ k2) ∧ Aside0 (wc.heap[gb268]? = some (.cells #[.int .i64 a0_0, .string a0_1, .int .i64 a0_2, .int .i64 a0_3, (.slice (some ad270) l0_4.length c0_4)] 24 (0, 0))) ∧ Aside0 (wc.heap[gb271]? = some (.cells #[.int .i64 ((rd_T54 l0_4 x4_2).f0), .string ((rd_T54 l0_4 x4_2).f1), .int .i64 ((rd_T54 l0_4 x4_2).f2.f0), .int .i64 ((rd_T54 l0_4 x4_2).f2.f1), .bool ((rd_T54 l0_4 x4_2).f3), .int .i64 ((rd_T54 l0_4 x4_2).f4.f0), .int .i64 ((rd_T54 l0_4 x4_2).f4.f1), .string ((rd_T54 l0_4 x4_2).f4.f2)] 54 (0, 0))) ∧ Aside0 (Below w.heap.size w wc))
        case first =>
         have H := HC17.out
         clear HC17
         obtain ⟨t272, A22, H⟩ := yb H
         by_cases c23 : t272 = true
         ·
          subst c23
          replace H := yt H
          by_cases c24 : ((rd_T54 l0_4 x4_2).f0) ≥ a0_3
          ·
           rw [if_pos c24] at H
           have c24b0 : decide (a0_3 ≤ ((rd_T54 l0_4 x4_2).f0)) = true := decide_eq_true c24
           clear c24
           (first | rw [c24b0] | (simp only [i64_w, i32_w]; rw [c24b0]) | skip)
           have H' := aM H
           clear H
           try go_wp2
           have n0_ : Aside0 (((((((((w19.setCell ⟨gb271, 0, none⟩ (.int .i64 ((rd_T54 l0_4 x4_2).f0))).setCell ⟨gb271, 1, none⟩ (.string ((rd_T54 l0_4 x4_2).f1))).setCell ⟨gb271, 2, none⟩ (.int .i64 ((rd_T54 l0_4 x4_2).f2.f0))).setCell ⟨gb271, 3, none⟩ (.int .i64 ((rd_T54 l0_4 x4_2).f2.f1))).setCell ⟨gb271, 4, none⟩ (.bool ((rd_T54 l0_4 x4_2).f3))).setCell ⟨gb271, 5, none⟩ (.int .i64 ((rd_T54 l0_4 x4_2).f4.f0))).setCell ⟨gb271, 6, none⟩ (.int .i64 ((rd_T54 l0_4 x4_2).f4.f1))).setCell ⟨gb271, 7, none⟩ (.string ((rd_T54 l0_4 x4_2).f4.f2))).heap[gb268]? = some (.cells #[.int .i64 a0_0, .string a0_1, .int .i64 a0_2, .int .i64 a0_3, .slice (some ad270) l0_4.length c0_4] 24 (0, 0))) := ⟨yF1 BK268 NB268_271.out⟩
           have n1_ : Aside0 (((((((((w19.setCell ⟨gb271, 0, none⟩ (.int .i64 ((rd_T54 l0_4 x4_2).f0))).setCell ⟨gb271, 1, none⟩ (.string ((rd_T54 l0_4 x4_2).f1))).setCell ⟨gb271, 2, none⟩ (.int .i64 ((rd_T54 l0_4 x4_2).f2.f0))).setCell ⟨gb271, 3, none⟩ (.int .i64 ((rd_T54 l0_4 x4_2).f2.f1))).setCell ⟨gb271, 4, none⟩ (.bool ((rd_T54 l0_4 x4_2).f3))).setCell ⟨gb271, 5, none⟩ (.int .i64 ((rd_T54 l0_4 x4_2).f4.f0))).setCell ⟨gb271, 6, none⟩ (.int .i64 ((rd_T54 l0_4 x4_2).f4.f1))).setCell ⟨gb271, 7, none⟩ (.string ((rd_T54 l0_4 x4_2).f4.f2))).heap[gb271]? = some (.cells #[.int .i64 ((rd_T54 l0_4 x4_2).f0), .string ((rd_T54 l0_4 x4_2).f1), .int .i64 ((rd_T54 l0_4 x4_2).f2.f0), .int .i64 ((rd_T54 l0_4 x4_2).f2.f1), .bool ((rd_T54 l0_4 x4_2).f3), .int .i64 ((rd_T54 l0_4 x4_2).f4.f0), .int .i64 ((rd_T54 l0_4 x4_2).f4.f1), .string ((rd_T54 l0_4 x4_2).f4.f2)] 54 (0, 0))) := ⟨puts8 BK271.out⟩
           have n2_ : Aside0 (Below w.heap.size w ((((((((w19.setCell ⟨gb271, 0, none⟩ (.int .i64 ((rd_T54 l0_4 x4_2).f0))).setCell ⟨gb271, 1, none⟩ (.string ((rd_T54 l0_4 x4_2).f1))).setCell ⟨gb271, 2, none⟩ (.int .i64 ((rd_T54 l0_4 x4_2).f2.f0))).setCell ⟨gb271, 3, none⟩ (.int .i64 ((rd_T54 l0_4 x4_2).f2.f1))).setCell ⟨gb271, 4, none⟩ (.bool ((rd_T54 l0_4 x4_2).f3))).setCell ⟨gb271, 5, none⟩ (.int .i64 ((rd_T54 l0_4 x4_2).f4.f0))).setCell ⟨gb271, 6, none⟩ (.int .i64 ((rd_T54 l0_4 x4_2).f4.f1))).setCell ⟨gb271, 7, none⟩ (.string ((rd_T54 l0_4 x4_2).f4.f2)))) := ⟨yG2 HB GE268.out GE271.out⟩
           (try clear BK268)
           (try clear BK271)
           (try clear HB)
           generalize ((((((((w19.setCell ⟨gb271, 0, none⟩ (.int .i64 ((rd_T54 l0_4 x4_2).f0))).setCell ⟨gb271, 1, none⟩ (.string ((rd_T54 l0_4 x4_2).f1))).setCell ⟨gb271, 2, none⟩ (.int .i64 ((rd_T54 l0_4 x4_2).f2.f0))).setCell ⟨gb271, 3, none⟩ (.int .i64 ((rd_T54 l0_4 x4_2).f2.f1))).setCell ⟨gb271, 4, none⟩ (.bool ((rd_T54 l0_4 x4_2).f3))).setCell ⟨gb271, 5, none⟩ (.int .i64 ((rd_T54 l0_4 x4_2).f4.f0))).setCell ⟨gb271, 6, none⟩ (.int .i64 ((rd_T54 l0_4 x4_2).f4.f1))).setCell ⟨gb271, 7, none⟩ (.string ((rd_T54 l0_4 x4_2).f4.f2))) = w25 at n0_ n1_ n2_ ⊢
           have BK268 := n0_
           have BK271 := n1_
           have HB := n2_
           clear n0_ n1_ n2_
           have n0_ := aM (kD BK268.out)
           have n1_ := aM (kD BK271.out)
           have n2_ := aM (b1 HB.out)
           clear BK268
           clear BK271
           clear HB
           have BK268 := n0_
           have BK271 := n1_
           have HB := n2_
           clear n0_ n1_ n2_
           refine start_ (n := 34) (S := fun w' => w'.cell? ⟨gb271, 0, none⟩ = some (.int .i64 ((rd_T54 l0_4 x4_2).f0)) ∧ w'.cell? ⟨gb271, 1, none⟩ = some (.string ((rd_T54 l0_4 x4_2).f1)) ∧ w'.cell? ⟨gb271, 2, none⟩ = some (.int .i64 ((rd_T54 l0_4 x4_2).f2.f0)) ∧ w'.cell? ⟨gb271, 3, none⟩ = some (.int .i64 ((rd_T54 l0_4 x4_2).f2.f1)) ∧ w'.cell? ⟨gb271, 4, none⟩ = some (.bool ((rd_T54 l0_4 x4_2).f3)) ∧ w'.cell? ⟨gb271, 5, none⟩ = some (.int .i64 ((rd_T54 l0_4 x4_2).f4.f0)) ∧ w'.cell? ⟨gb271, 6, none⟩ = some (.int .i64 ((rd_T54 l0_4 x4_2).f4.f1)) ∧ w'.cell? ⟨gb271, 7, none⟩ = some (.string ((rd_T54 l0_4 x4_2).f4.f2)) ∧ w'.cell? ⟨gb268, 0, none⟩ = some (.int .i64 a0_0) ∧ w'.cell? ⟨gb268, 1, none⟩ = some (.string a0_1) ∧ w'.cell? ⟨gb268, 2, none⟩ = some (.int .i64 a0_2) ∧ w'.cell? ⟨gb268, 3, none⟩ = some (.int .i64 a0_3) ∧ w'.cell? ⟨gb268, 4, none⟩ = some (.slice (some ad270) l0_4.length c0_4)) (ds := []) (tB 0 34) (by kernel_rfl) rfl rfl ⟨yV BK271 0, yV BK271 1, yV BK271 2, yV BK271 3, yV BK271 4, yV BK271 5, yV BK271 6, yV BK271 7, yV BK268 0, yV BK268 1, yV BK268 2, yV BK268 3, yV BK268 4⟩ (fun hHeld => ?_); refine with_tabW haulageref08_Table.tab8 haulageref08_Table.bits8 (fun HT_ HW_ => ?_)
           generalize w25.drew = w26 at BK268 BK271 HB hHeld ⊢
           refine yT HT_ HW_ 0 44 (tB 1 34) rfl rfl hHeld ?_
           refine yI HT_ 1 (tB 3 34) rfl rfl fun K hK => ?_
           refine yc Tryd.func29 #[.agg #[.int .i64 ((rd_T54 l0_4 x4_2).f0), .string ((rd_T54 l0_4 x4_2).f1), .int .i64 ((rd_T54 l0_4 x4_2).f2.f0), .int .i64 ((rd_T54 l0_4 x4_2).f2.f1), .bool ((rd_T54 l0_4 x4_2).f3), .int .i64 ((rd_T54 l0_4 x4_2).f4.f0), .int .i64 ((rd_T54 l0_4 x4_2).f4.f1), .string ((rd_T54 l0_4 x4_2).f4.f2)]] rfl rfl ?_
           with_reducible refine (haulageref08_Column.calls k2 ((rd_T54 l0_4 x4_2).f0) ((rd_T54 l0_4 x4_2).f1) ((rd_T54 l0_4 x4_2).f2.f0) ((rd_T54 l0_4 x4_2).f2.f1) ((rd_T54 l0_4 x4_2).f3) ((rd_T54 l0_4 x4_2).f4.f0) ((rd_T54 l0_4 x4_2).f4.f1) ((rd_T54 l0_4 x4_2).f4.f2) true _ A22.out).mono ?_
           rintro e w27 ⟨rfl, hb⟩
           refine ⟨_, rfl, ?_⟩
           have n0_ := aM (kB (yK BK268) hb)
           have n1_ := aM (kB (yK BK271) hb)
           have n2_ := aM (bP (yG2 HB GE268.out GE271.out) hb)
           clear BK268
           clear BK271
           clear HB
           have BK268 := n0_
           have BK271 := n1_
           have HB := n2_
           clear n0_ n1_ n2_
           (try clear hb)
           (try clear hb2)
           (try clear hk)
           (try clear hi)
           refine hK.out _ _ ⟨yV BK271 0, yV BK271 1, yV BK271 2, yV BK271 3, yV BK271 4, yV BK271 5, yV BK271 6, yV BK271 7, yV BK268 0, yV BK268 1, yV BK268 2, yV BK268 3, yV BK268 4⟩ (fun hHeld => ?_)
           clear hK K
           refine norm_ (a' := ?_) ?_ ?_
           rotate_left
           ·
            show Act.put _ (some 45) _ = _
            simp only [Act.put, s1_, s2_, s3_, i64_w, i32_w]
            rfl
           refine yP HT_ 2 46 (tB 7 34) rfl rfl ?_
           refine yP HT_ 3 47 (tB 15 34) rfl rfl ?_
           refine yP HT_ 4 48 (tB 31 34) rfl rfl ?_
           refine yP HT_ 6 50 (tB 95 34) rfl rfl ?_
           refine yT HT_ HW_ 5 49 (tB 127 34) rfl rfl hHeld ?_
           refine yT HT_ HW_ 7 51 (tB 255 34) rfl rfl hHeld ?_
           refine yP HT_ 8 52 (tB 511 34) rfl rfl ?_
           refine yP HT_ 9 53 (tB 1023 34) rfl rfl ?_
           refine yP HT_ 10 54 (tB 2047 34) rfl rfl ?_
           refine yU HT_ 11 55 (tB 4095 34) rfl rfl ?_
           refine yU HT_ 12 56 (tB 8191 34) rfl rfl ?_
           refine yU HT_ 13 57 (tB 16383 34) rfl rfl ?_
           refine yU HT_ 14 58 (tB 32767 34) rfl rfl ?_
           refine yU HT_ 15 59 (tB 65535 34) rfl rfl ?_
           refine yU HT_ 16 60 (tB 131071 34) rfl rfl ?_
           refine yU HT_ 17 61 (tB 262143 34) rfl rfl ?_
           refine yU HT_ 18 62 (tB 524287 34) rfl rfl ?_
           refine yU HT_ 19 63 (tB 1048575 34) rfl rfl ?_
           refine yU HT_ 20 64 (tB 2097151 34) rfl rfl ?_
           refine yU HT_ 21 65 (tB 4194303 34) rfl rfl ?_
           refine yU HT_ 22 66 (tB 8388607 34) rfl rfl ?_
           refine yU HT_ 23 67 (tB 16777215 34) rfl rfl ?_
           refine yU HT_ 24 68 (tB 33554431 34) rfl rfl ?_
           refine yP HT_ 25 69 (tB 67108863 34) rfl rfl ?_
           refine yP HT_ 26 70 (tB 134217727 34) rfl rfl ?_
           refine yU HT_ 27 71 (tB 268435455 34) rfl rfl ?_
           refine yU HT_ 28 72 (tB 536870911 34) rfl rfl ?_
           refine yU HT_ 29 73 (tB 1073741823 34) rfl rfl ?_
           refine yU HT_ 30 74 (tB 2147483647 34) rfl rfl ?_
           refine yU HT_ 31 75 (tB 4294967295 34) rfl rfl ?_
           refine yU HT_ 32 76 (tB 8589934591 34) rfl rfl ?_
           refine yP HT_ 33 77 (tB 17179869183 34) rfl rfl ?_
           refine done_ (done_of HT_.out (by kernel_rfl)) ?_
           try go_wp2
           go_meet
           case rel => exact ⟨_, (true), yS, H', ⟨by have := HJ1.out; have := HK2.out; first | omega | exact Nat.le_refl _⟩, ⟨yK BK268⟩, ⟨yK BK271⟩, ⟨yG2 HB GE268.out GE271.out⟩⟩
          ·
           rw [if_neg c24] at H
           have c24b0 : decide (a0_3 ≤ ((rd_T54 l0_4 x4_2).f0)) = false := decide_eq_false c24
           clear c24
           (first | rw [c24b0] | (simp only [i64_w, i32_w]; rw [c24b0]) | skip)
           by_cases c28 : x4_2 > 0
           ·
            rw [if_pos c28] at H
            have c28b0 : decide (0 < x4_2) = true := decide_eq_true c28
            clear c28
            obtain ⟨ji29, hji29⟩ : ∃ j_ : Int, (wrap64 (x4_2 - 1)) = j_ := ⟨_, rfl⟩
            replace H : (if 0 ≤ (ji29) then (if (ji29) < (l0_4.length : Int) then (if ((rd_T54 l0_4 x4_2).f0) ≤ ((rd_T54 l0_4 (ji29)).f0) then (haulageref08_Table.j2 k2 x3_2 x4_2 true a0_0 a0_1 a0_2 a0_3 l0_4 ((rd_T54 l0_4 x4_2).f0) ((rd_T54 l0_4 x4_2).f1) ((rd_T54 l0_4 x4_2).f2.f0) ((rd_T54 l0_4 x4_2).f2.f1) ((rd_T54 l0_4 x4_2).f3) ((rd_T54 l0_4 x4_2).f4.f0) ((rd_T54 l0_4 x4_2).f4.f1) ((rd_T54 l0_4 x4_2).f4.f2)) else ((haulageref08_Col.f k2 a0_0 a0_1 a0_2 a0_3 l0_4 ((rd_T54 l0_4 x4_2).f1)).bind fun t274 => (haulageref08_Table.j2 k2 x3_2 x4_2 (t274 != x4_2) a0_0 a0_1 a0_2 a0_3 l0_4 ((rd_T54 l0_4 x4_2).f0) ((rd_T54 l0_4 x4_2).f1) ((rd_T54 l0_4 x4_2).f2.f0) ((rd_T54 l0_4 x4_2).f2.f1) ((rd_T54 l0_4 x4_2).f3) ((rd_T54 l0_4 x4_2).f4.f0) ((rd_T54 l0_4 x4_2).f4.f1) ((rd_T54 l0_4 x4_2).f4.f2)))) else (none)) else (none)) = some r := by first | (rw [hji29] at H; exact H) | (simp only [hji29] at H ⊢; exact H)
            (try rw [hji29] at A22)
            have hji29w : (IntKind.i64.wrap (x4_2 - 1)) = ji29 := (i64_w _).trans hji29
            by_cases c30 : 0 ≤ (ji29)
            ·
             rw [if_pos c30] at H
             have c30b0 : decide (0 ≤ (ji29)) = true := decide_eq_true c30
             clear c30
             by_cases c31 : (ji29) < (l0_4.length : Int)
             ·
              rw [if_pos c31] at H
              have c31b0 : decide ((ji29) < (l0_4.length : Int)) = true := decide_eq_true c31
              clear c31
              by_cases c32 : ((rd_T54 l0_4 x4_2).f0) ≤ ((rd_T54 l0_4 (ji29)).f0)
              ·
               rw [if_pos c32] at H
               have c32b0 : decide (((rd_T54 l0_4 x4_2).f0) ≤ ((rd_T54 l0_4 (ji29)).f0)) = true := decide_eq_true c32
               clear c32
               have H' := aM H
               clear H
               try go_wp2
               have n0_ : Aside0 (((((((((w19.setCell ⟨gb271, 0, none⟩ (.int .i64 ((rd_T54 l0_4 x4_2).f0))).setCell ⟨gb271, 1, none⟩ (.string ((rd_T54 l0_4 x4_2).f1))).setCell ⟨gb271, 2, none⟩ (.int .i64 ((rd_T54 l0_4 x4_2).f2.f0))).setCell ⟨gb271, 3, none⟩ (.int .i64 ((rd_T54 l0_4 x4_2).f2.f1))).setCell ⟨gb271, 4, none⟩ (.bool ((rd_T54 l0_4 x4_2).f3))).setCell ⟨gb271, 5, none⟩ (.int .i64 ((rd_T54 l0_4 x4_2).f4.f0))).setCell ⟨gb271, 6, none⟩ (.int .i64 ((rd_T54 l0_4 x4_2).f4.f1))).setCell ⟨gb271, 7, none⟩ (.string ((rd_T54 l0_4 x4_2).f4.f2))).heap[gb268]? = some (.cells #[.int .i64 a0_0, .string a0_1, .int .i64 a0_2, .int .i64 a0_3, .slice (some ad270) l0_4.length c0_4] 24 (0, 0))) := ⟨yF1 BK268 NB268_271.out⟩
               have n1_ : Aside0 (((((((((w19.setCell ⟨gb271, 0, none⟩ (.int .i64 ((rd_T54 l0_4 x4_2).f0))).setCell ⟨gb271, 1, none⟩ (.string ((rd_T54 l0_4 x4_2).f1))).setCell ⟨gb271, 2, none⟩ (.int .i64 ((rd_T54 l0_4 x4_2).f2.f0))).setCell ⟨gb271, 3, none⟩ (.int .i64 ((rd_T54 l0_4 x4_2).f2.f1))).setCell ⟨gb271, 4, none⟩ (.bool ((rd_T54 l0_4 x4_2).f3))).setCell ⟨gb271, 5, none⟩ (.int .i64 ((rd_T54 l0_4 x4_2).f4.f0))).setCell ⟨gb271, 6, none⟩ (.int .i64 ((rd_T54 l0_4 x4_2).f4.f1))).setCell ⟨gb271, 7, none⟩ (.string ((rd_T54 l0_4 x4_2).f4.f2))).heap[gb271]? = some (.cells #[.int .i64 ((rd_T54 l0_4 x4_2).f0), .string ((rd_T54 l0_4 x4_2).f1), .int .i64 ((rd_T54 l0_4 x4_2).f2.f0), .int .i64 ((rd_T54 l0_4 x4_2).f2.f1), .bool ((rd_T54 l0_4 x4_2).f3), .int .i64 ((rd_T54 l0_4 x4_2).f4.f0), .int .i64 ((rd_T54 l0_4 x4_2).f4.f1), .string ((rd_T54 l0_4 x4_2).f4.f2)] 54 (0, 0))) := ⟨puts8 BK271.out⟩
               have n2_ : Aside0 (Below w.heap.size w ((((((((w19.setCell ⟨gb271, 0, none⟩ (.int .i64 ((rd_T54 l0_4 x4_2).f0))).setCell ⟨gb271, 1, none⟩ (.string ((rd_T54 l0_4 x4_2).f1))).setCell ⟨gb271, 2, none⟩ (.int .i64 ((rd_T54 l0_4 x4_2).f2.f0))).setCell ⟨gb271, 3, none⟩ (.int .i64 ((rd_T54 l0_4 x4_2).f2.f1))).setCell ⟨gb271, 4, none⟩ (.bool ((rd_T54 l0_4 x4_2).f3))).setCell ⟨gb271, 5, none⟩ (.int .i64 ((rd_T54 l0_4 x4_2).f4.f0))).setCell ⟨gb271, 6, none⟩ (.int .i64 ((rd_T54 l0_4 x4_2).f4.f1))).setCell ⟨gb271, 7, none⟩ (.string ((rd_T54 l0_4 x4_2).f4.f2)))) := ⟨yG2 HB GE268.out GE271.out⟩
               (try clear BK268)
               (try clear BK271)
               (try clear HB)
               generalize ((((((((w19.setCell ⟨gb271, 0, none⟩ (.int .i64 ((rd_T54 l0_4 x4_2).f0))).setCell ⟨gb271, 1, none⟩ (.string ((rd_T54 l0_4 x4_2).f1))).setCell ⟨gb271, 2, none⟩ (.int .i64 ((rd_T54 l0_4 x4_2).f2.f0))).setCell ⟨gb271, 3, none⟩ (.int .i64 ((rd_T54 l0_4 x4_2).f2.f1))).setCell ⟨gb271, 4, none⟩ (.bool ((rd_T54 l0_4 x4_2).f3))).setCell ⟨gb271, 5, none⟩ (.int .i64 ((rd_T54 l0_4 x4_2).f4.f0))).setCell ⟨gb271, 6, none⟩ (.int .i64 ((rd_T54 l0_4 x4_2).f4.f1))).setCell ⟨gb271, 7, none⟩ (.string ((rd_T54 l0_4 x4_2).f4.f2))) = w33 at n0_ n1_ n2_ ⊢
               have BK268 := n0_
               have BK271 := n1_
               have HB := n2_
               clear n0_ n1_ n2_
               have n0_ := aM (kD BK268.out)
               have n1_ := aM (kD BK271.out)
               have n2_ := aM (b1 HB.out)
               clear BK268
               clear BK271
               clear HB
               have BK268 := n0_
               have BK271 := n1_
               have HB := n2_
               clear n0_ n1_ n2_
               have p273 : 0 ≤ ((ji29) : Int) := oD yA
               have q273 : (ji29) < (l0_4.length : Int) := oD yA
               obtain ⟨ad273, e273, hx273_0, hx273_1, hx273_2, hx273_3, hx273_4, hx273_5, hx273_6, hx273_7⟩ := at_T54 HR0_4.out (ji29) p273 q273
               have hw273_7 := hx273_7
               have hw273_6 := hx273_6
               have hw273_5 := hx273_5
               have hw273_4 := hx273_4
               have hw273_3 := hx273_3
               have hw273_2 := hx273_2
               have hw273_1 := hx273_1
               have hw273_0 := hx273_0
               obtain rfl : ad270 = ad273 := (by injection e273)
               replace hx273_0 := pw_cell_below HB.out hx273_0
               replace hx273_1 := pw_cell_below HB.out hx273_1
               replace hx273_2 := pw_cell_below HB.out hx273_2
               replace hx273_3 := pw_cell_below HB.out hx273_3
               replace hx273_4 := pw_cell_below HB.out hx273_4
               replace hx273_5 := pw_cell_below HB.out hx273_5
               replace hx273_6 := pw_cell_below HB.out hx273_6
               replace hx273_7 := pw_cell_below HB.out hx273_7
               replace p273 := eq_true p273
               replace q273 := eq_true q273
               refine start_ (n := 34) (S := fun w' => w'.cell? ⟨gb271, 0, none⟩ = some (.int .i64 ((rd_T54 l0_4 x4_2).f0)) ∧ w'.cell? ⟨gb271, 1, none⟩ = some (.string ((rd_T54 l0_4 x4_2).f1)) ∧ w'.cell? ⟨gb271, 2, none⟩ = some (.int .i64 ((rd_T54 l0_4 x4_2).f2.f0)) ∧ w'.cell? ⟨gb271, 3, none⟩ = some (.int .i64 ((rd_T54 l0_4 x4_2).f2.f1)) ∧ w'.cell? ⟨gb271, 4, none⟩ = some (.bool ((rd_T54 l0_4 x4_2).f3)) ∧ w'.cell? ⟨gb271, 5, none⟩ = some (.int .i64 ((rd_T54 l0_4 x4_2).f4.f0)) ∧ w'.cell? ⟨gb271, 6, none⟩ = some (.int .i64 ((rd_T54 l0_4 x4_2).f4.f1)) ∧ w'.cell? ⟨gb271, 7, none⟩ = some (.string ((rd_T54 l0_4 x4_2).f4.f2)) ∧ w'.cell? ⟨gb268, 0, none⟩ = some (.int .i64 a0_0) ∧ w'.cell? ⟨gb268, 1, none⟩ = some (.string a0_1) ∧ w'.cell? ⟨gb268, 2, none⟩ = some (.int .i64 a0_2) ∧ w'.cell? ⟨gb268, 3, none⟩ = some (.int .i64 a0_3) ∧ w'.cell? ⟨gb268, 4, none⟩ = some (.slice (some ad270) l0_4.length c0_4) ∧ w'.cell? (ad270.add (((ji29)).toNat * 8)) = some (.int .i64 ((rd_T54 l0_4 (ji29)).f0)) ∧ w'.cell? ⟨(ad270.add (((ji29)).toNat * 8)).block, (ad270.add (((ji29)).toNat * 8)).off + 1, none⟩ = some (.string ((rd_T54 l0_4 (ji29)).f1)) ∧ w'.cell? ⟨(ad270.add (((ji29)).toNat * 8)).block, (ad270.add (((ji29)).toNat * 8)).off + 2, none⟩ = some (.int .i64 ((rd_T54 l0_4 (ji29)).f2.f0)) ∧ w'.cell? ⟨(ad270.add (((ji29)).toNat * 8)).block, (ad270.add (((ji29)).toNat * 8)).off + 3, none⟩ = some (.int .i64 ((rd_T54 l0_4 (ji29)).f2.f1)) ∧ w'.cell? ⟨(ad270.add (((ji29)).toNat * 8)).block, (ad270.add (((ji29)).toNat * 8)).off + 4, none⟩ = some (.bool ((rd_T54 l0_4 (ji29)).f3)) ∧ w'.cell? ⟨(ad270.add (((ji29)).toNat * 8)).block, (ad270.add (((ji29)).toNat * 8)).off + 5, none⟩ = some (.int .i64 ((rd_T54 l0_4 (ji29)).f4.f0)) ∧ w'.cell? ⟨(ad270.add (((ji29)).toNat * 8)).block, (ad270.add (((ji29)).toNat * 8)).off + 6, none⟩ = some (.int .i64 ((rd_T54 l0_4 (ji29)).f4.f1)) ∧ w'.cell? ⟨(ad270.add (((ji29)).toNat * 8)).block, (ad270.add (((ji29)).toNat * 8)).off + 7, none⟩ = some (.string ((rd_T54 l0_4 (ji29)).f4.f2))) (ds := []) (tB 0 34) (by kernel_rfl) rfl rfl ⟨yV BK271 0, yV BK271 1, yV BK271 2, yV BK271 3, yV BK271 4, yV BK271 5, yV BK271 6, yV BK271 7, yV BK268 0, yV BK268 1, yV BK268 2, yV BK268 3, yV BK268 4, (pw_cell_below HB.out hw273_0), (pw_cell_below HB.out hw273_1), (pw_cell_below HB.out hw273_2), (pw_cell_below HB.out hw273_3), (pw_cell_below HB.out hw273_4), (pw_cell_below HB.out hw273_5), (pw_cell_below HB.out hw273_6), (pw_cell_below HB.out hw273_7)⟩ (fun hHeld => ?_); refine with_tabW haulageref08_Table.tab8 haulageref08_Table.bits8 (fun HT_ HW_ => ?_)
               generalize w33.drew = w34 at BK268 BK271 HB hx273_0 hx273_1 hx273_2 hx273_3 hx273_4 hx273_5 hx273_6 hx273_7 hHeld ⊢
               refine yT HT_ HW_ 0 44 (tB 1 34) rfl rfl hHeld ?_
               refine yI HT_ 1 (tB 3 34) rfl rfl fun K hK => ?_
               refine yc Tryd.func29 #[.agg #[.int .i64 ((rd_T54 l0_4 x4_2).f0), .string ((rd_T54 l0_4 x4_2).f1), .int .i64 ((rd_T54 l0_4 x4_2).f2.f0), .int .i64 ((rd_T54 l0_4 x4_2).f2.f1), .bool ((rd_T54 l0_4 x4_2).f3), .int .i64 ((rd_T54 l0_4 x4_2).f4.f0), .int .i64 ((rd_T54 l0_4 x4_2).f4.f1), .string ((rd_T54 l0_4 x4_2).f4.f2)]] rfl rfl ?_
               with_reducible refine (haulageref08_Column.calls k2 ((rd_T54 l0_4 x4_2).f0) ((rd_T54 l0_4 x4_2).f1) ((rd_T54 l0_4 x4_2).f2.f0) ((rd_T54 l0_4 x4_2).f2.f1) ((rd_T54 l0_4 x4_2).f3) ((rd_T54 l0_4 x4_2).f4.f0) ((rd_T54 l0_4 x4_2).f4.f1) ((rd_T54 l0_4 x4_2).f4.f2) true _ A22.out).mono ?_
               rintro e w35 ⟨rfl, hb⟩
               refine ⟨_, rfl, ?_⟩
               have n0_ := aM (kB (yK BK268) hb)
               have n1_ := aM (kB (yK BK271) hb)
               have n2_ := aM (bP (yG2 HB GE268.out GE271.out) hb)
               clear BK268
               clear BK271
               clear HB
               have BK268 := n0_
               have BK271 := n1_
               have HB := n2_
               clear n0_ n1_ n2_
               (try clear hb)
               (try clear hb2)
               (try clear hk)
               (try clear hi)
               refine hK.out _ _ ⟨yV BK271 0, yV BK271 1, yV BK271 2, yV BK271 3, yV BK271 4, yV BK271 5, yV BK271 6, yV BK271 7, yV BK268 0, yV BK268 1, yV BK268 2, yV BK268 3, yV BK268 4, (pw_cell_below HB.out hw273_0), (pw_cell_below HB.out hw273_1), (pw_cell_below HB.out hw273_2), (pw_cell_below HB.out hw273_3), (pw_cell_below HB.out hw273_4), (pw_cell_below HB.out hw273_5), (pw_cell_below HB.out hw273_6), (pw_cell_below HB.out hw273_7)⟩ (fun hHeld => ?_)
               clear hK K
               refine norm_ (a' := ?_) ?_ ?_
               rotate_left
               ·
                show Act.put _ (some 45) _ = _
                simp only [Act.put, s1_, s2_, s3_, i64_w, i32_w]
                rfl
               refine yP HT_ 2 46 (tB 7 34) rfl rfl ?_
               refine yP HT_ 3 47 (tB 15 34) rfl rfl ?_
               refine yP HT_ 4 48 (tB 31 34) rfl rfl ?_
               refine yP HT_ 6 50 (tB 95 34) rfl rfl ?_
               refine yT HT_ HW_ 5 49 (tB 127 34) rfl rfl hHeld ?_
               refine yT HT_ HW_ 7 51 (tB 255 34) rfl rfl hHeld ?_
               refine yP HT_ 8 52 (tB 511 34) rfl rfl ?_
               refine yP HT_ 9 53 (tB 1023 34) rfl rfl ?_
               refine yP HT_ 10 54 (tB 2047 34) rfl rfl ?_
               refine yP HT_ 11 55 (tB 4095 34) rfl rfl ?_
               refine yP HT_ 12 56 (tB 8191 34) rfl rfl ?_
               refine yP HT_ 13 57 (tB 16383 34) rfl rfl ?_
               refine yP HT_ 14 58 (tB 32767 34) rfl rfl ?_
               refine yP HT_ 16 60 (tB 98303 34) rfl rfl ?_
               refine yP HT_ 18 62 (tB 360447 34) rfl rfl ?_
               refine yP HT_ 19 63 (tB 884735 34) rfl rfl ?_
               refine yT HT_ HW_ 15 59 (tB 917503 34) rfl rfl hHeld ?_
               refine yT HT_ HW_ 17 61 (tB 1048575 34) rfl rfl hHeld ?_
               refine yP HT_ 20 64 (tB 2097151 34) rfl rfl ?_
               refine yP HT_ 21 65 (tB 4194303 34) rfl rfl ?_
               refine yT HT_ HW_ 22 66 (tB 8388607 34) rfl rfl hHeld ?_
               refine yP HT_ 23 67 (tB 16777215 34) rfl rfl ?_
               refine yP HT_ 24 68 (tB 33554431 34) rfl rfl ?_
               refine yP HT_ 25 69 (tB 67108863 34) rfl rfl ?_
               refine yP HT_ 26 70 (tB 134217727 34) rfl rfl ?_
               refine yU HT_ 27 71 (tB 268435455 34) rfl rfl ?_
               refine yU HT_ 28 72 (tB 536870911 34) rfl rfl ?_
               refine yU HT_ 29 73 (tB 1073741823 34) rfl rfl ?_
               refine yU HT_ 30 74 (tB 2147483647 34) rfl rfl ?_
               refine yU HT_ 31 75 (tB 4294967295 34) rfl rfl ?_
               refine yU HT_ 32 76 (tB 8589934591 34) rfl rfl ?_
               refine yP HT_ 33 77 (tB 17179869183 34) rfl rfl ?_
               refine done_ (done_of HT_.out (by kernel_rfl)) ?_
               try go_wp2
               go_meet
               case rel => exact ⟨_, (true), yS, H', ⟨by have := HJ1.out; have := HK2.out; first | omega | exact Nat.le_refl _⟩, ⟨yK BK268⟩, ⟨yK BK271⟩, ⟨yG2 HB GE268.out GE271.out⟩⟩
              ·
               rw [if_neg c32] at H
               have c32b0 : decide (((rd_T54 l0_4 x4_2).f0) ≤ ((rd_T54 l0_4 (ji29)).f0)) = false := decide_eq_false c32
               clear c32
               obtain ⟨t274, A36, H⟩ := yb H
               have H' := aM H
               clear H
               try go_wp2
               have n0_ : Aside0 (((((((((w19.setCell ⟨gb271, 0, none⟩ (.int .i64 ((rd_T54 l0_4 x4_2).f0))).setCell ⟨gb271, 1, none⟩ (.string ((rd_T54 l0_4 x4_2).f1))).setCell ⟨gb271, 2, none⟩ (.int .i64 ((rd_T54 l0_4 x4_2).f2.f0))).setCell ⟨gb271, 3, none⟩ (.int .i64 ((rd_T54 l0_4 x4_2).f2.f1))).setCell ⟨gb271, 4, none⟩ (.bool ((rd_T54 l0_4 x4_2).f3))).setCell ⟨gb271, 5, none⟩ (.int .i64 ((rd_T54 l0_4 x4_2).f4.f0))).setCell ⟨gb271, 6, none⟩ (.int .i64 ((rd_T54 l0_4 x4_2).f4.f1))).setCell ⟨gb271, 7, none⟩ (.string ((rd_T54 l0_4 x4_2).f4.f2))).heap[gb268]? = some (.cells #[.int .i64 a0_0, .string a0_1, .int .i64 a0_2, .int .i64 a0_3, .slice (some ad270) l0_4.length c0_4] 24 (0, 0))) := ⟨yF1 BK268 NB268_271.out⟩
               have n1_ : Aside0 (((((((((w19.setCell ⟨gb271, 0, none⟩ (.int .i64 ((rd_T54 l0_4 x4_2).f0))).setCell ⟨gb271, 1, none⟩ (.string ((rd_T54 l0_4 x4_2).f1))).setCell ⟨gb271, 2, none⟩ (.int .i64 ((rd_T54 l0_4 x4_2).f2.f0))).setCell ⟨gb271, 3, none⟩ (.int .i64 ((rd_T54 l0_4 x4_2).f2.f1))).setCell ⟨gb271, 4, none⟩ (.bool ((rd_T54 l0_4 x4_2).f3))).setCell ⟨gb271, 5, none⟩ (.int .i64 ((rd_T54 l0_4 x4_2).f4.f0))).setCell ⟨gb271, 6, none⟩ (.int .i64 ((rd_T54 l0_4 x4_2).f4.f1))).setCell ⟨gb271, 7, none⟩ (.string ((rd_T54 l0_4 x4_2).f4.f2))).heap[gb271]? = some (.cells #[.int .i64 ((rd_T54 l0_4 x4_2).f0), .string ((rd_T54 l0_4 x4_2).f1), .int .i64 ((rd_T54 l0_4 x4_2).f2.f0), .int .i64 ((rd_T54 l0_4 x4_2).f2.f1), .bool ((rd_T54 l0_4 x4_2).f3), .int .i64 ((rd_T54 l0_4 x4_2).f4.f0), .int .i64 ((rd_T54 l0_4 x4_2).f4.f1), .string ((rd_T54 l0_4 x4_2).f4.f2)] 54 (0, 0))) := ⟨puts8 BK271.out⟩
               have n2_ : Aside0 (Below w.heap.size w ((((((((w19.setCell ⟨gb271, 0, none⟩ (.int .i64 ((rd_T54 l0_4 x4_2).f0))).setCell ⟨gb271, 1, none⟩ (.string ((rd_T54 l0_4 x4_2).f1))).setCell ⟨gb271, 2, none⟩ (.int .i64 ((rd_T54 l0_4 x4_2).f2.f0))).setCell ⟨gb271, 3, none⟩ (.int .i64 ((rd_T54 l0_4 x4_2).f2.f1))).setCell ⟨gb271, 4, none⟩ (.bool ((rd_T54 l0_4 x4_2).f3))).setCell ⟨gb271, 5, none⟩ (.int .i64 ((rd_T54 l0_4 x4_2).f4.f0))).setCell ⟨gb271, 6, none⟩ (.int .i64 ((rd_T54 l0_4 x4_2).f4.f1))).setCell ⟨gb271, 7, none⟩ (.string ((rd_T54 l0_4 x4_2).f4.f2)))) := ⟨yG2 HB GE268.out GE271.out⟩
               (try clear BK268)
               (try clear BK271)
               (try clear HB)
               generalize ((((((((w19.setCell ⟨gb271, 0, none⟩ (.int .i64 ((rd_T54 l0_4 x4_2).f0))).setCell ⟨gb271, 1, none⟩ (.string ((rd_T54 l0_4 x4_2).f1))).setCell ⟨gb271, 2, none⟩ (.int .i64 ((rd_T54 l0_4 x4_2).f2.f0))).setCell ⟨gb271, 3, none⟩ (.int .i64 ((rd_T54 l0_4 x4_2).f2.f1))).setCell ⟨gb271, 4, none⟩ (.bool ((rd_T54 l0_4 x4_2).f3))).setCell ⟨gb271, 5, none⟩ (.int .i64 ((rd_T54 l0_4 x4_2).f4.f0))).setCell ⟨gb271, 6, none⟩ (.int .i64 ((rd_T54 l0_4 x4_2).f4.f1))).setCell ⟨gb271, 7, none⟩ (.string ((rd_T54 l0_4 x4_2).f4.f2))) = w37 at n0_ n1_ n2_ ⊢
               have BK268 := n0_
               have BK271 := n1_
               have HB := n2_
               clear n0_ n1_ n2_
               have n0_ := aM (kD BK268.out)
               have n1_ := aM (kD BK271.out)
               have n2_ := aM (b1 HB.out)
               clear BK268
               clear BK271
               clear HB
               have BK268 := n0_
               have BK271 := n1_
               have HB := n2_
               clear n0_ n1_ n2_
               have p273 : 0 ≤ ((ji29) : Int) := oD yA
               have q273 : (ji29) < (l0_4.length : Int) := oD yA
               obtain ⟨ad273, e273, hx273_0, hx273_1, hx273_2, hx273_3, hx273_4, hx273_5, hx273_6, hx273_7⟩ := at_T54 HR0_4.out (ji29) p273 q273
               have hw273_7 := hx273_7
               have hw273_6 := hx273_6
               have hw273_5 := hx273_5
               have hw273_4 := hx273_4
               have hw273_3 := hx273_3
               have hw273_2 := hx273_2
               have hw273_1 := hx273_1
               have hw273_0 := hx273_0
               obtain rfl : ad270 = ad273 := (by injection e273)
               replace hx273_0 := pw_cell_below HB.out hx273_0
               replace hx273_1 := pw_cell_below HB.out hx273_1
               replace hx273_2 := pw_cell_below HB.out hx273_2
               replace hx273_3 := pw_cell_below HB.out hx273_3
               replace hx273_4 := pw_cell_below HB.out hx273_4
               replace hx273_5 := pw_cell_below HB.out hx273_5
               replace hx273_6 := pw_cell_below HB.out hx273_6
               replace hx273_7 := pw_cell_below HB.out hx273_7
               replace p273 := eq_true p273
               replace q273 := eq_true q273
               refine start_ (n := 34) (S := fun w' => w'.cell? ⟨gb271, 0, none⟩ = some (.int .i64 ((rd_T54 l0_4 x4_2).f0)) ∧ w'.cell? ⟨gb271, 1, none⟩ = some (.string ((rd_T54 l0_4 x4_2).f1)) ∧ w'.cell? ⟨gb271, 2, none⟩ = some (.int .i64 ((rd_T54 l0_4 x4_2).f2.f0)) ∧ w'.cell? ⟨gb271, 3, none⟩ = some (.int .i64 ((rd_T54 l0_4 x4_2).f2.f1)) ∧ w'.cell? ⟨gb271, 4, none⟩ = some (.bool ((rd_T54 l0_4 x4_2).f3)) ∧ w'.cell? ⟨gb271, 5, none⟩ = some (.int .i64 ((rd_T54 l0_4 x4_2).f4.f0)) ∧ w'.cell? ⟨gb271, 6, none⟩ = some (.int .i64 ((rd_T54 l0_4 x4_2).f4.f1)) ∧ w'.cell? ⟨gb271, 7, none⟩ = some (.string ((rd_T54 l0_4 x4_2).f4.f2)) ∧ w'.cell? ⟨gb268, 0, none⟩ = some (.int .i64 a0_0) ∧ w'.cell? ⟨gb268, 1, none⟩ = some (.string a0_1) ∧ w'.cell? ⟨gb268, 2, none⟩ = some (.int .i64 a0_2) ∧ w'.cell? ⟨gb268, 3, none⟩ = some (.int .i64 a0_3) ∧ w'.cell? ⟨gb268, 4, none⟩ = some (.slice (some ad270) l0_4.length c0_4) ∧ w'.cell? (ad270.add (((ji29)).toNat * 8)) = some (.int .i64 ((rd_T54 l0_4 (ji29)).f0)) ∧ w'.cell? ⟨(ad270.add (((ji29)).toNat * 8)).block, (ad270.add (((ji29)).toNat * 8)).off + 1, none⟩ = some (.string ((rd_T54 l0_4 (ji29)).f1)) ∧ w'.cell? ⟨(ad270.add (((ji29)).toNat * 8)).block, (ad270.add (((ji29)).toNat * 8)).off + 2, none⟩ = some (.int .i64 ((rd_T54 l0_4 (ji29)).f2.f0)) ∧ w'.cell? ⟨(ad270.add (((ji29)).toNat * 8)).block, (ad270.add (((ji29)).toNat * 8)).off + 3, none⟩ = some (.int .i64 ((rd_T54 l0_4 (ji29)).f2.f1)) ∧ w'.cell? ⟨(ad270.add (((ji29)).toNat * 8)).block, (ad270.add (((ji29)).toNat * 8)).off + 4, none⟩ = some (.bool ((rd_T54 l0_4 (ji29)).f3)) ∧ w'.cell? ⟨(ad270.add (((ji29)).toNat * 8)).block, (ad270.add (((ji29)).toNat * 8)).off + 5, none⟩ = some (.int .i64 ((rd_T54 l0_4 (ji29)).f4.f0)) ∧ w'.cell? ⟨(ad270.add (((ji29)).toNat * 8)).block, (ad270.add (((ji29)).toNat * 8)).off + 6, none⟩ = some (.int .i64 ((rd_T54 l0_4 (ji29)).f4.f1)) ∧ w'.cell? ⟨(ad270.add (((ji29)).toNat * 8)).block, (ad270.add (((ji29)).toNat * 8)).off + 7, none⟩ = some (.string ((rd_T54 l0_4 (ji29)).f4.f2))) (ds := []) (tB 0 34) (by kernel_rfl) rfl rfl ⟨yV BK271 0, yV BK271 1, yV BK271 2, yV BK271 3, yV BK271 4, yV BK271 5, yV BK271 6, yV BK271 7, yV BK268 0, yV BK268 1, yV BK268 2, yV BK268 3, yV BK268 4, (pw_cell_below HB.out hw273_0), (pw_cell_below HB.out hw273_1), (pw_cell_below HB.out hw273_2), (pw_cell_below HB.out hw273_3), (pw_cell_below HB.out hw273_4), (pw_cell_below HB.out hw273_5), (pw_cell_below HB.out hw273_6), (pw_cell_below HB.out hw273_7)⟩ (fun hHeld => ?_); refine with_tabW haulageref08_Table.tab8 haulageref08_Table.bits8 (fun HT_ HW_ => ?_)
               generalize w37.drew = w38 at BK268 BK271 HB hx273_0 hx273_1 hx273_2 hx273_3 hx273_4 hx273_5 hx273_6 hx273_7 hHeld ⊢
               refine yT HT_ HW_ 0 44 (tB 1 34) rfl rfl hHeld ?_
               refine yI HT_ 1 (tB 3 34) rfl rfl fun K hK => ?_
               refine yc Tryd.func29 #[.agg #[.int .i64 ((rd_T54 l0_4 x4_2).f0), .string ((rd_T54 l0_4 x4_2).f1), .int .i64 ((rd_T54 l0_4 x4_2).f2.f0), .int .i64 ((rd_T54 l0_4 x4_2).f2.f1), .bool ((rd_T54 l0_4 x4_2).f3), .int .i64 ((rd_T54 l0_4 x4_2).f4.f0), .int .i64 ((rd_T54 l0_4 x4_2).f4.f1), .string ((rd_T54 l0_4 x4_2).f4.f2)]] rfl rfl ?_
               with_reducible refine (haulageref08_Column.calls k2 ((rd_T54 l0_4 x4_2).f0) ((rd_T54 l0_4 x4_2).f1) ((rd_T54 l0_4 x4_2).f2.f0) ((rd_T54 l0_4 x4_2).f2.f1) ((rd_T54 l0_4 x4_2).f3) ((rd_T54 l0_4 x4_2).f4.f0) ((rd_T54 l0_4 x4_2).f4.f1) ((rd_T54 l0_4 x4_2).f4.f2) true _ A22.out).mono ?_
               rintro e w39 ⟨rfl, hb⟩
               refine ⟨_, rfl, ?_⟩
               have n0_ := aM (kB (yK BK268) hb)
               have n1_ := aM (kB (yK BK271) hb)
               have n2_ := aM (bP (yG2 HB GE268.out GE271.out) hb)
               clear BK268
               clear BK271
               clear HB
               have BK268 := n0_
               have BK271 := n1_
               have HB := n2_
               clear n0_ n1_ n2_
               (try clear hb)
               (try clear hb2)
               (try clear hk)
               (try clear hi)
               refine hK.out _ _ ⟨yV BK271 0, yV BK271 1, yV BK271 2, yV BK271 3, yV BK271 4, yV BK271 5, yV BK271 6, yV BK271 7, yV BK268 0, yV BK268 1, yV BK268 2, yV BK268 3, yV BK268 4, (pw_cell_below HB.out hw273_0), (pw_cell_below HB.out hw273_1), (pw_cell_below HB.out hw273_2), (pw_cell_below HB.out hw273_3), (pw_cell_below HB.out hw273_4), (pw_cell_below HB.out hw273_5), (pw_cell_below HB.out hw273_6), (pw_cell_below HB.out hw273_7)⟩ (fun hHeld => ?_)
               clear hK K
               refine norm_ (a' := ?_) ?_ ?_
               rotate_left
               ·
                show Act.put _ (some 45) _ = _
                simp only [Act.put, s1_, s2_, s3_, i64_w, i32_w]
                rfl
               refine yP HT_ 2 46 (tB 7 34) rfl rfl ?_
               refine yP HT_ 3 47 (tB 15 34) rfl rfl ?_
               refine yP HT_ 4 48 (tB 31 34) rfl rfl ?_
               refine yP HT_ 6 50 (tB 95 34) rfl rfl ?_
               refine yT HT_ HW_ 5 49 (tB 127 34) rfl rfl hHeld ?_
               refine yT HT_ HW_ 7 51 (tB 255 34) rfl rfl hHeld ?_
               refine yP HT_ 8 52 (tB 511 34) rfl rfl ?_
               refine yP HT_ 9 53 (tB 1023 34) rfl rfl ?_
               refine yP HT_ 10 54 (tB 2047 34) rfl rfl ?_
               refine yP HT_ 11 55 (tB 4095 34) rfl rfl ?_
               refine yP HT_ 12 56 (tB 8191 34) rfl rfl ?_
               refine yP HT_ 13 57 (tB 16383 34) rfl rfl ?_
               refine yP HT_ 14 58 (tB 32767 34) rfl rfl ?_
               refine yP HT_ 16 60 (tB 98303 34) rfl rfl ?_
               refine yP HT_ 18 62 (tB 360447 34) rfl rfl ?_
               refine yP HT_ 19 63 (tB 884735 34) rfl rfl ?_
               refine yT HT_ HW_ 15 59 (tB 917503 34) rfl rfl hHeld ?_
               refine yT HT_ HW_ 17 61 (tB 1048575 34) rfl rfl hHeld ?_
               refine yP HT_ 20 64 (tB 2097151 34) rfl rfl ?_
               refine yP HT_ 21 65 (tB 4194303 34) rfl rfl ?_
               refine yT HT_ HW_ 22 66 (tB 8388607 34) rfl rfl hHeld ?_
               refine yP HT_ 23 67 (tB 16777215 34) rfl rfl ?_
               refine yP HT_ 24 68 (tB 33554431 34) rfl rfl ?_
               refine yP HT_ 25 69 (tB 67108863 34) rfl rfl ?_
               refine yP HT_ 26 70 (tB 134217727 34) rfl rfl ?_
               refine yP HT_ 28 72 (tB 402653183 34) rfl rfl ?_
               refine yP HT_ 31 75 (tB 2550136831 34) rfl rfl ?_
               refine yT HT_ HW_ 27 71 (tB 2684354559 34) rfl rfl hHeld ?_
               refine yT HT_ HW_ 29 73 (tB 3221225471 34) rfl rfl hHeld ?_
               refine yI HT_ 30 (tB 4294967295 34) rfl rfl fun K hK => ?_
               refine yc Tryd.func47 #[.agg #[.int .i64 a0_0, .string a0_1, .int .i64 a0_2, .int .i64 a0_3, .slice (some ad270) l0_4.length c0_4], .string ((rd_T54 l0_4 x4_2).f1)] rfl rfl ?_
               with_reducible refine (haulageref08_Col.calls k2 a0_0 a0_1 a0_2 a0_3 _ _ l0_4 ((rd_T54 l0_4 x4_2).f1) t274 _ ?side1 ?side2 A36.out).mono ?_
               (case side1 => exact yW (Kd.C_below HR0_4.out HB.out))
               (case side2 => exact HC0_4.out)
               rintro e w40 ⟨rfl, hb⟩
               refine ⟨_, rfl, ?_⟩
               have n0_ := aM (kB (yK BK268) hb)
               have n1_ := aM (kB (yK BK271) hb)
               have n2_ := aM (bP (yG2 HB GE268.out GE271.out) hb)
               clear BK268
               clear BK271
               clear HB
               have BK268 := n0_
               have BK271 := n1_
               have HB := n2_
               clear n0_ n1_ n2_
               (try clear hb)
               (try clear hb2)
               (try clear hk)
               (try clear hi)
               refine hK.out _ _ ⟨yV BK271 0, yV BK271 1, yV BK271 2, yV BK271 3, yV BK271 4, yV BK271 5, yV BK271 6, yV BK271 7, yV BK268 0, yV BK268 1, yV BK268 2, yV BK268 3, yV BK268 4, (pw_cell_below HB.out hw273_0), (pw_cell_below HB.out hw273_1), (pw_cell_below HB.out hw273_2), (pw_cell_below HB.out hw273_3), (pw_cell_below HB.out hw273_4), (pw_cell_below HB.out hw273_5), (pw_cell_below HB.out hw273_6), (pw_cell_below HB.out hw273_7)⟩ (fun hHeld => ?_)
               clear hK K
               refine norm_ (a' := ?_) ?_ ?_
               rotate_left
               ·
                show Act.put _ (some 74) _ = _
                simp only [Act.put, s1_, s2_, s3_, i64_w, i32_w]
                rfl
               refine yP HT_ 32 76 (tB 8589934591 34) rfl rfl ?_
               refine yP HT_ 33 77 (tB 17179869183 34) rfl rfl ?_
               refine done_ (done_of HT_.out (by kernel_rfl)) ?_
               try go_wp2
               go_meet
               case rel => exact ⟨_, ((t274 != x4_2)), yS, H', ⟨by have := HJ1.out; have := HK2.out; first | omega | exact Nat.le_refl _⟩, ⟨yK BK268⟩, ⟨yK BK271⟩, ⟨yG2 HB GE268.out GE271.out⟩⟩
             ·
              rw [if_neg c31] at H
              exact absurd H (by simp)
            ·
             rw [if_neg c30] at H
             exact absurd H (by simp)
           ·
            rw [if_neg c28] at H
            have c28b0 : decide (0 < x4_2) = false := decide_eq_false c28
            clear c28
            obtain ⟨t275, A41, H⟩ := yb H
            have H' := aM H
            clear H
            try go_wp2
            have n0_ : Aside0 (((((((((w19.setCell ⟨gb271, 0, none⟩ (.int .i64 ((rd_T54 l0_4 x4_2).f0))).setCell ⟨gb271, 1, none⟩ (.string ((rd_T54 l0_4 x4_2).f1))).setCell ⟨gb271, 2, none⟩ (.int .i64 ((rd_T54 l0_4 x4_2).f2.f0))).setCell ⟨gb271, 3, none⟩ (.int .i64 ((rd_T54 l0_4 x4_2).f2.f1))).setCell ⟨gb271, 4, none⟩ (.bool ((rd_T54 l0_4 x4_2).f3))).setCell ⟨gb271, 5, none⟩ (.int .i64 ((rd_T54 l0_4 x4_2).f4.f0))).setCell ⟨gb271, 6, none⟩ (.int .i64 ((rd_T54 l0_4 x4_2).f4.f1))).setCell ⟨gb271, 7, none⟩ (.string ((rd_T54 l0_4 x4_2).f4.f2))).heap[gb268]? = some (.cells #[.int .i64 a0_0, .string a0_1, .int .i64 a0_2, .int .i64 a0_3, .slice (some ad270) l0_4.length c0_4] 24 (0, 0))) := ⟨yF1 BK268 NB268_271.out⟩
            have n1_ : Aside0 (((((((((w19.setCell ⟨gb271, 0, none⟩ (.int .i64 ((rd_T54 l0_4 x4_2).f0))).setCell ⟨gb271, 1, none⟩ (.string ((rd_T54 l0_4 x4_2).f1))).setCell ⟨gb271, 2, none⟩ (.int .i64 ((rd_T54 l0_4 x4_2).f2.f0))).setCell ⟨gb271, 3, none⟩ (.int .i64 ((rd_T54 l0_4 x4_2).f2.f1))).setCell ⟨gb271, 4, none⟩ (.bool ((rd_T54 l0_4 x4_2).f3))).setCell ⟨gb271, 5, none⟩ (.int .i64 ((rd_T54 l0_4 x4_2).f4.f0))).setCell ⟨gb271, 6, none⟩ (.int .i64 ((rd_T54 l0_4 x4_2).f4.f1))).setCell ⟨gb271, 7, none⟩ (.string ((rd_T54 l0_4 x4_2).f4.f2))).heap[gb271]? = some (.cells #[.int .i64 ((rd_T54 l0_4 x4_2).f0), .string ((rd_T54 l0_4 x4_2).f1), .int .i64 ((rd_T54 l0_4 x4_2).f2.f0), .int .i64 ((rd_T54 l0_4 x4_2).f2.f1), .bool ((rd_T54 l0_4 x4_2).f3), .int .i64 ((rd_T54 l0_4 x4_2).f4.f0), .int .i64 ((rd_T54 l0_4 x4_2).f4.f1), .string ((rd_T54 l0_4 x4_2).f4.f2)] 54 (0, 0))) := ⟨puts8 BK271.out⟩
            have n2_ : Aside0 (Below w.heap.size w ((((((((w19.setCell ⟨gb271, 0, none⟩ (.int .i64 ((rd_T54 l0_4 x4_2).f0))).setCell ⟨gb271, 1, none⟩ (.string ((rd_T54 l0_4 x4_2).f1))).setCell ⟨gb271, 2, none⟩ (.int .i64 ((rd_T54 l0_4 x4_2).f2.f0))).setCell ⟨gb271, 3, none⟩ (.int .i64 ((rd_T54 l0_4 x4_2).f2.f1))).setCell ⟨gb271, 4, none⟩ (.bool ((rd_T54 l0_4 x4_2).f3))).setCell ⟨gb271, 5, none⟩ (.int .i64 ((rd_T54 l0_4 x4_2).f4.f0))).setCell ⟨gb271, 6, none⟩ (.int .i64 ((rd_T54 l0_4 x4_2).f4.f1))).setCell ⟨gb271, 7, none⟩ (.string ((rd_T54 l0_4 x4_2).f4.f2)))) := ⟨yG2 HB GE268.out GE271.out⟩
            (try clear BK268)
            (try clear BK271)
            (try clear HB)
            generalize ((((((((w19.setCell ⟨gb271, 0, none⟩ (.int .i64 ((rd_T54 l0_4 x4_2).f0))).setCell ⟨gb271, 1, none⟩ (.string ((rd_T54 l0_4 x4_2).f1))).setCell ⟨gb271, 2, none⟩ (.int .i64 ((rd_T54 l0_4 x4_2).f2.f0))).setCell ⟨gb271, 3, none⟩ (.int .i64 ((rd_T54 l0_4 x4_2).f2.f1))).setCell ⟨gb271, 4, none⟩ (.bool ((rd_T54 l0_4 x4_2).f3))).setCell ⟨gb271, 5, none⟩ (.int .i64 ((rd_T54 l0_4 x4_2).f4.f0))).setCell ⟨gb271, 6, none⟩ (.int .i64 ((rd_T54 l0_4 x4_2).f4.f1))).setCell ⟨gb271, 7, none⟩ (.string ((rd_T54 l0_4 x4_2).f4.f2))) = w42 at n0_ n1_ n2_ ⊢
            have BK268 := n0_
            have BK271 := n1_
            have HB := n2_
            clear n0_ n1_ n2_
            have n0_ := aM (kD BK268.out)
            have n1_ := aM (kD BK271.out)
            have n2_ := aM (b1 HB.out)
            clear BK268
            clear BK271
            clear HB
            have BK268 := n0_
            have BK271 := n1_
            have HB := n2_
            clear n0_ n1_ n2_
            refine start_ (n := 34) (S := fun w' => w'.cell? ⟨gb271, 0, none⟩ = some (.int .i64 ((rd_T54 l0_4 x4_2).f0)) ∧ w'.cell? ⟨gb271, 1, none⟩ = some (.string ((rd_T54 l0_4 x4_2).f1)) ∧ w'.cell? ⟨gb271, 2, none⟩ = some (.int .i64 ((rd_T54 l0_4 x4_2).f2.f0)) ∧ w'.cell? ⟨gb271, 3, none⟩ = some (.int .i64 ((rd_T54 l0_4 x4_2).f2.f1)) ∧ w'.cell? ⟨gb271, 4, none⟩ = some (.bool ((rd_T54 l0_4 x4_2).f3)) ∧ w'.cell? ⟨gb271, 5, none⟩ = some (.int .i64 ((rd_T54 l0_4 x4_2).f4.f0)) ∧ w'.cell? ⟨gb271, 6, none⟩ = some (.int .i64 ((rd_T54 l0_4 x4_2).f4.f1)) ∧ w'.cell? ⟨gb271, 7, none⟩ = some (.string ((rd_T54 l0_4 x4_2).f4.f2)) ∧ w'.cell? ⟨gb268, 0, none⟩ = some (.int .i64 a0_0) ∧ w'.cell? ⟨gb268, 1, none⟩ = some (.string a0_1) ∧ w'.cell? ⟨gb268, 2, none⟩ = some (.int .i64 a0_2) ∧ w'.cell? ⟨gb268, 3, none⟩ = some (.int .i64 a0_3) ∧ w'.cell? ⟨gb268, 4, none⟩ = some (.slice (some ad270) l0_4.length c0_4)) (ds := []) (tB 0 34) (by kernel_rfl) rfl rfl ⟨yV BK271 0, yV BK271 1, yV BK271 2, yV BK271 3, yV BK271 4, yV BK271 5, yV BK271 6, yV BK271 7, yV BK268 0, yV BK268 1, yV BK268 2, yV BK268 3, yV BK268 4⟩ (fun hHeld => ?_); refine with_tabW haulageref08_Table.tab8 haulageref08_Table.bits8 (fun HT_ HW_ => ?_)
            generalize w42.drew = w43 at BK268 BK271 HB hHeld ⊢
            refine yT HT_ HW_ 0 44 (tB 1 34) rfl rfl hHeld ?_
            refine yI HT_ 1 (tB 3 34) rfl rfl fun K hK => ?_
            refine yc Tryd.func29 #[.agg #[.int .i64 ((rd_T54 l0_4 x4_2).f0), .string ((rd_T54 l0_4 x4_2).f1), .int .i64 ((rd_T54 l0_4 x4_2).f2.f0), .int .i64 ((rd_T54 l0_4 x4_2).f2.f1), .bool ((rd_T54 l0_4 x4_2).f3), .int .i64 ((rd_T54 l0_4 x4_2).f4.f0), .int .i64 ((rd_T54 l0_4 x4_2).f4.f1), .string ((rd_T54 l0_4 x4_2).f4.f2)]] rfl rfl ?_
            with_reducible refine (haulageref08_Column.calls k2 ((rd_T54 l0_4 x4_2).f0) ((rd_T54 l0_4 x4_2).f1) ((rd_T54 l0_4 x4_2).f2.f0) ((rd_T54 l0_4 x4_2).f2.f1) ((rd_T54 l0_4 x4_2).f3) ((rd_T54 l0_4 x4_2).f4.f0) ((rd_T54 l0_4 x4_2).f4.f1) ((rd_T54 l0_4 x4_2).f4.f2) true _ A22.out).mono ?_
            rintro e w44 ⟨rfl, hb⟩
            refine ⟨_, rfl, ?_⟩
            have n0_ := aM (kB (yK BK268) hb)
            have n1_ := aM (kB (yK BK271) hb)
            have n2_ := aM (bP (yG2 HB GE268.out GE271.out) hb)
            clear BK268
            clear BK271
            clear HB
            have BK268 := n0_
            have BK271 := n1_
            have HB := n2_
            clear n0_ n1_ n2_
            (try clear hb)
            (try clear hb2)
            (try clear hk)
            (try clear hi)
            refine hK.out _ _ ⟨yV BK271 0, yV BK271 1, yV BK271 2, yV BK271 3, yV BK271 4, yV BK271 5, yV BK271 6, yV BK271 7, yV BK268 0, yV BK268 1, yV BK268 2, yV BK268 3, yV BK268 4⟩ (fun hHeld => ?_)
            clear hK K
            refine norm_ (a' := ?_) ?_ ?_
            rotate_left
            ·
             show Act.put _ (some 45) _ = _
             simp only [Act.put, s1_, s2_, s3_, i64_w, i32_w]
             rfl
            refine yP HT_ 2 46 (tB 7 34) rfl rfl ?_
            refine yP HT_ 3 47 (tB 15 34) rfl rfl ?_
            refine yP HT_ 4 48 (tB 31 34) rfl rfl ?_
            refine yP HT_ 6 50 (tB 95 34) rfl rfl ?_
            refine yT HT_ HW_ 5 49 (tB 127 34) rfl rfl hHeld ?_
            refine yT HT_ HW_ 7 51 (tB 255 34) rfl rfl hHeld ?_
            refine yP HT_ 8 52 (tB 511 34) rfl rfl ?_
            refine yP HT_ 9 53 (tB 1023 34) rfl rfl ?_
            refine yP HT_ 10 54 (tB 2047 34) rfl rfl ?_
            refine yP HT_ 11 55 (tB 4095 34) rfl rfl ?_
            refine yP HT_ 12 56 (tB 8191 34) rfl rfl ?_
            refine yP HT_ 13 57 (tB 16383 34) rfl rfl ?_
            refine yU HT_ 14 58 (tB 32767 34) rfl rfl ?_
            refine yU HT_ 15 59 (tB 65535 34) rfl rfl ?_
            refine yU HT_ 16 60 (tB 131071 34) rfl rfl ?_
            refine yU HT_ 17 61 (tB 262143 34) rfl rfl ?_
            refine yU HT_ 18 62 (tB 524287 34) rfl rfl ?_
            refine yU HT_ 19 63 (tB 1048575 34) rfl rfl ?_
            refine yU HT_ 20 64 (tB 2097151 34) rfl rfl ?_
            refine yU HT_ 21 65 (tB 4194303 34) rfl rfl ?_
            refine yU HT_ 22 66 (tB 8388607 34) rfl rfl ?_
            refine yU HT_ 23 67 (tB 16777215 34) rfl rfl ?_
            refine yP HT_ 24 68 (tB 33554431 34) rfl rfl ?_
            refine yP HT_ 25 69 (tB 67108863 34) rfl rfl ?_
            refine yP HT_ 26 70 (tB 134217727 34) rfl rfl ?_
            refine yP HT_ 28 72 (tB 402653183 34) rfl rfl ?_
            refine yP HT_ 31 75 (tB 2550136831 34) rfl rfl ?_
            refine yT HT_ HW_ 27 71 (tB 2684354559 34) rfl rfl hHeld ?_
            refine yT HT_ HW_ 29 73 (tB 3221225471 34) rfl rfl hHeld ?_
            refine yI HT_ 30 (tB 4294967295 34) rfl rfl fun K hK => ?_
            refine yc Tryd.func47 #[.agg #[.int .i64 a0_0, .string a0_1, .int .i64 a0_2, .int .i64 a0_3, .slice (some ad270) l0_4.length c0_4], .string ((rd_T54 l0_4 x4_2).f1)] rfl rfl ?_
            with_reducible refine (haulageref08_Col.calls k2 a0_0 a0_1 a0_2 a0_3 _ _ l0_4 ((rd_T54 l0_4 x4_2).f1) t275 _ ?side1 ?side2 A41.out).mono ?_
            (case side1 => exact yW (Kd.C_below HR0_4.out HB.out))
            (case side2 => exact HC0_4.out)
            rintro e w45 ⟨rfl, hb⟩
            refine ⟨_, rfl, ?_⟩
            have n0_ := aM (kB (yK BK268) hb)
            have n1_ := aM (kB (yK BK271) hb)
            have n2_ := aM (bP (yG2 HB GE268.out GE271.out) hb)
            clear BK268
            clear BK271
            clear HB
            have BK268 := n0_
            have BK271 := n1_
            have HB := n2_
            clear n0_ n1_ n2_
            (try clear hb)
            (try clear hb2)
            (try clear hk)
            (try clear hi)
            refine hK.out _ _ ⟨yV BK271 0, yV BK271 1, yV BK271 2, yV BK271 3, yV BK271 4, yV BK271 5, yV BK271 6, yV BK271 7, yV BK268 0, yV BK268 1, yV BK268 2, yV BK268 3, yV BK268 4⟩ (fun hHeld => ?_)
            clear hK K
            refine norm_ (a' := ?_) ?_ ?_
            rotate_left
            ·
             show Act.put _ (some 74) _ = _
             simp only [Act.put, s1_, s2_, s3_, i64_w, i32_w]
             rfl
            refine yP HT_ 32 76 (tB 8589934591 34) rfl rfl ?_
            refine yP HT_ 33 77 (tB 17179869183 34) rfl rfl ?_
            refine done_ (done_of HT_.out (by kernel_rfl)) ?_
            try go_wp2
            go_meet
            case rel => exact ⟨_, ((t275 != x4_2)), yS, H', ⟨by have := HJ1.out; have := HK2.out; first | omega | exact Nat.le_refl _⟩, ⟨yK BK268⟩, ⟨yK BK271⟩, ⟨yG2 HB GE268.out GE271.out⟩⟩
         ·
          replace c23 := Bool.eq_false_iff.mpr c23
          subst c23
          replace H := yf H
          have H' := aM H
          clear H
          try go_wp2
          have n0_ : Aside0 (((((((((w19.setCell ⟨gb271, 0, none⟩ (.int .i64 ((rd_T54 l0_4 x4_2).f0))).setCell ⟨gb271, 1, none⟩ (.string ((rd_T54 l0_4 x4_2).f1))).setCell ⟨gb271, 2, none⟩ (.int .i64 ((rd_T54 l0_4 x4_2).f2.f0))).setCell ⟨gb271, 3, none⟩ (.int .i64 ((rd_T54 l0_4 x4_2).f2.f1))).setCell ⟨gb271, 4, none⟩ (.bool ((rd_T54 l0_4 x4_2).f3))).setCell ⟨gb271, 5, none⟩ (.int .i64 ((rd_T54 l0_4 x4_2).f4.f0))).setCell ⟨gb271, 6, none⟩ (.int .i64 ((rd_T54 l0_4 x4_2).f4.f1))).setCell ⟨gb271, 7, none⟩ (.string ((rd_T54 l0_4 x4_2).f4.f2))).heap[gb268]? = some (.cells #[.int .i64 a0_0, .string a0_1, .int .i64 a0_2, .int .i64 a0_3, .slice (some ad270) l0_4.length c0_4] 24 (0, 0))) := ⟨yF1 BK268 NB268_271.out⟩
          have n1_ : Aside0 (((((((((w19.setCell ⟨gb271, 0, none⟩ (.int .i64 ((rd_T54 l0_4 x4_2).f0))).setCell ⟨gb271, 1, none⟩ (.string ((rd_T54 l0_4 x4_2).f1))).setCell ⟨gb271, 2, none⟩ (.int .i64 ((rd_T54 l0_4 x4_2).f2.f0))).setCell ⟨gb271, 3, none⟩ (.int .i64 ((rd_T54 l0_4 x4_2).f2.f1))).setCell ⟨gb271, 4, none⟩ (.bool ((rd_T54 l0_4 x4_2).f3))).setCell ⟨gb271, 5, none⟩ (.int .i64 ((rd_T54 l0_4 x4_2).f4.f0))).setCell ⟨gb271, 6, none⟩ (.int .i64 ((rd_T54 l0_4 x4_2).f4.f1))).setCell ⟨gb271, 7, none⟩ (.string ((rd_T54 l0_4 x4_2).f4.f2))).heap[gb271]? = some (.cells #[.int .i64 ((rd_T54 l0_4 x4_2).f0), .string ((rd_T54 l0_4 x4_2).f1), .int .i64 ((rd_T54 l0_4 x4_2).f2.f0), .int .i64 ((rd_T54 l0_4 x4_2).f2.f1), .bool ((rd_T54 l0_4 x4_2).f3), .int .i64 ((rd_T54 l0_4 x4_2).f4.f0), .int .i64 ((rd_T54 l0_4 x4_2).f4.f1), .string ((rd_T54 l0_4 x4_2).f4.f2)] 54 (0, 0))) := ⟨puts8 BK271.out⟩
          have n2_ : Aside0 (Below w.heap.size w ((((((((w19.setCell ⟨gb271, 0, none⟩ (.int .i64 ((rd_T54 l0_4 x4_2).f0))).setCell ⟨gb271, 1, none⟩ (.string ((rd_T54 l0_4 x4_2).f1))).setCell ⟨gb271, 2, none⟩ (.int .i64 ((rd_T54 l0_4 x4_2).f2.f0))).setCell ⟨gb271, 3, none⟩ (.int .i64 ((rd_T54 l0_4 x4_2).f2.f1))).setCell ⟨gb271, 4, none⟩ (.bool ((rd_T54 l0_4 x4_2).f3))).setCell ⟨gb271, 5, none⟩ (.int .i64 ((rd_T54 l0_4 x4_2).f4.f0))).setCell ⟨gb271, 6, none⟩ (.int .i64 ((rd_T54 l0_4 x4_2).f4.f1))).setCell ⟨gb271, 7, none⟩ (.string ((rd_T54 l0_4 x4_2).f4.f2)))) := ⟨yG2 HB GE268.out GE271.out⟩
          (try clear BK268)
          (try clear BK271)
          (try clear HB)
          generalize ((((((((w19.setCell ⟨gb271, 0, none⟩ (.int .i64 ((rd_T54 l0_4 x4_2).f0))).setCell ⟨gb271, 1, none⟩ (.string ((rd_T54 l0_4 x4_2).f1))).setCell ⟨gb271, 2, none⟩ (.int .i64 ((rd_T54 l0_4 x4_2).f2.f0))).setCell ⟨gb271, 3, none⟩ (.int .i64 ((rd_T54 l0_4 x4_2).f2.f1))).setCell ⟨gb271, 4, none⟩ (.bool ((rd_T54 l0_4 x4_2).f3))).setCell ⟨gb271, 5, none⟩ (.int .i64 ((rd_T54 l0_4 x4_2).f4.f0))).setCell ⟨gb271, 6, none⟩ (.int .i64 ((rd_T54 l0_4 x4_2).f4.f1))).setCell ⟨gb271, 7, none⟩ (.string ((rd_T54 l0_4 x4_2).f4.f2))) = w46 at n0_ n1_ n2_ ⊢
          have BK268 := n0_
          have BK271 := n1_
          have HB := n2_
          clear n0_ n1_ n2_
          have n0_ := aM (kD BK268.out)
          have n1_ := aM (kD BK271.out)
          have n2_ := aM (b1 HB.out)
          clear BK268
          clear BK271
          clear HB
          have BK268 := n0_
          have BK271 := n1_
          have HB := n2_
          clear n0_ n1_ n2_
          refine start_ (n := 34) (S := fun w' => w'.cell? ⟨gb271, 0, none⟩ = some (.int .i64 ((rd_T54 l0_4 x4_2).f0)) ∧ w'.cell? ⟨gb271, 1, none⟩ = some (.string ((rd_T54 l0_4 x4_2).f1)) ∧ w'.cell? ⟨gb271, 2, none⟩ = some (.int .i64 ((rd_T54 l0_4 x4_2).f2.f0)) ∧ w'.cell? ⟨gb271, 3, none⟩ = some (.int .i64 ((rd_T54 l0_4 x4_2).f2.f1)) ∧ w'.cell? ⟨gb271, 4, none⟩ = some (.bool ((rd_T54 l0_4 x4_2).f3)) ∧ w'.cell? ⟨gb271, 5, none⟩ = some (.int .i64 ((rd_T54 l0_4 x4_2).f4.f0)) ∧ w'.cell? ⟨gb271, 6, none⟩ = some (.int .i64 ((rd_T54 l0_4 x4_2).f4.f1)) ∧ w'.cell? ⟨gb271, 7, none⟩ = some (.string ((rd_T54 l0_4 x4_2).f4.f2))) (ds := []) (tB 0 34) (by kernel_rfl) rfl rfl (cellc8 BK271.out) (fun hHeld => ?_); refine with_tabW haulageref08_Table.tab8 haulageref08_Table.bits8 (fun HT_ HW_ => ?_)
          generalize w46.drew = w47 at BK268 BK271 HB hHeld ⊢
          refine yT HT_ HW_ 0 44 (tB 1 34) rfl rfl hHeld ?_
          refine yI HT_ 1 (tB 3 34) rfl rfl fun K hK => ?_
          refine yc Tryd.func29 #[.agg #[.int .i64 ((rd_T54 l0_4 x4_2).f0), .string ((rd_T54 l0_4 x4_2).f1), .int .i64 ((rd_T54 l0_4 x4_2).f2.f0), .int .i64 ((rd_T54 l0_4 x4_2).f2.f1), .bool ((rd_T54 l0_4 x4_2).f3), .int .i64 ((rd_T54 l0_4 x4_2).f4.f0), .int .i64 ((rd_T54 l0_4 x4_2).f4.f1), .string ((rd_T54 l0_4 x4_2).f4.f2)]] rfl rfl ?_
          with_reducible refine (haulageref08_Column.calls k2 ((rd_T54 l0_4 x4_2).f0) ((rd_T54 l0_4 x4_2).f1) ((rd_T54 l0_4 x4_2).f2.f0) ((rd_T54 l0_4 x4_2).f2.f1) ((rd_T54 l0_4 x4_2).f3) ((rd_T54 l0_4 x4_2).f4.f0) ((rd_T54 l0_4 x4_2).f4.f1) ((rd_T54 l0_4 x4_2).f4.f2) false _ A22.out).mono ?_
          rintro e w48 ⟨rfl, hb⟩
          refine ⟨_, rfl, ?_⟩
          have n0_ := aM (kB (yK BK268) hb)
          have n1_ := aM (kB (yK BK271) hb)
          have n2_ := aM (bP (yG2 HB GE268.out GE271.out) hb)
          clear BK268
          clear BK271
          clear HB
          have BK268 := n0_
          have BK271 := n1_
          have HB := n2_
          clear n0_ n1_ n2_
          (try clear hb)
          (try clear hb2)
          (try clear hk)
          (try clear hi)
          refine hK.out _ _ (cellc8 BK271.out) (fun hHeld => ?_)
          clear hK K
          refine norm_ (a' := ?_) ?_ ?_
          rotate_left
          ·
           show Act.put _ (some 45) _ = _
           simp only [Act.put, s1_, s2_, s3_, i64_w, i32_w]
           rfl
          refine yP HT_ 2 46 (tB 7 34) rfl rfl ?_
          refine yP HT_ 3 47 (tB 15 34) rfl rfl ?_
          refine yU HT_ 4 48 (tB 31 34) rfl rfl ?_
          refine yU HT_ 5 49 (tB 63 34) rfl rfl ?_
          refine yU HT_ 6 50 (tB 127 34) rfl rfl ?_
          refine yU HT_ 7 51 (tB 255 34) rfl rfl ?_
          refine yU HT_ 8 52 (tB 511 34) rfl rfl ?_
          refine yP HT_ 9 53 (tB 1023 34) rfl rfl ?_
          refine yP HT_ 10 54 (tB 2047 34) rfl rfl ?_
          refine yU HT_ 11 55 (tB 4095 34) rfl rfl ?_
          refine yU HT_ 12 56 (tB 8191 34) rfl rfl ?_
          refine yU HT_ 13 57 (tB 16383 34) rfl rfl ?_
          refine yU HT_ 14 58 (tB 32767 34) rfl rfl ?_
          refine yU HT_ 15 59 (tB 65535 34) rfl rfl ?_
          refine yU HT_ 16 60 (tB 131071 34) rfl rfl ?_
          refine yU HT_ 17 61 (tB 262143 34) rfl rfl ?_
          refine yU HT_ 18 62 (tB 524287 34) rfl rfl ?_
          refine yU HT_ 19 63 (tB 1048575 34) rfl rfl ?_
          refine yU HT_ 20 64 (tB 2097151 34) rfl rfl ?_
          refine yU HT_ 21 65 (tB 4194303 34) rfl rfl ?_
          refine yU HT_ 22 66 (tB 8388607 34) rfl rfl ?_
          refine yU HT_ 23 67 (tB 16777215 34) rfl rfl ?_
          refine yU HT_ 24 68 (tB 33554431 34) rfl rfl ?_
          refine yP HT_ 25 69 (tB 67108863 34) rfl rfl ?_
          refine yP HT_ 26 70 (tB 134217727 34) rfl rfl ?_
          refine yU HT_ 27 71 (tB 268435455 34) rfl rfl ?_
          refine yU HT_ 28 72 (tB 536870911 34) rfl rfl ?_
          refine yU HT_ 29 73 (tB 1073741823 34) rfl rfl ?_
          refine yU HT_ 30 74 (tB 2147483647 34) rfl rfl ?_
          refine yU HT_ 31 75 (tB 4294967295 34) rfl rfl ?_
          refine yU HT_ 32 76 (tB 8589934591 34) rfl rfl ?_
          refine yP HT_ 33 77 (tB 17179869183 34) rfl rfl ?_
          refine done_ (done_of HT_.out (by kernel_rfl)) ?_
          try go_wp2
          go_meet
          case rel => exact ⟨_, (true), yS, H', ⟨by have := HJ1.out; have := HK2.out; first | omega | exact Nat.le_refl _⟩, ⟨yK BK268⟩, ⟨yK BK271⟩, ⟨yG2 HB GE268.out GE271.out⟩⟩
        case rest =>
         clear HC17
         obtain ⟨kq, x77_16, rfl, HA, HJ16, BK268, BK271, HB⟩ := hcut
         cases kq with
         | zero => exact absurd HA.out (by simp [haulageref08_Table.j2])
         | succ kj16 =>
          have H := HA.out
          clear HA
          simp only [haulageref08_Table.j2] at H
          by_cases c49 : x77_16 = true
          ·
           subst c49
           replace H := yt H
           obtain rfl := Option.some.inj H
           go_wp2
           go_ret
           exact ⟨yE, yG2 HB GE268.out GE271.out⟩
          ·
           replace c49 := Bool.eq_false_iff.mpr c49
           subst c49
           replace H := yf H
           by_cases c50 : x3_2 = true
           ·
            subst c50
            replace H := yt H
            have H' := aM H
            clear H
            go_wp2
            go_roundg kj16
            case measure => have := HJ1.out; have := HK2.out; have := HJ16.out; omega
            case rel => exact ⟨(true), (wrap64 (x4_2 + 1)), yS, yS, H', ⟨by have := HJ1.out; have := HK2.out; have := HJ16.out; omega⟩, ⟨yK BK268⟩, ⟨yG2 HB GE268.out GE271.out⟩⟩
           ·
            replace c50 := Bool.eq_false_iff.mpr c50
            subst c50
            replace H := yf H
            by_cases c51 : ((rd_T54 l0_4 x4_2).f0) = a0_2
            ·
             rw [if_pos c51] at H
             have c51b0 : (((rd_T54 l0_4 x4_2).f0) == a0_2) = true := beq_iff_eq.mpr c51
             have c51b1 : (((rd_T54 l0_4 x4_2).f0) != a0_2) = false := bne_eq_false_iff_eq.mpr c51
             clear c51
             have H' := aM H
             clear H
             have hnb52 := NB271_268.out
             have hnc52 := NB268_271.out
             obtain ⟨hcz53_0, hcz53_1, hcz53_2, hcz53_3, hcz53_4, hcz53_5, hcz53_6, hcz53_7, hfz53_0, hfz53_1, hfz53_2, hfz53_3, hfz53_4, hfz53_5, hfz53_6, hfz53_7⟩ := cells8 BK271.out
             obtain ⟨hcz54_0, hcz54_1, hcz54_2, hcz54_3, hcz54_4, hfz54_0, hfz54_1, hfz54_2, hfz54_3, hfz54_4⟩ := cells5 BK268.out
             go_wp2
             go_roundg kj16
             case measure => have := HJ1.out; have := HK2.out; have := HJ16.out; omega
             case rel => exact ⟨(!((rd_T54 l0_4 x4_2).f3)), (wrap64 (x4_2 + 1)), yS, yS, H', ⟨by have := HJ1.out; have := HK2.out; have := HJ16.out; omega⟩, ⟨yK BK268⟩, ⟨yG2 HB GE268.out GE271.out⟩⟩
            ·
             rw [if_neg c51] at H
             have c51b0 : (((rd_T54 l0_4 x4_2).f0) == a0_2) = false := beq_eq_false_iff_ne.mpr c51
             have c51b1 : (((rd_T54 l0_4 x4_2).f0) != a0_2) = true := bne_iff_ne.mpr c51
             have H' := aM H
             clear H
             have hnb55 := NB271_268.out
             have hnc55 := NB268_271.out
             obtain ⟨hcz56_0, hcz56_1, hcz56_2, hcz56_3, hcz56_4, hcz56_5, hcz56_6, hcz56_7, hfz56_0, hfz56_1, hfz56_2, hfz56_3, hfz56_4, hfz56_5, hfz56_6, hfz56_7⟩ := cells8 BK271.out
             obtain ⟨hcz57_0, hcz57_1, hcz57_2, hcz57_3, hcz57_4, hfz57_0, hfz57_1, hfz57_2, hfz57_3, hfz57_4⟩ := cells5 BK268.out
             go_wp2
             go_roundg kj16
             case measure => have := HJ1.out; have := HK2.out; have := HJ16.out; omega
             case rel => exact ⟨(false), (wrap64 (x4_2 + 1)), yS, yS, H', ⟨by have := HJ1.out; have := HK2.out; have := HJ16.out; omega⟩, ⟨yK BK268⟩, ⟨yG2 HB GE268.out GE271.out⟩⟩
       ·
        rw [if_neg c16] at H
        exact absurd H (by simp)
      ·
       rw [if_neg c15] at H
       have c15b0 : decide (x4_2 < (l0_4.length : Int)) = false := decide_eq_false c15
       clear c15
       obtain rfl := Option.some.inj H
       obtain ⟨hcz58_0, hcz58_1, hcz58_2, hcz58_3, hcz58_4, hfz58_0, hfz58_1, hfz58_2, hfz58_3, hfz58_4⟩ := cells5 BK268.out
       go_wp2
       go_ret
       exact ⟨yE, yG1 HB GE268.out⟩
end Go.Proofs.YtdeophpjammbpaaDoor.HRowcodeKeys

/- For Go functions that CatcodeValues reaches: Lean functions, and walks that show that each call comes to what its Lean function tells; no condition but those that each theorem states. (Made by a program of this session over the kit's print.py.) -/
import Derived.Test.YtgefikclhfjcgaaDoorHCatcodeValuesx0
import Derived.Test.YtgefikclhfjcgaaDoorHCatcodeValuesx17
namespace Go.Proofs.YtgefikclhfjcgaaDoor.HCatcodeValues
open Go.RowKit Go.Proofs.YtgefikclhfjcgaaDoorW.PrintWords Go.Proofs.YtgefikclhfjcgaaDoorW.PrintLast Go.Proofs.YtgefikclhfjcgaaDoorW.PrintMore
attribute [local go_sem] max2_int min2_int max_two min_two max_three min_three max_four min_four   -- for this text's walks alone
set_option linter.unusedVariables false
set_option linter.unusedSimpArgs false
attribute [local go_sem] hp_s8 hp_s16 hp_s32 hp_s64 hp_m8 hp_m16 hp_m32 hp_m64
/-! ### haulageref11_Value: function 13 -/
mutual
def haulageref11_Value.j0 : Nat → Bool → Int → Int → ByteArray → Option (ByteArray)
 | 0, _, _, _, _ => none
 | k + 1, x10, x403000, x403001, x403002 => if x10 = true then ((haulageref11_one.f x403000).bind fun t403 => ((haulageref01_Zig.f x403001).bind fun t404 => ((haulageref01_One.f k t404).bind fun t405 => (if t403.size + t405.size ≤ 9223372036854775807 then (some (t403 ++ t405)) else (none))))) else (if x403000 = 3 then (haulageref11_Value.j1 k true x403000 x403001 x403002) else (haulageref11_Value.j1 k (x403000 == 4) x403000 x403001 x403002))
def haulageref11_Value.j1 : Nat → Bool → Int → Int → ByteArray → Option (ByteArray)
 | 0, _, _, _, _ => none
 | k + 1, x26, x403000, x403001, x403002 => if x26 = true then ((haulageref11_one.f x403000).bind fun t406 => ((haulageref11_text.f k x403002).bind fun t407 => (if t406.size + t407.size ≤ 9223372036854775807 then (some (t406 ++ t407)) else (none)))) else ((haulageref11_one.f 0).bind fun t408 => (some t408))
end
def haulageref11_Value.f (k : Nat) (a0_0 : Int) (a0_1 : Int) (a0_2 : ByteArray) : Option (ByteArray) := if a0_0 = 1 then (haulageref11_Value.j0 k true a0_0 a0_1 a0_2) else (haulageref11_Value.j0 k (a0_0 == 2) a0_0 a0_1 a0_2)
theorem haulageref11_Value.mono_l : ∀ k, (∀ y0 y1 y2 y3, LeO (haulageref11_Value.j0 k y0 y1 y2 y3) (haulageref11_Value.j0 (k + 1) y0 y1 y2 y3)) ∧ (∀ y0 y1 y2 y3, LeO (haulageref11_Value.j1 k y0 y1 y2 y3) (haulageref11_Value.j1 (k + 1) y0 y1 y2 y3))
 | 0 => by refine ⟨?_, ?_⟩ <;> intros <;> exact LeO.none _
 | k + 1 => by
  obtain ⟨ih0, ih1⟩ := haulageref11_Value.mono_l k
  refine ⟨?_, ?_⟩ <;> intros <;> first | unfold haulageref11_Value.j0 | unfold haulageref11_Value.j1
  all_goals repeat' first | with_reducible (first | exact ih0 .. | exact ih1 .. | exact haulageref01_One.mono .. | exact haulageref11_text.mono .. | exact LeO.refl .. | exact LeO.none .. | refine LeO.ite ?_ ?_ | refine LeO.bind ?_ (fun _ => ?_)) | exact ih0 .. | exact ih1 .. | exact haulageref01_One.mono .. | exact haulageref11_text.mono .. | exact LeO.none .. | refine LeO.ite ?_ ?_ | refine LeO.bind ?_ (fun _ => ?_)
theorem haulageref11_Value.mono : ∀ a0 a1 a2 k, LeO (haulageref11_Value.f k a0 a1 a2) (haulageref11_Value.f (k + 1) a0 a1 a2) := by
 intro a0 a1 a2 k
 obtain ⟨ih0, ih1⟩ := haulageref11_Value.mono_l k
 unfold haulageref11_Value.f
 repeat' first | with_reducible (first | exact ih0 .. | exact ih1 .. | exact haulageref01_One.mono .. | exact haulageref11_text.mono .. | exact LeO.refl .. | exact LeO.none .. | refine LeO.ite ?_ ?_ | refine LeO.bind ?_ (fun _ => ?_)) | exact ih0 .. | exact ih1 .. | exact haulageref01_One.mono .. | exact haulageref11_text.mono .. | exact LeO.none .. | refine LeO.ite ?_ ?_ | refine LeO.bind ?_ (fun _ => ?_)
def haulageref11_Value.T2 : Bool × List (List Nat × List Nat) := (true, [([], []), ([0], [0]), ([1], [1]), ([], []), ([3], [3]), ([4, 2], [4]), ([5, 5], [5]), ([2, 6], [2, 6]), ([7, 6, 0, 1, 2, 3, 4, 5, 6, 7], [7])])
def haulageref11_Value.B2 : List Nat := [0, 1, 3, 0, 8, 31, 63, 127, 255]
theorem haulageref11_Value.tab2 : rtab .any (opsOf Tryd.f13 2) = haulageref11_Value.T2 := by kernel_rfl
theorem haulageref11_Value.bits2 : waitsOk haulageref11_Value.T2.2 haulageref11_Value.B2 = true := by kernel_rfl
def haulageref11_Value.T4 : Bool × List (List Nat × List Nat) := (true, [([], []), ([0], [0]), ([1], [1]), ([], []), ([3], [3]), ([4, 2], [4]), ([2, 5], [2, 5]), ([6, 5, 0, 1, 2, 3, 4, 5, 6], [6])])
def haulageref11_Value.B4 : List Nat := [0, 1, 3, 0, 8, 31, 63, 127]
theorem haulageref11_Value.tab4 : rtab .any (opsOf Tryd.f13 4) = haulageref11_Value.T4 := by kernel_rfl
theorem haulageref11_Value.bits4 : waitsOk haulageref11_Value.T4.2 haulageref11_Value.B4 = true := by kernel_rfl
set_option maxHeartbeats 8000000 in
set_option maxRecDepth 100000 in
theorem haulageref11_Value.calls (k : Nat) (a0_0 : Int) (a0_1 : Int) (a0_2 : ByteArray) (r : ByteArray) (w : World) (h : haulageref11_Value.f k a0_0 a0_1 a0_2 = some r) :
  Calls Tryd.prog 13 #[.agg #[.int .i64 a0_0, .int .i64 a0_1, .string a0_2]] w fun e w' => e = .returned (.string r) ∧ Below w.heap.size w w' := by
 have hu23 := Tryd.underlying23
 have HB := aM (Below.refl w.heap.size w)
 have H : (if a0_0 = 1 then (haulageref11_Value.j0 k true a0_0 a0_1 a0_2) else (haulageref11_Value.j0 k (a0_0 == 2) a0_0 a0_1 a0_2)) = some r := h
 clear h
 have HC2 := aM H
 clear H
 go_enter Tryd.func13, Tryd.ntmps13
 go_upto_region 1 with (first | ((with_reducible refine gate_dst (N := 1) rfl ?_); refine yX (N := 1) (cs := #[.int .i64 a0_0, .int .i64 a0_1, .string a0_2]) (t := 23) ?_; intro gb402 hg w3 hbox hb; have BK402 := aM (hbox); have GW402 := yZ hg (yB HB); have GE402 := yZ hg (yB HB); replace HB := aM (bP (yB HB) hb); clear hb hbox hg))
 (try simp only [Act.put, s1_, s2_, s3_])
 go_cut [10] (fun v10 wc => ∃ (kq : Nat) (x10_1 : Bool), v10 = .bool x10_1 ∧ Aside0 (haulageref11_Value.j0 kq x10_1 a0_0 a0_1 a0_2 = some r) ∧ Aside0 (kq ≤ k) ∧ Aside0 (wc.heap[gb402]? = some (.cells #[.int .i64 a0_0, .int .i64 a0_1, .string a0_2] 23 (0, 0))) ∧ Aside0 (Below w.heap.size w wc))
 case first =>
  have H := HC2.out
  clear HC2
  by_cases c4 : a0_0 = 1
  ·
   rw [if_pos c4] at H
   have c4b0 : (a0_0 == 1) = true := beq_iff_eq.mpr c4
   have c4b1 : (a0_0 != 1) = false := bne_eq_false_iff_eq.mpr c4
   clear c4
   (first | rw [c4b0] | (simp only [i64_w, i32_w]; rw [c4b0]) | skip)
   have H' := aM H
   clear H
   obtain ⟨hcz5_0, hcz5_1, hcz5_2, hfz5_0, hfz5_1, hfz5_2⟩ := cells3 BK402.out
   go_wp2
   go_meet
   case rel => exact ⟨_, (true), yS, H', ⟨yO⟩, ⟨yK BK402⟩, ⟨yG1 HB GE402.out⟩⟩
  ·
   rw [if_neg c4] at H
   have c4b0 : (a0_0 == 1) = false := beq_eq_false_iff_ne.mpr c4
   have c4b1 : (a0_0 != 1) = true := bne_iff_ne.mpr c4
   (first | rw [c4b0] | (simp only [i64_w, i32_w]; rw [c4b0]) | skip)
   have H' := aM H
   clear H
   obtain ⟨hcz6_0, hcz6_1, hcz6_2, hfz6_0, hfz6_1, hfz6_2⟩ := cells3 BK402.out
   go_wp2
   go_meet
   case rel => exact ⟨_, ((a0_0 == 2)), yS, H', ⟨yO⟩, ⟨yK BK402⟩, ⟨yG1 HB GE402.out⟩⟩
 case rest =>
  clear HC2
  obtain ⟨kq, x10_1, rfl, HA, HJ1, BK402, HB⟩ := hcut
  cases kq with
  | zero => exact absurd HA.out (by simp [haulageref11_Value.j0])
  | succ kj1 =>
   have H := HA.out
   clear HA
   simp only [haulageref11_Value.j0] at H
   by_cases c7 : x10_1 = true
   ·
    subst c7
    replace H := yt H
    obtain ⟨t403, A8, H⟩ := yb H
    obtain ⟨t404, A9, H⟩ := yb H
    obtain ⟨t405, A10, H⟩ := yb H
    by_cases c11 : t403.size + t405.size ≤ 9223372036854775807
    ·
     rw [if_pos c11] at H
     have c11b0 := eq_true c11
     have c11b1 : decide (t403.size + t405.size ≤ 9223372036854775807) = true := decide_eq_true c11
     try have c11b2 : (9223372036854775807 < t403.size + t405.size) = False := eq_false (Nat.not_lt.2 c11)
     obtain rfl := Option.some.inj H
     try go_wp2
     have n0_ := aM (kD BK402.out)
     have n1_ := aM (b1 HB.out)
     clear BK402
     clear HB
     have BK402 := n0_
     have HB := n1_
     clear n0_ n1_
     refine start_ (n := 9) (S := fun w' => w'.cell? ⟨gb402, 0, none⟩ = some (.int .i64 a0_0) ∧ w'.cell? ⟨gb402, 1, none⟩ = some (.int .i64 a0_1) ∧ w'.cell? ⟨gb402, 2, none⟩ = some (.string a0_2)) (ds := []) (tB 0 9) (by kernel_rfl) rfl rfl (cellc3 BK402.out) (fun hHeld => ?_); refine with_tabW haulageref11_Value.tab2 haulageref11_Value.bits2 (fun HT_ HW_ => ?_)
     generalize wc.drew = w12 at BK402 HB hHeld ⊢
     refine yP HT_ 0 11 (tB 1 9) rfl rfl ?_
     refine yP HT_ 3 14 (tB 9 9) rfl rfl ?_
     refine yT HT_ HW_ 1 12 (tB 11 9) rfl rfl hHeld ?_
     refine yT HT_ HW_ 4 15 (tB 27 9) rfl rfl hHeld ?_
     refine yI HT_ 2 (tB 31 9) rfl rfl fun K hK => ?_
     refine yc Tryd.func42 #[.int .i64 a0_0] rfl rfl ?_
     with_reducible refine (haulageref11_one.calls a0_0 t403 _ A8.out).mono ?_
     rintro e w13 ⟨rfl, hb⟩
     refine ⟨_, rfl, ?_⟩
     have n0_ := aM (kB (yK BK402) hb)
     have n1_ := aM (bP (yG1 HB GE402.out) hb)
     clear BK402
     clear HB
     have BK402 := n0_
     have HB := n1_
     clear n0_ n1_
     (try clear hb)
     (try clear hb2)
     (try clear hk)
     (try clear hi)
     refine hK.out _ _ (cellc3 BK402.out) (fun hHeld => ?_)
     clear hK K
     refine norm_ (a' := ?_) ?_ ?_
     rotate_left
     ·
      show Act.put _ (some 13) _ = _
      simp only [Act.put, s1_, s2_, s3_, i64_w, i32_w]
      rfl
     refine yI HT_ 5 (tB 63 9) rfl rfl fun K hK => ?_
     refine yc Tryd.func44 #[.int .i64 a0_1] rfl rfl ?_
     with_reducible refine (haulageref01_Zig.calls a0_1 t404 _ A9.out).mono ?_
     rintro e w' ⟨rfl, ⟨nd, rfl⟩⟩
     refine ⟨_, rfl, ?_⟩
     refine hK.out _ _ (cellc3 BK402.out) (fun hHeld => ?_)
     clear hK K
     refine norm_ (a' := ?_) ?_ ?_
     rotate_left
     ·
      show Act.put _ (some 16) _ = _
      simp only [Act.put, s1_, s2_, s3_, i64_w, i32_w]
      rfl
     refine yI HT_ 6 (tB 127 9) rfl rfl fun K hK => ?_
     refine yc Tryd.func43 #[.int .u64 t404] rfl rfl ?_
     with_reducible refine (haulageref01_One.calls kj1 t404 t405 _ A10.out).mono ?_
     rintro e w14 ⟨rfl, hb⟩
     refine ⟨_, rfl, ?_⟩
     have n0_ := aM (kB (yK BK402) hb)
     have n1_ := aM (bP (yG1 HB GE402.out) hb)
     clear BK402
     clear HB
     have BK402 := n0_
     have HB := n1_
     clear n0_ n1_
     (try clear hb)
     (try clear hb2)
     (try clear hk)
     (try clear hi)
     refine hK.out _ _ (cellc3 BK402.out) (fun hHeld => ?_)
     clear hK K
     refine norm_ (a' := ?_) ?_ ?_
     rotate_left
     ·
      show Act.put _ (some 17) _ = _
      simp only [Act.put, s1_, s2_, s3_, i64_w, i32_w]
      rfl
     refine yP HT_ 7 18 (tB 255 9) rfl rfl ?_
     refine yP HT_ 8 2 (tB 511 9) rfl rfl ?_
     refine done_ (done_of HT_.out (by kernel_rfl)) ?_
     try go_wp2
     go_ret
     exact ⟨yE, yG1 HB GE402.out⟩
    ·
     rw [if_neg c11] at H
     exact absurd H (by simp)
   ·
    replace c7 := Bool.eq_false_iff.mpr c7
    subst c7
    replace H := yf H
    have HC15 := aM H
    clear H
    go_upto_region 3 with (fail)
    go_cut [26] (fun v26 wc => ∃ (kq : Nat) (x26_14 : Bool), v26 = .bool x26_14 ∧ Aside0 (haulageref11_Value.j1 kq x26_14 a0_0 a0_1 a0_2 = some r) ∧ Aside0 (kq ≤ kj1) ∧ Aside0 (wc.heap[gb402]? = some (.cells #[.int .i64 a0_0, .int .i64 a0_1, .string a0_2] 23 (0, 0))) ∧ Aside0 (Below w.heap.size w wc))
    case first =>
     have H := HC15.out
     clear HC15
     by_cases c16 : a0_0 = 3
     ·
      rw [if_pos c16] at H
      have c16b0 : (a0_0 == 3) = true := beq_iff_eq.mpr c16
      have c16b1 : (a0_0 != 3) = false := bne_eq_false_iff_eq.mpr c16
      clear c16
      (first | rw [c16b0] | (simp only [i64_w, i32_w]; rw [c16b0]) | skip)
      have H' := aM H
      clear H
      obtain ⟨hcz17_0, hcz17_1, hcz17_2, hfz17_0, hfz17_1, hfz17_2⟩ := cells3 BK402.out
      go_wp2
      go_meet
      case rel => exact ⟨_, (true), yS, H', ⟨by have := HJ1.out; first | omega | exact Nat.le_refl _⟩, ⟨yK BK402⟩, ⟨yG1 HB GE402.out⟩⟩
     ·
      rw [if_neg c16] at H
      have c16b0 : (a0_0 == 3) = false := beq_eq_false_iff_ne.mpr c16
      have c16b1 : (a0_0 != 3) = true := bne_iff_ne.mpr c16
      (first | rw [c16b0] | (simp only [i64_w, i32_w]; rw [c16b0]) | skip)
      have H' := aM H
      clear H
      obtain ⟨hcz18_0, hcz18_1, hcz18_2, hfz18_0, hfz18_1, hfz18_2⟩ := cells3 BK402.out
      go_wp2
      go_meet
      case rel => exact ⟨_, ((a0_0 == 4)), yS, H', ⟨by have := HJ1.out; first | omega | exact Nat.le_refl _⟩, ⟨yK BK402⟩, ⟨yG1 HB GE402.out⟩⟩
    case rest =>
     clear HC15
     try clear c7
     obtain ⟨kq, x26_14, rfl, HA, HJ14, BK402, HB⟩ := hcut
     cases kq with
     | zero => exact absurd HA.out (by simp [haulageref11_Value.j1])
     | succ kj14 =>
      have H := HA.out
      clear HA
      simp only [haulageref11_Value.j1] at H
      by_cases c19 : x26_14 = true
      ·
       subst c19
       replace H := yt H
       obtain ⟨t406, A20, H⟩ := yb H
       obtain ⟨t407, A21, H⟩ := yb H
       by_cases c22 : t406.size + t407.size ≤ 9223372036854775807
       ·
        rw [if_pos c22] at H
        have c22b0 := eq_true c22
        have c22b1 : decide (t406.size + t407.size ≤ 9223372036854775807) = true := decide_eq_true c22
        try have c22b2 : (9223372036854775807 < t406.size + t407.size) = False := eq_false (Nat.not_lt.2 c22)
        obtain rfl := Option.some.inj H
        try go_wp2
        have n0_ := aM (kD BK402.out)
        have n1_ := aM (b1 HB.out)
        clear BK402
        clear HB
        have BK402 := n0_
        have HB := n1_
        clear n0_ n1_
        refine start_ (n := 8) (S := fun w' => w'.cell? ⟨gb402, 0, none⟩ = some (.int .i64 a0_0) ∧ w'.cell? ⟨gb402, 1, none⟩ = some (.int .i64 a0_1) ∧ w'.cell? ⟨gb402, 2, none⟩ = some (.string a0_2)) (ds := []) (tB 0 8) (by kernel_rfl) rfl rfl (cellc3 BK402.out) (fun hHeld => ?_); refine with_tabW haulageref11_Value.tab4 haulageref11_Value.bits4 (fun HT_ HW_ => ?_)
        generalize wc.drew = w23 at BK402 HB hHeld ⊢
        refine yP HT_ 0 27 (tB 1 8) rfl rfl ?_
        refine yP HT_ 3 30 (tB 9 8) rfl rfl ?_
        refine yT HT_ HW_ 1 28 (tB 11 8) rfl rfl hHeld ?_
        refine yT HT_ HW_ 4 31 (tB 27 8) rfl rfl hHeld ?_
        refine yI HT_ 2 (tB 31 8) rfl rfl fun K hK => ?_
        refine yc Tryd.func42 #[.int .i64 a0_0] rfl rfl ?_
        with_reducible refine (haulageref11_one.calls a0_0 t406 _ A20.out).mono ?_
        rintro e w24 ⟨rfl, hb⟩
        refine ⟨_, rfl, ?_⟩
        have n0_ := aM (kB (yK BK402) hb)
        have n1_ := aM (bP (yG1 HB GE402.out) hb)
        clear BK402
        clear HB
        have BK402 := n0_
        have HB := n1_
        clear n0_ n1_
        (try clear hb)
        (try clear hb2)
        (try clear hk)
        (try clear hi)
        refine hK.out _ _ (cellc3 BK402.out) (fun hHeld => ?_)
        clear hK K
        refine norm_ (a' := ?_) ?_ ?_
        rotate_left
        ·
         show Act.put _ (some 29) _ = _
         simp only [Act.put, s1_, s2_, s3_, i64_w, i32_w]
         rfl
        refine yI HT_ 5 (tB 63 8) rfl rfl fun K hK => ?_
        refine yc Tryd.func45 #[.string a0_2] rfl rfl ?_
        with_reducible refine (haulageref11_text.calls kj14 a0_2 t407 _ A21.out).mono ?_
        rintro e w25 ⟨rfl, hb⟩
        refine ⟨_, rfl, ?_⟩
        have n0_ := aM (kB (yK BK402) hb)
        have n1_ := aM (bP (yG1 HB GE402.out) hb)
        clear BK402
        clear HB
        have BK402 := n0_
        have HB := n1_
        clear n0_ n1_
        (try clear hb)
        (try clear hb2)
        (try clear hk)
        (try clear hi)
        refine hK.out _ _ (cellc3 BK402.out) (fun hHeld => ?_)
        clear hK K
        refine norm_ (a' := ?_) ?_ ?_
        rotate_left
        ·
         show Act.put _ (some 32) _ = _
         simp only [Act.put, s1_, s2_, s3_, i64_w, i32_w]
         rfl
        refine yP HT_ 6 33 (tB 127 8) rfl rfl ?_
        refine yP HT_ 7 2 (tB 255 8) rfl rfl ?_
        refine done_ (done_of HT_.out (by kernel_rfl)) ?_
        try go_wp2
        go_ret
        exact ⟨yE, yG1 HB GE402.out⟩
       ·
        rw [if_neg c22] at H
        exact absurd H (by simp)
      ·
       replace c19 := Bool.eq_false_iff.mpr c19
       subst c19
       replace H := yf H
       obtain ⟨t408, A26, H⟩ := yb H
       obtain rfl := Option.some.inj H
       go_wp2_with (first | ((with_reducible refine gate_callee (f := 42) rfl ?_); refine yC 34 Tryd.func42 #[.int .i64 0] rfl ?_; (with_reducible refine (haulageref11_one.calls 0 t408 _ A26.out).mono ?_); rintro e w27 ⟨rfl, hb⟩; refine ⟨_, rfl, ?_⟩; replace BK402 := aM (kB (yK BK402) hb); replace HB := aM (bP (yG1 HB GE402.out) hb); (try clear hb)))
       go_ret
       exact ⟨yE, yG1 HB GE402.out⟩
end Go.Proofs.YtgefikclhfjcgaaDoor.HCatcodeValues

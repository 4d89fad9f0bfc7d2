/- For Go functions that RowcodeEncodes reaches: Lean functions, and walks that show that each call comes to what its Lean function tells; no condition but those that each theorem states. (Made by a program of this session over the kit's print.py.) -/
import Derived.Test.YtdeophpjammbpaaDoorHRowcodeEncodesx0
namespace Go.Proofs.YtdeophpjammbpaaDoor.HRowcodeEncodes
open Go.RowKit Go.Proofs.YtdeophpjammbpaaDoorW.PrintWords Go.Proofs.YtdeophpjammbpaaDoorW.PrintLast Go.Proofs.YtdeophpjammbpaaDoorW.PrintMore
attribute [local go_sem] max2_int min2_int max_two min_two max_three min_three max_four min_four   -- for this text's walks alone
set_option linter.unusedVariables false
set_option linter.unusedSimpArgs false
attribute [local go_sem] hp_s8 hp_s16 hp_s32 hp_s64 hp_m8 hp_m16 hp_m32 hp_m64
/-! ### haulageref01_One: function 90 -/
def haulageref01_One.f : Nat → Int → Option (ByteArray)
 | 0, _ => none
 | k + 1, a0 => if a0 < 128 then (some (strOfNums (([(a0) % 256] : List Int)))) else ((some (([(IntKind.u64.wrap ((Int.tmod a0 128) + 128)) % 256] : List Int) : List Int)).bind fun y288 => ((haulageref01_One.f k (IntKind.u64.wrap (Int.tdiv a0 128))).bind fun t291 => (if (strOfNums y288).size + t291.size ≤ 9223372036854775807 then (some ((strOfNums y288) ++ t291)) else (none))))
theorem haulageref01_One.mono_l : ∀ k, (∀ y0, LeO (haulageref01_One.f k y0) (haulageref01_One.f (k + 1) y0))
 | 0 => fun _ r h => by simp [haulageref01_One.f] at h
 | k + 1 => by
  have ih0 := haulageref01_One.mono_l k
  ·
   intro y0
   unfold haulageref01_One.f
   repeat' first
   | (with_reducible exact ih0 _)
   | (with_reducible exact LeO.refl _)
   | (with_reducible exact LeO.none _)
   | (with_reducible refine LeO.ite ?_ ?_)
   | (with_reducible refine LeO.bind ?_ (fun _ => ?_))
   | exact ih0 _
   | exact LeO.none _
   | refine LeO.ite ?_ ?_
   | refine LeO.bind ?_ (fun _ => ?_)
theorem haulageref01_One.mono : ∀ a0 k, LeO (haulageref01_One.f k a0) (haulageref01_One.f (k + 1) a0) := by
 intro a0 k
 have ih0 := haulageref01_One.mono_l k
 exact ih0 a0
def haulageref01_One.T3 : Bool × List (List Nat × List Nat) := (true, [([], []), ([0], [0]), ([1], [1]), ([2], [2]), ([3], [3]), ([4], [4]), ([], []), ([6], [6]), ([7], [7]), ([5, 8], [5, 8]), ([9, 8, 0, 1, 2, 3, 4, 5, 6, 7, 8, 9], [9])])
def haulageref01_One.B3 : List Nat := [0, 1, 3, 7, 15, 31, 0, 64, 192, 511, 1023]
theorem haulageref01_One.tab3 : rtab .any (opsOf Tryd.f90 3) = haulageref01_One.T3 := by kernel_rfl
theorem haulageref01_One.bits3 : waitsOk haulageref01_One.T3.2 haulageref01_One.B3 = true := by kernel_rfl
set_option maxHeartbeats 8000000 in
set_option maxRecDepth 100000 in
theorem haulageref01_One.calls (k : Nat) : ∀ (a0 : Int) (r : ByteArray) (w : World) (h : haulageref01_One.f k a0 = some r),
  Calls Tryd.prog 90 #[.int .u64 a0] w fun e w' => e = .returned (.string r) ∧ Below w.heap.size w w' := by
 induction k using Nat.strongRecOn with
 | _ k ih =>
 intro a0 r w h
 cases k with
 | zero => exact absurd h (by simp [haulageref01_One.f])
 | succ k =>
 simp only [haulageref01_One.f] at h
 have HB := aM (Below.refl w.heap.size w)
 have H : (if a0 < 128 then (some (strOfNums (([(a0) % 256] : List Int)))) else ((some (([(IntKind.u64.wrap ((Int.tmod a0 128) + 128)) % 256] : List Int) : List Int)).bind fun y288 => ((haulageref01_One.f k (IntKind.u64.wrap (Int.tdiv a0 128))).bind fun t291 => (if (strOfNums y288).size + t291.size ≤ 9223372036854775807 then (some ((strOfNums y288) ++ t291)) else (none))))) = some r := h
 clear h
 by_cases c2 : a0 < 128
 ·
  rw [if_pos c2] at H
  have c2b0 : decide (a0 < 128) = true := decide_eq_true c2
  clear c2
  obtain ⟨y285, hy285⟩ : ∃ y_ : List Int, y_ = (([(a0) % 256] : List Int)) := ⟨_, rfl⟩
  replace H : (some (strOfNums y285)) = some r := by first | (rw [hy285]; with_reducible exact H) | (have H2_ := (Option.bind_some _ _).symm.trans H; rw [hy285]; with_reducible exact H2_) | (have H2_ := (Option.bind_some _ _).symm.trans H; with_reducible exact H2_) | with_reducible exact H | (rw [hy285]; exact H) | exact H
  have Ny285 := aM hy285
  clear hy285
  obtain rfl := Option.some.inj H
  go_enter Tryd.func90, Tryd.ntmps90
  go_wp2_with (first | ((with_reducible refine gate_dst (N := 7) rfl ?_); refine Kd.R_lit (Kd.int .u8) _ 5 ?hg (N := 7) ?hd (xs := ([(a0) % 256] : List Int)) (inner := [.int .u8 ((a0) % 256)]) (ok := fun _ => True) (okp := fun _ => True) ?hr ?hp (fun _ hk => hk) trivial (Below.refl _ _) (Nat.le_refl _) (by simp) ?_; (case hd => rfl); (case hg => rfl); (case hr => first | (go_simp; done) | (go_simp; rfl)); (case hp => exact (Reps.one (show Kd.M (Kd.int .u8) _ _ _ ((a0) % 256) [.int .u8 ((a0) % 256)] from rfl) (Reps.none _ _))); intro v286 w3 ho4 hb hg_ hnew_; clear hg_ hnew_; (first | rw [← Ny285.out] at ho4 | (simp only [Int.reduceToNat] at ho4; rw [← Ny285.out] at ho4)); have HO287 := aM (Kd.R_lower ho4 (bZ (yB HB))); replace HB := aM (bP (yB HB) hb); clear hb ho4; have hcv5 := own_string (P := Tryd.prog) Tryd.underlying91 Tryd.underlying5 Tryd.underlying9 (Kd.own_of_R HO287.out)))
  go_ret
  exact ⟨yE, yB HB⟩
 ·
  rw [if_neg c2] at H
  have c2b0 : decide (a0 < 128) = false := decide_eq_false c2
  clear c2
  obtain ⟨y288, hy288⟩ : ∃ y_ : List Int, y_ = (([(IntKind.u64.wrap ((Int.tmod a0 128) + 128)) % 256] : List Int)) := ⟨_, rfl⟩
  replace H : ((haulageref01_One.f k (IntKind.u64.wrap (Int.tdiv a0 128))).bind fun t291 => (if (strOfNums y288).size + t291.size ≤ 9223372036854775807 then (some ((strOfNums y288) ++ t291)) else (none))) = some r := by first | (rw [hy288]; with_reducible exact H) | (have H2_ := (Option.bind_some _ _).symm.trans H; rw [hy288]; with_reducible exact H2_) | (have H2_ := (Option.bind_some _ _).symm.trans H; with_reducible exact H2_) | with_reducible exact H | (rw [hy288]; exact H) | exact H
  have Ny288 := aM hy288
  clear hy288
  replace H := Option.bind_eq_some_iff.mp H
  obtain ⟨t291, A60, H⟩ := H
  replace H : (if (strOfNums y288).size + t291.size ≤ 9223372036854775807 then (some ((strOfNums y288) ++ t291)) else (none)) = some r := H
  have A6 := aM A60
  clear A60
  by_cases c7 : (strOfNums y288).size + t291.size ≤ 9223372036854775807
  ·
   rw [if_pos c7] at H
   have c7b0 := eq_true c7
   have c7b1 : decide ((strOfNums y288).size + t291.size ≤ 9223372036854775807) = true := decide_eq_true c7
   try have c7b2 : (9223372036854775807 < (strOfNums y288).size + t291.size) = False := eq_false (Nat.not_lt.2 c7)
   obtain rfl := Option.some.inj H
   go_enter Tryd.func90, Tryd.ntmps90
   try go_wp2
   have n0_ := aM (b1 HB.out)
   clear HB
   have HB := n0_
   clear n0_
   refine start_ (n := 11) (S := fun w' => True) (ds := []) (tB 0 11) (by kernel_rfl) rfl rfl trivial (fun hHeld => ?_); refine with_tabW haulageref01_One.tab3 haulageref01_One.bits3 (fun HT_ HW_ => ?_)
   generalize w.drew = w8 at HB hHeld ⊢
   refine yP HT_ 0 9 (tB 1 11) rfl rfl ?_
   refine yP HT_ 1 10 (tB 3 11) rfl rfl ?_
   refine yP HT_ 2 11 (tB 7 11) rfl rfl ?_
   refine yP HT_ 3 12 (tB 15 11) rfl rfl ?_
   refine yP HT_ 6 15 (tB 79 11) rfl rfl ?_
   refine yP HT_ 7 16 (tB 207 11) rfl rfl ?_
   refine join_ (σ := Value) 2 #[true, true, true, true, true, true, true, true, true, false, false] (fun s_ => [(13, s_), (14, .string (strOfNums y288)), (17, .string t291)]) (fun s_ w' => (Kd.R (Kd.int .u8) 5 w' w.heap.size (fun _ => True) s_ y288) ∧ (Below w.heap.size w w')) ?_ ?_
   rotate_left
   ·
    intro hCont
    refine two_ (i := 4) (j := 8) (Ni := some 13) (Nj := some 17) (tB 223 11) (tB 463 11) rfl rfl rfl rfl (two_of HT_.out (by kernel_rfl)) (by decide) (by decide) (fun K hK => ?_) (fun K hK => ?_)
    ·
     skip
     refine Kd.R_lit_step (Kd.int .u8) _ 5 ?hg (N := 13) ?hd (xs := ([(IntKind.u64.wrap ((Int.tmod a0 128) + 128)) % 256] : List Int)) (inner := [.int .u8 ((IntKind.u64.wrap ((Int.tmod a0 128) + 128)) % 256)]) (ok := fun _ => True) (okp := fun _ => True) ?hr ?hp (fun _ hk => hk) trivial (Below.refl _ _) (Nat.le_refl _) (by simp) ?_; (case hd => rfl); (case hg => rfl); (case hr => first | (go_simp; done) | (go_simp; rfl)); (case hp => exact (Reps.one (show Kd.M (Kd.int .u8) _ _ _ ((IntKind.u64.wrap ((Int.tmod a0 128) + 128)) % 256) [.int .u8 ((IntKind.u64.wrap ((Int.tmod a0 128) + 128)) % 256)] from rfl) (Reps.none _ _)))
     intro v289 w9 ho10 hb hg_ hnew_
     clear hg_ hnew_
     (first | rw [← Ny288.out] at ho10 | (simp only [Int.reduceToNat] at ho10; rw [← Ny288.out] at ho10))
     have n0_ := aM (Kd.R_lower ho10 (bZ (yB HB)))
     have n1_ := aM (bP (yB HB) hb)
     clear HB
     have HO290 := n0_
     have HB := n1_
     clear n0_ n1_
     clear hb ho10
     refine hK.out _ _ trivial (fun hHeld => ?_)
     clear hK K
     refine norm_ (a' := ?_) ?_ ?_
     rotate_left
     ·
      show Act.put _ (some 13) _ = _
      simp only [Act.put, s1_, s2_, s3_, i64_w, i32_w]
      rfl
     refine two_ (i := 5) (j := 8) (Ni := some 14) (Nj := some 17) (tB 255 11) (tB 479 11) rfl rfl rfl rfl (two_of HT_.out (by kernel_rfl)) (by decide) (by decide) (fun K hK => ?_) (fun K hK => ?_)
     ·
      skip
      have hcv11 := own_string (P := Tryd.prog) Tryd.underlying91 Tryd.underlying5 Tryd.underlying9 (Kd.own_of_R HO290.out)
      refine value_ (w1 := ?_) (v := ?_) (by rfl) rfl ?_ ?_
      rotate_left 2
      ·
       go_simp
       constructor
       ·
        rfl
       ·
        rfl
      clear hcv11
      refine hK.out _ _ trivial (fun hHeld => ?_)
      clear hK K
      refine norm_ (a' := ?_) ?_ ?_
      rotate_left
      ·
       show Act.put _ (some 14) _ = _
       simp only [Act.put, s1_, s2_, s3_, i64_w, i32_w]
       rfl
      refine yI HT_ 8 (tB 511 11) rfl rfl fun K hK => ?_
      refine yc Tryd.func90 #[.int .u64 (IntKind.u64.wrap (Int.tdiv a0 128))] rfl rfl ?_
      with_reducible refine (ih k (by omega) (IntKind.u64.wrap (Int.tdiv a0 128)) t291 _ A6.out).mono ?_
      rintro e w12 ⟨rfl, hb⟩
      refine ⟨_, rfl, ?_⟩
      have n0_ := aM (Kd.R_below (yR HO290.out) hb)
      have n1_ := aM (bP (yB HB) hb)
      clear HO290
      clear HB
      have HO290 := n0_
      have HB := n1_
      clear n0_ n1_
      (try clear hb)
      (try clear hb2)
      (try clear hk)
      (try clear hi)
      refine hK.out _ _ trivial (fun hHeld => ?_)
      clear hK K
      refine norm_ (a' := ?_) ?_ ?_
      rotate_left
      ·
       show Act.put _ (some 17) _ = _
       simp only [Act.put, s1_, s2_, s3_, i64_w, i32_w]
       rfl
      exact norm_ (by simp only [putAll, Act.put, s1_, s2_, s3_]) (hCont (v289) _ ⟨(yR HO290.out), (yB HB)⟩)
     ·
      skip
      refine yc Tryd.func90 #[.int .u64 (IntKind.u64.wrap (Int.tdiv a0 128))] rfl rfl ?_
      with_reducible refine (ih k (by omega) (IntKind.u64.wrap (Int.tdiv a0 128)) t291 _ A6.out).mono ?_
      rintro e w11 ⟨rfl, hb⟩
      refine ⟨_, rfl, ?_⟩
      have n0_ := aM (Kd.R_below (yR HO290.out) hb)
      have n1_ := aM (bP (yB HB) hb)
      clear HO290
      clear HB
      have HO290 := n0_
      have HB := n1_
      clear n0_ n1_
      (try clear hb)
      (try clear hb2)
      (try clear hk)
      (try clear hi)
      refine hK.out _ _ trivial (fun hHeld => ?_)
      clear hK K
      refine norm_ (a' := ?_) ?_ ?_
      rotate_left
      ·
       show Act.put _ (some 17) _ = _
       simp only [Act.put, s1_, s2_, s3_, i64_w, i32_w]
       rfl
      refine yI HT_ 5 (tB 511 11) rfl rfl fun K hK => ?_
      have hcv12 := own_string (P := Tryd.prog) Tryd.underlying91 Tryd.underlying5 Tryd.underlying9 (Kd.own_of_R HO290.out)
      refine value_ (w1 := ?_) (v := ?_) (by rfl) rfl ?_ ?_
      rotate_left 2
      ·
       go_simp
       constructor
       ·
        rfl
       ·
        rfl
      clear hcv12
      refine hK.out _ _ trivial (fun hHeld => ?_)
      clear hK K
      refine norm_ (a' := ?_) ?_ ?_
      rotate_left
      ·
       show Act.put _ (some 14) _ = _
       simp only [Act.put, s1_, s2_, s3_, i64_w, i32_w]
       rfl
      exact norm_ (by simp only [putAll, Act.put, s1_, s2_, s3_]) (hCont (v289) _ ⟨(yR HO290.out), (yB HB)⟩)
    ·
     skip
     refine yc Tryd.func90 #[.int .u64 (IntKind.u64.wrap (Int.tdiv a0 128))] rfl rfl ?_
     with_reducible refine (ih k (by omega) (IntKind.u64.wrap (Int.tdiv a0 128)) t291 _ A6.out).mono ?_
     rintro e w9 ⟨rfl, hb⟩
     refine ⟨_, rfl, ?_⟩
     have n0_ := aM (bP (yB HB) hb)
     clear HB
     have HB := n0_
     clear n0_
     (try clear hb)
     (try clear hb2)
     (try clear hk)
     (try clear hi)
     refine hK.out _ _ trivial (fun hHeld => ?_)
     clear hK K
     refine norm_ (a' := ?_) ?_ ?_
     rotate_left
     ·
      show Act.put _ (some 17) _ = _
      simp only [Act.put, s1_, s2_, s3_, i64_w, i32_w]
      rfl
     refine yI HT_ 4 (tB 479 11) rfl rfl fun K hK => ?_
     refine Kd.R_lit_step (Kd.int .u8) _ 5 ?hg (N := 13) ?hd (xs := ([(IntKind.u64.wrap ((Int.tmod a0 128) + 128)) % 256] : List Int)) (inner := [.int .u8 ((IntKind.u64.wrap ((Int.tmod a0 128) + 128)) % 256)]) (ok := fun _ => True) (okp := fun _ => True) ?hr ?hp (fun _ hk => hk) trivial (Below.refl _ _) (Nat.le_refl _) (by simp) ?_; (case hd => rfl); (case hg => rfl); (case hr => first | (go_simp; done) | (go_simp; rfl)); (case hp => exact (Reps.one (show Kd.M (Kd.int .u8) _ _ _ ((IntKind.u64.wrap ((Int.tmod a0 128) + 128)) % 256) [.int .u8 ((IntKind.u64.wrap ((Int.tmod a0 128) + 128)) % 256)] from rfl) (Reps.none _ _)))
     intro v289 w10 ho11 hb hg_ hnew_
     clear hg_ hnew_
     (first | rw [← Ny288.out] at ho11 | (simp only [Int.reduceToNat] at ho11; rw [← Ny288.out] at ho11))
     have n0_ := aM (Kd.R_lower ho11 (bZ (yB HB)))
     have n1_ := aM (bP (yB HB) hb)
     clear HB
     have HO290 := n0_
     have HB := n1_
     clear n0_ n1_
     clear hb ho11
     refine hK.out _ _ trivial (fun hHeld => ?_)
     clear hK K
     refine norm_ (a' := ?_) ?_ ?_
     rotate_left
     ·
      show Act.put _ (some 13) _ = _
      simp only [Act.put, s1_, s2_, s3_, i64_w, i32_w]
      rfl
     refine yI HT_ 5 (tB 511 11) rfl rfl fun K hK => ?_
     have hcv12 := own_string (P := Tryd.prog) Tryd.underlying91 Tryd.underlying5 Tryd.underlying9 (Kd.own_of_R HO290.out)
     refine value_ (w1 := ?_) (v := ?_) (by rfl) rfl ?_ ?_
     rotate_left 2
     ·
      go_simp
      constructor
      ·
       rfl
      ·
       rfl
     clear hcv12
     refine hK.out _ _ trivial (fun hHeld => ?_)
     clear hK K
     refine norm_ (a' := ?_) ?_ ?_
     rotate_left
     ·
      show Act.put _ (some 14) _ = _
      simp only [Act.put, s1_, s2_, s3_, i64_w, i32_w]
      rfl
     exact norm_ (by simp only [putAll, Act.put, s1_, s2_, s3_]) (hCont (v289) _ ⟨(yR HO290.out), (yB HB)⟩)
   rintro v289 w13 ⟨h0_, h1_⟩
   have n0_ : Aside0 (Kd.R (Kd.int .u8) 5 w13 w.heap.size (fun _ => True) v289 y288) := ⟨h0_⟩
   have n1_ : Aside0 (Below w.heap.size w w13) := ⟨h1_⟩
   clear HB
   clear h0_ h1_
   have HO290 := n0_
   have HB := n1_
   clear n0_ n1_
   have hHeld := trivial
   refine norm_ (a' := ?_) ?_ ?_
   rotate_left
   ·
    simp only [putAll, Act.put, s1_, s2_, s3_]
    rfl
   refine yP HT_ 9 18 (tB 1023 11) rfl rfl ?_
   refine yP HT_ 10 2 (tB 2047 11) rfl rfl ?_
   refine done_ (done_of HT_.out (by kernel_rfl)) ?_
   try go_wp2
   go_ret
   exact ⟨yE, yB HB⟩
  ·
   rw [if_neg c7] at H
   exact absurd H (by simp)
/-! ### haulageref01_Zig: function 91 -/
def haulageref01_Zig.f (a0 : Int) : Option (Int) := if a0 ≥ 0 then (some (IntKind.u64.wrap (2 * (IntKind.u64.wrap (a0))))) else (some (IntKind.u64.wrap ((IntKind.u64.wrap (2 * (IntKind.u64.wrap (wrap64 ((-1) - a0))))) + 1)))
set_option maxHeartbeats 8000000 in
set_option maxRecDepth 100000 in
theorem haulageref01_Zig.calls (a0 : Int) (r : Int) (w : World) (h : haulageref01_Zig.f a0 = some r) :
  Calls Tryd.prog 91 #[.int .i64 a0] w fun e w' => e = .returned (.int .u64 r) ∧ Drawn0 w w' := by
 have H : (if a0 ≥ 0 then (some (IntKind.u64.wrap (2 * (IntKind.u64.wrap (a0))))) else (some (IntKind.u64.wrap ((IntKind.u64.wrap (2 * (IntKind.u64.wrap (wrap64 ((-1) - a0))))) + 1)))) = some r := h
 clear h
 by_cases c2 : a0 ≥ 0
 ·
  rw [if_pos c2] at H
  have c2b0 : decide (0 ≤ a0) = true := decide_eq_true c2
  clear c2
  obtain rfl := Option.some.inj H
  go_enter Tryd.func91, Tryd.ntmps91
  go_wp2
  go_ret
  exact ⟨yS, yD⟩
 ·
  rw [if_neg c2] at H
  have c2b0 : decide (0 ≤ a0) = false := decide_eq_false c2
  clear c2
  obtain rfl := Option.some.inj H
  go_enter Tryd.func91, Tryd.ntmps91
  go_wp2
  go_ret
  exact ⟨yS, yD⟩
/-! ### haulageref12_One: function 58 -/
def haulageref12_One.f (k : Nat) (a0_0 : Int) (a0_1 : Int) (a0_2 : ByteArray) : Option (ByteArray) := if a0_0 < 3 then ((haulageref01_Zig.f a0_1).bind fun t293 => ((haulageref01_One.f k t293).bind fun t294 => (some t294))) else ((haulageref01_One.f k (IntKind.u64.wrap ((a0_2.size : Int)))).bind fun t295 => (if t295.size + a0_2.size ≤ 9223372036854775807 then (some (t295 ++ a0_2)) else (none)))
theorem haulageref12_One.mono : ∀ a0 a1 a2 k, LeO (haulageref12_One.f k a0 a1 a2) (haulageref12_One.f (k + 1) a0 a1 a2) := by
 intro a0 a1 a2 k
 unfold haulageref12_One.f
 repeat' first
   | (with_reducible exact haulageref01_One.mono _ _)
   | (with_reducible exact LeO.refl _)
   | (with_reducible exact LeO.none _)
   | (with_reducible refine LeO.ite ?_ ?_)
   | (with_reducible refine LeO.bind ?_ (fun _ => ?_))
   | exact haulageref01_One.mono _ _
   | exact LeO.none _
   | refine LeO.ite ?_ ?_
   | refine LeO.bind ?_ (fun _ => ?_)
def haulageref12_One.T3 : Bool × List (List Nat × List Nat) := (true, [([], []), ([0], [0]), ([1], [1]), ([2], [2]), ([3], [3]), ([], []), ([5], [5]), ([4, 6], [4, 6]), ([7, 4, 0, 1, 2, 3, 4, 5, 6, 7], [7])])
def haulageref12_One.B3 : List Nat := [0, 1, 3, 7, 15, 0, 32, 127, 255]
theorem haulageref12_One.tab3 : rtab .any (opsOf Tryd.f58 3) = haulageref12_One.T3 := by kernel_rfl
theorem haulageref12_One.bits3 : waitsOk haulageref12_One.T3.2 haulageref12_One.B3 = true := by kernel_rfl
set_option maxHeartbeats 8000000 in
set_option maxRecDepth 100000 in
theorem haulageref12_One.calls (k : Nat) (a0_0 : Int) (a0_1 : Int) (a0_2 : ByteArray) (r : ByteArray) (w : World) (h : haulageref12_One.f k a0_0 a0_1 a0_2 = some r) :
  Calls Tryd.prog 58 #[.agg #[.int .i64 a0_0, .int .i64 a0_1, .string a0_2]] w fun e w' => e = .returned (.string r) ∧ Below w.heap.size w w' := by
 have hu52 := Tryd.underlying52
 have HB := aM (Below.refl w.heap.size w)
 have H : (if a0_0 < 3 then ((haulageref01_Zig.f a0_1).bind fun t293 => ((haulageref01_One.f k t293).bind fun t294 => (some t294))) else ((haulageref01_One.f k (IntKind.u64.wrap ((a0_2.size : Int)))).bind fun t295 => (if t295.size + a0_2.size ≤ 9223372036854775807 then (some (t295 ++ a0_2)) else (none)))) = some r := h
 clear h
 by_cases c2 : a0_0 < 3
 ·
  rw [if_pos c2] at H
  have c2b0 : decide (a0_0 < 3) = true := decide_eq_true c2
  clear c2
  replace H := Option.bind_eq_some_iff.mp H
  obtain ⟨t293, A30, H⟩ := H
  replace H : ((haulageref01_One.f k t293).bind fun t294 => (some t294)) = some r := H
  have A3 := aM A30
  clear A30
  replace H := Option.bind_eq_some_iff.mp H
  obtain ⟨t294, A40, H⟩ := H
  replace H : (some t294) = some r := H
  have A4 := aM A40
  clear A40
  obtain rfl := Option.some.inj H
  go_enter Tryd.func58, Tryd.ntmps58
  go_wp2_with (first | ((with_reducible refine gate_dst (N := 1) rfl ?_); refine yX (N := 1) (cs := #[.int .i64 a0_0, .int .i64 a0_1, .string a0_2]) (t := 52) ?_; intro gb292 hg w5 hbox hb; have BK292 := aM (hbox); have GW292 := yZ hg (yB HB); have GE292 := yZ hg (yB HB); replace HB := aM (bP (yB HB) hb); clear hb hbox hg; obtain ⟨hcz6_0, hcz6_1, hcz6_2, hfz6_0, hfz6_1, hfz6_2⟩ := cells3 BK292.out) | ((with_reducible refine gate_callee (f := 91) rfl ?_); refine yC 8 Tryd.func91 #[.int .i64 a0_1] rfl ?_; (with_reducible refine (haulageref01_Zig.calls a0_1 t293 _ A3.out).mono ?_); rintro e w' ⟨rfl, ⟨nd, rfl⟩⟩; refine ⟨_, rfl, ?_⟩) | ((with_reducible refine gate_callee (f := 90) rfl ?_); refine yC 9 Tryd.func90 #[.int .u64 t293] rfl ?_; (with_reducible refine (haulageref01_One.calls k t293 t294 _ A4.out).mono ?_); rintro e w7 ⟨rfl, hb⟩; refine ⟨_, rfl, ?_⟩; replace BK292 := aM (kB (yK BK292) hb); replace HB := aM (bP (yG1 HB GE292.out) hb); (try clear hb)))
  go_ret
  exact ⟨yE, yG1 HB GE292.out⟩
 ·
  rw [if_neg c2] at H
  have c2b0 : decide (a0_0 < 3) = false := decide_eq_false c2
  clear c2
  replace H := Option.bind_eq_some_iff.mp H
  obtain ⟨t295, A80, H⟩ := H
  replace H : (if t295.size + a0_2.size ≤ 9223372036854775807 then (some (t295 ++ a0_2)) else (none)) = some r := H
  have A8 := aM A80
  clear A80
  by_cases c9 : t295.size + a0_2.size ≤ 9223372036854775807
  ·
   rw [if_pos c9] at H
   have c9b0 := eq_true c9
   have c9b1 : decide (t295.size + a0_2.size ≤ 9223372036854775807) = true := decide_eq_true c9
   try have c9b2 : (9223372036854775807 < t295.size + a0_2.size) = False := eq_false (Nat.not_lt.2 c9)
   obtain rfl := Option.some.inj H
   go_enter Tryd.func58, Tryd.ntmps58
   try go_wp2_with (first | ((with_reducible refine gate_dst (N := 1) rfl ?_); refine yX (N := 1) (cs := #[.int .i64 a0_0, .int .i64 a0_1, .string a0_2]) (t := 52) ?_; intro gb292 hg w10 hbox hb; have BK292 := aM (hbox); have GW292 := yZ hg (yB HB); have GE292 := yZ hg (yB HB); replace HB := aM (bP (yB HB) hb); clear hb hbox hg; obtain ⟨hcz11_0, hcz11_1, hcz11_2, hfz11_0, hfz11_1, hfz11_2⟩ := cells3 BK292.out))
   have n0_ := aM (kD BK292.out)
   have n1_ := aM (b1 HB.out)
   clear BK292
   clear HB
   have BK292 := n0_
   have HB := n1_
   clear n0_ n1_
   refine start_ (n := 9) (S := fun w' => w'.cell? ⟨gb292, 0, none⟩ = some (.int .i64 a0_0) ∧ w'.cell? ⟨gb292, 1, none⟩ = some (.int .i64 a0_1) ∧ w'.cell? ⟨gb292, 2, none⟩ = some (.string a0_2)) (ds := []) (tB 0 9) (by kernel_rfl) rfl rfl (cellc3 BK292.out) (fun hHeld => ?_); refine with_tabW haulageref12_One.tab3 haulageref12_One.bits3 (fun HT_ HW_ => ?_)
   generalize w10.drew = w12 at BK292 HB hHeld ⊢
   refine yP HT_ 0 10 (tB 1 9) rfl rfl ?_
   refine yP HT_ 5 15 (tB 33 9) rfl rfl ?_
   refine yT HT_ HW_ 1 11 (tB 35 9) rfl rfl hHeld ?_
   refine yP HT_ 2 12 (tB 39 9) rfl rfl ?_
   refine yP HT_ 3 13 (tB 47 9) rfl rfl ?_
   refine yT HT_ HW_ 6 16 (tB 111 9) rfl rfl hHeld ?_
   refine yI HT_ 4 (tB 127 9) rfl rfl fun K hK => ?_
   refine yc Tryd.func90 #[.int .u64 (IntKind.u64.wrap ((a0_2.size : Int)))] rfl rfl ?_
   with_reducible refine (haulageref01_One.calls k (IntKind.u64.wrap ((a0_2.size : Int))) t295 _ A8.out).mono ?_
   rintro e w13 ⟨rfl, hb⟩
   refine ⟨_, rfl, ?_⟩
   have n0_ := aM (kB (yK BK292) hb)
   have n1_ := aM (bP (yG1 HB GE292.out) hb)
   clear BK292
   clear HB
   have BK292 := n0_
   have HB := n1_
   clear n0_ n1_
   (try clear hb)
   (try clear hb2)
   (try clear hk)
   (try clear hi)
   refine hK.out _ _ (cellc3 BK292.out) (fun hHeld => ?_)
   clear hK K
   refine norm_ (a' := ?_) ?_ ?_
   rotate_left
   ·
    show Act.put _ (some 14) _ = _
    simp only [Act.put, s1_, s2_, s3_, i64_w, i32_w]
    rfl
   refine yP HT_ 7 17 (tB 255 9) rfl rfl ?_
   refine yP HT_ 8 2 (tB 511 9) rfl rfl ?_
   refine done_ (done_of HT_.out (by kernel_rfl)) ?_
   try go_wp2
   go_ret
   exact ⟨yE, yG1 HB GE292.out⟩
  ·
   rw [if_neg c9] at H
   exact absurd H (by simp)
/-! ### haulageref12_Map: function 62 -/
mutual
def haulageref12_Map.l0 : Nat → List (S52) → ByteArray → Int → Option (ByteArray)
 | 0, _, _, _ => none
 | k + 1, x0, x3, x4 => if x4 < (x0.length : Int) then (haulageref12_Map.l1 k x0 x3 x4 0 1 x4) else (some x3)
def haulageref12_Map.l1 : Nat → List (S52) → ByteArray → Int → Int → Int → Int → Option (ByteArray)
 | 0, _, _, _, _, _, _ => none
 | k + 1, x0, x3, x4, x5, x6, x7 => if x7 < (wrap64 (x4 + 8)) then (haulageref12_Map.j2 k x0 x3 x4 x5 x6 x7 (decide (x7 < (x0.length : Int)))) else (haulageref12_Map.j2 k x0 x3 x4 x5 x6 x7 false)
def haulageref12_Map.j2 : Nat → List (S52) → ByteArray → Int → Int → Int → Int → Bool → Option (ByteArray)
 | 0, _, _, _, _, _, _, _ => none
 | k + 1, x0, x3, x4, x5, x6, x7, x24 => if x24 = true then (if 0 ≤ x7 then (if x7 < (x0.length : Int) then (if ((rd_T52 x0 x7).f0) = 0 then (haulageref12_Map.l1 k x0 x3 x4 (wrap64 (x5 + x6)) (wrap64 (2 * x6)) (wrap64 (x7 + 1))) else (haulageref12_Map.l1 k x0 x3 x4 x5 (wrap64 (2 * x6)) (wrap64 (x7 + 1)))) else (none)) else (none)) else ((some (([(x5) % 256] : List Int) : List Int)).bind fun y296 => (if x3.size + (strOfNums y296).size ≤ 9223372036854775807 then (haulageref12_Map.l0 k x0 (x3 ++ (strOfNums y296)) (wrap64 (x4 + 8))) else (none)))
end
def haulageref12_Map.f (k : Nat) (l0 : List (S52)) : Option (ByteArray) := haulageref12_Map.l0 k l0 (⟨#[]⟩ : ByteArray) 0
theorem haulageref12_Map.mono_l : ∀ k, (∀ y0 y1 y2, LeO (haulageref12_Map.l0 k y0 y1 y2) (haulageref12_Map.l0 (k + 1) y0 y1 y2)) ∧ (∀ y0 y1 y2 y3 y4 y5, LeO (haulageref12_Map.l1 k y0 y1 y2 y3 y4 y5) (haulageref12_Map.l1 (k + 1) y0 y1 y2 y3 y4 y5)) ∧ (∀ y0 y1 y2 y3 y4 y5 y6, LeO (haulageref12_Map.j2 k y0 y1 y2 y3 y4 y5 y6) (haulageref12_Map.j2 (k + 1) y0 y1 y2 y3 y4 y5 y6))
 | 0 => ⟨fun _ _ _ r h => by simp [haulageref12_Map.l0] at h, fun _ _ _ _ _ _ r h => by simp [haulageref12_Map.l1] at h, fun _ _ _ _ _ _ _ r h => by simp [haulageref12_Map.j2] at h⟩
 | k + 1 => by
  obtain ⟨ih0, ih1, ih2⟩ := haulageref12_Map.mono_l k
  refine ⟨?_, ?_, ?_⟩
  ·
   intro y0 y1 y2
   unfold haulageref12_Map.l0
   repeat' first
   | (with_reducible exact ih0 _ _ _)
   | (with_reducible exact ih1 _ _ _ _ _ _)
   | (with_reducible exact ih2 _ _ _ _ _ _ _)
   | (with_reducible exact LeO.refl _)
   | (with_reducible exact LeO.none _)
   | (with_reducible refine LeO.ite ?_ ?_)
   | (with_reducible refine LeO.bind ?_ (fun _ => ?_))
   | exact ih0 _ _ _
   | exact ih1 _ _ _ _ _ _
   | exact ih2 _ _ _ _ _ _ _
   | exact LeO.none _
   | refine LeO.ite ?_ ?_
   | refine LeO.bind ?_ (fun _ => ?_)
  ·
   intro y0 y1 y2 y3 y4 y5
   unfold haulageref12_Map.l1
   repeat' first
   | (with_reducible exact ih0 _ _ _)
   | (with_reducible exact ih1 _ _ _ _ _ _)
   | (with_reducible exact ih2 _ _ _ _ _ _ _)
   | (with_reducible exact LeO.refl _)
   | (with_reducible exact LeO.none _)
   | (with_reducible refine LeO.ite ?_ ?_)
   | (with_reducible refine LeO.bind ?_ (fun _ => ?_))
   | exact ih0 _ _ _
   | exact ih1 _ _ _ _ _ _
   | exact ih2 _ _ _ _ _ _ _
   | exact LeO.none _
   | refine LeO.ite ?_ ?_
   | refine LeO.bind ?_ (fun _ => ?_)
  ·
   intro y0 y1 y2 y3 y4 y5 y6
   unfold haulageref12_Map.j2
   repeat' first
   | (with_reducible exact ih0 _ _ _)
   | (with_reducible exact ih1 _ _ _ _ _ _)
   | (with_reducible exact ih2 _ _ _ _ _ _ _)
   | (with_reducible exact LeO.refl _)
   | (with_reducible exact LeO.none _)
   | (with_reducible refine LeO.ite ?_ ?_)
   | (with_reducible refine LeO.bind ?_ (fun _ => ?_))
   | exact ih0 _ _ _
   | exact ih1 _ _ _ _ _ _
   | exact ih2 _ _ _ _ _ _ _
   | exact LeO.none _
   | refine LeO.ite ?_ ?_
   | refine LeO.bind ?_ (fun _ => ?_)
theorem haulageref12_Map.mono : ∀ a0 k, LeO (haulageref12_Map.f k a0) (haulageref12_Map.f (k + 1) a0) := by
 intro a0 k
 obtain ⟨ih0, ih1, ih2⟩ := haulageref12_Map.mono_l k
 unfold haulageref12_Map.f
 repeat' first
   | (with_reducible exact ih0 _ _ _)
   | (with_reducible exact ih1 _ _ _ _ _ _)
   | (with_reducible exact ih2 _ _ _ _ _ _ _)
   | (with_reducible exact LeO.refl _)
   | (with_reducible exact LeO.none _)
   | (with_reducible refine LeO.ite ?_ ?_)
   | (with_reducible refine LeO.bind ?_ (fun _ => ?_))
   | exact ih0 _ _ _
   | exact ih1 _ _ _ _ _ _
   | exact ih2 _ _ _ _ _ _ _
   | exact LeO.none _
   | refine LeO.ite ?_ ?_
   | refine LeO.bind ?_ (fun _ => ?_)
set_option maxHeartbeats 8000000 in
set_option maxRecDepth 100000 in
theorem haulageref12_Map.calls (k : Nat) (A0 : Option Addr) (c0 : Nat) (l0 : List (S52)) (r : ByteArray) (w : World) (hr0 : Kd.C k52 w A0 l0.length l0) (hc0 : l0.length ≤ c0) (h : haulageref12_Map.f k l0 = some r) :
  Calls Tryd.prog 62 #[.slice A0 l0.length c0] w fun e w' => e = .returned (.string r) ∧ Below w.heap.size w w' := by
 have HR0 := aM hr0
 have HC0 := aM hc0
 clear hr0 hc0
 have HB := aM (Below.refl w.heap.size w)
 have H : (haulageref12_Map.l0 k l0 (⟨#[]⟩ : ByteArray) 0) = some r := h
 clear h
 have H' := aM H
 clear H
 go_enter Tryd.func62, Tryd.ntmps62
 go_wp2
 go_loopg [3, 4] k (fun kq v3 v4 w' => ∃ (x3_1 : ByteArray) (x4_1 : Int), v3 = .string x3_1 ∧ v4 = .int .i64 x4_1 ∧ Aside0 (haulageref12_Map.l0 kq l0 x3_1 x4_1 = some r) ∧ Aside0 (kq ≤ k) ∧ Aside0 (Below w.heap.size w w'))
 case atStart => exact ⟨((⟨#[]⟩ : ByteArray)), (0), yS, yS, H', ⟨Nat.le_refl _⟩, ⟨yB HB⟩⟩
 case round =>
  clear H'
  obtain ⟨x3_1, x4_1, rfl, rfl, HA, HK1, HB⟩ := hrel
  cases gk with
  | zero => exact absurd HA.out (by simp [haulageref12_Map.l0])
  | succ k1 =>
   have H := HA.out
   clear HA
   simp only [haulageref12_Map.l0] at H
   by_cases c2 : x4_1 < (l0.length : Int)
   ·
    rw [if_pos c2] at H
    have c2b0 : decide (x4_1 < (l0.length : Int)) = true := decide_eq_true c2
    clear c2
    have H' := aM H
    clear H
    go_wp2
    go_loopg [5, 6, 7] k1 (fun kq v5 v6 v7 w' => ∃ (x5_2 : Int) (x6_2 : Int) (x7_2 : Int), v5 = .int .i64 x5_2 ∧ v6 = .int .i64 x6_2 ∧ v7 = .int .i64 x7_2 ∧ Aside0 (haulageref12_Map.l1 kq l0 x3_1 x4_1 x5_2 x6_2 x7_2 = some r) ∧ Aside0 (kq ≤ k1) ∧ Aside0 (Below w.heap.size w w'))
    case atStart => exact ⟨(0), (1), (x4_1), yS, yS, yS, H', ⟨Nat.le_refl _⟩, ⟨yB HB⟩⟩
    case round =>
     clear H'
     try clear c2
     try clear c2b0
     try clear p2
     obtain ⟨x5_2, x6_2, x7_2, rfl, rfl, rfl, HA, HK2, HB⟩ := hrel
     cases gk with
     | zero => exact absurd HA.out (by simp [haulageref12_Map.l1])
     | succ k2 =>
      have H := HA.out
      clear HA
      simp only [haulageref12_Map.l1] at H
      have HC3 := aM H
      clear H
      go_upto_region 7 with (fail)
      go_cut [24] (fun v24 wc => ∃ (kq : Nat) (x24_2 : Bool), v24 = .bool x24_2 ∧ Aside0 (haulageref12_Map.j2 kq l0 x3_1 x4_1 x5_2 x6_2 x7_2 x24_2 = some r) ∧ Aside0 (kq ≤ k2) ∧ Aside0 (Below w.heap.size w wc))
      case first =>
       have H := HC3.out
       clear HC3
       by_cases c4 : x7_2 < (wrap64 (x4_1 + 8))
       ·
        rw [if_pos c4] at H
        have c4b0 : decide (x7_2 < (wrap64 (x4_1 + 8))) = true := decide_eq_true c4
        clear c4
        (first | rw [c4b0] | (simp only [i64_w, i32_w]; rw [c4b0]) | skip)
        have H' := aM H
        clear H
        go_wp2
        go_meet
        case rel => exact ⟨_, (decide (x7_2 < (l0.length : Int))), yS, H', ⟨by have := HK1.out; have := HK2.out; first | omega | exact Nat.le_refl _⟩, ⟨yB HB⟩⟩
       ·
        rw [if_neg c4] at H
        have c4b0 : decide (x7_2 < (wrap64 (x4_1 + 8))) = false := decide_eq_false c4
        clear c4
        (first | rw [c4b0] | (simp only [i64_w, i32_w]; rw [c4b0]) | skip)
        have H' := aM H
        clear H
        go_wp2
        go_meet
        case rel => exact ⟨_, (false), yS, H', ⟨by have := HK1.out; have := HK2.out; first | omega | exact Nat.le_refl _⟩, ⟨yB HB⟩⟩
      case rest =>
       clear HC3
       try clear c2
       try clear c2b0
       try clear p2
       try clear c4
       try clear c4b0
       try clear p2
       obtain ⟨kq, x24_2, rfl, HA, HJ2, HB⟩ := hcut
       cases kq with
       | zero => exact absurd HA.out (by simp [haulageref12_Map.j2])
       | succ kj2 =>
        have H := HA.out
        clear HA
        simp only [haulageref12_Map.j2] at H
        by_cases c5 : x24_2 = true
        ·
         subst c5
         have H1 : (if 0 ≤ x7_2 then (if x7_2 < (l0.length : Int) then (if ((rd_T52 l0 x7_2).f0) = 0 then (haulageref12_Map.l1 kj2 l0 x3_1 x4_1 (wrap64 (x5_2 + x6_2)) (wrap64 (2 * x6_2)) (wrap64 (x7_2 + 1))) else (haulageref12_Map.l1 kj2 l0 x3_1 x4_1 x5_2 (wrap64 (2 * x6_2)) (wrap64 (x7_2 + 1)))) else (none)) else (none)) = some r := by rw [if_pos rfl] at H; exact H
         clear H
         have H := H1
         clear H1
         by_cases c6 : 0 ≤ x7_2
         ·
          rw [if_pos c6] at H
          have c6b0 : decide (0 ≤ x7_2) = true := decide_eq_true c6
          clear c6
          by_cases c7 : x7_2 < (l0.length : Int)
          ·
           rw [if_pos c7] at H
           have c7b0 : decide (x7_2 < (l0.length : Int)) = true := decide_eq_true c7
           clear c7
           by_cases c8 : ((rd_T52 l0 x7_2).f0) = 0
           ·
            rw [if_pos c8] at H
            have c8b0 : (((rd_T52 l0 x7_2).f0) == 0) = true := beq_iff_eq.mpr c8
            have c8b1 : (((rd_T52 l0 x7_2).f0) != 0) = false := bne_eq_false_iff_eq.mpr c8
            clear c8
            have H' := aM H
            clear H
            have p299 : 0 ≤ (x7_2 : Int) := oD yA
            have q299 : x7_2 < (l0.length : Int) := oD yA
            obtain ⟨ad299, e299, hx299_0, hx299_1, hx299_2⟩ := at_T52 HR0.out x7_2 p299 q299
            cases e299
            replace hx299_0 := pw_cell_below HB.out hx299_0
            replace hx299_1 := pw_cell_below HB.out hx299_1
            replace hx299_2 := pw_cell_below HB.out hx299_2
            replace p299 := eq_true p299
            replace q299 := eq_true q299
            go_wp2
            go_roundg kj2
            case measure => have := HK1.out; have := HK2.out; have := HJ2.out; omega
            case rel => exact ⟨(wrap64 (x5_2 + x6_2)), (wrap64 (2 * x6_2)), (wrap64 (x7_2 + 1)), yS, yS, yS, H', ⟨by have := HK1.out; have := HK2.out; have := HJ2.out; omega⟩, ⟨yB HB⟩⟩
           ·
            rw [if_neg c8] at H
            have c8b0 : (((rd_T52 l0 x7_2).f0) == 0) = false := beq_eq_false_iff_ne.mpr c8
            have c8b1 : (((rd_T52 l0 x7_2).f0) != 0) = true := bne_iff_ne.mpr c8
            have H' := aM H
            clear H
            have p299 : 0 ≤ (x7_2 : Int) := oD yA
            have q299 : x7_2 < (l0.length : Int) := oD yA
            obtain ⟨ad299, e299, hx299_0, hx299_1, hx299_2⟩ := at_T52 HR0.out x7_2 p299 q299
            cases e299
            replace hx299_0 := pw_cell_below HB.out hx299_0
            replace hx299_1 := pw_cell_below HB.out hx299_1
            replace hx299_2 := pw_cell_below HB.out hx299_2
            replace p299 := eq_true p299
            replace q299 := eq_true q299
            go_wp2
            go_roundg kj2
            case measure => have := HK1.out; have := HK2.out; have := HJ2.out; omega
            case rel => exact ⟨(x5_2), (wrap64 (2 * x6_2)), (wrap64 (x7_2 + 1)), yS, yS, yS, H', ⟨by have := HK1.out; have := HK2.out; have := HJ2.out; omega⟩, ⟨yB HB⟩⟩
          ·
           rw [if_neg c7] at H
           exact absurd H (by simp)
         ·
          rw [if_neg c6] at H
          exact absurd H (by simp)
        ·
         replace c5 := Bool.eq_false_iff.mpr c5
         subst c5
         have H1 : ((some (([(x5_2) % 256] : List Int) : List Int)).bind fun y296 => (if x3_1.size + (strOfNums y296).size ≤ 9223372036854775807 then (haulageref12_Map.l0 kj2 l0 (x3_1 ++ (strOfNums y296)) (wrap64 (x4_1 + 8))) else (none))) = some r := by rw [if_neg (show ¬ (false = true) by decide)] at H; exact H
         clear H
         have H := H1
         clear H1
         obtain ⟨y296, hy296⟩ : ∃ y_ : List Int, y_ = (([(x5_2) % 256] : List Int)) := ⟨_, rfl⟩
         replace H : (if x3_1.size + (strOfNums y296).size ≤ 9223372036854775807 then (haulageref12_Map.l0 kj2 l0 (x3_1 ++ (strOfNums y296)) (wrap64 (x4_1 + 8))) else (none)) = some r := by first | (rw [hy296]; with_reducible exact H) | (have H2_ := (Option.bind_some _ _).symm.trans H; rw [hy296]; with_reducible exact H2_) | (have H2_ := (Option.bind_some _ _).symm.trans H; with_reducible exact H2_) | with_reducible exact H | (rw [hy296]; exact H) | exact H
         have Ny296 := aM hy296
         clear hy296
         by_cases c9 : x3_1.size + (strOfNums y296).size ≤ 9223372036854775807
         ·
          rw [if_pos c9] at H
          have c9b0 := eq_true c9
          have c9b1 : decide (x3_1.size + (strOfNums y296).size ≤ 9223372036854775807) = true := decide_eq_true c9
          try have c9b2 : (9223372036854775807 < x3_1.size + (strOfNums y296).size) = False := eq_false (Nat.not_lt.2 c9)
          have H' := aM H
          clear H
          go_wp2_with (first | ((with_reducible refine gate_dst (N := 41) rfl ?_); (try (refine gate_guard (by rfl) ?_; dsimp only)); refine Kd.R_lit (Kd.int .u8) _ 5 ?hg (N := 41) ?hd (xs := ([(x5_2) % 256] : List Int)) (inner := [.int .u8 ((x5_2) % 256)]) (ok := fun _ => True) (okp := fun _ => True) ?hr ?hp (fun _ hk => hk) trivial (Below.refl _ _) (Nat.le_refl _) (by simp) ?_; (case hd => rfl); (case hg => rfl); (case hr => first | (go_simp; done) | (go_simp; rfl)); (case hp => exact (Reps.one (show Kd.M (Kd.int .u8) _ _ _ ((x5_2) % 256) [.int .u8 ((x5_2) % 256)] from rfl) (Reps.none _ _))); intro v297 w10 ho11 hb hg_ hnew_; clear hg_ hnew_; (first | rw [← Ny296.out] at ho11 | (simp only [Int.reduceToNat] at ho11; rw [← Ny296.out] at ho11)); have HO298 := aM (Kd.R_lower ho11 (bZ (yB HB))); replace HB := aM (bP (yB HB) hb); clear hb ho11; have hcv12 := own_string (P := Tryd.prog) Tryd.underlying91 Tryd.underlying5 Tryd.underlying9 (Kd.own_of_R HO298.out)))
          go_roundg kj2
          case measure => have := HK1.out; have := HK2.out; have := HJ2.out; omega
          case rel => exact ⟨(x3_1 ++ (strOfNums y296)), (wrap64 (x4_1 + 8)), yS, yS, H', ⟨by have := HK1.out; have := HK2.out; have := HJ2.out; omega⟩, ⟨yB HB⟩⟩
         ·
          rw [if_neg c9] at H
          exact absurd H (by simp)
   ·
    rw [if_neg c2] at H
    have c2b0 : decide (x4_1 < (l0.length : Int)) = false := decide_eq_false c2
    clear c2
    obtain rfl := Option.some.inj H
    go_wp2
    go_ret
    exact ⟨yE, yB HB⟩
end Go.Proofs.YtdeophpjammbpaaDoor.HRowcodeEncodes

/- For Go functions that RowcodeKeys reaches: Lean functions, and walks that show that each call comes to what its Lean function tells; no condition but those that each theorem states. (Made by a program of this session over the kit's print.py.) -/
import Derived.Test.YtdeophpjammbpaaDoorHRowcodeKeysx0
namespace Go.Proofs.YtdeophpjammbpaaDoor.HRowcodeKeys
open Go.RowKit Go.Proofs.YtdeophpjammbpaaDoorW.PrintWords Go.Proofs.YtdeophpjammbpaaDoorW.PrintLast Go.Proofs.YtdeophpjammbpaaDoorW.PrintMore
attribute [local go_sem] max2_int min2_int max_two min_two max_three min_three max_four min_four   -- for this text's walks alone
set_option linter.unusedVariables false
set_option linter.unusedSimpArgs false
attribute [local go_sem] hp_s8 hp_s16 hp_s32 hp_s64 hp_m8 hp_m16 hp_m32 hp_m64
/-! ### haulageref01_One: function 90 -/
def haulageref01_One.f : Nat → Int → Option (ByteArray)
 | 0, _ => none
 | k + 1, a0 => if a0 < 128 then (some (strOfNums (([(a0) % 256] : List Int)))) else ((some (([(IntKind.u64.wrap ((Int.tmod a0 128) + 128)) % 256] : List Int) : List Int)).bind fun y352 => ((haulageref01_One.f k (IntKind.u64.wrap (Int.tdiv a0 128))).bind fun t355 => (if (strOfNums y352).size + t355.size ≤ 9223372036854775807 then (some ((strOfNums y352) ++ t355)) else (none))))
theorem haulageref01_One.mono_l : ∀ k, (∀ y0, LeO (haulageref01_One.f k y0) (haulageref01_One.f (k + 1) y0))
 | 0 => fun _ r h => by simp [haulageref01_One.f] at h
 | k + 1 => by
  have ih0 := haulageref01_One.mono_l k
  ·
   intro y0
   unfold haulageref01_One.f
   repeat' first
   | (with_reducible exact ih0 _)
   | (with_reducible exact LeO.refl _)
   | (with_reducible exact LeO.none _)
   | (with_reducible refine LeO.ite ?_ ?_)
   | (with_reducible refine LeO.bind ?_ (fun _ => ?_))
   | exact ih0 _
   | exact LeO.none _
   | refine LeO.ite ?_ ?_
   | refine LeO.bind ?_ (fun _ => ?_)
theorem haulageref01_One.mono : ∀ a0 k, LeO (haulageref01_One.f k a0) (haulageref01_One.f (k + 1) a0) := by
 intro a0 k
 have ih0 := haulageref01_One.mono_l k
 exact ih0 a0
def haulageref01_One.T3 : Bool × List (List Nat × List Nat) := (true, [([], []), ([0], [0]), ([1], [1]), ([2], [2]), ([3], [3]), ([4], [4]), ([], []), ([6], [6]), ([7], [7]), ([5, 8], [5, 8]), ([9, 8, 0, 1, 2, 3, 4, 5, 6, 7, 8, 9], [9])])
def haulageref01_One.B3 : List Nat := [0, 1, 3, 7, 15, 31, 0, 64, 192, 511, 1023]
theorem haulageref01_One.tab3 : rtab .any (opsOf Tryd.f90 3) = haulageref01_One.T3 := by kernel_rfl
theorem haulageref01_One.bits3 : waitsOk haulageref01_One.T3.2 haulageref01_One.B3 = true := by kernel_rfl
set_option maxHeartbeats 8000000 in
set_option maxRecDepth 100000 in
theorem haulageref01_One.calls (k : Nat) : ∀ (a0 : Int) (r : ByteArray) (w : World) (h : haulageref01_One.f k a0 = some r),
  Calls Tryd.prog 90 #[.int .u64 a0] w fun e w' => e = .returned (.string r) ∧ Below w.heap.size w w' := by
 induction k using Nat.strongRecOn with
 | _ k ih =>
 intro a0 r w h
 cases k with
 | zero => exact absurd h (by simp [haulageref01_One.f])
 | succ k =>
 simp only [haulageref01_One.f] at h
 have HB := aM (Below.refl w.heap.size w)
 have H : (if a0 < 128 then (some (strOfNums (([(a0) % 256] : List Int)))) else ((some (([(IntKind.u64.wrap ((Int.tmod a0 128) + 128)) % 256] : List Int) : List Int)).bind fun y352 => ((haulageref01_One.f k (IntKind.u64.wrap (Int.tdiv a0 128))).bind fun t355 => (if (strOfNums y352).size + t355.size ≤ 9223372036854775807 then (some ((strOfNums y352) ++ t355)) else (none))))) = some r := h
 clear h
 by_cases c2 : a0 < 128
 ·
  rw [if_pos c2] at H
  have c2b0 : decide (a0 < 128) = true := decide_eq_true c2
  clear c2
  obtain ⟨y349, hy349⟩ : ∃ y_ : List Int, y_ = (([(a0) % 256] : List Int)) := ⟨_, rfl⟩
  replace H : (some (strOfNums y349)) = some r := by first | (rw [hy349]; with_reducible exact H) | (have H2_ := (Option.bind_some _ _).symm.trans H; rw [hy349]; with_reducible exact H2_) | (have H2_ := (Option.bind_some _ _).symm.trans H; with_reducible exact H2_) | with_reducible exact H | (rw [hy349]; exact H) | exact H
  have Ny349 := aM hy349
  clear hy349
  obtain rfl := Option.some.inj H
  go_enter Tryd.func90, Tryd.ntmps90
  go_wp2_with (first | ((with_reducible refine gate_dst (N := 7) rfl ?_); refine Kd.R_lit (Kd.int .u8) _ 5 ?hg (N := 7) ?hd (xs := ([(a0) % 256] : List Int)) (inner := [.int .u8 ((a0) % 256)]) (ok := fun _ => True) (okp := fun _ => True) ?hr ?hp (fun _ hk => hk) trivial (Below.refl _ _) (Nat.le_refl _) (by simp) ?_; (case hd => rfl); (case hg => rfl); (case hr => first | (go_simp; done) | (go_simp; rfl)); (case hp => exact (Reps.one (show Kd.M (Kd.int .u8) _ _ _ ((a0) % 256) [.int .u8 ((a0) % 256)] from rfl) (Reps.none _ _))); intro v350 w3 ho4 hb hg_ hnew_; clear hg_ hnew_; (first | rw [← Ny349.out] at ho4 | (simp only [Int.reduceToNat] at ho4; rw [← Ny349.out] at ho4)); have HO351 := aM (Kd.R_lower ho4 (bZ (yB HB))); replace HB := aM (bP (yB HB) hb); clear hb ho4; have hcv5 := own_string (P := Tryd.prog) Tryd.underlying91 Tryd.underlying5 Tryd.underlying9 (Kd.own_of_R HO351.out)))
  go_ret
  exact ⟨yE, yB HB⟩
 ·
  rw [if_neg c2] at H
  have c2b0 : decide (a0 < 128) = false := decide_eq_false c2
  clear c2
  obtain ⟨y352, hy352⟩ : ∃ y_ : List Int, y_ = (([(IntKind.u64.wrap ((Int.tmod a0 128) + 128)) % 256] : List Int)) := ⟨_, rfl⟩
  replace H : ((haulageref01_One.f k (IntKind.u64.wrap (Int.tdiv a0 128))).bind fun t355 => (if (strOfNums y352).size + t355.size ≤ 9223372036854775807 then (some ((strOfNums y352) ++ t355)) else (none))) = some r := by first | (rw [hy352]; with_reducible exact H) | (have H2_ := (Option.bind_some _ _).symm.trans H; rw [hy352]; with_reducible exact H2_) | (have H2_ := (Option.bind_some _ _).symm.trans H; with_reducible exact H2_) | with_reducible exact H | (rw [hy352]; exact H) | exact H
  have Ny352 := aM hy352
  clear hy352
  obtain ⟨t355, A6, H⟩ := yb H
  by_cases c7 : (strOfNums y352).size + t355.size ≤ 9223372036854775807
  ·
   rw [if_pos c7] at H
   have c7b0 := eq_true c7
   have c7b1 : decide ((strOfNums y352).size + t355.size ≤ 9223372036854775807) = true := decide_eq_true c7
   try have c7b2 : (9223372036854775807 < (strOfNums y352).size + t355.size) = False := eq_false (Nat.not_lt.2 c7)
   obtain rfl := Option.some.inj H
   go_enter Tryd.func90, Tryd.ntmps90
   try go_wp2
   have n0_ := aM (b1 HB.out)
   clear HB
   have HB := n0_
   clear n0_
   refine start_ (n := 11) (S := fun w' => True) (ds := []) (tB 0 11) (by kernel_rfl) rfl rfl trivial (fun hHeld => ?_); refine with_tabW haulageref01_One.tab3 haulageref01_One.bits3 (fun HT_ HW_ => ?_)
   generalize w.drew = w8 at HB hHeld ⊢
   refine yP HT_ 0 9 (tB 1 11) rfl rfl ?_
   refine yP HT_ 1 10 (tB 3 11) rfl rfl ?_
   refine yP HT_ 2 11 (tB 7 11) rfl rfl ?_
   refine yP HT_ 3 12 (tB 15 11) rfl rfl ?_
   refine yP HT_ 6 15 (tB 79 11) rfl rfl ?_
   refine yP HT_ 7 16 (tB 207 11) rfl rfl ?_
   refine join_ (σ := Value) 2 #[true, true, true, true, true, true, true, true, true, false, false] (fun s_ => [(13, s_), (14, .string (strOfNums y352)), (17, .string t355)]) (fun s_ w' => (Kd.R (Kd.int .u8) 5 w' w.heap.size (fun _ => True) s_ y352) ∧ (Below w.heap.size w w')) ?_ ?_
   rotate_left
   ·
    intro hCont
    refine two_ (i := 4) (j := 8) (Ni := some 13) (Nj := some 17) (tB 223 11) (tB 463 11) rfl rfl rfl rfl (two_of HT_.out (by kernel_rfl)) (by decide) (by decide) (fun K hK => ?_) (fun K hK => ?_)
    ·
     skip
     refine Kd.R_lit_step (Kd.int .u8) _ 5 ?hg (N := 13) ?hd (xs := ([(IntKind.u64.wrap ((Int.tmod a0 128) + 128)) % 256] : List Int)) (inner := [.int .u8 ((IntKind.u64.wrap ((Int.tmod a0 128) + 128)) % 256)]) (ok := fun _ => True) (okp := fun _ => True) ?hr ?hp (fun _ hk => hk) trivial (Below.refl _ _) (Nat.le_refl _) (by simp) ?_; (case hd => rfl); (case hg => rfl); (case hr => first | (go_simp; done) | (go_simp; rfl)); (case hp => exact (Reps.one (show Kd.M (Kd.int .u8) _ _ _ ((IntKind.u64.wrap ((Int.tmod a0 128) + 128)) % 256) [.int .u8 ((IntKind.u64.wrap ((Int.tmod a0 128) + 128)) % 256)] from rfl) (Reps.none _ _)))
     intro v353 w9 ho10 hb hg_ hnew_
     clear hg_ hnew_
     (first | rw [← Ny352.out] at ho10 | (simp only [Int.reduceToNat] at ho10; rw [← Ny352.out] at ho10))
     have n0_ := aM (Kd.R_lower ho10 (bZ (yB HB)))
     have n1_ := aM (bP (yB HB) hb)
     clear HB
     have HO354 := n0_
     have HB := n1_
     clear n0_ n1_
     clear hb ho10
     refine hK.out _ _ trivial (fun hHeld => ?_)
     clear hK K
     refine norm_ (a' := ?_) ?_ ?_
     rotate_left
     ·
      show Act.put _ (some 13) _ = _
      simp only [Act.put, s1_, s2_, s3_, i64_w, i32_w]
      rfl
     refine two_ (i := 5) (j := 8) (Ni := some 14) (Nj := some 17) (tB 255 11) (tB 479 11) rfl rfl rfl rfl (two_of HT_.out (by kernel_rfl)) (by decide) (by decide) (fun K hK => ?_) (fun K hK => ?_)
     ·
      skip
      have hcv11 := own_string (P := Tryd.prog) Tryd.underlying91 Tryd.underlying5 Tryd.underlying9 (Kd.own_of_R HO354.out)
      refine value_ (w1 := ?_) (v := ?_) (by rfl) rfl ?_ ?_
      rotate_left 2
      ·
       go_simp
       constructor
       ·
        rfl
       ·
        rfl
      clear hcv11
      refine hK.out _ _ trivial (fun hHeld => ?_)
      clear hK K
      refine norm_ (a' := ?_) ?_ ?_
      rotate_left
      ·
       show Act.put _ (some 14) _ = _
       simp only [Act.put, s1_, s2_, s3_, i64_w, i32_w]
       rfl
      refine yI HT_ 8 (tB 511 11) rfl rfl fun K hK => ?_
      refine yc Tryd.func90 #[.int .u64 (IntKind.u64.wrap (Int.tdiv a0 128))] rfl rfl ?_
      with_reducible refine (ih k (by omega) (IntKind.u64.wrap (Int.tdiv a0 128)) t355 _ A6.out).mono ?_
      rintro e w12 ⟨rfl, hb⟩
      refine ⟨_, rfl, ?_⟩
      have n0_ := aM (Kd.R_below (yR HO354.out) hb)
      have n1_ := aM (bP (yB HB) hb)
      clear HO354
      clear HB
      have HO354 := n0_
      have HB := n1_
      clear n0_ n1_
      (try clear hb)
      (try clear hb2)
      (try clear hk)
      (try clear hi)
      refine hK.out _ _ trivial (fun hHeld => ?_)
      clear hK K
      refine norm_ (a' := ?_) ?_ ?_
      rotate_left
      ·
       show Act.put _ (some 17) _ = _
       simp only [Act.put, s1_, s2_, s3_, i64_w, i32_w]
       rfl
      exact norm_ (by simp only [putAll, Act.put, s1_, s2_, s3_]) (hCont (v353) _ ⟨(yR HO354.out), (yB HB)⟩)
     ·
      skip
      refine yc Tryd.func90 #[.int .u64 (IntKind.u64.wrap (Int.tdiv a0 128))] rfl rfl ?_
      with_reducible refine (ih k (by omega) (IntKind.u64.wrap (Int.tdiv a0 128)) t355 _ A6.out).mono ?_
      rintro e w11 ⟨rfl, hb⟩
      refine ⟨_, rfl, ?_⟩
      have n0_ := aM (Kd.R_below (yR HO354.out) hb)
      have n1_ := aM (bP (yB HB) hb)
      clear HO354
      clear HB
      have HO354 := n0_
      have HB := n1_
      clear n0_ n1_
      (try clear hb)
      (try clear hb2)
      (try clear hk)
      (try clear hi)
      refine hK.out _ _ trivial (fun hHeld => ?_)
      clear hK K
      refine norm_ (a' := ?_) ?_ ?_
      rotate_left
      ·
       show Act.put _ (some 17) _ = _
       simp only [Act.put, s1_, s2_, s3_, i64_w, i32_w]
       rfl
      refine yI HT_ 5 (tB 511 11) rfl rfl fun K hK => ?_
      have hcv12 := own_string (P := Tryd.prog) Tryd.underlying91 Tryd.underlying5 Tryd.underlying9 (Kd.own_of_R HO354.out)
      refine value_ (w1 := ?_) (v := ?_) (by rfl) rfl ?_ ?_
      rotate_left 2
      ·
       go_simp
       constructor
       ·
        rfl
       ·
        rfl
      clear hcv12
      refine hK.out _ _ trivial (fun hHeld => ?_)
      clear hK K
      refine norm_ (a' := ?_) ?_ ?_
      rotate_left
      ·
       show Act.put _ (some 14) _ = _
       simp only [Act.put, s1_, s2_, s3_, i64_w, i32_w]
       rfl
      exact norm_ (by simp only [putAll, Act.put, s1_, s2_, s3_]) (hCont (v353) _ ⟨(yR HO354.out), (yB HB)⟩)
    ·
     skip
     refine yc Tryd.func90 #[.int .u64 (IntKind.u64.wrap (Int.tdiv a0 128))] rfl rfl ?_
     with_reducible refine (ih k (by omega) (IntKind.u64.wrap (Int.tdiv a0 128)) t355 _ A6.out).mono ?_
     rintro e w9 ⟨rfl, hb⟩
     refine ⟨_, rfl, ?_⟩
     have n0_ := aM (bP (yB HB) hb)
     clear HB
     have HB := n0_
     clear n0_
     (try clear hb)
     (try clear hb2)
     (try clear hk)
     (try clear hi)
     refine hK.out _ _ trivial (fun hHeld => ?_)
     clear hK K
     refine norm_ (a' := ?_) ?_ ?_
     rotate_left
     ·
      show Act.put _ (some 17) _ = _
      simp only [Act.put, s1_, s2_, s3_, i64_w, i32_w]
      rfl
     refine yI HT_ 4 (tB 479 11) rfl rfl fun K hK => ?_
     refine Kd.R_lit_step (Kd.int .u8) _ 5 ?hg (N := 13) ?hd (xs := ([(IntKind.u64.wrap ((Int.tmod a0 128) + 128)) % 256] : List Int)) (inner := [.int .u8 ((IntKind.u64.wrap ((Int.tmod a0 128) + 128)) % 256)]) (ok := fun _ => True) (okp := fun _ => True) ?hr ?hp (fun _ hk => hk) trivial (Below.refl _ _) (Nat.le_refl _) (by simp) ?_; (case hd => rfl); (case hg => rfl); (case hr => first | (go_simp; done) | (go_simp; rfl)); (case hp => exact (Reps.one (show Kd.M (Kd.int .u8) _ _ _ ((IntKind.u64.wrap ((Int.tmod a0 128) + 128)) % 256) [.int .u8 ((IntKind.u64.wrap ((Int.tmod a0 128) + 128)) % 256)] from rfl) (Reps.none _ _)))
     intro v353 w10 ho11 hb hg_ hnew_
     clear hg_ hnew_
     (first | rw [← Ny352.out] at ho11 | (simp only [Int.reduceToNat] at ho11; rw [← Ny352.out] at ho11))
     have n0_ := aM (Kd.R_lower ho11 (bZ (yB HB)))
     have n1_ := aM (bP (yB HB) hb)
     clear HB
     have HO354 := n0_
     have HB := n1_
     clear n0_ n1_
     clear hb ho11
     refine hK.out _ _ trivial (fun hHeld => ?_)
     clear hK K
     refine norm_ (a' := ?_) ?_ ?_
     rotate_left
     ·
      show Act.put _ (some 13) _ = _
      simp only [Act.put, s1_, s2_, s3_, i64_w, i32_w]
      rfl
     refine yI HT_ 5 (tB 511 11) rfl rfl fun K hK => ?_
     have hcv12 := own_string (P := Tryd.prog) Tryd.underlying91 Tryd.underlying5 Tryd.underlying9 (Kd.own_of_R HO354.out)
     refine value_ (w1 := ?_) (v := ?_) (by rfl) rfl ?_ ?_
     rotate_left 2
     ·
      go_simp
      constructor
      ·
       rfl
      ·
       rfl
     clear hcv12
     refine hK.out _ _ trivial (fun hHeld => ?_)
     clear hK K
     refine norm_ (a' := ?_) ?_ ?_
     rotate_left
     ·
      show Act.put _ (some 14) _ = _
      simp only [Act.put, s1_, s2_, s3_, i64_w, i32_w]
      rfl
     exact norm_ (by simp only [putAll, Act.put, s1_, s2_, s3_]) (hCont (v353) _ ⟨(yR HO354.out), (yB HB)⟩)
   rintro v353 w13 ⟨h0_, h1_⟩
   have n0_ : Aside0 (Kd.R (Kd.int .u8) 5 w13 w.heap.size (fun _ => True) v353 y352) := ⟨h0_⟩
   have n1_ : Aside0 (Below w.heap.size w w13) := ⟨h1_⟩
   clear HB
   clear h0_ h1_
   have HO354 := n0_
   have HB := n1_
   clear n0_ n1_
   have hHeld := trivial
   refine norm_ (a' := ?_) ?_ ?_
   rotate_left
   ·
    simp only [putAll, Act.put, s1_, s2_, s3_]
    rfl
   refine yP HT_ 9 18 (tB 1023 11) rfl rfl ?_
   refine yP HT_ 10 2 (tB 2047 11) rfl rfl ?_
   refine done_ (done_of HT_.out (by kernel_rfl)) ?_
   try go_wp2
   go_ret
   exact ⟨yE, yB HB⟩
  ·
   rw [if_neg c7] at H
   exact absurd H (by simp)
/-! ### haulageref01_Zig: function 91 -/
def haulageref01_Zig.f (a0 : Int) : Option (Int) := if a0 ≥ 0 then (some (IntKind.u64.wrap (2 * (IntKind.u64.wrap (a0))))) else (some (IntKind.u64.wrap ((IntKind.u64.wrap (2 * (IntKind.u64.wrap (wrap64 ((-1) - a0))))) + 1)))
set_option maxHeartbeats 8000000 in
set_option maxRecDepth 100000 in
theorem haulageref01_Zig.calls (a0 : Int) (r : Int) (w : World) (h : haulageref01_Zig.f a0 = some r) :
  Calls Tryd.prog 91 #[.int .i64 a0] w fun e w' => e = .returned (.int .u64 r) ∧ Drawn0 w w' := by
 have H : (if a0 ≥ 0 then (some (IntKind.u64.wrap (2 * (IntKind.u64.wrap (a0))))) else (some (IntKind.u64.wrap ((IntKind.u64.wrap (2 * (IntKind.u64.wrap (wrap64 ((-1) - a0))))) + 1)))) = some r := h
 clear h
 by_cases c2 : a0 ≥ 0
 ·
  rw [if_pos c2] at H
  have c2b0 : decide (0 ≤ a0) = true := decide_eq_true c2
  clear c2
  obtain rfl := Option.some.inj H
  go_enter Tryd.func91, Tryd.ntmps91
  go_wp2
  go_ret
  exact ⟨yS, yD⟩
 ·
  rw [if_neg c2] at H
  have c2b0 : decide (0 ≤ a0) = false := decide_eq_false c2
  clear c2
  obtain rfl := Option.some.inj H
  go_enter Tryd.func91, Tryd.ntmps91
  go_wp2
  go_ret
  exact ⟨yS, yD⟩
/-! ### haulageref12_One: function 58 -/
def haulageref12_One.f (k : Nat) (a0_0 : Int) (a0_1 : Int) (a0_2 : ByteArray) : Option (ByteArray) := if a0_0 < 3 then ((haulageref01_Zig.f a0_1).bind fun t357 => ((haulageref01_One.f k t357).bind fun t358 => (some t358))) else ((haulageref01_One.f k (IntKind.u64.wrap ((a0_2.size : Int)))).bind fun t359 => (if t359.size + a0_2.size ≤ 9223372036854775807 then (some (t359 ++ a0_2)) else (none)))
theorem haulageref12_One.mono : ∀ a0 a1 a2 k, LeO (haulageref12_One.f k a0 a1 a2) (haulageref12_One.f (k + 1) a0 a1 a2) := by
 intro a0 a1 a2 k
 unfold haulageref12_One.f
 repeat' first | with_reducible (first | exact haulageref01_One.mono .. | exact LeO.refl .. | exact LeO.none .. | refine LeO.ite ?_ ?_ | refine LeO.bind ?_ (fun _ => ?_)) | exact haulageref01_One.mono .. | exact LeO.none .. | refine LeO.ite ?_ ?_ | refine LeO.bind ?_ (fun _ => ?_)
def haulageref12_One.T3 : Bool × List (List Nat × List Nat) := (true, [([], []), ([0], [0]), ([1], [1]), ([2], [2]), ([3], [3]), ([], []), ([5], [5]), ([4, 6], [4, 6]), ([7, 4, 0, 1, 2, 3, 4, 5, 6, 7], [7])])
def haulageref12_One.B3 : List Nat := [0, 1, 3, 7, 15, 0, 32, 127, 255]
theorem haulageref12_One.tab3 : rtab .any (opsOf Tryd.f58 3) = haulageref12_One.T3 := by kernel_rfl
theorem haulageref12_One.bits3 : waitsOk haulageref12_One.T3.2 haulageref12_One.B3 = true := by kernel_rfl
set_option maxHeartbeats 8000000 in
set_option maxRecDepth 100000 in
theorem haulageref12_One.calls (k : Nat) (a0_0 : Int) (a0_1 : Int) (a0_2 : ByteArray) (r : ByteArray) (w : World) (h : haulageref12_One.f k a0_0 a0_1 a0_2 = some r) :
  Calls Tryd.prog 58 #[.agg #[.int .i64 a0_0, .int .i64 a0_1, .string a0_2]] w fun e w' => e = .returned (.string r) ∧ Below w.heap.size w w' := by
 have hu52 := Tryd.underlying52
 have HB := aM (Below.refl w.heap.size w)
 have H : (if a0_0 < 3 then ((haulageref01_Zig.f a0_1).bind fun t357 => ((haulageref01_One.f k t357).bind fun t358 => (some t358))) else ((haulageref01_One.f k (IntKind.u64.wrap ((a0_2.size : Int)))).bind fun t359 => (if t359.size + a0_2.size ≤ 9223372036854775807 then (some (t359 ++ a0_2)) else (none)))) = some r := h
 clear h
 by_cases c2 : a0_0 < 3
 ·
  rw [if_pos c2] at H
  have c2b0 : decide (a0_0 < 3) = true := decide_eq_true c2
  clear c2
  obtain ⟨t357, A3, H⟩ := yb H
  obtain ⟨t358, A4, H⟩ := yb H
  obtain rfl := Option.some.inj H
  go_enter Tryd.func58, Tryd.ntmps58
  go_wp2_with (first | ((with_reducible refine gate_dst (N := 1) rfl ?_); refine yX (N := 1) (cs := #[.int .i64 a0_0, .int .i64 a0_1, .string a0_2]) (t := 52) ?_; intro gb356 hg w5 hbox hb; have BK356 := aM (hbox); have GW356 := yZ hg (yB HB); have GE356 := yZ hg (yB HB); replace HB := aM (bP (yB HB) hb); clear hb hbox hg; obtain ⟨hcz6_0, hcz6_1, hcz6_2, hfz6_0, hfz6_1, hfz6_2⟩ := cells3 BK356.out) | ((with_reducible refine gate_callee (f := 91) rfl ?_); refine yC 8 Tryd.func91 #[.int .i64 a0_1] rfl ?_; (with_reducible refine (haulageref01_Zig.calls a0_1 t357 _ A3.out).mono ?_); rintro e w' ⟨rfl, ⟨nd, rfl⟩⟩; refine ⟨_, rfl, ?_⟩) | ((with_reducible refine gate_callee (f := 90) rfl ?_); refine yC 9 Tryd.func90 #[.int .u64 t357] rfl ?_; (with_reducible refine (haulageref01_One.calls k t357 t358 _ A4.out).mono ?_); rintro e w7 ⟨rfl, hb⟩; refine ⟨_, rfl, ?_⟩; replace BK356 := aM (kB (yK BK356) hb); replace HB := aM (bP (yG1 HB GE356.out) hb); (try clear hb)))
  go_ret
  exact ⟨yE, yG1 HB GE356.out⟩
 ·
  rw [if_neg c2] at H
  have c2b0 : decide (a0_0 < 3) = false := decide_eq_false c2
  clear c2
  obtain ⟨t359, A8, H⟩ := yb H
  by_cases c9 : t359.size + a0_2.size ≤ 9223372036854775807
  ·
   rw [if_pos c9] at H
   have c9b0 := eq_true c9
   have c9b1 : decide (t359.size + a0_2.size ≤ 9223372036854775807) = true := decide_eq_true c9
   try have c9b2 : (9223372036854775807 < t359.size + a0_2.size) = False := eq_false (Nat.not_lt.2 c9)
   obtain rfl := Option.some.inj H
   go_enter Tryd.func58, Tryd.ntmps58
   try go_wp2_with (first | ((with_reducible refine gate_dst (N := 1) rfl ?_); refine yX (N := 1) (cs := #[.int .i64 a0_0, .int .i64 a0_1, .string a0_2]) (t := 52) ?_; intro gb356 hg w10 hbox hb; have BK356 := aM (hbox); have GW356 := yZ hg (yB HB); have GE356 := yZ hg (yB HB); replace HB := aM (bP (yB HB) hb); clear hb hbox hg; obtain ⟨hcz11_0, hcz11_1, hcz11_2, hfz11_0, hfz11_1, hfz11_2⟩ := cells3 BK356.out))
   have n0_ := aM (kD BK356.out)
   have n1_ := aM (b1 HB.out)
   clear BK356
   clear HB
   have BK356 := n0_
   have HB := n1_
   clear n0_ n1_
   refine start_ (n := 9) (S := fun w' => w'.cell? ⟨gb356, 0, none⟩ = some (.int .i64 a0_0) ∧ w'.cell? ⟨gb356, 1, none⟩ = some (.int .i64 a0_1) ∧ w'.cell? ⟨gb356, 2, none⟩ = some (.string a0_2)) (ds := []) (tB 0 9) (by kernel_rfl) rfl rfl (cellc3 BK356.out) (fun hHeld => ?_); refine with_tabW haulageref12_One.tab3 haulageref12_One.bits3 (fun HT_ HW_ => ?_)
   generalize w10.drew = w12 at BK356 HB hHeld ⊢
   refine yP HT_ 0 10 (tB 1 9) rfl rfl ?_
   refine yP HT_ 5 15 (tB 33 9) rfl rfl ?_
   refine yT HT_ HW_ 1 11 (tB 35 9) rfl rfl hHeld ?_
   refine yP HT_ 2 12 (tB 39 9) rfl rfl ?_
   refine yP HT_ 3 13 (tB 47 9) rfl rfl ?_
   refine yT HT_ HW_ 6 16 (tB 111 9) rfl rfl hHeld ?_
   refine yI HT_ 4 (tB 127 9) rfl rfl fun K hK => ?_
   refine yc Tryd.func90 #[.int .u64 (IntKind.u64.wrap ((a0_2.size : Int)))] rfl rfl ?_
   with_reducible refine (haulageref01_One.calls k (IntKind.u64.wrap ((a0_2.size : Int))) t359 _ A8.out).mono ?_
   rintro e w13 ⟨rfl, hb⟩
   refine ⟨_, rfl, ?_⟩
   have n0_ := aM (kB (yK BK356) hb)
   have n1_ := aM (bP (yG1 HB GE356.out) hb)
   clear BK356
   clear HB
   have BK356 := n0_
   have HB := n1_
   clear n0_ n1_
   (try clear hb)
   (try clear hb2)
   (try clear hk)
   (try clear hi)
   refine hK.out _ _ (cellc3 BK356.out) (fun hHeld => ?_)
   clear hK K
   refine norm_ (a' := ?_) ?_ ?_
   rotate_left
   ·
    show Act.put _ (some 14) _ = _
    simp only [Act.put, s1_, s2_, s3_, i64_w, i32_w]
    rfl
   refine yP HT_ 7 17 (tB 255 9) rfl rfl ?_
   refine yP HT_ 8 2 (tB 511 9) rfl rfl ?_
   refine done_ (done_of HT_.out (by kernel_rfl)) ?_
   try go_wp2
   go_ret
   exact ⟨yE, yG1 HB GE356.out⟩
  ·
   rw [if_neg c9] at H
   exact absurd H (by simp)
end Go.Proofs.YtdeophpjammbpaaDoor.HRowcodeKeys

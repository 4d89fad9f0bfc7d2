/- For Go functions that SchemaSets reaches: Lean functions, and walks that show that each call comes to what its Lean function tells; no condition but those that each theorem states. (Made by a program of this session over the kit's print.py.) -/
import Derived.Test.YtdeophpjammbpaaDoorHSchemaSetsx0
import Derived.Test.YtdeophpjammbpaaDoorHSchemaSetsx15
import Derived.Test.YtdeophpjammbpaaDoorHSchemaSetsx17
namespace Go.Proofs.YtdeophpjammbpaaDoor.HSchemaSets
open Go.RowKit Go.Proofs.YtdeophpjammbpaaDoorW.PrintWords Go.Proofs.YtdeophpjammbpaaDoorW.PrintLast Go.Proofs.YtdeophpjammbpaaDoorW.PrintMore
attribute [local go_sem] max2_int min2_int max_two min_two max_three min_three max_four min_four   -- for this text's walks alone
set_option linter.unusedVariables false
set_option linter.unusedSimpArgs false
attribute [local go_sem] hp_s8 hp_s16 hp_s32 hp_s64 hp_m8 hp_m16 hp_m32 hp_m64
/-! ### haulageref08_fields: function 65 -/
mutual
def haulageref08_fields.l0 : Nat → List (S96) → Bool → Int → Int → ByteArray → Int → Int → List (S54) → Option (Int)
 | 0, _, _, _, _, _, _, _, _ => none
 | k + 1, x1, x2, x7, x315000, x315001, x315002, x315003, x315004 => if x7 < (x1.length : Int) then (if 0 ≤ x7 then ((haulageref08_Col.f k x315000 x315001 x315002 x315003 x315004 ((rd_T96 x1 x7).f0)).bind fun t316 => (if t316 < 0 then (some 13) else (haulageref08_fields.l1 k x1 x2 x7 0 x315000 x315001 x315002 x315003 x315004))) else (none)) else (some 0)
def haulageref08_fields.l1 : Nat → List (S96) → Bool → Int → Int → Int → ByteArray → Int → Int → List (S54) → Option (Int)
 | 0, _, _, _, _, _, _, _, _, _ => none
 | k + 1, x1, x2, x7, x8, x315000, x315001, x315002, x315003, x315004 => if x8 < x7 then (if 0 ≤ x8 then (if x8 < (x1.length : Int) then (if 0 ≤ x7 then (if x7 < (x1.length : Int) then (if ((rd_T96 x1 x8).f0).toList = ((rd_T96 x1 x7).f0).toList then (some 14) else (haulageref08_fields.l1 k x1 x2 x7 (wrap64 (x8 + 1)) x315000 x315001 x315002 x315003 x315004)) else (none)) else (none)) else (none)) else (none)) else (if x2 = true then (if 0 ≤ x7 then (if x7 < (x1.length : Int) then ((haulageref08_Col.f k x315000 x315001 x315002 x315003 x315004 ((rd_T96 x1 x7).f0)).bind fun t320 => ((haulageref08_Key.f k x315000 x315001 x315002 x315003 x315004).bind fun t321 => (if t320 = t321 then (some 15) else (haulageref08_fields.l0 k x1 x2 (wrap64 (x7 + 1)) x315000 x315001 x315002 x315003 x315004)))) else (none)) else (none)) else (haulageref08_fields.l0 k x1 x2 (wrap64 (x7 + 1)) x315000 x315001 x315002 x315003 x315004))
end
def haulageref08_fields.f (k : Nat) (a0_0 : Int) (a0_1 : ByteArray) (a0_2 : Int) (a0_3 : Int) (l0_4 : List (S54)) (l1 : List (S96)) (a2 : Bool) : Option (Int) := if (l1.length : Int) > 10 then (some 3) else (haulageref08_fields.l0 k l1 a2 0 a0_0 a0_1 a0_2 a0_3 l0_4)
theorem haulageref08_fields.mono_l : ∀ k, (∀ y0 y1 y2 y3 y4 y5 y6 y7, LeO (haulageref08_fields.l0 k y0 y1 y2 y3 y4 y5 y6 y7) (haulageref08_fields.l0 (k + 1) y0 y1 y2 y3 y4 y5 y6 y7)) ∧ (∀ y0 y1 y2 y3 y4 y5 y6 y7 y8, LeO (haulageref08_fields.l1 k y0 y1 y2 y3 y4 y5 y6 y7 y8) (haulageref08_fields.l1 (k + 1) y0 y1 y2 y3 y4 y5 y6 y7 y8))
 | 0 => ⟨fun _ _ _ _ _ _ _ _ r h => by simp [haulageref08_fields.l0] at h, fun _ _ _ _ _ _ _ _ _ r h => by simp [haulageref08_fields.l1] at h⟩
 | k + 1 => by
  obtain ⟨ih0, ih1⟩ := haulageref08_fields.mono_l k
  refine ⟨?_, ?_⟩
  ·
   intro y0 y1 y2 y3 y4 y5 y6 y7
   unfold haulageref08_fields.l0
   repeat' first
   | (with_reducible exact ih0 _ _ _ _ _ _ _ _)
   | (with_reducible exact ih1 _ _ _ _ _ _ _ _ _)
   | (with_reducible exact haulageref08_Col.mono _ _ _ _ _ _ _)
   | (with_reducible exact haulageref08_Key.mono _ _ _ _ _ _)
   | (with_reducible exact LeO.refl _)
   | (with_reducible exact LeO.none _)
   | (with_reducible refine LeO.ite ?_ ?_)
   | (with_reducible refine LeO.bind ?_ (fun _ => ?_))
   | exact ih0 _ _ _ _ _ _ _ _
   | exact ih1 _ _ _ _ _ _ _ _ _
   | exact haulageref08_Col.mono _ _ _ _ _ _ _
   | exact haulageref08_Key.mono _ _ _ _ _ _
   | exact LeO.none _
   | refine LeO.ite ?_ ?_
   | refine LeO.bind ?_ (fun _ => ?_)
  ·
   intro y0 y1 y2 y3 y4 y5 y6 y7 y8
   unfold haulageref08_fields.l1
   repeat' first
   | (with_reducible exact ih0 _ _ _ _ _ _ _ _)
   | (with_reducible exact ih1 _ _ _ _ _ _ _ _ _)
   | (with_reducible exact haulageref08_Col.mono _ _ _ _ _ _ _)
   | (with_reducible exact haulageref08_Key.mono _ _ _ _ _ _)
   | (with_reducible exact LeO.refl _)
   | (with_reducible exact LeO.none _)
   | (with_reducible refine LeO.ite ?_ ?_)
   | (with_reducible refine LeO.bind ?_ (fun _ => ?_))
   | exact ih0 _ _ _ _ _ _ _ _
   | exact ih1 _ _ _ _ _ _ _ _ _
   | exact haulageref08_Col.mono _ _ _ _ _ _ _
   | exact haulageref08_Key.mono _ _ _ _ _ _
   | exact LeO.none _
   | refine LeO.ite ?_ ?_
   | refine LeO.bind ?_ (fun _ => ?_)
theorem haulageref08_fields.mono : ∀ a0 a1 a2 a3 a4 a5 a6 k, LeO (haulageref08_fields.f k a0 a1 a2 a3 a4 a5 a6) (haulageref08_fields.f (k + 1) a0 a1 a2 a3 a4 a5 a6) := by
 intro a0 a1 a2 a3 a4 a5 a6 k
 obtain ⟨ih0, ih1⟩ := haulageref08_fields.mono_l k
 unfold haulageref08_fields.f
 repeat' first
   | (with_reducible exact ih0 _ _ _ _ _ _ _ _)
   | (with_reducible exact ih1 _ _ _ _ _ _ _ _ _)
   | (with_reducible exact haulageref08_Col.mono _ _ _ _ _ _ _)
   | (with_reducible exact haulageref08_Key.mono _ _ _ _ _ _)
   | (with_reducible exact LeO.refl _)
   | (with_reducible exact LeO.none _)
   | (with_reducible refine LeO.ite ?_ ?_)
   | (with_reducible refine LeO.bind ?_ (fun _ => ?_))
   | exact ih0 _ _ _ _ _ _ _ _
   | exact ih1 _ _ _ _ _ _ _ _ _
   | exact haulageref08_Col.mono _ _ _ _ _ _ _
   | exact haulageref08_Key.mono _ _ _ _ _ _
   | exact LeO.none _
   | refine LeO.ite ?_ ?_
   | refine LeO.bind ?_ (fun _ => ?_)
def haulageref08_fields.T6 : Bool × List (List Nat × List Nat) := (true, [([], []), ([], []), ([], []), ([1, 2], [1, 2]), ([3], [3]), ([4], [4]), ([0, 5], [0, 5]), ([6], [6])])
def haulageref08_fields.B6 : List Nat := [0, 0, 0, 6, 14, 30, 63, 127]
theorem haulageref08_fields.tab6 : rtab .any (opsOf Tryd.f65 6) = haulageref08_fields.T6 := by kernel_rfl
theorem haulageref08_fields.bits6 : waitsOk haulageref08_fields.T6.2 haulageref08_fields.B6 = true := by kernel_rfl
def haulageref08_fields.T11 : Bool × List (List Nat × List Nat) := (true, [([], []), ([], []), ([0, 1], [0, 1]), ([2], [2]), ([3], [3]), ([], []), ([], []), ([5, 6], [5, 6]), ([7], [7]), ([8], [8]), ([4, 9], [4, 9])])
def haulageref08_fields.B11 : List Nat := [0, 0, 3, 7, 15, 0, 0, 96, 224, 480, 1023]
theorem haulageref08_fields.tab11 : rtab .any (opsOf Tryd.f65 11) = haulageref08_fields.T11 := by kernel_rfl
theorem haulageref08_fields.bits11 : waitsOk haulageref08_fields.T11.2 haulageref08_fields.B11 = true := by kernel_rfl
def haulageref08_fields.T13 : Bool × List (List Nat × List Nat) := (true, [([], []), ([0], [0]), ([1], [1]), ([1], [1]), ([1], [1]), ([3, 4, 1], [1, 3, 4]), ([5, 1], [1, 5]), ([6, 1], [1, 6]), ([2, 7, 1, 1], [1, 2, 7]), ([1], [1]), ([9, 8, 1], [1, 9]), ([8, 10, 1], [1, 8, 10]), ([1, 11], [1, 11])])
def haulageref08_fields.B13 : List Nat := [0, 1, 3, 3, 3, 27, 59, 123, 255, 3, 1023, 2047, 4095]
theorem haulageref08_fields.tab13 : rtab .any (opsOf Tryd.f65 13) = haulageref08_fields.T13 := by kernel_rfl
theorem haulageref08_fields.bits13 : waitsOk haulageref08_fields.T13.2 haulageref08_fields.B13 = true := by kernel_rfl
set_option maxHeartbeats 8000000 in
set_option maxRecDepth 100000 in
theorem haulageref08_fields.calls (k : Nat) (a0_0 : Int) (a0_1 : ByteArray) (a0_2 : Int) (a0_3 : Int) (A0_4 : Option Addr) (c0_4 : Nat) (l0_4 : List (S54)) (A1 : Option Addr) (c1 : Nat) (l1 : List (S96)) (a2 : Bool) (r : Int) (w : World) (hr0_4 : Kd.C k54 w A0_4 l0_4.length l0_4) (hc0_4 : l0_4.length ≤ c0_4) (hr1 : Kd.C k96 w A1 l1.length l1) (hc1 : l1.length ≤ c1) (h : haulageref08_fields.f k a0_0 a0_1 a0_2 a0_3 l0_4 l1 a2 = some r) :
  Calls Tryd.prog 65 #[.agg #[.int .i64 a0_0, .string a0_1, .int .i64 a0_2, .int .i64 a0_3, .slice A0_4 l0_4.length c0_4], .slice A1 l1.length c1, .bool a2] w fun e w' => e = .returned (.int .i64 r) ∧ Below w.heap.size w w' := by
 have hu24 := Tryd.underlying24
 have HR0_4 := aM hr0_4
 have HC0_4 := aM hc0_4
 clear hr0_4 hc0_4
 have HR1 := aM hr1
 have HC1 := aM hc1
 clear hr1 hc1
 have HB := aM (Below.refl w.heap.size w)
 have H : (if (l1.length : Int) > 10 then (some 3) else (haulageref08_fields.l0 k l1 a2 0 a0_0 a0_1 a0_2 a0_3 l0_4)) = some r := h
 clear h
 by_cases c4 : (l1.length : Int) > 10
 ·
  rw [if_pos c4] at H
  have c4b0 : decide (10 < (l1.length : Int)) = true := decide_eq_true c4
  have c4b1 : decide (10 < l1.length) = true := decide_eq_true (by omega)
  clear c4
  obtain rfl := Option.some.inj H
  go_enter Tryd.func65, Tryd.ntmps65
  go_wp2_with (first | ((with_reducible refine gate_dst (N := 3) rfl ?_); refine yX (N := 3) (cs := #[.int .i64 a0_0, .string a0_1, .int .i64 a0_2, .int .i64 a0_3, .slice A0_4 l0_4.length c0_4]) (t := 24) ?_; intro gb314 hg w5 hbox hb; have BK314 := aM (hbox); have GW314 := yZ hg (yB HB); have GE314 := yZ hg (yB HB); replace HB := aM (bP (yB HB) hb); clear hb hbox hg))
  go_ret
  exact ⟨yE, yG1 HB GE314.out⟩
 ·
  rw [if_neg c4] at H
  have c4b0 : decide (10 < (l1.length : Int)) = false := decide_eq_false c4
  have c4b1 : decide (10 < l1.length) = false := decide_eq_false (by omega)
  clear c4
  have H' := aM H
  clear H
  go_enter Tryd.func65, Tryd.ntmps65
  go_wp2_with (first | ((with_reducible refine gate_dst (N := 3) rfl ?_); refine yX (N := 3) (cs := #[.int .i64 a0_0, .string a0_1, .int .i64 a0_2, .int .i64 a0_3, .slice A0_4 l0_4.length c0_4]) (t := 24) ?_; intro gb314 hg w6 hbox hb; have BK314 := aM (hbox); have GW314 := yZ hg (yB HB); have GE314 := yZ hg (yB HB); replace HB := aM (bP (yB HB) hb); clear hb hbox hg))
  go_loopg [7] k (fun kq v7 w' => ∃ (x7_1 : Int), v7 = .int .i64 x7_1 ∧ Aside0 (haulageref08_fields.l0 kq l1 a2 x7_1 a0_0 a0_1 a0_2 a0_3 l0_4 = some r) ∧ Aside0 (kq ≤ k) ∧ Aside0 (w'.heap[gb314]? = some (.cells #[.int .i64 a0_0, .string a0_1, .int .i64 a0_2, .int .i64 a0_3, (.slice A0_4 l0_4.length c0_4)] 24 (0, 0))) ∧ Aside0 (Below w.heap.size w w'))
  case atStart => exact ⟨(0), yS, H', ⟨Nat.le_refl _⟩, ⟨yK BK314⟩, ⟨yG1 HB GE314.out⟩⟩
  case round =>
   clear H'
   try clear c1
   try clear p2
   try clear c4
   try clear c4b0
   try clear c4b1
   try clear c6
   obtain ⟨x7_1, rfl, HA, HK1, BK314, HB⟩ := hrel
   cases gk with
   | zero => exact absurd HA.out (by simp [haulageref08_fields.l0])
   | succ k1 =>
    have H := HA.out
    clear HA
    simp only [haulageref08_fields.l0] at H
    by_cases c7 : x7_1 < (l1.length : Int)
    ·
     rw [if_pos c7] at H
     have c7b0 : decide (x7_1 < (l1.length : Int)) = true := decide_eq_true c7
     clear c7
     by_cases c8 : 0 ≤ x7_1
     ·
      rw [if_pos c8] at H
      have c8b0 : decide (0 ≤ x7_1) = true := decide_eq_true c8
      clear c8
      replace H := Option.bind_eq_some_iff.mp H
      obtain ⟨t316, A90, H⟩ := H
      replace H : (if t316 < 0 then (some 13) else (haulageref08_fields.l1 k1 l1 a2 x7_1 0 a0_0 a0_1 a0_2 a0_3 l0_4)) = some r := H
      have A9 := aM A90
      clear A90
      by_cases c10 : t316 < 0
      ·
       rw [if_pos c10] at H
       have c10b0 : decide (t316 < 0) = true := decide_eq_true c10
       clear c10
       obtain rfl := Option.some.inj H
       try go_wp2
       have n0_ := aM (kD BK314.out)
       have n1_ := aM (b1 HB.out)
       clear BK314
       clear HB
       have BK314 := n0_
       have HB := n1_
       clear n0_ n1_
       have p315 : 0 ≤ (x7_1 : Int) := oD yA
       have q315 : x7_1 < (l1.length : Int) := oD yA
       obtain ⟨ad315, e315, hx315_0, hx315_1, hx315_2, hx315_3⟩ := at_T96 HR1.out x7_1 p315 q315
       have hw315_3 := hx315_3
       have hw315_2 := hx315_2
       have hw315_1 := hx315_1
       have hw315_0 := hx315_0
       cases e315
       replace hx315_0 := pw_cell_below HB.out hx315_0
       replace hx315_1 := pw_cell_below HB.out hx315_1
       replace hx315_2 := pw_cell_below HB.out hx315_2
       replace hx315_3 := pw_cell_below HB.out hx315_3
       replace p315 := eq_true p315
       replace q315 := eq_true q315
       refine start_ (n := 8) (S := fun w' => w'.cell? ⟨gb314, 0, none⟩ = some (.int .i64 a0_0) ∧ w'.cell? ⟨gb314, 1, none⟩ = some (.string a0_1) ∧ w'.cell? ⟨gb314, 2, none⟩ = some (.int .i64 a0_2) ∧ w'.cell? ⟨gb314, 3, none⟩ = some (.int .i64 a0_3) ∧ w'.cell? ⟨gb314, 4, none⟩ = some (.slice A0_4 l0_4.length c0_4) ∧ w'.cell? (ad315.add ((x7_1).toNat * 4)) = some (.string ((rd_T96 l1 x7_1).f0)) ∧ w'.cell? ⟨(ad315.add ((x7_1).toNat * 4)).block, (ad315.add ((x7_1).toNat * 4)).off + 1, none⟩ = some (.int .i64 ((rd_T96 l1 x7_1).f1.f0)) ∧ w'.cell? ⟨(ad315.add ((x7_1).toNat * 4)).block, (ad315.add ((x7_1).toNat * 4)).off + 2, none⟩ = some (.int .i64 ((rd_T96 l1 x7_1).f1.f1)) ∧ w'.cell? ⟨(ad315.add ((x7_1).toNat * 4)).block, (ad315.add ((x7_1).toNat * 4)).off + 3, none⟩ = some (.string ((rd_T96 l1 x7_1).f1.f2))) (ds := []) (tB 0 8) (by kernel_rfl) rfl rfl ⟨yV BK314 0, yV BK314 1, yV BK314 2, yV BK314 3, yV BK314 4, (pw_cell_below HB.out hw315_0), (pw_cell_below HB.out hw315_1), (pw_cell_below HB.out hw315_2), (pw_cell_below HB.out hw315_3)⟩ (fun hHeld => ?_); refine with_tabW haulageref08_fields.tab6 haulageref08_fields.bits6 (fun HT_ HW_ => ?_)
       generalize wr.drew = w11 at BK314 HB hx315_0 hx315_1 hx315_2 hx315_3 hHeld ⊢
       refine yP HT_ 1 19 (tB 2 8) rfl rfl ?_
       refine yP HT_ 2 20 (tB 6 8) rfl rfl ?_
       refine yP HT_ 3 21 (tB 14 8) rfl rfl ?_
       refine yP HT_ 4 22 (tB 30 8) rfl rfl ?_
       refine yT HT_ HW_ 0 18 (tB 31 8) rfl rfl hHeld ?_
       refine yT HT_ HW_ 5 23 (tB 63 8) rfl rfl hHeld ?_
       refine yI HT_ 6 (tB 127 8) rfl rfl fun K hK => ?_
       refine yc Tryd.func47 #[.agg #[.int .i64 a0_0, .string a0_1, .int .i64 a0_2, .int .i64 a0_3, .slice A0_4 l0_4.length c0_4], .string ((rd_T96 l1 x7_1).f0)] rfl rfl ?_
       with_reducible refine (haulageref08_Col.calls k1 a0_0 a0_1 a0_2 a0_3 _ _ l0_4 ((rd_T96 l1 x7_1).f0) t316 _ ?side1 ?side2 A9.out).mono ?_
       (case side1 => exact yW (Kd.C_below HR0_4.out HB.out))
       (case side2 => exact HC0_4.out)
       rintro e w12 ⟨rfl, hb⟩
       refine ⟨_, rfl, ?_⟩
       have n0_ := aM (kB (yK BK314) hb)
       have n1_ := aM (bP (yG1 HB GE314.out) hb)
       clear BK314
       clear HB
       have BK314 := n0_
       have HB := n1_
       clear n0_ n1_
       (try clear hb)
       (try clear hb2)
       (try clear hk)
       (try clear hi)
       refine hK.out _ _ ⟨yV BK314 0, yV BK314 1, yV BK314 2, yV BK314 3, yV BK314 4, (pw_cell_below HB.out hw315_0), (pw_cell_below HB.out hw315_1), (pw_cell_below HB.out hw315_2), (pw_cell_below HB.out hw315_3)⟩ (fun hHeld => ?_)
       clear hK K
       refine norm_ (a' := ?_) ?_ ?_
       rotate_left
       ·
        show Act.put _ (some 24) _ = _
        simp only [Act.put, s1_, s2_, s3_, i64_w, i32_w]
        rfl
       refine yP HT_ 7 25 (tB 255 8) rfl rfl ?_
       refine done_ (done_of HT_.out (by kernel_rfl)) ?_
       try go_wp2
       go_ret
       exact ⟨yE, yG1 HB GE314.out⟩
      ·
       rw [if_neg c10] at H
       have c10b0 : decide (t316 < 0) = false := decide_eq_false c10
       clear c10
       have H' := aM H
       clear H
       try go_wp2
       have n0_ := aM (kD BK314.out)
       have n1_ := aM (b1 HB.out)
       clear BK314
       clear HB
       have BK314 := n0_
       have HB := n1_
       clear n0_ n1_
       have p315 : 0 ≤ (x7_1 : Int) := oD yA
       have q315 : x7_1 < (l1.length : Int) := oD yA
       obtain ⟨ad315, e315, hx315_0, hx315_1, hx315_2, hx315_3⟩ := at_T96 HR1.out x7_1 p315 q315
       have hw315_3 := hx315_3
       have hw315_2 := hx315_2
       have hw315_1 := hx315_1
       have hw315_0 := hx315_0
       cases e315
       replace hx315_0 := pw_cell_below HB.out hx315_0
       replace hx315_1 := pw_cell_below HB.out hx315_1
       replace hx315_2 := pw_cell_below HB.out hx315_2
       replace hx315_3 := pw_cell_below HB.out hx315_3
       replace p315 := eq_true p315
       replace q315 := eq_true q315
       refine start_ (n := 8) (S := fun w' => w'.cell? ⟨gb314, 0, none⟩ = some (.int .i64 a0_0) ∧ w'.cell? ⟨gb314, 1, none⟩ = some (.string a0_1) ∧ w'.cell? ⟨gb314, 2, none⟩ = some (.int .i64 a0_2) ∧ w'.cell? ⟨gb314, 3, none⟩ = some (.int .i64 a0_3) ∧ w'.cell? ⟨gb314, 4, none⟩ = some (.slice A0_4 l0_4.length c0_4) ∧ w'.cell? (ad315.add ((x7_1).toNat * 4)) = some (.string ((rd_T96 l1 x7_1).f0)) ∧ w'.cell? ⟨(ad315.add ((x7_1).toNat * 4)).block, (ad315.add ((x7_1).toNat * 4)).off + 1, none⟩ = some (.int .i64 ((rd_T96 l1 x7_1).f1.f0)) ∧ w'.cell? ⟨(ad315.add ((x7_1).toNat * 4)).block, (ad315.add ((x7_1).toNat * 4)).off + 2, none⟩ = some (.int .i64 ((rd_T96 l1 x7_1).f1.f1)) ∧ w'.cell? ⟨(ad315.add ((x7_1).toNat * 4)).block, (ad315.add ((x7_1).toNat * 4)).off + 3, none⟩ = some (.string ((rd_T96 l1 x7_1).f1.f2))) (ds := []) (tB 0 8) (by kernel_rfl) rfl rfl ⟨yV BK314 0, yV BK314 1, yV BK314 2, yV BK314 3, yV BK314 4, (pw_cell_below HB.out hw315_0), (pw_cell_below HB.out hw315_1), (pw_cell_below HB.out hw315_2), (pw_cell_below HB.out hw315_3)⟩ (fun hHeld => ?_); refine with_tabW haulageref08_fields.tab6 haulageref08_fields.bits6 (fun HT_ HW_ => ?_)
       generalize wr.drew = w13 at BK314 HB hx315_0 hx315_1 hx315_2 hx315_3 hHeld ⊢
       refine yP HT_ 1 19 (tB 2 8) rfl rfl ?_
       refine yP HT_ 2 20 (tB 6 8) rfl rfl ?_
       refine yP HT_ 3 21 (tB 14 8) rfl rfl ?_
       refine yP HT_ 4 22 (tB 30 8) rfl rfl ?_
       refine yT HT_ HW_ 0 18 (tB 31 8) rfl rfl hHeld ?_
       refine yT HT_ HW_ 5 23 (tB 63 8) rfl rfl hHeld ?_
       refine yI HT_ 6 (tB 127 8) rfl rfl fun K hK => ?_
       refine yc Tryd.func47 #[.agg #[.int .i64 a0_0, .string a0_1, .int .i64 a0_2, .int .i64 a0_3, .slice A0_4 l0_4.length c0_4], .string ((rd_T96 l1 x7_1).f0)] rfl rfl ?_
       with_reducible refine (haulageref08_Col.calls k1 a0_0 a0_1 a0_2 a0_3 _ _ l0_4 ((rd_T96 l1 x7_1).f0) t316 _ ?side1 ?side2 A9.out).mono ?_
       (case side1 => exact yW (Kd.C_below HR0_4.out HB.out))
       (case side2 => exact HC0_4.out)
       rintro e w14 ⟨rfl, hb⟩
       refine ⟨_, rfl, ?_⟩
       have n0_ := aM (kB (yK BK314) hb)
       have n1_ := aM (bP (yG1 HB GE314.out) hb)
       clear BK314
       clear HB
       have BK314 := n0_
       have HB := n1_
       clear n0_ n1_
       (try clear hb)
       (try clear hb2)
       (try clear hk)
       (try clear hi)
       refine hK.out _ _ ⟨yV BK314 0, yV BK314 1, yV BK314 2, yV BK314 3, yV BK314 4, (pw_cell_below HB.out hw315_0), (pw_cell_below HB.out hw315_1), (pw_cell_below HB.out hw315_2), (pw_cell_below HB.out hw315_3)⟩ (fun hHeld => ?_)
       clear hK K
       refine norm_ (a' := ?_) ?_ ?_
       rotate_left
       ·
        show Act.put _ (some 24) _ = _
        simp only [Act.put, s1_, s2_, s3_, i64_w, i32_w]
        rfl
       refine yP HT_ 7 25 (tB 255 8) rfl rfl ?_
       refine done_ (done_of HT_.out (by kernel_rfl)) ?_
       try go_wp2
       go_loopg [8] k1 (fun kq v8 w' => ∃ (x8_2 : Int), v8 = .int .i64 x8_2 ∧ Aside0 (haulageref08_fields.l1 kq l1 a2 x7_1 x8_2 a0_0 a0_1 a0_2 a0_3 l0_4 = some r) ∧ Aside0 (kq ≤ k1) ∧ Aside0 (w'.heap[gb314]? = some (.cells #[.int .i64 a0_0, .string a0_1, .int .i64 a0_2, .int .i64 a0_3, (.slice A0_4 l0_4.length c0_4)] 24 (0, 0))) ∧ Aside0 (Below w.heap.size w w'))
       case atStart => exact ⟨(0), yS, H', ⟨Nat.le_refl _⟩, ⟨yK BK314⟩, ⟨yG1 HB GE314.out⟩⟩
       case round =>
        clear H'
        try clear c1
        try clear p2
        try clear p3
        try clear q3
        try clear hx3
        try clear c4
        try clear c4b0
        try clear c4b1
        try clear c6
        try clear c7
        try clear c7b0
        try clear c8
        try clear c8b0
        try clear c10
        try clear c10b0
        try clear hx315_0 hx315_1 hx315_2 hx315_3
        try clear p2
        try clear p315
        try clear q315
        obtain ⟨x8_2, rfl, HA, HK2, BK314, HB⟩ := hrel
        cases gk with
        | zero => exact absurd HA.out (by simp [haulageref08_fields.l1])
        | succ k2 =>
         have H := HA.out
         clear HA
         simp only [haulageref08_fields.l1] at H
         by_cases c15 : x8_2 < x7_1
         ·
          rw [if_pos c15] at H
          have c15b0 : decide (x8_2 < x7_1) = true := decide_eq_true c15
          clear c15
          by_cases c16 : 0 ≤ x8_2
          ·
           rw [if_pos c16] at H
           have c16b0 : decide (0 ≤ x8_2) = true := decide_eq_true c16
           clear c16
           by_cases c17 : x8_2 < (l1.length : Int)
           ·
            rw [if_pos c17] at H
            have c17b0 : decide (x8_2 < (l1.length : Int)) = true := decide_eq_true c17
            clear c17
            by_cases c18 : 0 ≤ x7_1
            ·
             rw [if_pos c18] at H
             have c18b0 : decide (0 ≤ x7_1) = true := decide_eq_true c18
             clear c18
             by_cases c19 : x7_1 < (l1.length : Int)
             ·
              rw [if_pos c19] at H
              have c19b0 : decide (x7_1 < (l1.length : Int)) = true := decide_eq_true c19
              clear c19
              by_cases c20 : ((rd_T96 l1 x8_2).f0).toList = ((rd_T96 l1 x7_1).f0).toList
              ·
               rw [if_pos c20] at H
               have c20b0 : (((rd_T96 l1 x8_2).f0).toList == ((rd_T96 l1 x7_1).f0).toList) = true := beq_iff_eq.mpr c20
               have c20b1 : (((rd_T96 l1 x8_2).f0).toList != ((rd_T96 l1 x7_1).f0).toList) = false := bne_eq_false_iff_eq.mpr c20
               clear c20
               obtain rfl := Option.some.inj H
               try go_wp2
               have n0_ := aM (kD BK314.out)
               have n1_ := aM (b1 HB.out)
               clear BK314
               clear HB
               have BK314 := n0_
               have HB := n1_
               clear n0_ n1_
               have p317 : 0 ≤ (x8_2 : Int) := oD yA
               have q317 : x8_2 < (l1.length : Int) := oD yA
               obtain ⟨ad317, e317, hx317_0, hx317_1, hx317_2, hx317_3⟩ := at_T96 HR1.out x8_2 p317 q317
               have hw317_3 := hx317_3
               have hw317_2 := hx317_2
               have hw317_1 := hx317_1
               have hw317_0 := hx317_0
               obtain rfl : ad315 = ad317 := (by injection e317)
               replace hx317_0 := pw_cell_below HB.out hx317_0
               replace hx317_1 := pw_cell_below HB.out hx317_1
               replace hx317_2 := pw_cell_below HB.out hx317_2
               replace hx317_3 := pw_cell_below HB.out hx317_3
               replace p317 := eq_true p317
               replace q317 := eq_true q317
               have p318 : 0 ≤ (x7_1 : Int) := oD yA
               have q318 : x7_1 < (l1.length : Int) := oD yA
               obtain ⟨ad318, e318, hx318_0, hx318_1, hx318_2, hx318_3⟩ := at_T96 HR1.out x7_1 p318 q318
               have hw318_3 := hx318_3
               have hw318_2 := hx318_2
               have hw318_1 := hx318_1
               have hw318_0 := hx318_0
               obtain rfl : ad315 = ad318 := (by injection e318)
               replace hx318_0 := pw_cell_below HB.out hx318_0
               replace hx318_1 := pw_cell_below HB.out hx318_1
               replace hx318_2 := pw_cell_below HB.out hx318_2
               replace hx318_3 := pw_cell_below HB.out hx318_3
               replace p318 := eq_true p318
               replace q318 := eq_true q318
               refine start_ (n := 11) (S := fun w' => w'.cell? (ad315.add ((x8_2).toNat * 4)) = some (.string ((rd_T96 l1 x8_2).f0)) ∧ w'.cell? ⟨(ad315.add ((x8_2).toNat * 4)).block, (ad315.add ((x8_2).toNat * 4)).off + 1, none⟩ = some (.int .i64 ((rd_T96 l1 x8_2).f1.f0)) ∧ w'.cell? ⟨(ad315.add ((x8_2).toNat * 4)).block, (ad315.add ((x8_2).toNat * 4)).off + 2, none⟩ = some (.int .i64 ((rd_T96 l1 x8_2).f1.f1)) ∧ w'.cell? ⟨(ad315.add ((x8_2).toNat * 4)).block, (ad315.add ((x8_2).toNat * 4)).off + 3, none⟩ = some (.string ((rd_T96 l1 x8_2).f1.f2)) ∧ w'.cell? (ad315.add ((x7_1).toNat * 4)) = some (.string ((rd_T96 l1 x7_1).f0)) ∧ w'.cell? ⟨(ad315.add ((x7_1).toNat * 4)).block, (ad315.add ((x7_1).toNat * 4)).off + 1, none⟩ = some (.int .i64 ((rd_T96 l1 x7_1).f1.f0)) ∧ w'.cell? ⟨(ad315.add ((x7_1).toNat * 4)).block, (ad315.add ((x7_1).toNat * 4)).off + 2, none⟩ = some (.int .i64 ((rd_T96 l1 x7_1).f1.f1)) ∧ w'.cell? ⟨(ad315.add ((x7_1).toNat * 4)).block, (ad315.add ((x7_1).toNat * 4)).off + 3, none⟩ = some (.string ((rd_T96 l1 x7_1).f1.f2))) (ds := []) (tB 0 11) (by kernel_rfl) rfl rfl ⟨(pw_cell_below HB.out hw317_0), (pw_cell_below HB.out hw317_1), (pw_cell_below HB.out hw317_2), (pw_cell_below HB.out hw317_3), (pw_cell_below HB.out hw318_0), (pw_cell_below HB.out hw318_1), (pw_cell_below HB.out hw318_2), (pw_cell_below HB.out hw318_3)⟩ (fun hHeld => ?_); refine with_tabW haulageref08_fields.tab11 haulageref08_fields.bits11 (fun HT_ HW_ => ?_)
               generalize wr.drew = w21 at BK314 HB hx317_0 hx317_1 hx317_2 hx317_3 hx318_0 hx318_1 hx318_2 hx318_3 hHeld ⊢
               refine yP HT_ 0 31 (tB 1 11) rfl rfl ?_
               refine yP HT_ 1 32 (tB 3 11) rfl rfl ?_
               refine yP HT_ 2 33 (tB 7 11) rfl rfl ?_
               refine yP HT_ 3 34 (tB 15 11) rfl rfl ?_
               refine yP HT_ 5 36 (tB 47 11) rfl rfl ?_
               refine yP HT_ 6 37 (tB 111 11) rfl rfl ?_
               refine yP HT_ 7 38 (tB 239 11) rfl rfl ?_
               refine yP HT_ 8 39 (tB 495 11) rfl rfl ?_
               refine yT HT_ HW_ 4 35 (tB 511 11) rfl rfl hHeld ?_
               refine yT HT_ HW_ 9 40 (tB 1023 11) rfl rfl hHeld ?_
               refine yP HT_ 10 41 (tB 2047 11) rfl rfl ?_
               refine done_ (done_of HT_.out (by kernel_rfl)) ?_
               try go_wp2
               go_ret
               exact ⟨yE, yG1 HB GE314.out⟩
              ·
               rw [if_neg c20] at H
               have c20b0 : (((rd_T96 l1 x8_2).f0).toList == ((rd_T96 l1 x7_1).f0).toList) = false := beq_eq_false_iff_ne.mpr c20
               have c20b1 : (((rd_T96 l1 x8_2).f0).toList != ((rd_T96 l1 x7_1).f0).toList) = true := bne_iff_ne.mpr c20
               have H' := aM H
               clear H
               try go_wp2
               have n0_ := aM (kD BK314.out)
               have n1_ := aM (b1 HB.out)
               clear BK314
               clear HB
               have BK314 := n0_
               have HB := n1_
               clear n0_ n1_
               have p317 : 0 ≤ (x8_2 : Int) := oD yA
               have q317 : x8_2 < (l1.length : Int) := oD yA
               obtain ⟨ad317, e317, hx317_0, hx317_1, hx317_2, hx317_3⟩ := at_T96 HR1.out x8_2 p317 q317
               have hw317_3 := hx317_3
               have hw317_2 := hx317_2
               have hw317_1 := hx317_1
               have hw317_0 := hx317_0
               obtain rfl : ad315 = ad317 := (by injection e317)
               replace hx317_0 := pw_cell_below HB.out hx317_0
               replace hx317_1 := pw_cell_below HB.out hx317_1
               replace hx317_2 := pw_cell_below HB.out hx317_2
               replace hx317_3 := pw_cell_below HB.out hx317_3
               replace p317 := eq_true p317
               replace q317 := eq_true q317
               have p318 : 0 ≤ (x7_1 : Int) := oD yA
               have q318 : x7_1 < (l1.length : Int) := oD yA
               obtain ⟨ad318, e318, hx318_0, hx318_1, hx318_2, hx318_3⟩ := at_T96 HR1.out x7_1 p318 q318
               have hw318_3 := hx318_3
               have hw318_2 := hx318_2
               have hw318_1 := hx318_1
               have hw318_0 := hx318_0
               obtain rfl : ad315 = ad318 := (by injection e318)
               replace hx318_0 := pw_cell_below HB.out hx318_0
               replace hx318_1 := pw_cell_below HB.out hx318_1
               replace hx318_2 := pw_cell_below HB.out hx318_2
               replace hx318_3 := pw_cell_below HB.out hx318_3
               replace p318 := eq_true p318
               replace q318 := eq_true q318
               refine start_ (n := 11) (S := fun w' => w'.cell? (ad315.add ((x8_2).toNat * 4)) = some (.string ((rd_T96 l1 x8_2).f0)) ∧ w'.cell? ⟨(ad315.add ((x8_2).toNat * 4)).block, (ad315.add ((x8_2).toNat * 4)).off + 1, none⟩ = some (.int .i64 ((rd_T96 l1 x8_2).f1.f0)) ∧ w'.cell? ⟨(ad315.add ((x8_2).toNat * 4)).block, (ad315.add ((x8_2).toNat * 4)).off + 2, none⟩ = some (.int .i64 ((rd_T96 l1 x8_2).f1.f1)) ∧ w'.cell? ⟨(ad315.add ((x8_2).toNat * 4)).block, (ad315.add ((x8_2).toNat * 4)).off + 3, none⟩ = some (.string ((rd_T96 l1 x8_2).f1.f2)) ∧ w'.cell? (ad315.add ((x7_1).toNat * 4)) = some (.string ((rd_T96 l1 x7_1).f0)) ∧ w'.cell? ⟨(ad315.add ((x7_1).toNat * 4)).block, (ad315.add ((x7_1).toNat * 4)).off + 1, none⟩ = some (.int .i64 ((rd_T96 l1 x7_1).f1.f0)) ∧ w'.cell? ⟨(ad315.add ((x7_1).toNat * 4)).block, (ad315.add ((x7_1).toNat * 4)).off + 2, none⟩ = some (.int .i64 ((rd_T96 l1 x7_1).f1.f1)) ∧ w'.cell? ⟨(ad315.add ((x7_1).toNat * 4)).block, (ad315.add ((x7_1).toNat * 4)).off + 3, none⟩ = some (.string ((rd_T96 l1 x7_1).f1.f2))) (ds := []) (tB 0 11) (by kernel_rfl) rfl rfl ⟨(pw_cell_below HB.out hw317_0), (pw_cell_below HB.out hw317_1), (pw_cell_below HB.out hw317_2), (pw_cell_below HB.out hw317_3), (pw_cell_below HB.out hw318_0), (pw_cell_below HB.out hw318_1), (pw_cell_below HB.out hw318_2), (pw_cell_below HB.out hw318_3)⟩ (fun hHeld => ?_); refine with_tabW haulageref08_fields.tab11 haulageref08_fields.bits11 (fun HT_ HW_ => ?_)
               generalize wr.drew = w22 at BK314 HB hx317_0 hx317_1 hx317_2 hx317_3 hx318_0 hx318_1 hx318_2 hx318_3 hHeld ⊢
               refine yP HT_ 0 31 (tB 1 11) rfl rfl ?_
               refine yP HT_ 1 32 (tB 3 11) rfl rfl ?_
               refine yP HT_ 2 33 (tB 7 11) rfl rfl ?_
               refine yP HT_ 3 34 (tB 15 11) rfl rfl ?_
               refine yP HT_ 5 36 (tB 47 11) rfl rfl ?_
               refine yP HT_ 6 37 (tB 111 11) rfl rfl ?_
               refine yP HT_ 7 38 (tB 239 11) rfl rfl ?_
               refine yP HT_ 8 39 (tB 495 11) rfl rfl ?_
               refine yT HT_ HW_ 4 35 (tB 511 11) rfl rfl hHeld ?_
               refine yT HT_ HW_ 9 40 (tB 1023 11) rfl rfl hHeld ?_
               refine yP HT_ 10 41 (tB 2047 11) rfl rfl ?_
               refine done_ (done_of HT_.out (by kernel_rfl)) ?_
               try go_wp2
               go_roundg k2
               case measure => have := HK1.out; have := HK2.out; omega
               case rel => exact ⟨(wrap64 (x8_2 + 1)), yS, H', ⟨by have := HK1.out; have := HK2.out; omega⟩, ⟨yK BK314⟩, ⟨yG1 HB GE314.out⟩⟩
             ·
              rw [if_neg c19] at H
              exact absurd H (by simp)
            ·
             rw [if_neg c18] at H
             exact absurd H (by simp)
           ·
            rw [if_neg c17] at H
            exact absurd H (by simp)
          ·
           rw [if_neg c16] at H
           exact absurd H (by simp)
         ·
          rw [if_neg c15] at H
          have c15b0 : decide (x8_2 < x7_1) = false := decide_eq_false c15
          clear c15
          by_cases c23 : a2 = true
          ·
           subst c23
           have H1 : (if 0 ≤ x7_1 then (if x7_1 < (l1.length : Int) then ((haulageref08_Col.f k2 a0_0 a0_1 a0_2 a0_3 l0_4 ((rd_T96 l1 x7_1).f0)).bind fun t320 => ((haulageref08_Key.f k2 a0_0 a0_1 a0_2 a0_3 l0_4).bind fun t321 => (if t320 = t321 then (some 15) else (haulageref08_fields.l0 k2 l1 true (wrap64 (x7_1 + 1)) a0_0 a0_1 a0_2 a0_3 l0_4)))) else (none)) else (none)) = some r := by rw [if_pos rfl] at H; exact H
           clear H
           have H := H1
           clear H1
           by_cases c24 : 0 ≤ x7_1
           ·
            rw [if_pos c24] at H
            have c24b0 : decide (0 ≤ x7_1) = true := decide_eq_true c24
            clear c24
            by_cases c25 : x7_1 < (l1.length : Int)
            ·
             rw [if_pos c25] at H
             have c25b0 : decide (x7_1 < (l1.length : Int)) = true := decide_eq_true c25
             clear c25
             replace H := Option.bind_eq_some_iff.mp H
             obtain ⟨t320, A260, H⟩ := H
             replace H : ((haulageref08_Key.f k2 a0_0 a0_1 a0_2 a0_3 l0_4).bind fun t321 => (if t320 = t321 then (some 15) else (haulageref08_fields.l0 k2 l1 true (wrap64 (x7_1 + 1)) a0_0 a0_1 a0_2 a0_3 l0_4))) = some r := H
             have A26 := aM A260
             clear A260
             replace H := Option.bind_eq_some_iff.mp H
             obtain ⟨t321, A270, H⟩ := H
             replace H : (if t320 = t321 then (some 15) else (haulageref08_fields.l0 k2 l1 true (wrap64 (x7_1 + 1)) a0_0 a0_1 a0_2 a0_3 l0_4)) = some r := H
             have A27 := aM A270
             clear A270
             by_cases c28 : t320 = t321
             ·
              rw [if_pos c28] at H
              have c28b0 : (t320 == t321) = true := beq_iff_eq.mpr c28
              have c28b1 : (t320 != t321) = false := bne_eq_false_iff_eq.mpr c28
              clear c28
              obtain rfl := Option.some.inj H
              try go_wp2
              have n0_ := aM (kD BK314.out)
              have n1_ := aM (b1 HB.out)
              clear BK314
              clear HB
              have BK314 := n0_
              have HB := n1_
              clear n0_ n1_
              have p319 : 0 ≤ (x7_1 : Int) := oD yA
              have q319 : x7_1 < (l1.length : Int) := oD yA
              obtain ⟨ad319, e319, hx319_0, hx319_1, hx319_2, hx319_3⟩ := at_T96 HR1.out x7_1 p319 q319
              have hw319_3 := hx319_3
              have hw319_2 := hx319_2
              have hw319_1 := hx319_1
              have hw319_0 := hx319_0
              obtain rfl : ad315 = ad319 := (by injection e319)
              replace hx319_0 := pw_cell_below HB.out hx319_0
              replace hx319_1 := pw_cell_below HB.out hx319_1
              replace hx319_2 := pw_cell_below HB.out hx319_2
              replace hx319_3 := pw_cell_below HB.out hx319_3
              replace p319 := eq_true p319
              replace q319 := eq_true q319
              refine start_ (n := 13) (S := fun w' => w'.cell? ⟨gb314, 0, none⟩ = some (.int .i64 a0_0) ∧ w'.cell? ⟨gb314, 1, none⟩ = some (.string a0_1) ∧ w'.cell? ⟨gb314, 2, none⟩ = some (.int .i64 a0_2) ∧ w'.cell? ⟨gb314, 3, none⟩ = some (.int .i64 a0_3) ∧ w'.cell? ⟨gb314, 4, none⟩ = some (.slice A0_4 l0_4.length c0_4) ∧ w'.cell? (ad315.add ((x7_1).toNat * 4)) = some (.string ((rd_T96 l1 x7_1).f0)) ∧ w'.cell? ⟨(ad315.add ((x7_1).toNat * 4)).block, (ad315.add ((x7_1).toNat * 4)).off + 1, none⟩ = some (.int .i64 ((rd_T96 l1 x7_1).f1.f0)) ∧ w'.cell? ⟨(ad315.add ((x7_1).toNat * 4)).block, (ad315.add ((x7_1).toNat * 4)).off + 2, none⟩ = some (.int .i64 ((rd_T96 l1 x7_1).f1.f1)) ∧ w'.cell? ⟨(ad315.add ((x7_1).toNat * 4)).block, (ad315.add ((x7_1).toNat * 4)).off + 3, none⟩ = some (.string ((rd_T96 l1 x7_1).f1.f2))) (ds := []) (tB 0 13) (by kernel_rfl) rfl rfl ⟨yV BK314 0, yV BK314 1, yV BK314 2, yV BK314 3, yV BK314 4, (pw_cell_below HB.out hw319_0), (pw_cell_below HB.out hw319_1), (pw_cell_below HB.out hw319_2), (pw_cell_below HB.out hw319_3)⟩ (fun hHeld => ?_); refine with_tabW haulageref08_fields.tab13 haulageref08_fields.bits13 (fun HT_ HW_ => ?_)
              generalize wr.drew = w29 at BK314 HB hx319_0 hx319_1 hx319_2 hx319_3 hHeld ⊢
              refine yP HT_ 0 42 (tB 1 13) rfl rfl ?_
              refine yP HT_ 1 43 (tB 3 13) rfl rfl ?_
              refine yP HT_ 3 45 (tB 11 13) rfl rfl ?_
              refine yP HT_ 4 46 (tB 27 13) rfl rfl ?_
              refine yP HT_ 5 47 (tB 59 13) rfl rfl ?_
              refine yP HT_ 6 48 (tB 123 13) rfl rfl ?_
              refine yT HT_ HW_ 2 44 (tB 127 13) rfl rfl hHeld ?_
              refine yT HT_ HW_ 7 49 (tB 255 13) rfl rfl hHeld ?_
              refine yT HT_ HW_ 9 51 (tB 767 13) rfl rfl hHeld ?_
              refine yI HT_ 8 (tB 1023 13) rfl rfl fun K hK => ?_
              refine yc Tryd.func47 #[.agg #[.int .i64 a0_0, .string a0_1, .int .i64 a0_2, .int .i64 a0_3, .slice A0_4 l0_4.length c0_4], .string ((rd_T96 l1 x7_1).f0)] rfl rfl ?_
              with_reducible refine (haulageref08_Col.calls k2 a0_0 a0_1 a0_2 a0_3 _ _ l0_4 ((rd_T96 l1 x7_1).f0) t320 _ ?side1 ?side2 A26.out).mono ?_
              (case side1 => exact yW (Kd.C_below HR0_4.out HB.out))
              (case side2 => exact HC0_4.out)
              rintro e w30 ⟨rfl, hb⟩
              refine ⟨_, rfl, ?_⟩
              have n0_ := aM (kB (yK BK314) hb)
              have n1_ := aM (bP (yG1 HB GE314.out) hb)
              clear BK314
              clear HB
              have BK314 := n0_
              have HB := n1_
              clear n0_ n1_
              (try clear hb)
              (try clear hb2)
              (try clear hk)
              (try clear hi)
              refine hK.out _ _ ⟨yV BK314 0, yV BK314 1, yV BK314 2, yV BK314 3, yV BK314 4, (pw_cell_below HB.out hw319_0), (pw_cell_below HB.out hw319_1), (pw_cell_below HB.out hw319_2), (pw_cell_below HB.out hw319_3)⟩ (fun hHeld => ?_)
              clear hK K
              refine norm_ (a' := ?_) ?_ ?_
              rotate_left
              ·
               show Act.put _ (some 50) _ = _
               simp only [Act.put, s1_, s2_, s3_, i64_w, i32_w]
               rfl
              refine yI HT_ 10 (tB 2047 13) rfl rfl fun K hK => ?_
              refine yc Tryd.func48 #[.agg #[.int .i64 a0_0, .string a0_1, .int .i64 a0_2, .int .i64 a0_3, .slice A0_4 l0_4.length c0_4]] rfl rfl ?_
              with_reducible refine (haulageref08_Key.calls k2 a0_0 a0_1 a0_2 a0_3 _ _ l0_4 t321 _ ?side1 ?side2 A27.out).mono ?_
              (case side1 => exact yW (Kd.C_below HR0_4.out HB.out))
              (case side2 => exact HC0_4.out)
              rintro e w31 ⟨rfl, hb⟩
              refine ⟨_, rfl, ?_⟩
              have n0_ := aM (kB (yK BK314) hb)
              have n1_ := aM (bP (yG1 HB GE314.out) hb)
              clear BK314
              clear HB
              have BK314 := n0_
              have HB := n1_
              clear n0_ n1_
              (try clear hb)
              (try clear hb2)
              (try clear hk)
              (try clear hi)
              refine hK.out _ _ ⟨yV BK314 0, yV BK314 1, yV BK314 2, yV BK314 3, yV BK314 4, (pw_cell_below HB.out hw319_0), (pw_cell_below HB.out hw319_1), (pw_cell_below HB.out hw319_2), (pw_cell_below HB.out hw319_3)⟩ (fun hHeld => ?_)
              clear hK K
              refine norm_ (a' := ?_) ?_ ?_
              rotate_left
              ·
               show Act.put _ (some 52) _ = _
               simp only [Act.put, s1_, s2_, s3_, i64_w, i32_w]
               rfl
              refine yP HT_ 11 53 (tB 4095 13) rfl rfl ?_
              refine yP HT_ 12 54 (tB 8191 13) rfl rfl ?_
              refine done_ (done_of HT_.out (by kernel_rfl)) ?_
              try go_wp2
              go_ret
              exact ⟨yE, yG1 HB GE314.out⟩
             ·
              rw [if_neg c28] at H
              have c28b0 : (t320 == t321) = false := beq_eq_false_iff_ne.mpr c28
              have c28b1 : (t320 != t321) = true := bne_iff_ne.mpr c28
              have H' := aM H
              clear H
              try go_wp2
              have n0_ := aM (kD BK314.out)
              have n1_ := aM (b1 HB.out)
              clear BK314
              clear HB
              have BK314 := n0_
              have HB := n1_
              clear n0_ n1_
              have p319 : 0 ≤ (x7_1 : Int) := oD yA
              have q319 : x7_1 < (l1.length : Int) := oD yA
              obtain ⟨ad319, e319, hx319_0, hx319_1, hx319_2, hx319_3⟩ := at_T96 HR1.out x7_1 p319 q319
              have hw319_3 := hx319_3
              have hw319_2 := hx319_2
              have hw319_1 := hx319_1
              have hw319_0 := hx319_0
              obtain rfl : ad315 = ad319 := (by injection e319)
              replace hx319_0 := pw_cell_below HB.out hx319_0
              replace hx319_1 := pw_cell_below HB.out hx319_1
              replace hx319_2 := pw_cell_below HB.out hx319_2
              replace hx319_3 := pw_cell_below HB.out hx319_3
              replace p319 := eq_true p319
              replace q319 := eq_true q319
              refine start_ (n := 13) (S := fun w' => w'.cell? ⟨gb314, 0, none⟩ = some (.int .i64 a0_0) ∧ w'.cell? ⟨gb314, 1, none⟩ = some (.string a0_1) ∧ w'.cell? ⟨gb314, 2, none⟩ = some (.int .i64 a0_2) ∧ w'.cell? ⟨gb314, 3, none⟩ = some (.int .i64 a0_3) ∧ w'.cell? ⟨gb314, 4, none⟩ = some (.slice A0_4 l0_4.length c0_4) ∧ w'.cell? (ad315.add ((x7_1).toNat * 4)) = some (.string ((rd_T96 l1 x7_1).f0)) ∧ w'.cell? ⟨(ad315.add ((x7_1).toNat * 4)).block, (ad315.add ((x7_1).toNat * 4)).off + 1, none⟩ = some (.int .i64 ((rd_T96 l1 x7_1).f1.f0)) ∧ w'.cell? ⟨(ad315.add ((x7_1).toNat * 4)).block, (ad315.add ((x7_1).toNat * 4)).off + 2, none⟩ = some (.int .i64 ((rd_T96 l1 x7_1).f1.f1)) ∧ w'.cell? ⟨(ad315.add ((x7_1).toNat * 4)).block, (ad315.add ((x7_1).toNat * 4)).off + 3, none⟩ = some (.string ((rd_T96 l1 x7_1).f1.f2))) (ds := []) (tB 0 13) (by kernel_rfl) rfl rfl ⟨yV BK314 0, yV BK314 1, yV BK314 2, yV BK314 3, yV BK314 4, (pw_cell_below HB.out hw319_0), (pw_cell_below HB.out hw319_1), (pw_cell_below HB.out hw319_2), (pw_cell_below HB.out hw319_3)⟩ (fun hHeld => ?_); refine with_tabW haulageref08_fields.tab13 haulageref08_fields.bits13 (fun HT_ HW_ => ?_)
              generalize wr.drew = w32 at BK314 HB hx319_0 hx319_1 hx319_2 hx319_3 hHeld ⊢
              refine yP HT_ 0 42 (tB 1 13) rfl rfl ?_
              refine yP HT_ 1 43 (tB 3 13) rfl rfl ?_
              refine yP HT_ 3 45 (tB 11 13) rfl rfl ?_
              refine yP HT_ 4 46 (tB 27 13) rfl rfl ?_
              refine yP HT_ 5 47 (tB 59 13) rfl rfl ?_
              refine yP HT_ 6 48 (tB 123 13) rfl rfl ?_
              refine yT HT_ HW_ 2 44 (tB 127 13) rfl rfl hHeld ?_
              refine yT HT_ HW_ 7 49 (tB 255 13) rfl rfl hHeld ?_
              refine yT HT_ HW_ 9 51 (tB 767 13) rfl rfl hHeld ?_
              refine yI HT_ 8 (tB 1023 13) rfl rfl fun K hK => ?_
              refine yc Tryd.func47 #[.agg #[.int .i64 a0_0, .string a0_1, .int .i64 a0_2, .int .i64 a0_3, .slice A0_4 l0_4.length c0_4], .string ((rd_T96 l1 x7_1).f0)] rfl rfl ?_
              with_reducible refine (haulageref08_Col.calls k2 a0_0 a0_1 a0_2 a0_3 _ _ l0_4 ((rd_T96 l1 x7_1).f0) t320 _ ?side1 ?side2 A26.out).mono ?_
              (case side1 => exact yW (Kd.C_below HR0_4.out HB.out))
              (case side2 => exact HC0_4.out)
              rintro e w33 ⟨rfl, hb⟩
              refine ⟨_, rfl, ?_⟩
              have n0_ := aM (kB (yK BK314) hb)
              have n1_ := aM (bP (yG1 HB GE314.out) hb)
              clear BK314
              clear HB
              have BK314 := n0_
              have HB := n1_
              clear n0_ n1_
              (try clear hb)
              (try clear hb2)
              (try clear hk)
              (try clear hi)
              refine hK.out _ _ ⟨yV BK314 0, yV BK314 1, yV BK314 2, yV BK314 3, yV BK314 4, (pw_cell_below HB.out hw319_0), (pw_cell_below HB.out hw319_1), (pw_cell_below HB.out hw319_2), (pw_cell_below HB.out hw319_3)⟩ (fun hHeld => ?_)
              clear hK K
              refine norm_ (a' := ?_) ?_ ?_
              rotate_left
              ·
               show Act.put _ (some 50) _ = _
               simp only [Act.put, s1_, s2_, s3_, i64_w, i32_w]
               rfl
              refine yI HT_ 10 (tB 2047 13) rfl rfl fun K hK => ?_
              refine yc Tryd.func48 #[.agg #[.int .i64 a0_0, .string a0_1, .int .i64 a0_2, .int .i64 a0_3, .slice A0_4 l0_4.length c0_4]] rfl rfl ?_
              with_reducible refine (haulageref08_Key.calls k2 a0_0 a0_1 a0_2 a0_3 _ _ l0_4 t321 _ ?side1 ?side2 A27.out).mono ?_
              (case side1 => exact yW (Kd.C_below HR0_4.out HB.out))
              (case side2 => exact HC0_4.out)
              rintro e w34 ⟨rfl, hb⟩
              refine ⟨_, rfl, ?_⟩
              have n0_ := aM (kB (yK BK314) hb)
              have n1_ := aM (bP (yG1 HB GE314.out) hb)
              clear BK314
              clear HB
              have BK314 := n0_
              have HB := n1_
              clear n0_ n1_
              (try clear hb)
              (try clear hb2)
              (try clear hk)
              (try clear hi)
              refine hK.out _ _ ⟨yV BK314 0, yV BK314 1, yV BK314 2, yV BK314 3, yV BK314 4, (pw_cell_below HB.out hw319_0), (pw_cell_below HB.out hw319_1), (pw_cell_below HB.out hw319_2), (pw_cell_below HB.out hw319_3)⟩ (fun hHeld => ?_)
              clear hK K
              refine norm_ (a' := ?_) ?_ ?_
              rotate_left
              ·
               show Act.put _ (some 52) _ = _
               simp only [Act.put, s1_, s2_, s3_, i64_w, i32_w]
               rfl
              refine yP HT_ 11 53 (tB 4095 13) rfl rfl ?_
              refine yP HT_ 12 54 (tB 8191 13) rfl rfl ?_
              refine done_ (done_of HT_.out (by kernel_rfl)) ?_
              try go_wp2
              go_roundg k2
              case measure => have := HK1.out; have := HK2.out; omega
              case rel => exact ⟨(wrap64 (x7_1 + 1)), yS, H', ⟨by have := HK1.out; have := HK2.out; omega⟩, ⟨yK BK314⟩, ⟨yG1 HB GE314.out⟩⟩
            ·
             rw [if_neg c25] at H
             exact absurd H (by simp)
           ·
            rw [if_neg c24] at H
            exact absurd H (by simp)
          ·
           replace c23 := Bool.eq_false_iff.mpr c23
           subst c23
           have H1 : (haulageref08_fields.l0 k2 l1 false (wrap64 (x7_1 + 1)) a0_0 a0_1 a0_2 a0_3 l0_4) = some r := by rw [if_neg (show ¬ (false = true) by decide)] at H; exact H
           clear H
           have H := H1
           clear H1
           have H' := aM H
           clear H
           try go_wp2
           have n0_ := aM (kD BK314.out)
           have n1_ := aM (b1 HB.out)
           clear BK314
           clear HB
           have BK314 := n0_
           have HB := n1_
           clear n0_ n1_
           refine start_ (n := 13) (S := fun w' => True) (ds := []) (tB 0 13) (by kernel_rfl) rfl rfl trivial (fun hHeld => ?_); refine with_tabW haulageref08_fields.tab13 haulageref08_fields.bits13 (fun HT_ HW_ => ?_)
           generalize wr.drew = w35 at BK314 HB hHeld ⊢
           refine yP HT_ 0 42 (tB 1 13) rfl rfl ?_
           refine yP HT_ 1 43 (tB 3 13) rfl rfl ?_
           refine yU HT_ 2 44 (tB 7 13) rfl rfl ?_
           refine yU HT_ 3 45 (tB 15 13) rfl rfl ?_
           refine yU HT_ 4 46 (tB 31 13) rfl rfl ?_
           refine yU HT_ 5 47 (tB 63 13) rfl rfl ?_
           refine yU HT_ 6 48 (tB 127 13) rfl rfl ?_
           refine yU HT_ 7 49 (tB 255 13) rfl rfl ?_
           refine yU HT_ 8 50 (tB 511 13) rfl rfl ?_
           refine yU HT_ 9 51 (tB 1023 13) rfl rfl ?_
           refine yU HT_ 10 52 (tB 2047 13) rfl rfl ?_
           refine yU HT_ 11 53 (tB 4095 13) rfl rfl ?_
           refine yP HT_ 12 54 (tB 8191 13) rfl rfl ?_
           refine done_ (done_of HT_.out (by kernel_rfl)) ?_
           try go_wp2
           go_roundg k2
           case measure => have := HK1.out; have := HK2.out; omega
           case rel => exact ⟨(wrap64 (x7_1 + 1)), yS, H', ⟨by have := HK1.out; have := HK2.out; omega⟩, ⟨yK BK314⟩, ⟨yG1 HB GE314.out⟩⟩
     ·
      rw [if_neg c8] at H
      exact absurd H (by simp)
    ·
     rw [if_neg c7] at H
     have c7b0 : decide (x7_1 < (l1.length : Int)) = false := decide_eq_false c7
     clear c7
     obtain rfl := Option.some.inj H
     go_wp2
     go_ret
     exact ⟨yE, yG1 HB GE314.out⟩
end Go.Proofs.YtdeophpjammbpaaDoor.HSchemaSets

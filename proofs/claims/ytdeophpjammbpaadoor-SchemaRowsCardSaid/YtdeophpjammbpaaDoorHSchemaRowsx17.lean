/- For Go functions that SchemaRows reaches: Lean functions, and walks that show that each call comes to what its Lean function tells; no condition but those that each theorem states. (Made by a program of this session over the kit's print.py.) -/
import Derived.Test.YtdeophpjammbpaaDoorHSchemaRowsx0
import Derived.Test.YtdeophpjammbpaaDoorHSchemaRowsx2
import Derived.Test.YtdeophpjammbpaaDoorHSchemaRowsx16
namespace Go.Proofs.YtdeophpjammbpaaDoor.HSchemaRows
open Go.RowKit Go.Proofs.YtdeophpjammbpaaDoorW.PrintWords Go.Proofs.YtdeophpjammbpaaDoorW.PrintLast Go.Proofs.YtdeophpjammbpaaDoorW.PrintMore
attribute [local go_sem] max2_int min2_int max_two min_two max_three min_three max_four min_four   -- for this text's walks alone
set_option linter.unusedVariables false
set_option linter.unusedSimpArgs false
attribute [local go_sem] hp_s8 hp_s16 hp_s32 hp_s64 hp_m8 hp_m16 hp_m32 hp_m64
attribute [local go_sem high] eqA103
/-! ### schema_Cells: function 32 -/
def schema_Cells.l0 : Nat → List (S52) → List (S103) → List (S54) → Int → Int → Option ((List (S103)) × Int)
 | 0, _, _, _, _, _ => none
 | k + 1, x1, x7, x17, x18, x19 => if x19 < x18 then (if 0 ≤ x19 then (if x19 < (x17.length : Int) then (if x19 < (x1.length : Int) then (if x7.length < 2199023255552 then (schema_Cells.l0 k x1 (x7 ++ [(⟨(rd_T54 x17 x19).f1, (⟨(rd_T54 x17 x19).f2.f0, (rd_T54 x17 x19).f2.f1⟩ : S50), (⟨(rd_T52 x1 x19).f0, (rd_T52 x1 x19).f1, (rd_T52 x1 x19).f2⟩ : S52)⟩ : S103)]) x17 x18 (wrap64 (x19 + 1))) else (none)) else (none)) else (none)) else (none)) else (some (x7, 0))
def schema_Cells.f (k : Nat) (a0_0 : Int) (a0_1 : ByteArray) (a0_2 : Int) (a0_3 : Int) (l0_4 : List (S54)) (l1 : List (S52)) : Option ((List (S103)) × Int) := (schema_Row.f k a0_0 a0_1 a0_2 a0_3 l0_4 l1).bind fun t284 => (if t284 = 0 then (schema_Cells.l0 k l1 ([] : List (S103)) l0_4 (l0_4.length : Int) 0) else (some (([] : List (S103)), t284)))
theorem schema_Cells.mono_l : ∀ k, (∀ y0 y1 y2 y3 y4, LeO (schema_Cells.l0 k y0 y1 y2 y3 y4) (schema_Cells.l0 (k + 1) y0 y1 y2 y3 y4))
 | 0 => fun _ _ _ _ _ r h => by simp [schema_Cells.l0] at h
 | k + 1 => by
  have ih0 := schema_Cells.mono_l k
  ·
   intro y0 y1 y2 y3 y4
   unfold schema_Cells.l0
   repeat' first
   | (with_reducible exact ih0 _ _ _ _ _)
   | (with_reducible exact schema_Row.mono _ _ _ _ _ _ _)
   | (with_reducible exact LeO.refl _)
   | (with_reducible exact LeO.none _)
   | (with_reducible refine LeO.ite ?_ ?_)
   | (with_reducible refine LeO.bind ?_ (fun _ => ?_))
   | exact ih0 _ _ _ _ _
   | exact schema_Row.mono _ _ _ _ _ _ _
   | exact LeO.none _
   | refine LeO.ite ?_ ?_
   | refine LeO.bind ?_ (fun _ => ?_)
theorem schema_Cells.mono : ∀ a0 a1 a2 a3 a4 a5 k, LeO (schema_Cells.f k a0 a1 a2 a3 a4 a5) (schema_Cells.f (k + 1) a0 a1 a2 a3 a4 a5) := by
 intro a0 a1 a2 a3 a4 a5 k
 have ih0 := schema_Cells.mono_l k
 unfold schema_Cells.f
 repeat' first
   | (with_reducible exact ih0 _ _ _ _ _)
   | (with_reducible exact schema_Row.mono _ _ _ _ _ _ _)
   | (with_reducible exact LeO.refl _)
   | (with_reducible exact LeO.none _)
   | (with_reducible refine LeO.ite ?_ ?_)
   | (with_reducible refine LeO.bind ?_ (fun _ => ?_))
   | exact ih0 _ _ _ _ _
   | exact schema_Row.mono _ _ _ _ _ _ _
   | exact LeO.none _
   | refine LeO.ite ?_ ?_
   | refine LeO.bind ?_ (fun _ => ?_)
def schema_Cells.T8 : Bool × List (List Nat × List Nat) := (true, [([], []), ([], []), ([1], [1]), ([], []), ([3], [3]), ([], []), ([], []), ([5, 6], [5, 6]), ([7], [7]), ([2, 4, 8], [2, 4, 8]), ([9], [9]), ([0, 10], [0, 10]), ([11, 11, 0, 1, 2, 3, 4, 5, 6, 7, 8, 9, 10, 11], [0, 11])])
def schema_Cells.B8 : List Nat := [0, 0, 2, 0, 8, 0, 0, 96, 224, 510, 1022, 2047, 4095]
theorem schema_Cells.tab8 : rtab .any (opsOf Tryd.f32 8) = schema_Cells.T8 := by kernel_rfl
theorem schema_Cells.bits8 : waitsOk schema_Cells.T8.2 schema_Cells.B8 = true := by kernel_rfl
set_option maxHeartbeats 8000000 in
set_option maxRecDepth 100000 in
theorem schema_Cells.calls (k : Nat) (a0_0 : Int) (a0_1 : ByteArray) (a0_2 : Int) (a0_3 : Int) (A0_4 : Option Addr) (c0_4 : Nat) (l0_4 : List (S54)) (A1 : Option Addr) (c1 : Nat) (l1 : List (S52)) (r1 : List (S103)) (r2 : Int) (w : World) (hr0_4 : Kd.C k54 w A0_4 l0_4.length l0_4) (hc0_4 : l0_4.length ≤ c0_4) (hr1 : Kd.C k52 w A1 l1.length l1) (hc1 : l1.length ≤ c1) (hG : Glob w) (h : schema_Cells.f k a0_0 a0_1 a0_2 a0_3 l0_4 l1 = some (r1, r2)) :
  Calls Tryd.prog 32 #[.agg #[.int .i64 a0_0, .string a0_1, .int .i64 a0_2, .int .i64 a0_3, .slice A0_4 l0_4.length c0_4], .slice A1 l1.length c1] w fun e w' => ∃ v0_ : Value, e = .returned (.tuple #[v0_, .int .i64 r2]) ∧ Kd.R k103 103 w' w.heap.size (fun _ => True) v0_ r1 ∧ Below w.heap.size w w' := by
 have hu24 := Tryd.underlying24
 have hu54 := Tryd.underlying54
 have hu50 := Tryd.underlying50
 have hu52 := Tryd.underlying52
 have hu103 := Tryd.underlying103
 have HR0_4 := aM hr0_4
 have HC0_4 := aM hc0_4
 clear hr0_4 hc0_4
 have HR1 := aM hr1
 have HC1 := aM hc1
 clear hr1 hc1
 have HG := aM hG
 clear hG
 have HB := aM (Below.refl w.heap.size w)
 have H : ((schema_Row.f k a0_0 a0_1 a0_2 a0_3 l0_4 l1).bind fun t284 => (if t284 = 0 then (schema_Cells.l0 k l1 ([] : List (S103)) l0_4 (l0_4.length : Int) 0) else (some (([] : List (S103)), t284)))) = some (r1, r2) := h
 clear h
 replace H := Option.bind_eq_some_iff.mp H
 obtain ⟨t284, A30, H⟩ := H
 replace H : (if t284 = 0 then (schema_Cells.l0 k l1 ([] : List (S103)) l0_4 (l0_4.length : Int) 0) else (some (([] : List (S103)), t284))) = some (r1, r2) := H
 have A3 := aM A30
 clear A30
 by_cases c4 : t284 = 0
 ·
  rw [if_pos c4] at H
  have c4b0 : (t284 == 0) = true := beq_iff_eq.mpr c4
  have c4b1 : (t284 != 0) = false := bne_eq_false_iff_eq.mpr c4
  clear c4
  have H' := aM H
  clear H
  go_enter Tryd.func32, Tryd.ntmps32
  go_wp2_with (first | ((with_reducible refine gate_dst (N := 2) rfl ?_); refine yX (N := 2) (cs := #[.int .i64 a0_0, .string a0_1, .int .i64 a0_2, .int .i64 a0_3, .slice A0_4 l0_4.length c0_4]) (t := 24) ?_; intro gb283 hg w5 hbox hb; have BK283 := aM (hbox); have GW283 := yZ hg (yB HB); have GE283 := yZ hg (yB HB); replace HB := aM (bP (yB HB) hb); clear hb hbox hg; obtain ⟨hcz6_0, hcz6_1, hcz6_2, hcz6_3, hcz6_4, hfz6_0, hfz6_1, hfz6_2, hfz6_3, hfz6_4⟩ := cells5 BK283.out) | ((with_reducible refine gate_callee (f := 24) rfl ?_); refine yC 12 Tryd.func24 #[.agg #[.int .i64 a0_0, .string a0_1, .int .i64 a0_2, .int .i64 a0_3, .slice A0_4 l0_4.length c0_4], .slice A1 l1.length c1] rfl ?_; (with_reducible refine (schema_Row.calls k a0_0 a0_1 a0_2 a0_3 _ _ l0_4 _ _ l1 t284 _ ?side1 ?side2 ?side3 ?side4 ?side5 A3.out).mono ?_); (case side1 => exact yW (Kd.C_below HR0_4.out HB.out)); (case side2 => exact HC0_4.out); (case side3 => exact yW (Kd.C_below HR1.out HB.out)); (case side4 => exact HC1.out); (case side5 => first | (with_reducible exact HG.out) | exact Glob.below HG.out (yG1 HB GE283.out)); rintro e w7 ⟨rfl, hb⟩; refine ⟨_, rfl, ?_⟩; replace BK283 := aM (kB (yK BK283) hb); replace HB := aM (bP (yG1 HB GE283.out) hb); (try clear hb); obtain ⟨hcz8_0, hcz8_1, hcz8_2, hcz8_3, hcz8_4, hfz8_0, hfz8_1, hfz8_2, hfz8_3, hfz8_4⟩ := cells5 BK283.out))
  go_loopg [7, 19] k (fun kq v7 v19 w' => ∃ (x7_1 : List (S103)) (x19_1 : Int), v19 = .int .i64 x19_1 ∧ Aside0 (schema_Cells.l0 kq l1 x7_1 l0_4 (l0_4.length : Int) x19_1 = some (r1, r2)) ∧ Aside0 (kq ≤ k) ∧ Aside0 (Kd.R k103 103 w' w.heap.size (fun _ => True) v7 x7_1) ∧ Aside0 (w'.heap[gb283]? = some (.cells #[.int .i64 a0_0, .string a0_1, .int .i64 a0_2, .int .i64 a0_3, (.slice A0_4 l0_4.length c0_4)] 24 (0, 0))) ∧ Aside0 (Below w.heap.size w w'))
  case atStart => exact ⟨(([] : List (S103))), (0), yS, H', ⟨Nat.le_refl _⟩, ⟨by first | exact Kd.R_nil _ _ _ _ _ | exact Kd.N_nil _ _ _ _ _ | exact Kd.V_nil _ _ _ _ _ | exact Kd.Q_nil _ _ _ _ _ | exact Kd.S_nil _ _ _ _ _⟩, ⟨yK BK283⟩, ⟨yG1 HB GE283.out⟩⟩
  case round =>
   clear H'
   try clear c1
   try clear c2
   try clear p2
   try clear c3
   try clear c4
   try clear c4b0
   try clear c4b1
   try clear hcz6_0 hcz6_1 hcz6_2 hcz6_3 hcz6_4
   try clear hcz8_0 hcz8_1 hcz8_2 hcz8_3 hcz8_4
   try clear hfz6_0 hfz6_1 hfz6_2 hfz6_3 hfz6_4
   try clear hfz8_0 hfz8_1 hfz8_2 hfz8_3 hfz8_4
   obtain ⟨x7_1, x19_1, rfl, HA, HK1, HO_7, BK283, HB⟩ := hrel
   cases gk with
   | zero => exact absurd HA.out (by simp [schema_Cells.l0])
   | succ k1 =>
    have H := HA.out
    clear HA
    simp only [schema_Cells.l0] at H
    by_cases c9 : x19_1 < (l0_4.length : Int)
    ·
     rw [if_pos c9] at H
     have c9b0 : decide (x19_1 < (l0_4.length : Int)) = true := decide_eq_true c9
     clear c9
     by_cases c10 : 0 ≤ x19_1
     ·
      rw [if_pos c10] at H
      have c10b0 : decide (0 ≤ x19_1) = true := decide_eq_true c10
      clear c10
      by_cases c11 : x19_1 < (l0_4.length : Int)
      ·
       rw [if_pos c11] at H
       have c11b0 : decide (x19_1 < (l0_4.length : Int)) = true := decide_eq_true c11
       clear c11
       by_cases c12 : x19_1 < (l1.length : Int)
       ·
        rw [if_pos c12] at H
        have c12b0 : decide (x19_1 < (l1.length : Int)) = true := decide_eq_true c12
        clear c12
        by_cases c13 : x7_1.length < 2199023255552
        ·
         rw [if_pos c13] at H
         have LMc13 := aM c13
         clear c13
         obtain ⟨y288, hy288⟩ : ∃ y_ : List (S103), y_ = (x7_1 ++ [(⟨(rd_T54 l0_4 x19_1).f1, (⟨(rd_T54 l0_4 x19_1).f2.f0, (rd_T54 l0_4 x19_1).f2.f1⟩ : S50), (⟨(rd_T52 l1 x19_1).f0, (rd_T52 l1 x19_1).f1, (rd_T52 l1 x19_1).f2⟩ : S52)⟩ : S103)]) := ⟨_, rfl⟩
         replace H : (schema_Cells.l0 k1 l1 y288 l0_4 (l0_4.length : Int) (wrap64 (x19_1 + 1))) = some (r1, r2) := by first | (rw [hy288]; with_reducible exact H) | (have H2_ := (Option.bind_some _ _).symm.trans H; rw [hy288]; with_reducible exact H2_) | (have H2_ := (Option.bind_some _ _).symm.trans H; with_reducible exact H2_) | with_reducible exact H | (rw [hy288]; exact H) | exact H
         have Ny288 := aM hy288
         clear hy288
         have H' := aM H
         clear H
         have p285 : 0 ≤ (x19_1 : Int) := oD yA
         have q285 : x19_1 < (l0_4.length : Int) := oD yA
         obtain ⟨ad285, e285, hx285_0, hx285_1, hx285_2, hx285_3, hx285_4, hx285_5, hx285_6, hx285_7⟩ := at_T54 HR0_4.out x19_1 p285 q285
         cases e285
         replace hx285_0 := pw_cell_below HB.out hx285_0
         replace hx285_1 := pw_cell_below HB.out hx285_1
         replace hx285_2 := pw_cell_below HB.out hx285_2
         replace hx285_3 := pw_cell_below HB.out hx285_3
         replace hx285_4 := pw_cell_below HB.out hx285_4
         replace hx285_5 := pw_cell_below HB.out hx285_5
         replace hx285_6 := pw_cell_below HB.out hx285_6
         replace hx285_7 := pw_cell_below HB.out hx285_7
         replace p285 := eq_true p285
         replace q285 := eq_true q285
         try go_wp2_with (first | ((with_reducible refine gate_dst (N := 9) rfl ?_); refine yX (N := 9) (cs := #[.int .i64 0, .string (⟨#[]⟩ : ByteArray), .int .i64 0, .int .i64 0, .bool false, .int .i64 0, .int .i64 0, .string (⟨#[]⟩ : ByteArray)]) (t := 54) ?_; intro gb286 hg w14 hbox hb; replace HO_7 := aM (Kd.R_below (yR HO_7.out) hb); have BK286 := aM (hbox); have GW286 := yZ hg (yG1 HB GE283.out); have GE286 := yZ hg (yG1 HB GE283.out); replace HB := aM (bP (yG1 HB GE283.out) hb); have NB283_286 := yN hg (yK BK283); have NB286_283 := yM hg (yK BK283); replace BK283 := aM (kB (yK BK283) hb); clear hb hbox hg; have hnb15 := NB286_283.out; have hnc15 := NB283_286.out; obtain ⟨hcz16_0, hcz16_1, hcz16_2, hcz16_3, hcz16_4, hcz16_5, hcz16_6, hcz16_7, hfz16_0, hfz16_1, hfz16_2, hfz16_3, hfz16_4, hfz16_5, hfz16_6, hfz16_7⟩ := cells8 BK286.out))
         have n0_ : Aside0 (Kd.R k103 103 ((((((((w14.setCell ⟨gb286, 0, none⟩ (.int .i64 ((rd_T54 l0_4 x19_1).f0))).setCell ⟨gb286, 1, none⟩ (.string ((rd_T54 l0_4 x19_1).f1))).setCell ⟨gb286, 2, none⟩ (.int .i64 ((rd_T54 l0_4 x19_1).f2.f0))).setCell ⟨gb286, 3, none⟩ (.int .i64 ((rd_T54 l0_4 x19_1).f2.f1))).setCell ⟨gb286, 4, none⟩ (.bool ((rd_T54 l0_4 x19_1).f3))).setCell ⟨gb286, 5, none⟩ (.int .i64 ((rd_T54 l0_4 x19_1).f4.f0))).setCell ⟨gb286, 6, none⟩ (.int .i64 ((rd_T54 l0_4 x19_1).f4.f1))).setCell ⟨gb286, 7, none⟩ (.string ((rd_T54 l0_4 x19_1).f4.f2))) w.heap.size (fun _ => True) u7 x7_1) := ⟨by (with_reducible repeat (first | apply Kd.R_alloc | apply Kd.R_drewN | apply Kd.R_drew)); exact Kd.R_mono (Kd.R_far (p := ⟨gb286, 7, none⟩) (Kd.R_far (p := ⟨gb286, 6, none⟩) (Kd.R_far (p := ⟨gb286, 5, none⟩) (Kd.R_far (p := ⟨gb286, 4, none⟩) (Kd.R_far (p := ⟨gb286, 3, none⟩) (Kd.R_far (p := ⟨gb286, 2, none⟩) (Kd.R_far (p := ⟨gb286, 1, none⟩) (Kd.R_far (p := ⟨gb286, 0, none⟩) (Kd.R_types HO_7.out BK286.out (by decide)) (fun _ hk => hk.2) (.int .i64 ((rd_T54 l0_4 x19_1).f0))) (fun _ hk => hk.2) (.string ((rd_T54 l0_4 x19_1).f1))) (fun _ hk => hk.2) (.int .i64 ((rd_T54 l0_4 x19_1).f2.f0))) (fun _ hk => hk.2) (.int .i64 ((rd_T54 l0_4 x19_1).f2.f1))) (fun _ hk => hk.2) (.bool ((rd_T54 l0_4 x19_1).f3))) (fun _ hk => hk.2) (.int .i64 ((rd_T54 l0_4 x19_1).f4.f0))) (fun _ hk => hk.2) (.int .i64 ((rd_T54 l0_4 x19_1).f4.f1))) (fun _ hk => hk.2) (.string ((rd_T54 l0_4 x19_1).f4.f2))) (fun _ hk => trivial)⟩
         have n1_ : Aside0 (((((((((w14.setCell ⟨gb286, 0, none⟩ (.int .i64 ((rd_T54 l0_4 x19_1).f0))).setCell ⟨gb286, 1, none⟩ (.string ((rd_T54 l0_4 x19_1).f1))).setCell ⟨gb286, 2, none⟩ (.int .i64 ((rd_T54 l0_4 x19_1).f2.f0))).setCell ⟨gb286, 3, none⟩ (.int .i64 ((rd_T54 l0_4 x19_1).f2.f1))).setCell ⟨gb286, 4, none⟩ (.bool ((rd_T54 l0_4 x19_1).f3))).setCell ⟨gb286, 5, none⟩ (.int .i64 ((rd_T54 l0_4 x19_1).f4.f0))).setCell ⟨gb286, 6, none⟩ (.int .i64 ((rd_T54 l0_4 x19_1).f4.f1))).setCell ⟨gb286, 7, none⟩ (.string ((rd_T54 l0_4 x19_1).f4.f2))).heap[gb283]? = some (.cells #[.int .i64 a0_0, .string a0_1, .int .i64 a0_2, .int .i64 a0_3, .slice (some ad285) l0_4.length c0_4] 24 (0, 0))) := ⟨yF1 BK283 NB283_286.out⟩
         have n2_ : Aside0 (((((((((w14.setCell ⟨gb286, 0, none⟩ (.int .i64 ((rd_T54 l0_4 x19_1).f0))).setCell ⟨gb286, 1, none⟩ (.string ((rd_T54 l0_4 x19_1).f1))).setCell ⟨gb286, 2, none⟩ (.int .i64 ((rd_T54 l0_4 x19_1).f2.f0))).setCell ⟨gb286, 3, none⟩ (.int .i64 ((rd_T54 l0_4 x19_1).f2.f1))).setCell ⟨gb286, 4, none⟩ (.bool ((rd_T54 l0_4 x19_1).f3))).setCell ⟨gb286, 5, none⟩ (.int .i64 ((rd_T54 l0_4 x19_1).f4.f0))).setCell ⟨gb286, 6, none⟩ (.int .i64 ((rd_T54 l0_4 x19_1).f4.f1))).setCell ⟨gb286, 7, none⟩ (.string ((rd_T54 l0_4 x19_1).f4.f2))).heap[gb286]? = some (.cells #[.int .i64 ((rd_T54 l0_4 x19_1).f0), .string ((rd_T54 l0_4 x19_1).f1), .int .i64 ((rd_T54 l0_4 x19_1).f2.f0), .int .i64 ((rd_T54 l0_4 x19_1).f2.f1), .bool ((rd_T54 l0_4 x19_1).f3), .int .i64 ((rd_T54 l0_4 x19_1).f4.f0), .int .i64 ((rd_T54 l0_4 x19_1).f4.f1), .string ((rd_T54 l0_4 x19_1).f4.f2)] 54 (0, 0))) := ⟨puts8 BK286.out⟩
         have n3_ : Aside0 (Below w.heap.size w ((((((((w14.setCell ⟨gb286, 0, none⟩ (.int .i64 ((rd_T54 l0_4 x19_1).f0))).setCell ⟨gb286, 1, none⟩ (.string ((rd_T54 l0_4 x19_1).f1))).setCell ⟨gb286, 2, none⟩ (.int .i64 ((rd_T54 l0_4 x19_1).f2.f0))).setCell ⟨gb286, 3, none⟩ (.int .i64 ((rd_T54 l0_4 x19_1).f2.f1))).setCell ⟨gb286, 4, none⟩ (.bool ((rd_T54 l0_4 x19_1).f3))).setCell ⟨gb286, 5, none⟩ (.int .i64 ((rd_T54 l0_4 x19_1).f4.f0))).setCell ⟨gb286, 6, none⟩ (.int .i64 ((rd_T54 l0_4 x19_1).f4.f1))).setCell ⟨gb286, 7, none⟩ (.string ((rd_T54 l0_4 x19_1).f4.f2)))) := ⟨yG2 HB GE283.out GE286.out⟩
         (try clear HO_7)
         (try clear BK283)
         (try clear BK286)
         (try clear HB)
         generalize ((((((((w14.setCell ⟨gb286, 0, none⟩ (.int .i64 ((rd_T54 l0_4 x19_1).f0))).setCell ⟨gb286, 1, none⟩ (.string ((rd_T54 l0_4 x19_1).f1))).setCell ⟨gb286, 2, none⟩ (.int .i64 ((rd_T54 l0_4 x19_1).f2.f0))).setCell ⟨gb286, 3, none⟩ (.int .i64 ((rd_T54 l0_4 x19_1).f2.f1))).setCell ⟨gb286, 4, none⟩ (.bool ((rd_T54 l0_4 x19_1).f3))).setCell ⟨gb286, 5, none⟩ (.int .i64 ((rd_T54 l0_4 x19_1).f4.f0))).setCell ⟨gb286, 6, none⟩ (.int .i64 ((rd_T54 l0_4 x19_1).f4.f1))).setCell ⟨gb286, 7, none⟩ (.string ((rd_T54 l0_4 x19_1).f4.f2))) = w17 at n0_ n1_ n2_ n3_ ⊢
         have HO_7 := n0_
         have BK283 := n1_
         have BK286 := n2_
         have HB := n3_
         clear n0_ n1_ n2_ n3_
         have n0_ := aM (Kd.R_drew HO_7.out)
         have n1_ := aM (kD BK283.out)
         have n2_ := aM (kD BK286.out)
         have n3_ := aM (b1 HB.out)
         clear HO_7
         clear BK283
         clear BK286
         clear HB
         have HO_7 := n0_
         have BK283 := n1_
         have BK286 := n2_
         have HB := n3_
         clear n0_ n1_ n2_ n3_
         have p287 : 0 ≤ (x19_1 : Int) := oD yA
         have q287 : x19_1 < (l1.length : Int) := oD yA
         obtain ⟨ad287, e287, hx287_0, hx287_1, hx287_2⟩ := at_T52 HR1.out x19_1 p287 q287
         have hw287_2 := hx287_2
         have hw287_1 := hx287_1
         have hw287_0 := hx287_0
         cases e287
         replace hx287_0 := pw_cell_below HB.out hx287_0
         replace hx287_1 := pw_cell_below HB.out hx287_1
         replace hx287_2 := pw_cell_below HB.out hx287_2
         replace p287 := eq_true p287
         replace q287 := eq_true q287
         refine start_ (n := 13) (S := fun w' => w'.cell? ⟨gb286, 0, none⟩ = some (.int .i64 ((rd_T54 l0_4 x19_1).f0)) ∧ w'.cell? ⟨gb286, 1, none⟩ = some (.string ((rd_T54 l0_4 x19_1).f1)) ∧ w'.cell? ⟨gb286, 2, none⟩ = some (.int .i64 ((rd_T54 l0_4 x19_1).f2.f0)) ∧ w'.cell? ⟨gb286, 3, none⟩ = some (.int .i64 ((rd_T54 l0_4 x19_1).f2.f1)) ∧ w'.cell? ⟨gb286, 4, none⟩ = some (.bool ((rd_T54 l0_4 x19_1).f3)) ∧ w'.cell? ⟨gb286, 5, none⟩ = some (.int .i64 ((rd_T54 l0_4 x19_1).f4.f0)) ∧ w'.cell? ⟨gb286, 6, none⟩ = some (.int .i64 ((rd_T54 l0_4 x19_1).f4.f1)) ∧ w'.cell? ⟨gb286, 7, none⟩ = some (.string ((rd_T54 l0_4 x19_1).f4.f2)) ∧ w'.cell? (ad287.add ((x19_1).toNat * 3)) = some (.int .i64 ((rd_T52 l1 x19_1).f0)) ∧ w'.cell? ⟨(ad287.add ((x19_1).toNat * 3)).block, (ad287.add ((x19_1).toNat * 3)).off + 1, none⟩ = some (.int .i64 ((rd_T52 l1 x19_1).f1)) ∧ w'.cell? ⟨(ad287.add ((x19_1).toNat * 3)).block, (ad287.add ((x19_1).toNat * 3)).off + 2, none⟩ = some (.string ((rd_T52 l1 x19_1).f2))) (ds := []) (tB 0 13) (by kernel_rfl) rfl rfl ⟨yV BK286 0, yV BK286 1, yV BK286 2, yV BK286 3, yV BK286 4, yV BK286 5, yV BK286 6, yV BK286 7, (pw_cell_below HB.out hw287_0), (pw_cell_below HB.out hw287_1), (pw_cell_below HB.out hw287_2)⟩ (fun hHeld => ?_); refine with_tabW schema_Cells.tab8 schema_Cells.bits8 (fun HT_ HW_ => ?_)
         generalize w17.drew = w18 at HO_7 BK283 BK286 HB hx287_0 hx287_1 hx287_2 hHeld ⊢
         refine yP HT_ 0 24 (tB 1 13) rfl rfl ?_
         refine yP HT_ 1 25 (tB 3 13) rfl rfl ?_
         refine yP HT_ 3 27 (tB 11 13) rfl rfl ?_
         refine yP HT_ 5 29 (tB 43 13) rfl rfl ?_
         refine yP HT_ 6 30 (tB 107 13) rfl rfl ?_
         refine yP HT_ 7 31 (tB 235 13) rfl rfl ?_
         refine yT HT_ HW_ 2 26 (tB 239 13) rfl rfl hHeld ?_
         refine yT HT_ HW_ 4 28 (tB 255 13) rfl rfl hHeld ?_
         refine yT HT_ HW_ 8 32 (tB 511 13) rfl rfl hHeld ?_
         refine yP HT_ 9 33 (tB 1023 13) rfl rfl ?_
         refine yI HT_ 10 (tB 2047 13) rfl rfl fun K hK => ?_
         refine value_ (w1 := ?_) (v := ?_) (by rfl) rfl ?_ ?_
         rotate_left 2
         ·
          go_simp
          constructor
          ·
           rfl
          ·
           rfl
         refine hK.out _ _ ⟨(blk_cell (kA BK286.out _) 0).trans rfl, (blk_cell (kA BK286.out _) 1).trans rfl, (blk_cell (kA BK286.out _) 2).trans rfl, (blk_cell (kA BK286.out _) 3).trans rfl, (blk_cell (kA BK286.out _) 4).trans rfl, (blk_cell (kA BK286.out _) 5).trans rfl, (blk_cell (kA BK286.out _) 6).trans rfl, (blk_cell (kA BK286.out _) 7).trans rfl, (World.cell?_alloc_lt _ _ _ (World.block_lt_of_cell? _ _ ((pw_cell_below HB.out hw287_0)))).trans ((pw_cell_below HB.out hw287_0)), (World.cell?_alloc_lt _ _ _ (World.block_lt_of_cell? _ _ ((pw_cell_below HB.out hw287_1)))).trans ((pw_cell_below HB.out hw287_1)), (World.cell?_alloc_lt _ _ _ (World.block_lt_of_cell? _ _ ((pw_cell_below HB.out hw287_2)))).trans ((pw_cell_below HB.out hw287_2))⟩ (fun hHeld => ?_)
         clear hK K
         refine norm_ (a' := ?_) ?_ ?_
         rotate_left
         ·
          show Act.put _ (some 34) _ = _
          simp only [Act.put, s1_, s2_, s3_, i64_w, i32_w]
          rfl
         refine yI HT_ 11 (tB 4095 13) rfl rfl fun K hK => ?_
         refine Kd.R_append_step k103 (w0 := w) w.heap.size (by rfl) (.tmp 24) (.tmp 34) 55 103 (.agg #[(.string ⟨#[]⟩), (.int .i64 0), (.int .i64 0), (.int .i64 0), (.int .i64 0), (.string ⟨#[]⟩)]) 64 rfl Tryd.underlying55 info103 rfl (by decide) (by omega) u7 x7_1 (⟨(rd_T54 l0_4 x19_1).f1, (⟨(rd_T54 l0_4 x19_1).f2.f0, (rd_T54 l0_4 x19_1).f2.f1⟩ : S50), (⟨(rd_T52 l1 x19_1).f0, (rd_T52 l1 x19_1).f1, (rd_T52 l1 x19_1).f2⟩ : S52)⟩ : S103) [.string ((rd_T54 l0_4 x19_1).f1), .int .i64 ((rd_T54 l0_4 x19_1).f2.f0), .int .i64 ((rd_T54 l0_4 x19_1).f2.f1), .int .i64 ((rd_T52 l1 x19_1).f0), .int .i64 ((rd_T52 l1 x19_1).f1), .string ((rd_T52 l1 x19_1).f2)] (fun _ => True) (fun _ => False) rfl rfl ?aP (fun _ hk => hk.elim) ?aF ?aO ?aB ?aS ?aL ?_
         (case aP => exact k103_mkM _ _ _ (⟨(rd_T54 l0_4 x19_1).f1, (⟨(rd_T54 l0_4 x19_1).f2.f0, (rd_T54 l0_4 x19_1).f2.f1⟩ : S50), (⟨(rd_T52 l1 x19_1).f0, (rd_T52 l1 x19_1).f1, (rd_T52 l1 x19_1).f2⟩ : S52)⟩ : S103))
         (case aB => exact (yG2 HB GE283.out GE286.out))
         (case aF => exact (fun _ _ => trivial))
         (case aO => exact (yR HO_7.out))
         (case aS => exact (bZ (yG2 HB GE283.out GE286.out)))
         (case aL => have := LMc13.out; omega)
         intro v289 w19 ho hb hg hat
         rw [← Ny288.out] at ho
         have n0_ := aM (blk_grown (g := gb283) (o := .cells #[.int .i64 a0_0, .string a0_1, .int .i64 a0_2, .int .i64 a0_3, .slice (some ad285) l0_4.length c0_4] 24 (0, 0)) (yK BK283) hg (Kd.R_ne HO_7.out BK283.out (by decide)))
         have n1_ := aM (blk_grown (g := gb286) (o := .cells #[.int .i64 ((rd_T54 l0_4 x19_1).f0), .string ((rd_T54 l0_4 x19_1).f1), .int .i64 ((rd_T54 l0_4 x19_1).f2.f0), .int .i64 ((rd_T54 l0_4 x19_1).f2.f1), .bool ((rd_T54 l0_4 x19_1).f3), .int .i64 ((rd_T54 l0_4 x19_1).f4.f0), .int .i64 ((rd_T54 l0_4 x19_1).f4.f1), .string ((rd_T54 l0_4 x19_1).f4.f2)] 54 (0, 0)) (yK BK286) hg (Kd.R_ne HO_7.out BK286.out (by decide)))
         have n2_ := aM (hb)
         have n3_ := aM (ho)
         clear BK283
         clear BK286
         clear HB
         clear HO_7
         have BK283 := n0_
         have BK286 := n1_
         have HB := n2_
         have HO290 := n3_
         clear n0_ n1_ n2_ n3_
         clear ho hb hg hat
         refine hK.out _ _ ⟨yV BK286 0, yV BK286 1, yV BK286 2, yV BK286 3, yV BK286 4, yV BK286 5, yV BK286 6, yV BK286 7, (pw_cell_below HB.out hw287_0), (pw_cell_below HB.out hw287_1), (pw_cell_below HB.out hw287_2)⟩ (fun hHeld => ?_)
         clear hK K
         refine norm_ (a' := ?_) ?_ ?_
         rotate_left
         ·
          show Act.put _ (some 35) _ = _
          simp only [Act.put, s1_, s2_, s3_, i64_w, i32_w]
          rfl
         refine yP HT_ 12 7 (tB 8191 13) rfl rfl ?_
         refine done_ (done_of HT_.out (by kernel_rfl)) ?_
         try go_wp2
         go_roundg k1
         case measure => have := HK1.out; omega
         case rel => exact ⟨(y288), (wrap64 (x19_1 + 1)), yS, H', ⟨by have := HK1.out; omega⟩, ⟨yR HO290.out⟩, ⟨yK BK283⟩, ⟨yG2 HB GE283.out GE286.out⟩⟩
        ·
         rw [if_neg c13] at H
         exact absurd H (by simp)
       ·
        rw [if_neg c12] at H
        exact absurd H (by simp)
      ·
       rw [if_neg c11] at H
       exact absurd H (by simp)
     ·
      rw [if_neg c10] at H
      exact absurd H (by simp)
    ·
     rw [if_neg c9] at H
     have c9b0 : decide (x19_1 < (l0_4.length : Int)) = false := decide_eq_false c9
     clear c9
     simp only [Option.some.injEq, Prod.mk.injEq] at H
     obtain ⟨rfl, rfl⟩ := H
     go_wp2
     go_ret2
     exact ⟨_, yE, yR HO_7.out, yG1 HB GE283.out⟩
 ·
  rw [if_neg c4] at H
  have c4b0 : (t284 == 0) = false := beq_eq_false_iff_ne.mpr c4
  have c4b1 : (t284 != 0) = true := bne_iff_ne.mpr c4
  simp only [Option.some.injEq, Prod.mk.injEq] at H
  obtain ⟨rfl, rfl⟩ := H
  go_enter Tryd.func32, Tryd.ntmps32
  go_wp2_with (first | ((with_reducible refine gate_dst (N := 2) rfl ?_); refine yX (N := 2) (cs := #[.int .i64 a0_0, .string a0_1, .int .i64 a0_2, .int .i64 a0_3, .slice A0_4 l0_4.length c0_4]) (t := 24) ?_; intro gb283 hg w20 hbox hb; have BK283 := aM (hbox); have GW283 := yZ hg (yB HB); have GE283 := yZ hg (yB HB); replace HB := aM (bP (yB HB) hb); clear hb hbox hg; obtain ⟨hcz21_0, hcz21_1, hcz21_2, hcz21_3, hcz21_4, hfz21_0, hfz21_1, hfz21_2, hfz21_3, hfz21_4⟩ := cells5 BK283.out) | ((with_reducible refine gate_callee (f := 24) rfl ?_); refine yC 12 Tryd.func24 #[.agg #[.int .i64 a0_0, .string a0_1, .int .i64 a0_2, .int .i64 a0_3, .slice A0_4 l0_4.length c0_4], .slice A1 l1.length c1] rfl ?_; (with_reducible refine (schema_Row.calls k a0_0 a0_1 a0_2 a0_3 _ _ l0_4 _ _ l1 t284 _ ?side1 ?side2 ?side3 ?side4 ?side5 A3.out).mono ?_); (case side1 => exact yW (Kd.C_below HR0_4.out HB.out)); (case side2 => exact HC0_4.out); (case side3 => exact yW (Kd.C_below HR1.out HB.out)); (case side4 => exact HC1.out); (case side5 => first | (with_reducible exact HG.out) | exact Glob.below HG.out (yG1 HB GE283.out)); rintro e w22 ⟨rfl, hb⟩; refine ⟨_, rfl, ?_⟩; replace BK283 := aM (kB (yK BK283) hb); replace HB := aM (bP (yG1 HB GE283.out) hb); (try clear hb)))
  go_ret2
  exact ⟨_, yE, by first | exact Kd.R_nil _ _ _ _ _ | exact Kd.N_nil _ _ _ _ _ | exact Kd.V_nil _ _ _ _ _ | exact Kd.Q_nil _ _ _ _ _ | exact Kd.S_nil _ _ _ _ _, yG1 HB GE283.out⟩
/-! ### haulageref08_SameCells: function 33 -/
def haulageref08_SameCells.l0 : Nat → List (S103) → List (S103) → Int → Option (Bool)
 | 0, _, _, _ => none
 | k + 1, x0, x1, x5 => if x5 < (x0.length : Int) then (if 0 ≤ x5 then (if x5 < (x1.length : Int) then (if (!((((rd_T103 x0 x5).f0).toList) == (((rd_T103 x1 x5).f0).toList)) || ((!(((rd_T103 x0 x5).f1.f0) == ((rd_T103 x1 x5).f1.f0)) || (!(((rd_T103 x0 x5).f1.f1) == ((rd_T103 x1 x5).f1.f1)))) || ((!(((rd_T103 x0 x5).f2.f0) == ((rd_T103 x1 x5).f2.f0)) || (!(((rd_T103 x0 x5).f2.f1) == ((rd_T103 x1 x5).f2.f1)) || (!((((rd_T103 x0 x5).f2.f2).toList) == (((rd_T103 x1 x5).f2.f2).toList)))))))) = true then (some false) else (haulageref08_SameCells.l0 k x0 x1 (wrap64 (x5 + 1)))) else (none)) else (none)) else (some true)
def haulageref08_SameCells.f (k : Nat) (l0 : List (S103)) (l1 : List (S103)) : Option (Bool) := if (l0.length : Int) = (l1.length : Int) then (haulageref08_SameCells.l0 k l0 l1 0) else (some false)
theorem haulageref08_SameCells.mono_l : ∀ k, (∀ y0 y1 y2, LeO (haulageref08_SameCells.l0 k y0 y1 y2) (haulageref08_SameCells.l0 (k + 1) y0 y1 y2))
 | 0 => fun _ _ _ r h => by simp [haulageref08_SameCells.l0] at h
 | k + 1 => by
  have ih0 := haulageref08_SameCells.mono_l k
  ·
   intro y0 y1 y2
   unfold haulageref08_SameCells.l0
   repeat' first
   | (with_reducible exact ih0 _ _ _)
   | (with_reducible exact LeO.refl _)
   | (with_reducible exact LeO.none _)
   | (with_reducible refine LeO.ite ?_ ?_)
   | (with_reducible refine LeO.bind ?_ (fun _ => ?_))
   | exact ih0 _ _ _
   | exact LeO.none _
   | refine LeO.ite ?_ ?_
   | refine LeO.bind ?_ (fun _ => ?_)
theorem haulageref08_SameCells.mono : ∀ a0 a1 k, LeO (haulageref08_SameCells.f k a0 a1) (haulageref08_SameCells.f (k + 1) a0 a1) := by
 intro a0 a1 k
 have ih0 := haulageref08_SameCells.mono_l k
 unfold haulageref08_SameCells.f
 repeat' first
   | (with_reducible exact ih0 _ _ _)
   | (with_reducible exact LeO.refl _)
   | (with_reducible exact LeO.none _)
   | (with_reducible refine LeO.ite ?_ ?_)
   | (with_reducible refine LeO.bind ?_ (fun _ => ?_))
   | exact ih0 _ _ _
   | exact LeO.none _
   | refine LeO.ite ?_ ?_
   | refine LeO.bind ?_ (fun _ => ?_)
set_option maxHeartbeats 8000000 in
set_option maxRecDepth 100000 in
theorem haulageref08_SameCells.calls (k : Nat) (A0 : Option Addr) (c0 : Nat) (l0 : List (S103)) (A1 : Option Addr) (c1 : Nat) (l1 : List (S103)) (r : Bool) (w : World) (hr0 : Kd.C k103 w A0 l0.length l0) (hc0 : l0.length ≤ c0) (hr1 : Kd.C k103 w A1 l1.length l1) (hc1 : l1.length ≤ c1) (h : haulageref08_SameCells.f k l0 l1 = some r) :
  Calls Tryd.prog 33 #[.slice A0 l0.length c0, .slice A1 l1.length c1] w fun e w' => e = .returned (.bool r) ∧ Drawn0 w w' := by
 have hu103 := Tryd.underlying103
 have HR0 := aM hr0
 have HC0 := aM hc0
 clear hr0 hc0
 have HR1 := aM hr1
 have HC1 := aM hc1
 clear hr1 hc1
 have H : (if (l0.length : Int) = (l1.length : Int) then (haulageref08_SameCells.l0 k l0 l1 0) else (some false)) = some r := h
 clear h
 by_cases c3 : (l0.length : Int) = (l1.length : Int)
 ·
  rw [if_pos c3] at H
  have c3b0 : ((l0.length : Int) == (l1.length : Int)) = true := beq_iff_eq.mpr c3
  have c3b1 : ((l0.length : Int) != (l1.length : Int)) = false := bne_eq_false_iff_eq.mpr c3
  have c3b2 : (l0.length == l1.length) = true := by first | simpa using c3 | (simp at c3 ⊢; omega)
  clear c3
  have H' := aM H
  clear H
  go_enter Tryd.func33, Tryd.ntmps33
  go_wp2
  repeat (go_quiet (fail); try go_wp2)
  go_loopg [5] k (fun kq v5 w' => ∃ (x5_1 : Int), v5 = .int .i64 x5_1 ∧ Aside0 (haulageref08_SameCells.l0 kq l0 l1 x5_1 = some r) ∧ Aside0 (kq ≤ k) ∧ Drawn0 w w')
  case atStart => exact ⟨(0), yS, H', ⟨Nat.le_refl _⟩, yD⟩
  case round =>
   clear H'
   try clear c1
   try clear p2
   try clear c3
   try clear c3b0
   try clear c3b1
   try clear c3b2
   obtain ⟨x5_1, rfl, HA, HK1, ⟨m1, rfl⟩⟩ := hrel
   cases gk with
   | zero => exact absurd HA.out (by simp [haulageref08_SameCells.l0])
   | succ k1 =>
    have H := HA.out
    clear HA
    simp only [haulageref08_SameCells.l0] at H
    by_cases c4 : x5_1 < (l0.length : Int)
    ·
     rw [if_pos c4] at H
     have c4b0 : decide (x5_1 < (l0.length : Int)) = true := decide_eq_true c4
     clear c4
     by_cases c5 : 0 ≤ x5_1
     ·
      rw [if_pos c5] at H
      have c5b0 : decide (0 ≤ x5_1) = true := decide_eq_true c5
      clear c5
      by_cases c6 : x5_1 < (l1.length : Int)
      ·
       rw [if_pos c6] at H
       have c6b0 : decide (x5_1 < (l1.length : Int)) = true := decide_eq_true c6
       clear c6
       by_cases c7 : (!((((rd_T103 l0 x5_1).f0).toList) == (((rd_T103 l1 x5_1).f0).toList)) || ((!(((rd_T103 l0 x5_1).f1.f0) == ((rd_T103 l1 x5_1).f1.f0)) || (!(((rd_T103 l0 x5_1).f1.f1) == ((rd_T103 l1 x5_1).f1.f1)))) || ((!(((rd_T103 l0 x5_1).f2.f0) == ((rd_T103 l1 x5_1).f2.f0)) || (!(((rd_T103 l0 x5_1).f2.f1) == ((rd_T103 l1 x5_1).f2.f1)) || (!((((rd_T103 l0 x5_1).f2.f2).toList) == (((rd_T103 l1 x5_1).f2.f2).toList)))))))) = true
       ·
        rw [if_pos c7] at H
        have c7b0 : (!((((rd_T103 l0 x5_1).f0).toList) == (((rd_T103 l1 x5_1).f0).toList)) || ((!(((rd_T103 l0 x5_1).f1.f0) == ((rd_T103 l1 x5_1).f1.f0)) || (!(((rd_T103 l0 x5_1).f1.f1) == ((rd_T103 l1 x5_1).f1.f1)))) || ((!(((rd_T103 l0 x5_1).f2.f0) == ((rd_T103 l1 x5_1).f2.f0)) || (!(((rd_T103 l0 x5_1).f2.f1) == ((rd_T103 l1 x5_1).f2.f1)) || (!((((rd_T103 l0 x5_1).f2.f2).toList) == (((rd_T103 l1 x5_1).f2.f2).toList)))))))) = true := c7
        clear c7
        obtain rfl := Option.some.inj H
        have p291 : 0 ≤ (x5_1 : Int) := oD yA
        have q291 : x5_1 < (l0.length : Int) := oD yA
        obtain ⟨ad291, e291, hx291_0, hx291_1, hx291_2, hx291_3, hx291_4, hx291_5⟩ := at_T103 HR0.out x5_1 p291 q291
        cases e291
        replace p291 := eq_true p291
        replace q291 := eq_true q291
        have p292 : 0 ≤ (x5_1 : Int) := oD yA
        have q292 : x5_1 < (l1.length : Int) := oD yA
        obtain ⟨ad292, e292, hx292_0, hx292_1, hx292_2, hx292_3, hx292_4, hx292_5⟩ := at_T103 HR1.out x5_1 p292 q292
        cases e292
        replace p292 := eq_true p292
        replace q292 := eq_true q292
        go_wp2
        repeat (go_quiet (fail); try go_wp2)
        go_ret
        exact ⟨yS, yD⟩
       ·
        rw [if_neg c7] at H
        have c7b0 : (!((((rd_T103 l0 x5_1).f0).toList) == (((rd_T103 l1 x5_1).f0).toList)) || ((!(((rd_T103 l0 x5_1).f1.f0) == ((rd_T103 l1 x5_1).f1.f0)) || (!(((rd_T103 l0 x5_1).f1.f1) == ((rd_T103 l1 x5_1).f1.f1)))) || ((!(((rd_T103 l0 x5_1).f2.f0) == ((rd_T103 l1 x5_1).f2.f0)) || (!(((rd_T103 l0 x5_1).f2.f1) == ((rd_T103 l1 x5_1).f2.f1)) || (!((((rd_T103 l0 x5_1).f2.f2).toList) == (((rd_T103 l1 x5_1).f2.f2).toList)))))))) = false := by simpa using c7
        clear c7
        have H' := aM H
        clear H
        have p291 : 0 ≤ (x5_1 : Int) := oD yA
        have q291 : x5_1 < (l0.length : Int) := oD yA
        obtain ⟨ad291, e291, hx291_0, hx291_1, hx291_2, hx291_3, hx291_4, hx291_5⟩ := at_T103 HR0.out x5_1 p291 q291
        cases e291
        replace p291 := eq_true p291
        replace q291 := eq_true q291
        have p292 : 0 ≤ (x5_1 : Int) := oD yA
        have q292 : x5_1 < (l1.length : Int) := oD yA
        obtain ⟨ad292, e292, hx292_0, hx292_1, hx292_2, hx292_3, hx292_4, hx292_5⟩ := at_T103 HR1.out x5_1 p292 q292
        cases e292
        replace p292 := eq_true p292
        replace q292 := eq_true q292
        go_wp2
        repeat (go_quiet (fail); try go_wp2)
        go_roundg k1
        case measure => have := HK1.out; omega
        case rel => exact ⟨(wrap64 (x5_1 + 1)), yS, H', ⟨by have := HK1.out; omega⟩, yD⟩
      ·
       rw [if_neg c6] at H
       exact absurd H (by simp)
     ·
      rw [if_neg c5] at H
      exact absurd H (by simp)
    ·
     rw [if_neg c4] at H
     have c4b0 : decide (x5_1 < (l0.length : Int)) = false := decide_eq_false c4
     clear c4
     obtain rfl := Option.some.inj H
     go_wp2
     repeat (go_quiet (fail); try go_wp2)
     go_ret
     exact ⟨yS, yD⟩
 ·
  rw [if_neg c3] at H
  have c3b0 : ((l0.length : Int) == (l1.length : Int)) = false := beq_eq_false_iff_ne.mpr c3
  have c3b1 : ((l0.length : Int) != (l1.length : Int)) = true := bne_iff_ne.mpr c3
  have c3b2 : (l0.length == l1.length) = false := by first | simpa using c3 | (simp at c3 ⊢; omega)
  obtain rfl := Option.some.inj H
  go_enter Tryd.func33, Tryd.ntmps33
  go_wp2
  repeat (go_quiet (fail); try go_wp2)
  go_ret
  exact ⟨yS, yD⟩
/-! ### haulageref08_Cells: function 34 -/
def haulageref08_Cells.l0 : Nat → List (S52) → List (S103) → Int → Int → ByteArray → Int → Int → List (S54) → Option ((List (S103)))
 | 0, _, _, _, _, _, _, _, _ => none
 | k + 1, x1, x5, x6, x294000, x294001, x294002, x294003, x294004 => if x6 < (x1.length : Int) then (if 0 ≤ x6 then (if x6 < (x294004.length : Int) then (if x5.length < 2199023255552 then (haulageref08_Cells.l0 k x1 (x5 ++ [(⟨(rd_T54 x294004 x6).f1, (⟨(rd_T54 x294004 x6).f2.f0, (rd_T54 x294004 x6).f2.f1⟩ : S50), (⟨(rd_T52 x1 x6).f0, (rd_T52 x1 x6).f1, (rd_T52 x1 x6).f2⟩ : S52)⟩ : S103)]) (wrap64 (x6 + 1)) x294000 x294001 x294002 x294003 x294004) else (none)) else (none)) else (none)) else (some x5)
def haulageref08_Cells.f (k : Nat) (a0_0 : Int) (a0_1 : ByteArray) (a0_2 : Int) (a0_3 : Int) (l0_4 : List (S54)) (l1 : List (S52)) : Option ((List (S103))) := haulageref08_Cells.l0 k l1 ([] : List (S103)) 0 a0_0 a0_1 a0_2 a0_3 l0_4
theorem haulageref08_Cells.mono_l : ∀ k, (∀ y0 y1 y2 y3 y4 y5 y6 y7, LeO (haulageref08_Cells.l0 k y0 y1 y2 y3 y4 y5 y6 y7) (haulageref08_Cells.l0 (k + 1) y0 y1 y2 y3 y4 y5 y6 y7))
 | 0 => fun _ _ _ _ _ _ _ _ r h => by simp [haulageref08_Cells.l0] at h
 | k + 1 => by
  have ih0 := haulageref08_Cells.mono_l k
  ·
   intro y0 y1 y2 y3 y4 y5 y6 y7
   unfold haulageref08_Cells.l0
   repeat' first
   | (with_reducible exact ih0 _ _ _ _ _ _ _ _)
   | (with_reducible exact LeO.refl _)
   | (with_reducible exact LeO.none _)
   | (with_reducible refine LeO.ite ?_ ?_)
   | (with_reducible refine LeO.bind ?_ (fun _ => ?_))
   | exact ih0 _ _ _ _ _ _ _ _
   | exact LeO.none _
   | refine LeO.ite ?_ ?_
   | refine LeO.bind ?_ (fun _ => ?_)
theorem haulageref08_Cells.mono : ∀ a0 a1 a2 a3 a4 a5 k, LeO (haulageref08_Cells.f k a0 a1 a2 a3 a4 a5) (haulageref08_Cells.f (k + 1) a0 a1 a2 a3 a4 a5) := by
 intro a0 a1 a2 a3 a4 a5 k
 have ih0 := haulageref08_Cells.mono_l k
 unfold haulageref08_Cells.f
 repeat' first
   | (with_reducible exact ih0 _ _ _ _ _ _ _ _)
   | (with_reducible exact LeO.refl _)
   | (with_reducible exact LeO.none _)
   | (with_reducible refine LeO.ite ?_ ?_)
   | (with_reducible refine LeO.bind ?_ (fun _ => ?_))
   | exact ih0 _ _ _ _ _ _ _ _
   | exact LeO.none _
   | refine LeO.ite ?_ ?_
   | refine LeO.bind ?_ (fun _ => ?_)
def haulageref08_Cells.T5 : Bool × List (List Nat × List Nat) := (true, [([], []), ([], []), ([1], [1]), ([], []), ([2, 3], [2, 3]), ([4], [4]), ([5], [5]), ([], []), ([7], [7]), ([], []), ([8, 9], [8, 9]), ([10], [10]), ([11], [11]), ([], []), ([], []), ([13, 14], [13, 14]), ([15], [15]), ([6, 12, 16], [6, 12, 16]), ([17], [17]), ([0, 18], [0, 18]), ([19, 19, 0, 1, 2, 3, 4, 5, 6, 7, 8, 9, 10, 11, 12, 13, 14, 15, 16, 17, 18, 19], [0, 19])])
def haulageref08_Cells.B5 : List Nat := [0, 0, 2, 0, 14, 30, 62, 0, 128, 0, 896, 1920, 3968, 0, 0, 24576, 57344, 131070, 262142, 524287, 1048575]
theorem haulageref08_Cells.tab5 : rtab .any (opsOf Tryd.f34 5) = haulageref08_Cells.T5 := by kernel_rfl
theorem haulageref08_Cells.bits5 : waitsOk haulageref08_Cells.T5.2 haulageref08_Cells.B5 = true := by kernel_rfl
set_option maxHeartbeats 8000000 in
set_option maxRecDepth 100000 in
theorem haulageref08_Cells.calls (k : Nat) (a0_0 : Int) (a0_1 : ByteArray) (a0_2 : Int) (a0_3 : Int) (A0_4 : Option Addr) (c0_4 : Nat) (l0_4 : List (S54)) (A1 : Option Addr) (c1 : Nat) (l1 : List (S52)) (r : List (S103)) (w : World) (hr0_4 : Kd.C k54 w A0_4 l0_4.length l0_4) (hc0_4 : l0_4.length ≤ c0_4) (hr1 : Kd.C k52 w A1 l1.length l1) (hc1 : l1.length ≤ c1) (h : haulageref08_Cells.f k a0_0 a0_1 a0_2 a0_3 l0_4 l1 = some r) :
  Calls Tryd.prog 34 #[.agg #[.int .i64 a0_0, .string a0_1, .int .i64 a0_2, .int .i64 a0_3, .slice A0_4 l0_4.length c0_4], .slice A1 l1.length c1] w fun e w' => ∃ v0_ : Value, e = .returned (v0_) ∧ Kd.R k103 103 w' w.heap.size (fun _ => True) v0_ r ∧ Below w.heap.size w w' := by
 have hu24 := Tryd.underlying24
 have hu50 := Tryd.underlying50
 have hu52 := Tryd.underlying52
 have hu103 := Tryd.underlying103
 have HR0_4 := aM hr0_4
 have HC0_4 := aM hc0_4
 clear hr0_4 hc0_4
 have HR1 := aM hr1
 have HC1 := aM hc1
 clear hr1 hc1
 have HB := aM (Below.refl w.heap.size w)
 have H : (haulageref08_Cells.l0 k l1 ([] : List (S103)) 0 a0_0 a0_1 a0_2 a0_3 l0_4) = some r := h
 clear h
 have H' := aM H
 clear H
 go_enter Tryd.func34, Tryd.ntmps34
 go_wp2_with (first | ((with_reducible refine gate_dst (N := 2) rfl ?_); refine yX (N := 2) (cs := #[.int .i64 a0_0, .string a0_1, .int .i64 a0_2, .int .i64 a0_3, .slice A0_4 l0_4.length c0_4]) (t := 24) ?_; intro gb293 hg w3 hbox hb; have BK293 := aM (hbox); have GW293 := yZ hg (yB HB); have GE293 := yZ hg (yB HB); replace HB := aM (bP (yB HB) hb); clear hb hbox hg))
 go_loopg [5, 6] k (fun kq v5 v6 w' => ∃ (x5_1 : List (S103)) (x6_1 : Int), v6 = .int .i64 x6_1 ∧ Aside0 (haulageref08_Cells.l0 kq l1 x5_1 x6_1 a0_0 a0_1 a0_2 a0_3 l0_4 = some r) ∧ Aside0 (kq ≤ k) ∧ Aside0 (Kd.R k103 103 w' w.heap.size (fun _ => True) v5 x5_1) ∧ Aside0 (w'.heap[gb293]? = some (.cells #[.int .i64 a0_0, .string a0_1, .int .i64 a0_2, .int .i64 a0_3, (.slice A0_4 l0_4.length c0_4)] 24 (0, 0))) ∧ Aside0 (Below w.heap.size w w'))
 case atStart => exact ⟨(([] : List (S103))), (0), yS, H', ⟨Nat.le_refl _⟩, ⟨by first | exact Kd.R_nil _ _ _ _ _ | exact Kd.N_nil _ _ _ _ _ | exact Kd.V_nil _ _ _ _ _ | exact Kd.Q_nil _ _ _ _ _ | exact Kd.S_nil _ _ _ _ _⟩, ⟨yK BK293⟩, ⟨yG1 HB GE293.out⟩⟩
 case round =>
  clear H'
  try clear c1
  try clear p2
  try clear c3
  obtain ⟨x5_1, x6_1, rfl, HA, HK1, HO_5, BK293, HB⟩ := hrel
  cases gk with
  | zero => exact absurd HA.out (by simp [haulageref08_Cells.l0])
  | succ k1 =>
   have H := HA.out
   clear HA
   simp only [haulageref08_Cells.l0] at H
   by_cases c4 : x6_1 < (l1.length : Int)
   ·
    rw [if_pos c4] at H
    have c4b0 : decide (x6_1 < (l1.length : Int)) = true := decide_eq_true c4
    clear c4
    by_cases c5 : 0 ≤ x6_1
    ·
     rw [if_pos c5] at H
     have c5b0 : decide (0 ≤ x6_1) = true := decide_eq_true c5
     clear c5
     by_cases c6 : x6_1 < (l0_4.length : Int)
     ·
      rw [if_pos c6] at H
      have c6b0 : decide (x6_1 < (l0_4.length : Int)) = true := decide_eq_true c6
      clear c6
      by_cases c7 : x5_1.length < 2199023255552
      ·
       rw [if_pos c7] at H
       have LMc7 := aM c7
       clear c7
       obtain ⟨y297, hy297⟩ : ∃ y_ : List (S103), y_ = (x5_1 ++ [(⟨(rd_T54 l0_4 x6_1).f1, (⟨(rd_T54 l0_4 x6_1).f2.f0, (rd_T54 l0_4 x6_1).f2.f1⟩ : S50), (⟨(rd_T52 l1 x6_1).f0, (rd_T52 l1 x6_1).f1, (rd_T52 l1 x6_1).f2⟩ : S52)⟩ : S103)]) := ⟨_, rfl⟩
       replace H : (haulageref08_Cells.l0 k1 l1 y297 (wrap64 (x6_1 + 1)) a0_0 a0_1 a0_2 a0_3 l0_4) = some r := by first | (rw [hy297]; with_reducible exact H) | (have H2_ := (Option.bind_some _ _).symm.trans H; rw [hy297]; with_reducible exact H2_) | (have H2_ := (Option.bind_some _ _).symm.trans H; with_reducible exact H2_) | with_reducible exact H | (rw [hy297]; exact H) | exact H
       have Ny297 := aM hy297
       clear hy297
       have H' := aM H
       clear H
       try go_wp2
       have n0_ := aM (Kd.R_drew HO_5.out)
       have n1_ := aM (kD BK293.out)
       have n2_ := aM (b1 HB.out)
       clear HO_5
       clear BK293
       clear HB
       have HO_5 := n0_
       have BK293 := n1_
       have HB := n2_
       clear n0_ n1_ n2_
       have p294 : 0 ≤ (x6_1 : Int) := oD yA
       have q294 : x6_1 < (l0_4.length : Int) := oD yA
       obtain ⟨ad294, e294, hx294_0, hx294_1, hx294_2, hx294_3, hx294_4, hx294_5, hx294_6, hx294_7⟩ := at_T54 HR0_4.out x6_1 p294 q294
       have hw294_7 := hx294_7
       have hw294_6 := hx294_6
       have hw294_5 := hx294_5
       have hw294_4 := hx294_4
       have hw294_3 := hx294_3
       have hw294_2 := hx294_2
       have hw294_1 := hx294_1
       have hw294_0 := hx294_0
       cases e294
       replace hx294_0 := pw_cell_below HB.out hx294_0
       replace hx294_1 := pw_cell_below HB.out hx294_1
       replace hx294_2 := pw_cell_below HB.out hx294_2
       replace hx294_3 := pw_cell_below HB.out hx294_3
       replace hx294_4 := pw_cell_below HB.out hx294_4
       replace hx294_5 := pw_cell_below HB.out hx294_5
       replace hx294_6 := pw_cell_below HB.out hx294_6
       replace hx294_7 := pw_cell_below HB.out hx294_7
       replace p294 := eq_true p294
       replace q294 := eq_true q294
       have p295 : 0 ≤ (x6_1 : Int) := oD yA
       have q295 : x6_1 < (l0_4.length : Int) := oD yA
       obtain ⟨ad295, e295, hx295_0, hx295_1, hx295_2, hx295_3, hx295_4, hx295_5, hx295_6, hx295_7⟩ := at_T54 HR0_4.out x6_1 p295 q295
       have hw295_7 := hx295_7
       have hw295_6 := hx295_6
       have hw295_5 := hx295_5
       have hw295_4 := hx295_4
       have hw295_3 := hx295_3
       have hw295_2 := hx295_2
       have hw295_1 := hx295_1
       have hw295_0 := hx295_0
       obtain rfl : ad294 = ad295 := (by injection e295)
       replace hx295_0 := pw_cell_below HB.out hx295_0
       replace hx295_1 := pw_cell_below HB.out hx295_1
       replace hx295_2 := pw_cell_below HB.out hx295_2
       replace hx295_3 := pw_cell_below HB.out hx295_3
       replace hx295_4 := pw_cell_below HB.out hx295_4
       replace hx295_5 := pw_cell_below HB.out hx295_5
       replace hx295_6 := pw_cell_below HB.out hx295_6
       replace hx295_7 := pw_cell_below HB.out hx295_7
       replace p295 := eq_true p295
       replace q295 := eq_true q295
       have p296 : 0 ≤ (x6_1 : Int) := oD yA
       have q296 : x6_1 < (l1.length : Int) := oD yA
       obtain ⟨ad296, e296, hx296_0, hx296_1, hx296_2⟩ := at_T52 HR1.out x6_1 p296 q296
       have hw296_2 := hx296_2
       have hw296_1 := hx296_1
       have hw296_0 := hx296_0
       cases e296
       replace hx296_0 := pw_cell_below HB.out hx296_0
       replace hx296_1 := pw_cell_below HB.out hx296_1
       replace hx296_2 := pw_cell_below HB.out hx296_2
       replace p296 := eq_true p296
       replace q296 := eq_true q296
       refine start_ (n := 21) (S := fun w' => w'.cell? ⟨gb293, 0, none⟩ = some (.int .i64 a0_0) ∧ w'.cell? ⟨gb293, 1, none⟩ = some (.string a0_1) ∧ w'.cell? ⟨gb293, 2, none⟩ = some (.int .i64 a0_2) ∧ w'.cell? ⟨gb293, 3, none⟩ = some (.int .i64 a0_3) ∧ w'.cell? ⟨gb293, 4, none⟩ = some (.slice (some ad294) l0_4.length c0_4) ∧ w'.cell? (ad294.add ((x6_1).toNat * 8)) = some (.int .i64 ((rd_T54 l0_4 x6_1).f0)) ∧ w'.cell? ⟨(ad294.add ((x6_1).toNat * 8)).block, (ad294.add ((x6_1).toNat * 8)).off + 1, none⟩ = some (.string ((rd_T54 l0_4 x6_1).f1)) ∧ w'.cell? ⟨(ad294.add ((x6_1).toNat * 8)).block, (ad294.add ((x6_1).toNat * 8)).off + 2, none⟩ = some (.int .i64 ((rd_T54 l0_4 x6_1).f2.f0)) ∧ w'.cell? ⟨(ad294.add ((x6_1).toNat * 8)).block, (ad294.add ((x6_1).toNat * 8)).off + 3, none⟩ = some (.int .i64 ((rd_T54 l0_4 x6_1).f2.f1)) ∧ w'.cell? ⟨(ad294.add ((x6_1).toNat * 8)).block, (ad294.add ((x6_1).toNat * 8)).off + 4, none⟩ = some (.bool ((rd_T54 l0_4 x6_1).f3)) ∧ w'.cell? ⟨(ad294.add ((x6_1).toNat * 8)).block, (ad294.add ((x6_1).toNat * 8)).off + 5, none⟩ = some (.int .i64 ((rd_T54 l0_4 x6_1).f4.f0)) ∧ w'.cell? ⟨(ad294.add ((x6_1).toNat * 8)).block, (ad294.add ((x6_1).toNat * 8)).off + 6, none⟩ = some (.int .i64 ((rd_T54 l0_4 x6_1).f4.f1)) ∧ w'.cell? ⟨(ad294.add ((x6_1).toNat * 8)).block, (ad294.add ((x6_1).toNat * 8)).off + 7, none⟩ = some (.string ((rd_T54 l0_4 x6_1).f4.f2)) ∧ w'.cell? (ad294.add ((x6_1).toNat * 8)) = some (.int .i64 ((rd_T54 l0_4 x6_1).f0)) ∧ w'.cell? ⟨(ad294.add ((x6_1).toNat * 8)).block, (ad294.add ((x6_1).toNat * 8)).off + 1, none⟩ = some (.string ((rd_T54 l0_4 x6_1).f1)) ∧ w'.cell? ⟨(ad294.add ((x6_1).toNat * 8)).block, (ad294.add ((x6_1).toNat * 8)).off + 2, none⟩ = some (.int .i64 ((rd_T54 l0_4 x6_1).f2.f0)) ∧ w'.cell? ⟨(ad294.add ((x6_1).toNat * 8)).block, (ad294.add ((x6_1).toNat * 8)).off + 3, none⟩ = some (.int .i64 ((rd_T54 l0_4 x6_1).f2.f1)) ∧ w'.cell? ⟨(ad294.add ((x6_1).toNat * 8)).block, (ad294.add ((x6_1).toNat * 8)).off + 4, none⟩ = some (.bool ((rd_T54 l0_4 x6_1).f3)) ∧ w'.cell? ⟨(ad294.add ((x6_1).toNat * 8)).block, (ad294.add ((x6_1).toNat * 8)).off + 5, none⟩ = some (.int .i64 ((rd_T54 l0_4 x6_1).f4.f0)) ∧ w'.cell? ⟨(ad294.add ((x6_1).toNat * 8)).block, (ad294.add ((x6_1).toNat * 8)).off + 6, none⟩ = some (.int .i64 ((rd_T54 l0_4 x6_1).f4.f1)) ∧ w'.cell? ⟨(ad294.add ((x6_1).toNat * 8)).block, (ad294.add ((x6_1).toNat * 8)).off + 7, none⟩ = some (.string ((rd_T54 l0_4 x6_1).f4.f2)) ∧ w'.cell? (ad296.add ((x6_1).toNat * 3)) = some (.int .i64 ((rd_T52 l1 x6_1).f0)) ∧ w'.cell? ⟨(ad296.add ((x6_1).toNat * 3)).block, (ad296.add ((x6_1).toNat * 3)).off + 1, none⟩ = some (.int .i64 ((rd_T52 l1 x6_1).f1)) ∧ w'.cell? ⟨(ad296.add ((x6_1).toNat * 3)).block, (ad296.add ((x6_1).toNat * 3)).off + 2, none⟩ = some (.string ((rd_T52 l1 x6_1).f2))) (ds := []) (tB 0 21) (by kernel_rfl) rfl rfl ⟨yV BK293 0, yV BK293 1, yV BK293 2, yV BK293 3, yV BK293 4, (pw_cell_below HB.out hw294_0), (pw_cell_below HB.out hw294_1), (pw_cell_below HB.out hw294_2), (pw_cell_below HB.out hw294_3), (pw_cell_below HB.out hw294_4), (pw_cell_below HB.out hw294_5), (pw_cell_below HB.out hw294_6), (pw_cell_below HB.out hw294_7), (pw_cell_below HB.out hw295_0), (pw_cell_below HB.out hw295_1), (pw_cell_below HB.out hw295_2), (pw_cell_below HB.out hw295_3), (pw_cell_below HB.out hw295_4), (pw_cell_below HB.out hw295_5), (pw_cell_below HB.out hw295_6), (pw_cell_below HB.out hw295_7), (pw_cell_below HB.out hw296_0), (pw_cell_below HB.out hw296_1), (pw_cell_below HB.out hw296_2)⟩ (fun hHeld => ?_); refine with_tabW haulageref08_Cells.tab5 haulageref08_Cells.bits5 (fun HT_ HW_ => ?_)
       generalize wr.drew = w8 at HO_5 BK293 HB hx294_0 hx294_1 hx294_2 hx294_3 hx294_4 hx294_5 hx294_6 hx294_7 hx295_0 hx295_1 hx295_2 hx295_3 hx295_4 hx295_5 hx295_6 hx295_7 hx296_0 hx296_1 hx296_2 hHeld ⊢
       refine yP HT_ 0 13 (tB 1 21) rfl rfl ?_
       refine yP HT_ 1 14 (tB 3 21) rfl rfl ?_
       refine yP HT_ 3 16 (tB 11 21) rfl rfl ?_
       refine yP HT_ 7 20 (tB 139 21) rfl rfl ?_
       refine yP HT_ 9 22 (tB 651 21) rfl rfl ?_
       refine yP HT_ 13 26 (tB 8843 21) rfl rfl ?_
       refine yP HT_ 14 27 (tB 25227 21) rfl rfl ?_
       refine yP HT_ 15 28 (tB 57995 21) rfl rfl ?_
       refine yT HT_ HW_ 2 15 (tB 57999 21) rfl rfl hHeld ?_
       refine yP HT_ 4 17 (tB 58015 21) rfl rfl ?_
       refine yP HT_ 5 18 (tB 58047 21) rfl rfl ?_
       refine yT HT_ HW_ 6 19 (tB 58111 21) rfl rfl hHeld ?_
       refine yT HT_ HW_ 8 21 (tB 58367 21) rfl rfl hHeld ?_
       refine yP HT_ 10 23 (tB 59391 21) rfl rfl ?_
       refine yP HT_ 11 24 (tB 61439 21) rfl rfl ?_
       refine yT HT_ HW_ 12 25 (tB 65535 21) rfl rfl hHeld ?_
       refine yT HT_ HW_ 16 29 (tB 131071 21) rfl rfl hHeld ?_
       refine yP HT_ 17 30 (tB 262143 21) rfl rfl ?_
       refine yI HT_ 18 (tB 524287 21) rfl rfl fun K hK => ?_
       refine value_ (w1 := ?_) (v := ?_) (by rfl) rfl ?_ ?_
       rotate_left 2
       ·
        go_simp
        constructor
        ·
         rfl
        ·
         rfl
       refine hK.out _ _ ⟨(blk_cell (kA BK293.out _) 0).trans rfl, (blk_cell (kA BK293.out _) 1).trans rfl, (blk_cell (kA BK293.out _) 2).trans rfl, (blk_cell (kA BK293.out _) 3).trans rfl, (blk_cell (kA BK293.out _) 4).trans rfl, (World.cell?_alloc_lt _ _ _ (World.block_lt_of_cell? _ _ ((pw_cell_below HB.out hw294_0)))).trans ((pw_cell_below HB.out hw294_0)), (World.cell?_alloc_lt _ _ _ (World.block_lt_of_cell? _ _ ((pw_cell_below HB.out hw294_1)))).trans ((pw_cell_below HB.out hw294_1)), (World.cell?_alloc_lt _ _ _ (World.block_lt_of_cell? _ _ ((pw_cell_below HB.out hw294_2)))).trans ((pw_cell_below HB.out hw294_2)), (World.cell?_alloc_lt _ _ _ (World.block_lt_of_cell? _ _ ((pw_cell_below HB.out hw294_3)))).trans ((pw_cell_below HB.out hw294_3)), (World.cell?_alloc_lt _ _ _ (World.block_lt_of_cell? _ _ ((pw_cell_below HB.out hw294_4)))).trans ((pw_cell_below HB.out hw294_4)), (World.cell?_alloc_lt _ _ _ (World.block_lt_of_cell? _ _ ((pw_cell_below HB.out hw294_5)))).trans ((pw_cell_below HB.out hw294_5)), (World.cell?_alloc_lt _ _ _ (World.block_lt_of_cell? _ _ ((pw_cell_below HB.out hw294_6)))).trans ((pw_cell_below HB.out hw294_6)), (World.cell?_alloc_lt _ _ _ (World.block_lt_of_cell? _ _ ((pw_cell_below HB.out hw294_7)))).trans ((pw_cell_below HB.out hw294_7)), (World.cell?_alloc_lt _ _ _ (World.block_lt_of_cell? _ _ ((pw_cell_below HB.out hw295_0)))).trans ((pw_cell_below HB.out hw295_0)), (World.cell?_alloc_lt _ _ _ (World.block_lt_of_cell? _ _ ((pw_cell_below HB.out hw295_1)))).trans ((pw_cell_below HB.out hw295_1)), (World.cell?_alloc_lt _ _ _ (World.block_lt_of_cell? _ _ ((pw_cell_below HB.out hw295_2)))).trans ((pw_cell_below HB.out hw295_2)), (World.cell?_alloc_lt _ _ _ (World.block_lt_of_cell? _ _ ((pw_cell_below HB.out hw295_3)))).trans ((pw_cell_below HB.out hw295_3)), (World.cell?_alloc_lt _ _ _ (World.block_lt_of_cell? _ _ ((pw_cell_below HB.out hw295_4)))).trans ((pw_cell_below HB.out hw295_4)), (World.cell?_alloc_lt _ _ _ (World.block_lt_of_cell? _ _ ((pw_cell_below HB.out hw295_5)))).trans ((pw_cell_below HB.out hw295_5)), (World.cell?_alloc_lt _ _ _ (World.block_lt_of_cell? _ _ ((pw_cell_below HB.out hw295_6)))).trans ((pw_cell_below HB.out hw295_6)), (World.cell?_alloc_lt _ _ _ (World.block_lt_of_cell? _ _ ((pw_cell_below HB.out hw295_7)))).trans ((pw_cell_below HB.out hw295_7)), (World.cell?_alloc_lt _ _ _ (World.block_lt_of_cell? _ _ ((pw_cell_below HB.out hw296_0)))).trans ((pw_cell_below HB.out hw296_0)), (World.cell?_alloc_lt _ _ _ (World.block_lt_of_cell? _ _ ((pw_cell_below HB.out hw296_1)))).trans ((pw_cell_below HB.out hw296_1)), (World.cell?_alloc_lt _ _ _ (World.block_lt_of_cell? _ _ ((pw_cell_below HB.out hw296_2)))).trans ((pw_cell_below HB.out hw296_2))⟩ (fun hHeld => ?_)
       clear hK K
       refine norm_ (a' := ?_) ?_ ?_
       rotate_left
       ·
        show Act.put _ (some 31) _ = _
        simp only [Act.put, s1_, s2_, s3_, i64_w, i32_w]
        rfl
       refine yI HT_ 19 (tB 1048575 21) rfl rfl fun K hK => ?_
       refine Kd.R_append_step k103 (w0 := w) w.heap.size (by rfl) (.tmp 13) (.tmp 31) 55 103 (.agg #[(.string ⟨#[]⟩), (.int .i64 0), (.int .i64 0), (.int .i64 0), (.int .i64 0), (.string ⟨#[]⟩)]) 64 rfl Tryd.underlying55 info103 rfl (by decide) (by omega) u5 x5_1 (⟨(rd_T54 l0_4 x6_1).f1, (⟨(rd_T54 l0_4 x6_1).f2.f0, (rd_T54 l0_4 x6_1).f2.f1⟩ : S50), (⟨(rd_T52 l1 x6_1).f0, (rd_T52 l1 x6_1).f1, (rd_T52 l1 x6_1).f2⟩ : S52)⟩ : S103) [.string ((rd_T54 l0_4 x6_1).f1), .int .i64 ((rd_T54 l0_4 x6_1).f2.f0), .int .i64 ((rd_T54 l0_4 x6_1).f2.f1), .int .i64 ((rd_T52 l1 x6_1).f0), .int .i64 ((rd_T52 l1 x6_1).f1), .string ((rd_T52 l1 x6_1).f2)] (fun _ => True) (fun _ => False) rfl rfl ?aP (fun _ hk => hk.elim) ?aF ?aO ?aB ?aS ?aL ?_
       (case aP => exact k103_mkM _ _ _ (⟨(rd_T54 l0_4 x6_1).f1, (⟨(rd_T54 l0_4 x6_1).f2.f0, (rd_T54 l0_4 x6_1).f2.f1⟩ : S50), (⟨(rd_T52 l1 x6_1).f0, (rd_T52 l1 x6_1).f1, (rd_T52 l1 x6_1).f2⟩ : S52)⟩ : S103))
       (case aB => exact (yG1 HB GE293.out))
       (case aF => exact (fun _ _ => trivial))
       (case aO => exact (yR HO_5.out))
       (case aS => exact (bZ (yG1 HB GE293.out)))
       (case aL => have := LMc7.out; omega)
       intro v298 w9 ho hb hg hat
       rw [← Ny297.out] at ho
       have n0_ := aM (blk_grown (g := gb293) (o := .cells #[.int .i64 a0_0, .string a0_1, .int .i64 a0_2, .int .i64 a0_3, .slice (some ad294) l0_4.length c0_4] 24 (0, 0)) (yK BK293) hg (Kd.R_ne HO_5.out BK293.out (by decide)))
       have n1_ := aM (hb)
       have n2_ := aM (ho)
       clear BK293
       clear HB
       clear HO_5
       have BK293 := n0_
       have HB := n1_
       have HO299 := n2_
       clear n0_ n1_ n2_
       clear ho hb hg hat
       refine hK.out _ _ ⟨yV BK293 0, yV BK293 1, yV BK293 2, yV BK293 3, yV BK293 4, (pw_cell_below HB.out hw294_0), (pw_cell_below HB.out hw294_1), (pw_cell_below HB.out hw294_2), (pw_cell_below HB.out hw294_3), (pw_cell_below HB.out hw294_4), (pw_cell_below HB.out hw294_5), (pw_cell_below HB.out hw294_6), (pw_cell_below HB.out hw294_7), (pw_cell_below HB.out hw295_0), (pw_cell_below HB.out hw295_1), (pw_cell_below HB.out hw295_2), (pw_cell_below HB.out hw295_3), (pw_cell_below HB.out hw295_4), (pw_cell_below HB.out hw295_5), (pw_cell_below HB.out hw295_6), (pw_cell_below HB.out hw295_7), (pw_cell_below HB.out hw296_0), (pw_cell_below HB.out hw296_1), (pw_cell_below HB.out hw296_2)⟩ (fun hHeld => ?_)
       clear hK K
       refine norm_ (a' := ?_) ?_ ?_
       rotate_left
       ·
        show Act.put _ (some 32) _ = _
        simp only [Act.put, s1_, s2_, s3_, i64_w, i32_w]
        rfl
       refine yP HT_ 20 5 (tB 2097151 21) rfl rfl ?_
       refine done_ (done_of HT_.out (by kernel_rfl)) ?_
       try go_wp2
       go_roundg k1
       case measure => have := HK1.out; omega
       case rel => exact ⟨(y297), (wrap64 (x6_1 + 1)), yS, H', ⟨by have := HK1.out; omega⟩, ⟨yR HO299.out⟩, ⟨yK BK293⟩, ⟨yG1 HB GE293.out⟩⟩
      ·
       rw [if_neg c7] at H
       exact absurd H (by simp)
     ·
      rw [if_neg c6] at H
      exact absurd H (by simp)
    ·
     rw [if_neg c5] at H
     exact absurd H (by simp)
   ·
    rw [if_neg c4] at H
    have c4b0 : decide (x6_1 < (l1.length : Int)) = false := decide_eq_false c4
    clear c4
    obtain rfl := Option.some.inj H
    go_wp2
    go_ret
    exact ⟨_, yE, yR HO_5.out, yG1 HB GE293.out⟩
end Go.Proofs.YtdeophpjammbpaaDoor.HSchemaRows

/- For Go functions that SchemaSets reaches: Lean functions, and walks that show that each call comes to what its Lean function tells; no condition but those that each theorem states. (Made by a program of this session over the kit's print.py.) -/
import Derived.Test.YtdeophpjammbpaaDoorHSchemaSetsx0
import Derived.Test.YtdeophpjammbpaaDoorHSchemaSetsx8
namespace Go.Proofs.YtdeophpjammbpaaDoor.HSchemaSets
open Go.RowKit Go.Proofs.YtdeophpjammbpaaDoorW.PrintWords Go.Proofs.YtdeophpjammbpaaDoorW.PrintLast Go.Proofs.YtdeophpjammbpaaDoorW.PrintMore
attribute [local go_sem] max2_int min2_int max_two min_two max_three min_three max_four min_four   -- for this text's walks alone
set_option linter.unusedVariables false
set_option linter.unusedSimpArgs false
attribute [local go_sem] hp_s8 hp_s16 hp_s32 hp_s64 hp_m8 hp_m16 hp_m32 hp_m64
/-! ### schema_fits: function 67 -/
def schema_fits.l0 : Nat → List (S52) → Int → Int → Int → ByteArray → Int → Int → List (S54) → Option (Int)
 | 0, _, _, _, _, _, _, _, _ => none
 | k + 1, x14, x15, x16, x161000, x161001, x161002, x161003, x161004 => if x16 < x15 then (if 0 ≤ x16 then (if x16 < (x14.length : Int) then (if x16 < (x161004.length : Int) then ((schema_one.f k ((rd_T54 x161004 x16).f0) ((rd_T54 x161004 x16).f1) ((rd_T54 x161004 x16).f2.f0) ((rd_T54 x161004 x16).f2.f1) ((rd_T54 x161004 x16).f3) ((rd_T54 x161004 x16).f4.f0) ((rd_T54 x161004 x16).f4.f1) ((rd_T54 x161004 x16).f4.f2) ((rd_T52 x14 x16).f0) ((rd_T52 x14 x16).f1) ((rd_T52 x14 x16).f2)).bind fun t164 => (if t164 = 0 then (schema_fits.l0 k x14 x15 (wrap64 (x16 + 1)) x161000 x161001 x161002 x161003 x161004) else (some t164))) else (none)) else (none)) else (none)) else (some 0)
def schema_fits.f (k : Nat) (a0_0 : Int) (a0_1 : ByteArray) (a0_2 : Int) (a0_3 : Int) (l0_4 : List (S54)) (l1 : List (S52)) : Option (Int) := if (l1.length : Int) = (l0_4.length : Int) then (schema_fits.l0 k l1 (l1.length : Int) 0 a0_0 a0_1 a0_2 a0_3 l0_4) else (some 5)
theorem schema_fits.mono_l : ∀ k, (∀ y0 y1 y2 y3 y4 y5 y6 y7, LeO (schema_fits.l0 k y0 y1 y2 y3 y4 y5 y6 y7) (schema_fits.l0 (k + 1) y0 y1 y2 y3 y4 y5 y6 y7))
 | 0 => fun _ _ _ _ _ _ _ _ r h => by simp [schema_fits.l0] at h
 | k + 1 => by
  have ih0 := schema_fits.mono_l k
  ·
   intro y0 y1 y2 y3 y4 y5 y6 y7
   unfold schema_fits.l0
   repeat' first
   | (with_reducible exact ih0 _ _ _ _ _ _ _ _)
   | (with_reducible exact schema_one.mono _ _ _ _ _ _ _ _ _ _ _ _)
   | (with_reducible exact LeO.refl _)
   | (with_reducible exact LeO.none _)
   | (with_reducible refine LeO.ite ?_ ?_)
   | (with_reducible refine LeO.bind ?_ (fun _ => ?_))
   | exact ih0 _ _ _ _ _ _ _ _
   | exact schema_one.mono _ _ _ _ _ _ _ _ _ _ _ _
   | exact LeO.none _
   | refine LeO.ite ?_ ?_
   | refine LeO.bind ?_ (fun _ => ?_)
theorem schema_fits.mono : ∀ a0 a1 a2 a3 a4 a5 k, LeO (schema_fits.f k a0 a1 a2 a3 a4 a5) (schema_fits.f (k + 1) a0 a1 a2 a3 a4 a5) := by
 intro a0 a1 a2 a3 a4 a5 k
 have ih0 := schema_fits.mono_l k
 unfold schema_fits.f
 repeat' first
   | (with_reducible exact ih0 _ _ _ _ _ _ _ _)
   | (with_reducible exact schema_one.mono _ _ _ _ _ _ _ _ _ _ _ _)
   | (with_reducible exact LeO.refl _)
   | (with_reducible exact LeO.none _)
   | (with_reducible refine LeO.ite ?_ ?_)
   | (with_reducible refine LeO.bind ?_ (fun _ => ?_))
   | exact ih0 _ _ _ _ _ _ _ _
   | exact schema_one.mono _ _ _ _ _ _ _ _ _ _ _ _
   | exact LeO.none _
   | refine LeO.ite ?_ ?_
   | refine LeO.bind ?_ (fun _ => ?_)
def schema_fits.T6 : Bool × List (List Nat × List Nat) := (true, [([], []), ([0], [0]), ([], []), ([1, 2], [1, 2]), ([3], [3]), ([], []), ([4, 5], [4, 5]), ([6, 6, 0, 1, 2, 3, 4, 5, 6], [6])])
def schema_fits.B6 : List Nat := [0, 1, 0, 7, 15, 0, 63, 127]
theorem schema_fits.tab6 : rtab .any (opsOf Tryd.f67 6) = schema_fits.T6 := by kernel_rfl
theorem schema_fits.bits6 : waitsOk schema_fits.T6.2 schema_fits.B6 = true := by kernel_rfl
set_option maxHeartbeats 8000000 in
set_option maxRecDepth 100000 in
theorem schema_fits.calls (k : Nat) (a0_0 : Int) (a0_1 : ByteArray) (a0_2 : Int) (a0_3 : Int) (A0_4 : Option Addr) (c0_4 : Nat) (l0_4 : List (S54)) (A1 : Option Addr) (c1 : Nat) (l1 : List (S52)) (r : Int) (w : World) (hr0_4 : Kd.C k54 w A0_4 l0_4.length l0_4) (hc0_4 : l0_4.length ≤ c0_4) (hr1 : Kd.C k52 w A1 l1.length l1) (hc1 : l1.length ≤ c1) (hG : Glob w) (h : schema_fits.f k a0_0 a0_1 a0_2 a0_3 l0_4 l1 = some r) :
  Calls Tryd.prog 67 #[.agg #[.int .i64 a0_0, .string a0_1, .int .i64 a0_2, .int .i64 a0_3, .slice A0_4 l0_4.length c0_4], .slice A1 l1.length c1] w fun e w' => e = .returned (.int .i64 r) ∧ Below w.heap.size w w' := by
 have hu24 := Tryd.underlying24
 have hu52 := Tryd.underlying52
 have hu54 := Tryd.underlying54
 have HR0_4 := aM hr0_4
 have HC0_4 := aM hc0_4
 clear hr0_4 hc0_4
 have HR1 := aM hr1
 have HC1 := aM hc1
 clear hr1 hc1
 have HG := aM hG
 clear hG
 have HB := aM (Below.refl w.heap.size w)
 have H : (if (l1.length : Int) = (l0_4.length : Int) then (schema_fits.l0 k l1 (l1.length : Int) 0 a0_0 a0_1 a0_2 a0_3 l0_4) else (some 5)) = some r := h
 clear h
 by_cases c3 : (l1.length : Int) = (l0_4.length : Int)
 ·
  rw [if_pos c3] at H
  have c3b0 : ((l1.length : Int) == (l0_4.length : Int)) = true := beq_iff_eq.mpr c3
  have c3b1 : ((l1.length : Int) != (l0_4.length : Int)) = false := bne_eq_false_iff_eq.mpr c3
  have c3b2 : (l1.length == l0_4.length) = true := by first | simpa using c3 | (simp at c3 ⊢; omega)
  clear c3
  have H' := aM H
  clear H
  go_enter Tryd.func67, Tryd.ntmps67
  go_wp2_with (first | ((with_reducible refine gate_dst (N := 2) rfl ?_); refine yX (N := 2) (cs := #[.int .i64 a0_0, .string a0_1, .int .i64 a0_2, .int .i64 a0_3, .slice A0_4 l0_4.length c0_4]) (t := 24) ?_; intro gb160 hg w4 hbox hb; have BK160 := aM (hbox); have GW160 := yZ hg (yB HB); have GE160 := yZ hg (yB HB); replace HB := aM (bP (yB HB) hb); clear hb hbox hg; obtain ⟨hcz5_0, hcz5_1, hcz5_2, hcz5_3, hcz5_4, hfz5_0, hfz5_1, hfz5_2, hfz5_3, hfz5_4⟩ := cells5 BK160.out))
  go_loopg [16] k (fun kq v16 w' => ∃ (x16_1 : Int), v16 = .int .i64 x16_1 ∧ Aside0 (schema_fits.l0 kq l1 (l1.length : Int) x16_1 a0_0 a0_1 a0_2 a0_3 l0_4 = some r) ∧ Aside0 (kq ≤ k) ∧ Aside0 (w'.heap[gb160]? = some (.cells #[.int .i64 a0_0, .string a0_1, .int .i64 a0_2, .int .i64 a0_3, (.slice A0_4 l0_4.length c0_4)] 24 (0, 0))) ∧ Aside0 (Below w.heap.size w w'))
  case atStart => exact ⟨(0), yS, H', ⟨Nat.le_refl _⟩, ⟨yK BK160⟩, ⟨yG1 HB GE160.out⟩⟩
  case round =>
   clear H'
   try clear c1
   try clear p2
   try clear c3
   try clear c3b0
   try clear c3b1
   try clear c3b2
   try clear hcz5_0 hcz5_1 hcz5_2 hcz5_3 hcz5_4
   try clear hfz5_0 hfz5_1 hfz5_2 hfz5_3 hfz5_4
   obtain ⟨x16_1, rfl, HA, HK1, BK160, HB⟩ := hrel
   cases gk with
   | zero => exact absurd HA.out (by simp [schema_fits.l0])
   | succ k1 =>
    have H := HA.out
    clear HA
    simp only [schema_fits.l0] at H
    by_cases c6 : x16_1 < (l1.length : Int)
    ·
     rw [if_pos c6] at H
     have c6b0 : decide (x16_1 < (l1.length : Int)) = true := decide_eq_true c6
     clear c6
     by_cases c7 : 0 ≤ x16_1
     ·
      rw [if_pos c7] at H
      have c7b0 : decide (0 ≤ x16_1) = true := decide_eq_true c7
      clear c7
      by_cases c8 : x16_1 < (l1.length : Int)
      ·
       rw [if_pos c8] at H
       have c8b0 : decide (x16_1 < (l1.length : Int)) = true := decide_eq_true c8
       clear c8
       by_cases c9 : x16_1 < (l0_4.length : Int)
       ·
        rw [if_pos c9] at H
        have c9b0 : decide (x16_1 < (l0_4.length : Int)) = true := decide_eq_true c9
        clear c9
        replace H := Option.bind_eq_some_iff.mp H
        obtain ⟨t164, A100, H⟩ := H
        replace H : (if t164 = 0 then (schema_fits.l0 k1 l1 (l1.length : Int) (wrap64 (x16_1 + 1)) a0_0 a0_1 a0_2 a0_3 l0_4) else (some t164)) = some r := H
        have A10 := aM A100
        clear A100
        by_cases c11 : t164 = 0
        ·
         rw [if_pos c11] at H
         have c11b0 : (t164 == 0) = true := beq_iff_eq.mpr c11
         have c11b1 : (t164 != 0) = false := bne_eq_false_iff_eq.mpr c11
         clear c11
         have H' := aM H
         clear H
         have p161 : 0 ≤ (x16_1 : Int) := oD yA
         have q161 : x16_1 < (l1.length : Int) := oD yA
         obtain ⟨ad161, e161, hx161_0, hx161_1, hx161_2⟩ := at_T52 HR1.out x16_1 p161 q161
         cases e161
         replace hx161_0 := pw_cell_below HB.out hx161_0
         replace hx161_1 := pw_cell_below HB.out hx161_1
         replace hx161_2 := pw_cell_below HB.out hx161_2
         replace p161 := eq_true p161
         replace q161 := eq_true q161
         try go_wp2_with (first | ((with_reducible refine gate_dst (N := 6) rfl ?_); refine yX (N := 6) (cs := #[.int .i64 0, .int .i64 0, .string (⟨#[]⟩ : ByteArray)]) (t := 52) ?_; intro gb162 hg w12 hbox hb; have BK162 := aM (hbox); have GW162 := yZ hg (yG1 HB GE160.out); have GE162 := yZ hg (yG1 HB GE160.out); replace HB := aM (bP (yG1 HB GE160.out) hb); have NB160_162 := yN hg (yK BK160); have NB162_160 := yM hg (yK BK160); replace BK160 := aM (kB (yK BK160) hb); clear hb hbox hg; have hnb13 := NB162_160.out; have hnc13 := NB160_162.out; obtain ⟨hcz14_0, hcz14_1, hcz14_2, hfz14_0, hfz14_1, hfz14_2⟩ := cells3 BK162.out))
         have n0_ : Aside0 ((((w12.setCell ⟨gb162, 0, none⟩ (.int .i64 ((rd_T52 l1 x16_1).f0))).setCell ⟨gb162, 1, none⟩ (.int .i64 ((rd_T52 l1 x16_1).f1))).setCell ⟨gb162, 2, none⟩ (.string ((rd_T52 l1 x16_1).f2))).heap[gb160]? = some (.cells #[.int .i64 a0_0, .string a0_1, .int .i64 a0_2, .int .i64 a0_3, .slice A0_4 l0_4.length c0_4] 24 (0, 0))) := ⟨yF1 BK160 NB160_162.out⟩
         have n1_ : Aside0 ((((w12.setCell ⟨gb162, 0, none⟩ (.int .i64 ((rd_T52 l1 x16_1).f0))).setCell ⟨gb162, 1, none⟩ (.int .i64 ((rd_T52 l1 x16_1).f1))).setCell ⟨gb162, 2, none⟩ (.string ((rd_T52 l1 x16_1).f2))).heap[gb162]? = some (.cells #[.int .i64 ((rd_T52 l1 x16_1).f0), .int .i64 ((rd_T52 l1 x16_1).f1), .string ((rd_T52 l1 x16_1).f2)] 52 (0, 0))) := ⟨puts3 BK162.out⟩
         have n2_ : Aside0 (Below w.heap.size w (((w12.setCell ⟨gb162, 0, none⟩ (.int .i64 ((rd_T52 l1 x16_1).f0))).setCell ⟨gb162, 1, none⟩ (.int .i64 ((rd_T52 l1 x16_1).f1))).setCell ⟨gb162, 2, none⟩ (.string ((rd_T52 l1 x16_1).f2)))) := ⟨yG2 HB GE160.out GE162.out⟩
         (try clear BK160)
         (try clear BK162)
         (try clear HB)
         generalize (((w12.setCell ⟨gb162, 0, none⟩ (.int .i64 ((rd_T52 l1 x16_1).f0))).setCell ⟨gb162, 1, none⟩ (.int .i64 ((rd_T52 l1 x16_1).f1))).setCell ⟨gb162, 2, none⟩ (.string ((rd_T52 l1 x16_1).f2))) = w15 at n0_ n1_ n2_ ⊢
         have BK160 := n0_
         have BK162 := n1_
         have HB := n2_
         clear n0_ n1_ n2_
         have n0_ := aM (kD BK160.out)
         have n1_ := aM (kD BK162.out)
         have n2_ := aM (b1 HB.out)
         clear BK160
         clear BK162
         clear HB
         have BK160 := n0_
         have BK162 := n1_
         have HB := n2_
         clear n0_ n1_ n2_
         have p163 : 0 ≤ (x16_1 : Int) := oD yA
         have q163 : x16_1 < (l0_4.length : Int) := oD yA
         obtain ⟨ad163, e163, hx163_0, hx163_1, hx163_2, hx163_3, hx163_4, hx163_5, hx163_6, hx163_7⟩ := at_T54 HR0_4.out x16_1 p163 q163
         have hw163_7 := hx163_7
         have hw163_6 := hx163_6
         have hw163_5 := hx163_5
         have hw163_4 := hx163_4
         have hw163_3 := hx163_3
         have hw163_2 := hx163_2
         have hw163_1 := hx163_1
         have hw163_0 := hx163_0
         cases e163
         replace hx163_0 := pw_cell_below HB.out hx163_0
         replace hx163_1 := pw_cell_below HB.out hx163_1
         replace hx163_2 := pw_cell_below HB.out hx163_2
         replace hx163_3 := pw_cell_below HB.out hx163_3
         replace hx163_4 := pw_cell_below HB.out hx163_4
         replace hx163_5 := pw_cell_below HB.out hx163_5
         replace hx163_6 := pw_cell_below HB.out hx163_6
         replace hx163_7 := pw_cell_below HB.out hx163_7
         replace p163 := eq_true p163
         replace q163 := eq_true q163
         refine start_ (n := 8) (S := fun w' => w'.cell? ⟨gb160, 0, none⟩ = some (.int .i64 a0_0) ∧ w'.cell? ⟨gb160, 1, none⟩ = some (.string a0_1) ∧ w'.cell? ⟨gb160, 2, none⟩ = some (.int .i64 a0_2) ∧ w'.cell? ⟨gb160, 3, none⟩ = some (.int .i64 a0_3) ∧ w'.cell? ⟨gb160, 4, none⟩ = some (.slice (some ad163) l0_4.length c0_4) ∧ w'.cell? ⟨gb162, 0, none⟩ = some (.int .i64 ((rd_T52 l1 x16_1).f0)) ∧ w'.cell? ⟨gb162, 1, none⟩ = some (.int .i64 ((rd_T52 l1 x16_1).f1)) ∧ w'.cell? ⟨gb162, 2, none⟩ = some (.string ((rd_T52 l1 x16_1).f2)) ∧ w'.cell? (ad163.add ((x16_1).toNat * 8)) = some (.int .i64 ((rd_T54 l0_4 x16_1).f0)) ∧ w'.cell? ⟨(ad163.add ((x16_1).toNat * 8)).block, (ad163.add ((x16_1).toNat * 8)).off + 1, none⟩ = some (.string ((rd_T54 l0_4 x16_1).f1)) ∧ w'.cell? ⟨(ad163.add ((x16_1).toNat * 8)).block, (ad163.add ((x16_1).toNat * 8)).off + 2, none⟩ = some (.int .i64 ((rd_T54 l0_4 x16_1).f2.f0)) ∧ w'.cell? ⟨(ad163.add ((x16_1).toNat * 8)).block, (ad163.add ((x16_1).toNat * 8)).off + 3, none⟩ = some (.int .i64 ((rd_T54 l0_4 x16_1).f2.f1)) ∧ w'.cell? ⟨(ad163.add ((x16_1).toNat * 8)).block, (ad163.add ((x16_1).toNat * 8)).off + 4, none⟩ = some (.bool ((rd_T54 l0_4 x16_1).f3)) ∧ w'.cell? ⟨(ad163.add ((x16_1).toNat * 8)).block, (ad163.add ((x16_1).toNat * 8)).off + 5, none⟩ = some (.int .i64 ((rd_T54 l0_4 x16_1).f4.f0)) ∧ w'.cell? ⟨(ad163.add ((x16_1).toNat * 8)).block, (ad163.add ((x16_1).toNat * 8)).off + 6, none⟩ = some (.int .i64 ((rd_T54 l0_4 x16_1).f4.f1)) ∧ w'.cell? ⟨(ad163.add ((x16_1).toNat * 8)).block, (ad163.add ((x16_1).toNat * 8)).off + 7, none⟩ = some (.string ((rd_T54 l0_4 x16_1).f4.f2))) (ds := []) (tB 0 8) (by kernel_rfl) rfl rfl ⟨yV BK160 0, yV BK160 1, yV BK160 2, yV BK160 3, yV BK160 4, yV BK162 0, yV BK162 1, yV BK162 2, (pw_cell_below HB.out hw163_0), (pw_cell_below HB.out hw163_1), (pw_cell_below HB.out hw163_2), (pw_cell_below HB.out hw163_3), (pw_cell_below HB.out hw163_4), (pw_cell_below HB.out hw163_5), (pw_cell_below HB.out hw163_6), (pw_cell_below HB.out hw163_7)⟩ (fun hHeld => ?_); refine with_tabW schema_fits.tab6 schema_fits.bits6 (fun HT_ HW_ => ?_)
         generalize w15.drew = w16 at BK160 BK162 HB hx163_0 hx163_1 hx163_2 hx163_3 hx163_4 hx163_5 hx163_6 hx163_7 hHeld ⊢
         refine yP HT_ 0 21 (tB 1 8) rfl rfl ?_
         refine yP HT_ 2 23 (tB 5 8) rfl rfl ?_
         refine yT HT_ HW_ 1 22 (tB 7 8) rfl rfl hHeld ?_
         refine yP HT_ 3 24 (tB 15 8) rfl rfl ?_
         refine yT HT_ HW_ 4 25 (tB 31 8) rfl rfl hHeld ?_
         refine yT HT_ HW_ 5 26 (tB 63 8) rfl rfl hHeld ?_
         refine yI HT_ 6 (tB 127 8) rfl rfl fun K hK => ?_
         refine yc Tryd.func94 #[.agg #[.int .i64 ((rd_T54 l0_4 x16_1).f0), .string ((rd_T54 l0_4 x16_1).f1), .int .i64 ((rd_T54 l0_4 x16_1).f2.f0), .int .i64 ((rd_T54 l0_4 x16_1).f2.f1), .bool ((rd_T54 l0_4 x16_1).f3), .int .i64 ((rd_T54 l0_4 x16_1).f4.f0), .int .i64 ((rd_T54 l0_4 x16_1).f4.f1), .string ((rd_T54 l0_4 x16_1).f4.f2)], .agg #[.int .i64 ((rd_T52 l1 x16_1).f0), .int .i64 ((rd_T52 l1 x16_1).f1), .string ((rd_T52 l1 x16_1).f2)]] rfl rfl ?_
         with_reducible refine (schema_one.calls k1 ((rd_T54 l0_4 x16_1).f0) ((rd_T54 l0_4 x16_1).f1) ((rd_T54 l0_4 x16_1).f2.f0) ((rd_T54 l0_4 x16_1).f2.f1) ((rd_T54 l0_4 x16_1).f3) ((rd_T54 l0_4 x16_1).f4.f0) ((rd_T54 l0_4 x16_1).f4.f1) ((rd_T54 l0_4 x16_1).f4.f2) ((rd_T52 l1 x16_1).f0) ((rd_T52 l1 x16_1).f1) ((rd_T52 l1 x16_1).f2) t164 _ ?side1 A10.out).mono ?_
         (case side1 => first | (with_reducible exact HG.out) | exact Glob.below HG.out (yG2 HB GE160.out GE162.out))
         rintro e w17 ⟨rfl, hb⟩
         refine ⟨_, rfl, ?_⟩
         have n0_ := aM (kB (yK BK160) hb)
         have n1_ := aM (kB (yK BK162) hb)
         have n2_ := aM (bP (yG2 HB GE160.out GE162.out) hb)
         clear BK160
         clear BK162
         clear HB
         have BK160 := n0_
         have BK162 := n1_
         have HB := n2_
         clear n0_ n1_ n2_
         (try clear hb)
         (try clear hb2)
         (try clear hk)
         (try clear hi)
         refine hK.out _ _ ⟨yV BK160 0, yV BK160 1, yV BK160 2, yV BK160 3, yV BK160 4, yV BK162 0, yV BK162 1, yV BK162 2, (pw_cell_below HB.out hw163_0), (pw_cell_below HB.out hw163_1), (pw_cell_below HB.out hw163_2), (pw_cell_below HB.out hw163_3), (pw_cell_below HB.out hw163_4), (pw_cell_below HB.out hw163_5), (pw_cell_below HB.out hw163_6), (pw_cell_below HB.out hw163_7)⟩ (fun hHeld => ?_)
         clear hK K
         refine norm_ (a' := ?_) ?_ ?_
         rotate_left
         ·
          show Act.put _ (some 27) _ = _
          simp only [Act.put, s1_, s2_, s3_, i64_w, i32_w]
          rfl
         refine yP HT_ 7 7 (tB 255 8) rfl rfl ?_
         refine done_ (done_of HT_.out (by kernel_rfl)) ?_
         try go_wp2
         go_roundg k1
         case measure => have := HK1.out; omega
         case rel => exact ⟨(wrap64 (x16_1 + 1)), yS, H', ⟨by have := HK1.out; omega⟩, ⟨yK BK160⟩, ⟨yG2 HB GE160.out GE162.out⟩⟩
        ·
         rw [if_neg c11] at H
         have c11b0 : (t164 == 0) = false := beq_eq_false_iff_ne.mpr c11
         have c11b1 : (t164 != 0) = true := bne_iff_ne.mpr c11
         obtain rfl := Option.some.inj H
         have p161 : 0 ≤ (x16_1 : Int) := oD yA
         have q161 : x16_1 < (l1.length : Int) := oD yA
         obtain ⟨ad161, e161, hx161_0, hx161_1, hx161_2⟩ := at_T52 HR1.out x16_1 p161 q161
         cases e161
         replace hx161_0 := pw_cell_below HB.out hx161_0
         replace hx161_1 := pw_cell_below HB.out hx161_1
         replace hx161_2 := pw_cell_below HB.out hx161_2
         replace p161 := eq_true p161
         replace q161 := eq_true q161
         try go_wp2_with (first | ((with_reducible refine gate_dst (N := 6) rfl ?_); refine yX (N := 6) (cs := #[.int .i64 0, .int .i64 0, .string (⟨#[]⟩ : ByteArray)]) (t := 52) ?_; intro gb162 hg w18 hbox hb; have BK162 := aM (hbox); have GW162 := yZ hg (yG1 HB GE160.out); have GE162 := yZ hg (yG1 HB GE160.out); replace HB := aM (bP (yG1 HB GE160.out) hb); have NB160_162 := yN hg (yK BK160); have NB162_160 := yM hg (yK BK160); replace BK160 := aM (kB (yK BK160) hb); clear hb hbox hg; have hnb19 := NB162_160.out; have hnc19 := NB160_162.out; obtain ⟨hcz20_0, hcz20_1, hcz20_2, hfz20_0, hfz20_1, hfz20_2⟩ := cells3 BK162.out))
         have n0_ : Aside0 ((((w18.setCell ⟨gb162, 0, none⟩ (.int .i64 ((rd_T52 l1 x16_1).f0))).setCell ⟨gb162, 1, none⟩ (.int .i64 ((rd_T52 l1 x16_1).f1))).setCell ⟨gb162, 2, none⟩ (.string ((rd_T52 l1 x16_1).f2))).heap[gb160]? = some (.cells #[.int .i64 a0_0, .string a0_1, .int .i64 a0_2, .int .i64 a0_3, .slice A0_4 l0_4.length c0_4] 24 (0, 0))) := ⟨yF1 BK160 NB160_162.out⟩
         have n1_ : Aside0 ((((w18.setCell ⟨gb162, 0, none⟩ (.int .i64 ((rd_T52 l1 x16_1).f0))).setCell ⟨gb162, 1, none⟩ (.int .i64 ((rd_T52 l1 x16_1).f1))).setCell ⟨gb162, 2, none⟩ (.string ((rd_T52 l1 x16_1).f2))).heap[gb162]? = some (.cells #[.int .i64 ((rd_T52 l1 x16_1).f0), .int .i64 ((rd_T52 l1 x16_1).f1), .string ((rd_T52 l1 x16_1).f2)] 52 (0, 0))) := ⟨puts3 BK162.out⟩
         have n2_ : Aside0 (Below w.heap.size w (((w18.setCell ⟨gb162, 0, none⟩ (.int .i64 ((rd_T52 l1 x16_1).f0))).setCell ⟨gb162, 1, none⟩ (.int .i64 ((rd_T52 l1 x16_1).f1))).setCell ⟨gb162, 2, none⟩ (.string ((rd_T52 l1 x16_1).f2)))) := ⟨yG2 HB GE160.out GE162.out⟩
         (try clear BK160)
         (try clear BK162)
         (try clear HB)
         generalize (((w18.setCell ⟨gb162, 0, none⟩ (.int .i64 ((rd_T52 l1 x16_1).f0))).setCell ⟨gb162, 1, none⟩ (.int .i64 ((rd_T52 l1 x16_1).f1))).setCell ⟨gb162, 2, none⟩ (.string ((rd_T52 l1 x16_1).f2))) = w21 at n0_ n1_ n2_ ⊢
         have BK160 := n0_
         have BK162 := n1_
         have HB := n2_
         clear n0_ n1_ n2_
         have n0_ := aM (kD BK160.out)
         have n1_ := aM (kD BK162.out)
         have n2_ := aM (b1 HB.out)
         clear BK160
         clear BK162
         clear HB
         have BK160 := n0_
         have BK162 := n1_
         have HB := n2_
         clear n0_ n1_ n2_
         have p163 : 0 ≤ (x16_1 : Int) := oD yA
         have q163 : x16_1 < (l0_4.length : Int) := oD yA
         obtain ⟨ad163, e163, hx163_0, hx163_1, hx163_2, hx163_3, hx163_4, hx163_5, hx163_6, hx163_7⟩ := at_T54 HR0_4.out x16_1 p163 q163
         have hw163_7 := hx163_7
         have hw163_6 := hx163_6
         have hw163_5 := hx163_5
         have hw163_4 := hx163_4
         have hw163_3 := hx163_3
         have hw163_2 := hx163_2
         have hw163_1 := hx163_1
         have hw163_0 := hx163_0
         cases e163
         replace hx163_0 := pw_cell_below HB.out hx163_0
         replace hx163_1 := pw_cell_below HB.out hx163_1
         replace hx163_2 := pw_cell_below HB.out hx163_2
         replace hx163_3 := pw_cell_below HB.out hx163_3
         replace hx163_4 := pw_cell_below HB.out hx163_4
         replace hx163_5 := pw_cell_below HB.out hx163_5
         replace hx163_6 := pw_cell_below HB.out hx163_6
         replace hx163_7 := pw_cell_below HB.out hx163_7
         replace p163 := eq_true p163
         replace q163 := eq_true q163
         refine start_ (n := 8) (S := fun w' => w'.cell? ⟨gb160, 0, none⟩ = some (.int .i64 a0_0) ∧ w'.cell? ⟨gb160, 1, none⟩ = some (.string a0_1) ∧ w'.cell? ⟨gb160, 2, none⟩ = some (.int .i64 a0_2) ∧ w'.cell? ⟨gb160, 3, none⟩ = some (.int .i64 a0_3) ∧ w'.cell? ⟨gb160, 4, none⟩ = some (.slice (some ad163) l0_4.length c0_4) ∧ w'.cell? ⟨gb162, 0, none⟩ = some (.int .i64 ((rd_T52 l1 x16_1).f0)) ∧ w'.cell? ⟨gb162, 1, none⟩ = some (.int .i64 ((rd_T52 l1 x16_1).f1)) ∧ w'.cell? ⟨gb162, 2, none⟩ = some (.string ((rd_T52 l1 x16_1).f2)) ∧ w'.cell? (ad163.add ((x16_1).toNat * 8)) = some (.int .i64 ((rd_T54 l0_4 x16_1).f0)) ∧ w'.cell? ⟨(ad163.add ((x16_1).toNat * 8)).block, (ad163.add ((x16_1).toNat * 8)).off + 1, none⟩ = some (.string ((rd_T54 l0_4 x16_1).f1)) ∧ w'.cell? ⟨(ad163.add ((x16_1).toNat * 8)).block, (ad163.add ((x16_1).toNat * 8)).off + 2, none⟩ = some (.int .i64 ((rd_T54 l0_4 x16_1).f2.f0)) ∧ w'.cell? ⟨(ad163.add ((x16_1).toNat * 8)).block, (ad163.add ((x16_1).toNat * 8)).off + 3, none⟩ = some (.int .i64 ((rd_T54 l0_4 x16_1).f2.f1)) ∧ w'.cell? ⟨(ad163.add ((x16_1).toNat * 8)).block, (ad163.add ((x16_1).toNat * 8)).off + 4, none⟩ = some (.bool ((rd_T54 l0_4 x16_1).f3)) ∧ w'.cell? ⟨(ad163.add ((x16_1).toNat * 8)).block, (ad163.add ((x16_1).toNat * 8)).off + 5, none⟩ = some (.int .i64 ((rd_T54 l0_4 x16_1).f4.f0)) ∧ w'.cell? ⟨(ad163.add ((x16_1).toNat * 8)).block, (ad163.add ((x16_1).toNat * 8)).off + 6, none⟩ = some (.int .i64 ((rd_T54 l0_4 x16_1).f4.f1)) ∧ w'.cell? ⟨(ad163.add ((x16_1).toNat * 8)).block, (ad163.add ((x16_1).toNat * 8)).off + 7, none⟩ = some (.string ((rd_T54 l0_4 x16_1).f4.f2))) (ds := []) (tB 0 8) (by kernel_rfl) rfl rfl ⟨yV BK160 0, yV BK160 1, yV BK160 2, yV BK160 3, yV BK160 4, yV BK162 0, yV BK162 1, yV BK162 2, (pw_cell_below HB.out hw163_0), (pw_cell_below HB.out hw163_1), (pw_cell_below HB.out hw163_2), (pw_cell_below HB.out hw163_3), (pw_cell_below HB.out hw163_4), (pw_cell_below HB.out hw163_5), (pw_cell_below HB.out hw163_6), (pw_cell_below HB.out hw163_7)⟩ (fun hHeld => ?_); refine with_tabW schema_fits.tab6 schema_fits.bits6 (fun HT_ HW_ => ?_)
         generalize w21.drew = w22 at BK160 BK162 HB hx163_0 hx163_1 hx163_2 hx163_3 hx163_4 hx163_5 hx163_6 hx163_7 hHeld ⊢
         refine yP HT_ 0 21 (tB 1 8) rfl rfl ?_
         refine yP HT_ 2 23 (tB 5 8) rfl rfl ?_
         refine yT HT_ HW_ 1 22 (tB 7 8) rfl rfl hHeld ?_
         refine yP HT_ 3 24 (tB 15 8) rfl rfl ?_
         refine yT HT_ HW_ 4 25 (tB 31 8) rfl rfl hHeld ?_
         refine yT HT_ HW_ 5 26 (tB 63 8) rfl rfl hHeld ?_
         refine yI HT_ 6 (tB 127 8) rfl rfl fun K hK => ?_
         refine yc Tryd.func94 #[.agg #[.int .i64 ((rd_T54 l0_4 x16_1).f0), .string ((rd_T54 l0_4 x16_1).f1), .int .i64 ((rd_T54 l0_4 x16_1).f2.f0), .int .i64 ((rd_T54 l0_4 x16_1).f2.f1), .bool ((rd_T54 l0_4 x16_1).f3), .int .i64 ((rd_T54 l0_4 x16_1).f4.f0), .int .i64 ((rd_T54 l0_4 x16_1).f4.f1), .string ((rd_T54 l0_4 x16_1).f4.f2)], .agg #[.int .i64 ((rd_T52 l1 x16_1).f0), .int .i64 ((rd_T52 l1 x16_1).f1), .string ((rd_T52 l1 x16_1).f2)]] rfl rfl ?_
         with_reducible refine (schema_one.calls k1 ((rd_T54 l0_4 x16_1).f0) ((rd_T54 l0_4 x16_1).f1) ((rd_T54 l0_4 x16_1).f2.f0) ((rd_T54 l0_4 x16_1).f2.f1) ((rd_T54 l0_4 x16_1).f3) ((rd_T54 l0_4 x16_1).f4.f0) ((rd_T54 l0_4 x16_1).f4.f1) ((rd_T54 l0_4 x16_1).f4.f2) ((rd_T52 l1 x16_1).f0) ((rd_T52 l1 x16_1).f1) ((rd_T52 l1 x16_1).f2) t164 _ ?side1 A10.out).mono ?_
         (case side1 => first | (with_reducible exact HG.out) | exact Glob.below HG.out (yG2 HB GE160.out GE162.out))
         rintro e w23 ⟨rfl, hb⟩
         refine ⟨_, rfl, ?_⟩
         have n0_ := aM (kB (yK BK160) hb)
         have n1_ := aM (kB (yK BK162) hb)
         have n2_ := aM (bP (yG2 HB GE160.out GE162.out) hb)
         clear BK160
         clear BK162
         clear HB
         have BK160 := n0_
         have BK162 := n1_
         have HB := n2_
         clear n0_ n1_ n2_
         (try clear hb)
         (try clear hb2)
         (try clear hk)
         (try clear hi)
         refine hK.out _ _ ⟨yV BK160 0, yV BK160 1, yV BK160 2, yV BK160 3, yV BK160 4, yV BK162 0, yV BK162 1, yV BK162 2, (pw_cell_below HB.out hw163_0), (pw_cell_below HB.out hw163_1), (pw_cell_below HB.out hw163_2), (pw_cell_below HB.out hw163_3), (pw_cell_below HB.out hw163_4), (pw_cell_below HB.out hw163_5), (pw_cell_below HB.out hw163_6), (pw_cell_below HB.out hw163_7)⟩ (fun hHeld => ?_)
         clear hK K
         refine norm_ (a' := ?_) ?_ ?_
         rotate_left
         ·
          show Act.put _ (some 27) _ = _
          simp only [Act.put, s1_, s2_, s3_, i64_w, i32_w]
          rfl
         refine yP HT_ 7 7 (tB 255 8) rfl rfl ?_
         refine done_ (done_of HT_.out (by kernel_rfl)) ?_
         try go_wp2
         go_ret
         exact ⟨yE, yG2 HB GE160.out GE162.out⟩
       ·
        rw [if_neg c9] at H
        exact absurd H (by simp)
      ·
       rw [if_neg c8] at H
       exact absurd H (by simp)
     ·
      rw [if_neg c7] at H
      exact absurd H (by simp)
    ·
     rw [if_neg c6] at H
     have c6b0 : decide (x16_1 < (l1.length : Int)) = false := decide_eq_false c6
     clear c6
     obtain rfl := Option.some.inj H
     go_wp2
     go_ret
     exact ⟨yE, yG1 HB GE160.out⟩
 ·
  rw [if_neg c3] at H
  have c3b0 : ((l1.length : Int) == (l0_4.length : Int)) = false := beq_eq_false_iff_ne.mpr c3
  have c3b1 : ((l1.length : Int) != (l0_4.length : Int)) = true := bne_iff_ne.mpr c3
  have c3b2 : (l1.length == l0_4.length) = false := by first | simpa using c3 | (simp at c3 ⊢; omega)
  obtain rfl := Option.some.inj H
  go_enter Tryd.func67, Tryd.ntmps67
  go_wp2_with (first | ((with_reducible refine gate_dst (N := 2) rfl ?_); refine yX (N := 2) (cs := #[.int .i64 a0_0, .string a0_1, .int .i64 a0_2, .int .i64 a0_3, .slice A0_4 l0_4.length c0_4]) (t := 24) ?_; intro gb160 hg w24 hbox hb; have BK160 := aM (hbox); have GW160 := yZ hg (yB HB); have GE160 := yZ hg (yB HB); replace HB := aM (bP (yB HB) hb); clear hb hbox hg; obtain ⟨hcz25_0, hcz25_1, hcz25_2, hcz25_3, hcz25_4, hfz25_0, hfz25_1, hfz25_2, hfz25_3, hfz25_4⟩ := cells5 BK160.out))
  go_ret
  exact ⟨yE, yG1 HB GE160.out⟩
/-! ### schema_lay_f64: function 63 -/
def schema_lay_f64.l0 : Nat → List (S52) → List (S96) → Int → Int → Int → ByteArray → Int → Int → List (S54) → List Bool → Option ((List (S52)) × Int)
 | 0, _, _, _, _, _, _, _, _, _, _ => none
 | k + 1, x1, x20, x21, x22, x166000, x166001, x166002, x166003, x166004, x167000 => if x22 < x21 then (if 0 ≤ x22 then (if x22 < (x20.length : Int) then ((schema_Col.f k x166000 x166001 x166002 x166003 x166004 ((rd_T96 x20 x22).f0)).bind fun bt169 => (if bt169.2 = true then (if 0 ≤ bt169.1 then (if bt169.1 < (10 : Int) then (if hpAt x167000 bt169.1 = true then (some (([] : List (S52)), 14)) else (if bt169.1 < (x166004.length : Int) then ((schema_Fill_1.f ((rd_T54 x166004 bt169.1).f0) ((rd_T54 x166004 bt169.1).f1) ((rd_T54 x166004 bt169.1).f2.f0) ((rd_T54 x166004 bt169.1).f2.f1) ((rd_T54 x166004 bt169.1).f3) ((rd_T54 x166004 bt169.1).f4.f0) ((rd_T54 x166004 bt169.1).f4.f1) ((rd_T54 x166004 bt169.1).f4.f2)).bind fun t172 => (if t172 = 0 then ((hparr_put.f x167000 bt169.1).bind fun t173 => (if bt169.1 < (x1.length : Int) then (schema_lay_f64.l0 k (x1.set (bt169.1 : Int).toNat (⟨(rd_T96 x20 x22).f1.f0, (rd_T96 x20 x22).f1.f1, (rd_T96 x20 x22).f1.f2⟩ : S52)) x20 x21 (wrap64 (x22 + 1)) x166000 x166001 x166002 x166003 x166004 t173) else (none))) else (some (([] : List (S52)), t172)))) else (none))) else (none)) else (none)) else (some (([] : List (S52)), 13)))) else (none)) else (none)) else ((schema_fits.f k x166000 x166001 x166002 x166003 x166004 x1).bind fun t175 => (if t175 = 0 then (some (x1, 0)) else (some (([] : List (S52)), t175))))
def schema_lay_f64.f (k : Nat) (a0_0 : Int) (a0_1 : ByteArray) (a0_2 : Int) (a0_3 : Int) (l0_4 : List (S54)) (l1 : List (S52)) (l2 : List (S96)) : Option ((List (S52)) × Int) := if (l2.length : Int) > 10 then (some (([] : List (S52)), 3)) else (schema_lay_f64.l0 k l1 l2 (l2.length : Int) 0 a0_0 a0_1 a0_2 a0_3 l0_4 (List.replicate 10 false))
theorem schema_lay_f64.mono_l : ∀ k, (∀ y0 y1 y2 y3 y4 y5 y6 y7 y8 y9, LeO (schema_lay_f64.l0 k y0 y1 y2 y3 y4 y5 y6 y7 y8 y9) (schema_lay_f64.l0 (k + 1) y0 y1 y2 y3 y4 y5 y6 y7 y8 y9))
 | 0 => fun _ _ _ _ _ _ _ _ _ _ r h => by simp [schema_lay_f64.l0] at h
 | k + 1 => by
  have ih0 := schema_lay_f64.mono_l k
  ·
   intro y0 y1 y2 y3 y4 y5 y6 y7 y8 y9
   unfold schema_lay_f64.l0
   repeat' first
   | (with_reducible exact ih0 _ _ _ _ _ _ _ _ _ _)
   | (with_reducible exact schema_Col.mono _ _ _ _ _ _ _)
   | (with_reducible exact schema_fits.mono _ _ _ _ _ _ _)
   | (with_reducible exact LeO.refl _)
   | (with_reducible exact LeO.none _)
   | (with_reducible refine LeO.ite ?_ ?_)
   | (with_reducible refine LeO.bind ?_ (fun _ => ?_))
   | exact ih0 _ _ _ _ _ _ _ _ _ _
   | exact schema_Col.mono _ _ _ _ _ _ _
   | exact schema_fits.mono _ _ _ _ _ _ _
   | exact LeO.none _
   | refine LeO.ite ?_ ?_
   | refine LeO.bind ?_ (fun _ => ?_)
theorem schema_lay_f64.mono : ∀ a0 a1 a2 a3 a4 a5 a6 k, LeO (schema_lay_f64.f k a0 a1 a2 a3 a4 a5 a6) (schema_lay_f64.f (k + 1) a0 a1 a2 a3 a4 a5 a6) := by
 intro a0 a1 a2 a3 a4 a5 a6 k
 have ih0 := schema_lay_f64.mono_l k
 unfold schema_lay_f64.f
 repeat' first
   | (with_reducible exact ih0 _ _ _ _ _ _ _ _ _ _)
   | (with_reducible exact schema_Col.mono _ _ _ _ _ _ _)
   | (with_reducible exact schema_fits.mono _ _ _ _ _ _ _)
   | (with_reducible exact LeO.refl _)
   | (with_reducible exact LeO.none _)
   | (with_reducible refine LeO.ite ?_ ?_)
   | (with_reducible refine LeO.bind ?_ (fun _ => ?_))
   | exact ih0 _ _ _ _ _ _ _ _ _ _
   | exact schema_Col.mono _ _ _ _ _ _ _
   | exact schema_fits.mono _ _ _ _ _ _ _
   | exact LeO.none _
   | refine LeO.ite ?_ ?_
   | refine LeO.bind ?_ (fun _ => ?_)
def schema_lay_f64.T15 : Bool × List (List Nat × List Nat) := (true, [([], []), ([], []), ([], []), ([], []), ([3], [3]), ([0, 0], [0]), ([5, 0], [5]), ([1, 2, 0, 1, 2, 3, 4, 5, 6], [1, 2]), ([7, 4, 6, 0, 1, 2, 3, 4, 5, 6], [4, 7])])
def schema_lay_f64.B15 : List Nat := [0, 0, 0, 0, 8, 1, 33, 127, 255]
theorem schema_lay_f64.tab15 : rtab .any (opsOf Tryd.f63 15) = schema_lay_f64.T15 := by kernel_rfl
theorem schema_lay_f64.bits15 : waitsOk schema_lay_f64.T15.2 schema_lay_f64.B15 = true := by kernel_rfl
set_option maxHeartbeats 8000000 in
set_option maxRecDepth 100000 in
theorem schema_lay_f64.calls (k : Nat) (a0_0 : Int) (a0_1 : ByteArray) (a0_2 : Int) (a0_3 : Int) (A0_4 : Option Addr) (c0_4 : Nat) (l0_4 : List (S54)) (P1_ : Nat → Prop) (u9000_ : Value) (l1 : List (S52)) (A2 : Option Addr) (c2 : Nat) (l2 : List (S96)) (r1 : List (S52)) (r2 : Int) (w0 w : World) (hB : Below w0.heap.size w0 w) (hr0_4 : ∀ W_, Kept w W_ (fun k_ => P1_ k_) → Kd.C k54 W_ A0_4 l0_4.length l0_4) (hc0_4 : l0_4.length ≤ c0_4) (ho1 : Kd.R k52 52 w w0.heap.size P1_ u9000_ l1) (hr2 : ∀ W_, Kept w W_ (fun k_ => P1_ k_) → Kd.C k96 W_ A2 l2.length l2) (hc2 : l2.length ≤ c2) (hG : Glob w0) (h : schema_lay_f64.f k a0_0 a0_1 a0_2 a0_3 l0_4 l1 l2 = some (r1, r2)) :
  Calls Tryd.prog 63 #[.agg #[.int .i64 a0_0, .string a0_1, .int .i64 a0_2, .int .i64 a0_3, .slice A0_4 l0_4.length c0_4], u9000_, .slice A2 l2.length c2, .func (.func 64) #[] #[]] w fun e w' => ∃ v0_ : Value, e = .returned (.tuple #[v0_, .int .i64 r2]) ∧ Kd.R k52 52 w' w0.heap.size (fun k_ => (P1_ k_ ∨ w.heap.size ≤ k_)) v0_ r1 ∧ Below w0.heap.size w0 w' ∧ Kept w w' (fun k_ => P1_ k_) := by
 have hmf : ∀ (fn : Go.Fn) (first cap : Array Value) (w : World), (Instr.makeFunc fn first cap).run Tryd.prog w = .ok (.func fn first cap) w := fun _ _ _ _ => rfl
 have hu24 := Tryd.underlying24
 have hu96 := Tryd.underlying96
 have hu54 := Tryd.underlying54
 have hu52 := Tryd.underlying52
 have HR0_4 := aM hr0_4
 have HC0_4 := aM hc0_4
 clear hr0_4 hc0_4
 have HO1 := aM (show Kd.R k52 52 w w0.heap.size (fun k_ => (P1_ k_ ∨ w.heap.size ≤ k_)) u9000_ l1 from Kd.R_mono ho1 (fun k_ hk => (.inl hk)))
 have HR2 := aM hr2
 have HC2 := aM hc2
 clear hr2 hc2
 have HG := aM hG
 clear hG
 have HK := aM (Kept.refl w (fun k_ => P1_ k_))
 have HW0 := aM hB.size
 have HB := aM hB
 clear hB
 have H : (if (l2.length : Int) > 10 then (some (([] : List (S52)), 3)) else (schema_lay_f64.l0 k l1 l2 (l2.length : Int) 0 a0_0 a0_1 a0_2 a0_3 l0_4 (List.replicate 10 false))) = some (r1, r2) := h
 clear h
 by_cases c4 : (l2.length : Int) > 10
 ·
  rw [if_pos c4] at H
  have c4b0 : decide (10 < (l2.length : Int)) = true := decide_eq_true c4
  have c4b1 : decide (10 < l2.length) = true := decide_eq_true (by omega)
  clear c4
  simp only [Option.some.injEq, Prod.mk.injEq] at H
  obtain ⟨rfl, rfl⟩ := H
  go_enter Tryd.func63, Tryd.ntmps63
  go_wp2_with (first | ((with_reducible refine gate_dst (N := 4) rfl ?_); refine yX (N := 4) (cs := #[.int .i64 a0_0, .string a0_1, .int .i64 a0_2, .int .i64 a0_3, .slice A0_4 l0_4.length c0_4]) (t := 24) ?_; intro gb165 hg w5 hbox hb; replace HO1 := aM (Kd.R_below (yR HO1.out) hb); have BK165 := aM (hbox); have GW165 := aM ((by rw [hg]; exact (by first | exact HK.out.1 | exact (show Kept w _ (fun k_ => P1_ k_) from by repeat (first | (with_reducible first | exact HK.out | apply Kept.alloc | apply Kept.drewN | apply Kept.drew) | exact HK.out)).1) : w.heap.size ≤ gb165)); replace HK := aM (Kept.below (S := (fun k_ => P1_ k_)) (by repeat (first | (with_reducible first | exact HK.out | apply Kept.alloc | apply Kept.drewN | apply Kept.drew) | exact HK.out)) hb); have GE165 := yZ hg (yB HB); replace HB := aM (bP (yB HB) hb); clear hb hbox hg))
  go_ret2
  exact ⟨_, yE, by first | exact Kd.R_nil _ _ _ _ _ | exact Kd.N_nil _ _ _ _ _ | exact Kd.V_nil _ _ _ _ _ | exact Kd.Q_nil _ _ _ _ _ | exact Kd.S_nil _ _ _ _ _, yG1 HB GE165.out, by repeat (first | (with_reducible first | exact HK.out | apply Kept.alloc | apply Kept.drewN | apply Kept.drew | refine Kept.setCell ?_ (.inr GW165.out) _) | exact HK.out)⟩
 ·
  rw [if_neg c4] at H
  have c4b0 : decide (10 < (l2.length : Int)) = false := decide_eq_false c4
  have c4b1 : decide (10 < l2.length) = false := decide_eq_false (by omega)
  clear c4
  have H' := aM H
  clear H
  go_enter Tryd.func63, Tryd.ntmps63
  go_wp2_with (first | ((with_reducible refine gate_dst (N := 4) rfl ?_); refine yX (N := 4) (cs := #[.int .i64 a0_0, .string a0_1, .int .i64 a0_2, .int .i64 a0_3, .slice A0_4 l0_4.length c0_4]) (t := 24) ?_; intro gb165 hg w6 hbox hb; replace HO1 := aM (Kd.R_below (yR HO1.out) hb); have BK165 := aM (hbox); have GW165 := aM ((by rw [hg]; exact (by first | exact HK.out.1 | exact (show Kept w _ (fun k_ => P1_ k_) from by repeat (first | (with_reducible first | exact HK.out | apply Kept.alloc | apply Kept.drewN | apply Kept.drew) | exact HK.out)).1) : w.heap.size ≤ gb165)); replace HK := aM (Kept.below (S := (fun k_ => P1_ k_)) (by repeat (first | (with_reducible first | exact HK.out | apply Kept.alloc | apply Kept.drewN | apply Kept.drew) | exact HK.out)) hb); have GE165 := yZ hg (yB HB); replace HB := aM (bP (yB HB) hb); clear hb hbox hg) | ((with_reducible refine gate_dst (N := 10) rfl ?_); refine yX (N := 10) (cs := hpB (List.replicate 10 false)) (t := 125) ?_; intro gb166 hg w7 hbox hb; replace HO1 := aM (Kd.R_below (yR HO1.out) hb); have HI166 := aM ((show IsS172 w0 w7 gb166 (List.replicate 10 false) from ⟨⟨hbox, rfl⟩, by rw [hg]; exact (bZ (yG1 HB GE165.out))⟩)); have GW166 := aM ((by rw [hg]; exact (by first | exact HK.out.1 | exact (show Kept w _ (fun k_ => P1_ k_) from by repeat (first | (with_reducible first | exact HK.out | apply Kept.alloc | apply Kept.drewN | apply Kept.drew | refine Kept.setCell ?_ (.inr GW165.out) _) | exact HK.out)).1) : w.heap.size ≤ gb166)); replace HK := aM (Kept.below (S := (fun k_ => P1_ k_)) (by repeat (first | (with_reducible first | exact HK.out | apply Kept.alloc | apply Kept.drewN | apply Kept.drew | refine Kept.setCell ?_ (.inr GW165.out) _) | exact HK.out)) hb); have GE166 := yZ hg (yG1 HB GE165.out); replace HB := aM (bP (yG1 HB GE165.out) hb); have NB165_166 := yN hg (yK BK165); have NB166_165 := yM hg (yK BK165); replace BK165 := aM (kB (yK BK165) hb); clear hb hbox hg))
  go_loopg [22] k (fun kq v22 w' => ∃ (x1_1 : List (S52)) (x22_1 : Int) (x167000_1 : List Bool), v22 = .int .i64 x22_1 ∧ Aside0 (schema_lay_f64.l0 kq x1_1 l2 (l2.length : Int) x22_1 a0_0 a0_1 a0_2 a0_3 l0_4 x167000_1 = some (r1, r2)) ∧ Aside0 (kq ≤ k) ∧ Aside0 (Kd.R k52 52 w' w0.heap.size (fun k_ => (P1_ k_ ∨ w.heap.size ≤ k_)) u9000_ x1_1) ∧ Aside0 (w'.heap[gb165]? = some (.cells #[.int .i64 a0_0, .string a0_1, .int .i64 a0_2, .int .i64 a0_3, (.slice A0_4 l0_4.length c0_4)] 24 (0, 0))) ∧ Aside0 (IsS172 w0 w' gb166 x167000_1) ∧ Aside0 (Kept w w' (fun k_ => P1_ k_)) ∧ Aside0 (Below w0.heap.size w0 w'))
  case atStart => exact ⟨(l1), (0), ((List.replicate 10 false)), yS, H', ⟨Nat.le_refl _⟩, ⟨yR HO1.out⟩, ⟨yK BK165⟩, ⟨by repeat (first | (with_reducible first | exact HI166.out | apply IsS172.alloc | apply IsS172.drewN | apply IsS172.drew | apply IsS172.set_0 | refine IsS172.far ?_ NB166_165.out _) | exact HI166.out)⟩, ⟨by repeat (first | (with_reducible first | exact HK.out | apply Kept.alloc | apply Kept.drewN | apply Kept.drew | refine Kept.setCell ?_ (.inr GW165.out) _) | exact HK.out)⟩, ⟨yG2 HB (IsS172.ge HI166.out) GE165.out⟩⟩
  case round =>
   clear H'
   try clear c2
   try clear p2
   try clear c4
   try clear c4b0
   try clear c4b1
   try clear c7
   obtain ⟨x1_1, x22_1, x167000_1, rfl, HA, HK1, HO_1, BK165, HI166, HK, HB⟩ := hrel
   cases gk with
   | zero => exact absurd HA.out (by simp [schema_lay_f64.l0])
   | succ k1 =>
    have H := HA.out
    clear HA
    simp only [schema_lay_f64.l0] at H
    by_cases c8 : x22_1 < (l2.length : Int)
    ·
     rw [if_pos c8] at H
     have c8b0 : decide (x22_1 < (l2.length : Int)) = true := decide_eq_true c8
     clear c8
     by_cases c9 : 0 ≤ x22_1
     ·
      rw [if_pos c9] at H
      have c9b0 : decide (0 ≤ x22_1) = true := decide_eq_true c9
      clear c9
      by_cases c10 : x22_1 < (l2.length : Int)
      ·
       rw [if_pos c10] at H
       have c10b0 : decide (x22_1 < (l2.length : Int)) = true := decide_eq_true c10
       clear c10
       replace H := Option.bind_eq_some_iff.mp H
       obtain ⟨⟨t169, t170⟩, A110, H⟩ := H
       replace H : (if t170 = true then (if 0 ≤ t169 then (if t169 < (10 : Int) then (if hpAt x167000_1 t169 = true then (some (([] : List (S52)), 14)) else (if t169 < (l0_4.length : Int) then ((schema_Fill_1.f ((rd_T54 l0_4 t169).f0) ((rd_T54 l0_4 t169).f1) ((rd_T54 l0_4 t169).f2.f0) ((rd_T54 l0_4 t169).f2.f1) ((rd_T54 l0_4 t169).f3) ((rd_T54 l0_4 t169).f4.f0) ((rd_T54 l0_4 t169).f4.f1) ((rd_T54 l0_4 t169).f4.f2)).bind fun t172 => (if t172 = 0 then ((hparr_put.f x167000_1 t169).bind fun t173 => (if t169 < (x1_1.length : Int) then (schema_lay_f64.l0 k1 (x1_1.set (t169 : Int).toNat (⟨(rd_T96 l2 x22_1).f1.f0, (rd_T96 l2 x22_1).f1.f1, (rd_T96 l2 x22_1).f1.f2⟩ : S52)) l2 (l2.length : Int) (wrap64 (x22_1 + 1)) a0_0 a0_1 a0_2 a0_3 l0_4 t173) else (none))) else (some (([] : List (S52)), t172)))) else (none))) else (none)) else (none)) else (some (([] : List (S52)), 13))) = some (r1, r2) := H
       have A11 := aM A110
       clear A110
       by_cases c12 : t170 = true
       ·
        subst c12
        have H1 : (if 0 ≤ t169 then (if t169 < (10 : Int) then (if hpAt x167000_1 t169 = true then (some (([] : List (S52)), 14)) else (if t169 < (l0_4.length : Int) then ((schema_Fill_1.f ((rd_T54 l0_4 t169).f0) ((rd_T54 l0_4 t169).f1) ((rd_T54 l0_4 t169).f2.f0) ((rd_T54 l0_4 t169).f2.f1) ((rd_T54 l0_4 t169).f3) ((rd_T54 l0_4 t169).f4.f0) ((rd_T54 l0_4 t169).f4.f1) ((rd_T54 l0_4 t169).f4.f2)).bind fun t172 => (if t172 = 0 then ((hparr_put.f x167000_1 t169).bind fun t173 => (if t169 < (x1_1.length : Int) then (schema_lay_f64.l0 k1 (x1_1.set (t169 : Int).toNat (⟨(rd_T96 l2 x22_1).f1.f0, (rd_T96 l2 x22_1).f1.f1, (rd_T96 l2 x22_1).f1.f2⟩ : S52)) l2 (l2.length : Int) (wrap64 (x22_1 + 1)) a0_0 a0_1 a0_2 a0_3 l0_4 t173) else (none))) else (some (([] : List (S52)), t172)))) else (none))) else (none)) else (none)) = some (r1, r2) := by rw [if_pos rfl] at H; exact H
        clear H
        have H := H1
        clear H1
        by_cases c13 : 0 ≤ t169
        ·
         rw [if_pos c13] at H
         have c13b0 : decide (0 ≤ t169) = true := decide_eq_true c13
         clear c13
         by_cases c14 : t169 < (10 : Int)
         ·
          rw [if_pos c14] at H
          have c14b0 : decide (t169 < (10 : Int)) = true := decide_eq_true c14
          clear c14
          by_cases c15 : hpAt x167000_1 t169 = true
          ·
           rw [if_pos c15] at H
           have c15b0 : hpAt x167000_1 t169 = true := c15
           clear c15
           simp only [Option.some.injEq, Prod.mk.injEq] at H
           obtain ⟨rfl, rfl⟩ := H
           have p167 : 0 ≤ (x22_1 : Int) := oD yA
           have q167 : x22_1 < (l2.length : Int) := oD yA
           obtain ⟨ad167, e167, hx167_0, hx167_1, hx167_2, hx167_3⟩ := at_T96 (Kd.C_kept_now HR2.out HK.out) x22_1 p167 q167
           cases e167
           replace p167 := eq_true p167
           replace q167 := eq_true q167
           go_wp2_with (first | ((with_reducible refine gate_dst (N := 12) rfl ?_); refine yX (N := 12) (cs := #[.string (⟨#[]⟩ : ByteArray), .int .i64 0, .int .i64 0, .string (⟨#[]⟩ : ByteArray)]) (t := 96) ?_; intro gb168 hg w16 hbox hb; replace HO_1 := aM (Kd.R_below (yR HO_1.out) hb); have BK168 := aM (hbox); have GW168 := aM ((by rw [hg]; exact (by first | exact HK.out.1 | exact (show Kept w _ (fun k_ => P1_ k_) from by repeat (first | (with_reducible first | exact HK.out | apply Kept.alloc | apply Kept.drewN | apply Kept.drew | refine Kept.setCell ?_ (.inr GW165.out) _) | exact HK.out)).1) : w.heap.size ≤ gb168)); replace HK := aM (Kept.below (S := (fun k_ => P1_ k_)) (by repeat (first | (with_reducible first | exact HK.out | apply Kept.alloc | apply Kept.drewN | apply Kept.drew | refine Kept.setCell ?_ (.inr GW165.out) _) | exact HK.out)) hb); have GE168 := yZ hg (yG2 HB (IsS172.ge HI166.out) GE165.out); replace HB := aM (bP (yG2 HB (IsS172.ge HI166.out) GE165.out) hb); have NB165_168 := yN hg (yK BK165); have NB168_165 := yM hg (yK BK165); replace BK165 := aM (kB (yK BK165) hb); have NB166_168 := aM ((by rw [hg]; exact Nat.ne_of_lt (IsS172.lt (show IsS172 w0 _ gb166 x167000_1 from by repeat (first | (with_reducible first | exact HI166.out | apply IsS172.alloc | apply IsS172.drewN | apply IsS172.drew | apply IsS172.set_0 | refine IsS172.far ?_ NB166_165.out _) | exact HI166.out))) : gb166 ≠ gb168)); have NB168_166 := aM ((by rw [hg]; exact Nat.ne_of_gt (IsS172.lt (show IsS172 w0 _ gb166 x167000_1 from by repeat (first | (with_reducible first | exact HI166.out | apply IsS172.alloc | apply IsS172.drewN | apply IsS172.drew | apply IsS172.set_0 | refine IsS172.far ?_ NB166_165.out _) | exact HI166.out))) : gb168 ≠ gb166)); replace HI166 := aM (IsS172.below (by repeat (first | (with_reducible first | exact HI166.out | apply IsS172.alloc | apply IsS172.drewN | apply IsS172.drew | apply IsS172.set_0 | refine IsS172.far ?_ NB166_165.out _) | exact HI166.out)) hb); clear hb hbox hg; have hnb17 := NB168_165.out; have hnc17 := NB165_168.out; have hnb18 := NB168_166.out; have hnc18 := NB166_168.out; obtain ⟨hcz19_0, hcz19_1, hcz19_2, hcz19_3, hfz19_0, hfz19_1, hfz19_2, hfz19_3⟩ := cells4 BK168.out; have hnb20 := NB165_166.out; have hnc20 := NB166_165.out; obtain ⟨hcz21_0, hcz21_1, hcz21_2, hcz21_3, hcz21_4, hfz21_0, hfz21_1, hfz21_2, hfz21_3, hfz21_4⟩ := cells5 BK165.out) | ((with_reducible refine gate_callee (f := 46) rfl ?_); refine yC 30 Tryd.func46 #[.agg #[.int .i64 a0_0, .string a0_1, .int .i64 a0_2, .int .i64 a0_3, .slice A0_4 l0_4.length c0_4], .string ((rd_T96 l2 x22_1).f0)] rfl ?_; (with_reducible refine (schema_Col.calls k1 a0_0 a0_1 a0_2 a0_3 _ _ l0_4 ((rd_T96 l2 x22_1).f0) t169 true _ ?side1 ?side2 A11.out).mono ?_); (case side1 => exact Kd.C_kept_now HR0_4.out (by repeat (first | (with_reducible first | exact HK.out | apply Kept.alloc | apply Kept.drewN | apply Kept.drew | refine Kept.setCell ?_ (.inr GW165.out) _ | refine Kept.setCell ?_ (.inr GW168.out) _) | exact HK.out))); (case side2 => exact HC0_4.out); rintro e w22 ⟨rfl, hb⟩; refine ⟨_, rfl, ?_⟩; replace HO_1 := aM (Kd.R_below (by (with_reducible repeat (first | apply Kd.R_alloc | apply Kd.R_drewN | apply Kd.R_drew)); exact (Kd.R_mono (Kd.R_far (p := ⟨gb168, 3, none⟩) (Kd.R_far (p := ⟨gb168, 2, none⟩) (Kd.R_far (p := ⟨gb168, 1, none⟩) (Kd.R_far (p := ⟨gb168, 0, none⟩) (Kd.R_types HO_1.out BK168.out (by decide)) (fun _ hk => hk.2) (.string ((rd_T96 l2 x22_1).f0))) (fun _ hk => hk.2) (.int .i64 ((rd_T96 l2 x22_1).f1.f0))) (fun _ hk => hk.2) (.int .i64 ((rd_T96 l2 x22_1).f1.f1))) (fun _ hk => hk.2) (.string ((rd_T96 l2 x22_1).f1.f2))) (fun _ h_ => h_.1))) hb); replace BK165 := aM (kB (yF1 BK165 NB165_168.out) hb); replace BK168 := aM (kB (puts4 BK168.out) hb); replace HK := aM (Kept.below (S := (fun k_ => P1_ k_)) (by repeat (first | (with_reducible first | exact HK.out | apply Kept.alloc | apply Kept.drewN | apply Kept.drew | refine Kept.setCell ?_ (.inr GW165.out) _ | refine Kept.setCell ?_ (.inr GW168.out) _) | exact HK.out)) hb); replace HB := aM (bP (yG3 HB (IsS172.ge HI166.out) GE165.out GE168.out) hb); replace HI166 := aM (IsS172.below (show IsS172 w0 ((((w16.setCell ⟨gb168, 0, none⟩ (.string ((rd_T96 l2 x22_1).f0))).setCell ⟨gb168, 1, none⟩ (.int .i64 ((rd_T96 l2 x22_1).f1.f0))).setCell ⟨gb168, 2, none⟩ (.int .i64 ((rd_T96 l2 x22_1).f1.f1))).setCell ⟨gb168, 3, none⟩ (.string ((rd_T96 l2 x22_1).f1.f2))) gb166 x167000_1 from by repeat (first | (with_reducible first | exact HI166.out | apply IsS172.alloc | apply IsS172.drewN | apply IsS172.drew | apply IsS172.set_0 | refine IsS172.far ?_ NB166_165.out _ | refine IsS172.far ?_ NB166_168.out _) | exact HI166.out)) hb); (try clear hb); have hczz23_0 := hparr_cell HI166.out (i := t169) (oD yA) (oD yA); have pz23 : (0 ≤ t169) = True := eq_true (oD yA); have qz23 : (t169 < 10) = True := eq_true (oD yA)))
           go_ret2
           exact ⟨_, yE, by first | exact Kd.R_nil _ _ _ _ _ | exact Kd.N_nil _ _ _ _ _ | exact Kd.V_nil _ _ _ _ _ | exact Kd.Q_nil _ _ _ _ _ | exact Kd.S_nil _ _ _ _ _, yG3 HB (IsS172.ge HI166.out) GE165.out GE168.out, by repeat (first | (with_reducible first | exact HK.out | apply Kept.alloc | apply Kept.drewN | apply Kept.drew | refine Kept.setCell ?_ (.inr GW165.out) _ | refine Kept.setCell ?_ (.inr GW168.out) _) | exact HK.out)⟩
          ·
           rw [if_neg c15] at H
           have c15b0 : hpAt x167000_1 t169 = false := by simpa using c15
           clear c15
           by_cases c24 : t169 < (l0_4.length : Int)
           ·
            rw [if_pos c24] at H
            have c24b0 : decide (t169 < (l0_4.length : Int)) = true := decide_eq_true c24
            clear c24
            replace H := Option.bind_eq_some_iff.mp H
            obtain ⟨t172, A250, H⟩ := H
            replace H : (if t172 = 0 then ((hparr_put.f x167000_1 t169).bind fun t173 => (if t169 < (x1_1.length : Int) then (schema_lay_f64.l0 k1 (x1_1.set (t169 : Int).toNat (⟨(rd_T96 l2 x22_1).f1.f0, (rd_T96 l2 x22_1).f1.f1, (rd_T96 l2 x22_1).f1.f2⟩ : S52)) l2 (l2.length : Int) (wrap64 (x22_1 + 1)) a0_0 a0_1 a0_2 a0_3 l0_4 t173) else (none))) else (some (([] : List (S52)), t172))) = some (r1, r2) := H
            have A25 := aM A250
            clear A250
            by_cases c26 : t172 = 0
            ·
             rw [if_pos c26] at H
             have c26b0 : (t172 == 0) = true := beq_iff_eq.mpr c26
             have c26b1 : (t172 != 0) = false := bne_eq_false_iff_eq.mpr c26
             clear c26
             replace H := Option.bind_eq_some_iff.mp H
             obtain ⟨t173, A270, H⟩ := H
             replace H : (if t169 < (x1_1.length : Int) then (schema_lay_f64.l0 k1 (x1_1.set (t169 : Int).toNat (⟨(rd_T96 l2 x22_1).f1.f0, (rd_T96 l2 x22_1).f1.f1, (rd_T96 l2 x22_1).f1.f2⟩ : S52)) l2 (l2.length : Int) (wrap64 (x22_1 + 1)) a0_0 a0_1 a0_2 a0_3 l0_4 t173) else (none)) = some (r1, r2) := H
             have A27 := aM A270
             clear A270
             by_cases c28 : t169 < (x1_1.length : Int)
             ·
              rw [if_pos c28] at H
              have c28b0 : decide (t169 < (x1_1.length : Int)) = true := decide_eq_true c28
              clear c28
              obtain ⟨y174, hy174⟩ : ∃ y_ : List (S52), y_ = (x1_1.set (t169 : Int).toNat (⟨(rd_T96 l2 x22_1).f1.f0, (rd_T96 l2 x22_1).f1.f1, (rd_T96 l2 x22_1).f1.f2⟩ : S52)) := ⟨_, rfl⟩
              replace H : (schema_lay_f64.l0 k1 y174 l2 (l2.length : Int) (wrap64 (x22_1 + 1)) a0_0 a0_1 a0_2 a0_3 l0_4 t173) = some (r1, r2) := by first | (rw [hy174]; with_reducible exact H) | (have H2_ := (Option.bind_some _ _).symm.trans H; rw [hy174]; with_reducible exact H2_) | (have H2_ := (Option.bind_some _ _).symm.trans H; with_reducible exact H2_) | with_reducible exact H | (rw [hy174]; exact H) | exact H
              have Ny174 := aM hy174
              clear hy174
              have H' := aM H
              clear H
              have p167 : 0 ≤ (x22_1 : Int) := oD yA
              have q167 : x22_1 < (l2.length : Int) := oD yA
              obtain ⟨ad167, e167, hx167_0, hx167_1, hx167_2, hx167_3⟩ := at_T96 (Kd.C_kept_now HR2.out HK.out) x22_1 p167 q167
              cases e167
              replace p167 := eq_true p167
              replace q167 := eq_true q167
              try go_wp2_with (first | ((with_reducible refine gate_dst (N := 12) rfl ?_); refine yX (N := 12) (cs := #[.string (⟨#[]⟩ : ByteArray), .int .i64 0, .int .i64 0, .string (⟨#[]⟩ : ByteArray)]) (t := 96) ?_; intro gb168 hg w30 hbox hb; replace HO_1 := aM (Kd.R_below (yR HO_1.out) hb); have BK168 := aM (hbox); have GW168 := aM ((by rw [hg]; exact (by first | exact HK.out.1 | exact (show Kept w _ (fun k_ => P1_ k_) from by repeat (first | (with_reducible first | exact HK.out | apply Kept.alloc | apply Kept.drewN | apply Kept.drew | refine Kept.setCell ?_ (.inr GW165.out) _) | exact HK.out)).1) : w.heap.size ≤ gb168)); replace HK := aM (Kept.below (S := (fun k_ => P1_ k_)) (by repeat (first | (with_reducible first | exact HK.out | apply Kept.alloc | apply Kept.drewN | apply Kept.drew | refine Kept.setCell ?_ (.inr GW165.out) _) | exact HK.out)) hb); have GE168 := yZ hg (yG2 HB (IsS172.ge HI166.out) GE165.out); replace HB := aM (bP (yG2 HB (IsS172.ge HI166.out) GE165.out) hb); have NB165_168 := yN hg (yK BK165); have NB168_165 := yM hg (yK BK165); replace BK165 := aM (kB (yK BK165) hb); have NB166_168 := aM ((by rw [hg]; exact Nat.ne_of_lt (IsS172.lt (show IsS172 w0 _ gb166 x167000_1 from by repeat (first | (with_reducible first | exact HI166.out | apply IsS172.alloc | apply IsS172.drewN | apply IsS172.drew | apply IsS172.set_0 | refine IsS172.far ?_ NB166_165.out _) | exact HI166.out))) : gb166 ≠ gb168)); have NB168_166 := aM ((by rw [hg]; exact Nat.ne_of_gt (IsS172.lt (show IsS172 w0 _ gb166 x167000_1 from by repeat (first | (with_reducible first | exact HI166.out | apply IsS172.alloc | apply IsS172.drewN | apply IsS172.drew | apply IsS172.set_0 | refine IsS172.far ?_ NB166_165.out _) | exact HI166.out))) : gb168 ≠ gb166)); replace HI166 := aM (IsS172.below (by repeat (first | (with_reducible first | exact HI166.out | apply IsS172.alloc | apply IsS172.drewN | apply IsS172.drew | apply IsS172.set_0 | refine IsS172.far ?_ NB166_165.out _) | exact HI166.out)) hb); clear hb hbox hg; have hnb31 := NB168_165.out; have hnc31 := NB165_168.out; have hnb32 := NB168_166.out; have hnc32 := NB166_168.out; obtain ⟨hcz33_0, hcz33_1, hcz33_2, hcz33_3, hfz33_0, hfz33_1, hfz33_2, hfz33_3⟩ := cells4 BK168.out; have hnb34 := NB165_166.out; have hnc34 := NB166_165.out; obtain ⟨hcz35_0, hcz35_1, hcz35_2, hcz35_3, hcz35_4, hfz35_0, hfz35_1, hfz35_2, hfz35_3, hfz35_4⟩ := cells5 BK165.out) | ((with_reducible refine gate_callee (f := 46) rfl ?_); refine yC 30 Tryd.func46 #[.agg #[.int .i64 a0_0, .string a0_1, .int .i64 a0_2, .int .i64 a0_3, .slice A0_4 l0_4.length c0_4], .string ((rd_T96 l2 x22_1).f0)] rfl ?_; (with_reducible refine (schema_Col.calls k1 a0_0 a0_1 a0_2 a0_3 _ _ l0_4 ((rd_T96 l2 x22_1).f0) t169 true _ ?side1 ?side2 A11.out).mono ?_); (case side1 => exact Kd.C_kept_now HR0_4.out (by repeat (first | (with_reducible first | exact HK.out | apply Kept.alloc | apply Kept.drewN | apply Kept.drew | refine Kept.setCell ?_ (.inr GW165.out) _ | refine Kept.setCell ?_ (.inr GW168.out) _) | exact HK.out))); (case side2 => exact HC0_4.out); rintro e w36 ⟨rfl, hb⟩; refine ⟨_, rfl, ?_⟩; replace HO_1 := aM (Kd.R_below (by (with_reducible repeat (first | apply Kd.R_alloc | apply Kd.R_drewN | apply Kd.R_drew)); exact (Kd.R_mono (Kd.R_far (p := ⟨gb168, 3, none⟩) (Kd.R_far (p := ⟨gb168, 2, none⟩) (Kd.R_far (p := ⟨gb168, 1, none⟩) (Kd.R_far (p := ⟨gb168, 0, none⟩) (Kd.R_types HO_1.out BK168.out (by decide)) (fun _ hk => hk.2) (.string ((rd_T96 l2 x22_1).f0))) (fun _ hk => hk.2) (.int .i64 ((rd_T96 l2 x22_1).f1.f0))) (fun _ hk => hk.2) (.int .i64 ((rd_T96 l2 x22_1).f1.f1))) (fun _ hk => hk.2) (.string ((rd_T96 l2 x22_1).f1.f2))) (fun _ h_ => h_.1))) hb); replace BK165 := aM (kB (yF1 BK165 NB165_168.out) hb); replace BK168 := aM (kB (puts4 BK168.out) hb); replace HK := aM (Kept.below (S := (fun k_ => P1_ k_)) (by repeat (first | (with_reducible first | exact HK.out | apply Kept.alloc | apply Kept.drewN | apply Kept.drew | refine Kept.setCell ?_ (.inr GW165.out) _ | refine Kept.setCell ?_ (.inr GW168.out) _) | exact HK.out)) hb); replace HB := aM (bP (yG3 HB (IsS172.ge HI166.out) GE165.out GE168.out) hb); replace HI166 := aM (IsS172.below (show IsS172 w0 ((((w30.setCell ⟨gb168, 0, none⟩ (.string ((rd_T96 l2 x22_1).f0))).setCell ⟨gb168, 1, none⟩ (.int .i64 ((rd_T96 l2 x22_1).f1.f0))).setCell ⟨gb168, 2, none⟩ (.int .i64 ((rd_T96 l2 x22_1).f1.f1))).setCell ⟨gb168, 3, none⟩ (.string ((rd_T96 l2 x22_1).f1.f2))) gb166 x167000_1 from by repeat (first | (with_reducible first | exact HI166.out | apply IsS172.alloc | apply IsS172.drewN | apply IsS172.drew | apply IsS172.set_0 | refine IsS172.far ?_ NB166_165.out _ | refine IsS172.far ?_ NB166_168.out _) | exact HI166.out)) hb); (try clear hb); have hczz37_0 := hparr_cell HI166.out (i := t169) (oD yA) (oD yA); have pz37 : (0 ≤ t169) = True := eq_true (oD yA); have qz37 : (t169 < 10) = True := eq_true (oD yA); obtain ⟨hcz38_0, hcz38_1, hcz38_2, hcz38_3, hcz38_4, hfz38_0, hfz38_1, hfz38_2, hfz38_3, hfz38_4⟩ := cells5 BK165.out; have p171 : 0 ≤ (t169 : Int) := oD yA; have q171 : t169 < (l0_4.length : Int) := oD yA; obtain ⟨ad171, e171, hx171_0, hx171_1, hx171_2, hx171_3, hx171_4, hx171_5, hx171_6, hx171_7⟩ := at_T54 (Kd.C_kept_now HR0_4.out HK.out) t169 p171 q171; cases e171; replace p171 := eq_true p171; replace q171 := eq_true q171) | (go_at_call 64; (with_reducible refine (schema_Fill_1.calls ((rd_T54 l0_4 t169).f0) ((rd_T54 l0_4 t169).f1) ((rd_T54 l0_4 t169).f2.f0) ((rd_T54 l0_4 t169).f2.f1) ((rd_T54 l0_4 t169).f3) ((rd_T54 l0_4 t169).f4.f0) ((rd_T54 l0_4 t169).f4.f1) ((rd_T54 l0_4 t169).f4.f2) t172 _ A25.out).mono ?_); rintro e w39 ⟨rfl, hb⟩; replace HO_1 := aM (Kd.R_below (yR HO_1.out) hb); replace BK165 := aM (kB (yK BK165) hb); replace BK168 := aM (kB (yK BK168) hb); replace HK := aM (Kept.below (S := (fun k_ => P1_ k_)) (by repeat (first | (with_reducible first | exact HK.out | apply Kept.alloc | apply Kept.drewN | apply Kept.drew | refine Kept.setCell ?_ (.inr GW165.out) _ | refine Kept.setCell ?_ (.inr GW168.out) _) | exact HK.out)) hb); replace HB := aM (bP (yG3 HB (IsS172.ge HI166.out) GE165.out GE168.out) hb); replace HI166 := aM (IsS172.below (by repeat (first | (with_reducible first | exact HI166.out | apply IsS172.alloc | apply IsS172.drewN | apply IsS172.drew | apply IsS172.set_0 | refine IsS172.far ?_ NB166_165.out _ | refine IsS172.far ?_ NB166_168.out _) | exact HI166.out)) hb); (try clear hb)))
              have n0_ := aM (Kd.R_drew HO_1.out)
              have n1_ := aM (kD BK165.out)
              have n2_ := aM (kD BK168.out)
              have n3_ := aM (IsS172.drew HI166.out)
              have n4_ := aM (Kept.drew HK.out)
              have n5_ := aM (b1 HB.out)
              clear HO_1
              clear BK165
              clear BK168
              clear HI166
              clear HK
              clear HB
              have HO_1 := n0_
              have BK165 := n1_
              have BK168 := n2_
              have HI166 := n3_
              have HK := n4_
              have HB := n5_
              clear n0_ n1_ n2_ n3_ n4_ n5_
              refine start_ (n := 9) (S := fun w' => w'.cell? ⟨gb168, 0, none⟩ = some (.string ((rd_T96 l2 x22_1).f0)) ∧ w'.cell? ⟨gb168, 1, none⟩ = some (.int .i64 ((rd_T96 l2 x22_1).f1.f0)) ∧ w'.cell? ⟨gb168, 2, none⟩ = some (.int .i64 ((rd_T96 l2 x22_1).f1.f1)) ∧ w'.cell? ⟨gb168, 3, none⟩ = some (.string ((rd_T96 l2 x22_1).f1.f2))) (ds := [8]) (tB 0 9) (by kernel_rfl) rfl rfl (cellc4 BK168.out) (fun hHeld => ?_); refine with_tabW schema_lay_f64.tab15 schema_lay_f64.bits15 (fun HT_ HW_ => ?_)
              generalize w39.drew = w40 at HO_1 BK165 BK168 HI166 HK HB hHeld ⊢
              refine yP HT_ 0 48 (tB 1 9) rfl rfl ?_
              refine yP HT_ 1 49 (tB 3 9) rfl rfl ?_
              refine yP HT_ 2 50 (tB 7 9) rfl rfl ?_
              refine yP HT_ 3 51 (tB 15 9) rfl rfl ?_
              refine yP HT_ 5 53 (tB 47 9) rfl rfl ?_
              refine yT HT_ HW_ 4 52 (tB 63 9) rfl rfl hHeld ?_
              refine yI HT_ 6 (tB 127 9) rfl rfl fun K hK => ?_
              refine hparr_goes_put (by rfl) rfl rfl (by first | rfl | (go_simp; rfl)) ?_
              with_reducible refine (hparr_put.calls gb166 x167000_1 t169 t173 w0 _ ?side1 ?side2 A27.out).mono ?_
              (case side1 => repeat (first | (with_reducible first | exact HI166.out | apply IsS172.alloc | apply IsS172.drewN | apply IsS172.drew | apply IsS172.set_0 | refine IsS172.far ?_ NB166_165.out _ | refine IsS172.far ?_ NB166_168.out _) | exact HI166.out))
              (case side2 => exact yG3 HB (IsS172.ge HI166.out) GE165.out GE168.out)
              rintro e w41 ⟨rfl, hi, hb, hk⟩
              refine ⟨_, rfl, ?_⟩
              have n0_ := aM (Kd.R_mono (Kd.R_keep (IsS172.apart (show IsS172 w0 _ gb166 x167000_1 from by repeat (first | (with_reducible first | exact HI166.out | apply IsS172.alloc | apply IsS172.drewN | apply IsS172.drew | apply IsS172.set_0 | refine IsS172.far ?_ NB166_165.out _ | refine IsS172.far ?_ NB166_168.out _) | exact HI166.out)) (yR HO_1.out) (by decide)) hk (fun _ h => h.2)) (fun _ h => h.1))
              have n1_ := aM (KeepBut.blk hk (g' := gb165) (o := .cells #[.int .i64 a0_0, .string a0_1, .int .i64 a0_2, .int .i64 a0_3, .slice (some ad171) l0_4.length c0_4] 24 (0, 0)) (yK BK165) NB165_166.out (by simp))
              have n2_ := aM (KeepBut.blk hk (g' := gb168) (o := .cells #[.string ((rd_T96 l2 x22_1).f0), .int .i64 ((rd_T96 l2 x22_1).f1.f0), .int .i64 ((rd_T96 l2 x22_1).f1.f1), .string ((rd_T96 l2 x22_1).f1.f2)] 96 (0, 0)) (yK BK168) NB168_166.out (by simp))
              have n3_ := aM (hp_kept_new (S := (fun k_ => P1_ k_)) (by repeat (first | (with_reducible first | exact HK.out | apply Kept.alloc | apply Kept.drewN | apply Kept.drew | refine Kept.setCell ?_ (.inr GW165.out) _ | refine Kept.setCell ?_ (.inr GW168.out) _) | exact HK.out)) hk GW166.out)
              have n4_ := aM (hb)
              have n5_ := aM (hi)
              clear HO_1
              clear BK165
              clear BK168
              clear HK
              clear HB
              clear HI166
              have HO_1 := n0_
              have BK165 := n1_
              have BK168 := n2_
              have HK := n3_
              have HB := n4_
              have HI166 := n5_
              clear n0_ n1_ n2_ n3_ n4_ n5_
              (try clear hb)
              (try clear hb2)
              (try clear hk)
              (try clear hi)
              have p29 : 0 ≤ (t169 : Int) := oD yA
              have q29 : (t169 : Int) < ((x1_1.length : Int) : Int) := oD yA
              obtain ⟨go29, co29, eo29, gb29, gl29, cl29, HG29⟩ := Kd.R_form HO_1.out (by omega)
              (first | cases eo29 | (injection eo29 with ea_ en_ ec_; (first | subst ea_ | (injection ea_ with ea_; subst ea_)); subst ec_; clear en_))
              have GB29 := aM gb29
              have GG29 := aM HG29
              clear gb29 gl29 HG29
              have HMgo29 := aM (show (P1_ go29 ∨ w.heap.size ≤ go29) from (HO_1.out.1 _ rfl))
              obtain ⟨ce29, hcl29, hM29, hcc29, hfr29⟩ := Kd.R_elem HO_1.out z52 (t169 : Int) p29 q29
              obtain rfl := k52_openM hM29
              have hx29_0 : World.cell? _ ⟨go29, (t169 : Int).toNat * 3, none⟩ = some (.int .i64 ((rd_T52 x1_1 t169).f0)) := hcc29 0 _ rfl
              have hx29_1 : World.cell? _ ⟨go29, (t169 : Int).toNat * 3 + 1, none⟩ = some (.int .i64 ((rd_T52 x1_1 t169).f1)) := hcc29 1 _ rfl
              have hx29_2 : World.cell? _ ⟨go29, (t169 : Int).toNat * 3 + 2, none⟩ = some (.string ((rd_T52 x1_1 t169).f2)) := hcc29 2 _ rfl
              have hf29_0 : World.frozen? _ ⟨go29, (t169 : Int).toNat * 3, none⟩ = false := hfr29 0
              have hf29_1 : World.frozen? _ ⟨go29, (t169 : Int).toNat * 3 + 1, none⟩ = false := hfr29 1
              have hf29_2 : World.frozen? _ ⟨go29, (t169 : Int).toNat * 3 + 2, none⟩ = false := hfr29 2
              clear hcl29 hcc29 hfr29 hM29
              replace p29 := eq_true p29
              replace q29 := eq_true q29
              have HN166_go29 := aM (show gb166 ≠ go29 from by have h_ := IsS172.own_ne HI166.out HO_1.out (by decide); intro e_; exact h_ (by rw [e_]; rfl))
              obtain ⟨ce42, hcl42, hM42, hcc42, hfr42⟩ := Kd.R_elem HO_1.out z52 (t169 : Int) (oD yA) (by have h_ : (t169 : Int) < ((x1_1.length : Int) : Int) := oD yA; first | exact h_ | (have e_ := (Kd.R_reads' HO_1.out).1; omega) | simpa using h_)
              obtain rfl := k52_openM hM42
              have HP42 := (Kd.R_seg HO_1.out (t169 : Int) (oD yA) (by have h_ : (t169 : Int) < ((x1_1.length : Int) : Int) := oD yA; first | exact h_ | (have e_ := (Kd.R_reads' HO_1.out).1; omega) | simpa using h_) (seg := [.int .i64 ((rd_T96 l2 x22_1).f1.f0), .int .i64 ((rd_T96 l2 x22_1).f1.f1), .string ((rd_T96 l2 x22_1).f1.f2)]) (j := 0) hcl42 hcc42 (show 3 ≤ 3 from by decide) (x' := (⟨(rd_T96 l2 x22_1).f1.f0, (rd_T96 l2 x22_1).f1.f1, (rd_T96 l2 x22_1).f1.f2⟩ : S52)) (k52_mkM _ _ _ (⟨(rd_T96 l2 x22_1).f1.f0, (rd_T96 l2 x22_1).f1.f1, (rd_T96 l2 x22_1).f1.f2⟩ : S52) ) (fun _ hk => hk)).1
              rw [← Ny174.out] at HP42
              have HQ42 := aM HP42
              clear hcl42 hcc42 hfr42 hM42 HP42
              refine hK.out _ _ (cellc4 BK168.out) (fun hHeld => ?_)
              clear hK K
              refine yP HT_ 7 54 (tB 255 9) rfl rfl ?_
              refine last_ (i := 8) (N := none) (tB 511 9) rfl rfl (one_of HT_.out (by kernel_rfl)) (by decide) (fun K hK => ?_)
              refine skip_ (w1 := ?_) (by rfl) rfl ?_ ?_
              rotate_left
              ·
               go_simp
               rfl
              refine hK.out _ _ ?_
              clear hK K
              refine done_ (done_of HT_.out (by kernel_rfl)) ?_
              try go_wp2
              go_roundg k1
              case measure => have := HK1.out; omega
              case rel => exact ⟨(y174), (wrap64 (x22_1 + 1)), (t173), yS, H', ⟨by have := HK1.out; omega⟩, ⟨yR HQ42.out⟩, ⟨by (with_reducible repeat (first | refine kN ?_ _ | refine kD ?_ | refine kA ?_ _)); refine kF ?_ (by have h_ := Kd.R_ne HO_1.out BK165.out (by decide); intro e_; exact h_ (by rw [e_]; rfl)) _; (with_reducible repeat (first | refine kN ?_ _ | refine kD ?_ | refine kA ?_ _)); refine kF ?_ (by have h_ := Kd.R_ne HO_1.out BK165.out (by decide); intro e_; exact h_ (by rw [e_]; rfl)) _; (with_reducible repeat (first | refine kN ?_ _ | refine kD ?_ | refine kA ?_ _)); refine kF ?_ (by have h_ := Kd.R_ne HO_1.out BK165.out (by decide); intro e_; exact h_ (by rw [e_]; rfl)) _; (with_reducible repeat (first | refine kN ?_ _ | refine kD ?_ | refine kA ?_ _)); exact BK165.out⟩, ⟨by repeat (first | (with_reducible first | exact HI166.out | apply IsS172.alloc | apply IsS172.drewN | apply IsS172.drew | apply IsS172.set_0 | refine IsS172.far ?_ HN166_go29.out _ | refine IsS172.far ?_ HN166_go29.out _ | refine IsS172.far ?_ HN166_go29.out _ | refine IsS172.far ?_ NB166_165.out _ | refine IsS172.far ?_ NB166_168.out _) | exact HI166.out)⟩, ⟨by repeat (first | (with_reducible first | exact HK.out | apply Kept.alloc | apply Kept.drewN | apply Kept.drew | refine Kept.setCell ?_ HMgo29.out _ | refine Kept.setCell ?_ HMgo29.out _ | refine Kept.setCell ?_ HMgo29.out _ | refine Kept.setCell ?_ (.inr GW165.out) _ | refine Kept.setCell ?_ (.inr GW168.out) _) | exact HK.out)⟩, ⟨by repeat (first | (with_reducible first | exact HB.out | apply bA | apply bN | apply b1 | refine bS ?_ GB29.out | refine bS ?_ GB29.out | refine bS ?_ GB29.out | refine bS ?_ (IsS172.ge HI166.out) | refine bS ?_ GE165.out | refine bS ?_ GE168.out) | exact HB.out)⟩⟩
             ·
              rw [if_neg c28] at H
              exact absurd H (by simp)
            ·
             rw [if_neg c26] at H
             have c26b0 : (t172 == 0) = false := beq_eq_false_iff_ne.mpr c26
             have c26b1 : (t172 != 0) = true := bne_iff_ne.mpr c26
             simp only [Option.some.injEq, Prod.mk.injEq] at H
             obtain ⟨rfl, rfl⟩ := H
             have p167 : 0 ≤ (x22_1 : Int) := oD yA
             have q167 : x22_1 < (l2.length : Int) := oD yA
             obtain ⟨ad167, e167, hx167_0, hx167_1, hx167_2, hx167_3⟩ := at_T96 (Kd.C_kept_now HR2.out HK.out) x22_1 p167 q167
             cases e167
             replace p167 := eq_true p167
             replace q167 := eq_true q167
             go_wp2_with (first | ((with_reducible refine gate_dst (N := 12) rfl ?_); refine yX (N := 12) (cs := #[.string (⟨#[]⟩ : ByteArray), .int .i64 0, .int .i64 0, .string (⟨#[]⟩ : ByteArray)]) (t := 96) ?_; intro gb168 hg w43 hbox hb; replace HO_1 := aM (Kd.R_below (yR HO_1.out) hb); have BK168 := aM (hbox); have GW168 := aM ((by rw [hg]; exact (by first | exact HK.out.1 | exact (show Kept w _ (fun k_ => P1_ k_) from by repeat (first | (with_reducible first | exact HK.out | apply Kept.alloc | apply Kept.drewN | apply Kept.drew | refine Kept.setCell ?_ (.inr GW165.out) _) | exact HK.out)).1) : w.heap.size ≤ gb168)); replace HK := aM (Kept.below (S := (fun k_ => P1_ k_)) (by repeat (first | (with_reducible first | exact HK.out | apply Kept.alloc | apply Kept.drewN | apply Kept.drew | refine Kept.setCell ?_ (.inr GW165.out) _) | exact HK.out)) hb); have GE168 := yZ hg (yG2 HB (IsS172.ge HI166.out) GE165.out); replace HB := aM (bP (yG2 HB (IsS172.ge HI166.out) GE165.out) hb); have NB165_168 := yN hg (yK BK165); have NB168_165 := yM hg (yK BK165); replace BK165 := aM (kB (yK BK165) hb); have NB166_168 := aM ((by rw [hg]; exact Nat.ne_of_lt (IsS172.lt (show IsS172 w0 _ gb166 x167000_1 from by repeat (first | (with_reducible first | exact HI166.out | apply IsS172.alloc | apply IsS172.drewN | apply IsS172.drew | apply IsS172.set_0 | refine IsS172.far ?_ NB166_165.out _) | exact HI166.out))) : gb166 ≠ gb168)); have NB168_166 := aM ((by rw [hg]; exact Nat.ne_of_gt (IsS172.lt (show IsS172 w0 _ gb166 x167000_1 from by repeat (first | (with_reducible first | exact HI166.out | apply IsS172.alloc | apply IsS172.drewN | apply IsS172.drew | apply IsS172.set_0 | refine IsS172.far ?_ NB166_165.out _) | exact HI166.out))) : gb168 ≠ gb166)); replace HI166 := aM (IsS172.below (by repeat (first | (with_reducible first | exact HI166.out | apply IsS172.alloc | apply IsS172.drewN | apply IsS172.drew | apply IsS172.set_0 | refine IsS172.far ?_ NB166_165.out _) | exact HI166.out)) hb); clear hb hbox hg; have hnb44 := NB168_165.out; have hnc44 := NB165_168.out; have hnb45 := NB168_166.out; have hnc45 := NB166_168.out; obtain ⟨hcz46_0, hcz46_1, hcz46_2, hcz46_3, hfz46_0, hfz46_1, hfz46_2, hfz46_3⟩ := cells4 BK168.out; have hnb47 := NB165_166.out; have hnc47 := NB166_165.out; obtain ⟨hcz48_0, hcz48_1, hcz48_2, hcz48_3, hcz48_4, hfz48_0, hfz48_1, hfz48_2, hfz48_3, hfz48_4⟩ := cells5 BK165.out) | ((with_reducible refine gate_callee (f := 46) rfl ?_); refine yC 30 Tryd.func46 #[.agg #[.int .i64 a0_0, .string a0_1, .int .i64 a0_2, .int .i64 a0_3, .slice A0_4 l0_4.length c0_4], .string ((rd_T96 l2 x22_1).f0)] rfl ?_; (with_reducible refine (schema_Col.calls k1 a0_0 a0_1 a0_2 a0_3 _ _ l0_4 ((rd_T96 l2 x22_1).f0) t169 true _ ?side1 ?side2 A11.out).mono ?_); (case side1 => exact Kd.C_kept_now HR0_4.out (by repeat (first | (with_reducible first | exact HK.out | apply Kept.alloc | apply Kept.drewN | apply Kept.drew | refine Kept.setCell ?_ (.inr GW165.out) _ | refine Kept.setCell ?_ (.inr GW168.out) _) | exact HK.out))); (case side2 => exact HC0_4.out); rintro e w49 ⟨rfl, hb⟩; refine ⟨_, rfl, ?_⟩; replace HO_1 := aM (Kd.R_below (by (with_reducible repeat (first | apply Kd.R_alloc | apply Kd.R_drewN | apply Kd.R_drew)); exact (Kd.R_mono (Kd.R_far (p := ⟨gb168, 3, none⟩) (Kd.R_far (p := ⟨gb168, 2, none⟩) (Kd.R_far (p := ⟨gb168, 1, none⟩) (Kd.R_far (p := ⟨gb168, 0, none⟩) (Kd.R_types HO_1.out BK168.out (by decide)) (fun _ hk => hk.2) (.string ((rd_T96 l2 x22_1).f0))) (fun _ hk => hk.2) (.int .i64 ((rd_T96 l2 x22_1).f1.f0))) (fun _ hk => hk.2) (.int .i64 ((rd_T96 l2 x22_1).f1.f1))) (fun _ hk => hk.2) (.string ((rd_T96 l2 x22_1).f1.f2))) (fun _ h_ => h_.1))) hb); replace BK165 := aM (kB (yF1 BK165 NB165_168.out) hb); replace BK168 := aM (kB (puts4 BK168.out) hb); replace HK := aM (Kept.below (S := (fun k_ => P1_ k_)) (by repeat (first | (with_reducible first | exact HK.out | apply Kept.alloc | apply Kept.drewN | apply Kept.drew | refine Kept.setCell ?_ (.inr GW165.out) _ | refine Kept.setCell ?_ (.inr GW168.out) _) | exact HK.out)) hb); replace HB := aM (bP (yG3 HB (IsS172.ge HI166.out) GE165.out GE168.out) hb); replace HI166 := aM (IsS172.below (show IsS172 w0 ((((w43.setCell ⟨gb168, 0, none⟩ (.string ((rd_T96 l2 x22_1).f0))).setCell ⟨gb168, 1, none⟩ (.int .i64 ((rd_T96 l2 x22_1).f1.f0))).setCell ⟨gb168, 2, none⟩ (.int .i64 ((rd_T96 l2 x22_1).f1.f1))).setCell ⟨gb168, 3, none⟩ (.string ((rd_T96 l2 x22_1).f1.f2))) gb166 x167000_1 from by repeat (first | (with_reducible first | exact HI166.out | apply IsS172.alloc | apply IsS172.drewN | apply IsS172.drew | apply IsS172.set_0 | refine IsS172.far ?_ NB166_165.out _ | refine IsS172.far ?_ NB166_168.out _) | exact HI166.out)) hb); (try clear hb); have hczz50_0 := hparr_cell HI166.out (i := t169) (oD yA) (oD yA); have pz50 : (0 ≤ t169) = True := eq_true (oD yA); have qz50 : (t169 < 10) = True := eq_true (oD yA); obtain ⟨hcz51_0, hcz51_1, hcz51_2, hcz51_3, hcz51_4, hfz51_0, hfz51_1, hfz51_2, hfz51_3, hfz51_4⟩ := cells5 BK165.out; have p171 : 0 ≤ (t169 : Int) := oD yA; have q171 : t169 < (l0_4.length : Int) := oD yA; obtain ⟨ad171, e171, hx171_0, hx171_1, hx171_2, hx171_3, hx171_4, hx171_5, hx171_6, hx171_7⟩ := at_T54 (Kd.C_kept_now HR0_4.out HK.out) t169 p171 q171; cases e171; replace p171 := eq_true p171; replace q171 := eq_true q171) | (go_at_call 64; (with_reducible refine (schema_Fill_1.calls ((rd_T54 l0_4 t169).f0) ((rd_T54 l0_4 t169).f1) ((rd_T54 l0_4 t169).f2.f0) ((rd_T54 l0_4 t169).f2.f1) ((rd_T54 l0_4 t169).f3) ((rd_T54 l0_4 t169).f4.f0) ((rd_T54 l0_4 t169).f4.f1) ((rd_T54 l0_4 t169).f4.f2) t172 _ A25.out).mono ?_); rintro e w52 ⟨rfl, hb⟩; replace HO_1 := aM (Kd.R_below (yR HO_1.out) hb); replace BK165 := aM (kB (yK BK165) hb); replace BK168 := aM (kB (yK BK168) hb); replace HK := aM (Kept.below (S := (fun k_ => P1_ k_)) (by repeat (first | (with_reducible first | exact HK.out | apply Kept.alloc | apply Kept.drewN | apply Kept.drew | refine Kept.setCell ?_ (.inr GW165.out) _ | refine Kept.setCell ?_ (.inr GW168.out) _) | exact HK.out)) hb); replace HB := aM (bP (yG3 HB (IsS172.ge HI166.out) GE165.out GE168.out) hb); replace HI166 := aM (IsS172.below (by repeat (first | (with_reducible first | exact HI166.out | apply IsS172.alloc | apply IsS172.drewN | apply IsS172.drew | apply IsS172.set_0 | refine IsS172.far ?_ NB166_165.out _ | refine IsS172.far ?_ NB166_168.out _) | exact HI166.out)) hb); (try clear hb)))
             go_ret2
             exact ⟨_, yE, by first | exact Kd.R_nil _ _ _ _ _ | exact Kd.N_nil _ _ _ _ _ | exact Kd.V_nil _ _ _ _ _ | exact Kd.Q_nil _ _ _ _ _ | exact Kd.S_nil _ _ _ _ _, yG3 HB (IsS172.ge HI166.out) GE165.out GE168.out, by repeat (first | (with_reducible first | exact HK.out | apply Kept.alloc | apply Kept.drewN | apply Kept.drew | refine Kept.setCell ?_ (.inr GW165.out) _ | refine Kept.setCell ?_ (.inr GW168.out) _) | exact HK.out)⟩
           ·
            rw [if_neg c24] at H
            exact absurd H (by simp)
         ·
          rw [if_neg c14] at H
          exact absurd H (by simp)
        ·
         rw [if_neg c13] at H
         exact absurd H (by simp)
       ·
        replace c12 := Bool.eq_false_iff.mpr c12
        subst c12
        have H1 : (some (([] : List (S52)), 13)) = some (r1, r2) := by rw [if_neg (show ¬ (false = true) by decide)] at H; exact H
        clear H
        have H := H1
        clear H1
        simp only [Option.some.injEq, Prod.mk.injEq] at H
        obtain ⟨rfl, rfl⟩ := H
        have p167 : 0 ≤ (x22_1 : Int) := oD yA
        have q167 : x22_1 < (l2.length : Int) := oD yA
        obtain ⟨ad167, e167, hx167_0, hx167_1, hx167_2, hx167_3⟩ := at_T96 (Kd.C_kept_now HR2.out HK.out) x22_1 p167 q167
        cases e167
        replace p167 := eq_true p167
        replace q167 := eq_true q167
        go_wp2_with (first | ((with_reducible refine gate_dst (N := 12) rfl ?_); refine yX (N := 12) (cs := #[.string (⟨#[]⟩ : ByteArray), .int .i64 0, .int .i64 0, .string (⟨#[]⟩ : ByteArray)]) (t := 96) ?_; intro gb168 hg w53 hbox hb; replace HO_1 := aM (Kd.R_below (yR HO_1.out) hb); have BK168 := aM (hbox); have GW168 := aM ((by rw [hg]; exact (by first | exact HK.out.1 | exact (show Kept w _ (fun k_ => P1_ k_) from by repeat (first | (with_reducible first | exact HK.out | apply Kept.alloc | apply Kept.drewN | apply Kept.drew | refine Kept.setCell ?_ (.inr GW165.out) _) | exact HK.out)).1) : w.heap.size ≤ gb168)); replace HK := aM (Kept.below (S := (fun k_ => P1_ k_)) (by repeat (first | (with_reducible first | exact HK.out | apply Kept.alloc | apply Kept.drewN | apply Kept.drew | refine Kept.setCell ?_ (.inr GW165.out) _) | exact HK.out)) hb); have GE168 := yZ hg (yG2 HB (IsS172.ge HI166.out) GE165.out); replace HB := aM (bP (yG2 HB (IsS172.ge HI166.out) GE165.out) hb); have NB165_168 := yN hg (yK BK165); have NB168_165 := yM hg (yK BK165); replace BK165 := aM (kB (yK BK165) hb); have NB166_168 := aM ((by rw [hg]; exact Nat.ne_of_lt (IsS172.lt (show IsS172 w0 _ gb166 x167000_1 from by repeat (first | (with_reducible first | exact HI166.out | apply IsS172.alloc | apply IsS172.drewN | apply IsS172.drew | apply IsS172.set_0 | refine IsS172.far ?_ NB166_165.out _) | exact HI166.out))) : gb166 ≠ gb168)); have NB168_166 := aM ((by rw [hg]; exact Nat.ne_of_gt (IsS172.lt (show IsS172 w0 _ gb166 x167000_1 from by repeat (first | (with_reducible first | exact HI166.out | apply IsS172.alloc | apply IsS172.drewN | apply IsS172.drew | apply IsS172.set_0 | refine IsS172.far ?_ NB166_165.out _) | exact HI166.out))) : gb168 ≠ gb166)); replace HI166 := aM (IsS172.below (by repeat (first | (with_reducible first | exact HI166.out | apply IsS172.alloc | apply IsS172.drewN | apply IsS172.drew | apply IsS172.set_0 | refine IsS172.far ?_ NB166_165.out _) | exact HI166.out)) hb); clear hb hbox hg; have hnb54 := NB168_165.out; have hnc54 := NB165_168.out; have hnb55 := NB168_166.out; have hnc55 := NB166_168.out; obtain ⟨hcz56_0, hcz56_1, hcz56_2, hcz56_3, hfz56_0, hfz56_1, hfz56_2, hfz56_3⟩ := cells4 BK168.out; have hnb57 := NB165_166.out; have hnc57 := NB166_165.out; obtain ⟨hcz58_0, hcz58_1, hcz58_2, hcz58_3, hcz58_4, hfz58_0, hfz58_1, hfz58_2, hfz58_3, hfz58_4⟩ := cells5 BK165.out) | ((with_reducible refine gate_callee (f := 46) rfl ?_); refine yC 30 Tryd.func46 #[.agg #[.int .i64 a0_0, .string a0_1, .int .i64 a0_2, .int .i64 a0_3, .slice A0_4 l0_4.length c0_4], .string ((rd_T96 l2 x22_1).f0)] rfl ?_; (with_reducible refine (schema_Col.calls k1 a0_0 a0_1 a0_2 a0_3 _ _ l0_4 ((rd_T96 l2 x22_1).f0) t169 false _ ?side1 ?side2 A11.out).mono ?_); (case side1 => exact Kd.C_kept_now HR0_4.out (by repeat (first | (with_reducible first | exact HK.out | apply Kept.alloc | apply Kept.drewN | apply Kept.drew | refine Kept.setCell ?_ (.inr GW165.out) _ | refine Kept.setCell ?_ (.inr GW168.out) _) | exact HK.out))); (case side2 => exact HC0_4.out); rintro e w59 ⟨rfl, hb⟩; refine ⟨_, rfl, ?_⟩; replace HO_1 := aM (Kd.R_below (by (with_reducible repeat (first | apply Kd.R_alloc | apply Kd.R_drewN | apply Kd.R_drew)); exact (Kd.R_mono (Kd.R_far (p := ⟨gb168, 3, none⟩) (Kd.R_far (p := ⟨gb168, 2, none⟩) (Kd.R_far (p := ⟨gb168, 1, none⟩) (Kd.R_far (p := ⟨gb168, 0, none⟩) (Kd.R_types HO_1.out BK168.out (by decide)) (fun _ hk => hk.2) (.string ((rd_T96 l2 x22_1).f0))) (fun _ hk => hk.2) (.int .i64 ((rd_T96 l2 x22_1).f1.f0))) (fun _ hk => hk.2) (.int .i64 ((rd_T96 l2 x22_1).f1.f1))) (fun _ hk => hk.2) (.string ((rd_T96 l2 x22_1).f1.f2))) (fun _ h_ => h_.1))) hb); replace BK165 := aM (kB (yF1 BK165 NB165_168.out) hb); replace BK168 := aM (kB (puts4 BK168.out) hb); replace HK := aM (Kept.below (S := (fun k_ => P1_ k_)) (by repeat (first | (with_reducible first | exact HK.out | apply Kept.alloc | apply Kept.drewN | apply Kept.drew | refine Kept.setCell ?_ (.inr GW165.out) _ | refine Kept.setCell ?_ (.inr GW168.out) _) | exact HK.out)) hb); replace HB := aM (bP (yG3 HB (IsS172.ge HI166.out) GE165.out GE168.out) hb); replace HI166 := aM (IsS172.below (show IsS172 w0 ((((w53.setCell ⟨gb168, 0, none⟩ (.string ((rd_T96 l2 x22_1).f0))).setCell ⟨gb168, 1, none⟩ (.int .i64 ((rd_T96 l2 x22_1).f1.f0))).setCell ⟨gb168, 2, none⟩ (.int .i64 ((rd_T96 l2 x22_1).f1.f1))).setCell ⟨gb168, 3, none⟩ (.string ((rd_T96 l2 x22_1).f1.f2))) gb166 x167000_1 from by repeat (first | (with_reducible first | exact HI166.out | apply IsS172.alloc | apply IsS172.drewN | apply IsS172.drew | apply IsS172.set_0 | refine IsS172.far ?_ NB166_165.out _ | refine IsS172.far ?_ NB166_168.out _) | exact HI166.out)) hb); (try clear hb)))
        go_ret2
        exact ⟨_, yE, by first | exact Kd.R_nil _ _ _ _ _ | exact Kd.N_nil _ _ _ _ _ | exact Kd.V_nil _ _ _ _ _ | exact Kd.Q_nil _ _ _ _ _ | exact Kd.S_nil _ _ _ _ _, yG3 HB (IsS172.ge HI166.out) GE165.out GE168.out, by repeat (first | (with_reducible first | exact HK.out | apply Kept.alloc | apply Kept.drewN | apply Kept.drew | refine Kept.setCell ?_ (.inr GW165.out) _ | refine Kept.setCell ?_ (.inr GW168.out) _) | exact HK.out)⟩
      ·
       rw [if_neg c10] at H
       exact absurd H (by simp)
     ·
      rw [if_neg c9] at H
      exact absurd H (by simp)
    ·
     rw [if_neg c8] at H
     have c8b0 : decide (x22_1 < (l2.length : Int)) = false := decide_eq_false c8
     clear c8
     replace H := Option.bind_eq_some_iff.mp H
     obtain ⟨t175, A600, H⟩ := H
     replace H : (if t175 = 0 then (some (x1_1, 0)) else (some (([] : List (S52)), t175))) = some (r1, r2) := H
     have A60 := aM A600
     clear A600
     by_cases c61 : t175 = 0
     ·
      rw [if_pos c61] at H
      have c61b0 : (t175 == 0) = true := beq_iff_eq.mpr c61
      have c61b1 : (t175 != 0) = false := bne_eq_false_iff_eq.mpr c61
      clear c61
      simp only [Option.some.injEq, Prod.mk.injEq] at H
      obtain ⟨rfl, rfl⟩ := H
      have hnb62 := NB165_166.out
      have hnc62 := NB166_165.out
      obtain ⟨hcz63_0, hcz63_1, hcz63_2, hcz63_3, hcz63_4, hfz63_0, hfz63_1, hfz63_2, hfz63_3, hfz63_4⟩ := cells5 BK165.out
      obtain ⟨Ao64, co64, eo64⟩ := Kd.R_slice HO_1.out
      subst eo64
      go_wp2_with (first | ((with_reducible refine gate_callee (f := 67) rfl ?_); refine yC 58 Tryd.func67 #[.agg #[.int .i64 a0_0, .string a0_1, .int .i64 a0_2, .int .i64 a0_3, .slice A0_4 l0_4.length c0_4], .slice Ao64 x1_1.length co64] rfl ?_; (with_reducible refine (schema_fits.calls k1 a0_0 a0_1 a0_2 a0_3 _ _ l0_4 _ _ x1_1 t175 _ ?side1 ?side2 ?side3 ?side4 ?side5 A60.out).mono ?_); (case side1 => exact Kd.C_kept_now HR0_4.out (by repeat (first | (with_reducible first | exact HK.out | apply Kept.alloc | apply Kept.drewN | apply Kept.drew | refine Kept.setCell ?_ (.inr GW165.out) _) | exact HK.out))); (case side2 => exact HC0_4.out); (case side3 => exact yW (Kd.R_reads' HO_1.out).2.2); (case side4 => exact (Kd.R_reads' HO_1.out).2.1); (case side5 => first | (with_reducible exact HG.out) | exact Glob.below HG.out (yG2 HB (IsS172.ge HI166.out) GE165.out)); rintro e w65 ⟨rfl, hb⟩; refine ⟨_, rfl, ?_⟩; replace HO_1 := aM (Kd.R_below (yR HO_1.out) hb); replace BK165 := aM (kB (yK BK165) hb); replace HK := aM (Kept.below (S := (fun k_ => P1_ k_)) (by repeat (first | (with_reducible first | exact HK.out | apply Kept.alloc | apply Kept.drewN | apply Kept.drew | refine Kept.setCell ?_ (.inr GW165.out) _) | exact HK.out)) hb); replace HB := aM (bP (yG2 HB (IsS172.ge HI166.out) GE165.out) hb); replace HI166 := aM (IsS172.below (by repeat (first | (with_reducible first | exact HI166.out | apply IsS172.alloc | apply IsS172.drewN | apply IsS172.drew | apply IsS172.set_0 | refine IsS172.far ?_ NB166_165.out _) | exact HI166.out)) hb); (try clear hb)))
      go_ret2
      exact ⟨_, yE, yR HO_1.out, yG2 HB (IsS172.ge HI166.out) GE165.out, by repeat (first | (with_reducible first | exact HK.out | apply Kept.alloc | apply Kept.drewN | apply Kept.drew | refine Kept.setCell ?_ (.inr GW165.out) _) | exact HK.out)⟩
     ·
      rw [if_neg c61] at H
      have c61b0 : (t175 == 0) = false := beq_eq_false_iff_ne.mpr c61
      have c61b1 : (t175 != 0) = true := bne_iff_ne.mpr c61
      simp only [Option.some.injEq, Prod.mk.injEq] at H
      obtain ⟨rfl, rfl⟩ := H
      have hnb66 := NB165_166.out
      have hnc66 := NB166_165.out
      obtain ⟨hcz67_0, hcz67_1, hcz67_2, hcz67_3, hcz67_4, hfz67_0, hfz67_1, hfz67_2, hfz67_3, hfz67_4⟩ := cells5 BK165.out
      obtain ⟨Ao68, co68, eo68⟩ := Kd.R_slice HO_1.out
      subst eo68
      go_wp2_with (first | ((with_reducible refine gate_callee (f := 67) rfl ?_); refine yC 58 Tryd.func67 #[.agg #[.int .i64 a0_0, .string a0_1, .int .i64 a0_2, .int .i64 a0_3, .slice A0_4 l0_4.length c0_4], .slice Ao68 x1_1.length co68] rfl ?_; (with_reducible refine (schema_fits.calls k1 a0_0 a0_1 a0_2 a0_3 _ _ l0_4 _ _ x1_1 t175 _ ?side1 ?side2 ?side3 ?side4 ?side5 A60.out).mono ?_); (case side1 => exact Kd.C_kept_now HR0_4.out (by repeat (first | (with_reducible first | exact HK.out | apply Kept.alloc | apply Kept.drewN | apply Kept.drew | refine Kept.setCell ?_ (.inr GW165.out) _) | exact HK.out))); (case side2 => exact HC0_4.out); (case side3 => exact yW (Kd.R_reads' HO_1.out).2.2); (case side4 => exact (Kd.R_reads' HO_1.out).2.1); (case side5 => first | (with_reducible exact HG.out) | exact Glob.below HG.out (yG2 HB (IsS172.ge HI166.out) GE165.out)); rintro e w69 ⟨rfl, hb⟩; refine ⟨_, rfl, ?_⟩; replace HO_1 := aM (Kd.R_below (yR HO_1.out) hb); replace BK165 := aM (kB (yK BK165) hb); replace HK := aM (Kept.below (S := (fun k_ => P1_ k_)) (by repeat (first | (with_reducible first | exact HK.out | apply Kept.alloc | apply Kept.drewN | apply Kept.drew | refine Kept.setCell ?_ (.inr GW165.out) _) | exact HK.out)) hb); replace HB := aM (bP (yG2 HB (IsS172.ge HI166.out) GE165.out) hb); replace HI166 := aM (IsS172.below (by repeat (first | (with_reducible first | exact HI166.out | apply IsS172.alloc | apply IsS172.drewN | apply IsS172.drew | apply IsS172.set_0 | refine IsS172.far ?_ NB166_165.out _) | exact HI166.out)) hb); (try clear hb)))
      go_ret2
      exact ⟨_, yE, by first | exact Kd.R_nil _ _ _ _ _ | exact Kd.N_nil _ _ _ _ _ | exact Kd.V_nil _ _ _ _ _ | exact Kd.Q_nil _ _ _ _ _ | exact Kd.S_nil _ _ _ _ _, yG2 HB (IsS172.ge HI166.out) GE165.out, by repeat (first | (with_reducible first | exact HK.out | apply Kept.alloc | apply Kept.drewN | apply Kept.drew | refine Kept.setCell ?_ (.inr GW165.out) _) | exact HK.out)⟩
end Go.Proofs.YtdeophpjammbpaaDoor.HSchemaSets

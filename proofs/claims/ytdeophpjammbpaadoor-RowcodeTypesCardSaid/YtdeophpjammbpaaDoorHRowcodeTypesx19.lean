/- For Go functions that RowcodeTypes reaches: Lean functions, and walks that show that each call comes to what its Lean function tells; no condition but those that each theorem states. (Made by a program of this session over the kit's print.py.) -/
import Derived.Test.YtdeophpjammbpaaDoorHRowcodeTypesx0
import Derived.Test.YtdeophpjammbpaaDoorHRowcodeTypesx1
namespace Go.Proofs.YtdeophpjammbpaaDoor.HRowcodeTypes
open Go.RowKit Go.Proofs.YtdeophpjammbpaaDoorW.PrintWords Go.Proofs.YtdeophpjammbpaaDoorW.PrintLast Go.Proofs.YtdeophpjammbpaaDoorW.PrintMore
attribute [local go_sem] max2_int min2_int max_two min_two max_three min_three max_four min_four   -- for this text's walks alone
set_option linter.unusedVariables false
set_option linter.unusedSimpArgs false
attribute [local go_sem] hp_s8 hp_s16 hp_s32 hp_s64 hp_m8 hp_m16 hp_m32 hp_m64
attribute [local go_sem high] eqA50
/-! ### haulagelaw12_types: function 53 -/
def haulagelaw12_types.l0 : Nat → Int → Int → ByteArray → Int → Int → List (S54) → Int → ByteArray → Int → Int → List (S54) → Option (Bool)
 | 0, _, _, _, _, _, _, _, _, _, _, _ => none
 | k + 1, x5, x308000, x308001, x308002, x308003, x308004, x309000, x309001, x309002, x309003, x309004 => if x5 < (x308004.length : Int) then (if 0 ≤ x5 then (if x5 < (x309004.length : Int) then (if (!(((rd_T54 x308004 x5).f2.f0) == ((rd_T54 x309004 x5).f2.f0)) || (!(((rd_T54 x308004 x5).f2.f1) == ((rd_T54 x309004 x5).f2.f1)))) = true then (some false) else (if (((rd_T54 x308004 x5).f3) != ((rd_T54 x309004 x5).f3)) = true then (some false) else (haulagelaw12_types.l0 k (wrap64 (x5 + 1)) x308000 x308001 x308002 x308003 x308004 x309000 x309001 x309002 x309003 x309004))) else (none)) else (none)) else (some true)
def haulagelaw12_types.f (k : Nat) (a0_0 : Int) (a0_1 : ByteArray) (a0_2 : Int) (a0_3 : Int) (l0_4 : List (S54)) (a1_0 : Int) (a1_1 : ByteArray) (a1_2 : Int) (a1_3 : Int) (l1_4 : List (S54)) : Option (Bool) := if (l0_4.length : Int) = (l1_4.length : Int) then (haulagelaw12_types.l0 k 0 a0_0 a0_1 a0_2 a0_3 l0_4 a1_0 a1_1 a1_2 a1_3 l1_4) else (some false)
theorem haulagelaw12_types.mono_l : ∀ k, (∀ y0 y1 y2 y3 y4 y5 y6 y7 y8 y9 y10, LeO (haulagelaw12_types.l0 k y0 y1 y2 y3 y4 y5 y6 y7 y8 y9 y10) (haulagelaw12_types.l0 (k + 1) y0 y1 y2 y3 y4 y5 y6 y7 y8 y9 y10))
 | 0 => fun _ _ _ _ _ _ _ _ _ _ _ r h => by simp [haulagelaw12_types.l0] at h
 | k + 1 => by
  have ih0 := haulagelaw12_types.mono_l k
  ·
   intro y0 y1 y2 y3 y4 y5 y6 y7 y8 y9 y10
   unfold haulagelaw12_types.l0
   repeat' first
   | (with_reducible exact ih0 _ _ _ _ _ _ _ _ _ _ _)
   | (with_reducible exact LeO.refl _)
   | (with_reducible exact LeO.none _)
   | (with_reducible refine LeO.ite ?_ ?_)
   | (with_reducible refine LeO.bind ?_ (fun _ => ?_))
   | exact ih0 _ _ _ _ _ _ _ _ _ _ _
   | exact LeO.none _
   | refine LeO.ite ?_ ?_
   | refine LeO.bind ?_ (fun _ => ?_)
theorem haulagelaw12_types.mono : ∀ a0 a1 a2 a3 a4 a5 a6 a7 a8 a9 k, LeO (haulagelaw12_types.f k a0 a1 a2 a3 a4 a5 a6 a7 a8 a9) (haulagelaw12_types.f (k + 1) a0 a1 a2 a3 a4 a5 a6 a7 a8 a9) := by
 intro a0 a1 a2 a3 a4 a5 a6 a7 a8 a9 k
 have ih0 := haulagelaw12_types.mono_l k
 unfold haulagelaw12_types.f
 repeat' first | with_reducible (first | exact ih0 .. | exact LeO.refl .. | exact LeO.none .. | refine LeO.ite ?_ ?_ | refine LeO.bind ?_ (fun _ => ?_)) | exact ih0 .. | exact LeO.none .. | refine LeO.ite ?_ ?_ | refine LeO.bind ?_ (fun _ => ?_)
set_option maxHeartbeats 8000000 in
set_option maxRecDepth 100000 in
theorem haulagelaw12_types.calls (k : Nat) (a0_0 : Int) (a0_1 : ByteArray) (a0_2 : Int) (a0_3 : Int) (A0_4 : Option Addr) (c0_4 : Nat) (l0_4 : List (S54)) (a1_0 : Int) (a1_1 : ByteArray) (a1_2 : Int) (a1_3 : Int) (A1_4 : Option Addr) (c1_4 : Nat) (l1_4 : List (S54)) (r : Bool) (w : World) (hr0_4 : Kd.C k54 w A0_4 l0_4.length l0_4) (hc0_4 : l0_4.length ≤ c0_4) (hr1_4 : Kd.C k54 w A1_4 l1_4.length l1_4) (hc1_4 : l1_4.length ≤ c1_4) (h : haulagelaw12_types.f k a0_0 a0_1 a0_2 a0_3 l0_4 a1_0 a1_1 a1_2 a1_3 l1_4 = some r) :
  Calls Tryd.prog 53 #[.agg #[.int .i64 a0_0, .string a0_1, .int .i64 a0_2, .int .i64 a0_3, .slice A0_4 l0_4.length c0_4], .agg #[.int .i64 a1_0, .string a1_1, .int .i64 a1_2, .int .i64 a1_3, .slice A1_4 l1_4.length c1_4]] w fun e w' => e = .returned (.bool r) ∧ Below w.heap.size w w' := by
 have hu24 := Tryd.underlying24
 have hu50 := Tryd.underlying50
 have HR0_4 := aM hr0_4
 have HC0_4 := aM hc0_4
 clear hr0_4 hc0_4
 have HR1_4 := aM hr1_4
 have HC1_4 := aM hc1_4
 clear hr1_4 hc1_4
 have HB := aM (Below.refl w.heap.size w)
 have H : (if (l0_4.length : Int) = (l1_4.length : Int) then (haulagelaw12_types.l0 k 0 a0_0 a0_1 a0_2 a0_3 l0_4 a1_0 a1_1 a1_2 a1_3 l1_4) else (some false)) = some r := h
 clear h
 by_cases c3 : (l0_4.length : Int) = (l1_4.length : Int)
 ·
  rw [if_pos c3] at H
  have c3b0 : ((l0_4.length : Int) == (l1_4.length : Int)) = true := beq_iff_eq.mpr c3
  have c3b1 : ((l0_4.length : Int) != (l1_4.length : Int)) = false := bne_eq_false_iff_eq.mpr c3
  have c3b2 : (l0_4.length == l1_4.length) = true := by first | simpa using c3 | (simp at c3 ⊢; omega)
  clear c3
  have H' := aM H
  clear H
  go_enter Tryd.func53, Tryd.ntmps53
  go_wp2_with (first | ((with_reducible refine gate_dst (N := 2) rfl ?_); refine yX (N := 2) (cs := #[.int .i64 a0_0, .string a0_1, .int .i64 a0_2, .int .i64 a0_3, .slice A0_4 l0_4.length c0_4]) (t := 24) ?_; intro gb307 hg w4 hbox hb; have BK307 := aM (hbox); have GW307 := yZ hg (yB HB); have GE307 := yZ hg (yB HB); replace HB := aM (bP (yB HB) hb); clear hb hbox hg) | ((with_reducible refine gate_dst (N := 3) rfl ?_); refine yX (N := 3) (cs := #[.int .i64 a1_0, .string a1_1, .int .i64 a1_2, .int .i64 a1_3, .slice A1_4 l1_4.length c1_4]) (t := 24) ?_; intro gb308 hg w5 hbox hb; have BK308 := aM (hbox); have GW308 := yZ hg (yG1 HB GE307.out); have GE308 := yZ hg (yG1 HB GE307.out); replace HB := aM (bP (yG1 HB GE307.out) hb); have NB307_308 := yN hg (yK BK307); have NB308_307 := yM hg (yK BK307); replace BK307 := aM (kB (yK BK307) hb); clear hb hbox hg; have hnb6 := NB307_308.out; have hnc6 := NB308_307.out; obtain ⟨hcz7_0, hcz7_1, hcz7_2, hcz7_3, hcz7_4, hfz7_0, hfz7_1, hfz7_2, hfz7_3, hfz7_4⟩ := cells5 BK307.out; obtain ⟨hcz8_0, hcz8_1, hcz8_2, hcz8_3, hcz8_4, hfz8_0, hfz8_1, hfz8_2, hfz8_3, hfz8_4⟩ := cells5 BK308.out))
  repeat (go_quiet (first | ((with_reducible refine gate_dst (N := 2) rfl ?_); refine yX (N := 2) (cs := #[.int .i64 a0_0, .string a0_1, .int .i64 a0_2, .int .i64 a0_3, .slice A0_4 l0_4.length c0_4]) (t := 24) ?_; intro gb307 hg w4 hbox hb; have BK307 := aM (hbox); have GW307 := yZ hg (yB HB); have GE307 := yZ hg (yB HB); replace HB := aM (bP (yB HB) hb); clear hb hbox hg) | ((with_reducible refine gate_dst (N := 3) rfl ?_); refine yX (N := 3) (cs := #[.int .i64 a1_0, .string a1_1, .int .i64 a1_2, .int .i64 a1_3, .slice A1_4 l1_4.length c1_4]) (t := 24) ?_; intro gb308 hg w5 hbox hb; have BK308 := aM (hbox); have GW308 := yZ hg (yG1 HB GE307.out); have GE308 := yZ hg (yG1 HB GE307.out); replace HB := aM (bP (yG1 HB GE307.out) hb); have NB307_308 := yN hg (yK BK307); have NB308_307 := yM hg (yK BK307); replace BK307 := aM (kB (yK BK307) hb); clear hb hbox hg; have hnb6 := NB307_308.out; have hnc6 := NB308_307.out; obtain ⟨hcz7_0, hcz7_1, hcz7_2, hcz7_3, hcz7_4, hfz7_0, hfz7_1, hfz7_2, hfz7_3, hfz7_4⟩ := cells5 BK307.out; obtain ⟨hcz8_0, hcz8_1, hcz8_2, hcz8_3, hcz8_4, hfz8_0, hfz8_1, hfz8_2, hfz8_3, hfz8_4⟩ := cells5 BK308.out)); try go_wp2_with (first | ((with_reducible refine gate_dst (N := 2) rfl ?_); refine yX (N := 2) (cs := #[.int .i64 a0_0, .string a0_1, .int .i64 a0_2, .int .i64 a0_3, .slice A0_4 l0_4.length c0_4]) (t := 24) ?_; intro gb307 hg w4 hbox hb; have BK307 := aM (hbox); have GW307 := yZ hg (yB HB); have GE307 := yZ hg (yB HB); replace HB := aM (bP (yB HB) hb); clear hb hbox hg) | ((with_reducible refine gate_dst (N := 3) rfl ?_); refine yX (N := 3) (cs := #[.int .i64 a1_0, .string a1_1, .int .i64 a1_2, .int .i64 a1_3, .slice A1_4 l1_4.length c1_4]) (t := 24) ?_; intro gb308 hg w5 hbox hb; have BK308 := aM (hbox); have GW308 := yZ hg (yG1 HB GE307.out); have GE308 := yZ hg (yG1 HB GE307.out); replace HB := aM (bP (yG1 HB GE307.out) hb); have NB307_308 := yN hg (yK BK307); have NB308_307 := yM hg (yK BK307); replace BK307 := aM (kB (yK BK307) hb); clear hb hbox hg; have hnb6 := NB307_308.out; have hnc6 := NB308_307.out; obtain ⟨hcz7_0, hcz7_1, hcz7_2, hcz7_3, hcz7_4, hfz7_0, hfz7_1, hfz7_2, hfz7_3, hfz7_4⟩ := cells5 BK307.out; obtain ⟨hcz8_0, hcz8_1, hcz8_2, hcz8_3, hcz8_4, hfz8_0, hfz8_1, hfz8_2, hfz8_3, hfz8_4⟩ := cells5 BK308.out)))
  go_loopg [5] k (fun kq v5 w' => ∃ (x5_1 : Int), v5 = .int .i64 x5_1 ∧ Aside0 (haulagelaw12_types.l0 kq x5_1 a0_0 a0_1 a0_2 a0_3 l0_4 a1_0 a1_1 a1_2 a1_3 l1_4 = some r) ∧ Aside0 (kq ≤ k) ∧ Aside0 (w'.heap[gb307]? = some (.cells #[.int .i64 a0_0, .string a0_1, .int .i64 a0_2, .int .i64 a0_3, (.slice A0_4 l0_4.length c0_4)] 24 (0, 0))) ∧ Aside0 (w'.heap[gb308]? = some (.cells #[.int .i64 a1_0, .string a1_1, .int .i64 a1_2, .int .i64 a1_3, (.slice A1_4 l1_4.length c1_4)] 24 (0, 0))) ∧ Aside0 (Below w.heap.size w w'))
  case atStart => exact ⟨(0), yS, H', ⟨Nat.le_refl _⟩, ⟨yK BK307⟩, ⟨yK BK308⟩, ⟨yG2 HB GE307.out GE308.out⟩⟩
  case round =>
   clear H'
   try clear c3
   try clear c3b0
   try clear c3b1
   try clear c3b2
   try clear hcz7_0 hcz7_1 hcz7_2 hcz7_3 hcz7_4
   try clear hcz8_0 hcz8_1 hcz8_2 hcz8_3 hcz8_4
   try clear hfz7_0 hfz7_1 hfz7_2 hfz7_3 hfz7_4
   try clear hfz8_0 hfz8_1 hfz8_2 hfz8_3 hfz8_4
   obtain ⟨x5_1, rfl, HA, HK1, BK307, BK308, HB⟩ := hrel
   cases gk with
   | zero => exact absurd HA.out (by simp [haulagelaw12_types.l0])
   | succ k1 =>
    have H := HA.out
    clear HA
    simp only [haulagelaw12_types.l0] at H
    by_cases c9 : x5_1 < (l0_4.length : Int)
    ·
     rw [if_pos c9] at H
     have c9b0 : decide (x5_1 < (l0_4.length : Int)) = true := decide_eq_true c9
     clear c9
     by_cases c10 : 0 ≤ x5_1
     ·
      rw [if_pos c10] at H
      have c10b0 : decide (0 ≤ x5_1) = true := decide_eq_true c10
      clear c10
      by_cases c11 : x5_1 < (l1_4.length : Int)
      ·
       rw [if_pos c11] at H
       have c11b0 : decide (x5_1 < (l1_4.length : Int)) = true := decide_eq_true c11
       clear c11
       by_cases c12 : (!(((rd_T54 l0_4 x5_1).f2.f0) == ((rd_T54 l1_4 x5_1).f2.f0)) || (!(((rd_T54 l0_4 x5_1).f2.f1) == ((rd_T54 l1_4 x5_1).f2.f1)))) = true
       ·
        rw [if_pos c12] at H
        have c12b0 : (!(((rd_T54 l0_4 x5_1).f2.f0) == ((rd_T54 l1_4 x5_1).f2.f0)) || (!(((rd_T54 l0_4 x5_1).f2.f1) == ((rd_T54 l1_4 x5_1).f2.f1)))) = true := c12
        clear c12
        obtain rfl := Option.some.inj H
        have hnb13 := NB307_308.out
        have hnc13 := NB308_307.out
        obtain ⟨hcz14_0, hcz14_1, hcz14_2, hcz14_3, hcz14_4, hfz14_0, hfz14_1, hfz14_2, hfz14_3, hfz14_4⟩ := cells5 BK307.out
        have p309 : 0 ≤ (x5_1 : Int) := oD yA
        have q309 : x5_1 < (l0_4.length : Int) := oD yA
        obtain ⟨ad309, e309, hx309_0, hx309_1, hx309_2, hx309_3, hx309_4, hx309_5, hx309_6, hx309_7⟩ := at_T54 HR0_4.out x5_1 p309 q309
        cases e309
        replace hx309_0 := pw_cell_below HB.out hx309_0
        replace hx309_1 := pw_cell_below HB.out hx309_1
        replace hx309_2 := pw_cell_below HB.out hx309_2
        replace hx309_3 := pw_cell_below HB.out hx309_3
        replace hx309_4 := pw_cell_below HB.out hx309_4
        replace hx309_5 := pw_cell_below HB.out hx309_5
        replace hx309_6 := pw_cell_below HB.out hx309_6
        replace hx309_7 := pw_cell_below HB.out hx309_7
        replace p309 := eq_true p309
        replace q309 := eq_true q309
        obtain ⟨hcz15_0, hcz15_1, hcz15_2, hcz15_3, hcz15_4, hfz15_0, hfz15_1, hfz15_2, hfz15_3, hfz15_4⟩ := cells5 BK308.out
        have p310 : 0 ≤ (x5_1 : Int) := oD yA
        have q310 : x5_1 < (l1_4.length : Int) := oD yA
        obtain ⟨ad310, e310, hx310_0, hx310_1, hx310_2, hx310_3, hx310_4, hx310_5, hx310_6, hx310_7⟩ := at_T54 HR1_4.out x5_1 p310 q310
        cases e310
        replace hx310_0 := pw_cell_below HB.out hx310_0
        replace hx310_1 := pw_cell_below HB.out hx310_1
        replace hx310_2 := pw_cell_below HB.out hx310_2
        replace hx310_3 := pw_cell_below HB.out hx310_3
        replace hx310_4 := pw_cell_below HB.out hx310_4
        replace hx310_5 := pw_cell_below HB.out hx310_5
        replace hx310_6 := pw_cell_below HB.out hx310_6
        replace hx310_7 := pw_cell_below HB.out hx310_7
        replace p310 := eq_true p310
        replace q310 := eq_true q310
        go_wp2
        repeat (go_quiet (fail); try go_wp2)
        go_ret
        exact ⟨yE, yG2 HB GE307.out GE308.out⟩
       ·
        rw [if_neg c12] at H
        have c12b0 : (!(((rd_T54 l0_4 x5_1).f2.f0) == ((rd_T54 l1_4 x5_1).f2.f0)) || (!(((rd_T54 l0_4 x5_1).f2.f1) == ((rd_T54 l1_4 x5_1).f2.f1)))) = false := by simpa using c12
        clear c12
        by_cases c16 : (((rd_T54 l0_4 x5_1).f3) != ((rd_T54 l1_4 x5_1).f3)) = true
        ·
         rw [if_pos c16] at H
         have c16b0 : (((rd_T54 l0_4 x5_1).f3) != ((rd_T54 l1_4 x5_1).f3)) = true := c16
         (try (have c16b1 : decide (((rd_T54 l0_4 x5_1).f3) = ((rd_T54 l1_4 x5_1).f3)) = false := by simpa using c16))
         (try (have c16b2 : (((rd_T54 l0_4 x5_1).f3) == ((rd_T54 l1_4 x5_1).f3)) = false := by simpa using c16))
         (try (have c16b3 : ¬ (((rd_T54 l0_4 x5_1).f3) = ((rd_T54 l1_4 x5_1).f3)) := by simpa using c16))
         clear c16
         obtain rfl := Option.some.inj H
         have hnb17 := NB307_308.out
         have hnc17 := NB308_307.out
         obtain ⟨hcz18_0, hcz18_1, hcz18_2, hcz18_3, hcz18_4, hfz18_0, hfz18_1, hfz18_2, hfz18_3, hfz18_4⟩ := cells5 BK307.out
         have p309 : 0 ≤ (x5_1 : Int) := oD yA
         have q309 : x5_1 < (l0_4.length : Int) := oD yA
         obtain ⟨ad309, e309, hx309_0, hx309_1, hx309_2, hx309_3, hx309_4, hx309_5, hx309_6, hx309_7⟩ := at_T54 HR0_4.out x5_1 p309 q309
         cases e309
         replace hx309_0 := pw_cell_below HB.out hx309_0
         replace hx309_1 := pw_cell_below HB.out hx309_1
         replace hx309_2 := pw_cell_below HB.out hx309_2
         replace hx309_3 := pw_cell_below HB.out hx309_3
         replace hx309_4 := pw_cell_below HB.out hx309_4
         replace hx309_5 := pw_cell_below HB.out hx309_5
         replace hx309_6 := pw_cell_below HB.out hx309_6
         replace hx309_7 := pw_cell_below HB.out hx309_7
         replace p309 := eq_true p309
         replace q309 := eq_true q309
         obtain ⟨hcz19_0, hcz19_1, hcz19_2, hcz19_3, hcz19_4, hfz19_0, hfz19_1, hfz19_2, hfz19_3, hfz19_4⟩ := cells5 BK308.out
         have p310 : 0 ≤ (x5_1 : Int) := oD yA
         have q310 : x5_1 < (l1_4.length : Int) := oD yA
         obtain ⟨ad310, e310, hx310_0, hx310_1, hx310_2, hx310_3, hx310_4, hx310_5, hx310_6, hx310_7⟩ := at_T54 HR1_4.out x5_1 p310 q310
         cases e310
         replace hx310_0 := pw_cell_below HB.out hx310_0
         replace hx310_1 := pw_cell_below HB.out hx310_1
         replace hx310_2 := pw_cell_below HB.out hx310_2
         replace hx310_3 := pw_cell_below HB.out hx310_3
         replace hx310_4 := pw_cell_below HB.out hx310_4
         replace hx310_5 := pw_cell_below HB.out hx310_5
         replace hx310_6 := pw_cell_below HB.out hx310_6
         replace hx310_7 := pw_cell_below HB.out hx310_7
         replace p310 := eq_true p310
         replace q310 := eq_true q310
         have p311 : 0 ≤ (x5_1 : Int) := oD yA
         have q311 : x5_1 < (l0_4.length : Int) := oD yA
         obtain ⟨ad311, e311, hx311_0, hx311_1, hx311_2, hx311_3, hx311_4, hx311_5, hx311_6, hx311_7⟩ := at_T54 HR0_4.out x5_1 p311 q311
         obtain rfl : ad309 = ad311 := (by injection e311)
         replace hx311_0 := pw_cell_below HB.out hx311_0
         replace hx311_1 := pw_cell_below HB.out hx311_1
         replace hx311_2 := pw_cell_below HB.out hx311_2
         replace hx311_3 := pw_cell_below HB.out hx311_3
         replace hx311_4 := pw_cell_below HB.out hx311_4
         replace hx311_5 := pw_cell_below HB.out hx311_5
         replace hx311_6 := pw_cell_below HB.out hx311_6
         replace hx311_7 := pw_cell_below HB.out hx311_7
         replace p311 := eq_true p311
         replace q311 := eq_true q311
         have p312 : 0 ≤ (x5_1 : Int) := oD yA
         have q312 : x5_1 < (l1_4.length : Int) := oD yA
         obtain ⟨ad312, e312, hx312_0, hx312_1, hx312_2, hx312_3, hx312_4, hx312_5, hx312_6, hx312_7⟩ := at_T54 HR1_4.out x5_1 p312 q312
         obtain rfl : ad310 = ad312 := (by injection e312)
         replace hx312_0 := pw_cell_below HB.out hx312_0
         replace hx312_1 := pw_cell_below HB.out hx312_1
         replace hx312_2 := pw_cell_below HB.out hx312_2
         replace hx312_3 := pw_cell_below HB.out hx312_3
         replace hx312_4 := pw_cell_below HB.out hx312_4
         replace hx312_5 := pw_cell_below HB.out hx312_5
         replace hx312_6 := pw_cell_below HB.out hx312_6
         replace hx312_7 := pw_cell_below HB.out hx312_7
         replace p312 := eq_true p312
         replace q312 := eq_true q312
         go_wp2
         repeat (go_quiet (fail); try go_wp2)
         go_ret
         exact ⟨yE, yG2 HB GE307.out GE308.out⟩
        ·
         rw [if_neg c16] at H
         have c16b0 : (((rd_T54 l0_4 x5_1).f3) != ((rd_T54 l1_4 x5_1).f3)) = false := by simpa using c16
         (try (have c16b1 : decide (((rd_T54 l0_4 x5_1).f3) = ((rd_T54 l1_4 x5_1).f3)) = true := by simpa using c16))
         (try (have c16b2 : (((rd_T54 l0_4 x5_1).f3) == ((rd_T54 l1_4 x5_1).f3)) = true := by simpa using c16))
         clear c16
         have H' := aM H
         clear H
         have hnb20 := NB307_308.out
         have hnc20 := NB308_307.out
         obtain ⟨hcz21_0, hcz21_1, hcz21_2, hcz21_3, hcz21_4, hfz21_0, hfz21_1, hfz21_2, hfz21_3, hfz21_4⟩ := cells5 BK307.out
         have p309 : 0 ≤ (x5_1 : Int) := oD yA
         have q309 : x5_1 < (l0_4.length : Int) := oD yA
         obtain ⟨ad309, e309, hx309_0, hx309_1, hx309_2, hx309_3, hx309_4, hx309_5, hx309_6, hx309_7⟩ := at_T54 HR0_4.out x5_1 p309 q309
         cases e309
         replace hx309_0 := pw_cell_below HB.out hx309_0
         replace hx309_1 := pw_cell_below HB.out hx309_1
         replace hx309_2 := pw_cell_below HB.out hx309_2
         replace hx309_3 := pw_cell_below HB.out hx309_3
         replace hx309_4 := pw_cell_below HB.out hx309_4
         replace hx309_5 := pw_cell_below HB.out hx309_5
         replace hx309_6 := pw_cell_below HB.out hx309_6
         replace hx309_7 := pw_cell_below HB.out hx309_7
         replace p309 := eq_true p309
         replace q309 := eq_true q309
         obtain ⟨hcz22_0, hcz22_1, hcz22_2, hcz22_3, hcz22_4, hfz22_0, hfz22_1, hfz22_2, hfz22_3, hfz22_4⟩ := cells5 BK308.out
         have p310 : 0 ≤ (x5_1 : Int) := oD yA
         have q310 : x5_1 < (l1_4.length : Int) := oD yA
         obtain ⟨ad310, e310, hx310_0, hx310_1, hx310_2, hx310_3, hx310_4, hx310_5, hx310_6, hx310_7⟩ := at_T54 HR1_4.out x5_1 p310 q310
         cases e310
         replace hx310_0 := pw_cell_below HB.out hx310_0
         replace hx310_1 := pw_cell_below HB.out hx310_1
         replace hx310_2 := pw_cell_below HB.out hx310_2
         replace hx310_3 := pw_cell_below HB.out hx310_3
         replace hx310_4 := pw_cell_below HB.out hx310_4
         replace hx310_5 := pw_cell_below HB.out hx310_5
         replace hx310_6 := pw_cell_below HB.out hx310_6
         replace hx310_7 := pw_cell_below HB.out hx310_7
         replace p310 := eq_true p310
         replace q310 := eq_true q310
         have p311 : 0 ≤ (x5_1 : Int) := oD yA
         have q311 : x5_1 < (l0_4.length : Int) := oD yA
         obtain ⟨ad311, e311, hx311_0, hx311_1, hx311_2, hx311_3, hx311_4, hx311_5, hx311_6, hx311_7⟩ := at_T54 HR0_4.out x5_1 p311 q311
         obtain rfl : ad309 = ad311 := (by injection e311)
         replace hx311_0 := pw_cell_below HB.out hx311_0
         replace hx311_1 := pw_cell_below HB.out hx311_1
         replace hx311_2 := pw_cell_below HB.out hx311_2
         replace hx311_3 := pw_cell_below HB.out hx311_3
         replace hx311_4 := pw_cell_below HB.out hx311_4
         replace hx311_5 := pw_cell_below HB.out hx311_5
         replace hx311_6 := pw_cell_below HB.out hx311_6
         replace hx311_7 := pw_cell_below HB.out hx311_7
         replace p311 := eq_true p311
         replace q311 := eq_true q311
         have p312 : 0 ≤ (x5_1 : Int) := oD yA
         have q312 : x5_1 < (l1_4.length : Int) := oD yA
         obtain ⟨ad312, e312, hx312_0, hx312_1, hx312_2, hx312_3, hx312_4, hx312_5, hx312_6, hx312_7⟩ := at_T54 HR1_4.out x5_1 p312 q312
         obtain rfl : ad310 = ad312 := (by injection e312)
         replace hx312_0 := pw_cell_below HB.out hx312_0
         replace hx312_1 := pw_cell_below HB.out hx312_1
         replace hx312_2 := pw_cell_below HB.out hx312_2
         replace hx312_3 := pw_cell_below HB.out hx312_3
         replace hx312_4 := pw_cell_below HB.out hx312_4
         replace hx312_5 := pw_cell_below HB.out hx312_5
         replace hx312_6 := pw_cell_below HB.out hx312_6
         replace hx312_7 := pw_cell_below HB.out hx312_7
         replace p312 := eq_true p312
         replace q312 := eq_true q312
         go_wp2
         repeat (go_quiet (fail); try go_wp2)
         go_roundg k1
         case measure => have := HK1.out; omega
         case rel => exact ⟨(wrap64 (x5_1 + 1)), yS, H', ⟨by have := HK1.out; omega⟩, ⟨yK BK307⟩, ⟨yK BK308⟩, ⟨yG2 HB GE307.out GE308.out⟩⟩
      ·
       rw [if_neg c11] at H
       exact absurd H (by simp)
     ·
      rw [if_neg c10] at H
      exact absurd H (by simp)
    ·
     rw [if_neg c9] at H
     have c9b0 : decide (x5_1 < (l0_4.length : Int)) = false := decide_eq_false c9
     clear c9
     obtain rfl := Option.some.inj H
     have hnb23 := NB307_308.out
     have hnc23 := NB308_307.out
     obtain ⟨hcz24_0, hcz24_1, hcz24_2, hcz24_3, hcz24_4, hfz24_0, hfz24_1, hfz24_2, hfz24_3, hfz24_4⟩ := cells5 BK307.out
     go_wp2
     repeat (go_quiet (fail); try go_wp2)
     go_ret
     exact ⟨yE, yG2 HB GE307.out GE308.out⟩
 ·
  rw [if_neg c3] at H
  have c3b0 : ((l0_4.length : Int) == (l1_4.length : Int)) = false := beq_eq_false_iff_ne.mpr c3
  have c3b1 : ((l0_4.length : Int) != (l1_4.length : Int)) = true := bne_iff_ne.mpr c3
  have c3b2 : (l0_4.length == l1_4.length) = false := by first | simpa using c3 | (simp at c3 ⊢; omega)
  obtain rfl := Option.some.inj H
  go_enter Tryd.func53, Tryd.ntmps53
  go_wp2_with (first | ((with_reducible refine gate_dst (N := 2) rfl ?_); refine yX (N := 2) (cs := #[.int .i64 a0_0, .string a0_1, .int .i64 a0_2, .int .i64 a0_3, .slice A0_4 l0_4.length c0_4]) (t := 24) ?_; intro gb307 hg w25 hbox hb; have BK307 := aM (hbox); have GW307 := yZ hg (yB HB); have GE307 := yZ hg (yB HB); replace HB := aM (bP (yB HB) hb); clear hb hbox hg) | ((with_reducible refine gate_dst (N := 3) rfl ?_); refine yX (N := 3) (cs := #[.int .i64 a1_0, .string a1_1, .int .i64 a1_2, .int .i64 a1_3, .slice A1_4 l1_4.length c1_4]) (t := 24) ?_; intro gb308 hg w26 hbox hb; have BK308 := aM (hbox); have GW308 := yZ hg (yG1 HB GE307.out); have GE308 := yZ hg (yG1 HB GE307.out); replace HB := aM (bP (yG1 HB GE307.out) hb); have NB307_308 := yN hg (yK BK307); have NB308_307 := yM hg (yK BK307); replace BK307 := aM (kB (yK BK307) hb); clear hb hbox hg; have hnb27 := NB307_308.out; have hnc27 := NB308_307.out; obtain ⟨hcz28_0, hcz28_1, hcz28_2, hcz28_3, hcz28_4, hfz28_0, hfz28_1, hfz28_2, hfz28_3, hfz28_4⟩ := cells5 BK307.out; obtain ⟨hcz29_0, hcz29_1, hcz29_2, hcz29_3, hcz29_4, hfz29_0, hfz29_1, hfz29_2, hfz29_3, hfz29_4⟩ := cells5 BK308.out))
  repeat (go_quiet (first | ((with_reducible refine gate_dst (N := 2) rfl ?_); refine yX (N := 2) (cs := #[.int .i64 a0_0, .string a0_1, .int .i64 a0_2, .int .i64 a0_3, .slice A0_4 l0_4.length c0_4]) (t := 24) ?_; intro gb307 hg w25 hbox hb; have BK307 := aM (hbox); have GW307 := yZ hg (yB HB); have GE307 := yZ hg (yB HB); replace HB := aM (bP (yB HB) hb); clear hb hbox hg) | ((with_reducible refine gate_dst (N := 3) rfl ?_); refine yX (N := 3) (cs := #[.int .i64 a1_0, .string a1_1, .int .i64 a1_2, .int .i64 a1_3, .slice A1_4 l1_4.length c1_4]) (t := 24) ?_; intro gb308 hg w26 hbox hb; have BK308 := aM (hbox); have GW308 := yZ hg (yG1 HB GE307.out); have GE308 := yZ hg (yG1 HB GE307.out); replace HB := aM (bP (yG1 HB GE307.out) hb); have NB307_308 := yN hg (yK BK307); have NB308_307 := yM hg (yK BK307); replace BK307 := aM (kB (yK BK307) hb); clear hb hbox hg; have hnb27 := NB307_308.out; have hnc27 := NB308_307.out; obtain ⟨hcz28_0, hcz28_1, hcz28_2, hcz28_3, hcz28_4, hfz28_0, hfz28_1, hfz28_2, hfz28_3, hfz28_4⟩ := cells5 BK307.out; obtain ⟨hcz29_0, hcz29_1, hcz29_2, hcz29_3, hcz29_4, hfz29_0, hfz29_1, hfz29_2, hfz29_3, hfz29_4⟩ := cells5 BK308.out)); try go_wp2_with (first | ((with_reducible refine gate_dst (N := 2) rfl ?_); refine yX (N := 2) (cs := #[.int .i64 a0_0, .string a0_1, .int .i64 a0_2, .int .i64 a0_3, .slice A0_4 l0_4.length c0_4]) (t := 24) ?_; intro gb307 hg w25 hbox hb; have BK307 := aM (hbox); have GW307 := yZ hg (yB HB); have GE307 := yZ hg (yB HB); replace HB := aM (bP (yB HB) hb); clear hb hbox hg) | ((with_reducible refine gate_dst (N := 3) rfl ?_); refine yX (N := 3) (cs := #[.int .i64 a1_0, .string a1_1, .int .i64 a1_2, .int .i64 a1_3, .slice A1_4 l1_4.length c1_4]) (t := 24) ?_; intro gb308 hg w26 hbox hb; have BK308 := aM (hbox); have GW308 := yZ hg (yG1 HB GE307.out); have GE308 := yZ hg (yG1 HB GE307.out); replace HB := aM (bP (yG1 HB GE307.out) hb); have NB307_308 := yN hg (yK BK307); have NB308_307 := yM hg (yK BK307); replace BK307 := aM (kB (yK BK307) hb); clear hb hbox hg; have hnb27 := NB307_308.out; have hnc27 := NB308_307.out; obtain ⟨hcz28_0, hcz28_1, hcz28_2, hcz28_3, hcz28_4, hfz28_0, hfz28_1, hfz28_2, hfz28_3, hfz28_4⟩ := cells5 BK307.out; obtain ⟨hcz29_0, hcz29_1, hcz29_2, hcz29_3, hcz29_4, hfz29_0, hfz29_1, hfz29_2, hfz29_3, hfz29_4⟩ := cells5 BK308.out)))
  go_ret
  exact ⟨yE, yG2 HB GE307.out GE308.out⟩
end Go.Proofs.YtdeophpjammbpaaDoor.HRowcodeTypes

/- For Go functions that SchemaRight reaches: Lean functions, and walks that show that each call comes to what its Lean function tells; no condition but those that each theorem states. (Made by a program of this session over the kit's print.py.) -/
import Derived.Test.YtdeophpjammbpaaDoorHSchemaRightx0
import Derived.Test.YtdeophpjammbpaaDoorHSchemaRightx9
namespace Go.Proofs.YtdeophpjammbpaaDoor.HSchemaRight
open Go.RowKit Go.Proofs.YtdeophpjammbpaaDoorW.PrintWords Go.Proofs.YtdeophpjammbpaaDoorW.PrintLast Go.Proofs.YtdeophpjammbpaaDoorW.PrintMore
attribute [local go_sem] max2_int min2_int max_two min_two max_three min_three max_four min_four   -- for this text's walks alone
set_option linter.unusedVariables false
set_option linter.unusedSimpArgs false
attribute [local go_sem] hp_s8 hp_s16 hp_s32 hp_s64 hp_m8 hp_m16 hp_m32 hp_m64
/-! ### haulagelaw08_FewAll: function 25 -/
def haulagelaw08_FewAll.l0 : Nat → Int → List (S24) → Option (Bool)
 | 0, _, _ => none
 | k + 1, x3, x219000 => if x3 < (x219000.length : Int) then (if 0 ≤ x3 then ((haulagelaw08_Few.f k ((rd_T24 x219000 x3).f0) ((rd_T24 x219000 x3).f1) ((rd_T24 x219000 x3).f2) ((rd_T24 x219000 x3).f3) ((rd_T24 x219000 x3).f4)).bind fun t220 => (if t220 = true then (haulagelaw08_FewAll.l0 k (wrap64 (x3 + 1)) x219000) else (some false))) else (none)) else (some true)
def haulagelaw08_FewAll.f (k : Nat) (l0_0 : List (S24)) : Option (Bool) := if (l0_0.length : Int) > 10 then (some false) else (haulagelaw08_FewAll.l0 k 0 l0_0)
theorem haulagelaw08_FewAll.mono_l : ∀ k, (∀ y0 y1, LeO (haulagelaw08_FewAll.l0 k y0 y1) (haulagelaw08_FewAll.l0 (k + 1) y0 y1))
 | 0 => fun _ _ r h => by simp [haulagelaw08_FewAll.l0] at h
 | k + 1 => by
  have ih0 := haulagelaw08_FewAll.mono_l k
  ·
   intro y0 y1
   unfold haulagelaw08_FewAll.l0
   repeat' first
   | (with_reducible exact ih0 _ _)
   | (with_reducible exact haulagelaw08_Few.mono _ _ _ _ _ _)
   | (with_reducible exact LeO.refl _)
   | (with_reducible exact LeO.none _)
   | (with_reducible refine LeO.ite ?_ ?_)
   | (with_reducible refine LeO.bind ?_ (fun _ => ?_))
   | exact ih0 _ _
   | exact haulagelaw08_Few.mono _ _ _ _ _ _
   | exact LeO.none _
   | refine LeO.ite ?_ ?_
   | refine LeO.bind ?_ (fun _ => ?_)
theorem haulagelaw08_FewAll.mono : ∀ a0 k, LeO (haulagelaw08_FewAll.f k a0) (haulagelaw08_FewAll.f (k + 1) a0) := by
 intro a0 k
 have ih0 := haulagelaw08_FewAll.mono_l k
 unfold haulagelaw08_FewAll.f
 repeat' first
   | (with_reducible exact ih0 _ _)
   | (with_reducible exact haulagelaw08_Few.mono _ _ _ _ _ _)
   | (with_reducible exact LeO.refl _)
   | (with_reducible exact LeO.none _)
   | (with_reducible refine LeO.ite ?_ ?_)
   | (with_reducible refine LeO.bind ?_ (fun _ => ?_))
   | exact ih0 _ _
   | exact haulagelaw08_Few.mono _ _ _ _ _ _
   | exact LeO.none _
   | refine LeO.ite ?_ ?_
   | refine LeO.bind ?_ (fun _ => ?_)
set_option maxHeartbeats 8000000 in
set_option maxRecDepth 100000 in
theorem haulagelaw08_FewAll.calls (k : Nat) (A0_0 : Option Addr) (c0_0 : Nat) (l0_0 : List (S24)) (r : Bool) (w : World) (hr0_0 : Kd.C k24 w A0_0 l0_0.length l0_0) (hc0_0 : l0_0.length ≤ c0_0) (h : haulagelaw08_FewAll.f k l0_0 = some r) :
  Calls Tryd.prog 25 #[.agg #[.slice A0_0 l0_0.length c0_0]] w fun e w' => e = .returned (.bool r) ∧ Below w.heap.size w w' := by
 have hu46 := Tryd.underlying46
 have hu24 := Tryd.underlying24
 have HR0_0 := aM hr0_0
 have HC0_0 := aM hc0_0
 clear hr0_0 hc0_0
 have HB := aM (Below.refl w.heap.size w)
 have H : (if (l0_0.length : Int) > 10 then (some false) else (haulagelaw08_FewAll.l0 k 0 l0_0)) = some r := h
 clear h
 by_cases c2 : (l0_0.length : Int) > 10
 ·
  rw [if_pos c2] at H
  have c2b0 : decide (10 < (l0_0.length : Int)) = true := decide_eq_true c2
  have c2b1 : decide (10 < l0_0.length) = true := decide_eq_true (by omega)
  clear c2
  obtain rfl := Option.some.inj H
  go_enter Tryd.func25, Tryd.ntmps25
  go_wp2_with (first | ((with_reducible refine gate_dst (N := 1) rfl ?_); refine yX (N := 1) (cs := #[.slice A0_0 l0_0.length c0_0]) (t := 46) ?_; intro gb218 hg w3 hbox hb; have BK218 := aM (hbox); have GW218 := yZ hg (yB HB); have GE218 := yZ hg (yB HB); replace HB := aM (bP (yB HB) hb); clear hb hbox hg; obtain ⟨hcz4_0, hfz4_0⟩ := cells1 BK218.out))
  go_ret
  exact ⟨yE, yG1 HB GE218.out⟩
 ·
  rw [if_neg c2] at H
  have c2b0 : decide (10 < (l0_0.length : Int)) = false := decide_eq_false c2
  have c2b1 : decide (10 < l0_0.length) = false := decide_eq_false (by omega)
  clear c2
  have H' := aM H
  clear H
  go_enter Tryd.func25, Tryd.ntmps25
  go_wp2_with (first | ((with_reducible refine gate_dst (N := 1) rfl ?_); refine yX (N := 1) (cs := #[.slice A0_0 l0_0.length c0_0]) (t := 46) ?_; intro gb218 hg w5 hbox hb; have BK218 := aM (hbox); have GW218 := yZ hg (yB HB); have GE218 := yZ hg (yB HB); replace HB := aM (bP (yB HB) hb); clear hb hbox hg; obtain ⟨hcz6_0, hfz6_0⟩ := cells1 BK218.out))
  go_loopg [3] k (fun kq v3 w' => ∃ (x3_1 : Int), v3 = .int .i64 x3_1 ∧ Aside0 (haulagelaw08_FewAll.l0 kq x3_1 l0_0 = some r) ∧ Aside0 (kq ≤ k) ∧ Aside0 (w'.heap[gb218]? = some (.cells #[(.slice A0_0 l0_0.length c0_0)] 46 (0, 0))) ∧ Aside0 (Below w.heap.size w w'))
  case atStart => exact ⟨(0), yS, H', ⟨Nat.le_refl _⟩, ⟨yK BK218⟩, ⟨yG1 HB GE218.out⟩⟩
  case round =>
   clear H'
   try clear c2
   try clear c2b0
   try clear c2b1
   try clear p2
   try clear hcz4_0
   try clear hcz6_0
   try clear hfz4_0
   try clear hfz6_0
   obtain ⟨x3_1, rfl, HA, HK1, BK218, HB⟩ := hrel
   cases gk with
   | zero => exact absurd HA.out (by simp [haulagelaw08_FewAll.l0])
   | succ k1 =>
    have H := HA.out
    clear HA
    simp only [haulagelaw08_FewAll.l0] at H
    by_cases c7 : x3_1 < (l0_0.length : Int)
    ·
     rw [if_pos c7] at H
     have c7b0 : decide (x3_1 < (l0_0.length : Int)) = true := decide_eq_true c7
     clear c7
     by_cases c8 : 0 ≤ x3_1
     ·
      rw [if_pos c8] at H
      have c8b0 : decide (0 ≤ x3_1) = true := decide_eq_true c8
      clear c8
      replace H := Option.bind_eq_some_iff.mp H
      obtain ⟨t220, A90, H⟩ := H
      replace H : (if t220 = true then (haulagelaw08_FewAll.l0 k1 (wrap64 (x3_1 + 1)) l0_0) else (some false)) = some r := H
      have A9 := aM A90
      clear A90
      by_cases c10 : t220 = true
      ·
       subst c10
       have H1 : (haulagelaw08_FewAll.l0 k1 (wrap64 (x3_1 + 1)) l0_0) = some r := by rw [if_pos rfl] at H; exact H
       clear H
       have H := H1
       clear H1
       have H' := aM H
       clear H
       obtain ⟨hcz11_0, hfz11_0⟩ := cells1 BK218.out
       have p219 : 0 ≤ (x3_1 : Int) := oD yA
       have q219 : x3_1 < (l0_0.length : Int) := oD yA
       obtain ⟨ad219, A219_4, c219_4, e219, hx219_0, hx219_1, hx219_2, hx219_3, hx219_4, hl219_4, hi219_4⟩ := at_T24 HR0_0.out x3_1 p219 q219
       cases e219
       replace hx219_0 := pw_cell_below HB.out hx219_0
       replace hx219_1 := pw_cell_below HB.out hx219_1
       replace hx219_2 := pw_cell_below HB.out hx219_2
       replace hx219_3 := pw_cell_below HB.out hx219_3
       replace hx219_4 := pw_cell_below HB.out hx219_4
       have HR219_4 := aM hi219_4
       have HC219_4 := aM hl219_4
       clear hi219_4 hl219_4
       replace p219 := eq_true p219
       replace q219 := eq_true q219
       go_wp2_with (first | ((with_reducible refine gate_callee (f := 14) rfl ?_); refine yC 20 Tryd.func14 #[.agg #[.int .i64 ((rd_T24 l0_0 x3_1).f0), .string ((rd_T24 l0_0 x3_1).f1), .int .i64 ((rd_T24 l0_0 x3_1).f2), .int .i64 ((rd_T24 l0_0 x3_1).f3), .slice A219_4 ((rd_T24 l0_0 x3_1).f4).length c219_4]] rfl ?_; (with_reducible refine (haulagelaw08_Few.calls k1 ((rd_T24 l0_0 x3_1).f0) ((rd_T24 l0_0 x3_1).f1) ((rd_T24 l0_0 x3_1).f2) ((rd_T24 l0_0 x3_1).f3) _ _ ((rd_T24 l0_0 x3_1).f4) true _ ?side1 ?side2 A9.out).mono ?_); (case side1 => exact yW (Kd.C_below HR219_4.out HB.out)); (case side2 => exact HC219_4.out); rintro e w12 ⟨rfl, hb⟩; refine ⟨_, rfl, ?_⟩; replace BK218 := aM (kB (yK BK218) hb); replace HB := aM (bP (yG1 HB GE218.out) hb); (try clear hb)))
       go_roundg k1
       case measure => have := HK1.out; omega
       case rel => exact ⟨(wrap64 (x3_1 + 1)), yS, H', ⟨by have := HK1.out; omega⟩, ⟨yK BK218⟩, ⟨yG1 HB GE218.out⟩⟩
      ·
       replace c10 := Bool.eq_false_iff.mpr c10
       subst c10
       have H1 : (some false) = some r := by rw [if_neg (show ¬ (false = true) by decide)] at H; exact H
       clear H
       have H := H1
       clear H1
       obtain rfl := Option.some.inj H
       obtain ⟨hcz13_0, hfz13_0⟩ := cells1 BK218.out
       have p219 : 0 ≤ (x3_1 : Int) := oD yA
       have q219 : x3_1 < (l0_0.length : Int) := oD yA
       obtain ⟨ad219, A219_4, c219_4, e219, hx219_0, hx219_1, hx219_2, hx219_3, hx219_4, hl219_4, hi219_4⟩ := at_T24 HR0_0.out x3_1 p219 q219
       cases e219
       replace hx219_0 := pw_cell_below HB.out hx219_0
       replace hx219_1 := pw_cell_below HB.out hx219_1
       replace hx219_2 := pw_cell_below HB.out hx219_2
       replace hx219_3 := pw_cell_below HB.out hx219_3
       replace hx219_4 := pw_cell_below HB.out hx219_4
       have HR219_4 := aM hi219_4
       have HC219_4 := aM hl219_4
       clear hi219_4 hl219_4
       replace p219 := eq_true p219
       replace q219 := eq_true q219
       go_wp2_with (first | ((with_reducible refine gate_callee (f := 14) rfl ?_); refine yC 20 Tryd.func14 #[.agg #[.int .i64 ((rd_T24 l0_0 x3_1).f0), .string ((rd_T24 l0_0 x3_1).f1), .int .i64 ((rd_T24 l0_0 x3_1).f2), .int .i64 ((rd_T24 l0_0 x3_1).f3), .slice A219_4 ((rd_T24 l0_0 x3_1).f4).length c219_4]] rfl ?_; (with_reducible refine (haulagelaw08_Few.calls k1 ((rd_T24 l0_0 x3_1).f0) ((rd_T24 l0_0 x3_1).f1) ((rd_T24 l0_0 x3_1).f2) ((rd_T24 l0_0 x3_1).f3) _ _ ((rd_T24 l0_0 x3_1).f4) false _ ?side1 ?side2 A9.out).mono ?_); (case side1 => exact yW (Kd.C_below HR219_4.out HB.out)); (case side2 => exact HC219_4.out); rintro e w14 ⟨rfl, hb⟩; refine ⟨_, rfl, ?_⟩; replace BK218 := aM (kB (yK BK218) hb); replace HB := aM (bP (yG1 HB GE218.out) hb); (try clear hb)))
       go_ret
       exact ⟨yE, yG1 HB GE218.out⟩
     ·
      rw [if_neg c8] at H
      exact absurd H (by simp)
    ·
     rw [if_neg c7] at H
     have c7b0 : decide (x3_1 < (l0_0.length : Int)) = false := decide_eq_false c7
     clear c7
     obtain rfl := Option.some.inj H
     obtain ⟨hcz15_0, hfz15_0⟩ := cells1 BK218.out
     go_wp2
     go_ret
     exact ⟨yE, yG1 HB GE218.out⟩
/-! ### haulageref06_Right: function 72 -/
def haulageref06_Right.f (a0_0 : Int) (a0_1 : Int) : Option (Bool) := if a0_0 = 1 then (some (a0_1 == 0)) else (if a0_0 = 2 then (some (a0_1 == 0)) else (if a0_0 = 3 then (if a0_1 ≥ 1 then (some (decide (a0_1 ≤ 120))) else (some false)) else (if a0_0 = 4 then (if a0_1 ≥ 1 then (some (decide (a0_1 ≤ 120))) else (some false)) else (some false))))
set_option maxHeartbeats 8000000 in
set_option maxRecDepth 100000 in
theorem haulageref06_Right.calls (a0_0 : Int) (a0_1 : Int) (r : Bool) (w : World) (h : haulageref06_Right.f a0_0 a0_1 = some r) :
  Calls Tryd.prog 72 #[.agg #[.int .i64 a0_0, .int .i64 a0_1]] w fun e w' => e = .returned (.bool r) ∧ Below w.heap.size w w' := by
 have hu50 := Tryd.underlying50
 have HB := aM (Below.refl w.heap.size w)
 have H : (if a0_0 = 1 then (some (a0_1 == 0)) else (if a0_0 = 2 then (some (a0_1 == 0)) else (if a0_0 = 3 then (if a0_1 ≥ 1 then (some (decide (a0_1 ≤ 120))) else (some false)) else (if a0_0 = 4 then (if a0_1 ≥ 1 then (some (decide (a0_1 ≤ 120))) else (some false)) else (some false))))) = some r := h
 clear h
 by_cases c2 : a0_0 = 1
 ·
  rw [if_pos c2] at H
  have c2b0 : (a0_0 == 1) = true := beq_iff_eq.mpr c2
  have c2b1 : (a0_0 != 1) = false := bne_eq_false_iff_eq.mpr c2
  clear c2
  obtain rfl := Option.some.inj H
  go_enter Tryd.func72, Tryd.ntmps72
  go_wp2_with (first | ((with_reducible refine gate_dst (N := 1) rfl ?_); refine yX (N := 1) (cs := #[.int .i64 a0_0, .int .i64 a0_1]) (t := 50) ?_; intro gb221 hg w3 hbox hb; have BK221 := aM (hbox); have GW221 := yZ hg (yB HB); have GE221 := yZ hg (yB HB); replace HB := aM (bP (yB HB) hb); clear hb hbox hg; obtain ⟨hcz4_0, hcz4_1, hfz4_0, hfz4_1⟩ := cells2 BK221.out))
  go_ret
  exact ⟨yE, yG1 HB GE221.out⟩
 ·
  rw [if_neg c2] at H
  have c2b0 : (a0_0 == 1) = false := beq_eq_false_iff_ne.mpr c2
  have c2b1 : (a0_0 != 1) = true := bne_iff_ne.mpr c2
  by_cases c5 : a0_0 = 2
  ·
   rw [if_pos c5] at H
   have c5b0 : (a0_0 == 2) = true := beq_iff_eq.mpr c5
   have c5b1 : (a0_0 != 2) = false := bne_eq_false_iff_eq.mpr c5
   clear c5
   obtain rfl := Option.some.inj H
   go_enter Tryd.func72, Tryd.ntmps72
   go_wp2_with (first | ((with_reducible refine gate_dst (N := 1) rfl ?_); refine yX (N := 1) (cs := #[.int .i64 a0_0, .int .i64 a0_1]) (t := 50) ?_; intro gb221 hg w6 hbox hb; have BK221 := aM (hbox); have GW221 := yZ hg (yB HB); have GE221 := yZ hg (yB HB); replace HB := aM (bP (yB HB) hb); clear hb hbox hg; obtain ⟨hcz7_0, hcz7_1, hfz7_0, hfz7_1⟩ := cells2 BK221.out))
   go_ret
   exact ⟨yE, yG1 HB GE221.out⟩
  ·
   rw [if_neg c5] at H
   have c5b0 : (a0_0 == 2) = false := beq_eq_false_iff_ne.mpr c5
   have c5b1 : (a0_0 != 2) = true := bne_iff_ne.mpr c5
   by_cases c8 : a0_0 = 3
   ·
    rw [if_pos c8] at H
    have c8b0 : (a0_0 == 3) = true := beq_iff_eq.mpr c8
    have c8b1 : (a0_0 != 3) = false := bne_eq_false_iff_eq.mpr c8
    clear c8
    by_cases c9 : a0_1 ≥ 1
    ·
     rw [if_pos c9] at H
     have c9b0 : decide (1 ≤ a0_1) = true := decide_eq_true c9
     clear c9
     obtain rfl := Option.some.inj H
     go_enter Tryd.func72, Tryd.ntmps72
     go_wp2_with (first | ((with_reducible refine gate_dst (N := 1) rfl ?_); refine yX (N := 1) (cs := #[.int .i64 a0_0, .int .i64 a0_1]) (t := 50) ?_; intro gb221 hg w10 hbox hb; have BK221 := aM (hbox); have GW221 := yZ hg (yB HB); have GE221 := yZ hg (yB HB); replace HB := aM (bP (yB HB) hb); clear hb hbox hg; obtain ⟨hcz11_0, hcz11_1, hfz11_0, hfz11_1⟩ := cells2 BK221.out))
     go_ret
     exact ⟨yE, yG1 HB GE221.out⟩
    ·
     rw [if_neg c9] at H
     have c9b0 : decide (1 ≤ a0_1) = false := decide_eq_false c9
     clear c9
     obtain rfl := Option.some.inj H
     go_enter Tryd.func72, Tryd.ntmps72
     go_wp2_with (first | ((with_reducible refine gate_dst (N := 1) rfl ?_); refine yX (N := 1) (cs := #[.int .i64 a0_0, .int .i64 a0_1]) (t := 50) ?_; intro gb221 hg w12 hbox hb; have BK221 := aM (hbox); have GW221 := yZ hg (yB HB); have GE221 := yZ hg (yB HB); replace HB := aM (bP (yB HB) hb); clear hb hbox hg; obtain ⟨hcz13_0, hcz13_1, hfz13_0, hfz13_1⟩ := cells2 BK221.out))
     go_ret
     exact ⟨yE, yG1 HB GE221.out⟩
   ·
    rw [if_neg c8] at H
    have c8b0 : (a0_0 == 3) = false := beq_eq_false_iff_ne.mpr c8
    have c8b1 : (a0_0 != 3) = true := bne_iff_ne.mpr c8
    by_cases c14 : a0_0 = 4
    ·
     rw [if_pos c14] at H
     have c14b0 : (a0_0 == 4) = true := beq_iff_eq.mpr c14
     have c14b1 : (a0_0 != 4) = false := bne_eq_false_iff_eq.mpr c14
     clear c14
     by_cases c15 : a0_1 ≥ 1
     ·
      rw [if_pos c15] at H
      have c15b0 : decide (1 ≤ a0_1) = true := decide_eq_true c15
      clear c15
      obtain rfl := Option.some.inj H
      go_enter Tryd.func72, Tryd.ntmps72
      go_wp2_with (first | ((with_reducible refine gate_dst (N := 1) rfl ?_); refine yX (N := 1) (cs := #[.int .i64 a0_0, .int .i64 a0_1]) (t := 50) ?_; intro gb221 hg w16 hbox hb; have BK221 := aM (hbox); have GW221 := yZ hg (yB HB); have GE221 := yZ hg (yB HB); replace HB := aM (bP (yB HB) hb); clear hb hbox hg; obtain ⟨hcz17_0, hcz17_1, hfz17_0, hfz17_1⟩ := cells2 BK221.out))
      go_ret
      exact ⟨yE, yG1 HB GE221.out⟩
     ·
      rw [if_neg c15] at H
      have c15b0 : decide (1 ≤ a0_1) = false := decide_eq_false c15
      clear c15
      obtain rfl := Option.some.inj H
      go_enter Tryd.func72, Tryd.ntmps72
      go_wp2_with (first | ((with_reducible refine gate_dst (N := 1) rfl ?_); refine yX (N := 1) (cs := #[.int .i64 a0_0, .int .i64 a0_1]) (t := 50) ?_; intro gb221 hg w18 hbox hb; have BK221 := aM (hbox); have GW221 := yZ hg (yB HB); have GE221 := yZ hg (yB HB); replace HB := aM (bP (yB HB) hb); clear hb hbox hg; obtain ⟨hcz19_0, hcz19_1, hfz19_0, hfz19_1⟩ := cells2 BK221.out))
      go_ret
      exact ⟨yE, yG1 HB GE221.out⟩
    ·
     rw [if_neg c14] at H
     have c14b0 : (a0_0 == 4) = false := beq_eq_false_iff_ne.mpr c14
     have c14b1 : (a0_0 != 4) = true := bne_iff_ne.mpr c14
     obtain rfl := Option.some.inj H
     go_enter Tryd.func72, Tryd.ntmps72
     go_wp2_with (first | ((with_reducible refine gate_dst (N := 1) rfl ?_); refine yX (N := 1) (cs := #[.int .i64 a0_0, .int .i64 a0_1]) (t := 50) ?_; intro gb221 hg w20 hbox hb; have BK221 := aM (hbox); have GW221 := yZ hg (yB HB); have GE221 := yZ hg (yB HB); replace HB := aM (bP (yB HB) hb); clear hb hbox hg; obtain ⟨hcz21_0, hcz21_1, hfz21_0, hfz21_1⟩ := cells2 BK221.out))
     go_ret
     exact ⟨yE, yG1 HB GE221.out⟩
/-! ### haulageref03_Is: function 119 -/
def haulageref03_Is.f (a0 : Int) : Option (Bool) := if a0 ≥ 0 then (if a0 ≤ 1114111 then (if a0 < 55296 then (some true) else (some (decide (a0 > 57343)))) else (some false)) else (some false)
set_option maxHeartbeats 8000000 in
set_option maxRecDepth 100000 in
theorem haulageref03_Is.calls (a0 : Int) (r : Bool) (w : World) (h : haulageref03_Is.f a0 = some r) :
  Calls Tryd.prog 119 #[.int .i64 a0] w fun e w' => e = .returned (.bool r) ∧ Drawn0 w w' := by
 have H : (if a0 ≥ 0 then (if a0 ≤ 1114111 then (if a0 < 55296 then (some true) else (some (decide (a0 > 57343)))) else (some false)) else (some false)) = some r := h
 clear h
 by_cases c2 : a0 ≥ 0
 ·
  rw [if_pos c2] at H
  have c2b0 : decide (0 ≤ a0) = true := decide_eq_true c2
  clear c2
  by_cases c3 : a0 ≤ 1114111
  ·
   rw [if_pos c3] at H
   have c3b0 : decide (a0 ≤ 1114111) = true := decide_eq_true c3
   clear c3
   by_cases c4 : a0 < 55296
   ·
    rw [if_pos c4] at H
    have c4b0 : decide (a0 < 55296) = true := decide_eq_true c4
    clear c4
    obtain rfl := Option.some.inj H
    go_enter Tryd.func119, Tryd.ntmps119
    go_wp2
    go_ret
    exact ⟨yS, yD⟩
   ·
    rw [if_neg c4] at H
    have c4b0 : decide (a0 < 55296) = false := decide_eq_false c4
    clear c4
    obtain rfl := Option.some.inj H
    go_enter Tryd.func119, Tryd.ntmps119
    go_wp2
    go_ret
    exact ⟨yS, yD⟩
  ·
   rw [if_neg c3] at H
   have c3b0 : decide (a0 ≤ 1114111) = false := decide_eq_false c3
   clear c3
   obtain rfl := Option.some.inj H
   go_enter Tryd.func119, Tryd.ntmps119
   go_wp2
   go_ret
   exact ⟨yS, yD⟩
 ·
  rw [if_neg c2] at H
  have c2b0 : decide (0 ≤ a0) = false := decide_eq_false c2
  clear c2
  obtain rfl := Option.some.inj H
  go_enter Tryd.func119, Tryd.ntmps119
  go_wp2
  go_ret
  exact ⟨yS, yD⟩
/-! ### haulageref03_one: function 124 -/
def haulageref03_one.f (a0 : Int) : Option (ByteArray) := some (strOfNums (([(a0) % 256] : List Int)))
set_option maxHeartbeats 8000000 in
set_option maxRecDepth 100000 in
theorem haulageref03_one.calls (a0 : Int) (r : ByteArray) (w : World) (h : haulageref03_one.f a0 = some r) :
  Calls Tryd.prog 124 #[.int .i64 a0] w fun e w' => e = .returned (.string r) ∧ Below w.heap.size w w' := by
 have HB := aM (Below.refl w.heap.size w)
 have H : (some (strOfNums (([(a0) % 256] : List Int)))) = some r := h
 clear h
 obtain ⟨y222, hy222⟩ : ∃ y_ : List Int, y_ = (([(a0) % 256] : List Int)) := ⟨_, rfl⟩
 replace H : (some (strOfNums y222)) = some r := by first | (rw [hy222]; with_reducible exact H) | (have H2_ := (Option.bind_some _ _).symm.trans H; rw [hy222]; with_reducible exact H2_) | (have H2_ := (Option.bind_some _ _).symm.trans H; with_reducible exact H2_) | with_reducible exact H | (rw [hy222]; exact H) | exact H
 have Ny222 := aM hy222
 clear hy222
 obtain rfl := Option.some.inj H
 go_enter Tryd.func124, Tryd.ntmps124
 go_wp2_with (first | ((with_reducible refine gate_dst (N := 5) rfl ?_); refine Kd.R_lit (Kd.int .u8) _ 5 ?hg (N := 5) ?hd (xs := ([(a0) % 256] : List Int)) (inner := [.int .u8 ((a0) % 256)]) (ok := fun _ => True) (okp := fun _ => True) ?hr ?hp (fun _ hk => hk) trivial (Below.refl _ _) (Nat.le_refl _) (by simp) ?_; (case hd => rfl); (case hg => rfl); (case hr => first | (go_simp; done) | (go_simp; rfl)); (case hp => exact (Reps.one (show Kd.M (Kd.int .u8) _ _ _ ((a0) % 256) [.int .u8 ((a0) % 256)] from rfl) (Reps.none _ _))); intro v223 w2 ho3 hb hg_ hnew_; clear hg_ hnew_; (first | rw [← Ny222.out] at ho3 | (simp only [Int.reduceToNat] at ho3; rw [← Ny222.out] at ho3)); have HO224 := aM (Kd.R_lower ho3 (bZ (yB HB))); replace HB := aM (bP (yB HB) hb); clear hb ho3; have hcv4 := own_string (P := Tryd.prog) Tryd.underlying91 Tryd.underlying5 Tryd.underlying9 (Kd.own_of_R HO224.out)))
 go_ret
 exact ⟨yE, yB HB⟩
/-! ### haulageref03_Put: function 120 -/
def haulageref03_Put.f (a0 : Int) : Option (ByteArray) := if a0 < 128 then ((haulageref03_one.f a0).bind fun t225 => (some t225)) else (if a0 < 2048 then ((haulageref03_one.f (wrap64 (192 + (wrap64 (Int.tdiv a0 64))))).bind fun t226 => ((haulageref03_one.f (wrap64 (128 + (Int.tmod a0 64)))).bind fun t227 => (if t226.size + t227.size ≤ 9223372036854775807 then (some (t226 ++ t227)) else (none)))) else (if a0 < 65536 then ((haulageref03_one.f (wrap64 (224 + (wrap64 (Int.tdiv a0 4096))))).bind fun t228 => ((haulageref03_one.f (wrap64 (128 + (Int.tmod (wrap64 (Int.tdiv a0 64)) 64)))).bind fun t229 => (if t228.size + t229.size ≤ 9223372036854775807 then ((haulageref03_one.f (wrap64 (128 + (Int.tmod a0 64)))).bind fun t230 => (if (t228 ++ t229).size + t230.size ≤ 9223372036854775807 then (some ((t228 ++ t229) ++ t230)) else (none))) else (none)))) else ((haulageref03_one.f (wrap64 (240 + (wrap64 (Int.tdiv a0 262144))))).bind fun t231 => ((haulageref03_one.f (wrap64 (128 + (Int.tmod (wrap64 (Int.tdiv a0 4096)) 64)))).bind fun t232 => (if t231.size + t232.size ≤ 9223372036854775807 then ((haulageref03_one.f (wrap64 (128 + (Int.tmod (wrap64 (Int.tdiv a0 64)) 64)))).bind fun t233 => (if (t231 ++ t232).size + t233.size ≤ 9223372036854775807 then ((haulageref03_one.f (wrap64 (128 + (Int.tmod a0 64)))).bind fun t234 => (if ((t231 ++ t232) ++ t233).size + t234.size ≤ 9223372036854775807 then (some (((t231 ++ t232) ++ t233) ++ t234)) else (none))) else (none))) else (none))))))
set_option maxHeartbeats 8000000 in
set_option maxRecDepth 100000 in
theorem haulageref03_Put.calls (a0 : Int) (r : ByteArray) (w : World) (h : haulageref03_Put.f a0 = some r) :
  Calls Tryd.prog 120 #[.int .i64 a0] w fun e w' => e = .returned (.string r) ∧ Below w.heap.size w w' := by
 have HB := aM (Below.refl w.heap.size w)
 have H : (if a0 < 128 then ((haulageref03_one.f a0).bind fun t225 => (some t225)) else (if a0 < 2048 then ((haulageref03_one.f (wrap64 (192 + (wrap64 (Int.tdiv a0 64))))).bind fun t226 => ((haulageref03_one.f (wrap64 (128 + (Int.tmod a0 64)))).bind fun t227 => (if t226.size + t227.size ≤ 9223372036854775807 then (some (t226 ++ t227)) else (none)))) else (if a0 < 65536 then ((haulageref03_one.f (wrap64 (224 + (wrap64 (Int.tdiv a0 4096))))).bind fun t228 => ((haulageref03_one.f (wrap64 (128 + (Int.tmod (wrap64 (Int.tdiv a0 64)) 64)))).bind fun t229 => (if t228.size + t229.size ≤ 9223372036854775807 then ((haulageref03_one.f (wrap64 (128 + (Int.tmod a0 64)))).bind fun t230 => (if (t228 ++ t229).size + t230.size ≤ 9223372036854775807 then (some ((t228 ++ t229) ++ t230)) else (none))) else (none)))) else ((haulageref03_one.f (wrap64 (240 + (wrap64 (Int.tdiv a0 262144))))).bind fun t231 => ((haulageref03_one.f (wrap64 (128 + (Int.tmod (wrap64 (Int.tdiv a0 4096)) 64)))).bind fun t232 => (if t231.size + t232.size ≤ 9223372036854775807 then ((haulageref03_one.f (wrap64 (128 + (Int.tmod (wrap64 (Int.tdiv a0 64)) 64)))).bind fun t233 => (if (t231 ++ t232).size + t233.size ≤ 9223372036854775807 then ((haulageref03_one.f (wrap64 (128 + (Int.tmod a0 64)))).bind fun t234 => (if ((t231 ++ t232) ++ t233).size + t234.size ≤ 9223372036854775807 then (some (((t231 ++ t232) ++ t233) ++ t234)) else (none))) else (none))) else (none))))))) = some r := h
 clear h
 by_cases c2 : a0 < 128
 ·
  rw [if_pos c2] at H
  have c2b0 : decide (a0 < 128) = true := decide_eq_true c2
  clear c2
  replace H := Option.bind_eq_some_iff.mp H
  obtain ⟨t225, A30, H⟩ := H
  replace H : (some t225) = some r := H
  have A3 := aM A30
  clear A30
  obtain rfl := Option.some.inj H
  go_enter Tryd.func120, Tryd.ntmps120
  go_wp2_with (first | ((with_reducible refine gate_callee (f := 124) rfl ?_); refine yC 7 Tryd.func124 #[.int .i64 a0] rfl ?_; (with_reducible refine (haulageref03_one.calls a0 t225 _ A3.out).mono ?_); rintro e w4 ⟨rfl, hb⟩; refine ⟨_, rfl, ?_⟩; replace HB := aM (bP (yB HB) hb); (try clear hb)))
  go_ret
  exact ⟨yE, yB HB⟩
 ·
  rw [if_neg c2] at H
  have c2b0 : decide (a0 < 128) = false := decide_eq_false c2
  clear c2
  by_cases c5 : a0 < 2048
  ·
   rw [if_pos c5] at H
   have c5b0 : decide (a0 < 2048) = true := decide_eq_true c5
   clear c5
   replace H := Option.bind_eq_some_iff.mp H
   obtain ⟨t226, A60, H⟩ := H
   replace H : ((haulageref03_one.f (wrap64 (128 + (Int.tmod a0 64)))).bind fun t227 => (if t226.size + t227.size ≤ 9223372036854775807 then (some (t226 ++ t227)) else (none))) = some r := H
   have A6 := aM A60
   clear A60
   replace H := Option.bind_eq_some_iff.mp H
   obtain ⟨t227, A70, H⟩ := H
   replace H : (if t226.size + t227.size ≤ 9223372036854775807 then (some (t226 ++ t227)) else (none)) = some r := H
   have A7 := aM A70
   clear A70
   by_cases c8 : t226.size + t227.size ≤ 9223372036854775807
   ·
    rw [if_pos c8] at H
    have c8b0 := eq_true c8
    have c8b1 : decide (t226.size + t227.size ≤ 9223372036854775807) = true := decide_eq_true c8
    try have c8b2 : (9223372036854775807 < t226.size + t227.size) = False := eq_false (Nat.not_lt.2 c8)
    obtain rfl := Option.some.inj H
    go_enter Tryd.func120, Tryd.ntmps120
    go_wp2_with (first | ((with_reducible refine gate_callee (f := 124) rfl ?_); refine yC 14 Tryd.func124 #[.int .i64 (wrap64 (192 + (wrap64 (Int.tdiv a0 64))))] rfl ?_; (with_reducible refine (haulageref03_one.calls (wrap64 (192 + (wrap64 (Int.tdiv a0 64)))) t226 _ A6.out).mono ?_); rintro e w9 ⟨rfl, hb⟩; refine ⟨_, rfl, ?_⟩; replace HB := aM (bP (yB HB) hb); (try clear hb)) | ((with_reducible refine gate_callee (f := 124) rfl ?_); refine yC 18 Tryd.func124 #[.int .i64 (wrap64 (128 + (Int.tmod a0 64)))] rfl ?_; (with_reducible refine (haulageref03_one.calls (wrap64 (128 + (Int.tmod a0 64))) t227 _ A7.out).mono ?_); rintro e w10 ⟨rfl, hb⟩; refine ⟨_, rfl, ?_⟩; replace HB := aM (bP (yB HB) hb); (try clear hb)))
    go_ret
    exact ⟨yE, yB HB⟩
   ·
    rw [if_neg c8] at H
    exact absurd H (by simp)
  ·
   rw [if_neg c5] at H
   have c5b0 : decide (a0 < 2048) = false := decide_eq_false c5
   clear c5
   by_cases c11 : a0 < 65536
   ·
    rw [if_pos c11] at H
    have c11b0 : decide (a0 < 65536) = true := decide_eq_true c11
    clear c11
    replace H := Option.bind_eq_some_iff.mp H
    obtain ⟨t228, A120, H⟩ := H
    replace H : ((haulageref03_one.f (wrap64 (128 + (Int.tmod (wrap64 (Int.tdiv a0 64)) 64)))).bind fun t229 => (if t228.size + t229.size ≤ 9223372036854775807 then ((haulageref03_one.f (wrap64 (128 + (Int.tmod a0 64)))).bind fun t230 => (if (t228 ++ t229).size + t230.size ≤ 9223372036854775807 then (some ((t228 ++ t229) ++ t230)) else (none))) else (none))) = some r := H
    have A12 := aM A120
    clear A120
    replace H := Option.bind_eq_some_iff.mp H
    obtain ⟨t229, A130, H⟩ := H
    replace H : (if t228.size + t229.size ≤ 9223372036854775807 then ((haulageref03_one.f (wrap64 (128 + (Int.tmod a0 64)))).bind fun t230 => (if (t228 ++ t229).size + t230.size ≤ 9223372036854775807 then (some ((t228 ++ t229) ++ t230)) else (none))) else (none)) = some r := H
    have A13 := aM A130
    clear A130
    by_cases c14 : t228.size + t229.size ≤ 9223372036854775807
    ·
     rw [if_pos c14] at H
     have c14b0 := eq_true c14
     have c14b1 : decide (t228.size + t229.size ≤ 9223372036854775807) = true := decide_eq_true c14
     try have c14b2 : (9223372036854775807 < t228.size + t229.size) = False := eq_false (Nat.not_lt.2 c14)
     replace H := Option.bind_eq_some_iff.mp H
     obtain ⟨t230, A150, H⟩ := H
     replace H : (if (t228 ++ t229).size + t230.size ≤ 9223372036854775807 then (some ((t228 ++ t229) ++ t230)) else (none)) = some r := H
     have A15 := aM A150
     clear A150
     by_cases c16 : (t228 ++ t229).size + t230.size ≤ 9223372036854775807
     ·
      rw [if_pos c16] at H
      have c16b0 := eq_true c16
      have c16b1 : decide ((t228 ++ t229).size + t230.size ≤ 9223372036854775807) = true := decide_eq_true c16
      have c16z : (9223372036854775807 < t228.size + t229.size + t230.size) = False := eq_false (by have h_ := oD c16b1; simp only [ByteArray.size_append] at h_; omega)
      try have c16b2 : (9223372036854775807 < (t228 ++ t229).size + t230.size) = False := eq_false (Nat.not_lt.2 c16)
      obtain rfl := Option.some.inj H
      go_enter Tryd.func120, Tryd.ntmps120
      go_wp2_with (first | ((with_reducible refine gate_callee (f := 124) rfl ?_); refine yC 26 Tryd.func124 #[.int .i64 (wrap64 (224 + (wrap64 (Int.tdiv a0 4096))))] rfl ?_; (with_reducible refine (haulageref03_one.calls (wrap64 (224 + (wrap64 (Int.tdiv a0 4096)))) t228 _ A12.out).mono ?_); rintro e w17 ⟨rfl, hb⟩; refine ⟨_, rfl, ?_⟩; replace HB := aM (bP (yB HB) hb); (try clear hb)) | ((with_reducible refine gate_callee (f := 124) rfl ?_); refine yC 31 Tryd.func124 #[.int .i64 (wrap64 (128 + (Int.tmod (wrap64 (Int.tdiv a0 64)) 64)))] rfl ?_; (with_reducible refine (haulageref03_one.calls (wrap64 (128 + (Int.tmod (wrap64 (Int.tdiv a0 64)) 64))) t229 _ A13.out).mono ?_); rintro e w18 ⟨rfl, hb⟩; refine ⟨_, rfl, ?_⟩; replace HB := aM (bP (yB HB) hb); (try clear hb)) | ((with_reducible refine gate_callee (f := 124) rfl ?_); refine yC 36 Tryd.func124 #[.int .i64 (wrap64 (128 + (Int.tmod a0 64)))] rfl ?_; (with_reducible refine (haulageref03_one.calls (wrap64 (128 + (Int.tmod a0 64))) t230 _ A15.out).mono ?_); rintro e w19 ⟨rfl, hb⟩; refine ⟨_, rfl, ?_⟩; replace HB := aM (bP (yB HB) hb); (try clear hb)))
      go_ret
      exact ⟨yE, yB HB⟩
     ·
      rw [if_neg c16] at H
      exact absurd H (by simp)
    ·
     rw [if_neg c14] at H
     exact absurd H (by simp)
   ·
    rw [if_neg c11] at H
    have c11b0 : decide (a0 < 65536) = false := decide_eq_false c11
    clear c11
    replace H := Option.bind_eq_some_iff.mp H
    obtain ⟨t231, A200, H⟩ := H
    replace H : ((haulageref03_one.f (wrap64 (128 + (Int.tmod (wrap64 (Int.tdiv a0 4096)) 64)))).bind fun t232 => (if t231.size + t232.size ≤ 9223372036854775807 then ((haulageref03_one.f (wrap64 (128 + (Int.tmod (wrap64 (Int.tdiv a0 64)) 64)))).bind fun t233 => (if (t231 ++ t232).size + t233.size ≤ 9223372036854775807 then ((haulageref03_one.f (wrap64 (128 + (Int.tmod a0 64)))).bind fun t234 => (if ((t231 ++ t232) ++ t233).size + t234.size ≤ 9223372036854775807 then (some (((t231 ++ t232) ++ t233) ++ t234)) else (none))) else (none))) else (none))) = some r := H
    have A20 := aM A200
    clear A200
    replace H := Option.bind_eq_some_iff.mp H
    obtain ⟨t232, A210, H⟩ := H
    replace H : (if t231.size + t232.size ≤ 9223372036854775807 then ((haulageref03_one.f (wrap64 (128 + (Int.tmod (wrap64 (Int.tdiv a0 64)) 64)))).bind fun t233 => (if (t231 ++ t232).size + t233.size ≤ 9223372036854775807 then ((haulageref03_one.f (wrap64 (128 + (Int.tmod a0 64)))).bind fun t234 => (if ((t231 ++ t232) ++ t233).size + t234.size ≤ 9223372036854775807 then (some (((t231 ++ t232) ++ t233) ++ t234)) else (none))) else (none))) else (none)) = some r := H
    have A21 := aM A210
    clear A210
    by_cases c22 : t231.size + t232.size ≤ 9223372036854775807
    ·
     rw [if_pos c22] at H
     have c22b0 := eq_true c22
     have c22b1 : decide (t231.size + t232.size ≤ 9223372036854775807) = true := decide_eq_true c22
     try have c22b2 : (9223372036854775807 < t231.size + t232.size) = False := eq_false (Nat.not_lt.2 c22)
     replace H := Option.bind_eq_some_iff.mp H
     obtain ⟨t233, A230, H⟩ := H
     replace H : (if (t231 ++ t232).size + t233.size ≤ 9223372036854775807 then ((haulageref03_one.f (wrap64 (128 + (Int.tmod a0 64)))).bind fun t234 => (if ((t231 ++ t232) ++ t233).size + t234.size ≤ 9223372036854775807 then (some (((t231 ++ t232) ++ t233) ++ t234)) else (none))) else (none)) = some r := H
     have A23 := aM A230
     clear A230
     by_cases c24 : (t231 ++ t232).size + t233.size ≤ 9223372036854775807
     ·
      rw [if_pos c24] at H
      have c24b0 := eq_true c24
      have c24b1 : decide ((t231 ++ t232).size + t233.size ≤ 9223372036854775807) = true := decide_eq_true c24
      have c24z : (9223372036854775807 < t231.size + t232.size + t233.size) = False := eq_false (by have h_ := oD c24b1; simp only [ByteArray.size_append] at h_; omega)
      try have c24b2 : (9223372036854775807 < (t231 ++ t232).size + t233.size) = False := eq_false (Nat.not_lt.2 c24)
      replace H := Option.bind_eq_some_iff.mp H
      obtain ⟨t234, A250, H⟩ := H
      replace H : (if ((t231 ++ t232) ++ t233).size + t234.size ≤ 9223372036854775807 then (some (((t231 ++ t232) ++ t233) ++ t234)) else (none)) = some r := H
      have A25 := aM A250
      clear A250
      by_cases c26 : ((t231 ++ t232) ++ t233).size + t234.size ≤ 9223372036854775807
      ·
       rw [if_pos c26] at H
       have c26b0 := eq_true c26
       have c26b1 : decide (((t231 ++ t232) ++ t233).size + t234.size ≤ 9223372036854775807) = true := decide_eq_true c26
       have c26z : (9223372036854775807 < t231.size + t232.size + t233.size + t234.size) = False := eq_false (by have h_ := oD c26b1; simp only [ByteArray.size_append] at h_; omega)
       try have c26b2 : (9223372036854775807 < ((t231 ++ t232) ++ t233).size + t234.size) = False := eq_false (Nat.not_lt.2 c26)
       obtain rfl := Option.some.inj H
       go_enter Tryd.func120, Tryd.ntmps120
       go_wp2_with (first | ((with_reducible refine gate_callee (f := 124) rfl ?_); refine yC 41 Tryd.func124 #[.int .i64 (wrap64 (240 + (wrap64 (Int.tdiv a0 262144))))] rfl ?_; (with_reducible refine (haulageref03_one.calls (wrap64 (240 + (wrap64 (Int.tdiv a0 262144)))) t231 _ A20.out).mono ?_); rintro e w27 ⟨rfl, hb⟩; refine ⟨_, rfl, ?_⟩; replace HB := aM (bP (yB HB) hb); (try clear hb)) | ((with_reducible refine gate_callee (f := 124) rfl ?_); refine yC 46 Tryd.func124 #[.int .i64 (wrap64 (128 + (Int.tmod (wrap64 (Int.tdiv a0 4096)) 64)))] rfl ?_; (with_reducible refine (haulageref03_one.calls (wrap64 (128 + (Int.tmod (wrap64 (Int.tdiv a0 4096)) 64))) t232 _ A21.out).mono ?_); rintro e w28 ⟨rfl, hb⟩; refine ⟨_, rfl, ?_⟩; replace HB := aM (bP (yB HB) hb); (try clear hb)) | ((with_reducible refine gate_callee (f := 124) rfl ?_); refine yC 52 Tryd.func124 #[.int .i64 (wrap64 (128 + (Int.tmod (wrap64 (Int.tdiv a0 64)) 64)))] rfl ?_; (with_reducible refine (haulageref03_one.calls (wrap64 (128 + (Int.tmod (wrap64 (Int.tdiv a0 64)) 64))) t233 _ A23.out).mono ?_); rintro e w29 ⟨rfl, hb⟩; refine ⟨_, rfl, ?_⟩; replace HB := aM (bP (yB HB) hb); (try clear hb)) | ((with_reducible refine gate_callee (f := 124) rfl ?_); refine yC 57 Tryd.func124 #[.int .i64 (wrap64 (128 + (Int.tmod a0 64)))] rfl ?_; (with_reducible refine (haulageref03_one.calls (wrap64 (128 + (Int.tmod a0 64))) t234 _ A25.out).mono ?_); rintro e w30 ⟨rfl, hb⟩; refine ⟨_, rfl, ?_⟩; replace HB := aM (bP (yB HB) hb); (try clear hb)))
       go_ret
       exact ⟨yE, yB HB⟩
      ·
       rw [if_neg c26] at H
       exact absurd H (by simp)
     ·
      rw [if_neg c24] at H
      exact absurd H (by simp)
    ·
     rw [if_neg c22] at H
     exact absurd H (by simp)
end Go.Proofs.YtdeophpjammbpaaDoor.HSchemaRight

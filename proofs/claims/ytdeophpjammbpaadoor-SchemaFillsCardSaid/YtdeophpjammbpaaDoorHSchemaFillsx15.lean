/- For Go functions that SchemaFills reaches: Lean functions, and walks that show that each call comes to what its Lean function tells; no condition but those that each theorem states. (Made by a program of this session over the kit's print.py.) -/
import Derived.Test.YtdeophpjammbpaaDoorHSchemaFillsx0
namespace Go.Proofs.YtdeophpjammbpaaDoor.HSchemaFills
open Go.RowKit Go.Proofs.YtdeophpjammbpaaDoorW.PrintWords Go.Proofs.YtdeophpjammbpaaDoorW.PrintLast Go.Proofs.YtdeophpjammbpaaDoorW.PrintMore
attribute [local go_sem] max2_int min2_int max_two min_two max_three min_three max_four min_four   -- for this text's walks alone
set_option linter.unusedVariables false
set_option linter.unusedSimpArgs false
attribute [local go_sem] hp_s8 hp_s16 hp_s32 hp_s64 hp_m8 hp_m16 hp_m32 hp_m64
/-! ### haulageref08_Key: function 48 -/
def haulageref08_Key.l0 : Nat → Int → Int → ByteArray → Int → Int → List (S54) → Option (Int)
 | 0, _, _, _, _, _, _ => none
 | k + 1, x3, x276000, x276001, x276002, x276003, x276004 => if x3 < (x276004.length : Int) then (if 0 ≤ x3 then (if ((rd_T54 x276004 x3).f0) = x276002 then (some x3) else (haulageref08_Key.l0 k (wrap64 (x3 + 1)) x276000 x276001 x276002 x276003 x276004)) else (none)) else (some (-1))
def haulageref08_Key.f (k : Nat) (a0_0 : Int) (a0_1 : ByteArray) (a0_2 : Int) (a0_3 : Int) (l0_4 : List (S54)) : Option (Int) := haulageref08_Key.l0 k 0 a0_0 a0_1 a0_2 a0_3 l0_4
theorem haulageref08_Key.mono_l : ∀ k, (∀ y0 y1 y2 y3 y4 y5, LeO (haulageref08_Key.l0 k y0 y1 y2 y3 y4 y5) (haulageref08_Key.l0 (k + 1) y0 y1 y2 y3 y4 y5))
 | 0 => fun _ _ _ _ _ _ r h => by simp [haulageref08_Key.l0] at h
 | k + 1 => by
  have ih0 := haulageref08_Key.mono_l k
  ·
   intro y0 y1 y2 y3 y4 y5
   unfold haulageref08_Key.l0
   repeat' first
   | (with_reducible exact ih0 _ _ _ _ _ _)
   | (with_reducible exact LeO.refl _)
   | (with_reducible exact LeO.none _)
   | (with_reducible refine LeO.ite ?_ ?_)
   | (with_reducible refine LeO.bind ?_ (fun _ => ?_))
   | exact ih0 _ _ _ _ _ _
   | exact LeO.none _
   | refine LeO.ite ?_ ?_
   | refine LeO.bind ?_ (fun _ => ?_)
theorem haulageref08_Key.mono : ∀ a0 a1 a2 a3 a4 k, LeO (haulageref08_Key.f k a0 a1 a2 a3 a4) (haulageref08_Key.f (k + 1) a0 a1 a2 a3 a4) := by
 intro a0 a1 a2 a3 a4 k
 have ih0 := haulageref08_Key.mono_l k
 unfold haulageref08_Key.f
 repeat' first
   | (with_reducible exact ih0 _ _ _ _ _ _)
   | (with_reducible exact LeO.refl _)
   | (with_reducible exact LeO.none _)
   | (with_reducible refine LeO.ite ?_ ?_)
   | (with_reducible refine LeO.bind ?_ (fun _ => ?_))
   | exact ih0 _ _ _ _ _ _
   | exact LeO.none _
   | refine LeO.ite ?_ ?_
   | refine LeO.bind ?_ (fun _ => ?_)
set_option maxHeartbeats 8000000 in
set_option maxRecDepth 100000 in
theorem haulageref08_Key.calls (k : Nat) (a0_0 : Int) (a0_1 : ByteArray) (a0_2 : Int) (a0_3 : Int) (A0_4 : Option Addr) (c0_4 : Nat) (l0_4 : List (S54)) (r : Int) (w : World) (hr0_4 : Kd.C k54 w A0_4 l0_4.length l0_4) (hc0_4 : l0_4.length ≤ c0_4) (h : haulageref08_Key.f k a0_0 a0_1 a0_2 a0_3 l0_4 = some r) :
  Calls Tryd.prog 48 #[.agg #[.int .i64 a0_0, .string a0_1, .int .i64 a0_2, .int .i64 a0_3, .slice A0_4 l0_4.length c0_4]] w fun e w' => e = .returned (.int .i64 r) ∧ Below w.heap.size w w' := by
 have hu24 := Tryd.underlying24
 have HR0_4 := aM hr0_4
 have HC0_4 := aM hc0_4
 clear hr0_4 hc0_4
 have HB := aM (Below.refl w.heap.size w)
 have H : (haulageref08_Key.l0 k 0 a0_0 a0_1 a0_2 a0_3 l0_4) = some r := h
 clear h
 have H' := aM H
 clear H
 go_enter Tryd.func48, Tryd.ntmps48
 go_wp2_with (first | ((with_reducible refine gate_dst (N := 1) rfl ?_); refine yX (N := 1) (cs := #[.int .i64 a0_0, .string a0_1, .int .i64 a0_2, .int .i64 a0_3, .slice A0_4 l0_4.length c0_4]) (t := 24) ?_; intro gb275 hg w2 hbox hb; have BK275 := aM (hbox); have GW275 := yZ hg (yB HB); have GE275 := yZ hg (yB HB); replace HB := aM (bP (yB HB) hb); clear hb hbox hg))
 repeat (go_quiet (first | ((with_reducible refine gate_dst (N := 1) rfl ?_); refine yX (N := 1) (cs := #[.int .i64 a0_0, .string a0_1, .int .i64 a0_2, .int .i64 a0_3, .slice A0_4 l0_4.length c0_4]) (t := 24) ?_; intro gb275 hg w2 hbox hb; have BK275 := aM (hbox); have GW275 := yZ hg (yB HB); have GE275 := yZ hg (yB HB); replace HB := aM (bP (yB HB) hb); clear hb hbox hg)); try go_wp2_with (first | ((with_reducible refine gate_dst (N := 1) rfl ?_); refine yX (N := 1) (cs := #[.int .i64 a0_0, .string a0_1, .int .i64 a0_2, .int .i64 a0_3, .slice A0_4 l0_4.length c0_4]) (t := 24) ?_; intro gb275 hg w2 hbox hb; have BK275 := aM (hbox); have GW275 := yZ hg (yB HB); have GE275 := yZ hg (yB HB); replace HB := aM (bP (yB HB) hb); clear hb hbox hg)))
 go_loopg [3] k (fun kq v3 w' => ∃ (x3_1 : Int), v3 = .int .i64 x3_1 ∧ Aside0 (haulageref08_Key.l0 kq x3_1 a0_0 a0_1 a0_2 a0_3 l0_4 = some r) ∧ Aside0 (kq ≤ k) ∧ Aside0 (w'.heap[gb275]? = some (.cells #[.int .i64 a0_0, .string a0_1, .int .i64 a0_2, .int .i64 a0_3, (.slice A0_4 l0_4.length c0_4)] 24 (0, 0))) ∧ Aside0 (Below w.heap.size w w'))
 case atStart => exact ⟨(0), yS, H', ⟨Nat.le_refl _⟩, ⟨yK BK275⟩, ⟨yG1 HB GE275.out⟩⟩
 case round =>
  clear H'
  try clear p2
  obtain ⟨x3_1, rfl, HA, HK1, BK275, HB⟩ := hrel
  cases gk with
  | zero => exact absurd HA.out (by simp [haulageref08_Key.l0])
  | succ k1 =>
   have H := HA.out
   clear HA
   simp only [haulageref08_Key.l0] at H
   by_cases c3 : x3_1 < (l0_4.length : Int)
   ·
    rw [if_pos c3] at H
    have c3b0 : decide (x3_1 < (l0_4.length : Int)) = true := decide_eq_true c3
    clear c3
    by_cases c4 : 0 ≤ x3_1
    ·
     rw [if_pos c4] at H
     have c4b0 : decide (0 ≤ x3_1) = true := decide_eq_true c4
     clear c4
     by_cases c5 : ((rd_T54 l0_4 x3_1).f0) = a0_2
     ·
      rw [if_pos c5] at H
      have c5b0 : (((rd_T54 l0_4 x3_1).f0) == a0_2) = true := beq_iff_eq.mpr c5
      have c5b1 : (((rd_T54 l0_4 x3_1).f0) != a0_2) = false := bne_eq_false_iff_eq.mpr c5
      clear c5
      obtain rfl := Option.some.inj H
      obtain ⟨hcz6_0, hcz6_1, hcz6_2, hcz6_3, hcz6_4, hfz6_0, hfz6_1, hfz6_2, hfz6_3, hfz6_4⟩ := cells5 BK275.out
      have p276 : 0 ≤ (x3_1 : Int) := oD yA
      have q276 : x3_1 < (l0_4.length : Int) := oD yA
      obtain ⟨ad276, e276, hx276_0, hx276_1, hx276_2, hx276_3, hx276_4, hx276_5, hx276_6, hx276_7⟩ := at_T54 HR0_4.out x3_1 p276 q276
      cases e276
      replace hx276_0 := pw_cell_below HB.out hx276_0
      replace hx276_1 := pw_cell_below HB.out hx276_1
      replace hx276_2 := pw_cell_below HB.out hx276_2
      replace hx276_3 := pw_cell_below HB.out hx276_3
      replace hx276_4 := pw_cell_below HB.out hx276_4
      replace hx276_5 := pw_cell_below HB.out hx276_5
      replace hx276_6 := pw_cell_below HB.out hx276_6
      replace hx276_7 := pw_cell_below HB.out hx276_7
      replace p276 := eq_true p276
      replace q276 := eq_true q276
      go_wp2
      repeat (go_quiet (fail); try go_wp2)
      go_ret
      exact ⟨yE, yG1 HB GE275.out⟩
     ·
      rw [if_neg c5] at H
      have c5b0 : (((rd_T54 l0_4 x3_1).f0) == a0_2) = false := beq_eq_false_iff_ne.mpr c5
      have c5b1 : (((rd_T54 l0_4 x3_1).f0) != a0_2) = true := bne_iff_ne.mpr c5
      have H' := aM H
      clear H
      obtain ⟨hcz7_0, hcz7_1, hcz7_2, hcz7_3, hcz7_4, hfz7_0, hfz7_1, hfz7_2, hfz7_3, hfz7_4⟩ := cells5 BK275.out
      have p276 : 0 ≤ (x3_1 : Int) := oD yA
      have q276 : x3_1 < (l0_4.length : Int) := oD yA
      obtain ⟨ad276, e276, hx276_0, hx276_1, hx276_2, hx276_3, hx276_4, hx276_5, hx276_6, hx276_7⟩ := at_T54 HR0_4.out x3_1 p276 q276
      cases e276
      replace hx276_0 := pw_cell_below HB.out hx276_0
      replace hx276_1 := pw_cell_below HB.out hx276_1
      replace hx276_2 := pw_cell_below HB.out hx276_2
      replace hx276_3 := pw_cell_below HB.out hx276_3
      replace hx276_4 := pw_cell_below HB.out hx276_4
      replace hx276_5 := pw_cell_below HB.out hx276_5
      replace hx276_6 := pw_cell_below HB.out hx276_6
      replace hx276_7 := pw_cell_below HB.out hx276_7
      replace p276 := eq_true p276
      replace q276 := eq_true q276
      go_wp2
      repeat (go_quiet (fail); try go_wp2)
      go_roundg k1
      case measure => have := HK1.out; omega
      case rel => exact ⟨(wrap64 (x3_1 + 1)), yS, H', ⟨by have := HK1.out; omega⟩, ⟨yK BK275⟩, ⟨yG1 HB GE275.out⟩⟩
    ·
     rw [if_neg c4] at H
     exact absurd H (by simp)
   ·
    rw [if_neg c3] at H
    have c3b0 : decide (x3_1 < (l0_4.length : Int)) = false := decide_eq_false c3
    clear c3
    obtain rfl := Option.some.inj H
    obtain ⟨hcz8_0, hcz8_1, hcz8_2, hcz8_3, hcz8_4, hfz8_0, hfz8_1, hfz8_2, hfz8_3, hfz8_4⟩ := cells5 BK275.out
    go_wp2
    repeat (go_quiet (fail); try go_wp2)
    go_ret
    exact ⟨yE, yG1 HB GE275.out⟩
end Go.Proofs.YtdeophpjammbpaaDoor.HSchemaFills

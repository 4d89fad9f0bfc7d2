/- For Go functions that RowcodeKeys reaches: Lean functions, and walks that show that each call comes to what its Lean function tells; no condition but those that each theorem states. (Made by a program of this session over the kit's print.py.) -/
import Derived.Test.YtdeophpjammbpaaDoorHRowcodeKeysx0
import Derived.Test.YtdeophpjammbpaaDoorHRowcodeKeysx4
import Derived.Test.YtdeophpjammbpaaDoorHRowcodeKeysx6
import Derived.Test.YtdeophpjammbpaaDoorHRowcodeKeysx8
namespace Go.Proofs.YtdeophpjammbpaaDoor.HRowcodeKeys
open Go.RowKit Go.Proofs.YtdeophpjammbpaaDoorW.PrintWords Go.Proofs.YtdeophpjammbpaaDoorW.PrintLast Go.Proofs.YtdeophpjammbpaaDoorW.PrintMore
attribute [local go_sem] max2_int min2_int max_two min_two max_three min_three max_four min_four   -- for this text's walks alone
set_option linter.unusedVariables false
set_option linter.unusedSimpArgs false
attribute [local go_sem] hp_s8 hp_s16 hp_s32 hp_s64 hp_m8 hp_m16 hp_m32 hp_m64
/-! ### haulageref08_Key: function 48 -/
def haulageref08_Key.l0 : Nat → Int → Int → ByteArray → Int → Int → List (S54) → Option (Int)
 | 0, _, _, _, _, _, _ => none
 | k + 1, x3, x277000, x277001, x277002, x277003, x277004 => if x3 < (x277004.length : Int) then (if 0 ≤ x3 then (if ((rd_T54 x277004 x3).f0) = x277002 then (some x3) else (haulageref08_Key.l0 k (wrap64 (x3 + 1)) x277000 x277001 x277002 x277003 x277004)) else (none)) else (some (-1))
def haulageref08_Key.f (k : Nat) (a0_0 : Int) (a0_1 : ByteArray) (a0_2 : Int) (a0_3 : Int) (l0_4 : List (S54)) : Option (Int) := haulageref08_Key.l0 k 0 a0_0 a0_1 a0_2 a0_3 l0_4
theorem haulageref08_Key.mono_l : ∀ k, (∀ y0 y1 y2 y3 y4 y5, LeO (haulageref08_Key.l0 k y0 y1 y2 y3 y4 y5) (haulageref08_Key.l0 (k + 1) y0 y1 y2 y3 y4 y5))
 | 0 => fun _ _ _ _ _ _ r h => by simp [haulageref08_Key.l0] at h
 | k + 1 => by
  have ih0 := haulageref08_Key.mono_l k
  ·
   intro y0 y1 y2 y3 y4 y5
   unfold haulageref08_Key.l0
   repeat' first
   | (with_reducible exact ih0 _ _ _ _ _ _)
   | (with_reducible exact LeO.refl _)
   | (with_reducible exact LeO.none _)
   | (with_reducible refine LeO.ite ?_ ?_)
   | (with_reducible refine LeO.bind ?_ (fun _ => ?_))
   | exact ih0 _ _ _ _ _ _
   | exact LeO.none _
   | refine LeO.ite ?_ ?_
   | refine LeO.bind ?_ (fun _ => ?_)
theorem haulageref08_Key.mono : ∀ a0 a1 a2 a3 a4 k, LeO (haulageref08_Key.f k a0 a1 a2 a3 a4) (haulageref08_Key.f (k + 1) a0 a1 a2 a3 a4) := by
 intro a0 a1 a2 a3 a4 k
 have ih0 := haulageref08_Key.mono_l k
 unfold haulageref08_Key.f
 repeat' first | with_reducible (first | exact ih0 .. | exact LeO.refl .. | exact LeO.none .. | refine LeO.ite ?_ ?_ | refine LeO.bind ?_ (fun _ => ?_)) | exact ih0 .. | exact LeO.none .. | refine LeO.ite ?_ ?_ | refine LeO.bind ?_ (fun _ => ?_)
set_option maxHeartbeats 8000000 in
set_option maxRecDepth 100000 in
theorem haulageref08_Key.calls (k : Nat) (a0_0 : Int) (a0_1 : ByteArray) (a0_2 : Int) (a0_3 : Int) (A0_4 : Option Addr) (c0_4 : Nat) (l0_4 : List (S54)) (r : Int) (w : World) (hr0_4 : Kd.C k54 w A0_4 l0_4.length l0_4) (hc0_4 : l0_4.length ≤ c0_4) (h : haulageref08_Key.f k a0_0 a0_1 a0_2 a0_3 l0_4 = some r) :
  Calls Tryd.prog 48 #[.agg #[.int .i64 a0_0, .string a0_1, .int .i64 a0_2, .int .i64 a0_3, .slice A0_4 l0_4.length c0_4]] w fun e w' => e = .returned (.int .i64 r) ∧ Below w.heap.size w w' := by
 have hu24 := Tryd.underlying24
 have HR0_4 := aM hr0_4
 have HC0_4 := aM hc0_4
 clear hr0_4 hc0_4
 have HB := aM (Below.refl w.heap.size w)
 have H : (haulageref08_Key.l0 k 0 a0_0 a0_1 a0_2 a0_3 l0_4) = some r := h
 clear h
 have H' := aM H
 clear H
 go_enter Tryd.func48, Tryd.ntmps48
 go_wp2_with (first | ((with_reducible refine gate_dst (N := 1) rfl ?_); refine yX (N := 1) (cs := #[.int .i64 a0_0, .string a0_1, .int .i64 a0_2, .int .i64 a0_3, .slice A0_4 l0_4.length c0_4]) (t := 24) ?_; intro gb276 hg w2 hbox hb; have BK276 := aM (hbox); have GW276 := yZ hg (yB HB); have GE276 := yZ hg (yB HB); replace HB := aM (bP (yB HB) hb); clear hb hbox hg))
 repeat (go_quiet (first | ((with_reducible refine gate_dst (N := 1) rfl ?_); refine yX (N := 1) (cs := #[.int .i64 a0_0, .string a0_1, .int .i64 a0_2, .int .i64 a0_3, .slice A0_4 l0_4.length c0_4]) (t := 24) ?_; intro gb276 hg w2 hbox hb; have BK276 := aM (hbox); have GW276 := yZ hg (yB HB); have GE276 := yZ hg (yB HB); replace HB := aM (bP (yB HB) hb); clear hb hbox hg)); try go_wp2_with (first | ((with_reducible refine gate_dst (N := 1) rfl ?_); refine yX (N := 1) (cs := #[.int .i64 a0_0, .string a0_1, .int .i64 a0_2, .int .i64 a0_3, .slice A0_4 l0_4.length c0_4]) (t := 24) ?_; intro gb276 hg w2 hbox hb; have BK276 := aM (hbox); have GW276 := yZ hg (yB HB); have GE276 := yZ hg (yB HB); replace HB := aM (bP (yB HB) hb); clear hb hbox hg)))
 go_loopg [3] k (fun kq v3 w' => ∃ (x3_1 : Int), v3 = .int .i64 x3_1 ∧ Aside0 (haulageref08_Key.l0 kq x3_1 a0_0 a0_1 a0_2 a0_3 l0_4 = some r) ∧ Aside0 (kq ≤ k) ∧ Aside0 (w'.heap[gb276]? = some (.cells #[.int .i64 a0_0, .string a0_1, .int .i64 a0_2, .int .i64 a0_3, (.slice A0_4 l0_4.length c0_4)] 24 (0, 0))) ∧ Aside0 (Below w.heap.size w w'))
 case atStart => exact ⟨(0), yS, H', ⟨Nat.le_refl _⟩, ⟨yK BK276⟩, ⟨yG1 HB GE276.out⟩⟩
 case round =>
  clear H'
  obtain ⟨x3_1, rfl, HA, HK1, BK276, HB⟩ := hrel
  cases gk with
  | zero => exact absurd HA.out (by simp [haulageref08_Key.l0])
  | succ k1 =>
   have H := HA.out
   clear HA
   simp only [haulageref08_Key.l0] at H
   by_cases c3 : x3_1 < (l0_4.length : Int)
   ·
    rw [if_pos c3] at H
    have c3b0 : decide (x3_1 < (l0_4.length : Int)) = true := decide_eq_true c3
    clear c3
    by_cases c4 : 0 ≤ x3_1
    ·
     rw [if_pos c4] at H
     have c4b0 : decide (0 ≤ x3_1) = true := decide_eq_true c4
     clear c4
     by_cases c5 : ((rd_T54 l0_4 x3_1).f0) = a0_2
     ·
      rw [if_pos c5] at H
      have c5b0 : (((rd_T54 l0_4 x3_1).f0) == a0_2) = true := beq_iff_eq.mpr c5
      have c5b1 : (((rd_T54 l0_4 x3_1).f0) != a0_2) = false := bne_eq_false_iff_eq.mpr c5
      clear c5
      obtain rfl := Option.some.inj H
      obtain ⟨hcz6_0, hcz6_1, hcz6_2, hcz6_3, hcz6_4, hfz6_0, hfz6_1, hfz6_2, hfz6_3, hfz6_4⟩ := cells5 BK276.out
      have p277 : 0 ≤ (x3_1 : Int) := oD yA
      have q277 : x3_1 < (l0_4.length : Int) := oD yA
      obtain ⟨ad277, e277, hx277_0, hx277_1, hx277_2, hx277_3, hx277_4, hx277_5, hx277_6, hx277_7⟩ := at_T54 HR0_4.out x3_1 p277 q277
      cases e277
      replace hx277_0 := pw_cell_below HB.out hx277_0
      replace hx277_1 := pw_cell_below HB.out hx277_1
      replace hx277_2 := pw_cell_below HB.out hx277_2
      replace hx277_3 := pw_cell_below HB.out hx277_3
      replace hx277_4 := pw_cell_below HB.out hx277_4
      replace hx277_5 := pw_cell_below HB.out hx277_5
      replace hx277_6 := pw_cell_below HB.out hx277_6
      replace hx277_7 := pw_cell_below HB.out hx277_7
      replace p277 := eq_true p277
      replace q277 := eq_true q277
      go_wp2
      repeat (go_quiet (fail); try go_wp2)
      go_ret
      exact ⟨yE, yG1 HB GE276.out⟩
     ·
      rw [if_neg c5] at H
      have c5b0 : (((rd_T54 l0_4 x3_1).f0) == a0_2) = false := beq_eq_false_iff_ne.mpr c5
      have c5b1 : (((rd_T54 l0_4 x3_1).f0) != a0_2) = true := bne_iff_ne.mpr c5
      have H' := aM H
      clear H
      obtain ⟨hcz7_0, hcz7_1, hcz7_2, hcz7_3, hcz7_4, hfz7_0, hfz7_1, hfz7_2, hfz7_3, hfz7_4⟩ := cells5 BK276.out
      have p277 : 0 ≤ (x3_1 : Int) := oD yA
      have q277 : x3_1 < (l0_4.length : Int) := oD yA
      obtain ⟨ad277, e277, hx277_0, hx277_1, hx277_2, hx277_3, hx277_4, hx277_5, hx277_6, hx277_7⟩ := at_T54 HR0_4.out x3_1 p277 q277
      cases e277
      replace hx277_0 := pw_cell_below HB.out hx277_0
      replace hx277_1 := pw_cell_below HB.out hx277_1
      replace hx277_2 := pw_cell_below HB.out hx277_2
      replace hx277_3 := pw_cell_below HB.out hx277_3
      replace hx277_4 := pw_cell_below HB.out hx277_4
      replace hx277_5 := pw_cell_below HB.out hx277_5
      replace hx277_6 := pw_cell_below HB.out hx277_6
      replace hx277_7 := pw_cell_below HB.out hx277_7
      replace p277 := eq_true p277
      replace q277 := eq_true q277
      go_wp2
      repeat (go_quiet (fail); try go_wp2)
      go_roundg k1
      case measure => have := HK1.out; omega
      case rel => exact ⟨(wrap64 (x3_1 + 1)), yS, H', ⟨by have := HK1.out; omega⟩, ⟨yK BK276⟩, ⟨yG1 HB GE276.out⟩⟩
    ·
     rw [if_neg c4] at H
     exact absurd H (by simp)
   ·
    rw [if_neg c3] at H
    have c3b0 : decide (x3_1 < (l0_4.length : Int)) = false := decide_eq_false c3
    clear c3
    obtain rfl := Option.some.inj H
    obtain ⟨hcz8_0, hcz8_1, hcz8_2, hcz8_3, hcz8_4, hfz8_0, hfz8_1, hfz8_2, hfz8_3, hfz8_4⟩ := cells5 BK276.out
    go_wp2
    repeat (go_quiet (fail); try go_wp2)
    go_ret
    exact ⟨yE, yG1 HB GE276.out⟩
/-! ### schema_Key_1: function 75 -/
def schema_Key_1.f (a0_0 : Int) (a0_1 : ByteArray) (a0_2 : Int) (a0_3 : Int) (a0_4 : Bool) (a0_5 : Int) (a0_6 : Int) (a0_7 : ByteArray) (l1 : List (S24)) : Option (Bool) := if 0 < (l1.length : Int) then (some (a0_0 == ((rd_T24 l1 0).f2))) else (none)
set_option maxHeartbeats 8000000 in
set_option maxRecDepth 100000 in
theorem schema_Key_1.calls (a0_0 : Int) (a0_1 : ByteArray) (a0_2 : Int) (a0_3 : Int) (a0_4 : Bool) (a0_5 : Int) (a0_6 : Int) (a0_7 : ByteArray) (A1 : Option Addr) (c1 : Nat) (l1 : List (S24)) (r : Bool) (w : World) (hr1 : Kd.C k24 w A1 l1.length l1) (hc1 : l1.length ≤ c1) (h : schema_Key_1.f a0_0 a0_1 a0_2 a0_3 a0_4 a0_5 a0_6 a0_7 l1 = some r) :
  Calls Tryd.prog 75 #[.agg #[.int .i64 a0_0, .string a0_1, .int .i64 a0_2, .int .i64 a0_3, .bool a0_4, .int .i64 a0_5, .int .i64 a0_6, .string a0_7], .pointer A1] w fun e w' => e = .returned (.bool r) ∧ Below w.heap.size w w' := by
 have hu54 := Tryd.underlying54
 have HR1 := aM hr1
 have HC1 := aM hc1
 clear hr1 hc1
 have HB := aM (Below.refl w.heap.size w)
 have H : (if 0 < (l1.length : Int) then (some (a0_0 == ((rd_T24 l1 0).f2))) else (none)) = some r := h
 clear h
 by_cases c3 : 0 < (l1.length : Int)
 ·
  rw [if_pos c3] at H
  have c3b0 : decide (0 < (l1.length : Int)) = true := decide_eq_true c3
  have c3b1 : decide (0 < l1.length) = true := decide_eq_true (by omega)
  clear c3
  obtain rfl := Option.some.inj H
  go_enter Tryd.func75, Tryd.ntmps75
  go_wp2_with (first | ((with_reducible refine gate_dst (N := 2) rfl ?_); refine yX (N := 2) (cs := #[.int .i64 a0_0, .string a0_1, .int .i64 a0_2, .int .i64 a0_3, .bool a0_4, .int .i64 a0_5, .int .i64 a0_6, .string a0_7]) (t := 54) ?_; intro gb278 hg w4 hbox hb; have BK278 := aM (hbox); have GW278 := yZ hg (yB HB); have GE278 := yZ hg (yB HB); replace HB := aM (bP (yB HB) hb); clear hb hbox hg; obtain ⟨hcz5_0, hcz5_1, hcz5_2, hcz5_3, hcz5_4, hcz5_5, hcz5_6, hcz5_7, hfz5_0, hfz5_1, hfz5_2, hfz5_3, hfz5_4, hfz5_5, hfz5_6, hfz5_7⟩ := cells8 BK278.out; have p279 : 0 ≤ (0 : Int) := (by omega); have q279 : 0 < (l1.length : Int) := oD yA; obtain ⟨ad279, A279_4, c279_4, e279, hx279_0, hx279_1, hx279_2, hx279_3, hx279_4, hl279_4, hi279_4⟩ := at_T24 HR1.out 0 p279 q279; cases e279; have qi279 : (0 < l1.length) = True := eq_true (by omega); (try rw [show ((0 : Int)).toNat = 0 from rfl] at hx279_0); (try rw [show 0 * 5 = 0 from rfl] at hx279_0); (try rw [Addr.add_zero'] at hx279_0); (try rw [show ((0 : Int)).toNat = 0 from rfl] at hx279_1); (try rw [show 0 * 5 = 0 from rfl] at hx279_1); (try rw [Addr.add_zero'] at hx279_1); (try rw [show ((0 : Int)).toNat = 0 from rfl] at hx279_2); (try rw [show 0 * 5 = 0 from rfl] at hx279_2); (try rw [Addr.add_zero'] at hx279_2); (try rw [show ((0 : Int)).toNat = 0 from rfl] at hx279_3); (try rw [show 0 * 5 = 0 from rfl] at hx279_3); (try rw [Addr.add_zero'] at hx279_3); (try rw [show ((0 : Int)).toNat = 0 from rfl] at hx279_4); (try rw [show 0 * 5 = 0 from rfl] at hx279_4); (try rw [Addr.add_zero'] at hx279_4); replace hx279_0 := pw_cell_below HB.out hx279_0; replace hx279_1 := pw_cell_below HB.out hx279_1; replace hx279_2 := pw_cell_below HB.out hx279_2; replace hx279_3 := pw_cell_below HB.out hx279_3; replace hx279_4 := pw_cell_below HB.out hx279_4; have HR279_4 := aM hi279_4; have HC279_4 := aM hl279_4; clear hi279_4 hl279_4; replace p279 := eq_true p279; replace q279 := eq_true q279))
  go_ret
  exact ⟨yE, yG1 HB GE278.out⟩
 ·
  rw [if_neg c3] at H
  exact absurd H (by simp)
/-! ### api_Column_f75: function 74 -/
def api_Column_f75.l0 : Nat → List (S24) → List (S54) → Int → Int → Option (Int × Bool)
 | 0, _, _, _, _ => none
 | k + 1, x1, x8, x9, x10 => if x10 < x9 then (if 0 ≤ x10 then (if x10 < (x8.length : Int) then ((schema_Key_1.f ((rd_T54 x8 x10).f0) ((rd_T54 x8 x10).f1) ((rd_T54 x8 x10).f2.f0) ((rd_T54 x8 x10).f2.f1) ((rd_T54 x8 x10).f3) ((rd_T54 x8 x10).f4.f0) ((rd_T54 x8 x10).f4.f1) ((rd_T54 x8 x10).f4.f2) x1).bind fun t282 => (if t282 = true then (some (x10, true)) else (api_Column_f75.l0 k x1 x8 x9 (wrap64 (x10 + 1))))) else (none)) else (none)) else (some (0, false))
def api_Column_f75.f (k : Nat) (l0 : List (S54)) (l1 : List (S24)) : Option (Int × Bool) := api_Column_f75.l0 k l1 l0 (l0.length : Int) 0
theorem api_Column_f75.mono_l : ∀ k, (∀ y0 y1 y2 y3, LeO (api_Column_f75.l0 k y0 y1 y2 y3) (api_Column_f75.l0 (k + 1) y0 y1 y2 y3))
 | 0 => fun _ _ _ _ r h => by simp [api_Column_f75.l0] at h
 | k + 1 => by
  have ih0 := api_Column_f75.mono_l k
  ·
   intro y0 y1 y2 y3
   unfold api_Column_f75.l0
   repeat' first
   | (with_reducible exact ih0 _ _ _ _)
   | (with_reducible exact LeO.refl _)
   | (with_reducible exact LeO.none _)
   | (with_reducible refine LeO.ite ?_ ?_)
   | (with_reducible refine LeO.bind ?_ (fun _ => ?_))
   | exact ih0 _ _ _ _
   | exact LeO.none _
   | refine LeO.ite ?_ ?_
   | refine LeO.bind ?_ (fun _ => ?_)
theorem api_Column_f75.mono : ∀ a0 a1 k, LeO (api_Column_f75.f k a0 a1) (api_Column_f75.f (k + 1) a0 a1) := by
 intro a0 a1 k
 have ih0 := api_Column_f75.mono_l k
 unfold api_Column_f75.f
 repeat' first | with_reducible (first | exact ih0 .. | exact LeO.refl .. | exact LeO.none .. | refine LeO.ite ?_ ?_ | refine LeO.bind ?_ (fun _ => ?_)) | exact ih0 .. | exact LeO.none .. | refine LeO.ite ?_ ?_ | refine LeO.bind ?_ (fun _ => ?_)
set_option maxHeartbeats 8000000 in
set_option maxRecDepth 100000 in
theorem api_Column_f75.calls (k : Nat) (A0 : Option Addr) (c0 : Nat) (l0 : List (S54)) (A1 : Option Addr) (c1 : Nat) (l1 : List (S24)) (r1 : Int) (r2 : Bool) (w : World) (hr0 : Kd.C k54 w A0 l0.length l0) (hc0 : l0.length ≤ c0) (hr1 : Kd.C k24 w A1 l1.length l1) (hc1 : l1.length ≤ c1) (h : api_Column_f75.f k l0 l1 = some (r1, r2)) :
  Calls Tryd.prog 74 #[.slice A0 l0.length c0, .func (.func 75) #[] #[.pointer A1]] w fun e w' => e = .returned (.tuple #[.int .i64 r1, .bool r2]) ∧ Below w.heap.size w w' := by
 have hmf : ∀ (fn : Go.Fn) (first cap : Array Value) (w : World), (Instr.makeFunc fn first cap).run Tryd.prog w = .ok (.func fn first cap) w := fun _ _ _ _ => rfl
 have hu54 := Tryd.underlying54
 have HR0 := aM hr0
 have HC0 := aM hc0
 clear hr0 hc0
 have HR1 := aM hr1
 have HC1 := aM hc1
 clear hr1 hc1
 have HB := aM (Below.refl w.heap.size w)
 have H : (api_Column_f75.l0 k l1 l0 (l0.length : Int) 0) = some (r1, r2) := h
 clear h
 have H' := aM H
 clear H
 go_enter Tryd.func74, Tryd.ntmps74
 go_wp2
 go_loopg [10] k (fun kq v10 w' => ∃ (x10_1 : Int), v10 = .int .i64 x10_1 ∧ Aside0 (api_Column_f75.l0 kq l1 l0 (l0.length : Int) x10_1 = some (r1, r2)) ∧ Aside0 (kq ≤ k) ∧ Aside0 (Below w.heap.size w w'))
 case atStart => exact ⟨(0), yS, H', ⟨Nat.le_refl _⟩, ⟨yB HB⟩⟩
 case round =>
  clear H'
  try clear c1
  obtain ⟨x10_1, rfl, HA, HK1, HB⟩ := hrel
  cases gk with
  | zero => exact absurd HA.out (by simp [api_Column_f75.l0])
  | succ k1 =>
   have H := HA.out
   clear HA
   simp only [api_Column_f75.l0] at H
   by_cases c3 : x10_1 < (l0.length : Int)
   ·
    rw [if_pos c3] at H
    have c3b0 : decide (x10_1 < (l0.length : Int)) = true := decide_eq_true c3
    clear c3
    by_cases c4 : 0 ≤ x10_1
    ·
     rw [if_pos c4] at H
     have c4b0 : decide (0 ≤ x10_1) = true := decide_eq_true c4
     clear c4
     by_cases c5 : x10_1 < (l0.length : Int)
     ·
      rw [if_pos c5] at H
      have c5b0 : decide (x10_1 < (l0.length : Int)) = true := decide_eq_true c5
      clear c5
      obtain ⟨t282, A6, H⟩ := yb H
      by_cases c7 : t282 = true
      ·
       subst c7
       replace H := yt H
       simp only [Option.some.injEq, Prod.mk.injEq] at H
       obtain ⟨rfl, rfl⟩ := H
       have p280 : 0 ≤ (x10_1 : Int) := oD yA
       have q280 : x10_1 < (l0.length : Int) := oD yA
       obtain ⟨ad280, e280, hx280_0, hx280_1, hx280_2, hx280_3, hx280_4, hx280_5, hx280_6, hx280_7⟩ := at_T54 HR0.out x10_1 p280 q280
       cases e280
       replace hx280_0 := pw_cell_below HB.out hx280_0
       replace hx280_1 := pw_cell_below HB.out hx280_1
       replace hx280_2 := pw_cell_below HB.out hx280_2
       replace hx280_3 := pw_cell_below HB.out hx280_3
       replace hx280_4 := pw_cell_below HB.out hx280_4
       replace hx280_5 := pw_cell_below HB.out hx280_5
       replace hx280_6 := pw_cell_below HB.out hx280_6
       replace hx280_7 := pw_cell_below HB.out hx280_7
       replace p280 := eq_true p280
       replace q280 := eq_true q280
       go_wp2_with (first | ((with_reducible refine gate_dst (N := 7) rfl ?_); refine yX (N := 7) (cs := #[.int .i64 0, .string (⟨#[]⟩ : ByteArray), .int .i64 0, .int .i64 0, .bool false, .int .i64 0, .int .i64 0, .string (⟨#[]⟩ : ByteArray)]) (t := 54) ?_; intro gb281 hg w8 hbox hb; have BK281 := aM (hbox); have GW281 := yZ hg (yB HB); have GE281 := yZ hg (yB HB); replace HB := aM (bP (yB HB) hb); clear hb hbox hg; obtain ⟨hcz9_0, hcz9_1, hcz9_2, hcz9_3, hcz9_4, hcz9_5, hcz9_6, hcz9_7, hfz9_0, hfz9_1, hfz9_2, hfz9_3, hfz9_4, hfz9_5, hfz9_6, hfz9_7⟩ := cells8 BK281.out) | (go_at_call 75; (with_reducible refine (schema_Key_1.calls ((rd_T54 l0 x10_1).f0) ((rd_T54 l0 x10_1).f1) ((rd_T54 l0 x10_1).f2.f0) ((rd_T54 l0 x10_1).f2.f1) ((rd_T54 l0 x10_1).f3) ((rd_T54 l0 x10_1).f4.f0) ((rd_T54 l0 x10_1).f4.f1) ((rd_T54 l0 x10_1).f4.f2) A1 c1 l1 true _ ?side1 ?side2 A6.out).mono ?_); (case side1 => exact Kd.C_below HR1.out (yG1 HB GE281.out)); (case side2 => exact HC1.out); rintro e w10 ⟨rfl, hb⟩; replace BK281 := aM (kB (puts8 BK281.out) hb); replace HB := aM (bP (yG1 HB GE281.out) hb); (try clear hb)))
       go_ret2
       exact ⟨yE, yG1 HB GE281.out⟩
      ·
       replace c7 := Bool.eq_false_iff.mpr c7
       subst c7
       replace H := yf H
       have H' := aM H
       clear H
       have p280 : 0 ≤ (x10_1 : Int) := oD yA
       have q280 : x10_1 < (l0.length : Int) := oD yA
       obtain ⟨ad280, e280, hx280_0, hx280_1, hx280_2, hx280_3, hx280_4, hx280_5, hx280_6, hx280_7⟩ := at_T54 HR0.out x10_1 p280 q280
       cases e280
       replace hx280_0 := pw_cell_below HB.out hx280_0
       replace hx280_1 := pw_cell_below HB.out hx280_1
       replace hx280_2 := pw_cell_below HB.out hx280_2
       replace hx280_3 := pw_cell_below HB.out hx280_3
       replace hx280_4 := pw_cell_below HB.out hx280_4
       replace hx280_5 := pw_cell_below HB.out hx280_5
       replace hx280_6 := pw_cell_below HB.out hx280_6
       replace hx280_7 := pw_cell_below HB.out hx280_7
       replace p280 := eq_true p280
       replace q280 := eq_true q280
       go_wp2_with (first | ((with_reducible refine gate_dst (N := 7) rfl ?_); refine yX (N := 7) (cs := #[.int .i64 0, .string (⟨#[]⟩ : ByteArray), .int .i64 0, .int .i64 0, .bool false, .int .i64 0, .int .i64 0, .string (⟨#[]⟩ : ByteArray)]) (t := 54) ?_; intro gb281 hg w11 hbox hb; have BK281 := aM (hbox); have GW281 := yZ hg (yB HB); have GE281 := yZ hg (yB HB); replace HB := aM (bP (yB HB) hb); clear hb hbox hg; obtain ⟨hcz12_0, hcz12_1, hcz12_2, hcz12_3, hcz12_4, hcz12_5, hcz12_6, hcz12_7, hfz12_0, hfz12_1, hfz12_2, hfz12_3, hfz12_4, hfz12_5, hfz12_6, hfz12_7⟩ := cells8 BK281.out) | (go_at_call 75; (with_reducible refine (schema_Key_1.calls ((rd_T54 l0 x10_1).f0) ((rd_T54 l0 x10_1).f1) ((rd_T54 l0 x10_1).f2.f0) ((rd_T54 l0 x10_1).f2.f1) ((rd_T54 l0 x10_1).f3) ((rd_T54 l0 x10_1).f4.f0) ((rd_T54 l0 x10_1).f4.f1) ((rd_T54 l0 x10_1).f4.f2) A1 c1 l1 false _ ?side1 ?side2 A6.out).mono ?_); (case side1 => exact Kd.C_below HR1.out (yG1 HB GE281.out)); (case side2 => exact HC1.out); rintro e w13 ⟨rfl, hb⟩; replace BK281 := aM (kB (puts8 BK281.out) hb); replace HB := aM (bP (yG1 HB GE281.out) hb); (try clear hb)))
       go_roundg k1
       case measure => have := HK1.out; omega
       case rel => exact ⟨(wrap64 (x10_1 + 1)), yS, H', ⟨by have := HK1.out; omega⟩, ⟨yG1 HB GE281.out⟩⟩
     ·
      rw [if_neg c5] at H
      exact absurd H (by simp)
    ·
     rw [if_neg c4] at H
     exact absurd H (by simp)
   ·
    rw [if_neg c3] at H
    have c3b0 : decide (x10_1 < (l0.length : Int)) = false := decide_eq_false c3
    clear c3
    simp only [Option.some.injEq, Prod.mk.injEq] at H
    obtain ⟨rfl, rfl⟩ := H
    go_wp2
    go_ret2
    exact ⟨yE, yB HB⟩
/-! ### schema_Key: function 37 -/
def schema_Key.f (k : Nat) (a0_0 : Int) (a0_1 : ByteArray) (a0_2 : Int) (a0_3 : Int) (l0_4 : List (S54)) : Option (Int × Bool) := (api_Column_f75.f k l0_4 [(⟨a0_0, a0_1, a0_2, a0_3, l0_4⟩ : S24)]).bind fun bt284 => (some (bt284.1, bt284.2))
theorem schema_Key.mono : ∀ a0 a1 a2 a3 a4 k, LeO (schema_Key.f k a0 a1 a2 a3 a4) (schema_Key.f (k + 1) a0 a1 a2 a3 a4) := by
 intro a0 a1 a2 a3 a4 k
 unfold schema_Key.f
 repeat' first | with_reducible (first | exact api_Column_f75.mono .. | exact LeO.refl .. | exact LeO.none .. | refine LeO.ite ?_ ?_ | refine LeO.bind ?_ (fun _ => ?_)) | exact api_Column_f75.mono .. | exact LeO.none .. | refine LeO.ite ?_ ?_ | refine LeO.bind ?_ (fun _ => ?_)
set_option maxHeartbeats 8000000 in
set_option maxRecDepth 100000 in
theorem schema_Key.calls (k : Nat) (a0_0 : Int) (a0_1 : ByteArray) (a0_2 : Int) (a0_3 : Int) (A0_4 : Option Addr) (c0_4 : Nat) (l0_4 : List (S54)) (r1 : Int) (r2 : Bool) (w : World) (hr0_4 : Kd.C k54 w A0_4 l0_4.length l0_4) (hc0_4 : l0_4.length ≤ c0_4) (h : schema_Key.f k a0_0 a0_1 a0_2 a0_3 l0_4 = some (r1, r2)) :
  Calls Tryd.prog 37 #[.agg #[.int .i64 a0_0, .string a0_1, .int .i64 a0_2, .int .i64 a0_3, .slice A0_4 l0_4.length c0_4]] w fun e w' => e = .returned (.tuple #[.int .i64 r1, .bool r2]) ∧ Below w.heap.size w w' := by
 have hmf : ∀ (fn : Go.Fn) (first cap : Array Value) (w : World), (Instr.makeFunc fn first cap).run Tryd.prog w = .ok (.func fn first cap) w := fun _ _ _ _ => rfl
 have hu24 := Tryd.underlying24
 have HR0_4 := aM hr0_4
 have HC0_4 := aM hc0_4
 clear hr0_4 hc0_4
 have HB := aM (Below.refl w.heap.size w)
 have H : ((api_Column_f75.f k l0_4 [(⟨a0_0, a0_1, a0_2, a0_3, l0_4⟩ : S24)]).bind fun bt284 => (some (bt284.1, bt284.2))) = some (r1, r2) := h
 clear h
 obtain ⟨⟨t284, t285⟩, A2, H⟩ := yb H
 try dsimp -simprocs only at H
 simp only [Option.some.injEq, Prod.mk.injEq] at H
 obtain ⟨rfl, rfl⟩ := H
 go_enter Tryd.func37, Tryd.ntmps37
 go_wp2_with (first | ((with_reducible refine gate_dst (N := 1) rfl ?_); refine yX (N := 1) (cs := #[.int .i64 a0_0, .string a0_1, .int .i64 a0_2, .int .i64 a0_3, .slice A0_4 l0_4.length c0_4]) (t := 24) ?_; intro gb283 hg w3 hbox hb; have BK283 := aM (hbox); have GW283 := yZ hg (yB HB); have GE283 := yZ hg (yB HB); replace HB := aM (bP (yB HB) hb); clear hb hbox hg; obtain ⟨hcz4_0, hcz4_1, hcz4_2, hcz4_3, hcz4_4, hfz4_0, hfz4_1, hfz4_2, hfz4_3, hfz4_4⟩ := cells5 BK283.out) | (go_at_call 74; (with_reducible refine (api_Column_f75.calls k _ _ l0_4 (some ⟨gb283, 0, none⟩) 1 [(⟨a0_0, a0_1, a0_2, a0_3, l0_4⟩ : S24)] t284 t285 _ ?side1 ?side2 ?side3 ?side4 A2.out).mono ?_); (case side1 => exact yW (Kd.C_below HR0_4.out HB.out)); (case side2 => exact HC0_4.out); (case side3 => exact hp_C_one (k24_mk _ (⟨a0_0, a0_1, a0_2, a0_3, l0_4⟩ : S24) (by exact HC0_4.out) (yW (Kd.C_below HR0_4.out HB.out))) (yK BK283)); (case side4 => exact Nat.le_refl _); rintro e w5 ⟨rfl, hb⟩; replace BK283 := aM (kB (yK BK283) hb); replace HB := aM (bP (yG1 HB GE283.out) hb); (try clear hb)))
 go_ret2
 exact ⟨yE, yG1 HB GE283.out⟩
/-! ### rowcode_key: function 88 -/
def rowcode_key.f (k : Nat) (a0_0 : Int) (a0_1 : ByteArray) (a0_2 : Int) (a0_3 : Int) (l0_4 : List (S54)) : Option (Int × Int × Int) := (schema_RightTable.f k a0_0 a0_1 a0_2 a0_3 l0_4).bind fun t288 => (if t288 = true then ((schema_Key.f k a0_0 a0_1 a0_2 a0_3 l0_4).bind fun bt289 => (if 0 ≤ bt289.1 then (if bt289.1 < (l0_4.length : Int) then (some ((rd_T54 l0_4 bt289.1).f2.f0, (rd_T54 l0_4 bt289.1).f2.f1, 0)) else (none)) else (none))) else (some (0, 0, 2)))
theorem rowcode_key.mono : ∀ a0 a1 a2 a3 a4 k, LeO (rowcode_key.f k a0 a1 a2 a3 a4) (rowcode_key.f (k + 1) a0 a1 a2 a3 a4) := by
 intro a0 a1 a2 a3 a4 k
 unfold rowcode_key.f
 repeat' first | with_reducible (first | exact schema_Key.mono .. | exact schema_RightTable.mono .. | exact LeO.refl .. | exact LeO.none .. | refine LeO.ite ?_ ?_ | refine LeO.bind ?_ (fun _ => ?_)) | exact schema_Key.mono .. | exact schema_RightTable.mono .. | exact LeO.none .. | refine LeO.ite ?_ ?_ | refine LeO.bind ?_ (fun _ => ?_)
set_option maxHeartbeats 8000000 in
set_option maxRecDepth 100000 in
theorem rowcode_key.calls (k : Nat) (a0_0 : Int) (a0_1 : ByteArray) (a0_2 : Int) (a0_3 : Int) (A0_4 : Option Addr) (c0_4 : Nat) (l0_4 : List (S54)) (r1 : Int) (r2 : Int) (r3 : Int) (w : World) (hr0_4 : Kd.C k54 w A0_4 l0_4.length l0_4) (hc0_4 : l0_4.length ≤ c0_4) (hG : Glob w) (h : rowcode_key.f k a0_0 a0_1 a0_2 a0_3 l0_4 = some (r1, r2, r3)) :
  Calls Tryd.prog 88 #[.agg #[.int .i64 a0_0, .string a0_1, .int .i64 a0_2, .int .i64 a0_3, .slice A0_4 l0_4.length c0_4]] w fun e w' => e = .returned (.tuple #[.agg #[.int .i64 r1, .int .i64 r2], .int .i64 r3]) ∧ Below w.heap.size w w' := by
 have hu24 := Tryd.underlying24
 have hu50 := Tryd.underlying50
 have HR0_4 := aM hr0_4
 have HC0_4 := aM hc0_4
 clear hr0_4 hc0_4
 have HG := aM hG
 clear hG
 have HB := aM (Below.refl w.heap.size w)
 have H : ((schema_RightTable.f k a0_0 a0_1 a0_2 a0_3 l0_4).bind fun t288 => (if t288 = true then ((schema_Key.f k a0_0 a0_1 a0_2 a0_3 l0_4).bind fun bt289 => (if 0 ≤ bt289.1 then (if bt289.1 < (l0_4.length : Int) then (some ((rd_T54 l0_4 bt289.1).f2.f0, (rd_T54 l0_4 bt289.1).f2.f1, 0)) else (none)) else (none))) else (some (0, 0, 2)))) = some (r1, r2, r3) := h
 clear h
 obtain ⟨t288, A2, H⟩ := yb H
 by_cases c3 : t288 = true
 ·
  subst c3
  replace H := yt H
  obtain ⟨⟨t289, t290⟩, A4, H⟩ := yb H
  try dsimp -simprocs only at H
  by_cases c5 : 0 ≤ t289
  ·
   rw [if_pos c5] at H
   have c5b0 : decide (0 ≤ t289) = true := decide_eq_true c5
   clear c5
   by_cases c6 : t289 < (l0_4.length : Int)
   ·
    rw [if_pos c6] at H
    have c6b0 : decide (t289 < (l0_4.length : Int)) = true := decide_eq_true c6
    clear c6
    simp only [Option.some.injEq, Prod.mk.injEq] at H
    obtain ⟨rfl, rfl, rfl⟩ := H
    go_enter Tryd.func88, Tryd.ntmps88
    go_wp2_with (first | ((with_reducible refine gate_dst (N := 1) rfl ?_); refine yX (N := 1) (cs := #[.int .i64 a0_0, .string a0_1, .int .i64 a0_2, .int .i64 a0_3, .slice A0_4 l0_4.length c0_4]) (t := 24) ?_; intro gb286 hg w7 hbox hb; have BK286 := aM (hbox); have GW286 := yZ hg (yB HB); have GE286 := yZ hg (yB HB); replace HB := aM (bP (yB HB) hb); clear hb hbox hg) | ((with_reducible refine gate_dst (N := 2) rfl ?_); refine yX (N := 2) (cs := #[.int .i64 0, .int .i64 0]) (t := 50) ?_; intro gb287 hg w8 hbox hb; have BK287 := aM (hbox); have GW287 := yZ hg (yG1 HB GE286.out); have GE287 := yZ hg (yG1 HB GE286.out); replace HB := aM (bP (yG1 HB GE286.out) hb); have NB286_287 := yN hg (yK BK286); have NB287_286 := yM hg (yK BK286); replace BK286 := aM (kB (yK BK286) hb); clear hb hbox hg; have hnb9 := NB286_287.out; have hnc9 := NB287_286.out; obtain ⟨hcz10_0, hcz10_1, hcz10_2, hcz10_3, hcz10_4, hfz10_0, hfz10_1, hfz10_2, hfz10_3, hfz10_4⟩ := cells5 BK286.out) | ((with_reducible refine gate_callee (f := 26) rfl ?_); refine yC 7 Tryd.func26 #[.agg #[.int .i64 a0_0, .string a0_1, .int .i64 a0_2, .int .i64 a0_3, .slice A0_4 l0_4.length c0_4]] rfl ?_; (with_reducible refine (schema_RightTable.calls k a0_0 a0_1 a0_2 a0_3 _ _ l0_4 true _ ?side1 ?side2 ?side3 A2.out).mono ?_); (case side1 => exact yW (Kd.C_below HR0_4.out HB.out)); (case side2 => exact HC0_4.out); (case side3 => first | (with_reducible exact HG.out) | exact Glob.below HG.out (yG2 HB GE286.out GE287.out)); rintro e w11 ⟨rfl, hb⟩; refine ⟨_, rfl, ?_⟩; replace BK286 := aM (kB (yK BK286) hb); replace BK287 := aM (kB (yK BK287) hb); replace HB := aM (bP (yG2 HB GE286.out GE287.out) hb); (try clear hb); obtain ⟨hcz12_0, hcz12_1, hcz12_2, hcz12_3, hcz12_4, hfz12_0, hfz12_1, hfz12_2, hfz12_3, hfz12_4⟩ := cells5 BK286.out) | ((with_reducible refine gate_callee (f := 37) rfl ?_); refine yC 12 Tryd.func37 #[.agg #[.int .i64 a0_0, .string a0_1, .int .i64 a0_2, .int .i64 a0_3, .slice A0_4 l0_4.length c0_4]] rfl ?_; (with_reducible refine (schema_Key.calls k a0_0 a0_1 a0_2 a0_3 _ _ l0_4 t289 t290 _ ?side1 ?side2 A4.out).mono ?_); (case side1 => exact yW (Kd.C_below HR0_4.out HB.out)); (case side2 => exact HC0_4.out); rintro e w13 ⟨rfl, hb⟩; refine ⟨_, rfl, ?_⟩; replace BK286 := aM (kB (yK BK286) hb); replace BK287 := aM (kB (yK BK287) hb); replace HB := aM (bP (yG2 HB GE286.out GE287.out) hb); (try clear hb); obtain ⟨hcz14_0, hcz14_1, hcz14_2, hcz14_3, hcz14_4, hfz14_0, hfz14_1, hfz14_2, hfz14_3, hfz14_4⟩ := cells5 BK286.out; have p291 : 0 ≤ (t289 : Int) := oD yA; have q291 : t289 < (l0_4.length : Int) := oD yA; obtain ⟨ad291, e291, hx291_0, hx291_1, hx291_2, hx291_3, hx291_4, hx291_5, hx291_6, hx291_7⟩ := at_T54 HR0_4.out t289 p291 q291; cases e291; replace hx291_0 := pw_cell_below HB.out hx291_0; replace hx291_1 := pw_cell_below HB.out hx291_1; replace hx291_2 := pw_cell_below HB.out hx291_2; replace hx291_3 := pw_cell_below HB.out hx291_3; replace hx291_4 := pw_cell_below HB.out hx291_4; replace hx291_5 := pw_cell_below HB.out hx291_5; replace hx291_6 := pw_cell_below HB.out hx291_6; replace hx291_7 := pw_cell_below HB.out hx291_7; replace p291 := eq_true p291; replace q291 := eq_true q291; obtain ⟨hcz15_0, hcz15_1, hfz15_0, hfz15_1⟩ := cells2 BK287.out))
    refine bodyPost_ret (results_ct rfl _ _ gb287 50 #[.int .i64 ((rd_T54 l0_4 t289).f2.f0), .int .i64 ((rd_T54 l0_4 t289).f2.f1)] (0, 0) _ rfl (puts2 BK287.out) Tryd.underlying50 rfl (by kernel_rfl)) rfl ?_
    exact ⟨yE, yG2 HB GE286.out GE287.out⟩
   ·
    rw [if_neg c6] at H
    exact absurd H (by simp)
  ·
   rw [if_neg c5] at H
   exact absurd H (by simp)
 ·
  replace c3 := Bool.eq_false_iff.mpr c3
  subst c3
  replace H := yf H
  simp only [Option.some.injEq, Prod.mk.injEq] at H
  obtain ⟨rfl, rfl, rfl⟩ := H
  go_enter Tryd.func88, Tryd.ntmps88
  go_wp2_with (first | ((with_reducible refine gate_dst (N := 1) rfl ?_); refine yX (N := 1) (cs := #[.int .i64 a0_0, .string a0_1, .int .i64 a0_2, .int .i64 a0_3, .slice A0_4 l0_4.length c0_4]) (t := 24) ?_; intro gb286 hg w16 hbox hb; have BK286 := aM (hbox); have GW286 := yZ hg (yB HB); have GE286 := yZ hg (yB HB); replace HB := aM (bP (yB HB) hb); clear hb hbox hg) | ((with_reducible refine gate_dst (N := 2) rfl ?_); refine yX (N := 2) (cs := #[.int .i64 0, .int .i64 0]) (t := 50) ?_; intro gb287 hg w17 hbox hb; have BK287 := aM (hbox); have GW287 := yZ hg (yG1 HB GE286.out); have GE287 := yZ hg (yG1 HB GE286.out); replace HB := aM (bP (yG1 HB GE286.out) hb); have NB286_287 := yN hg (yK BK286); have NB287_286 := yM hg (yK BK286); replace BK286 := aM (kB (yK BK286) hb); clear hb hbox hg; have hnb18 := NB286_287.out; have hnc18 := NB287_286.out; obtain ⟨hcz19_0, hcz19_1, hcz19_2, hcz19_3, hcz19_4, hfz19_0, hfz19_1, hfz19_2, hfz19_3, hfz19_4⟩ := cells5 BK286.out) | ((with_reducible refine gate_callee (f := 26) rfl ?_); refine yC 7 Tryd.func26 #[.agg #[.int .i64 a0_0, .string a0_1, .int .i64 a0_2, .int .i64 a0_3, .slice A0_4 l0_4.length c0_4]] rfl ?_; (with_reducible refine (schema_RightTable.calls k a0_0 a0_1 a0_2 a0_3 _ _ l0_4 false _ ?side1 ?side2 ?side3 A2.out).mono ?_); (case side1 => exact yW (Kd.C_below HR0_4.out HB.out)); (case side2 => exact HC0_4.out); (case side3 => first | (with_reducible exact HG.out) | exact Glob.below HG.out (yG2 HB GE286.out GE287.out)); rintro e w20 ⟨rfl, hb⟩; refine ⟨_, rfl, ?_⟩; replace BK286 := aM (kB (yK BK286) hb); replace BK287 := aM (kB (yK BK287) hb); replace HB := aM (bP (yG2 HB GE286.out GE287.out) hb); (try clear hb); obtain ⟨hcz21_0, hcz21_1, hfz21_0, hfz21_1⟩ := cells2 BK287.out))
  refine bodyPost_ret (results_ct rfl _ _ gb287 50 #[.int .i64 0, .int .i64 0] (0, 0) _ rfl (puts2 BK287.out) Tryd.underlying50 rfl (by kernel_rfl)) rfl ?_
  exact ⟨yE, yG2 HB GE286.out GE287.out⟩
/-! ### rowcode_Key: function 54 -/
def rowcode_Key.f (k : Nat) (a0_0 : Int) (a0_1 : ByteArray) (a0_2 : Int) (a0_3 : Int) (l0_4 : List (S54)) (a1_0 : Int) (a1_1 : Int) (a1_2 : ByteArray) : Option (ByteArray × Int) := (rowcode_key.f k a0_0 a0_1 a0_2 a0_3 l0_4).bind fun bt294 => (if bt294.2.2 = 0 then ((typ_Fits.f k bt294.1 bt294.2.1 a1_0 a1_1 a1_2).bind fun t298 => (if t298 = true then ((rowcode_put.f k ([] : List Int) a1_0 a1_1 a1_2).bind fun t299 => (some (strOfNums t299, 0))) else (some ((⟨#[]⟩ : ByteArray), 10)))) else (some ((⟨#[]⟩ : ByteArray), bt294.2.2)))
theorem rowcode_Key.mono : ∀ a0 a1 a2 a3 a4 a5 a6 a7 k, LeO (rowcode_Key.f k a0 a1 a2 a3 a4 a5 a6 a7) (rowcode_Key.f (k + 1) a0 a1 a2 a3 a4 a5 a6 a7) := by
 intro a0 a1 a2 a3 a4 a5 a6 a7 k
 unfold rowcode_Key.f
 repeat' first | with_reducible (first | exact rowcode_key.mono .. | exact rowcode_put.mono .. | exact typ_Fits.mono .. | exact LeO.refl .. | exact LeO.none .. | refine LeO.ite ?_ ?_ | refine LeO.bind ?_ (fun _ => ?_)) | exact rowcode_key.mono .. | exact rowcode_put.mono .. | exact typ_Fits.mono .. | exact LeO.none .. | refine LeO.ite ?_ ?_ | refine LeO.bind ?_ (fun _ => ?_)
set_option maxHeartbeats 8000000 in
set_option maxRecDepth 100000 in
theorem rowcode_Key.calls (k : Nat) (a0_0 : Int) (a0_1 : ByteArray) (a0_2 : Int) (a0_3 : Int) (A0_4 : Option Addr) (c0_4 : Nat) (l0_4 : List (S54)) (a1_0 : Int) (a1_1 : Int) (a1_2 : ByteArray) (r1 : ByteArray) (r2 : Int) (w : World) (hr0_4 : Kd.C k54 w A0_4 l0_4.length l0_4) (hc0_4 : l0_4.length ≤ c0_4) (hG : Glob w) (h : rowcode_Key.f k a0_0 a0_1 a0_2 a0_3 l0_4 a1_0 a1_1 a1_2 = some (r1, r2)) :
  Calls Tryd.prog 54 #[.agg #[.int .i64 a0_0, .string a0_1, .int .i64 a0_2, .int .i64 a0_3, .slice A0_4 l0_4.length c0_4], .agg #[.int .i64 a1_0, .int .i64 a1_1, .string a1_2]] w fun e w' => e = .returned (.tuple #[.string r1, .int .i64 r2]) ∧ Below w.heap.size w w' := by
 have hu24 := Tryd.underlying24
 have hu52 := Tryd.underlying52
 have hu50 := Tryd.underlying50
 have HR0_4 := aM hr0_4
 have HC0_4 := aM hc0_4
 clear hr0_4 hc0_4
 have HG := aM hG
 clear hG
 have HB := aM (Below.refl w.heap.size w)
 have H : ((rowcode_key.f k a0_0 a0_1 a0_2 a0_3 l0_4).bind fun bt294 => (if bt294.2.2 = 0 then ((typ_Fits.f k bt294.1 bt294.2.1 a1_0 a1_1 a1_2).bind fun t298 => (if t298 = true then ((rowcode_put.f k ([] : List Int) a1_0 a1_1 a1_2).bind fun t299 => (some (strOfNums t299, 0))) else (some ((⟨#[]⟩ : ByteArray), 10)))) else (some ((⟨#[]⟩ : ByteArray), bt294.2.2)))) = some (r1, r2) := h
 clear h
 obtain ⟨⟨t294, t295, t296⟩, A3, H⟩ := yb H
 try dsimp -simprocs only at H
 by_cases c4 : t296 = 0
 ·
  rw [if_pos c4] at H
  have c4b0 : (t296 == 0) = true := beq_iff_eq.mpr c4
  have c4b1 : (t296 != 0) = false := bne_eq_false_iff_eq.mpr c4
  clear c4
  obtain ⟨t298, A5, H⟩ := yb H
  by_cases c6 : t298 = true
  ·
   subst c6
   replace H := yt H
   obtain ⟨t299, A7, H⟩ := yb H
   simp only [Option.some.injEq, Prod.mk.injEq] at H
   obtain ⟨rfl, rfl⟩ := H
   go_enter Tryd.func54, Tryd.ntmps54
   go_wp2_with (first | ((with_reducible refine gate_dst (N := 2) rfl ?_); refine yX (N := 2) (cs := #[.int .i64 a0_0, .string a0_1, .int .i64 a0_2, .int .i64 a0_3, .slice A0_4 l0_4.length c0_4]) (t := 24) ?_; intro gb292 hg w8 hbox hb; have BK292 := aM (hbox); have GW292 := yZ hg (yB HB); have GE292 := yZ hg (yB HB); replace HB := aM (bP (yB HB) hb); clear hb hbox hg) | ((with_reducible refine gate_dst (N := 3) rfl ?_); refine yX (N := 3) (cs := #[.int .i64 a1_0, .int .i64 a1_1, .string a1_2]) (t := 52) ?_; intro gb293 hg w9 hbox hb; have BK293 := aM (hbox); have GW293 := yZ hg (yG1 HB GE292.out); have GE293 := yZ hg (yG1 HB GE292.out); replace HB := aM (bP (yG1 HB GE292.out) hb); have NB292_293 := yN hg (yK BK292); have NB293_292 := yM hg (yK BK292); replace BK292 := aM (kB (yK BK292) hb); clear hb hbox hg; have hnb10 := NB292_293.out; have hnc10 := NB293_292.out; obtain ⟨hcz11_0, hcz11_1, hcz11_2, hcz11_3, hcz11_4, hfz11_0, hfz11_1, hfz11_2, hfz11_3, hfz11_4⟩ := cells5 BK292.out) | ((with_reducible refine gate_callee (f := 88) rfl ?_); refine yC 10 Tryd.func88 #[.agg #[.int .i64 a0_0, .string a0_1, .int .i64 a0_2, .int .i64 a0_3, .slice A0_4 l0_4.length c0_4]] rfl ?_; (with_reducible refine (rowcode_key.calls k a0_0 a0_1 a0_2 a0_3 _ _ l0_4 t294 t295 t296 _ ?side1 ?side2 ?side3 A3.out).mono ?_); (case side1 => exact yW (Kd.C_below HR0_4.out HB.out)); (case side2 => exact HC0_4.out); (case side3 => first | (with_reducible exact HG.out) | exact Glob.below HG.out (yG2 HB GE292.out GE293.out)); rintro e w12 ⟨rfl, hb⟩; refine ⟨_, rfl, ?_⟩; replace BK292 := aM (kB (yK BK292) hb); replace BK293 := aM (kB (yK BK293) hb); replace HB := aM (bP (yG2 HB GE292.out GE293.out) hb); (try clear hb)) | ((with_reducible refine gate_dst (N := 6) rfl ?_); refine yX (N := 6) (cs := #[.int .i64 0, .int .i64 0]) (t := 50) ?_; intro gb297 hg w13 hbox hb; have BK297 := aM (hbox); have GW297 := yZ hg (yG2 HB GE292.out GE293.out); have GE297 := yZ hg (yG2 HB GE292.out GE293.out); replace HB := aM (bP (yG2 HB GE292.out GE293.out) hb); have NB292_297 := yN hg (yK BK292); have NB297_292 := yM hg (yK BK292); replace BK292 := aM (kB (yK BK292) hb); have NB293_297 := yN hg (yK BK293); have NB297_293 := yM hg (yK BK293); replace BK293 := aM (kB (yK BK293) hb); clear hb hbox hg; have hnb14 := NB297_292.out; have hnc14 := NB292_297.out; have hnb15 := NB297_293.out; have hnc15 := NB293_297.out; obtain ⟨hcz16_0, hcz16_1, hfz16_0, hfz16_1⟩ := cells2 BK297.out; obtain ⟨hcz17_0, hcz17_1, hcz17_2, hfz17_0, hfz17_1, hfz17_2⟩ := cells3 BK293.out) | ((with_reducible refine gate_callee (f := 71) rfl ?_); refine yC 18 Tryd.func71 #[.agg #[.int .i64 t294, .int .i64 t295], .agg #[.int .i64 a1_0, .int .i64 a1_1, .string a1_2]] rfl ?_; (with_reducible refine (typ_Fits.calls k t294 t295 a1_0 a1_1 a1_2 true _ ?side1 A5.out).mono ?_); (case side1 => first | (with_reducible exact HG.out) | exact Glob.below HG.out (yG3 HB GE292.out GE293.out GE297.out)); rintro e w18 ⟨rfl, hb⟩; refine ⟨_, rfl, ?_⟩; replace BK292 := aM (kB (yF1 BK292 NB292_297.out) hb); replace BK293 := aM (kB (yF1 BK293 NB293_297.out) hb); replace BK297 := aM (kB (puts2 BK297.out) hb); replace HB := aM (bP (yG3 HB GE292.out GE293.out GE297.out) hb); (try clear hb); obtain ⟨hcz19_0, hcz19_1, hcz19_2, hfz19_0, hfz19_1, hfz19_2⟩ := cells3 BK293.out) | ((with_reducible refine gate_callee (f := 61) rfl ?_); refine yC 21 Tryd.func61 #[.slice none 0 0, .agg #[.int .i64 a1_0, .int .i64 a1_1, .string a1_2]] rfl ?_; (refine (rowcode_put.calls k (fun k_ => some k_ = (.slice none 0 0 : Value).ownBlock) (.slice none 0 0) ([] : List Int) a1_0 a1_1 a1_2 t299 w _ ?side1 ?side2 A7.out).mono ?_); (case side1 => exact yG3 HB GE292.out GE293.out GE297.out); (case side2 => exact Kd.R_nil _ _ _ _ _); rintro e w20 ⟨v300, rfl, ho0, hb, hkp⟩; refine ⟨_, rfl, ?_⟩; replace BK292 := aM (blk_kept (yK BK292) hkp (fun hs_ => (fun e_ => by simp [Value.ownBlock] at e_) hs_)); replace BK293 := aM (blk_kept (yK BK293) hkp (fun hs_ => (fun e_ => by simp [Value.ownBlock] at e_) hs_)); replace BK297 := aM (blk_kept (yK BK297) hkp (fun hs_ => (fun e_ => by simp [Value.ownBlock] at e_) hs_)); have HO301 := aM (Kd.R_mono (ok' := fun k_ => True) ho0 (fun k_ hk_ => trivial)); replace HB := aM (hb); (try clear hb); (try clear hkp); (try clear ho0); have hcv21 := own_string (P := Tryd.prog) Tryd.underlying91 Tryd.underlying5 Tryd.underlying9 (Kd.own_of_R HO301.out)))
   go_ret2
   exact ⟨yE, yG3 HB GE292.out GE293.out GE297.out⟩
  ·
   replace c6 := Bool.eq_false_iff.mpr c6
   subst c6
   replace H := yf H
   simp only [Option.some.injEq, Prod.mk.injEq] at H
   obtain ⟨rfl, rfl⟩ := H
   go_enter Tryd.func54, Tryd.ntmps54
   go_wp2_with (first | ((with_reducible refine gate_dst (N := 2) rfl ?_); refine yX (N := 2) (cs := #[.int .i64 a0_0, .string a0_1, .int .i64 a0_2, .int .i64 a0_3, .slice A0_4 l0_4.length c0_4]) (t := 24) ?_; intro gb292 hg w22 hbox hb; have BK292 := aM (hbox); have GW292 := yZ hg (yB HB); have GE292 := yZ hg (yB HB); replace HB := aM (bP (yB HB) hb); clear hb hbox hg) | ((with_reducible refine gate_dst (N := 3) rfl ?_); refine yX (N := 3) (cs := #[.int .i64 a1_0, .int .i64 a1_1, .string a1_2]) (t := 52) ?_; intro gb293 hg w23 hbox hb; have BK293 := aM (hbox); have GW293 := yZ hg (yG1 HB GE292.out); have GE293 := yZ hg (yG1 HB GE292.out); replace HB := aM (bP (yG1 HB GE292.out) hb); have NB292_293 := yN hg (yK BK292); have NB293_292 := yM hg (yK BK292); replace BK292 := aM (kB (yK BK292) hb); clear hb hbox hg; have hnb24 := NB292_293.out; have hnc24 := NB293_292.out; obtain ⟨hcz25_0, hcz25_1, hcz25_2, hcz25_3, hcz25_4, hfz25_0, hfz25_1, hfz25_2, hfz25_3, hfz25_4⟩ := cells5 BK292.out) | ((with_reducible refine gate_callee (f := 88) rfl ?_); refine yC 10 Tryd.func88 #[.agg #[.int .i64 a0_0, .string a0_1, .int .i64 a0_2, .int .i64 a0_3, .slice A0_4 l0_4.length c0_4]] rfl ?_; (with_reducible refine (rowcode_key.calls k a0_0 a0_1 a0_2 a0_3 _ _ l0_4 t294 t295 t296 _ ?side1 ?side2 ?side3 A3.out).mono ?_); (case side1 => exact yW (Kd.C_below HR0_4.out HB.out)); (case side2 => exact HC0_4.out); (case side3 => first | (with_reducible exact HG.out) | exact Glob.below HG.out (yG2 HB GE292.out GE293.out)); rintro e w26 ⟨rfl, hb⟩; refine ⟨_, rfl, ?_⟩; replace BK292 := aM (kB (yK BK292) hb); replace BK293 := aM (kB (yK BK293) hb); replace HB := aM (bP (yG2 HB GE292.out GE293.out) hb); (try clear hb)) | ((with_reducible refine gate_dst (N := 6) rfl ?_); refine yX (N := 6) (cs := #[.int .i64 0, .int .i64 0]) (t := 50) ?_; intro gb297 hg w27 hbox hb; have BK297 := aM (hbox); have GW297 := yZ hg (yG2 HB GE292.out GE293.out); have GE297 := yZ hg (yG2 HB GE292.out GE293.out); replace HB := aM (bP (yG2 HB GE292.out GE293.out) hb); have NB292_297 := yN hg (yK BK292); have NB297_292 := yM hg (yK BK292); replace BK292 := aM (kB (yK BK292) hb); have NB293_297 := yN hg (yK BK293); have NB297_293 := yM hg (yK BK293); replace BK293 := aM (kB (yK BK293) hb); clear hb hbox hg; have hnb28 := NB297_292.out; have hnc28 := NB292_297.out; have hnb29 := NB297_293.out; have hnc29 := NB293_297.out; obtain ⟨hcz30_0, hcz30_1, hfz30_0, hfz30_1⟩ := cells2 BK297.out; obtain ⟨hcz31_0, hcz31_1, hcz31_2, hfz31_0, hfz31_1, hfz31_2⟩ := cells3 BK293.out) | ((with_reducible refine gate_callee (f := 71) rfl ?_); refine yC 18 Tryd.func71 #[.agg #[.int .i64 t294, .int .i64 t295], .agg #[.int .i64 a1_0, .int .i64 a1_1, .string a1_2]] rfl ?_; (with_reducible refine (typ_Fits.calls k t294 t295 a1_0 a1_1 a1_2 false _ ?side1 A5.out).mono ?_); (case side1 => first | (with_reducible exact HG.out) | exact Glob.below HG.out (yG3 HB GE292.out GE293.out GE297.out)); rintro e w32 ⟨rfl, hb⟩; refine ⟨_, rfl, ?_⟩; replace BK292 := aM (kB (yF1 BK292 NB292_297.out) hb); replace BK293 := aM (kB (yF1 BK293 NB293_297.out) hb); replace BK297 := aM (kB (puts2 BK297.out) hb); replace HB := aM (bP (yG3 HB GE292.out GE293.out GE297.out) hb); (try clear hb)))
   go_ret2
   exact ⟨yE, yG3 HB GE292.out GE293.out GE297.out⟩
 ·
  rw [if_neg c4] at H
  have c4b0 : (t296 == 0) = false := beq_eq_false_iff_ne.mpr c4
  have c4b1 : (t296 != 0) = true := bne_iff_ne.mpr c4
  simp only [Option.some.injEq, Prod.mk.injEq] at H
  obtain ⟨rfl, rfl⟩ := H
  go_enter Tryd.func54, Tryd.ntmps54
  go_wp2_with (first | ((with_reducible refine gate_dst (N := 2) rfl ?_); refine yX (N := 2) (cs := #[.int .i64 a0_0, .string a0_1, .int .i64 a0_2, .int .i64 a0_3, .slice A0_4 l0_4.length c0_4]) (t := 24) ?_; intro gb292 hg w33 hbox hb; have BK292 := aM (hbox); have GW292 := yZ hg (yB HB); have GE292 := yZ hg (yB HB); replace HB := aM (bP (yB HB) hb); clear hb hbox hg) | ((with_reducible refine gate_dst (N := 3) rfl ?_); refine yX (N := 3) (cs := #[.int .i64 a1_0, .int .i64 a1_1, .string a1_2]) (t := 52) ?_; intro gb293 hg w34 hbox hb; have BK293 := aM (hbox); have GW293 := yZ hg (yG1 HB GE292.out); have GE293 := yZ hg (yG1 HB GE292.out); replace HB := aM (bP (yG1 HB GE292.out) hb); have NB292_293 := yN hg (yK BK292); have NB293_292 := yM hg (yK BK292); replace BK292 := aM (kB (yK BK292) hb); clear hb hbox hg; have hnb35 := NB292_293.out; have hnc35 := NB293_292.out; obtain ⟨hcz36_0, hcz36_1, hcz36_2, hcz36_3, hcz36_4, hfz36_0, hfz36_1, hfz36_2, hfz36_3, hfz36_4⟩ := cells5 BK292.out) | ((with_reducible refine gate_callee (f := 88) rfl ?_); refine yC 10 Tryd.func88 #[.agg #[.int .i64 a0_0, .string a0_1, .int .i64 a0_2, .int .i64 a0_3, .slice A0_4 l0_4.length c0_4]] rfl ?_; (with_reducible refine (rowcode_key.calls k a0_0 a0_1 a0_2 a0_3 _ _ l0_4 t294 t295 t296 _ ?side1 ?side2 ?side3 A3.out).mono ?_); (case side1 => exact yW (Kd.C_below HR0_4.out HB.out)); (case side2 => exact HC0_4.out); (case side3 => first | (with_reducible exact HG.out) | exact Glob.below HG.out (yG2 HB GE292.out GE293.out)); rintro e w37 ⟨rfl, hb⟩; refine ⟨_, rfl, ?_⟩; replace BK292 := aM (kB (yK BK292) hb); replace BK293 := aM (kB (yK BK293) hb); replace HB := aM (bP (yG2 HB GE292.out GE293.out) hb); (try clear hb)) | ((with_reducible refine gate_dst (N := 6) rfl ?_); refine yX (N := 6) (cs := #[.int .i64 0, .int .i64 0]) (t := 50) ?_; intro gb297 hg w38 hbox hb; have BK297 := aM (hbox); have GW297 := yZ hg (yG2 HB GE292.out GE293.out); have GE297 := yZ hg (yG2 HB GE292.out GE293.out); replace HB := aM (bP (yG2 HB GE292.out GE293.out) hb); have NB292_297 := yN hg (yK BK292); have NB297_292 := yM hg (yK BK292); replace BK292 := aM (kB (yK BK292) hb); have NB293_297 := yN hg (yK BK293); have NB297_293 := yM hg (yK BK293); replace BK293 := aM (kB (yK BK293) hb); clear hb hbox hg; have hnb39 := NB297_292.out; have hnc39 := NB292_297.out; have hnb40 := NB297_293.out; have hnc40 := NB293_297.out; obtain ⟨hcz41_0, hcz41_1, hfz41_0, hfz41_1⟩ := cells2 BK297.out))
  go_ret2
  exact ⟨yE, yG3 HB GE292.out GE293.out GE297.out⟩
/-! ### word_Long: function 99 -/
mutual
def word_Long.l0 : Nat → ByteArray → Int → Int → Option (Int × Int × Int)
 | 0, _, _, _ => none
 | k + 1, x0, x2, x5 => if x5 < (x0.size : Int) then (word_Long.j1 k x0 x2 x5 (decide (x5 < 10))) else (word_Long.j1 k x0 x2 x5 false)
def word_Long.j1 : Nat → ByteArray → Int → Int → Bool → Option (Int × Int × Int)
 | 0, _, _, _, _ => none
 | k + 1, x0, x2, x5, x14 => if x14 = true then (if 0 ≤ x5 then (if x5 < (x0.size : Int) then (if 0 ≤ (wrap64 (7 * x5)) then (if (bt x0 x5) ≥ 128 then (word_Long.l0 k x0 (Go.bits .or .u64 x2 (shl .u64 (IntKind.u64.wrap (Go.bits .and .u8 (bt x0 x5) 127)) (wrap64 (7 * x5)))) (wrap64 (x5 + 1))) else (if x5 > 0 then (if (bt x0 x5) = 0 then (word_Long.j2 k (Go.bits .or .u64 x2 (shl .u64 (IntKind.u64.wrap (Go.bits .and .u8 (bt x0 x5) 127)) (wrap64 (7 * x5)))) x5 true) else (if x5 = 9 then (word_Long.j2 k (Go.bits .or .u64 x2 (shl .u64 (IntKind.u64.wrap (Go.bits .and .u8 (bt x0 x5) 127)) (wrap64 (7 * x5)))) x5 (decide ((bt x0 x5) > 1))) else (word_Long.j2 k (Go.bits .or .u64 x2 (shl .u64 (IntKind.u64.wrap (Go.bits .and .u8 (bt x0 x5) 127)) (wrap64 (7 * x5)))) x5 false))) else (if x5 = 9 then (word_Long.j2 k (Go.bits .or .u64 x2 (shl .u64 (IntKind.u64.wrap (Go.bits .and .u8 (bt x0 x5) 127)) (wrap64 (7 * x5)))) x5 (decide ((bt x0 x5) > 1))) else (word_Long.j2 k (Go.bits .or .u64 x2 (shl .u64 (IntKind.u64.wrap (Go.bits .and .u8 (bt x0 x5) 127)) (wrap64 (7 * x5)))) x5 false)))) else (none)) else (none)) else (none)) else (if (x0.size : Int) < 10 then (some (0, 0, 4)) else (some (0, 0, 5)))
def word_Long.j2 : Nat → Int → Int → Bool → Option (Int × Int × Int)
 | 0, _, _, _ => none
 | k + 1, x2, x5, x43 => if x43 = true then (some (0, 0, 5)) else (some (x2, wrap64 (x5 + 1), 0))
end
def word_Long.f (k : Nat) (a0 : ByteArray) : Option (Int × Int × Int) := word_Long.l0 k a0 0 0
theorem word_Long.mono_l : ∀ k, (∀ y0 y1 y2, LeO (word_Long.l0 k y0 y1 y2) (word_Long.l0 (k + 1) y0 y1 y2)) ∧ (∀ y0 y1 y2 y3, LeO (word_Long.j1 k y0 y1 y2 y3) (word_Long.j1 (k + 1) y0 y1 y2 y3)) ∧ (∀ y0 y1 y2, LeO (word_Long.j2 k y0 y1 y2) (word_Long.j2 (k + 1) y0 y1 y2))
 | 0 => by refine ⟨?_, ?_, ?_⟩ <;> intros <;> exact LeO.none _
 | k + 1 => by
  obtain ⟨ih0, ih1, ih2⟩ := word_Long.mono_l k
  refine ⟨?_, ?_, ?_⟩ <;> intros <;> first | unfold word_Long.l0 | unfold word_Long.j1 | unfold word_Long.j2
  all_goals repeat' first | with_reducible (first | exact ih0 .. | exact ih1 .. | exact ih2 .. | exact LeO.refl .. | exact LeO.none .. | refine LeO.ite ?_ ?_ | refine LeO.bind ?_ (fun _ => ?_)) | exact ih0 .. | exact ih1 .. | exact ih2 .. | exact LeO.none .. | refine LeO.ite ?_ ?_ | refine LeO.bind ?_ (fun _ => ?_)
theorem word_Long.mono : ∀ a0 k, LeO (word_Long.f k a0) (word_Long.f (k + 1) a0) := by
 intro a0 k
 obtain ⟨ih0, ih1, ih2⟩ := word_Long.mono_l k
 unfold word_Long.f
 repeat' first | with_reducible (first | exact ih0 .. | exact ih1 .. | exact ih2 .. | exact LeO.refl .. | exact LeO.none .. | refine LeO.ite ?_ ?_ | refine LeO.bind ?_ (fun _ => ?_)) | exact ih0 .. | exact ih1 .. | exact ih2 .. | exact LeO.none .. | refine LeO.ite ?_ ?_ | refine LeO.bind ?_ (fun _ => ?_)
set_option maxHeartbeats 8000000 in
set_option maxRecDepth 100000 in
theorem word_Long.calls (k : Nat) (a0 : ByteArray) (r1 : Int) (r2 : Int) (r3 : Int) (w : World) (h : word_Long.f k a0 = some (r1, r2, r3)) :
  Calls Tryd.prog 99 #[.string a0] w fun e w' => e = .returned (.tuple #[.int .u64 r1, .int .i64 r2, .int .i64 r3]) ∧ Drawn0 w w' := by
 have H : (word_Long.l0 k a0 0 0) = some (r1, r2, r3) := h
 clear h
 have H' := aM H
 clear H
 go_enter Tryd.func99, Tryd.ntmps99
 go_wp2
 go_loopg [2, 5] k (fun kq v2 v5 w' => ∃ (x2_1 : Int) (x5_1 : Int), v2 = .int .u64 x2_1 ∧ v5 = .int .i64 x5_1 ∧ Aside0 (word_Long.l0 kq a0 x2_1 x5_1 = some (r1, r2, r3)) ∧ Aside0 (kq ≤ k) ∧ Drawn0 w w')
 case atStart => exact ⟨(0), (0), yS, yS, H', ⟨Nat.le_refl _⟩, yD⟩
 case round =>
  clear H'
  obtain ⟨x2_1, x5_1, rfl, rfl, HA, HK1, ⟨m1, rfl⟩⟩ := hrel
  cases gk with
  | zero => exact absurd HA.out (by simp [word_Long.l0])
  | succ k1 =>
   have H := HA.out
   clear HA
   simp only [word_Long.l0] at H
   have HC2 := aM H
   clear H
   go_upto_region 2 with (fail)
   go_cut [14] (fun v14 wc => ∃ (kq : Nat) (x14_1 : Bool), v14 = .bool x14_1 ∧ Aside0 (word_Long.j1 kq a0 x2_1 x5_1 x14_1 = some (r1, r2, r3)) ∧ Aside0 (kq ≤ k1) ∧ Drawn0 w wc)
   case first =>
    have H := HC2.out
    clear HC2
    by_cases c3 : x5_1 < (a0.size : Int)
    ·
     rw [if_pos c3] at H
     have c3b0 : decide (x5_1 < (a0.size : Int)) = true := decide_eq_true c3
     clear c3
     (first | rw [c3b0] | (simp only [i64_w, i32_w]; rw [c3b0]) | skip)
     have H' := aM H
     clear H
     go_wp2
     go_meet
     case rel => exact ⟨_, (decide (x5_1 < 10)), yS, H', ⟨by have := HK1.out; first | omega | exact Nat.le_refl _⟩, yD⟩
    ·
     rw [if_neg c3] at H
     have c3b0 : decide (x5_1 < (a0.size : Int)) = false := decide_eq_false c3
     clear c3
     (first | rw [c3b0] | (simp only [i64_w, i32_w]; rw [c3b0]) | skip)
     have H' := aM H
     clear H
     go_wp2
     go_meet
     case rel => exact ⟨_, (false), yS, H', ⟨by have := HK1.out; first | omega | exact Nat.le_refl _⟩, yD⟩
   case rest =>
    clear HC2
    obtain ⟨kq, x14_1, rfl, HA, HJ1, ⟨mc1, rfl⟩⟩ := hcut
    cases kq with
    | zero => exact absurd HA.out (by simp [word_Long.j1])
    | succ kj1 =>
     have H := HA.out
     clear HA
     simp only [word_Long.j1] at H
     by_cases c4 : x14_1 = true
     ·
      subst c4
      replace H := yt H
      by_cases c5 : 0 ≤ x5_1
      ·
       rw [if_pos c5] at H
       have c5b0 : decide (0 ≤ x5_1) = true := decide_eq_true c5
       clear c5
       by_cases c6 : x5_1 < (a0.size : Int)
       ·
        rw [if_pos c6] at H
        have c6b0 : decide (x5_1 < (a0.size : Int)) = true := decide_eq_true c6
        clear c6
        obtain ⟨ji8, hji8⟩ : ∃ j_ : Int, (wrap64 (7 * x5_1)) = j_ := ⟨_, rfl⟩
        replace H : (if 0 ≤ (ji8) then (if (bt a0 x5_1) ≥ 128 then (word_Long.l0 kj1 a0 (Go.bits .or .u64 x2_1 (shl .u64 (IntKind.u64.wrap (Go.bits .and .u8 (bt a0 x5_1) 127)) (ji8))) (wrap64 (x5_1 + 1))) else (if x5_1 > 0 then (if (bt a0 x5_1) = 0 then (word_Long.j2 kj1 (Go.bits .or .u64 x2_1 (shl .u64 (IntKind.u64.wrap (Go.bits .and .u8 (bt a0 x5_1) 127)) (ji8))) x5_1 true) else (if x5_1 = 9 then (word_Long.j2 kj1 (Go.bits .or .u64 x2_1 (shl .u64 (IntKind.u64.wrap (Go.bits .and .u8 (bt a0 x5_1) 127)) (ji8))) x5_1 (decide ((bt a0 x5_1) > 1))) else (word_Long.j2 kj1 (Go.bits .or .u64 x2_1 (shl .u64 (IntKind.u64.wrap (Go.bits .and .u8 (bt a0 x5_1) 127)) (ji8))) x5_1 false))) else (if x5_1 = 9 then (word_Long.j2 kj1 (Go.bits .or .u64 x2_1 (shl .u64 (IntKind.u64.wrap (Go.bits .and .u8 (bt a0 x5_1) 127)) (ji8))) x5_1 (decide ((bt a0 x5_1) > 1))) else (word_Long.j2 kj1 (Go.bits .or .u64 x2_1 (shl .u64 (IntKind.u64.wrap (Go.bits .and .u8 (bt a0 x5_1) 127)) (ji8))) x5_1 false)))) else (none)) = some (r1, r2, r3) := by first | (rw [hji8] at H; exact H) | (simp only [hji8] at H ⊢; exact H)
        have hji8w : (IntKind.i64.wrap (7 * x5_1)) = ji8 := (i64_w _).trans hji8
        by_cases c9 : 0 ≤ (ji8)
        ·
         rw [if_pos c9] at H
         have c9b0 := eq_true c9
         have c9b1 : decide (0 ≤ (ji8)) = true := decide_eq_true c9
         clear c9
         obtain ⟨ji10, hji10⟩ : ∃ j_ : Int, (shl .u64 (IntKind.u64.wrap (Go.bits .and .u8 (bt a0 x5_1) 127)) (ji8)) = j_ := ⟨_, rfl⟩
         replace H : (if (bt a0 x5_1) ≥ 128 then (word_Long.l0 kj1 a0 (Go.bits .or .u64 x2_1 (ji10)) (wrap64 (x5_1 + 1))) else (if x5_1 > 0 then (if (bt a0 x5_1) = 0 then (word_Long.j2 kj1 (Go.bits .or .u64 x2_1 (ji10)) x5_1 true) else (if x5_1 = 9 then (word_Long.j2 kj1 (Go.bits .or .u64 x2_1 (ji10)) x5_1 (decide ((bt a0 x5_1) > 1))) else (word_Long.j2 kj1 (Go.bits .or .u64 x2_1 (ji10)) x5_1 false))) else (if x5_1 = 9 then (word_Long.j2 kj1 (Go.bits .or .u64 x2_1 (ji10)) x5_1 (decide ((bt a0 x5_1) > 1))) else (word_Long.j2 kj1 (Go.bits .or .u64 x2_1 (ji10)) x5_1 false)))) = some (r1, r2, r3) := by first | (rw [hji10] at H; exact H) | (simp only [hji10] at H ⊢; exact H)
         have hji10_ : (IntKind.u64.wrap ((IntKind.u64.wrap (Go.bits .and .u8 (bt a0 x5_1) 127)) * 2 ^ min (ji8).toNat 64)) = ji10 := hji10
         have hji10z : (ji8) ≤ 64 → (IntKind.u64.wrap ((IntKind.u64.wrap (Go.bits .and .u8 (bt a0 x5_1) 127)) * 2 ^ (ji8).toNat)) = ji10 := shl_small hji10
         by_cases c11 : (bt a0 x5_1) ≥ 128
         ·
          rw [if_pos c11] at H
          have c11b0 : decide (128 ≤ (bt a0 x5_1)) = true := decide_eq_true c11
          clear c11
          have H' := aM H
          clear H
          have p7 : 0 ≤ (x5_1 : Int) := oD yA
          have q7 : x5_1 < (a0.size : Int) := oD yA
          have hx7 := bt_at a0 x5_1
          replace p7 := eq_true p7
          replace q7 := eq_true q7
          go_wp2
          go_roundg kj1
          case measure => have := HK1.out; have := HJ1.out; omega
          case rel => exact ⟨(Go.bits .or .u64 x2_1 (ji10)), (wrap64 (x5_1 + 1)), (by first | rfl | (simp; done) | (simp only [← hji10] <;> (first | rfl | simp)) | (simp [*]; done)), yS, H', ⟨by have := HK1.out; have := HJ1.out; omega⟩, yD⟩
         ·
          rw [if_neg c11] at H
          have c11b0 : decide (128 ≤ (bt a0 x5_1)) = false := decide_eq_false c11
          clear c11
          have HC12 := aM H
          clear H
          have p7 : 0 ≤ (x5_1 : Int) := oD yA
          have q7 : x5_1 < (a0.size : Int) := oD yA
          have hx7 := bt_at a0 x5_1
          replace p7 := eq_true p7
          replace q7 := eq_true q7
          go_upto_region 7 with (fail)
          go_cut [43] (fun v43 wc => ∃ (kq : Nat) (x43_11 : Bool), v43 = .bool x43_11 ∧ Aside0 (word_Long.j2 kq (Go.bits .or .u64 x2_1 (ji10)) x5_1 x43_11 = some (r1, r2, r3)) ∧ Aside0 (kq ≤ kj1) ∧ Drawn0 w wc)
          case first =>
           have H := HC12.out
           clear HC12
           by_cases c13 : x5_1 > 0
           ·
            rw [if_pos c13] at H
            have c13b0 : decide (0 < x5_1) = true := decide_eq_true c13
            clear c13
            (first | rw [c13b0] | (simp only [i64_w, i32_w]; rw [c13b0]) | skip)
            by_cases c14 : (bt a0 x5_1) = 0
            ·
             rw [if_pos c14] at H
             have c14b0 : ((bt a0 x5_1) == 0) = true := beq_iff_eq.mpr c14
             have c14b1 : ((bt a0 x5_1) != 0) = false := bne_eq_false_iff_eq.mpr c14
             clear c14
             have H' := aM H
             clear H
             go_wp2
             go_meet
             case rel => exact ⟨_, (true), yS, H', ⟨by have := HK1.out; have := HJ1.out; first | omega | exact Nat.le_refl _⟩, yD⟩
            ·
             rw [if_neg c14] at H
             have c14b0 : ((bt a0 x5_1) == 0) = false := beq_eq_false_iff_ne.mpr c14
             have c14b1 : ((bt a0 x5_1) != 0) = true := bne_iff_ne.mpr c14
             by_cases c15 : x5_1 = 9
             ·
              rw [if_pos c15] at H
              have c15b0 : (x5_1 == 9) = true := beq_iff_eq.mpr c15
              have c15b1 : (x5_1 != 9) = false := bne_eq_false_iff_eq.mpr c15
              clear c15
              have H' := aM H
              clear H
              go_wp2
              go_meet
              case rel => exact ⟨_, (decide ((bt a0 x5_1) > 1)), yS, H', ⟨by have := HK1.out; have := HJ1.out; first | omega | exact Nat.le_refl _⟩, yD⟩
             ·
              rw [if_neg c15] at H
              have c15b0 : (x5_1 == 9) = false := beq_eq_false_iff_ne.mpr c15
              have c15b1 : (x5_1 != 9) = true := bne_iff_ne.mpr c15
              have H' := aM H
              clear H
              go_wp2
              go_meet
              case rel => exact ⟨_, (false), yS, H', ⟨by have := HK1.out; have := HJ1.out; first | omega | exact Nat.le_refl _⟩, yD⟩
           ·
            rw [if_neg c13] at H
            have c13b0 : decide (0 < x5_1) = false := decide_eq_false c13
            clear c13
            (first | rw [c13b0] | (simp only [i64_w, i32_w]; rw [c13b0]) | skip)
            by_cases c16 : x5_1 = 9
            ·
             rw [if_pos c16] at H
             have c16b0 : (x5_1 == 9) = true := beq_iff_eq.mpr c16
             have c16b1 : (x5_1 != 9) = false := bne_eq_false_iff_eq.mpr c16
             clear c16
             have H' := aM H
             clear H
             go_wp2
             go_meet
             case rel => exact ⟨_, (decide ((bt a0 x5_1) > 1)), yS, H', ⟨by have := HK1.out; have := HJ1.out; first | omega | exact Nat.le_refl _⟩, yD⟩
            ·
             rw [if_neg c16] at H
             have c16b0 : (x5_1 == 9) = false := beq_eq_false_iff_ne.mpr c16
             have c16b1 : (x5_1 != 9) = true := bne_iff_ne.mpr c16
             have H' := aM H
             clear H
             go_wp2
             go_meet
             case rel => exact ⟨_, (false), yS, H', ⟨by have := HK1.out; have := HJ1.out; first | omega | exact Nat.le_refl _⟩, yD⟩
          case rest =>
           clear HC12
           try clear c4
           try clear c5
           try clear c5b0
           try clear c6
           try clear c6b0
           try clear p7
           try clear q7
           try clear hx7
           try clear c9
           try clear c9b0
           try clear c9b1
           try clear c11
           try clear c11b0
           try clear p7
           try clear q7
           obtain ⟨kq, x43_11, rfl, HA, HJ11, ⟨mc11, rfl⟩⟩ := hcut
           cases kq with
           | zero => exact absurd HA.out (by simp [word_Long.j2])
           | succ kj11 =>
            have H := HA.out
            clear HA
            simp only [word_Long.j2] at H
            by_cases c17 : x43_11 = true
            ·
             subst c17
             replace H := yt H
             simp only [Option.some.injEq, Prod.mk.injEq] at H
             obtain ⟨rfl, rfl, rfl⟩ := H
             go_wp2
             go_ret3
             exact ⟨by first | rfl | (simp; done) | (simp only [← hji8, ← hji10] <;> (first | rfl | simp)) | (simp [*]; done), yD⟩
            ·
             replace c17 := Bool.eq_false_iff.mpr c17
             subst c17
             replace H := yf H
             simp only [Option.some.injEq, Prod.mk.injEq] at H
             obtain ⟨rfl, rfl, rfl⟩ := H
             go_wp2
             go_ret3
             exact ⟨by first | rfl | (simp; done) | (simp only [← hji8, ← hji10] <;> (first | rfl | simp)) | (simp [*]; done), yD⟩
        ·
         rw [if_neg c9] at H
         exact absurd H (by simp)
       ·
        rw [if_neg c6] at H
        exact absurd H (by simp)
      ·
       rw [if_neg c5] at H
       exact absurd H (by simp)
     ·
      replace c4 := Bool.eq_false_iff.mpr c4
      subst c4
      replace H := yf H
      by_cases c18 : (a0.size : Int) < 10
      ·
       rw [if_pos c18] at H
       have c18b0 : decide ((a0.size : Int) < 10) = true := decide_eq_true c18
       have c18b1 : decide (a0.size < 10) = true := decide_eq_true (by omega)
       clear c18
       simp only [Option.some.injEq, Prod.mk.injEq] at H
       obtain ⟨rfl, rfl, rfl⟩ := H
       go_wp2
       go_ret3
       exact ⟨yS, yD⟩
      ·
       rw [if_neg c18] at H
       have c18b0 : decide ((a0.size : Int) < 10) = false := decide_eq_false c18
       have c18b1 : decide (a0.size < 10) = false := decide_eq_false (by omega)
       clear c18
       simp only [Option.some.injEq, Prod.mk.injEq] at H
       obtain ⟨rfl, rfl, rfl⟩ := H
       go_wp2
       go_ret3
       exact ⟨yS, yD⟩
/-! ### word_Zag: function 100 -/
def word_Zag.f (a0 : Int) : Option (Int) := some (Go.bits .xor .i64 (wrap64 (a0 / 2)) (wrap64 (-(wrap64 (Go.bits .and .u64 a0 1)))))
set_option maxHeartbeats 8000000 in
set_option maxRecDepth 100000 in
theorem word_Zag.calls (a0 : Int) (r : Int) (w : World) (h : word_Zag.f a0 = some r) :
  Calls Tryd.prog 100 #[.int .u64 a0] w fun e w' => e = .returned (.int .i64 r) ∧ Drawn0 w w' := by
 have H : (some (Go.bits .xor .i64 (wrap64 (a0 / 2)) (wrap64 (-(wrap64 (Go.bits .and .u64 a0 1)))))) = some r := h
 clear h
 obtain rfl := Option.some.inj H
 go_enter Tryd.func100, Tryd.ntmps100
 go_wp2
 go_ret
 exact ⟨yS, yD⟩
end Go.Proofs.YtdeophpjammbpaaDoor.HRowcodeKeys

/- For Go functions that RowcodeEncodes reaches: Lean functions, and walks that show that each call comes to what its Lean function tells; no condition but those that each theorem states. (Made by a program of this session over the kit's print.py.) -/
import Derived.Test.YtdeophpjammbpaaDoorHRowcodeEncodesx0
import Derived.Test.YtdeophpjammbpaaDoorHRowcodeEncodesx8
import Derived.Test.YtdeophpjammbpaaDoorHRowcodeEncodesx9
import Derived.Test.YtdeophpjammbpaaDoorHRowcodeEncodesx14
import Derived.Test.YtdeophpjammbpaaDoorHRowcodeEncodesx15
namespace Go.Proofs.YtdeophpjammbpaaDoor.HRowcodeEncodes
open Go.RowKit Go.Proofs.YtdeophpjammbpaaDoorW.PrintWords Go.Proofs.YtdeophpjammbpaaDoorW.PrintLast Go.Proofs.YtdeophpjammbpaaDoorW.PrintMore
attribute [local go_sem] max2_int min2_int max_two min_two max_three min_three max_four min_four   -- for this text's walks alone
set_option linter.unusedVariables false
set_option linter.unusedSimpArgs false
attribute [local go_sem] hp_s8 hp_s16 hp_s32 hp_s64 hp_m8 hp_m16 hp_m32 hp_m64
/-! ### haulageref12_Encode: function 18 -/
def haulageref12_Encode.l0 : Nat → List (S52) → ByteArray → Int → Option (ByteArray)
 | 0, _, _, _ => none
 | k + 1, x0, x3, x4 => if x4 < (x0.length : Int) then (if 0 ≤ x4 then (if ((rd_T52 x0 x4).f0) = 0 then (haulageref12_Encode.l0 k x0 x3 (wrap64 (x4 + 1))) else ((haulageref12_One.f k ((rd_T52 x0 x4).f0) ((rd_T52 x0 x4).f1) ((rd_T52 x0 x4).f2)).bind fun t303 => (if x3.size + t303.size ≤ 9223372036854775807 then (haulageref12_Encode.l0 k x0 (x3 ++ t303) (wrap64 (x4 + 1))) else (none)))) else (none)) else (some x3)
def haulageref12_Encode.f (k : Nat) (l0 : List (S52)) : Option (ByteArray) := (haulageref12_Map.f k l0).bind fun t300 => (haulageref12_Encode.l0 k l0 t300 0)
theorem haulageref12_Encode.mono_l : ∀ k, (∀ y0 y1 y2, LeO (haulageref12_Encode.l0 k y0 y1 y2) (haulageref12_Encode.l0 (k + 1) y0 y1 y2))
 | 0 => fun _ _ _ r h => by simp [haulageref12_Encode.l0] at h
 | k + 1 => by
  have ih0 := haulageref12_Encode.mono_l k
  ·
   intro y0 y1 y2
   unfold haulageref12_Encode.l0
   repeat' first
   | (with_reducible exact ih0 _ _ _)
   | (with_reducible exact haulageref12_Map.mono _ _)
   | (with_reducible exact haulageref12_One.mono _ _ _ _)
   | (with_reducible exact LeO.refl _)
   | (with_reducible exact LeO.none _)
   | (with_reducible refine LeO.ite ?_ ?_)
   | (with_reducible refine LeO.bind ?_ (fun _ => ?_))
   | exact ih0 _ _ _
   | exact haulageref12_Map.mono _ _
   | exact haulageref12_One.mono _ _ _ _
   | exact LeO.none _
   | refine LeO.ite ?_ ?_
   | refine LeO.bind ?_ (fun _ => ?_)
theorem haulageref12_Encode.mono : ∀ a0 k, LeO (haulageref12_Encode.f k a0) (haulageref12_Encode.f (k + 1) a0) := by
 intro a0 k
 have ih0 := haulageref12_Encode.mono_l k
 unfold haulageref12_Encode.f
 repeat' first
   | (with_reducible exact ih0 _ _ _)
   | (with_reducible exact haulageref12_Map.mono _ _)
   | (with_reducible exact haulageref12_One.mono _ _ _ _)
   | (with_reducible exact LeO.refl _)
   | (with_reducible exact LeO.none _)
   | (with_reducible refine LeO.ite ?_ ?_)
   | (with_reducible refine LeO.bind ?_ (fun _ => ?_))
   | exact ih0 _ _ _
   | exact haulageref12_Map.mono _ _
   | exact haulageref12_One.mono _ _ _ _
   | exact LeO.none _
   | refine LeO.ite ?_ ?_
   | refine LeO.bind ?_ (fun _ => ?_)
set_option maxHeartbeats 8000000 in
set_option maxRecDepth 100000 in
theorem haulageref12_Encode.calls (k : Nat) (A0 : Option Addr) (c0 : Nat) (l0 : List (S52)) (r : ByteArray) (w : World) (hr0 : Kd.C k52 w A0 l0.length l0) (hc0 : l0.length ≤ c0) (h : haulageref12_Encode.f k l0 = some r) :
  Calls Tryd.prog 18 #[.slice A0 l0.length c0] w fun e w' => e = .returned (.string r) ∧ Below w.heap.size w w' := by
 have hu52 := Tryd.underlying52
 have HR0 := aM hr0
 have HC0 := aM hc0
 clear hr0 hc0
 have HB := aM (Below.refl w.heap.size w)
 have H : ((haulageref12_Map.f k l0).bind fun t300 => (haulageref12_Encode.l0 k l0 t300 0)) = some r := h
 clear h
 replace H := Option.bind_eq_some_iff.mp H
 obtain ⟨t300, A20, H⟩ := H
 replace H : (haulageref12_Encode.l0 k l0 t300 0) = some r := H
 have A2 := aM A20
 clear A20
 have H' := aM H
 clear H
 go_enter Tryd.func18, Tryd.ntmps18
 go_wp2_with (first | ((with_reducible refine gate_callee (f := 62) rfl ?_); refine yC 6 Tryd.func62 #[.slice A0 l0.length c0] rfl ?_; (with_reducible refine (haulageref12_Map.calls k _ _ l0 t300 _ ?side1 ?side2 A2.out).mono ?_); (case side1 => repeat (first | exact HR0.out | (with_reducible refine Kd.C_alloc ?_ _) | (with_reducible refine Kd.C_drewN ?_ _) | (with_reducible refine Kd.C_drew ?_))); (case side2 => exact HC0.out); rintro e w3 ⟨rfl, hb⟩; refine ⟨_, rfl, ?_⟩; replace HB := aM (bP (yB HB) hb); (try clear hb)))
 go_loopg [3, 4] k (fun kq v3 v4 w' => ∃ (x3_1 : ByteArray) (x4_1 : Int), v3 = .string x3_1 ∧ v4 = .int .i64 x4_1 ∧ Aside0 (haulageref12_Encode.l0 kq l0 x3_1 x4_1 = some r) ∧ Aside0 (kq ≤ k) ∧ Aside0 (Below w.heap.size w w'))
 case atStart => exact ⟨(t300), (0), yS, yS, H', ⟨Nat.le_refl _⟩, ⟨yB HB⟩⟩
 case round =>
  clear H'
  try clear c1
  try clear p2
  obtain ⟨x3_1, x4_1, rfl, rfl, HA, HK1, HB⟩ := hrel
  cases gk with
  | zero => exact absurd HA.out (by simp [haulageref12_Encode.l0])
  | succ k1 =>
   have H := HA.out
   clear HA
   simp only [haulageref12_Encode.l0] at H
   by_cases c4 : x4_1 < (l0.length : Int)
   ·
    rw [if_pos c4] at H
    have c4b0 : decide (x4_1 < (l0.length : Int)) = true := decide_eq_true c4
    clear c4
    by_cases c5 : 0 ≤ x4_1
    ·
     rw [if_pos c5] at H
     have c5b0 : decide (0 ≤ x4_1) = true := decide_eq_true c5
     clear c5
     by_cases c6 : ((rd_T52 l0 x4_1).f0) = 0
     ·
      rw [if_pos c6] at H
      have c6b0 : (((rd_T52 l0 x4_1).f0) == 0) = true := beq_iff_eq.mpr c6
      have c6b1 : (((rd_T52 l0 x4_1).f0) != 0) = false := bne_eq_false_iff_eq.mpr c6
      clear c6
      have H' := aM H
      clear H
      have p301 : 0 ≤ (x4_1 : Int) := oD yA
      have q301 : x4_1 < (l0.length : Int) := oD yA
      obtain ⟨ad301, e301, hx301_0, hx301_1, hx301_2⟩ := at_T52 HR0.out x4_1 p301 q301
      cases e301
      replace hx301_0 := pw_cell_below HB.out hx301_0
      replace hx301_1 := pw_cell_below HB.out hx301_1
      replace hx301_2 := pw_cell_below HB.out hx301_2
      replace p301 := eq_true p301
      replace q301 := eq_true q301
      go_wp2
      go_roundg k1
      case measure => have := HK1.out; omega
      case rel => exact ⟨(x3_1), (wrap64 (x4_1 + 1)), yS, yS, H', ⟨by have := HK1.out; omega⟩, ⟨yB HB⟩⟩
     ·
      rw [if_neg c6] at H
      have c6b0 : (((rd_T52 l0 x4_1).f0) == 0) = false := beq_eq_false_iff_ne.mpr c6
      have c6b1 : (((rd_T52 l0 x4_1).f0) != 0) = true := bne_iff_ne.mpr c6
      replace H := Option.bind_eq_some_iff.mp H
      obtain ⟨t303, A70, H⟩ := H
      replace H : (if x3_1.size + t303.size ≤ 9223372036854775807 then (haulageref12_Encode.l0 k1 l0 (x3_1 ++ t303) (wrap64 (x4_1 + 1))) else (none)) = some r := H
      have A7 := aM A70
      clear A70
      by_cases c8 : x3_1.size + t303.size ≤ 9223372036854775807
      ·
       rw [if_pos c8] at H
       have c8b0 := eq_true c8
       have c8b1 : decide (x3_1.size + t303.size ≤ 9223372036854775807) = true := decide_eq_true c8
       try have c8b2 : (9223372036854775807 < x3_1.size + t303.size) = False := eq_false (Nat.not_lt.2 c8)
       have H' := aM H
       clear H
       have p301 : 0 ≤ (x4_1 : Int) := oD yA
       have q301 : x4_1 < (l0.length : Int) := oD yA
       obtain ⟨ad301, e301, hx301_0, hx301_1, hx301_2⟩ := at_T52 HR0.out x4_1 p301 q301
       cases e301
       replace hx301_0 := pw_cell_below HB.out hx301_0
       replace hx301_1 := pw_cell_below HB.out hx301_1
       replace hx301_2 := pw_cell_below HB.out hx301_2
       replace p301 := eq_true p301
       replace q301 := eq_true q301
       have p302 : 0 ≤ (x4_1 : Int) := oD yA
       have q302 : x4_1 < (l0.length : Int) := oD yA
       obtain ⟨ad302, e302, hx302_0, hx302_1, hx302_2⟩ := at_T52 HR0.out x4_1 p302 q302
       obtain rfl : ad301 = ad302 := (by injection e302)
       replace hx302_0 := pw_cell_below HB.out hx302_0
       replace hx302_1 := pw_cell_below HB.out hx302_1
       replace hx302_2 := pw_cell_below HB.out hx302_2
       replace p302 := eq_true p302
       replace q302 := eq_true q302
       go_wp2_with (first | ((with_reducible refine gate_callee (f := 58) rfl ?_); refine yC 24 Tryd.func58 #[.agg #[.int .i64 ((rd_T52 l0 x4_1).f0), .int .i64 ((rd_T52 l0 x4_1).f1), .string ((rd_T52 l0 x4_1).f2)]] rfl ?_; (with_reducible refine (haulageref12_One.calls k1 ((rd_T52 l0 x4_1).f0) ((rd_T52 l0 x4_1).f1) ((rd_T52 l0 x4_1).f2) t303 _ A7.out).mono ?_); rintro e w9 ⟨rfl, hb⟩; refine ⟨_, rfl, ?_⟩; replace HB := aM (bP (yB HB) hb); (try clear hb)))
       go_roundg k1
       case measure => have := HK1.out; omega
       case rel => exact ⟨(x3_1 ++ t303), (wrap64 (x4_1 + 1)), yS, yS, H', ⟨by have := HK1.out; omega⟩, ⟨yB HB⟩⟩
      ·
       rw [if_neg c8] at H
       exact absurd H (by simp)
    ·
     rw [if_neg c5] at H
     exact absurd H (by simp)
   ·
    rw [if_neg c4] at H
    have c4b0 : decide (x4_1 < (l0.length : Int)) = false := decide_eq_false c4
    clear c4
    obtain rfl := Option.some.inj H
    go_wp2
    go_ret
    exact ⟨yE, yB HB⟩
/-! ### haulagelaw12_RowcodeEncodes: function 3 -/
def haulagelaw12_RowcodeEncodes.j0 : Nat → List (S52) → Bool → Int → ByteArray → Int → Int → List (S54) → Option (Bool)
 | 0, _, _, _, _, _, _, _ => none
 | k + 1, x1, x17, x305000, x305001, x305002, x305003, x305004 => if x17 = true then (some true) else ((rowcode_Encode.f k x305000 x305001 x305002 x305003 x305004 x1).bind fun bt308 => ((haulageref08_Row.f k x305000 x305001 x305002 x305003 x305004 x1).bind fun t310 => (if t310 = 0 then ((haulageref12_Encode.f k x1).bind fun t311 => (if bt308.1.toList = t311.toList then (some (bt308.2 == 0)) else (some false))) else (if bt308.1.toList = ([] : List UInt8) then (some (bt308.2 == t310)) else (some false)))))
def haulagelaw12_RowcodeEncodes.f (k : Nat) (a0_0 : Int) (a0_1 : ByteArray) (a0_2 : Int) (a0_3 : Int) (l0_4 : List (S54)) (l1 : List (S52)) : Option (Bool) := (haulagelaw12_lives.f k).bind fun t305 => (if t305 = true then ((haulagelaw08_Few.f k a0_0 a0_1 a0_2 a0_3 l0_4).bind fun t306 => (if t306 = true then ((haulagelaw08_FewValues.f k l1).bind fun t307 => (haulagelaw12_RowcodeEncodes.j0 k l1 (!t307) a0_0 a0_1 a0_2 a0_3 l0_4)) else (haulagelaw12_RowcodeEncodes.j0 k l1 true a0_0 a0_1 a0_2 a0_3 l0_4))) else (some false))
theorem haulagelaw12_RowcodeEncodes.mono_l : ∀ k, (∀ y0 y1 y2 y3 y4 y5 y6, LeO (haulagelaw12_RowcodeEncodes.j0 k y0 y1 y2 y3 y4 y5 y6) (haulagelaw12_RowcodeEncodes.j0 (k + 1) y0 y1 y2 y3 y4 y5 y6))
 | 0 => fun _ _ _ _ _ _ _ r h => by simp [haulagelaw12_RowcodeEncodes.j0] at h
 | k + 1 => by
  have ih0 := haulagelaw12_RowcodeEncodes.mono_l k
  ·
   intro y0 y1 y2 y3 y4 y5 y6
   unfold haulagelaw12_RowcodeEncodes.j0
   repeat' first
   | (with_reducible exact ih0 _ _ _ _ _ _ _)
   | (with_reducible exact haulagelaw08_Few.mono _ _ _ _ _ _)
   | (with_reducible exact haulagelaw08_FewValues.mono _ _)
   | (with_reducible exact haulagelaw12_lives.mono _)
   | (with_reducible exact haulageref08_Row.mono _ _ _ _ _ _ _)
   | (with_reducible exact haulageref12_Encode.mono _ _)
   | (with_reducible exact rowcode_Encode.mono _ _ _ _ _ _ _)
   | (with_reducible exact LeO.refl _)
   | (with_reducible exact LeO.none _)
   | (with_reducible refine LeO.ite ?_ ?_)
   | (with_reducible refine LeO.bind ?_ (fun _ => ?_))
   | exact ih0 _ _ _ _ _ _ _
   | exact haulagelaw08_Few.mono _ _ _ _ _ _
   | exact haulagelaw08_FewValues.mono _ _
   | exact haulagelaw12_lives.mono _
   | exact haulageref08_Row.mono _ _ _ _ _ _ _
   | exact haulageref12_Encode.mono _ _
   | exact rowcode_Encode.mono _ _ _ _ _ _ _
   | exact LeO.none _
   | refine LeO.ite ?_ ?_
   | refine LeO.bind ?_ (fun _ => ?_)
theorem haulagelaw12_RowcodeEncodes.mono : ∀ a0 a1 a2 a3 a4 a5 k, LeO (haulagelaw12_RowcodeEncodes.f k a0 a1 a2 a3 a4 a5) (haulagelaw12_RowcodeEncodes.f (k + 1) a0 a1 a2 a3 a4 a5) := by
 intro a0 a1 a2 a3 a4 a5 k
 have ih0 := haulagelaw12_RowcodeEncodes.mono_l k
 unfold haulagelaw12_RowcodeEncodes.f
 repeat' first
   | (with_reducible exact ih0 _ _ _ _ _ _ _)
   | (with_reducible exact haulagelaw08_Few.mono _ _ _ _ _ _)
   | (with_reducible exact haulagelaw08_FewValues.mono _ _)
   | (with_reducible exact haulagelaw12_lives.mono _)
   | (with_reducible exact haulageref08_Row.mono _ _ _ _ _ _ _)
   | (with_reducible exact haulageref12_Encode.mono _ _)
   | (with_reducible exact rowcode_Encode.mono _ _ _ _ _ _ _)
   | (with_reducible exact LeO.refl _)
   | (with_reducible exact LeO.none _)
   | (with_reducible refine LeO.ite ?_ ?_)
   | (with_reducible refine LeO.bind ?_ (fun _ => ?_))
   | exact ih0 _ _ _ _ _ _ _
   | exact haulagelaw08_Few.mono _ _ _ _ _ _
   | exact haulagelaw08_FewValues.mono _ _
   | exact haulagelaw12_lives.mono _
   | exact haulageref08_Row.mono _ _ _ _ _ _ _
   | exact haulageref12_Encode.mono _ _
   | exact rowcode_Encode.mono _ _ _ _ _ _ _
   | exact LeO.none _
   | refine LeO.ite ?_ ?_
   | refine LeO.bind ?_ (fun _ => ?_)
set_option maxHeartbeats 8000000 in
set_option maxRecDepth 100000 in
theorem haulagelaw12_RowcodeEncodes.calls (k : Nat) (a0_0 : Int) (a0_1 : ByteArray) (a0_2 : Int) (a0_3 : Int) (A0_4 : Option Addr) (c0_4 : Nat) (l0_4 : List (S54)) (A1 : Option Addr) (c1 : Nat) (l1 : List (S52)) (r : Bool) (w : World) (hr0_4 : Kd.C k54 w A0_4 l0_4.length l0_4) (hc0_4 : l0_4.length ≤ c0_4) (hr1 : Kd.C k52 w A1 l1.length l1) (hc1 : l1.length ≤ c1) (hG : Glob w) (h : haulagelaw12_RowcodeEncodes.f k a0_0 a0_1 a0_2 a0_3 l0_4 l1 = some r) :
  Calls Tryd.prog 3 #[.agg #[.int .i64 a0_0, .string a0_1, .int .i64 a0_2, .int .i64 a0_3, .slice A0_4 l0_4.length c0_4], .slice A1 l1.length c1] w fun e w' => e = .returned (.bool r) ∧ Below w.heap.size w w' := by
 have hu24 := Tryd.underlying24
 have HR0_4 := aM hr0_4
 have HC0_4 := aM hc0_4
 clear hr0_4 hc0_4
 have HR1 := aM hr1
 have HC1 := aM hc1
 clear hr1 hc1
 have HG := aM hG
 clear hG
 have HB := aM (Below.refl w.heap.size w)
 have H : ((haulagelaw12_lives.f k).bind fun t305 => (if t305 = true then ((haulagelaw08_Few.f k a0_0 a0_1 a0_2 a0_3 l0_4).bind fun t306 => (if t306 = true then ((haulagelaw08_FewValues.f k l1).bind fun t307 => (haulagelaw12_RowcodeEncodes.j0 k l1 (!t307) a0_0 a0_1 a0_2 a0_3 l0_4)) else (haulagelaw12_RowcodeEncodes.j0 k l1 true a0_0 a0_1 a0_2 a0_3 l0_4))) else (some false))) = some r := h
 clear h
 replace H := Option.bind_eq_some_iff.mp H
 obtain ⟨t305, A30, H⟩ := H
 replace H : (if t305 = true then ((haulagelaw08_Few.f k a0_0 a0_1 a0_2 a0_3 l0_4).bind fun t306 => (if t306 = true then ((haulagelaw08_FewValues.f k l1).bind fun t307 => (haulagelaw12_RowcodeEncodes.j0 k l1 (!t307) a0_0 a0_1 a0_2 a0_3 l0_4)) else (haulagelaw12_RowcodeEncodes.j0 k l1 true a0_0 a0_1 a0_2 a0_3 l0_4))) else (some false)) = some r := H
 have A3 := aM A30
 clear A30
 by_cases c4 : t305 = true
 ·
  subst c4
  have H1 : ((haulagelaw08_Few.f k a0_0 a0_1 a0_2 a0_3 l0_4).bind fun t306 => (if t306 = true then ((haulagelaw08_FewValues.f k l1).bind fun t307 => (haulagelaw12_RowcodeEncodes.j0 k l1 (!t307) a0_0 a0_1 a0_2 a0_3 l0_4)) else (haulagelaw12_RowcodeEncodes.j0 k l1 true a0_0 a0_1 a0_2 a0_3 l0_4))) = some r := by rw [if_pos rfl] at H; exact H
  clear H
  have H := H1
  clear H1
  have HC5 := aM H
  clear H
  go_enter Tryd.func3, Tryd.ntmps3
  go_upto_region 3 with (first | ((with_reducible refine gate_dst (N := 2) rfl ?_); refine yX (N := 2) (cs := #[.int .i64 a0_0, .string a0_1, .int .i64 a0_2, .int .i64 a0_3, .slice A0_4 l0_4.length c0_4]) (t := 24) ?_; intro gb304 hg w6 hbox hb; have BK304 := aM (hbox); have GW304 := yZ hg (yB HB); have GE304 := yZ hg (yB HB); replace HB := aM (bP (yB HB) hb); clear hb hbox hg) | ((with_reducible refine gate_callee (f := 13) rfl ?_); refine yC 8 Tryd.func13 #[] rfl ?_; (with_reducible refine (haulagelaw12_lives.calls k  true _ ?side1 A3.out).mono ?_); (case side1 => first | (with_reducible exact HG.out) | exact Glob.below HG.out (yG1 HB GE304.out)); rintro e w7 ⟨rfl, hb⟩; refine ⟨_, rfl, ?_⟩; replace BK304 := aM (kB (yK BK304) hb); replace HB := aM (bP (yG1 HB GE304.out) hb); (try clear hb)))
  (try simp only [Act.put, s1_, s2_, s3_])
  go_cut [17] (fun v17 wc => ∃ (kq : Nat) (x17_4 : Bool), v17 = .bool x17_4 ∧ Aside0 (haulagelaw12_RowcodeEncodes.j0 kq l1 x17_4 a0_0 a0_1 a0_2 a0_3 l0_4 = some r) ∧ Aside0 (kq ≤ k) ∧ Aside0 (wc.heap[gb304]? = some (.cells #[.int .i64 a0_0, .string a0_1, .int .i64 a0_2, .int .i64 a0_3, (.slice A0_4 l0_4.length c0_4)] 24 (0, 0))) ∧ Aside0 (Below w.heap.size w wc))
  case first =>
   have H := HC5.out
   clear HC5
   replace H := Option.bind_eq_some_iff.mp H
   obtain ⟨t306, A80, H⟩ := H
   replace H : (if t306 = true then ((haulagelaw08_FewValues.f k l1).bind fun t307 => (haulagelaw12_RowcodeEncodes.j0 k l1 (!t307) a0_0 a0_1 a0_2 a0_3 l0_4)) else (haulagelaw12_RowcodeEncodes.j0 k l1 true a0_0 a0_1 a0_2 a0_3 l0_4)) = some r := H
   have A8 := aM A80
   clear A80
   by_cases c9 : t306 = true
   ·
    subst c9
    have H1 : ((haulagelaw08_FewValues.f k l1).bind fun t307 => (haulagelaw12_RowcodeEncodes.j0 k l1 (!t307) a0_0 a0_1 a0_2 a0_3 l0_4)) = some r := by rw [if_pos rfl] at H; exact H
    clear H
    have H := H1
    clear H1
    replace H := Option.bind_eq_some_iff.mp H
    obtain ⟨t307, A100, H⟩ := H
    replace H : (haulagelaw12_RowcodeEncodes.j0 k l1 (!t307) a0_0 a0_1 a0_2 a0_3 l0_4) = some r := H
    have A10 := aM A100
    clear A100
    have H' := aM H
    clear H
    obtain ⟨hcz11_0, hcz11_1, hcz11_2, hcz11_3, hcz11_4, hfz11_0, hfz11_1, hfz11_2, hfz11_3, hfz11_4⟩ := cells5 BK304.out
    go_wp2_with (first | ((with_reducible refine gate_callee (f := 14) rfl ?_); refine yC 11 Tryd.func14 #[.agg #[.int .i64 a0_0, .string a0_1, .int .i64 a0_2, .int .i64 a0_3, .slice A0_4 l0_4.length c0_4]] rfl ?_; (with_reducible refine (haulagelaw08_Few.calls k a0_0 a0_1 a0_2 a0_3 _ _ l0_4 true _ ?side1 ?side2 A8.out).mono ?_); (case side1 => exact yW (Kd.C_below HR0_4.out HB.out)); (case side2 => exact HC0_4.out); rintro e w12 ⟨rfl, hb⟩; refine ⟨_, rfl, ?_⟩; replace BK304 := aM (kB (yK BK304) hb); replace HB := aM (bP (yG1 HB GE304.out) hb); (try clear hb)) | (go_at_call 15; (with_reducible refine (haulagelaw08_FewValues.calls k _ _ l1 t307 _ ?side1 ?side2 A10.out).mono ?_); (case side1 => exact yW (Kd.C_below HR1.out HB.out)); (case side2 => exact HC1.out); rintro e w' ⟨rfl, ⟨nd, rfl⟩⟩))
    go_meet
    case rel => exact ⟨_, (!t307), yS, H', ⟨yO⟩, ⟨yK BK304⟩, ⟨yG1 HB GE304.out⟩⟩
   ·
    replace c9 := Bool.eq_false_iff.mpr c9
    subst c9
    have H1 : (haulagelaw12_RowcodeEncodes.j0 k l1 true a0_0 a0_1 a0_2 a0_3 l0_4) = some r := by rw [if_neg (show ¬ (false = true) by decide)] at H; exact H
    clear H
    have H := H1
    clear H1
    have H' := aM H
    clear H
    obtain ⟨hcz13_0, hcz13_1, hcz13_2, hcz13_3, hcz13_4, hfz13_0, hfz13_1, hfz13_2, hfz13_3, hfz13_4⟩ := cells5 BK304.out
    go_wp2_with (first | ((with_reducible refine gate_callee (f := 14) rfl ?_); refine yC 11 Tryd.func14 #[.agg #[.int .i64 a0_0, .string a0_1, .int .i64 a0_2, .int .i64 a0_3, .slice A0_4 l0_4.length c0_4]] rfl ?_; (with_reducible refine (haulagelaw08_Few.calls k a0_0 a0_1 a0_2 a0_3 _ _ l0_4 false _ ?side1 ?side2 A8.out).mono ?_); (case side1 => exact yW (Kd.C_below HR0_4.out HB.out)); (case side2 => exact HC0_4.out); rintro e w14 ⟨rfl, hb⟩; refine ⟨_, rfl, ?_⟩; replace BK304 := aM (kB (yK BK304) hb); replace HB := aM (bP (yG1 HB GE304.out) hb); (try clear hb)))
    go_meet
    case rel => exact ⟨_, (true), yS, H', ⟨yO⟩, ⟨yK BK304⟩, ⟨yG1 HB GE304.out⟩⟩
  case rest =>
   clear HC5
   try clear c1
   try clear p2
   try clear c3
   try clear c4
   try clear c9
   try clear c13
   try clear c14
   try clear hcz11_0 hcz11_1 hcz11_2 hcz11_3 hcz11_4
   try clear hcz13_0 hcz13_1 hcz13_2 hcz13_3 hcz13_4
   try clear hfz11_0 hfz11_1 hfz11_2 hfz11_3 hfz11_4
   try clear hfz13_0 hfz13_1 hfz13_2 hfz13_3 hfz13_4
   obtain ⟨kq, x17_4, rfl, HA, HJ4, BK304, HB⟩ := hcut
   cases kq with
   | zero => exact absurd HA.out (by simp [haulagelaw12_RowcodeEncodes.j0])
   | succ kj4 =>
    have H := HA.out
    clear HA
    simp only [haulagelaw12_RowcodeEncodes.j0] at H
    by_cases c15 : x17_4 = true
    ·
     subst c15
     have H1 : (some true) = some r := by rw [if_pos rfl] at H; exact H
     clear H
     have H := H1
     clear H1
     obtain rfl := Option.some.inj H
     go_wp2
     go_ret
     exact ⟨yE, yG1 HB GE304.out⟩
    ·
     replace c15 := Bool.eq_false_iff.mpr c15
     subst c15
     have H1 : ((rowcode_Encode.f kj4 a0_0 a0_1 a0_2 a0_3 l0_4 l1).bind fun bt308 => ((haulageref08_Row.f kj4 a0_0 a0_1 a0_2 a0_3 l0_4 l1).bind fun t310 => (if t310 = 0 then ((haulageref12_Encode.f kj4 l1).bind fun t311 => (if bt308.1.toList = t311.toList then (some (bt308.2 == 0)) else (some false))) else (if bt308.1.toList = ([] : List UInt8) then (some (bt308.2 == t310)) else (some false))))) = some r := by rw [if_neg (show ¬ (false = true) by decide)] at H; exact H
     clear H
     have H := H1
     clear H1
     replace H := Option.bind_eq_some_iff.mp H
     obtain ⟨⟨t308, t309⟩, A160, H⟩ := H
     replace H : ((haulageref08_Row.f kj4 a0_0 a0_1 a0_2 a0_3 l0_4 l1).bind fun t310 => (if t310 = 0 then ((haulageref12_Encode.f kj4 l1).bind fun t311 => (if t308.toList = t311.toList then (some (t309 == 0)) else (some false))) else (if t308.toList = ([] : List UInt8) then (some (t309 == t310)) else (some false)))) = some r := H
     have A16 := aM A160
     clear A160
     replace H := Option.bind_eq_some_iff.mp H
     obtain ⟨t310, A170, H⟩ := H
     replace H : (if t310 = 0 then ((haulageref12_Encode.f kj4 l1).bind fun t311 => (if t308.toList = t311.toList then (some (t309 == 0)) else (some false))) else (if t308.toList = ([] : List UInt8) then (some (t309 == t310)) else (some false))) = some r := H
     have A17 := aM A170
     clear A170
     by_cases c18 : t310 = 0
     ·
      rw [if_pos c18] at H
      have c18b0 : (t310 == 0) = true := beq_iff_eq.mpr c18
      have c18b1 : (t310 != 0) = false := bne_eq_false_iff_eq.mpr c18
      clear c18
      replace H := Option.bind_eq_some_iff.mp H
      obtain ⟨t311, A190, H⟩ := H
      replace H : (if t308.toList = t311.toList then (some (t309 == 0)) else (some false)) = some r := H
      have A19 := aM A190
      clear A190
      by_cases c20 : t308.toList = t311.toList
      ·
       rw [if_pos c20] at H
       have c20b0 : (t308.toList == t311.toList) = true := beq_iff_eq.mpr c20
       have c20b1 : (t308.toList != t311.toList) = false := bne_eq_false_iff_eq.mpr c20
       clear c20
       obtain rfl := Option.some.inj H
       obtain ⟨hcz21_0, hcz21_1, hcz21_2, hcz21_3, hcz21_4, hfz21_0, hfz21_1, hfz21_2, hfz21_3, hfz21_4⟩ := cells5 BK304.out
       go_wp2_with (first | ((with_reducible refine gate_callee (f := 16) rfl ?_); refine yC 21 Tryd.func16 #[.agg #[.int .i64 a0_0, .string a0_1, .int .i64 a0_2, .int .i64 a0_3, .slice A0_4 l0_4.length c0_4], .slice A1 l1.length c1] rfl ?_; (with_reducible refine (rowcode_Encode.calls kj4 a0_0 a0_1 a0_2 a0_3 _ _ l0_4 _ _ l1 t308 t309 _ ?side1 ?side2 ?side3 ?side4 ?side5 A16.out).mono ?_); (case side1 => exact yW (Kd.C_below HR0_4.out HB.out)); (case side2 => exact HC0_4.out); (case side3 => exact yW (Kd.C_below HR1.out HB.out)); (case side4 => exact HC1.out); (case side5 => first | (with_reducible exact HG.out) | exact Glob.below HG.out (yG1 HB GE304.out)); rintro e w22 ⟨rfl, hb⟩; refine ⟨_, rfl, ?_⟩; replace BK304 := aM (kB (yK BK304) hb); replace HB := aM (bP (yG1 HB GE304.out) hb); (try clear hb); obtain ⟨hcz23_0, hcz23_1, hcz23_2, hcz23_3, hcz23_4, hfz23_0, hfz23_1, hfz23_2, hfz23_3, hfz23_4⟩ := cells5 BK304.out) | ((with_reducible refine gate_callee (f := 17) rfl ?_); refine yC 26 Tryd.func17 #[.agg #[.int .i64 a0_0, .string a0_1, .int .i64 a0_2, .int .i64 a0_3, .slice A0_4 l0_4.length c0_4], .slice A1 l1.length c1] rfl ?_; (with_reducible refine (haulageref08_Row.calls kj4 a0_0 a0_1 a0_2 a0_3 _ _ l0_4 _ _ l1 t310 _ ?side1 ?side2 ?side3 ?side4 A17.out).mono ?_); (case side1 => exact yW (Kd.C_below HR0_4.out HB.out)); (case side2 => exact HC0_4.out); (case side3 => exact yW (Kd.C_below HR1.out HB.out)); (case side4 => exact HC1.out); rintro e w24 ⟨rfl, hb⟩; refine ⟨_, rfl, ?_⟩; replace BK304 := aM (kB (yK BK304) hb); replace HB := aM (bP (yG1 HB GE304.out) hb); (try clear hb)) | ((with_reducible refine gate_callee (f := 18) rfl ?_); refine yC 38 Tryd.func18 #[.slice A1 l1.length c1] rfl ?_; (with_reducible refine (haulageref12_Encode.calls kj4 _ _ l1 t311 _ ?side1 ?side2 A19.out).mono ?_); (case side1 => exact yW (Kd.C_below HR1.out HB.out)); (case side2 => exact HC1.out); rintro e w25 ⟨rfl, hb⟩; refine ⟨_, rfl, ?_⟩; replace BK304 := aM (kB (yK BK304) hb); replace HB := aM (bP (yG1 HB GE304.out) hb); (try clear hb)))
       go_ret
       exact ⟨yE, yG1 HB GE304.out⟩
      ·
       rw [if_neg c20] at H
       have c20b0 : (t308.toList == t311.toList) = false := beq_eq_false_iff_ne.mpr c20
       have c20b1 : (t308.toList != t311.toList) = true := bne_iff_ne.mpr c20
       obtain rfl := Option.some.inj H
       obtain ⟨hcz26_0, hcz26_1, hcz26_2, hcz26_3, hcz26_4, hfz26_0, hfz26_1, hfz26_2, hfz26_3, hfz26_4⟩ := cells5 BK304.out
       go_wp2_with (first | ((with_reducible refine gate_callee (f := 16) rfl ?_); refine yC 21 Tryd.func16 #[.agg #[.int .i64 a0_0, .string a0_1, .int .i64 a0_2, .int .i64 a0_3, .slice A0_4 l0_4.length c0_4], .slice A1 l1.length c1] rfl ?_; (with_reducible refine (rowcode_Encode.calls kj4 a0_0 a0_1 a0_2 a0_3 _ _ l0_4 _ _ l1 t308 t309 _ ?side1 ?side2 ?side3 ?side4 ?side5 A16.out).mono ?_); (case side1 => exact yW (Kd.C_below HR0_4.out HB.out)); (case side2 => exact HC0_4.out); (case side3 => exact yW (Kd.C_below HR1.out HB.out)); (case side4 => exact HC1.out); (case side5 => first | (with_reducible exact HG.out) | exact Glob.below HG.out (yG1 HB GE304.out)); rintro e w27 ⟨rfl, hb⟩; refine ⟨_, rfl, ?_⟩; replace BK304 := aM (kB (yK BK304) hb); replace HB := aM (bP (yG1 HB GE304.out) hb); (try clear hb); obtain ⟨hcz28_0, hcz28_1, hcz28_2, hcz28_3, hcz28_4, hfz28_0, hfz28_1, hfz28_2, hfz28_3, hfz28_4⟩ := cells5 BK304.out) | ((with_reducible refine gate_callee (f := 17) rfl ?_); refine yC 26 Tryd.func17 #[.agg #[.int .i64 a0_0, .string a0_1, .int .i64 a0_2, .int .i64 a0_3, .slice A0_4 l0_4.length c0_4], .slice A1 l1.length c1] rfl ?_; (with_reducible refine (haulageref08_Row.calls kj4 a0_0 a0_1 a0_2 a0_3 _ _ l0_4 _ _ l1 t310 _ ?side1 ?side2 ?side3 ?side4 A17.out).mono ?_); (case side1 => exact yW (Kd.C_below HR0_4.out HB.out)); (case side2 => exact HC0_4.out); (case side3 => exact yW (Kd.C_below HR1.out HB.out)); (case side4 => exact HC1.out); rintro e w29 ⟨rfl, hb⟩; refine ⟨_, rfl, ?_⟩; replace BK304 := aM (kB (yK BK304) hb); replace HB := aM (bP (yG1 HB GE304.out) hb); (try clear hb)) | ((with_reducible refine gate_callee (f := 18) rfl ?_); refine yC 38 Tryd.func18 #[.slice A1 l1.length c1] rfl ?_; (with_reducible refine (haulageref12_Encode.calls kj4 _ _ l1 t311 _ ?side1 ?side2 A19.out).mono ?_); (case side1 => exact yW (Kd.C_below HR1.out HB.out)); (case side2 => exact HC1.out); rintro e w30 ⟨rfl, hb⟩; refine ⟨_, rfl, ?_⟩; replace BK304 := aM (kB (yK BK304) hb); replace HB := aM (bP (yG1 HB GE304.out) hb); (try clear hb)))
       go_ret
       exact ⟨yE, yG1 HB GE304.out⟩
     ·
      rw [if_neg c18] at H
      have c18b0 : (t310 == 0) = false := beq_eq_false_iff_ne.mpr c18
      have c18b1 : (t310 != 0) = true := bne_iff_ne.mpr c18
      by_cases c31 : t308.toList = ([] : List UInt8)
      ·
       rw [if_pos c31] at H
       have c31b0 : (t308.toList == ([] : List UInt8)) = true := beq_iff_eq.mpr c31
       have c31b1 : (t308.toList != ([] : List UInt8)) = false := bne_eq_false_iff_eq.mpr c31
       clear c31
       obtain rfl := Option.some.inj H
       obtain ⟨hcz32_0, hcz32_1, hcz32_2, hcz32_3, hcz32_4, hfz32_0, hfz32_1, hfz32_2, hfz32_3, hfz32_4⟩ := cells5 BK304.out
       go_wp2_with (first | ((with_reducible refine gate_callee (f := 16) rfl ?_); refine yC 21 Tryd.func16 #[.agg #[.int .i64 a0_0, .string a0_1, .int .i64 a0_2, .int .i64 a0_3, .slice A0_4 l0_4.length c0_4], .slice A1 l1.length c1] rfl ?_; (with_reducible refine (rowcode_Encode.calls kj4 a0_0 a0_1 a0_2 a0_3 _ _ l0_4 _ _ l1 t308 t309 _ ?side1 ?side2 ?side3 ?side4 ?side5 A16.out).mono ?_); (case side1 => exact yW (Kd.C_below HR0_4.out HB.out)); (case side2 => exact HC0_4.out); (case side3 => exact yW (Kd.C_below HR1.out HB.out)); (case side4 => exact HC1.out); (case side5 => first | (with_reducible exact HG.out) | exact Glob.below HG.out (yG1 HB GE304.out)); rintro e w33 ⟨rfl, hb⟩; refine ⟨_, rfl, ?_⟩; replace BK304 := aM (kB (yK BK304) hb); replace HB := aM (bP (yG1 HB GE304.out) hb); (try clear hb); obtain ⟨hcz34_0, hcz34_1, hcz34_2, hcz34_3, hcz34_4, hfz34_0, hfz34_1, hfz34_2, hfz34_3, hfz34_4⟩ := cells5 BK304.out) | ((with_reducible refine gate_callee (f := 17) rfl ?_); refine yC 26 Tryd.func17 #[.agg #[.int .i64 a0_0, .string a0_1, .int .i64 a0_2, .int .i64 a0_3, .slice A0_4 l0_4.length c0_4], .slice A1 l1.length c1] rfl ?_; (with_reducible refine (haulageref08_Row.calls kj4 a0_0 a0_1 a0_2 a0_3 _ _ l0_4 _ _ l1 t310 _ ?side1 ?side2 ?side3 ?side4 A17.out).mono ?_); (case side1 => exact yW (Kd.C_below HR0_4.out HB.out)); (case side2 => exact HC0_4.out); (case side3 => exact yW (Kd.C_below HR1.out HB.out)); (case side4 => exact HC1.out); rintro e w35 ⟨rfl, hb⟩; refine ⟨_, rfl, ?_⟩; replace BK304 := aM (kB (yK BK304) hb); replace HB := aM (bP (yG1 HB GE304.out) hb); (try clear hb)))
       go_ret
       exact ⟨yE, yG1 HB GE304.out⟩
      ·
       rw [if_neg c31] at H
       have c31b0 : (t308.toList == ([] : List UInt8)) = false := beq_eq_false_iff_ne.mpr c31
       have c31b1 : (t308.toList != ([] : List UInt8)) = true := bne_iff_ne.mpr c31
       obtain rfl := Option.some.inj H
       obtain ⟨hcz36_0, hcz36_1, hcz36_2, hcz36_3, hcz36_4, hfz36_0, hfz36_1, hfz36_2, hfz36_3, hfz36_4⟩ := cells5 BK304.out
       go_wp2_with (first | ((with_reducible refine gate_callee (f := 16) rfl ?_); refine yC 21 Tryd.func16 #[.agg #[.int .i64 a0_0, .string a0_1, .int .i64 a0_2, .int .i64 a0_3, .slice A0_4 l0_4.length c0_4], .slice A1 l1.length c1] rfl ?_; (with_reducible refine (rowcode_Encode.calls kj4 a0_0 a0_1 a0_2 a0_3 _ _ l0_4 _ _ l1 t308 t309 _ ?side1 ?side2 ?side3 ?side4 ?side5 A16.out).mono ?_); (case side1 => exact yW (Kd.C_below HR0_4.out HB.out)); (case side2 => exact HC0_4.out); (case side3 => exact yW (Kd.C_below HR1.out HB.out)); (case side4 => exact HC1.out); (case side5 => first | (with_reducible exact HG.out) | exact Glob.below HG.out (yG1 HB GE304.out)); rintro e w37 ⟨rfl, hb⟩; refine ⟨_, rfl, ?_⟩; replace BK304 := aM (kB (yK BK304) hb); replace HB := aM (bP (yG1 HB GE304.out) hb); (try clear hb); obtain ⟨hcz38_0, hcz38_1, hcz38_2, hcz38_3, hcz38_4, hfz38_0, hfz38_1, hfz38_2, hfz38_3, hfz38_4⟩ := cells5 BK304.out) | ((with_reducible refine gate_callee (f := 17) rfl ?_); refine yC 26 Tryd.func17 #[.agg #[.int .i64 a0_0, .string a0_1, .int .i64 a0_2, .int .i64 a0_3, .slice A0_4 l0_4.length c0_4], .slice A1 l1.length c1] rfl ?_; (with_reducible refine (haulageref08_Row.calls kj4 a0_0 a0_1 a0_2 a0_3 _ _ l0_4 _ _ l1 t310 _ ?side1 ?side2 ?side3 ?side4 A17.out).mono ?_); (case side1 => exact yW (Kd.C_below HR0_4.out HB.out)); (case side2 => exact HC0_4.out); (case side3 => exact yW (Kd.C_below HR1.out HB.out)); (case side4 => exact HC1.out); rintro e w39 ⟨rfl, hb⟩; refine ⟨_, rfl, ?_⟩; replace BK304 := aM (kB (yK BK304) hb); replace HB := aM (bP (yG1 HB GE304.out) hb); (try clear hb)))
       go_ret
       exact ⟨yE, yG1 HB GE304.out⟩
 ·
  replace c4 := Bool.eq_false_iff.mpr c4
  subst c4
  have H1 : (some false) = some r := by rw [if_neg (show ¬ (false = true) by decide)] at H; exact H
  clear H
  have H := H1
  clear H1
  obtain rfl := Option.some.inj H
  go_enter Tryd.func3, Tryd.ntmps3
  go_wp2_with (first | ((with_reducible refine gate_dst (N := 2) rfl ?_); refine yX (N := 2) (cs := #[.int .i64 a0_0, .string a0_1, .int .i64 a0_2, .int .i64 a0_3, .slice A0_4 l0_4.length c0_4]) (t := 24) ?_; intro gb304 hg w40 hbox hb; have BK304 := aM (hbox); have GW304 := yZ hg (yB HB); have GE304 := yZ hg (yB HB); replace HB := aM (bP (yB HB) hb); clear hb hbox hg) | ((with_reducible refine gate_callee (f := 13) rfl ?_); refine yC 8 Tryd.func13 #[] rfl ?_; (with_reducible refine (haulagelaw12_lives.calls k  false _ ?side1 A3.out).mono ?_); (case side1 => first | (with_reducible exact HG.out) | exact Glob.below HG.out (yG1 HB GE304.out)); rintro e w41 ⟨rfl, hb⟩; refine ⟨_, rfl, ?_⟩; replace BK304 := aM (kB (yK BK304) hb); replace HB := aM (bP (yG1 HB GE304.out) hb); (try clear hb)))
  go_ret
  exact ⟨yE, yG1 HB GE304.out⟩
end Go.Proofs.YtdeophpjammbpaaDoor.HRowcodeEncodes

/- For Go functions that SchemaSets reaches: Lean functions, and walks that show that each call comes to what its Lean function tells; no condition but those that each theorem states. (Made by a program of this session over the kit's print.py.) -/
import Derived.Test.YtdeophpjammbpaaDoorHSchemaSetsx0
import Derived.Test.YtdeophpjammbpaaDoorHSchemaSetsx1
import Derived.Test.YtdeophpjammbpaaDoorHSchemaSetsx5
namespace Go.Proofs.YtdeophpjammbpaaDoor.HSchemaSets
open Go.RowKit Go.Proofs.YtdeophpjammbpaaDoorW.PrintWords Go.Proofs.YtdeophpjammbpaaDoorW.PrintLast Go.Proofs.YtdeophpjammbpaaDoorW.PrintMore
attribute [local go_sem] max2_int min2_int max_two min_two max_three min_three max_four min_four   -- for this text's walks alone
set_option linter.unusedVariables false
set_option linter.unusedSimpArgs false
attribute [local go_sem] hp_s8 hp_s16 hp_s32 hp_s64 hp_m8 hp_m16 hp_m32 hp_m64
attribute [local go_sem high] eqA52
/-! ### schema_Col_1: function 80 -/
def schema_Col_1.f (a0_0 : Int) (a0_1 : ByteArray) (a0_2 : Int) (a0_3 : Int) (a0_4 : Bool) (a0_5 : Int) (a0_6 : Int) (a0_7 : ByteArray) (l1 : List ByteArray) : Option (Bool) := if 0 < (l1.length : Int) then (some (a0_1.toList == (rdOf ByteArray.empty l1 0).toList)) else (none)
set_option maxHeartbeats 8000000 in
set_option maxRecDepth 100000 in
theorem schema_Col_1.calls (a0_0 : Int) (a0_1 : ByteArray) (a0_2 : Int) (a0_3 : Int) (a0_4 : Bool) (a0_5 : Int) (a0_6 : Int) (a0_7 : ByteArray) (A1 : Option Addr) (c1 : Nat) (l1 : List ByteArray) (r : Bool) (w : World) (hr1 : Kd.C Kd.string w A1 l1.length l1) (hc1 : l1.length ≤ c1) (h : schema_Col_1.f a0_0 a0_1 a0_2 a0_3 a0_4 a0_5 a0_6 a0_7 l1 = some r) :
  Calls Tryd.prog 80 #[.agg #[.int .i64 a0_0, .string a0_1, .int .i64 a0_2, .int .i64 a0_3, .bool a0_4, .int .i64 a0_5, .int .i64 a0_6, .string a0_7], .pointer A1] w fun e w' => e = .returned (.bool r) ∧ Below w.heap.size w w' := by
 have hu54 := Tryd.underlying54
 have HR1 := aM hr1
 have HC1 := aM hc1
 clear hr1 hc1
 have HB := aM (Below.refl w.heap.size w)
 have H : (if 0 < (l1.length : Int) then (some (a0_1.toList == (rdOf ByteArray.empty l1 0).toList)) else (none)) = some r := h
 clear h
 by_cases c3 : 0 < (l1.length : Int)
 ·
  rw [if_pos c3] at H
  have c3b0 : decide (0 < (l1.length : Int)) = true := decide_eq_true c3
  have c3b1 : decide (0 < l1.length) = true := decide_eq_true (by omega)
  clear c3
  obtain rfl := Option.some.inj H
  go_enter Tryd.func80, Tryd.ntmps80
  go_wp2_with (first | ((with_reducible refine gate_dst (N := 2) rfl ?_); refine yX (N := 2) (cs := #[.int .i64 a0_0, .string a0_1, .int .i64 a0_2, .int .i64 a0_3, .bool a0_4, .int .i64 a0_5, .int .i64 a0_6, .string a0_7]) (t := 54) ?_; intro gb147 hg w4 hbox hb; have BK147 := aM (hbox); have GW147 := yZ hg (yB HB); have GE147 := yZ hg (yB HB); replace HB := aM (bP (yB HB) hb); clear hb hbox hg; obtain ⟨hcz5_0, hcz5_1, hcz5_2, hcz5_3, hcz5_4, hcz5_5, hcz5_6, hcz5_7, hfz5_0, hfz5_1, hfz5_2, hfz5_3, hfz5_4, hfz5_5, hfz5_6, hfz5_7⟩ := cells8 BK147.out; have p148 : 0 ≤ (0 : Int) := (by omega); have q148 : 0 < (l1.length : Int) := oD yA; obtain ⟨ad148, e148, hx148_0⟩ := Kd.at_string HR1.out 0 p148 q148; cases e148; have qi148 : (0 < l1.length) = True := eq_true (by omega); (try rw [show ((0 : Int)).toNat = 0 from rfl] at hx148_0); (try rw [Addr.add_zero'] at hx148_0); replace hx148_0 := pw_cell_below HB.out hx148_0; replace p148 := eq_true p148; replace q148 := eq_true q148))
  go_ret
  exact ⟨yE, yG1 HB GE147.out⟩
 ·
  rw [if_neg c3] at H
  exact absurd H (by simp)
/-! ### api_Column_f80: function 74 -/
def api_Column_f80.l0 : Nat → List ByteArray → List (S54) → Int → Int → Option (Int × Bool)
 | 0, _, _, _, _ => none
 | k + 1, x1, x8, x9, x10 => if x10 < x9 then (if 0 ≤ x10 then (if x10 < (x8.length : Int) then ((schema_Col_1.f ((rd_T54 x8 x10).f0) ((rd_T54 x8 x10).f1) ((rd_T54 x8 x10).f2.f0) ((rd_T54 x8 x10).f2.f1) ((rd_T54 x8 x10).f3) ((rd_T54 x8 x10).f4.f0) ((rd_T54 x8 x10).f4.f1) ((rd_T54 x8 x10).f4.f2) x1).bind fun t151 => (if t151 = true then (some (x10, true)) else (api_Column_f80.l0 k x1 x8 x9 (wrap64 (x10 + 1))))) else (none)) else (none)) else (some (0, false))
def api_Column_f80.f (k : Nat) (l0 : List (S54)) (l1 : List ByteArray) : Option (Int × Bool) := api_Column_f80.l0 k l1 l0 (l0.length : Int) 0
theorem api_Column_f80.mono_l : ∀ k, (∀ y0 y1 y2 y3, LeO (api_Column_f80.l0 k y0 y1 y2 y3) (api_Column_f80.l0 (k + 1) y0 y1 y2 y3))
 | 0 => fun _ _ _ _ r h => by simp [api_Column_f80.l0] at h
 | k + 1 => by
  have ih0 := api_Column_f80.mono_l k
  ·
   intro y0 y1 y2 y3
   unfold api_Column_f80.l0
   repeat' first
   | (with_reducible exact ih0 _ _ _ _)
   | (with_reducible exact LeO.refl _)
   | (with_reducible exact LeO.none _)
   | (with_reducible refine LeO.ite ?_ ?_)
   | (with_reducible refine LeO.bind ?_ (fun _ => ?_))
   | exact ih0 _ _ _ _
   | exact LeO.none _
   | refine LeO.ite ?_ ?_
   | refine LeO.bind ?_ (fun _ => ?_)
theorem api_Column_f80.mono : ∀ a0 a1 k, LeO (api_Column_f80.f k a0 a1) (api_Column_f80.f (k + 1) a0 a1) := by
 intro a0 a1 k
 have ih0 := api_Column_f80.mono_l k
 unfold api_Column_f80.f
 repeat' first
   | (with_reducible exact ih0 _ _ _ _)
   | (with_reducible exact LeO.refl _)
   | (with_reducible exact LeO.none _)
   | (with_reducible refine LeO.ite ?_ ?_)
   | (with_reducible refine LeO.bind ?_ (fun _ => ?_))
   | exact ih0 _ _ _ _
   | exact LeO.none _
   | refine LeO.ite ?_ ?_
   | refine LeO.bind ?_ (fun _ => ?_)
set_option maxHeartbeats 8000000 in
set_option maxRecDepth 100000 in
theorem api_Column_f80.calls (k : Nat) (A0 : Option Addr) (c0 : Nat) (l0 : List (S54)) (A1 : Option Addr) (c1 : Nat) (l1 : List ByteArray) (r1 : Int) (r2 : Bool) (w : World) (hr0 : Kd.C k54 w A0 l0.length l0) (hc0 : l0.length ≤ c0) (hr1 : Kd.C Kd.string w A1 l1.length l1) (hc1 : l1.length ≤ c1) (h : api_Column_f80.f k l0 l1 = some (r1, r2)) :
  Calls Tryd.prog 74 #[.slice A0 l0.length c0, .func (.func 80) #[] #[.pointer A1]] w fun e w' => e = .returned (.tuple #[.int .i64 r1, .bool r2]) ∧ Below w.heap.size w w' := by
 have hmf : ∀ (fn : Go.Fn) (first cap : Array Value) (w : World), (Instr.makeFunc fn first cap).run Tryd.prog w = .ok (.func fn first cap) w := fun _ _ _ _ => rfl
 have hu54 := Tryd.underlying54
 have HR0 := aM hr0
 have HC0 := aM hc0
 clear hr0 hc0
 have HR1 := aM hr1
 have HC1 := aM hc1
 clear hr1 hc1
 have HB := aM (Below.refl w.heap.size w)
 have H : (api_Column_f80.l0 k l1 l0 (l0.length : Int) 0) = some (r1, r2) := h
 clear h
 have H' := aM H
 clear H
 go_enter Tryd.func74, Tryd.ntmps74
 go_wp2
 go_loopg [10] k (fun kq v10 w' => ∃ (x10_1 : Int), v10 = .int .i64 x10_1 ∧ Aside0 (api_Column_f80.l0 kq l1 l0 (l0.length : Int) x10_1 = some (r1, r2)) ∧ Aside0 (kq ≤ k) ∧ Aside0 (Below w.heap.size w w'))
 case atStart => exact ⟨(0), yS, H', ⟨Nat.le_refl _⟩, ⟨yB HB⟩⟩
 case round =>
  clear H'
  try clear c1
  try clear p2
  obtain ⟨x10_1, rfl, HA, HK1, HB⟩ := hrel
  cases gk with
  | zero => exact absurd HA.out (by simp [api_Column_f80.l0])
  | succ k1 =>
   have H := HA.out
   clear HA
   simp only [api_Column_f80.l0] at H
   by_cases c3 : x10_1 < (l0.length : Int)
   ·
    rw [if_pos c3] at H
    have c3b0 : decide (x10_1 < (l0.length : Int)) = true := decide_eq_true c3
    clear c3
    by_cases c4 : 0 ≤ x10_1
    ·
     rw [if_pos c4] at H
     have c4b0 : decide (0 ≤ x10_1) = true := decide_eq_true c4
     clear c4
     by_cases c5 : x10_1 < (l0.length : Int)
     ·
      rw [if_pos c5] at H
      have c5b0 : decide (x10_1 < (l0.length : Int)) = true := decide_eq_true c5
      clear c5
      replace H := Option.bind_eq_some_iff.mp H
      obtain ⟨t151, A60, H⟩ := H
      replace H : (if t151 = true then (some (x10_1, true)) else (api_Column_f80.l0 k1 l1 l0 (l0.length : Int) (wrap64 (x10_1 + 1)))) = some (r1, r2) := H
      have A6 := aM A60
      clear A60
      by_cases c7 : t151 = true
      ·
       subst c7
       have H1 : (some (x10_1, true)) = some (r1, r2) := by rw [if_pos rfl] at H; exact H
       clear H
       have H := H1
       clear H1
       simp only [Option.some.injEq, Prod.mk.injEq] at H
       obtain ⟨rfl, rfl⟩ := H
       have p149 : 0 ≤ (x10_1 : Int) := oD yA
       have q149 : x10_1 < (l0.length : Int) := oD yA
       obtain ⟨ad149, e149, hx149_0, hx149_1, hx149_2, hx149_3, hx149_4, hx149_5, hx149_6, hx149_7⟩ := at_T54 HR0.out x10_1 p149 q149
       cases e149
       replace hx149_0 := pw_cell_below HB.out hx149_0
       replace hx149_1 := pw_cell_below HB.out hx149_1
       replace hx149_2 := pw_cell_below HB.out hx149_2
       replace hx149_3 := pw_cell_below HB.out hx149_3
       replace hx149_4 := pw_cell_below HB.out hx149_4
       replace hx149_5 := pw_cell_below HB.out hx149_5
       replace hx149_6 := pw_cell_below HB.out hx149_6
       replace hx149_7 := pw_cell_below HB.out hx149_7
       replace p149 := eq_true p149
       replace q149 := eq_true q149
       go_wp2_with (first | ((with_reducible refine gate_dst (N := 7) rfl ?_); refine yX (N := 7) (cs := #[.int .i64 0, .string (⟨#[]⟩ : ByteArray), .int .i64 0, .int .i64 0, .bool false, .int .i64 0, .int .i64 0, .string (⟨#[]⟩ : ByteArray)]) (t := 54) ?_; intro gb150 hg w8 hbox hb; have BK150 := aM (hbox); have GW150 := yZ hg (yB HB); have GE150 := yZ hg (yB HB); replace HB := aM (bP (yB HB) hb); clear hb hbox hg; obtain ⟨hcz9_0, hcz9_1, hcz9_2, hcz9_3, hcz9_4, hcz9_5, hcz9_6, hcz9_7, hfz9_0, hfz9_1, hfz9_2, hfz9_3, hfz9_4, hfz9_5, hfz9_6, hfz9_7⟩ := cells8 BK150.out) | (go_at_call 80; (with_reducible refine (schema_Col_1.calls ((rd_T54 l0 x10_1).f0) ((rd_T54 l0 x10_1).f1) ((rd_T54 l0 x10_1).f2.f0) ((rd_T54 l0 x10_1).f2.f1) ((rd_T54 l0 x10_1).f3) ((rd_T54 l0 x10_1).f4.f0) ((rd_T54 l0 x10_1).f4.f1) ((rd_T54 l0 x10_1).f4.f2) A1 c1 l1 true _ ?side1 ?side2 A6.out).mono ?_); (case side1 => exact Kd.C_below HR1.out (yG1 HB GE150.out)); (case side2 => exact HC1.out); rintro e w10 ⟨rfl, hb⟩; replace BK150 := aM (kB (puts8 BK150.out) hb); replace HB := aM (bP (yG1 HB GE150.out) hb); (try clear hb)))
       go_ret2
       exact ⟨yE, yG1 HB GE150.out⟩
      ·
       replace c7 := Bool.eq_false_iff.mpr c7
       subst c7
       have H1 : (api_Column_f80.l0 k1 l1 l0 (l0.length : Int) (wrap64 (x10_1 + 1))) = some (r1, r2) := by rw [if_neg (show ¬ (false = true) by decide)] at H; exact H
       clear H
       have H := H1
       clear H1
       have H' := aM H
       clear H
       have p149 : 0 ≤ (x10_1 : Int) := oD yA
       have q149 : x10_1 < (l0.length : Int) := oD yA
       obtain ⟨ad149, e149, hx149_0, hx149_1, hx149_2, hx149_3, hx149_4, hx149_5, hx149_6, hx149_7⟩ := at_T54 HR0.out x10_1 p149 q149
       cases e149
       replace hx149_0 := pw_cell_below HB.out hx149_0
       replace hx149_1 := pw_cell_below HB.out hx149_1
       replace hx149_2 := pw_cell_below HB.out hx149_2
       replace hx149_3 := pw_cell_below HB.out hx149_3
       replace hx149_4 := pw_cell_below HB.out hx149_4
       replace hx149_5 := pw_cell_below HB.out hx149_5
       replace hx149_6 := pw_cell_below HB.out hx149_6
       replace hx149_7 := pw_cell_below HB.out hx149_7
       replace p149 := eq_true p149
       replace q149 := eq_true q149
       go_wp2_with (first | ((with_reducible refine gate_dst (N := 7) rfl ?_); refine yX (N := 7) (cs := #[.int .i64 0, .string (⟨#[]⟩ : ByteArray), .int .i64 0, .int .i64 0, .bool false, .int .i64 0, .int .i64 0, .string (⟨#[]⟩ : ByteArray)]) (t := 54) ?_; intro gb150 hg w11 hbox hb; have BK150 := aM (hbox); have GW150 := yZ hg (yB HB); have GE150 := yZ hg (yB HB); replace HB := aM (bP (yB HB) hb); clear hb hbox hg; obtain ⟨hcz12_0, hcz12_1, hcz12_2, hcz12_3, hcz12_4, hcz12_5, hcz12_6, hcz12_7, hfz12_0, hfz12_1, hfz12_2, hfz12_3, hfz12_4, hfz12_5, hfz12_6, hfz12_7⟩ := cells8 BK150.out) | (go_at_call 80; (with_reducible refine (schema_Col_1.calls ((rd_T54 l0 x10_1).f0) ((rd_T54 l0 x10_1).f1) ((rd_T54 l0 x10_1).f2.f0) ((rd_T54 l0 x10_1).f2.f1) ((rd_T54 l0 x10_1).f3) ((rd_T54 l0 x10_1).f4.f0) ((rd_T54 l0 x10_1).f4.f1) ((rd_T54 l0 x10_1).f4.f2) A1 c1 l1 false _ ?side1 ?side2 A6.out).mono ?_); (case side1 => exact Kd.C_below HR1.out (yG1 HB GE150.out)); (case side2 => exact HC1.out); rintro e w13 ⟨rfl, hb⟩; replace BK150 := aM (kB (puts8 BK150.out) hb); replace HB := aM (bP (yG1 HB GE150.out) hb); (try clear hb)))
       go_roundg k1
       case measure => have := HK1.out; omega
       case rel => exact ⟨(wrap64 (x10_1 + 1)), yS, H', ⟨by have := HK1.out; omega⟩, ⟨yG1 HB GE150.out⟩⟩
     ·
      rw [if_neg c5] at H
      exact absurd H (by simp)
    ·
     rw [if_neg c4] at H
     exact absurd H (by simp)
   ·
    rw [if_neg c3] at H
    have c3b0 : decide (x10_1 < (l0.length : Int)) = false := decide_eq_false c3
    clear c3
    simp only [Option.some.injEq, Prod.mk.injEq] at H
    obtain ⟨rfl, rfl⟩ := H
    go_wp2
    go_ret2
    exact ⟨yE, yB HB⟩
/-! ### schema_Col: function 46 -/
def schema_Col.f (k : Nat) (a0_0 : Int) (a0_1 : ByteArray) (a0_2 : Int) (a0_3 : Int) (l0_4 : List (S54)) (a1 : ByteArray) : Option (Int × Bool) := (api_Column_f80.f k l0_4 [a1]).bind fun bt154 => (some (bt154.1, bt154.2))
theorem schema_Col.mono : ∀ a0 a1 a2 a3 a4 a5 k, LeO (schema_Col.f k a0 a1 a2 a3 a4 a5) (schema_Col.f (k + 1) a0 a1 a2 a3 a4 a5) := by
 intro a0 a1 a2 a3 a4 a5 k
 unfold schema_Col.f
 repeat' first
   | (with_reducible exact api_Column_f80.mono _ _ _)
   | (with_reducible exact LeO.refl _)
   | (with_reducible exact LeO.none _)
   | (with_reducible refine LeO.ite ?_ ?_)
   | (with_reducible refine LeO.bind ?_ (fun _ => ?_))
   | exact api_Column_f80.mono _ _ _
   | exact LeO.none _
   | refine LeO.ite ?_ ?_
   | refine LeO.bind ?_ (fun _ => ?_)
set_option maxHeartbeats 8000000 in
set_option maxRecDepth 100000 in
theorem schema_Col.calls (k : Nat) (a0_0 : Int) (a0_1 : ByteArray) (a0_2 : Int) (a0_3 : Int) (A0_4 : Option Addr) (c0_4 : Nat) (l0_4 : List (S54)) (a1 : ByteArray) (r1 : Int) (r2 : Bool) (w : World) (hr0_4 : Kd.C k54 w A0_4 l0_4.length l0_4) (hc0_4 : l0_4.length ≤ c0_4) (h : schema_Col.f k a0_0 a0_1 a0_2 a0_3 l0_4 a1 = some (r1, r2)) :
  Calls Tryd.prog 46 #[.agg #[.int .i64 a0_0, .string a0_1, .int .i64 a0_2, .int .i64 a0_3, .slice A0_4 l0_4.length c0_4], .string a1] w fun e w' => e = .returned (.tuple #[.int .i64 r1, .bool r2]) ∧ Below w.heap.size w w' := by
 have hmf : ∀ (fn : Go.Fn) (first cap : Array Value) (w : World), (Instr.makeFunc fn first cap).run Tryd.prog w = .ok (.func fn first cap) w := fun _ _ _ _ => rfl
 have hu24 := Tryd.underlying24
 have HR0_4 := aM hr0_4
 have HC0_4 := aM hc0_4
 clear hr0_4 hc0_4
 have HB := aM (Below.refl w.heap.size w)
 have H : ((api_Column_f80.f k l0_4 [a1]).bind fun bt154 => (some (bt154.1, bt154.2))) = some (r1, r2) := h
 clear h
 replace H := Option.bind_eq_some_iff.mp H
 obtain ⟨⟨t154, t155⟩, A30, H⟩ := H
 replace H : (some (t154, t155)) = some (r1, r2) := H
 have A3 := aM A30
 clear A30
 simp only [Option.some.injEq, Prod.mk.injEq] at H
 obtain ⟨rfl, rfl⟩ := H
 go_enter Tryd.func46, Tryd.ntmps46
 go_wp2_with (first | ((with_reducible refine gate_dst (N := 2) rfl ?_); refine yX (N := 2) (cs := #[.int .i64 a0_0, .string a0_1, .int .i64 a0_2, .int .i64 a0_3, .slice A0_4 l0_4.length c0_4]) (t := 24) ?_; intro gb152 hg w4 hbox hb; have BK152 := aM (hbox); have GW152 := yZ hg (yB HB); have GE152 := yZ hg (yB HB); replace HB := aM (bP (yB HB) hb); clear hb hbox hg) | ((with_reducible refine gate_dst (N := 3) rfl ?_); refine yX (N := 3) (cs := #[.string a1]) (t := 9) ?_; intro gb153 hg w5 hbox hb; have BK153 := aM (hbox); have GW153 := yZ hg (yG1 HB GE152.out); have GE153 := yZ hg (yG1 HB GE152.out); replace HB := aM (bP (yG1 HB GE152.out) hb); have NB152_153 := yN hg (yK BK152); have NB153_152 := yM hg (yK BK152); replace BK152 := aM (kB (yK BK152) hb); clear hb hbox hg; have hnb6 := NB152_153.out; have hnc6 := NB153_152.out; obtain ⟨hcz7_0, hcz7_1, hcz7_2, hcz7_3, hcz7_4, hfz7_0, hfz7_1, hfz7_2, hfz7_3, hfz7_4⟩ := cells5 BK152.out) | (go_at_call 74; (with_reducible refine (api_Column_f80.calls k _ _ l0_4 (some ⟨gb153, 0, none⟩) 1 [a1] t154 t155 _ ?side1 ?side2 ?side3 ?side4 A3.out).mono ?_); (case side1 => exact yW (Kd.C_below HR0_4.out HB.out)); (case side2 => exact HC0_4.out); (case side3 => exact hp_C_one (d := Kd.string) rfl (yK BK153)); (case side4 => exact Nat.le_refl _); rintro e w8 ⟨rfl, hb⟩; replace BK152 := aM (kB (yK BK152) hb); replace BK153 := aM (kB (yK BK153) hb); replace HB := aM (bP (yG2 HB GE152.out GE153.out) hb); (try clear hb)))
 go_ret2
 exact ⟨yE, yG2 HB GE152.out GE153.out⟩
/-! ### schema_Fill_1: function 64 -/
def schema_Fill_1.f (a0_0 : Int) (a0_1 : ByteArray) (a0_2 : Int) (a0_3 : Int) (a0_4 : Bool) (a0_5 : Int) (a0_6 : Int) (a0_7 : ByteArray) : Option (Int) := some 0
set_option maxHeartbeats 8000000 in
set_option maxRecDepth 100000 in
theorem schema_Fill_1.calls (a0_0 : Int) (a0_1 : ByteArray) (a0_2 : Int) (a0_3 : Int) (a0_4 : Bool) (a0_5 : Int) (a0_6 : Int) (a0_7 : ByteArray) (r : Int) (w : World) (h : schema_Fill_1.f a0_0 a0_1 a0_2 a0_3 a0_4 a0_5 a0_6 a0_7 = some r) :
  Calls Tryd.prog 64 #[.agg #[.int .i64 a0_0, .string a0_1, .int .i64 a0_2, .int .i64 a0_3, .bool a0_4, .int .i64 a0_5, .int .i64 a0_6, .string a0_7]] w fun e w' => e = .returned (.int .i64 r) ∧ Below w.heap.size w w' := by
 have hu54 := Tryd.underlying54
 have HB := aM (Below.refl w.heap.size w)
 have H : (some 0) = some r := h
 clear h
 obtain rfl := Option.some.inj H
 go_enter Tryd.func64, Tryd.ntmps64
 go_wp2_with (first | ((with_reducible refine gate_dst (N := 1) rfl ?_); refine yX (N := 1) (cs := #[.int .i64 a0_0, .string a0_1, .int .i64 a0_2, .int .i64 a0_3, .bool a0_4, .int .i64 a0_5, .int .i64 a0_6, .string a0_7]) (t := 54) ?_; intro gb156 hg w2 hbox hb; have BK156 := aM (hbox); have GW156 := yZ hg (yB HB); have GE156 := yZ hg (yB HB); replace HB := aM (bP (yB HB) hb); clear hb hbox hg))
 go_ret
 exact ⟨yE, yG1 HB GE156.out⟩
/-! ### schema_one: function 94 -/
def schema_one.j0 : Nat → Bool → Int → ByteArray → Int → Int → Bool → Int → Int → ByteArray → Int → Int → ByteArray → Option (Int)
 | 0, _, _, _, _, _, _, _, _, _, _, _, _ => none
 | k + 1, x5, x158000, x158001, x158002, x158003, x158004, x158005, x158006, x158007, x159000, x159001, x159002 => if x5 = true then (some 0) else (if (x159000 == 0 && (x159001 == 0 && (x159002.toList == ([] : List UInt8)))) = true then (some 11) else ((typ_Fits.f k x158002 x158003 x159000 x159001 x159002).bind fun t159 => (if t159 = true then (some 0) else (some 10))))
def schema_one.f (k : Nat) (a0_0 : Int) (a0_1 : ByteArray) (a0_2 : Int) (a0_3 : Int) (a0_4 : Bool) (a0_5 : Int) (a0_6 : Int) (a0_7 : ByteArray) (a1_0 : Int) (a1_1 : Int) (a1_2 : ByteArray) : Option (Int) := if (a1_0 == 0 && (a1_1 == 0 && (a1_2.toList == ([] : List UInt8)))) = true then (schema_one.j0 k a0_4 a0_0 a0_1 a0_2 a0_3 a0_4 a0_5 a0_6 a0_7 a1_0 a1_1 a1_2) else (schema_one.j0 k false a0_0 a0_1 a0_2 a0_3 a0_4 a0_5 a0_6 a0_7 a1_0 a1_1 a1_2)
theorem schema_one.mono_l : ∀ k, (∀ y0 y1 y2 y3 y4 y5 y6 y7 y8 y9 y10 y11, LeO (schema_one.j0 k y0 y1 y2 y3 y4 y5 y6 y7 y8 y9 y10 y11) (schema_one.j0 (k + 1) y0 y1 y2 y3 y4 y5 y6 y7 y8 y9 y10 y11))
 | 0 => fun _ _ _ _ _ _ _ _ _ _ _ _ r h => by simp [schema_one.j0] at h
 | k + 1 => by
  have ih0 := schema_one.mono_l k
  ·
   intro y0 y1 y2 y3 y4 y5 y6 y7 y8 y9 y10 y11
   unfold schema_one.j0
   repeat' first
   | (with_reducible exact ih0 _ _ _ _ _ _ _ _ _ _ _ _)
   | (with_reducible exact typ_Fits.mono _ _ _ _ _ _)
   | (with_reducible exact LeO.refl _)
   | (with_reducible exact LeO.none _)
   | (with_reducible refine LeO.ite ?_ ?_)
   | (with_reducible refine LeO.bind ?_ (fun _ => ?_))
   | exact ih0 _ _ _ _ _ _ _ _ _ _ _ _
   | exact typ_Fits.mono _ _ _ _ _ _
   | exact LeO.none _
   | refine LeO.ite ?_ ?_
   | refine LeO.bind ?_ (fun _ => ?_)
theorem schema_one.mono : ∀ a0 a1 a2 a3 a4 a5 a6 a7 a8 a9 a10 k, LeO (schema_one.f k a0 a1 a2 a3 a4 a5 a6 a7 a8 a9 a10) (schema_one.f (k + 1) a0 a1 a2 a3 a4 a5 a6 a7 a8 a9 a10) := by
 intro a0 a1 a2 a3 a4 a5 a6 a7 a8 a9 a10 k
 have ih0 := schema_one.mono_l k
 unfold schema_one.f
 repeat' first
   | (with_reducible exact ih0 _ _ _ _ _ _ _ _ _ _ _ _)
   | (with_reducible exact typ_Fits.mono _ _ _ _ _ _)
   | (with_reducible exact LeO.refl _)
   | (with_reducible exact LeO.none _)
   | (with_reducible refine LeO.ite ?_ ?_)
   | (with_reducible refine LeO.bind ?_ (fun _ => ?_))
   | exact ih0 _ _ _ _ _ _ _ _ _ _ _ _
   | exact typ_Fits.mono _ _ _ _ _ _
   | exact LeO.none _
   | refine LeO.ite ?_ ?_
   | refine LeO.bind ?_ (fun _ => ?_)
set_option maxHeartbeats 8000000 in
set_option maxRecDepth 100000 in
theorem schema_one.calls (k : Nat) (a0_0 : Int) (a0_1 : ByteArray) (a0_2 : Int) (a0_3 : Int) (a0_4 : Bool) (a0_5 : Int) (a0_6 : Int) (a0_7 : ByteArray) (a1_0 : Int) (a1_1 : Int) (a1_2 : ByteArray) (r : Int) (w : World) (hG : Glob w) (h : schema_one.f k a0_0 a0_1 a0_2 a0_3 a0_4 a0_5 a0_6 a0_7 a1_0 a1_1 a1_2 = some r) :
  Calls Tryd.prog 94 #[.agg #[.int .i64 a0_0, .string a0_1, .int .i64 a0_2, .int .i64 a0_3, .bool a0_4, .int .i64 a0_5, .int .i64 a0_6, .string a0_7], .agg #[.int .i64 a1_0, .int .i64 a1_1, .string a1_2]] w fun e w' => e = .returned (.int .i64 r) ∧ Below w.heap.size w w' := by
 have hu54 := Tryd.underlying54
 have hu52 := Tryd.underlying52
 have hu50 := Tryd.underlying50
 have HG := aM hG
 clear hG
 have HB := aM (Below.refl w.heap.size w)
 have H : (if (a1_0 == 0 && (a1_1 == 0 && (a1_2.toList == ([] : List UInt8)))) = true then (schema_one.j0 k a0_4 a0_0 a0_1 a0_2 a0_3 a0_4 a0_5 a0_6 a0_7 a1_0 a1_1 a1_2) else (schema_one.j0 k false a0_0 a0_1 a0_2 a0_3 a0_4 a0_5 a0_6 a0_7 a1_0 a1_1 a1_2)) = some r := h
 clear h
 have HC3 := aM H
 clear H
 go_enter Tryd.func94, Tryd.ntmps94
 go_upto_region 1 with (first | ((with_reducible refine gate_dst (N := 2) rfl ?_); refine yX (N := 2) (cs := #[.int .i64 a0_0, .string a0_1, .int .i64 a0_2, .int .i64 a0_3, .bool a0_4, .int .i64 a0_5, .int .i64 a0_6, .string a0_7]) (t := 54) ?_; intro gb157 hg w4 hbox hb; have BK157 := aM (hbox); have GW157 := yZ hg (yB HB); have GE157 := yZ hg (yB HB); replace HB := aM (bP (yB HB) hb); clear hb hbox hg) | ((with_reducible refine gate_dst (N := 3) rfl ?_); refine yX (N := 3) (cs := #[.int .i64 a1_0, .int .i64 a1_1, .string a1_2]) (t := 52) ?_; intro gb158 hg w5 hbox hb; have BK158 := aM (hbox); have GW158 := yZ hg (yG1 HB GE157.out); have GE158 := yZ hg (yG1 HB GE157.out); replace HB := aM (bP (yG1 HB GE157.out) hb); have NB157_158 := yN hg (yK BK157); have NB158_157 := yM hg (yK BK157); replace BK157 := aM (kB (yK BK157) hb); clear hb hbox hg))
 (try simp only [Act.put, s1_, s2_, s3_])
 go_cut [5] (fun v5 wc => ∃ (kq : Nat) (x5_2 : Bool), v5 = .bool x5_2 ∧ Aside0 (schema_one.j0 kq x5_2 a0_0 a0_1 a0_2 a0_3 a0_4 a0_5 a0_6 a0_7 a1_0 a1_1 a1_2 = some r) ∧ Aside0 (kq ≤ k) ∧ Aside0 (wc.heap[gb157]? = some (.cells #[.int .i64 a0_0, .string a0_1, .int .i64 a0_2, .int .i64 a0_3, .bool a0_4, .int .i64 a0_5, .int .i64 a0_6, .string a0_7] 54 (0, 0))) ∧ Aside0 (wc.heap[gb158]? = some (.cells #[.int .i64 a1_0, .int .i64 a1_1, .string a1_2] 52 (0, 0))) ∧ Aside0 (Below w.heap.size w wc))
 case first =>
  have H := HC3.out
  clear HC3
  by_cases c6 : (a1_0 == 0 && (a1_1 == 0 && (a1_2.toList == ([] : List UInt8)))) = true
  ·
   rw [if_pos c6] at H
   have c6b0 : (a1_0 == 0 && (a1_1 == 0 && (a1_2.toList == ([] : List UInt8)))) = true := c6
   (try have c6b0_e : (a1_0 == 0 && (a1_1 == 0 && ((a1_2.toList.isEmpty)))) = true := by have h_ := c6b0; simp only [hp_nil] at h_; exact h_)
   (try (have c6b1 : decide (a1_0 = 0 && (a1_1 == 0 && (a1_2.toList == ([] : List UInt8)))) = true := by simpa using c6))
   (try have c6b1_e : decide (a1_0 = 0 && (a1_1 == 0 && ((a1_2.toList.isEmpty)))) = true := by have h_ := c6b1; simp only [hp_nil] at h_; exact h_)
   (try (have c6b2 : (a1_0 == 0 && (a1_1 == 0 && (a1_2.toList == ([] : List UInt8)))) = true := by simpa using c6))
   (try have c6b2_e : (a1_0 == 0 && (a1_1 == 0 && ((a1_2.toList.isEmpty)))) = true := by have h_ := c6b2; simp only [hp_nil] at h_; exact h_)
   clear c6
   (first | rw [c6b0] | (simp only [i64_w, i32_w]; rw [c6b0]) | skip)
   have H' := aM H
   clear H
   have hnb7 := NB158_157.out
   have hnc7 := NB157_158.out
   obtain ⟨hcz8_0, hcz8_1, hcz8_2, hfz8_0, hfz8_1, hfz8_2⟩ := cells3 BK158.out
   obtain ⟨hcz9_0, hcz9_1, hcz9_2, hcz9_3, hcz9_4, hcz9_5, hcz9_6, hcz9_7, hfz9_0, hfz9_1, hfz9_2, hfz9_3, hfz9_4, hfz9_5, hfz9_6, hfz9_7⟩ := cells8 BK157.out
   go_wp2
   go_meet
   case rel => exact ⟨_, (a0_4), yS, H', ⟨yO⟩, ⟨yK BK157⟩, ⟨yK BK158⟩, ⟨yG2 HB GE157.out GE158.out⟩⟩
  ·
   rw [if_neg c6] at H
   have c6b0 : (a1_0 == 0 && (a1_1 == 0 && (a1_2.toList == ([] : List UInt8)))) = false := by simpa using c6
   (try have c6b0_e : (a1_0 == 0 && (a1_1 == 0 && ((a1_2.toList.isEmpty)))) = false := by have h_ := c6b0; simp only [hp_nil] at h_; exact h_)
   (try (have c6b1 : decide (a1_0 = 0 && (a1_1 == 0 && (a1_2.toList == ([] : List UInt8)))) = false := by simpa using c6))
   (try have c6b1_e : decide (a1_0 = 0 && (a1_1 == 0 && ((a1_2.toList.isEmpty)))) = false := by have h_ := c6b1; simp only [hp_nil] at h_; exact h_)
   (try (have c6b2 : (a1_0 == 0 && (a1_1 == 0 && (a1_2.toList == ([] : List UInt8)))) = false := by simpa using c6))
   (try have c6b2_e : (a1_0 == 0 && (a1_1 == 0 && ((a1_2.toList.isEmpty)))) = false := by have h_ := c6b2; simp only [hp_nil] at h_; exact h_)
   (try (have c6b3 : ¬ (a1_0 = 0 && (a1_1 == 0 && (a1_2.toList == ([] : List UInt8)))) := by simpa using c6))
   (try have c6b3_e : ¬ (a1_0 = 0 && (a1_1 == 0 && ((a1_2.toList.isEmpty)))) := by have h_ := c6b3; simp only [hp_nil] at h_; exact h_)
   clear c6
   (first | rw [c6b0] | (simp only [i64_w, i32_w]; rw [c6b0]) | skip)
   have H' := aM H
   clear H
   have hnb10 := NB158_157.out
   have hnc10 := NB157_158.out
   obtain ⟨hcz11_0, hcz11_1, hcz11_2, hfz11_0, hfz11_1, hfz11_2⟩ := cells3 BK158.out
   go_wp2
   go_meet
   case rel => exact ⟨_, (false), yS, H', ⟨yO⟩, ⟨yK BK157⟩, ⟨yK BK158⟩, ⟨yG2 HB GE157.out GE158.out⟩⟩
 case rest =>
  clear HC3
  try clear c1
  try clear p2
  try clear c6
  try clear c6b0
  try clear c6b1
  try clear c6b2
  try clear c7
  try clear c9
  try clear c10
  try clear hcz11_0 hcz11_1 hcz11_2
  try clear hcz8_0 hcz8_1 hcz8_2
  try clear hcz9_0 hcz9_1 hcz9_2 hcz9_3 hcz9_4 hcz9_5 hcz9_6 hcz9_7
  try clear hfz11_0 hfz11_1 hfz11_2
  try clear hfz8_0 hfz8_1 hfz8_2
  try clear hfz9_0 hfz9_1 hfz9_2 hfz9_3 hfz9_4 hfz9_5 hfz9_6 hfz9_7
  obtain ⟨kq, x5_2, rfl, HA, HJ2, BK157, BK158, HB⟩ := hcut
  cases kq with
  | zero => exact absurd HA.out (by simp [schema_one.j0])
  | succ kj2 =>
   have H := HA.out
   clear HA
   simp only [schema_one.j0] at H
   by_cases c12 : x5_2 = true
   ·
    subst c12
    have H1 : (some 0) = some r := by rw [if_pos rfl] at H; exact H
    clear H
    have H := H1
    clear H1
    obtain rfl := Option.some.inj H
    go_wp2
    go_ret
    exact ⟨yE, yG2 HB GE157.out GE158.out⟩
   ·
    replace c12 := Bool.eq_false_iff.mpr c12
    subst c12
    have H1 : (if (a1_0 == 0 && (a1_1 == 0 && (a1_2.toList == ([] : List UInt8)))) = true then (some 11) else ((typ_Fits.f kj2 a0_2 a0_3 a1_0 a1_1 a1_2).bind fun t159 => (if t159 = true then (some 0) else (some 10)))) = some r := by rw [if_neg (show ¬ (false = true) by decide)] at H; exact H
    clear H
    have H := H1
    clear H1
    by_cases c13 : (a1_0 == 0 && (a1_1 == 0 && (a1_2.toList == ([] : List UInt8)))) = true
    ·
     rw [if_pos c13] at H
     have c13b0 : (a1_0 == 0 && (a1_1 == 0 && (a1_2.toList == ([] : List UInt8)))) = true := c13
     (try have c13b0_e : (a1_0 == 0 && (a1_1 == 0 && ((a1_2.toList.isEmpty)))) = true := by have h_ := c13b0; simp only [hp_nil] at h_; exact h_)
     (try (have c13b1 : decide (a1_0 = 0 && (a1_1 == 0 && (a1_2.toList == ([] : List UInt8)))) = true := by simpa using c13))
     (try have c13b1_e : decide (a1_0 = 0 && (a1_1 == 0 && ((a1_2.toList.isEmpty)))) = true := by have h_ := c13b1; simp only [hp_nil] at h_; exact h_)
     (try (have c13b2 : (a1_0 == 0 && (a1_1 == 0 && (a1_2.toList == ([] : List UInt8)))) = true := by simpa using c13))
     (try have c13b2_e : (a1_0 == 0 && (a1_1 == 0 && ((a1_2.toList.isEmpty)))) = true := by have h_ := c13b2; simp only [hp_nil] at h_; exact h_)
     clear c13
     obtain rfl := Option.some.inj H
     have hnb14 := NB158_157.out
     have hnc14 := NB157_158.out
     obtain ⟨hcz15_0, hcz15_1, hcz15_2, hfz15_0, hfz15_1, hfz15_2⟩ := cells3 BK158.out
     go_wp2
     go_ret
     exact ⟨yE, yG2 HB GE157.out GE158.out⟩
    ·
     rw [if_neg c13] at H
     have c13b0 : (a1_0 == 0 && (a1_1 == 0 && (a1_2.toList == ([] : List UInt8)))) = false := by simpa using c13
     (try have c13b0_e : (a1_0 == 0 && (a1_1 == 0 && ((a1_2.toList.isEmpty)))) = false := by have h_ := c13b0; simp only [hp_nil] at h_; exact h_)
     (try (have c13b1 : decide (a1_0 = 0 && (a1_1 == 0 && (a1_2.toList == ([] : List UInt8)))) = false := by simpa using c13))
     (try have c13b1_e : decide (a1_0 = 0 && (a1_1 == 0 && ((a1_2.toList.isEmpty)))) = false := by have h_ := c13b1; simp only [hp_nil] at h_; exact h_)
     (try (have c13b2 : (a1_0 == 0 && (a1_1 == 0 && (a1_2.toList == ([] : List UInt8)))) = false := by simpa using c13))
     (try have c13b2_e : (a1_0 == 0 && (a1_1 == 0 && ((a1_2.toList.isEmpty)))) = false := by have h_ := c13b2; simp only [hp_nil] at h_; exact h_)
     (try (have c13b3 : ¬ (a1_0 = 0 && (a1_1 == 0 && (a1_2.toList == ([] : List UInt8)))) := by simpa using c13))
     (try have c13b3_e : ¬ (a1_0 = 0 && (a1_1 == 0 && ((a1_2.toList.isEmpty)))) := by have h_ := c13b3; simp only [hp_nil] at h_; exact h_)
     clear c13
     replace H := Option.bind_eq_some_iff.mp H
     obtain ⟨t159, A160, H⟩ := H
     replace H : (if t159 = true then (some 0) else (some 10)) = some r := H
     have A16 := aM A160
     clear A160
     by_cases c17 : t159 = true
     ·
      subst c17
      have H1 : (some 0) = some r := by rw [if_pos rfl] at H; exact H
      clear H
      have H := H1
      clear H1
      obtain rfl := Option.some.inj H
      have hnb18 := NB158_157.out
      have hnc18 := NB157_158.out
      obtain ⟨hcz19_0, hcz19_1, hcz19_2, hfz19_0, hfz19_1, hfz19_2⟩ := cells3 BK158.out
      obtain ⟨hcz20_0, hcz20_1, hcz20_2, hcz20_3, hcz20_4, hcz20_5, hcz20_6, hcz20_7, hfz20_0, hfz20_1, hfz20_2, hfz20_3, hfz20_4, hfz20_5, hfz20_6, hfz20_7⟩ := cells8 BK157.out
      go_wp2_with (first | ((with_reducible refine gate_callee (f := 71) rfl ?_); refine yC 21 Tryd.func71 #[.agg #[.int .i64 a0_2, .int .i64 a0_3], .agg #[.int .i64 a1_0, .int .i64 a1_1, .string a1_2]] rfl ?_; (with_reducible refine (typ_Fits.calls kj2 a0_2 a0_3 a1_0 a1_1 a1_2 true _ ?side1 A16.out).mono ?_); (case side1 => first | (with_reducible exact HG.out) | exact Glob.below HG.out (yG2 HB GE157.out GE158.out)); rintro e w21 ⟨rfl, hb⟩; refine ⟨_, rfl, ?_⟩; replace BK157 := aM (kB (yK BK157) hb); replace BK158 := aM (kB (yK BK158) hb); replace HB := aM (bP (yG2 HB GE157.out GE158.out) hb); (try clear hb)))
      go_ret
      exact ⟨yE, yG2 HB GE157.out GE158.out⟩
     ·
      replace c17 := Bool.eq_false_iff.mpr c17
      subst c17
      have H1 : (some 10) = some r := by rw [if_neg (show ¬ (false = true) by decide)] at H; exact H
      clear H
      have H := H1
      clear H1
      obtain rfl := Option.some.inj H
      have hnb22 := NB158_157.out
      have hnc22 := NB157_158.out
      obtain ⟨hcz23_0, hcz23_1, hcz23_2, hfz23_0, hfz23_1, hfz23_2⟩ := cells3 BK158.out
      obtain ⟨hcz24_0, hcz24_1, hcz24_2, hcz24_3, hcz24_4, hcz24_5, hcz24_6, hcz24_7, hfz24_0, hfz24_1, hfz24_2, hfz24_3, hfz24_4, hfz24_5, hfz24_6, hfz24_7⟩ := cells8 BK157.out
      go_wp2_with (first | ((with_reducible refine gate_callee (f := 71) rfl ?_); refine yC 21 Tryd.func71 #[.agg #[.int .i64 a0_2, .int .i64 a0_3], .agg #[.int .i64 a1_0, .int .i64 a1_1, .string a1_2]] rfl ?_; (with_reducible refine (typ_Fits.calls kj2 a0_2 a0_3 a1_0 a1_1 a1_2 false _ ?side1 A16.out).mono ?_); (case side1 => first | (with_reducible exact HG.out) | exact Glob.below HG.out (yG2 HB GE157.out GE158.out)); rintro e w25 ⟨rfl, hb⟩; refine ⟨_, rfl, ?_⟩; replace BK157 := aM (kB (yK BK157) hb); replace BK158 := aM (kB (yK BK158) hb); replace HB := aM (bP (yG2 HB GE157.out GE158.out) hb); (try clear hb)))
      go_ret
      exact ⟨yE, yG2 HB GE157.out GE158.out⟩
end Go.Proofs.YtdeophpjammbpaaDoor.HSchemaSets

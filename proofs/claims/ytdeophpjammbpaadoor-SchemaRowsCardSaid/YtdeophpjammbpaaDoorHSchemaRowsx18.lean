/- For Go functions that SchemaRows reaches: Lean functions, and walks that show that each call comes to what its Lean function tells; no condition but those that each theorem states. (Made by a program of this session over the kit's print.py.) -/
import Derived.Test.YtdeophpjammbpaaDoorHSchemaRowsx0
import Derived.Test.YtdeophpjammbpaaDoorHSchemaRowsx3
import Derived.Test.YtdeophpjammbpaaDoorHSchemaRowsx8
import Derived.Test.YtdeophpjammbpaaDoorHSchemaRowsx16
import Derived.Test.YtdeophpjammbpaaDoorHSchemaRowsx17
namespace Go.Proofs.YtdeophpjammbpaaDoor.HSchemaRows
open Go.RowKit Go.Proofs.YtdeophpjammbpaaDoorW.PrintWords Go.Proofs.YtdeophpjammbpaaDoorW.PrintLast Go.Proofs.YtdeophpjammbpaaDoorW.PrintMore
attribute [local go_sem] max2_int min2_int max_two min_two max_three min_three max_four min_four   -- for this text's walks alone
set_option linter.unusedVariables false
set_option linter.unusedSimpArgs false
attribute [local go_sem] hp_s8 hp_s16 hp_s32 hp_s64 hp_m8 hp_m16 hp_m32 hp_m64
/-! ### haulagelaw08_SchemaRows: function 6 -/
mutual
def haulagelaw08_SchemaRows.j0 : Nat → List (S52) → Bool → Int → ByteArray → Int → Int → List (S54) → Option (Bool)
 | 0, _, _, _, _, _, _, _ => none
 | k + 1, x1, x17, x301000, x301001, x301002, x301003, x301004 => if x17 = true then (some true) else ((schema_Row.f k x301000 x301001 x301002 x301003 x301004 x1).bind fun t304 => ((schema_Cells.f k x301000 x301001 x301002 x301003 x301004 x1).bind fun bt305 => ((haulageref08_Row.f k x301000 x301001 x301002 x301003 x301004 x1).bind fun t309 => (if t304 = t309 then (haulagelaw08_SchemaRows.j1 k x1 t304 bt305.1 (bt305.2 != t304) x301000 x301001 x301002 x301003 x301004) else (haulagelaw08_SchemaRows.j1 k x1 t304 bt305.1 true x301000 x301001 x301002 x301003 x301004)))))
def haulagelaw08_SchemaRows.j1 : Nat → List (S52) → Int → List (S103) → Bool → Int → ByteArray → Int → Int → List (S54) → Option (Bool)
 | 0, _, _, _, _, _, _, _, _, _ => none
 | k + 1, x1, x5, x6, x36, x301000, x301001, x301002, x301003, x301004 => if x36 = true then (some false) else (if x5 = 0 then ((haulageref08_Cells.f k x301000 x301001 x301002 x301003 x301004 x1).bind fun t310 => ((haulageref08_SameCells.f k x6 t310).bind fun t313 => (some t313))) else (some ((x6.length : Int) == 0)))
end
def haulagelaw08_SchemaRows.f (k : Nat) (a0_0 : Int) (a0_1 : ByteArray) (a0_2 : Int) (a0_3 : Int) (l0_4 : List (S54)) (l1 : List (S52)) : Option (Bool) := (haulagelaw08_lives.f k).bind fun t301 => (if t301 = true then ((haulagelaw08_Few.f k a0_0 a0_1 a0_2 a0_3 l0_4).bind fun t302 => (if t302 = true then ((haulagelaw08_FewValues.f k l1).bind fun t303 => (haulagelaw08_SchemaRows.j0 k l1 (!t303) a0_0 a0_1 a0_2 a0_3 l0_4)) else (haulagelaw08_SchemaRows.j0 k l1 true a0_0 a0_1 a0_2 a0_3 l0_4))) else (some false))
theorem haulagelaw08_SchemaRows.mono_l : ∀ k, (∀ y0 y1 y2 y3 y4 y5 y6, LeO (haulagelaw08_SchemaRows.j0 k y0 y1 y2 y3 y4 y5 y6) (haulagelaw08_SchemaRows.j0 (k + 1) y0 y1 y2 y3 y4 y5 y6)) ∧ (∀ y0 y1 y2 y3 y4 y5 y6 y7 y8, LeO (haulagelaw08_SchemaRows.j1 k y0 y1 y2 y3 y4 y5 y6 y7 y8) (haulagelaw08_SchemaRows.j1 (k + 1) y0 y1 y2 y3 y4 y5 y6 y7 y8))
 | 0 => ⟨fun _ _ _ _ _ _ _ r h => by simp [haulagelaw08_SchemaRows.j0] at h, fun _ _ _ _ _ _ _ _ _ r h => by simp [haulagelaw08_SchemaRows.j1] at h⟩
 | k + 1 => by
  obtain ⟨ih0, ih1⟩ := haulagelaw08_SchemaRows.mono_l k
  refine ⟨?_, ?_⟩
  ·
   intro y0 y1 y2 y3 y4 y5 y6
   unfold haulagelaw08_SchemaRows.j0
   repeat' first
   | (with_reducible exact ih0 _ _ _ _ _ _ _)
   | (with_reducible exact ih1 _ _ _ _ _ _ _ _ _)
   | (with_reducible exact haulagelaw08_Few.mono _ _ _ _ _ _)
   | (with_reducible exact haulagelaw08_FewValues.mono _ _)
   | (with_reducible exact haulagelaw08_lives.mono _)
   | (with_reducible exact haulageref08_Cells.mono _ _ _ _ _ _ _)
   | (with_reducible exact haulageref08_Row.mono _ _ _ _ _ _ _)
   | (with_reducible exact haulageref08_SameCells.mono _ _ _)
   | (with_reducible exact schema_Cells.mono _ _ _ _ _ _ _)
   | (with_reducible exact schema_Row.mono _ _ _ _ _ _ _)
   | (with_reducible exact LeO.refl _)
   | (with_reducible exact LeO.none _)
   | (with_reducible refine LeO.ite ?_ ?_)
   | (with_reducible refine LeO.bind ?_ (fun _ => ?_))
   | exact ih0 _ _ _ _ _ _ _
   | exact ih1 _ _ _ _ _ _ _ _ _
   | exact haulagelaw08_Few.mono _ _ _ _ _ _
   | exact haulagelaw08_FewValues.mono _ _
   | exact haulagelaw08_lives.mono _
   | exact haulageref08_Cells.mono _ _ _ _ _ _ _
   | exact haulageref08_Row.mono _ _ _ _ _ _ _
   | exact haulageref08_SameCells.mono _ _ _
   | exact schema_Cells.mono _ _ _ _ _ _ _
   | exact schema_Row.mono _ _ _ _ _ _ _
   | exact LeO.none _
   | refine LeO.ite ?_ ?_
   | refine LeO.bind ?_ (fun _ => ?_)
  ·
   intro y0 y1 y2 y3 y4 y5 y6 y7 y8
   unfold haulagelaw08_SchemaRows.j1
   repeat' first
   | (with_reducible exact ih0 _ _ _ _ _ _ _)
   | (with_reducible exact ih1 _ _ _ _ _ _ _ _ _)
   | (with_reducible exact haulagelaw08_Few.mono _ _ _ _ _ _)
   | (with_reducible exact haulagelaw08_FewValues.mono _ _)
   | (with_reducible exact haulagelaw08_lives.mono _)
   | (with_reducible exact haulageref08_Cells.mono _ _ _ _ _ _ _)
   | (with_reducible exact haulageref08_Row.mono _ _ _ _ _ _ _)
   | (with_reducible exact haulageref08_SameCells.mono _ _ _)
   | (with_reducible exact schema_Cells.mono _ _ _ _ _ _ _)
   | (with_reducible exact schema_Row.mono _ _ _ _ _ _ _)
   | (with_reducible exact LeO.refl _)
   | (with_reducible exact LeO.none _)
   | (with_reducible refine LeO.ite ?_ ?_)
   | (with_reducible refine LeO.bind ?_ (fun _ => ?_))
   | exact ih0 _ _ _ _ _ _ _
   | exact ih1 _ _ _ _ _ _ _ _ _
   | exact haulagelaw08_Few.mono _ _ _ _ _ _
   | exact haulagelaw08_FewValues.mono _ _
   | exact haulagelaw08_lives.mono _
   | exact haulageref08_Cells.mono _ _ _ _ _ _ _
   | exact haulageref08_Row.mono _ _ _ _ _ _ _
   | exact haulageref08_SameCells.mono _ _ _
   | exact schema_Cells.mono _ _ _ _ _ _ _
   | exact schema_Row.mono _ _ _ _ _ _ _
   | exact LeO.none _
   | refine LeO.ite ?_ ?_
   | refine LeO.bind ?_ (fun _ => ?_)
theorem haulagelaw08_SchemaRows.mono : ∀ a0 a1 a2 a3 a4 a5 k, LeO (haulagelaw08_SchemaRows.f k a0 a1 a2 a3 a4 a5) (haulagelaw08_SchemaRows.f (k + 1) a0 a1 a2 a3 a4 a5) := by
 intro a0 a1 a2 a3 a4 a5 k
 obtain ⟨ih0, ih1⟩ := haulagelaw08_SchemaRows.mono_l k
 unfold haulagelaw08_SchemaRows.f
 repeat' first
   | (with_reducible exact ih0 _ _ _ _ _ _ _)
   | (with_reducible exact ih1 _ _ _ _ _ _ _ _ _)
   | (with_reducible exact haulagelaw08_Few.mono _ _ _ _ _ _)
   | (with_reducible exact haulagelaw08_FewValues.mono _ _)
   | (with_reducible exact haulagelaw08_lives.mono _)
   | (with_reducible exact haulageref08_Cells.mono _ _ _ _ _ _ _)
   | (with_reducible exact haulageref08_Row.mono _ _ _ _ _ _ _)
   | (with_reducible exact haulageref08_SameCells.mono _ _ _)
   | (with_reducible exact schema_Cells.mono _ _ _ _ _ _ _)
   | (with_reducible exact schema_Row.mono _ _ _ _ _ _ _)
   | (with_reducible exact LeO.refl _)
   | (with_reducible exact LeO.none _)
   | (with_reducible refine LeO.ite ?_ ?_)
   | (with_reducible refine LeO.bind ?_ (fun _ => ?_))
   | exact ih0 _ _ _ _ _ _ _
   | exact ih1 _ _ _ _ _ _ _ _ _
   | exact haulagelaw08_Few.mono _ _ _ _ _ _
   | exact haulagelaw08_FewValues.mono _ _
   | exact haulagelaw08_lives.mono _
   | exact haulageref08_Cells.mono _ _ _ _ _ _ _
   | exact haulageref08_Row.mono _ _ _ _ _ _ _
   | exact haulageref08_SameCells.mono _ _ _
   | exact schema_Cells.mono _ _ _ _ _ _ _
   | exact schema_Row.mono _ _ _ _ _ _ _
   | exact LeO.none _
   | refine LeO.ite ?_ ?_
   | refine LeO.bind ?_ (fun _ => ?_)
set_option maxHeartbeats 8000000 in
set_option maxRecDepth 100000 in
theorem haulagelaw08_SchemaRows.calls (k : Nat) (a0_0 : Int) (a0_1 : ByteArray) (a0_2 : Int) (a0_3 : Int) (A0_4 : Option Addr) (c0_4 : Nat) (l0_4 : List (S54)) (A1 : Option Addr) (c1 : Nat) (l1 : List (S52)) (r : Bool) (w : World) (hr0_4 : Kd.C k54 w A0_4 l0_4.length l0_4) (hc0_4 : l0_4.length ≤ c0_4) (hr1 : Kd.C k52 w A1 l1.length l1) (hc1 : l1.length ≤ c1) (hG : Glob w) (h : haulagelaw08_SchemaRows.f k a0_0 a0_1 a0_2 a0_3 l0_4 l1 = some r) :
  Calls Tryd.prog 6 #[.agg #[.int .i64 a0_0, .string a0_1, .int .i64 a0_2, .int .i64 a0_3, .slice A0_4 l0_4.length c0_4], .slice A1 l1.length c1] w fun e w' => e = .returned (.bool r) ∧ Below w.heap.size w w' := by
 have hu24 := Tryd.underlying24
 have HR0_4 := aM hr0_4
 have HC0_4 := aM hc0_4
 clear hr0_4 hc0_4
 have HR1 := aM hr1
 have HC1 := aM hc1
 clear hr1 hc1
 have HG := aM hG
 clear hG
 have HB := aM (Below.refl w.heap.size w)
 have H : ((haulagelaw08_lives.f k).bind fun t301 => (if t301 = true then ((haulagelaw08_Few.f k a0_0 a0_1 a0_2 a0_3 l0_4).bind fun t302 => (if t302 = true then ((haulagelaw08_FewValues.f k l1).bind fun t303 => (haulagelaw08_SchemaRows.j0 k l1 (!t303) a0_0 a0_1 a0_2 a0_3 l0_4)) else (haulagelaw08_SchemaRows.j0 k l1 true a0_0 a0_1 a0_2 a0_3 l0_4))) else (some false))) = some r := h
 clear h
 replace H := Option.bind_eq_some_iff.mp H
 obtain ⟨t301, A30, H⟩ := H
 replace H : (if t301 = true then ((haulagelaw08_Few.f k a0_0 a0_1 a0_2 a0_3 l0_4).bind fun t302 => (if t302 = true then ((haulagelaw08_FewValues.f k l1).bind fun t303 => (haulagelaw08_SchemaRows.j0 k l1 (!t303) a0_0 a0_1 a0_2 a0_3 l0_4)) else (haulagelaw08_SchemaRows.j0 k l1 true a0_0 a0_1 a0_2 a0_3 l0_4))) else (some false)) = some r := H
 have A3 := aM A30
 clear A30
 by_cases c4 : t301 = true
 ·
  subst c4
  have H1 : ((haulagelaw08_Few.f k a0_0 a0_1 a0_2 a0_3 l0_4).bind fun t302 => (if t302 = true then ((haulagelaw08_FewValues.f k l1).bind fun t303 => (haulagelaw08_SchemaRows.j0 k l1 (!t303) a0_0 a0_1 a0_2 a0_3 l0_4)) else (haulagelaw08_SchemaRows.j0 k l1 true a0_0 a0_1 a0_2 a0_3 l0_4))) = some r := by rw [if_pos rfl] at H; exact H
  clear H
  have H := H1
  clear H1
  have HC5 := aM H
  clear H
  go_enter Tryd.func6, Tryd.ntmps6
  go_upto_region 3 with (first | ((with_reducible refine gate_dst (N := 2) rfl ?_); refine yX (N := 2) (cs := #[.int .i64 a0_0, .string a0_1, .int .i64 a0_2, .int .i64 a0_3, .slice A0_4 l0_4.length c0_4]) (t := 24) ?_; intro gb300 hg w6 hbox hb; have BK300 := aM (hbox); have GW300 := yZ hg (yB HB); have GE300 := yZ hg (yB HB); replace HB := aM (bP (yB HB) hb); clear hb hbox hg) | ((with_reducible refine gate_callee (f := 19) rfl ?_); refine yC 8 Tryd.func19 #[] rfl ?_; (with_reducible refine (haulagelaw08_lives.calls k  true _ ?side1 A3.out).mono ?_); (case side1 => first | (with_reducible exact HG.out) | exact Glob.below HG.out (yG1 HB GE300.out)); rintro e w7 ⟨rfl, hb⟩; refine ⟨_, rfl, ?_⟩; replace BK300 := aM (kB (yK BK300) hb); replace HB := aM (bP (yG1 HB GE300.out) hb); (try clear hb)))
  (try simp only [Act.put, s1_, s2_, s3_])
  go_cut [17] (fun v17 wc => ∃ (kq : Nat) (x17_4 : Bool), v17 = .bool x17_4 ∧ Aside0 (haulagelaw08_SchemaRows.j0 kq l1 x17_4 a0_0 a0_1 a0_2 a0_3 l0_4 = some r) ∧ Aside0 (kq ≤ k) ∧ Aside0 (wc.heap[gb300]? = some (.cells #[.int .i64 a0_0, .string a0_1, .int .i64 a0_2, .int .i64 a0_3, (.slice A0_4 l0_4.length c0_4)] 24 (0, 0))) ∧ Aside0 (Below w.heap.size w wc))
  case first =>
   have H := HC5.out
   clear HC5
   replace H := Option.bind_eq_some_iff.mp H
   obtain ⟨t302, A80, H⟩ := H
   replace H : (if t302 = true then ((haulagelaw08_FewValues.f k l1).bind fun t303 => (haulagelaw08_SchemaRows.j0 k l1 (!t303) a0_0 a0_1 a0_2 a0_3 l0_4)) else (haulagelaw08_SchemaRows.j0 k l1 true a0_0 a0_1 a0_2 a0_3 l0_4)) = some r := H
   have A8 := aM A80
   clear A80
   by_cases c9 : t302 = true
   ·
    subst c9
    have H1 : ((haulagelaw08_FewValues.f k l1).bind fun t303 => (haulagelaw08_SchemaRows.j0 k l1 (!t303) a0_0 a0_1 a0_2 a0_3 l0_4)) = some r := by rw [if_pos rfl] at H; exact H
    clear H
    have H := H1
    clear H1
    replace H := Option.bind_eq_some_iff.mp H
    obtain ⟨t303, A100, H⟩ := H
    replace H : (haulagelaw08_SchemaRows.j0 k l1 (!t303) a0_0 a0_1 a0_2 a0_3 l0_4) = some r := H
    have A10 := aM A100
    clear A100
    have H' := aM H
    clear H
    obtain ⟨hcz11_0, hcz11_1, hcz11_2, hcz11_3, hcz11_4, hfz11_0, hfz11_1, hfz11_2, hfz11_3, hfz11_4⟩ := cells5 BK300.out
    go_wp2_with (first | ((with_reducible refine gate_callee (f := 14) rfl ?_); refine yC 11 Tryd.func14 #[.agg #[.int .i64 a0_0, .string a0_1, .int .i64 a0_2, .int .i64 a0_3, .slice A0_4 l0_4.length c0_4]] rfl ?_; (with_reducible refine (haulagelaw08_Few.calls k a0_0 a0_1 a0_2 a0_3 _ _ l0_4 true _ ?side1 ?side2 A8.out).mono ?_); (case side1 => exact yW (Kd.C_below HR0_4.out HB.out)); (case side2 => exact HC0_4.out); rintro e w12 ⟨rfl, hb⟩; refine ⟨_, rfl, ?_⟩; replace BK300 := aM (kB (yK BK300) hb); replace HB := aM (bP (yG1 HB GE300.out) hb); (try clear hb)) | (go_at_call 15; (with_reducible refine (haulagelaw08_FewValues.calls k _ _ l1 t303 _ ?side1 ?side2 A10.out).mono ?_); (case side1 => exact yW (Kd.C_below HR1.out HB.out)); (case side2 => exact HC1.out); rintro e w' ⟨rfl, ⟨nd, rfl⟩⟩))
    go_meet
    case rel => exact ⟨_, (!t303), yS, H', ⟨yO⟩, ⟨yK BK300⟩, ⟨yG1 HB GE300.out⟩⟩
   ·
    replace c9 := Bool.eq_false_iff.mpr c9
    subst c9
    have H1 : (haulagelaw08_SchemaRows.j0 k l1 true a0_0 a0_1 a0_2 a0_3 l0_4) = some r := by rw [if_neg (show ¬ (false = true) by decide)] at H; exact H
    clear H
    have H := H1
    clear H1
    have H' := aM H
    clear H
    obtain ⟨hcz13_0, hcz13_1, hcz13_2, hcz13_3, hcz13_4, hfz13_0, hfz13_1, hfz13_2, hfz13_3, hfz13_4⟩ := cells5 BK300.out
    go_wp2_with (first | ((with_reducible refine gate_callee (f := 14) rfl ?_); refine yC 11 Tryd.func14 #[.agg #[.int .i64 a0_0, .string a0_1, .int .i64 a0_2, .int .i64 a0_3, .slice A0_4 l0_4.length c0_4]] rfl ?_; (with_reducible refine (haulagelaw08_Few.calls k a0_0 a0_1 a0_2 a0_3 _ _ l0_4 false _ ?side1 ?side2 A8.out).mono ?_); (case side1 => exact yW (Kd.C_below HR0_4.out HB.out)); (case side2 => exact HC0_4.out); rintro e w14 ⟨rfl, hb⟩; refine ⟨_, rfl, ?_⟩; replace BK300 := aM (kB (yK BK300) hb); replace HB := aM (bP (yG1 HB GE300.out) hb); (try clear hb)))
    go_meet
    case rel => exact ⟨_, (true), yS, H', ⟨yO⟩, ⟨yK BK300⟩, ⟨yG1 HB GE300.out⟩⟩
  case rest =>
   clear HC5
   try clear c1
   try clear p2
   try clear c4
   try clear c6
   try clear c9
   try clear c14
   try clear hcz11_0 hcz11_1 hcz11_2 hcz11_3 hcz11_4
   try clear hcz13_0 hcz13_1 hcz13_2 hcz13_3 hcz13_4
   try clear hfz11_0 hfz11_1 hfz11_2 hfz11_3 hfz11_4
   try clear hfz13_0 hfz13_1 hfz13_2 hfz13_3 hfz13_4
   obtain ⟨kq, x17_4, rfl, HA, HJ4, BK300, HB⟩ := hcut
   cases kq with
   | zero => exact absurd HA.out (by simp [haulagelaw08_SchemaRows.j0])
   | succ kj4 =>
    have H := HA.out
    clear HA
    simp only [haulagelaw08_SchemaRows.j0] at H
    by_cases c15 : x17_4 = true
    ·
     subst c15
     have H1 : (some true) = some r := by rw [if_pos rfl] at H; exact H
     clear H
     have H := H1
     clear H1
     obtain rfl := Option.some.inj H
     go_wp2
     go_ret
     exact ⟨yE, yG1 HB GE300.out⟩
    ·
     replace c15 := Bool.eq_false_iff.mpr c15
     subst c15
     have H1 : ((schema_Row.f kj4 a0_0 a0_1 a0_2 a0_3 l0_4 l1).bind fun t304 => ((schema_Cells.f kj4 a0_0 a0_1 a0_2 a0_3 l0_4 l1).bind fun bt305 => ((haulageref08_Row.f kj4 a0_0 a0_1 a0_2 a0_3 l0_4 l1).bind fun t309 => (if t304 = t309 then (haulagelaw08_SchemaRows.j1 kj4 l1 t304 bt305.1 (bt305.2 != t304) a0_0 a0_1 a0_2 a0_3 l0_4) else (haulagelaw08_SchemaRows.j1 kj4 l1 t304 bt305.1 true a0_0 a0_1 a0_2 a0_3 l0_4))))) = some r := by rw [if_neg (show ¬ (false = true) by decide)] at H; exact H
     clear H
     have H := H1
     clear H1
     replace H := Option.bind_eq_some_iff.mp H
     obtain ⟨t304, A160, H⟩ := H
     replace H : ((schema_Cells.f kj4 a0_0 a0_1 a0_2 a0_3 l0_4 l1).bind fun bt305 => ((haulageref08_Row.f kj4 a0_0 a0_1 a0_2 a0_3 l0_4 l1).bind fun t309 => (if t304 = t309 then (haulagelaw08_SchemaRows.j1 kj4 l1 t304 bt305.1 (bt305.2 != t304) a0_0 a0_1 a0_2 a0_3 l0_4) else (haulagelaw08_SchemaRows.j1 kj4 l1 t304 bt305.1 true a0_0 a0_1 a0_2 a0_3 l0_4)))) = some r := H
     have A16 := aM A160
     clear A160
     replace H := Option.bind_eq_some_iff.mp H
     obtain ⟨⟨t305, t308⟩, A170, H⟩ := H
     replace H : ((haulageref08_Row.f kj4 a0_0 a0_1 a0_2 a0_3 l0_4 l1).bind fun t309 => (if t304 = t309 then (haulagelaw08_SchemaRows.j1 kj4 l1 t304 t305 (t308 != t304) a0_0 a0_1 a0_2 a0_3 l0_4) else (haulagelaw08_SchemaRows.j1 kj4 l1 t304 t305 true a0_0 a0_1 a0_2 a0_3 l0_4))) = some r := H
     have A17 := aM A170
     clear A170
     have HC18 := aM H
     clear H
     obtain ⟨hcz19_0, hcz19_1, hcz19_2, hcz19_3, hcz19_4, hfz19_0, hfz19_1, hfz19_2, hfz19_3, hfz19_4⟩ := cells5 BK300.out
     go_upto_region 7 with (first | ((with_reducible refine gate_callee (f := 24) rfl ?_); refine yC 20 Tryd.func24 #[.agg #[.int .i64 a0_0, .string a0_1, .int .i64 a0_2, .int .i64 a0_3, .slice A0_4 l0_4.length c0_4], .slice A1 l1.length c1] rfl ?_; (with_reducible refine (schema_Row.calls kj4 a0_0 a0_1 a0_2 a0_3 _ _ l0_4 _ _ l1 t304 _ ?side1 ?side2 ?side3 ?side4 ?side5 A16.out).mono ?_); (case side1 => exact yW (Kd.C_below HR0_4.out HB.out)); (case side2 => exact HC0_4.out); (case side3 => exact yW (Kd.C_below HR1.out HB.out)); (case side4 => exact HC1.out); (case side5 => first | (with_reducible exact HG.out) | exact Glob.below HG.out (yG1 HB GE300.out)); rintro e w20 ⟨rfl, hb⟩; refine ⟨_, rfl, ?_⟩; replace BK300 := aM (kB (yK BK300) hb); replace HB := aM (bP (yG1 HB GE300.out) hb); (try clear hb); obtain ⟨hcz21_0, hcz21_1, hcz21_2, hcz21_3, hcz21_4, hfz21_0, hfz21_1, hfz21_2, hfz21_3, hfz21_4⟩ := cells5 BK300.out) | ((with_reducible refine gate_callee (f := 32) rfl ?_); refine yC 24 Tryd.func32 #[.agg #[.int .i64 a0_0, .string a0_1, .int .i64 a0_2, .int .i64 a0_3, .slice A0_4 l0_4.length c0_4], .slice A1 l1.length c1] rfl ?_; (with_reducible refine (schema_Cells.calls kj4 a0_0 a0_1 a0_2 a0_3 _ _ l0_4 _ _ l1 t305 t308 _ ?side1 ?side2 ?side3 ?side4 ?side5 A17.out).mono ?_); (case side1 => exact yW (Kd.C_below HR0_4.out HB.out)); (case side2 => exact HC0_4.out); (case side3 => exact yW (Kd.C_below HR1.out HB.out)); (case side4 => exact HC1.out); (case side5 => first | (with_reducible exact HG.out) | exact Glob.below HG.out (yG1 HB GE300.out)); rintro e w22 ⟨v306, rfl, ho0, hb⟩; refine ⟨_, rfl, ?_⟩; have HO307 := aM (Kd.R_lower ho0 (bZ (yG1 HB GE300.out))); replace BK300 := aM (kB (yK BK300) hb); replace HB := aM (bP (yG1 HB GE300.out) hb); (try clear hb); (try clear ho0)))
     (try simp only [Act.put, s1_, s2_, s3_])
     go_cut [36] (fun v36 wc => ∃ (kq : Nat) (x36_17 : Bool), v36 = .bool x36_17 ∧ Aside0 (haulagelaw08_SchemaRows.j1 kq l1 t304 t305 x36_17 a0_0 a0_1 a0_2 a0_3 l0_4 = some r) ∧ Aside0 (kq ≤ kj4) ∧ Aside0 (Kd.R k103 103 wc w.heap.size (fun _ => True) v306 t305) ∧ Aside0 (wc.heap[gb300]? = some (.cells #[.int .i64 a0_0, .string a0_1, .int .i64 a0_2, .int .i64 a0_3, (.slice A0_4 l0_4.length c0_4)] 24 (0, 0))) ∧ Aside0 (Below w.heap.size w wc))
     case first =>
      have H := HC18.out
      clear HC18
      replace H := Option.bind_eq_some_iff.mp H
      obtain ⟨t309, A230, H⟩ := H
      replace H : (if t304 = t309 then (haulagelaw08_SchemaRows.j1 kj4 l1 t304 t305 (t308 != t304) a0_0 a0_1 a0_2 a0_3 l0_4) else (haulagelaw08_SchemaRows.j1 kj4 l1 t304 t305 true a0_0 a0_1 a0_2 a0_3 l0_4)) = some r := H
      have A23 := aM A230
      clear A230
      by_cases c24 : t304 = t309
      ·
       rw [if_pos c24] at H
       have c24b0 : (t304 == t309) = true := beq_iff_eq.mpr c24
       have c24b1 : (t304 != t309) = false := bne_eq_false_iff_eq.mpr c24
       clear c24
       (first | rw [c24b0] | (simp only [i64_w, i32_w]; rw [c24b0]) | skip)
       have H' := aM H
       clear H
       obtain ⟨hcz25_0, hcz25_1, hcz25_2, hcz25_3, hcz25_4, hfz25_0, hfz25_1, hfz25_2, hfz25_3, hfz25_4⟩ := cells5 BK300.out
       go_wp2_with (first | ((with_reducible refine gate_callee (f := 17) rfl ?_); refine yC 30 Tryd.func17 #[.agg #[.int .i64 a0_0, .string a0_1, .int .i64 a0_2, .int .i64 a0_3, .slice A0_4 l0_4.length c0_4], .slice A1 l1.length c1] rfl ?_; (with_reducible refine (haulageref08_Row.calls kj4 a0_0 a0_1 a0_2 a0_3 _ _ l0_4 _ _ l1 t309 _ ?side1 ?side2 ?side3 ?side4 A23.out).mono ?_); (case side1 => exact yW (Kd.C_below HR0_4.out HB.out)); (case side2 => exact HC0_4.out); (case side3 => exact yW (Kd.C_below HR1.out HB.out)); (case side4 => exact HC1.out); rintro e w26 ⟨rfl, hb⟩; refine ⟨_, rfl, ?_⟩; replace HO307 := aM (Kd.R_below (yR HO307.out) hb); replace BK300 := aM (kB (yK BK300) hb); replace HB := aM (bP (yG1 HB GE300.out) hb); (try clear hb)))
       go_meet
       case rel => exact ⟨_, ((t308 != t304)), yS, H', ⟨by have := HJ4.out; first | omega | exact Nat.le_refl _⟩, ⟨yR HO307.out⟩, ⟨yK BK300⟩, ⟨yG1 HB GE300.out⟩⟩
      ·
       rw [if_neg c24] at H
       have c24b0 : (t304 == t309) = false := beq_eq_false_iff_ne.mpr c24
       have c24b1 : (t304 != t309) = true := bne_iff_ne.mpr c24
       (first | rw [c24b0] | (simp only [i64_w, i32_w]; rw [c24b0]) | skip)
       have H' := aM H
       clear H
       obtain ⟨hcz27_0, hcz27_1, hcz27_2, hcz27_3, hcz27_4, hfz27_0, hfz27_1, hfz27_2, hfz27_3, hfz27_4⟩ := cells5 BK300.out
       go_wp2_with (first | ((with_reducible refine gate_callee (f := 17) rfl ?_); refine yC 30 Tryd.func17 #[.agg #[.int .i64 a0_0, .string a0_1, .int .i64 a0_2, .int .i64 a0_3, .slice A0_4 l0_4.length c0_4], .slice A1 l1.length c1] rfl ?_; (with_reducible refine (haulageref08_Row.calls kj4 a0_0 a0_1 a0_2 a0_3 _ _ l0_4 _ _ l1 t309 _ ?side1 ?side2 ?side3 ?side4 A23.out).mono ?_); (case side1 => exact yW (Kd.C_below HR0_4.out HB.out)); (case side2 => exact HC0_4.out); (case side3 => exact yW (Kd.C_below HR1.out HB.out)); (case side4 => exact HC1.out); rintro e w28 ⟨rfl, hb⟩; refine ⟨_, rfl, ?_⟩; replace HO307 := aM (Kd.R_below (yR HO307.out) hb); replace BK300 := aM (kB (yK BK300) hb); replace HB := aM (bP (yG1 HB GE300.out) hb); (try clear hb)))
       go_meet
       case rel => exact ⟨_, (true), yS, H', ⟨by have := HJ4.out; first | omega | exact Nat.le_refl _⟩, ⟨yR HO307.out⟩, ⟨yK BK300⟩, ⟨yG1 HB GE300.out⟩⟩
     case rest =>
      clear HC18
      try clear c1
      try clear c2
      try clear p2
      try clear c3
      try clear c4
      try clear c6
      try clear c9
      try clear c14
      try clear c15
      try clear c17
      try clear c19
      try clear c24
      try clear c24b0
      try clear c24b1
      try clear hcz11_0 hcz11_1 hcz11_2 hcz11_3 hcz11_4
      try clear hcz13_0 hcz13_1 hcz13_2 hcz13_3 hcz13_4
      try clear hcz19_0 hcz19_1 hcz19_2 hcz19_3 hcz19_4
      try clear hcz21_0 hcz21_1 hcz21_2 hcz21_3 hcz21_4
      try clear hcz25_0 hcz25_1 hcz25_2 hcz25_3 hcz25_4
      try clear hcz27_0 hcz27_1 hcz27_2 hcz27_3 hcz27_4
      try clear hfz11_0 hfz11_1 hfz11_2 hfz11_3 hfz11_4
      try clear hfz13_0 hfz13_1 hfz13_2 hfz13_3 hfz13_4
      try clear hfz19_0 hfz19_1 hfz19_2 hfz19_3 hfz19_4
      try clear hfz21_0 hfz21_1 hfz21_2 hfz21_3 hfz21_4
      try clear hfz25_0 hfz25_1 hfz25_2 hfz25_3 hfz25_4
      try clear hfz27_0 hfz27_1 hfz27_2 hfz27_3 hfz27_4
      try clear p2
      obtain ⟨kq, x36_17, rfl, HA, HJ17, HO_6, BK300, HB⟩ := hcut
      cases kq with
      | zero => exact absurd HA.out (by simp [haulagelaw08_SchemaRows.j1])
      | succ kj17 =>
       have H := HA.out
       clear HA
       simp only [haulagelaw08_SchemaRows.j1] at H
       by_cases c29 : x36_17 = true
       ·
        subst c29
        have H1 : (some false) = some r := by rw [if_pos rfl] at H; exact H
        clear H
        have H := H1
        clear H1
        obtain rfl := Option.some.inj H
        go_wp2
        go_ret
        exact ⟨yE, yG1 HB GE300.out⟩
       ·
        replace c29 := Bool.eq_false_iff.mpr c29
        subst c29
        have H1 : (if t304 = 0 then ((haulageref08_Cells.f kj17 a0_0 a0_1 a0_2 a0_3 l0_4 l1).bind fun t310 => ((haulageref08_SameCells.f kj17 t305 t310).bind fun t313 => (some t313))) else (some ((t305.length : Int) == 0))) = some r := by rw [if_neg (show ¬ (false = true) by decide)] at H; exact H
        clear H
        have H := H1
        clear H1
        by_cases c30 : t304 = 0
        ·
         rw [if_pos c30] at H
         have c30b0 : (t304 == 0) = true := beq_iff_eq.mpr c30
         have c30b1 : (t304 != 0) = false := bne_eq_false_iff_eq.mpr c30
         clear c30
         replace H := Option.bind_eq_some_iff.mp H
         obtain ⟨t310, A310, H⟩ := H
         replace H : ((haulageref08_SameCells.f kj17 t305 t310).bind fun t313 => (some t313)) = some r := H
         have A31 := aM A310
         clear A310
         replace H := Option.bind_eq_some_iff.mp H
         obtain ⟨t313, A320, H⟩ := H
         replace H : (some t313) = some r := H
         have A32 := aM A320
         clear A320
         obtain rfl := Option.some.inj H
         obtain ⟨hcz33_0, hcz33_1, hcz33_2, hcz33_3, hcz33_4, hfz33_0, hfz33_1, hfz33_2, hfz33_3, hfz33_4⟩ := cells5 BK300.out
         go_wp2_with (first | ((with_reducible refine gate_callee (f := 34) rfl ?_); refine yC 45 Tryd.func34 #[.agg #[.int .i64 a0_0, .string a0_1, .int .i64 a0_2, .int .i64 a0_3, .slice A0_4 l0_4.length c0_4], .slice A1 l1.length c1] rfl ?_; (with_reducible refine (haulageref08_Cells.calls kj17 a0_0 a0_1 a0_2 a0_3 _ _ l0_4 _ _ l1 t310 _ ?side1 ?side2 ?side3 ?side4 A31.out).mono ?_); (case side1 => exact yW (Kd.C_below HR0_4.out HB.out)); (case side2 => exact HC0_4.out); (case side3 => exact yW (Kd.C_below HR1.out HB.out)); (case side4 => exact HC1.out); rintro e w34 ⟨v311, rfl, ho0, hb⟩; refine ⟨_, rfl, ?_⟩; have HO312 := aM (Kd.R_lower (Kd.R_new' ho0 (Kd.R_lt (yR HO_6.out))) (bZ (yG1 HB GE300.out))); replace HO_6 := aM (Kd.R_elder' (yR HO_6.out) (Kd.R_base ho0) hb); replace BK300 := aM (kB (yK BK300) hb); replace HB := aM (bP (yG1 HB GE300.out) hb); (try clear hb); (try clear ho0); obtain ⟨Ao35, co35, eo35⟩ := Kd.R_slice HO_6.out; subst eo35; obtain ⟨Ao36, co36, eo36⟩ := Kd.R_slice HO312.out; subst eo36) | ((with_reducible refine gate_callee (f := 33) rfl ?_); refine yC 46 Tryd.func33 #[.slice Ao35 t305.length co35, .slice Ao36 t310.length co36] rfl ?_; (with_reducible refine (haulageref08_SameCells.calls kj17 _ _ t305 _ _ t310 t313 _ ?side1 ?side2 ?side3 ?side4 A32.out).mono ?_); (case side1 => exact yW (Kd.R_reads' HO_6.out).2.2); (case side2 => exact (Kd.R_reads' HO_6.out).2.1); (case side3 => exact yW (Kd.R_reads' HO312.out).2.2); (case side4 => exact (Kd.R_reads' HO312.out).2.1); rintro e w' ⟨rfl, ⟨nd, rfl⟩⟩; refine ⟨_, rfl, ?_⟩))
         go_ret
         exact ⟨yE, yG1 HB GE300.out⟩
        ·
         rw [if_neg c30] at H
         have c30b0 : (t304 == 0) = false := beq_eq_false_iff_ne.mpr c30
         have c30b1 : (t304 != 0) = true := bne_iff_ne.mpr c30
         obtain rfl := Option.some.inj H
         obtain ⟨Ao37, co37, eo37⟩ := Kd.R_slice HO_6.out
         subst eo37
         go_wp2
         go_ret
         exact ⟨yE, yG1 HB GE300.out⟩
 ·
  replace c4 := Bool.eq_false_iff.mpr c4
  subst c4
  have H1 : (some false) = some r := by rw [if_neg (show ¬ (false = true) by decide)] at H; exact H
  clear H
  have H := H1
  clear H1
  obtain rfl := Option.some.inj H
  go_enter Tryd.func6, Tryd.ntmps6
  go_wp2_with (first | ((with_reducible refine gate_dst (N := 2) rfl ?_); refine yX (N := 2) (cs := #[.int .i64 a0_0, .string a0_1, .int .i64 a0_2, .int .i64 a0_3, .slice A0_4 l0_4.length c0_4]) (t := 24) ?_; intro gb300 hg w38 hbox hb; have BK300 := aM (hbox); have GW300 := yZ hg (yB HB); have GE300 := yZ hg (yB HB); replace HB := aM (bP (yB HB) hb); clear hb hbox hg) | ((with_reducible refine gate_callee (f := 19) rfl ?_); refine yC 8 Tryd.func19 #[] rfl ?_; (with_reducible refine (haulagelaw08_lives.calls k  false _ ?side1 A3.out).mono ?_); (case side1 => first | (with_reducible exact HG.out) | exact Glob.below HG.out (yG1 HB GE300.out)); rintro e w39 ⟨rfl, hb⟩; refine ⟨_, rfl, ?_⟩; replace BK300 := aM (kB (yK BK300) hb); replace HB := aM (bP (yG1 HB GE300.out) hb); (try clear hb)))
  go_ret
  exact ⟨yE, yG1 HB GE300.out⟩
end Go.Proofs.YtdeophpjammbpaaDoor.HSchemaRows

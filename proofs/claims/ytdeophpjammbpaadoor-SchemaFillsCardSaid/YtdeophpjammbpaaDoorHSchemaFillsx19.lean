/- For Go functions that SchemaFills reaches: Lean functions, and walks that show that each call comes to what its Lean function tells; no condition but those that each theorem states. (Made by a program of this session over the kit's print.py.) -/
import Derived.Test.YtdeophpjammbpaaDoorHSchemaFillsx0
import Derived.Test.YtdeophpjammbpaaDoorHSchemaFillsx2
import Derived.Test.YtdeophpjammbpaaDoorHSchemaFillsx9
import Derived.Test.YtdeophpjammbpaaDoorHSchemaFillsx18
namespace Go.Proofs.YtdeophpjammbpaaDoor.HSchemaFills
open Go.RowKit Go.Proofs.YtdeophpjammbpaaDoorW.PrintWords Go.Proofs.YtdeophpjammbpaaDoorW.PrintLast Go.Proofs.YtdeophpjammbpaaDoorW.PrintMore
attribute [local go_sem] max2_int min2_int max_two min_two max_three min_three max_four min_four   -- for this text's walks alone
set_option linter.unusedVariables false
set_option linter.unusedSimpArgs false
attribute [local go_sem] hp_s8 hp_s16 hp_s32 hp_s64 hp_m8 hp_m16 hp_m32 hp_m64
/-! ### haulagelaw08_SchemaFills: function 4 -/
def haulagelaw08_SchemaFills.j0 : Nat → List (S96) → Bool → Int → ByteArray → Int → Int → List (S54) → Option (Bool)
 | 0, _, _, _, _, _, _, _ => none
 | k + 1, x1, x18, x319000, x319001, x319002, x319003, x319004 => if x18 = true then (some true) else ((schema_Fill.f k x319000 x319001 x319002 x319003 x319004 x1).bind fun bt322 => ((haulageref08_Fill.f k x319000 x319001 x319002 x319003 x319004 x1).bind fun bt326 => ((haulageref08_SameRow.f k bt322.1 bt326.1).bind fun t330 => (if t330 = true then (if bt322.2 = bt326.2 then (if bt322.2 = 0 then ((schema_Row.f k x319000 x319001 x319002 x319003 x319004 bt322.1).bind fun t331 => (some (t331 == 0))) else (some true)) else (some false)) else (some false)))))
def haulagelaw08_SchemaFills.f (k : Nat) (a0_0 : Int) (a0_1 : ByteArray) (a0_2 : Int) (a0_3 : Int) (l0_4 : List (S54)) (l1 : List (S96)) : Option (Bool) := (haulagelaw08_lives.f k).bind fun t319 => (if t319 = true then ((haulagelaw08_Few.f k a0_0 a0_1 a0_2 a0_3 l0_4).bind fun t320 => (if t320 = true then ((haulagelaw08_FewFields.f k l1).bind fun t321 => (haulagelaw08_SchemaFills.j0 k l1 (!t321) a0_0 a0_1 a0_2 a0_3 l0_4)) else (haulagelaw08_SchemaFills.j0 k l1 true a0_0 a0_1 a0_2 a0_3 l0_4))) else (some false))
theorem haulagelaw08_SchemaFills.mono_l : ∀ k, (∀ y0 y1 y2 y3 y4 y5 y6, LeO (haulagelaw08_SchemaFills.j0 k y0 y1 y2 y3 y4 y5 y6) (haulagelaw08_SchemaFills.j0 (k + 1) y0 y1 y2 y3 y4 y5 y6))
 | 0 => fun _ _ _ _ _ _ _ r h => by simp [haulagelaw08_SchemaFills.j0] at h
 | k + 1 => by
  have ih0 := haulagelaw08_SchemaFills.mono_l k
  ·
   intro y0 y1 y2 y3 y4 y5 y6
   unfold haulagelaw08_SchemaFills.j0
   repeat' first
   | (with_reducible exact ih0 _ _ _ _ _ _ _)
   | (with_reducible exact haulagelaw08_Few.mono _ _ _ _ _ _)
   | (with_reducible exact haulagelaw08_FewFields.mono _ _)
   | (with_reducible exact haulagelaw08_lives.mono _)
   | (with_reducible exact haulageref08_Fill.mono _ _ _ _ _ _ _)
   | (with_reducible exact haulageref08_SameRow.mono _ _ _)
   | (with_reducible exact schema_Fill.mono _ _ _ _ _ _ _)
   | (with_reducible exact schema_Row.mono _ _ _ _ _ _ _)
   | (with_reducible exact LeO.refl _)
   | (with_reducible exact LeO.none _)
   | (with_reducible refine LeO.ite ?_ ?_)
   | (with_reducible refine LeO.bind ?_ (fun _ => ?_))
   | exact ih0 _ _ _ _ _ _ _
   | exact haulagelaw08_Few.mono _ _ _ _ _ _
   | exact haulagelaw08_FewFields.mono _ _
   | exact haulagelaw08_lives.mono _
   | exact haulageref08_Fill.mono _ _ _ _ _ _ _
   | exact haulageref08_SameRow.mono _ _ _
   | exact schema_Fill.mono _ _ _ _ _ _ _
   | exact schema_Row.mono _ _ _ _ _ _ _
   | exact LeO.none _
   | refine LeO.ite ?_ ?_
   | refine LeO.bind ?_ (fun _ => ?_)
theorem haulagelaw08_SchemaFills.mono : ∀ a0 a1 a2 a3 a4 a5 k, LeO (haulagelaw08_SchemaFills.f k a0 a1 a2 a3 a4 a5) (haulagelaw08_SchemaFills.f (k + 1) a0 a1 a2 a3 a4 a5) := by
 intro a0 a1 a2 a3 a4 a5 k
 have ih0 := haulagelaw08_SchemaFills.mono_l k
 unfold haulagelaw08_SchemaFills.f
 repeat' first
   | (with_reducible exact ih0 _ _ _ _ _ _ _)
   | (with_reducible exact haulagelaw08_Few.mono _ _ _ _ _ _)
   | (with_reducible exact haulagelaw08_FewFields.mono _ _)
   | (with_reducible exact haulagelaw08_lives.mono _)
   | (with_reducible exact haulageref08_Fill.mono _ _ _ _ _ _ _)
   | (with_reducible exact haulageref08_SameRow.mono _ _ _)
   | (with_reducible exact schema_Fill.mono _ _ _ _ _ _ _)
   | (with_reducible exact schema_Row.mono _ _ _ _ _ _ _)
   | (with_reducible exact LeO.refl _)
   | (with_reducible exact LeO.none _)
   | (with_reducible refine LeO.ite ?_ ?_)
   | (with_reducible refine LeO.bind ?_ (fun _ => ?_))
   | exact ih0 _ _ _ _ _ _ _
   | exact haulagelaw08_Few.mono _ _ _ _ _ _
   | exact haulagelaw08_FewFields.mono _ _
   | exact haulagelaw08_lives.mono _
   | exact haulageref08_Fill.mono _ _ _ _ _ _ _
   | exact haulageref08_SameRow.mono _ _ _
   | exact schema_Fill.mono _ _ _ _ _ _ _
   | exact schema_Row.mono _ _ _ _ _ _ _
   | exact LeO.none _
   | refine LeO.ite ?_ ?_
   | refine LeO.bind ?_ (fun _ => ?_)
set_option maxHeartbeats 8000000 in
set_option maxRecDepth 100000 in
theorem haulagelaw08_SchemaFills.calls (k : Nat) (a0_0 : Int) (a0_1 : ByteArray) (a0_2 : Int) (a0_3 : Int) (A0_4 : Option Addr) (c0_4 : Nat) (l0_4 : List (S54)) (A1 : Option Addr) (c1 : Nat) (l1 : List (S96)) (r : Bool) (w : World) (hr0_4 : Kd.C k54 w A0_4 l0_4.length l0_4) (hc0_4 : l0_4.length ≤ c0_4) (hr1 : Kd.C k96 w A1 l1.length l1) (hc1 : l1.length ≤ c1) (hG : Glob w) (h : haulagelaw08_SchemaFills.f k a0_0 a0_1 a0_2 a0_3 l0_4 l1 = some r) :
  Calls Tryd.prog 4 #[.agg #[.int .i64 a0_0, .string a0_1, .int .i64 a0_2, .int .i64 a0_3, .slice A0_4 l0_4.length c0_4], .slice A1 l1.length c1] w fun e w' => e = .returned (.bool r) ∧ Below w.heap.size w w' := by
 have hu24 := Tryd.underlying24
 have HR0_4 := aM hr0_4
 have HC0_4 := aM hc0_4
 clear hr0_4 hc0_4
 have HR1 := aM hr1
 have HC1 := aM hc1
 clear hr1 hc1
 have HG := aM hG
 clear hG
 have HB := aM (Below.refl w.heap.size w)
 have H : ((haulagelaw08_lives.f k).bind fun t319 => (if t319 = true then ((haulagelaw08_Few.f k a0_0 a0_1 a0_2 a0_3 l0_4).bind fun t320 => (if t320 = true then ((haulagelaw08_FewFields.f k l1).bind fun t321 => (haulagelaw08_SchemaFills.j0 k l1 (!t321) a0_0 a0_1 a0_2 a0_3 l0_4)) else (haulagelaw08_SchemaFills.j0 k l1 true a0_0 a0_1 a0_2 a0_3 l0_4))) else (some false))) = some r := h
 clear h
 replace H := Option.bind_eq_some_iff.mp H
 obtain ⟨t319, A30, H⟩ := H
 replace H : (if t319 = true then ((haulagelaw08_Few.f k a0_0 a0_1 a0_2 a0_3 l0_4).bind fun t320 => (if t320 = true then ((haulagelaw08_FewFields.f k l1).bind fun t321 => (haulagelaw08_SchemaFills.j0 k l1 (!t321) a0_0 a0_1 a0_2 a0_3 l0_4)) else (haulagelaw08_SchemaFills.j0 k l1 true a0_0 a0_1 a0_2 a0_3 l0_4))) else (some false)) = some r := H
 have A3 := aM A30
 clear A30
 by_cases c4 : t319 = true
 ·
  subst c4
  have H1 : ((haulagelaw08_Few.f k a0_0 a0_1 a0_2 a0_3 l0_4).bind fun t320 => (if t320 = true then ((haulagelaw08_FewFields.f k l1).bind fun t321 => (haulagelaw08_SchemaFills.j0 k l1 (!t321) a0_0 a0_1 a0_2 a0_3 l0_4)) else (haulagelaw08_SchemaFills.j0 k l1 true a0_0 a0_1 a0_2 a0_3 l0_4))) = some r := by rw [if_pos rfl] at H; exact H
  clear H
  have H := H1
  clear H1
  have HC5 := aM H
  clear H
  go_enter Tryd.func4, Tryd.ntmps4
  go_upto_region 3 with (first | ((with_reducible refine gate_dst (N := 2) rfl ?_); refine yX (N := 2) (cs := #[.int .i64 a0_0, .string a0_1, .int .i64 a0_2, .int .i64 a0_3, .slice A0_4 l0_4.length c0_4]) (t := 24) ?_; intro gb318 hg w6 hbox hb; have BK318 := aM (hbox); have GW318 := yZ hg (yB HB); have GE318 := yZ hg (yB HB); replace HB := aM (bP (yB HB) hb); clear hb hbox hg) | ((with_reducible refine gate_callee (f := 19) rfl ?_); refine yC 9 Tryd.func19 #[] rfl ?_; (with_reducible refine (haulagelaw08_lives.calls k  true _ ?side1 A3.out).mono ?_); (case side1 => first | (with_reducible exact HG.out) | exact Glob.below HG.out (yG1 HB GE318.out)); rintro e w7 ⟨rfl, hb⟩; refine ⟨_, rfl, ?_⟩; replace BK318 := aM (kB (yK BK318) hb); replace HB := aM (bP (yG1 HB GE318.out) hb); (try clear hb)))
  (try simp only [Act.put, s1_, s2_, s3_])
  go_cut [18] (fun v18 wc => ∃ (kq : Nat) (x18_4 : Bool), v18 = .bool x18_4 ∧ Aside0 (haulagelaw08_SchemaFills.j0 kq l1 x18_4 a0_0 a0_1 a0_2 a0_3 l0_4 = some r) ∧ Aside0 (kq ≤ k) ∧ Aside0 (wc.heap[gb318]? = some (.cells #[.int .i64 a0_0, .string a0_1, .int .i64 a0_2, .int .i64 a0_3, (.slice A0_4 l0_4.length c0_4)] 24 (0, 0))) ∧ Aside0 (Below w.heap.size w wc))
  case first =>
   have H := HC5.out
   clear HC5
   replace H := Option.bind_eq_some_iff.mp H
   obtain ⟨t320, A80, H⟩ := H
   replace H : (if t320 = true then ((haulagelaw08_FewFields.f k l1).bind fun t321 => (haulagelaw08_SchemaFills.j0 k l1 (!t321) a0_0 a0_1 a0_2 a0_3 l0_4)) else (haulagelaw08_SchemaFills.j0 k l1 true a0_0 a0_1 a0_2 a0_3 l0_4)) = some r := H
   have A8 := aM A80
   clear A80
   by_cases c9 : t320 = true
   ·
    subst c9
    have H1 : ((haulagelaw08_FewFields.f k l1).bind fun t321 => (haulagelaw08_SchemaFills.j0 k l1 (!t321) a0_0 a0_1 a0_2 a0_3 l0_4)) = some r := by rw [if_pos rfl] at H; exact H
    clear H
    have H := H1
    clear H1
    replace H := Option.bind_eq_some_iff.mp H
    obtain ⟨t321, A100, H⟩ := H
    replace H : (haulagelaw08_SchemaFills.j0 k l1 (!t321) a0_0 a0_1 a0_2 a0_3 l0_4) = some r := H
    have A10 := aM A100
    clear A100
    have H' := aM H
    clear H
    obtain ⟨hcz11_0, hcz11_1, hcz11_2, hcz11_3, hcz11_4, hfz11_0, hfz11_1, hfz11_2, hfz11_3, hfz11_4⟩ := cells5 BK318.out
    go_wp2_with (first | ((with_reducible refine gate_callee (f := 14) rfl ?_); refine yC 12 Tryd.func14 #[.agg #[.int .i64 a0_0, .string a0_1, .int .i64 a0_2, .int .i64 a0_3, .slice A0_4 l0_4.length c0_4]] rfl ?_; (with_reducible refine (haulagelaw08_Few.calls k a0_0 a0_1 a0_2 a0_3 _ _ l0_4 true _ ?side1 ?side2 A8.out).mono ?_); (case side1 => exact yW (Kd.C_below HR0_4.out HB.out)); (case side2 => exact HC0_4.out); rintro e w12 ⟨rfl, hb⟩; refine ⟨_, rfl, ?_⟩; replace BK318 := aM (kB (yK BK318) hb); replace HB := aM (bP (yG1 HB GE318.out) hb); (try clear hb)) | (go_at_call 20; (with_reducible refine (haulagelaw08_FewFields.calls k _ _ l1 t321 _ ?side1 ?side2 A10.out).mono ?_); (case side1 => exact yW (Kd.C_below HR1.out HB.out)); (case side2 => exact HC1.out); rintro e w' ⟨rfl, ⟨nd, rfl⟩⟩))
    go_meet
    case rel => exact ⟨_, (!t321), yS, H', ⟨yO⟩, ⟨yK BK318⟩, ⟨yG1 HB GE318.out⟩⟩
   ·
    replace c9 := Bool.eq_false_iff.mpr c9
    subst c9
    have H1 : (haulagelaw08_SchemaFills.j0 k l1 true a0_0 a0_1 a0_2 a0_3 l0_4) = some r := by rw [if_neg (show ¬ (false = true) by decide)] at H; exact H
    clear H
    have H := H1
    clear H1
    have H' := aM H
    clear H
    obtain ⟨hcz13_0, hcz13_1, hcz13_2, hcz13_3, hcz13_4, hfz13_0, hfz13_1, hfz13_2, hfz13_3, hfz13_4⟩ := cells5 BK318.out
    go_wp2_with (first | ((with_reducible refine gate_callee (f := 14) rfl ?_); refine yC 12 Tryd.func14 #[.agg #[.int .i64 a0_0, .string a0_1, .int .i64 a0_2, .int .i64 a0_3, .slice A0_4 l0_4.length c0_4]] rfl ?_; (with_reducible refine (haulagelaw08_Few.calls k a0_0 a0_1 a0_2 a0_3 _ _ l0_4 false _ ?side1 ?side2 A8.out).mono ?_); (case side1 => exact yW (Kd.C_below HR0_4.out HB.out)); (case side2 => exact HC0_4.out); rintro e w14 ⟨rfl, hb⟩; refine ⟨_, rfl, ?_⟩; replace BK318 := aM (kB (yK BK318) hb); replace HB := aM (bP (yG1 HB GE318.out) hb); (try clear hb)))
    go_meet
    case rel => exact ⟨_, (true), yS, H', ⟨yO⟩, ⟨yK BK318⟩, ⟨yG1 HB GE318.out⟩⟩
  case rest =>
   clear HC5
   try clear c1
   try clear p2
   try clear c4
   try clear c9
   try clear c14
   try clear hcz11_0 hcz11_1 hcz11_2 hcz11_3 hcz11_4
   try clear hcz13_0 hcz13_1 hcz13_2 hcz13_3 hcz13_4
   try clear hfz11_0 hfz11_1 hfz11_2 hfz11_3 hfz11_4
   try clear hfz13_0 hfz13_1 hfz13_2 hfz13_3 hfz13_4
   obtain ⟨kq, x18_4, rfl, HA, HJ4, BK318, HB⟩ := hcut
   cases kq with
   | zero => exact absurd HA.out (by simp [haulagelaw08_SchemaFills.j0])
   | succ kj4 =>
    have H := HA.out
    clear HA
    simp only [haulagelaw08_SchemaFills.j0] at H
    by_cases c15 : x18_4 = true
    ·
     subst c15
     have H1 : (some true) = some r := by rw [if_pos rfl] at H; exact H
     clear H
     have H := H1
     clear H1
     obtain rfl := Option.some.inj H
     go_wp2
     go_ret
     exact ⟨yE, yG1 HB GE318.out⟩
    ·
     replace c15 := Bool.eq_false_iff.mpr c15
     subst c15
     have H1 : ((schema_Fill.f kj4 a0_0 a0_1 a0_2 a0_3 l0_4 l1).bind fun bt322 => ((haulageref08_Fill.f kj4 a0_0 a0_1 a0_2 a0_3 l0_4 l1).bind fun bt326 => ((haulageref08_SameRow.f kj4 bt322.1 bt326.1).bind fun t330 => (if t330 = true then (if bt322.2 = bt326.2 then (if bt322.2 = 0 then ((schema_Row.f kj4 a0_0 a0_1 a0_2 a0_3 l0_4 bt322.1).bind fun t331 => (some (t331 == 0))) else (some true)) else (some false)) else (some false))))) = some r := by rw [if_neg (show ¬ (false = true) by decide)] at H; exact H
     clear H
     have H := H1
     clear H1
     replace H := Option.bind_eq_some_iff.mp H
     obtain ⟨⟨t322, t325⟩, A160, H⟩ := H
     replace H : ((haulageref08_Fill.f kj4 a0_0 a0_1 a0_2 a0_3 l0_4 l1).bind fun bt326 => ((haulageref08_SameRow.f kj4 t322 bt326.1).bind fun t330 => (if t330 = true then (if t325 = bt326.2 then (if t325 = 0 then ((schema_Row.f kj4 a0_0 a0_1 a0_2 a0_3 l0_4 t322).bind fun t331 => (some (t331 == 0))) else (some true)) else (some false)) else (some false)))) = some r := H
     have A16 := aM A160
     clear A160
     replace H := Option.bind_eq_some_iff.mp H
     obtain ⟨⟨t326, t329⟩, A170, H⟩ := H
     replace H : ((haulageref08_SameRow.f kj4 t322 t326).bind fun t330 => (if t330 = true then (if t325 = t329 then (if t325 = 0 then ((schema_Row.f kj4 a0_0 a0_1 a0_2 a0_3 l0_4 t322).bind fun t331 => (some (t331 == 0))) else (some true)) else (some false)) else (some false))) = some r := H
     have A17 := aM A170
     clear A170
     replace H := Option.bind_eq_some_iff.mp H
     obtain ⟨t330, A180, H⟩ := H
     replace H : (if t330 = true then (if t325 = t329 then (if t325 = 0 then ((schema_Row.f kj4 a0_0 a0_1 a0_2 a0_3 l0_4 t322).bind fun t331 => (some (t331 == 0))) else (some true)) else (some false)) else (some false)) = some r := H
     have A18 := aM A180
     clear A180
     by_cases c19 : t330 = true
     ·
      subst c19
      have H1 : (if t325 = t329 then (if t325 = 0 then ((schema_Row.f kj4 a0_0 a0_1 a0_2 a0_3 l0_4 t322).bind fun t331 => (some (t331 == 0))) else (some true)) else (some false)) = some r := by rw [if_pos rfl] at H; exact H
      clear H
      have H := H1
      clear H1
      by_cases c20 : t325 = t329
      ·
       rw [if_pos c20] at H
       have c20b0 : (t325 == t329) = true := beq_iff_eq.mpr c20
       have c20b1 : (t325 != t329) = false := bne_eq_false_iff_eq.mpr c20
       clear c20
       by_cases c21 : t325 = 0
       ·
        rw [if_pos c21] at H
        have c21b0 : (t325 == 0) = true := beq_iff_eq.mpr c21
        have c21b1 : (t325 != 0) = false := bne_eq_false_iff_eq.mpr c21
        clear c21
        replace H := Option.bind_eq_some_iff.mp H
        obtain ⟨t331, A220, H⟩ := H
        replace H : (some (t331 == 0)) = some r := H
        have A22 := aM A220
        clear A220
        obtain rfl := Option.some.inj H
        obtain ⟨hcz23_0, hcz23_1, hcz23_2, hcz23_3, hcz23_4, hfz23_0, hfz23_1, hfz23_2, hfz23_3, hfz23_4⟩ := cells5 BK318.out
        go_wp2_with (first | ((with_reducible refine gate_callee (f := 21) rfl ?_); refine yC 22 Tryd.func21 #[.agg #[.int .i64 a0_0, .string a0_1, .int .i64 a0_2, .int .i64 a0_3, .slice A0_4 l0_4.length c0_4], .slice A1 l1.length c1] rfl ?_; (with_reducible refine (schema_Fill.calls kj4 a0_0 a0_1 a0_2 a0_3 _ _ l0_4 _ _ l1 t322 t325 _ ?side1 ?side2 ?side3 ?side4 ?side5 A16.out).mono ?_); (case side1 => exact yW (Kd.C_below HR0_4.out HB.out)); (case side2 => exact HC0_4.out); (case side3 => exact yW (Kd.C_below HR1.out HB.out)); (case side4 => exact HC1.out); (case side5 => first | (with_reducible exact HG.out) | exact Glob.below HG.out (yG1 HB GE318.out)); rintro e w24 ⟨v323, rfl, ho0, hb⟩; refine ⟨_, rfl, ?_⟩; have HO324 := aM (Kd.R_lower ho0 (bZ (yG1 HB GE318.out))); replace BK318 := aM (kB (yK BK318) hb); replace HB := aM (bP (yG1 HB GE318.out) hb); (try clear hb); (try clear ho0); obtain ⟨hcz25_0, hcz25_1, hcz25_2, hcz25_3, hcz25_4, hfz25_0, hfz25_1, hfz25_2, hfz25_3, hfz25_4⟩ := cells5 BK318.out) | ((with_reducible refine gate_callee (f := 22) rfl ?_); refine yC 28 Tryd.func22 #[.agg #[.int .i64 a0_0, .string a0_1, .int .i64 a0_2, .int .i64 a0_3, .slice A0_4 l0_4.length c0_4], .slice A1 l1.length c1] rfl ?_; (with_reducible refine (haulageref08_Fill.calls kj4 a0_0 a0_1 a0_2 a0_3 _ _ l0_4 _ _ l1 t326 t329 _ ?side1 ?side2 ?side3 ?side4 A17.out).mono ?_); (case side1 => exact yW (Kd.C_below HR0_4.out HB.out)); (case side2 => exact HC0_4.out); (case side3 => exact yW (Kd.C_below HR1.out HB.out)); (case side4 => exact HC1.out); rintro e w26 ⟨v327, rfl, ho0, hb⟩; refine ⟨_, rfl, ?_⟩; have HO328 := aM (Kd.R_lower (Kd.R_new' ho0 (Kd.R_lt (yR HO324.out))) (bZ (yG1 HB GE318.out))); replace HO324 := aM (Kd.R_elder' (yR HO324.out) (Kd.R_base ho0) hb); replace BK318 := aM (kB (yK BK318) hb); replace HB := aM (bP (yG1 HB GE318.out) hb); (try clear hb); (try clear ho0); obtain ⟨Ao27, co27, eo27⟩ := Kd.R_slice HO324.out; subst eo27; obtain ⟨Ao28, co28, eo28⟩ := Kd.R_slice HO328.out; subst eo28) | ((with_reducible refine gate_callee (f := 23) rfl ?_); refine yC 33 Tryd.func23 #[.slice Ao27 t322.length co27, .slice Ao28 t326.length co28] rfl ?_; (with_reducible refine (haulageref08_SameRow.calls kj4 _ _ t322 _ _ t326 true _ ?side1 ?side2 ?side3 ?side4 A18.out).mono ?_); (case side1 => exact yW (Kd.R_reads' HO324.out).2.2); (case side2 => exact (Kd.R_reads' HO324.out).2.1); (case side3 => exact yW (Kd.R_reads' HO328.out).2.2); (case side4 => exact (Kd.R_reads' HO328.out).2.1); rintro e w' ⟨rfl, ⟨nd, rfl⟩⟩; refine ⟨_, rfl, ?_⟩; obtain ⟨hcz29_0, hcz29_1, hcz29_2, hcz29_3, hcz29_4, hfz29_0, hfz29_1, hfz29_2, hfz29_3, hfz29_4⟩ := cells5 BK318.out) | (go_at_call 24; (with_reducible refine (schema_Row.calls kj4 a0_0 a0_1 a0_2 a0_3 _ _ l0_4 _ _ t322 t331 _ ?side1 ?side2 ?side3 ?side4 ?side5 A22.out).mono ?_); (case side1 => repeat (first | exact (Kd.C_below HR0_4.out (yG1 HB GE318.out)) | (with_reducible refine Kd.C_alloc ?_ _) | (with_reducible refine Kd.C_drewN ?_ _) | (with_reducible refine Kd.C_drew ?_))); (case side2 => exact HC0_4.out); (case side3 => exact yW (Kd.R_reads' HO324.out).2.2); (case side4 => exact (Kd.R_reads' HO324.out).2.1); (case side5 => first | (with_reducible exact HG.out) | exact Glob.below HG.out (yG1 HB GE318.out)); rintro e w30 ⟨rfl, hb⟩; replace HO324 := aM (Kd.R_below (yR HO324.out) hb); replace HO328 := aM (Kd.R_below (yR HO328.out) hb); replace BK318 := aM (kB (yK BK318) hb); replace HB := aM (bP (yG1 HB GE318.out) hb); (try clear hb)))
        go_ret
        exact ⟨yE, yG1 HB GE318.out⟩
       ·
        rw [if_neg c21] at H
        have c21b0 : (t325 == 0) = false := beq_eq_false_iff_ne.mpr c21
        have c21b1 : (t325 != 0) = true := bne_iff_ne.mpr c21
        obtain rfl := Option.some.inj H
        obtain ⟨hcz31_0, hcz31_1, hcz31_2, hcz31_3, hcz31_4, hfz31_0, hfz31_1, hfz31_2, hfz31_3, hfz31_4⟩ := cells5 BK318.out
        go_wp2_with (first | ((with_reducible refine gate_callee (f := 21) rfl ?_); refine yC 22 Tryd.func21 #[.agg #[.int .i64 a0_0, .string a0_1, .int .i64 a0_2, .int .i64 a0_3, .slice A0_4 l0_4.length c0_4], .slice A1 l1.length c1] rfl ?_; (with_reducible refine (schema_Fill.calls kj4 a0_0 a0_1 a0_2 a0_3 _ _ l0_4 _ _ l1 t322 t325 _ ?side1 ?side2 ?side3 ?side4 ?side5 A16.out).mono ?_); (case side1 => exact yW (Kd.C_below HR0_4.out HB.out)); (case side2 => exact HC0_4.out); (case side3 => exact yW (Kd.C_below HR1.out HB.out)); (case side4 => exact HC1.out); (case side5 => first | (with_reducible exact HG.out) | exact Glob.below HG.out (yG1 HB GE318.out)); rintro e w32 ⟨v323, rfl, ho0, hb⟩; refine ⟨_, rfl, ?_⟩; have HO324 := aM (Kd.R_lower ho0 (bZ (yG1 HB GE318.out))); replace BK318 := aM (kB (yK BK318) hb); replace HB := aM (bP (yG1 HB GE318.out) hb); (try clear hb); (try clear ho0); obtain ⟨hcz33_0, hcz33_1, hcz33_2, hcz33_3, hcz33_4, hfz33_0, hfz33_1, hfz33_2, hfz33_3, hfz33_4⟩ := cells5 BK318.out) | ((with_reducible refine gate_callee (f := 22) rfl ?_); refine yC 28 Tryd.func22 #[.agg #[.int .i64 a0_0, .string a0_1, .int .i64 a0_2, .int .i64 a0_3, .slice A0_4 l0_4.length c0_4], .slice A1 l1.length c1] rfl ?_; (with_reducible refine (haulageref08_Fill.calls kj4 a0_0 a0_1 a0_2 a0_3 _ _ l0_4 _ _ l1 t326 t329 _ ?side1 ?side2 ?side3 ?side4 A17.out).mono ?_); (case side1 => exact yW (Kd.C_below HR0_4.out HB.out)); (case side2 => exact HC0_4.out); (case side3 => exact yW (Kd.C_below HR1.out HB.out)); (case side4 => exact HC1.out); rintro e w34 ⟨v327, rfl, ho0, hb⟩; refine ⟨_, rfl, ?_⟩; have HO328 := aM (Kd.R_lower (Kd.R_new' ho0 (Kd.R_lt (yR HO324.out))) (bZ (yG1 HB GE318.out))); replace HO324 := aM (Kd.R_elder' (yR HO324.out) (Kd.R_base ho0) hb); replace BK318 := aM (kB (yK BK318) hb); replace HB := aM (bP (yG1 HB GE318.out) hb); (try clear hb); (try clear ho0); obtain ⟨Ao35, co35, eo35⟩ := Kd.R_slice HO324.out; subst eo35; obtain ⟨Ao36, co36, eo36⟩ := Kd.R_slice HO328.out; subst eo36) | ((with_reducible refine gate_callee (f := 23) rfl ?_); refine yC 33 Tryd.func23 #[.slice Ao35 t322.length co35, .slice Ao36 t326.length co36] rfl ?_; (with_reducible refine (haulageref08_SameRow.calls kj4 _ _ t322 _ _ t326 true _ ?side1 ?side2 ?side3 ?side4 A18.out).mono ?_); (case side1 => exact yW (Kd.R_reads' HO324.out).2.2); (case side2 => exact (Kd.R_reads' HO324.out).2.1); (case side3 => exact yW (Kd.R_reads' HO328.out).2.2); (case side4 => exact (Kd.R_reads' HO328.out).2.1); rintro e w' ⟨rfl, ⟨nd, rfl⟩⟩; refine ⟨_, rfl, ?_⟩))
        go_ret
        exact ⟨yE, yG1 HB GE318.out⟩
      ·
       rw [if_neg c20] at H
       have c20b0 : (t325 == t329) = false := beq_eq_false_iff_ne.mpr c20
       have c20b1 : (t325 != t329) = true := bne_iff_ne.mpr c20
       obtain rfl := Option.some.inj H
       obtain ⟨hcz37_0, hcz37_1, hcz37_2, hcz37_3, hcz37_4, hfz37_0, hfz37_1, hfz37_2, hfz37_3, hfz37_4⟩ := cells5 BK318.out
       go_wp2_with (first | ((with_reducible refine gate_callee (f := 21) rfl ?_); refine yC 22 Tryd.func21 #[.agg #[.int .i64 a0_0, .string a0_1, .int .i64 a0_2, .int .i64 a0_3, .slice A0_4 l0_4.length c0_4], .slice A1 l1.length c1] rfl ?_; (with_reducible refine (schema_Fill.calls kj4 a0_0 a0_1 a0_2 a0_3 _ _ l0_4 _ _ l1 t322 t325 _ ?side1 ?side2 ?side3 ?side4 ?side5 A16.out).mono ?_); (case side1 => exact yW (Kd.C_below HR0_4.out HB.out)); (case side2 => exact HC0_4.out); (case side3 => exact yW (Kd.C_below HR1.out HB.out)); (case side4 => exact HC1.out); (case side5 => first | (with_reducible exact HG.out) | exact Glob.below HG.out (yG1 HB GE318.out)); rintro e w38 ⟨v323, rfl, ho0, hb⟩; refine ⟨_, rfl, ?_⟩; have HO324 := aM (Kd.R_lower ho0 (bZ (yG1 HB GE318.out))); replace BK318 := aM (kB (yK BK318) hb); replace HB := aM (bP (yG1 HB GE318.out) hb); (try clear hb); (try clear ho0); obtain ⟨hcz39_0, hcz39_1, hcz39_2, hcz39_3, hcz39_4, hfz39_0, hfz39_1, hfz39_2, hfz39_3, hfz39_4⟩ := cells5 BK318.out) | ((with_reducible refine gate_callee (f := 22) rfl ?_); refine yC 28 Tryd.func22 #[.agg #[.int .i64 a0_0, .string a0_1, .int .i64 a0_2, .int .i64 a0_3, .slice A0_4 l0_4.length c0_4], .slice A1 l1.length c1] rfl ?_; (with_reducible refine (haulageref08_Fill.calls kj4 a0_0 a0_1 a0_2 a0_3 _ _ l0_4 _ _ l1 t326 t329 _ ?side1 ?side2 ?side3 ?side4 A17.out).mono ?_); (case side1 => exact yW (Kd.C_below HR0_4.out HB.out)); (case side2 => exact HC0_4.out); (case side3 => exact yW (Kd.C_below HR1.out HB.out)); (case side4 => exact HC1.out); rintro e w40 ⟨v327, rfl, ho0, hb⟩; refine ⟨_, rfl, ?_⟩; have HO328 := aM (Kd.R_lower (Kd.R_new' ho0 (Kd.R_lt (yR HO324.out))) (bZ (yG1 HB GE318.out))); replace HO324 := aM (Kd.R_elder' (yR HO324.out) (Kd.R_base ho0) hb); replace BK318 := aM (kB (yK BK318) hb); replace HB := aM (bP (yG1 HB GE318.out) hb); (try clear hb); (try clear ho0); obtain ⟨Ao41, co41, eo41⟩ := Kd.R_slice HO324.out; subst eo41; obtain ⟨Ao42, co42, eo42⟩ := Kd.R_slice HO328.out; subst eo42) | ((with_reducible refine gate_callee (f := 23) rfl ?_); refine yC 33 Tryd.func23 #[.slice Ao41 t322.length co41, .slice Ao42 t326.length co42] rfl ?_; (with_reducible refine (haulageref08_SameRow.calls kj4 _ _ t322 _ _ t326 true _ ?side1 ?side2 ?side3 ?side4 A18.out).mono ?_); (case side1 => exact yW (Kd.R_reads' HO324.out).2.2); (case side2 => exact (Kd.R_reads' HO324.out).2.1); (case side3 => exact yW (Kd.R_reads' HO328.out).2.2); (case side4 => exact (Kd.R_reads' HO328.out).2.1); rintro e w' ⟨rfl, ⟨nd, rfl⟩⟩; refine ⟨_, rfl, ?_⟩))
       go_ret
       exact ⟨yE, yG1 HB GE318.out⟩
     ·
      replace c19 := Bool.eq_false_iff.mpr c19
      subst c19
      have H1 : (some false) = some r := by rw [if_neg (show ¬ (false = true) by decide)] at H; exact H
      clear H
      have H := H1
      clear H1
      obtain rfl := Option.some.inj H
      obtain ⟨hcz43_0, hcz43_1, hcz43_2, hcz43_3, hcz43_4, hfz43_0, hfz43_1, hfz43_2, hfz43_3, hfz43_4⟩ := cells5 BK318.out
      go_wp2_with (first | ((with_reducible refine gate_callee (f := 21) rfl ?_); refine yC 22 Tryd.func21 #[.agg #[.int .i64 a0_0, .string a0_1, .int .i64 a0_2, .int .i64 a0_3, .slice A0_4 l0_4.length c0_4], .slice A1 l1.length c1] rfl ?_; (with_reducible refine (schema_Fill.calls kj4 a0_0 a0_1 a0_2 a0_3 _ _ l0_4 _ _ l1 t322 t325 _ ?side1 ?side2 ?side3 ?side4 ?side5 A16.out).mono ?_); (case side1 => exact yW (Kd.C_below HR0_4.out HB.out)); (case side2 => exact HC0_4.out); (case side3 => exact yW (Kd.C_below HR1.out HB.out)); (case side4 => exact HC1.out); (case side5 => first | (with_reducible exact HG.out) | exact Glob.below HG.out (yG1 HB GE318.out)); rintro e w44 ⟨v323, rfl, ho0, hb⟩; refine ⟨_, rfl, ?_⟩; have HO324 := aM (Kd.R_lower ho0 (bZ (yG1 HB GE318.out))); replace BK318 := aM (kB (yK BK318) hb); replace HB := aM (bP (yG1 HB GE318.out) hb); (try clear hb); (try clear ho0); obtain ⟨hcz45_0, hcz45_1, hcz45_2, hcz45_3, hcz45_4, hfz45_0, hfz45_1, hfz45_2, hfz45_3, hfz45_4⟩ := cells5 BK318.out) | ((with_reducible refine gate_callee (f := 22) rfl ?_); refine yC 28 Tryd.func22 #[.agg #[.int .i64 a0_0, .string a0_1, .int .i64 a0_2, .int .i64 a0_3, .slice A0_4 l0_4.length c0_4], .slice A1 l1.length c1] rfl ?_; (with_reducible refine (haulageref08_Fill.calls kj4 a0_0 a0_1 a0_2 a0_3 _ _ l0_4 _ _ l1 t326 t329 _ ?side1 ?side2 ?side3 ?side4 A17.out).mono ?_); (case side1 => exact yW (Kd.C_below HR0_4.out HB.out)); (case side2 => exact HC0_4.out); (case side3 => exact yW (Kd.C_below HR1.out HB.out)); (case side4 => exact HC1.out); rintro e w46 ⟨v327, rfl, ho0, hb⟩; refine ⟨_, rfl, ?_⟩; have HO328 := aM (Kd.R_lower (Kd.R_new' ho0 (Kd.R_lt (yR HO324.out))) (bZ (yG1 HB GE318.out))); replace HO324 := aM (Kd.R_elder' (yR HO324.out) (Kd.R_base ho0) hb); replace BK318 := aM (kB (yK BK318) hb); replace HB := aM (bP (yG1 HB GE318.out) hb); (try clear hb); (try clear ho0); obtain ⟨Ao47, co47, eo47⟩ := Kd.R_slice HO324.out; subst eo47; obtain ⟨Ao48, co48, eo48⟩ := Kd.R_slice HO328.out; subst eo48) | ((with_reducible refine gate_callee (f := 23) rfl ?_); refine yC 33 Tryd.func23 #[.slice Ao47 t322.length co47, .slice Ao48 t326.length co48] rfl ?_; (with_reducible refine (haulageref08_SameRow.calls kj4 _ _ t322 _ _ t326 false _ ?side1 ?side2 ?side3 ?side4 A18.out).mono ?_); (case side1 => exact yW (Kd.R_reads' HO324.out).2.2); (case side2 => exact (Kd.R_reads' HO324.out).2.1); (case side3 => exact yW (Kd.R_reads' HO328.out).2.2); (case side4 => exact (Kd.R_reads' HO328.out).2.1); rintro e w' ⟨rfl, ⟨nd, rfl⟩⟩; refine ⟨_, rfl, ?_⟩))
      go_ret
      exact ⟨yE, yG1 HB GE318.out⟩
 ·
  replace c4 := Bool.eq_false_iff.mpr c4
  subst c4
  have H1 : (some false) = some r := by rw [if_neg (show ¬ (false = true) by decide)] at H; exact H
  clear H
  have H := H1
  clear H1
  obtain rfl := Option.some.inj H
  go_enter Tryd.func4, Tryd.ntmps4
  go_wp2_with (first | ((with_reducible refine gate_dst (N := 2) rfl ?_); refine yX (N := 2) (cs := #[.int .i64 a0_0, .string a0_1, .int .i64 a0_2, .int .i64 a0_3, .slice A0_4 l0_4.length c0_4]) (t := 24) ?_; intro gb318 hg w49 hbox hb; have BK318 := aM (hbox); have GW318 := yZ hg (yB HB); have GE318 := yZ hg (yB HB); replace HB := aM (bP (yB HB) hb); clear hb hbox hg) | ((with_reducible refine gate_callee (f := 19) rfl ?_); refine yC 9 Tryd.func19 #[] rfl ?_; (with_reducible refine (haulagelaw08_lives.calls k  false _ ?side1 A3.out).mono ?_); (case side1 => first | (with_reducible exact HG.out) | exact Glob.below HG.out (yG1 HB GE318.out)); rintro e w50 ⟨rfl, hb⟩; refine ⟨_, rfl, ?_⟩; replace BK318 := aM (kB (yK BK318) hb); replace HB := aM (bP (yG1 HB GE318.out) hb); (try clear hb)))
  go_ret
  exact ⟨yE, yG1 HB GE318.out⟩
end Go.Proofs.YtdeophpjammbpaaDoor.HSchemaFills

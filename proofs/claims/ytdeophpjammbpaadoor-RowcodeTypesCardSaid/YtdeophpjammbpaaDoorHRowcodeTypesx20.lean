/- For Go functions that RowcodeTypes reaches: Lean functions, and walks that show that each call comes to what its Lean function tells; no condition but those that each theorem states. (Made by a program of this session over the kit's print.py.) -/
import Derived.Test.YtdeophpjammbpaaDoorHRowcodeTypesx0
import Derived.Test.YtdeophpjammbpaaDoorHRowcodeTypesx9
import Derived.Test.YtdeophpjammbpaaDoorHRowcodeTypesx10
import Derived.Test.YtdeophpjammbpaaDoorHRowcodeTypesx15
import Derived.Test.YtdeophpjammbpaaDoorHRowcodeTypesx18
import Derived.Test.YtdeophpjammbpaaDoorHRowcodeTypesx19
namespace Go.Proofs.YtdeophpjammbpaaDoor.HRowcodeTypes
open Go.RowKit Go.Proofs.YtdeophpjammbpaaDoorW.PrintWords Go.Proofs.YtdeophpjammbpaaDoorW.PrintLast Go.Proofs.YtdeophpjammbpaaDoorW.PrintMore
attribute [local go_sem] max2_int min2_int max_two min_two max_three min_three max_four min_four   -- for this text's walks alone
set_option linter.unusedVariables false
set_option linter.unusedSimpArgs false
attribute [local go_sem] hp_s8 hp_s16 hp_s32 hp_s64 hp_m8 hp_m16 hp_m32 hp_m64
/-! ### haulagelaw12_RowcodeTypes: function 11 -/
def haulagelaw12_RowcodeTypes.j0 : Nat → List (S52) → ByteArray → Bool → Int → ByteArray → Int → Int → List (S54) → Int → ByteArray → Int → Int → List (S54) → Option (Bool)
 | 0, _, _, _, _, _, _, _, _, _, _, _, _, _ => none
 | k + 1, x2, x3, x52, x314000, x314001, x314002, x314003, x314004, x315000, x315001, x315002, x315003, x315004 => if x52 = true then (some true) else ((rowcode_Encode.f k x314000 x314001 x314002 x314003 x314004 x2).bind fun bt322 => ((rowcode_Encode.f k x315000 x315001 x315002 x315003 x315004 x2).bind fun bt324 => ((rowcode_Decode.f k x314000 x314001 x314002 x314003 x314004 x3).bind fun bt326 => ((rowcode_Decode.f k x315000 x315001 x315002 x315003 x315004 x3).bind fun bt330 => (if bt322.1.toList = bt324.1.toList then (if bt322.2 = bt324.2 then ((haulageref08_SameRow.f k bt326.1 bt330.1).bind fun t334 => (if t334 = true then (some (bt326.2 == bt330.2)) else (some false))) else (some false)) else (some false))))))
def haulagelaw12_RowcodeTypes.f (k : Nat) (a0_0 : Int) (a0_1 : ByteArray) (a0_2 : Int) (a0_3 : Int) (l0_4 : List (S54)) (a1_0 : Int) (a1_1 : ByteArray) (a1_2 : Int) (a1_3 : Int) (l1_4 : List (S54)) (l2 : List (S52)) (a3 : ByteArray) : Option (Bool) := (haulagelaw12_lives.f k).bind fun t315 => (if t315 = true then ((haulagelaw08_Few.f k a0_0 a0_1 a0_2 a0_3 l0_4).bind fun t316 => (if t316 = true then ((haulagelaw08_Few.f k a1_0 a1_1 a1_2 a1_3 l1_4).bind fun t317 => (if t317 = true then ((haulagelaw08_FewValues.f k l2).bind fun t318 => (if t318 = true then (if (a3.size : Int) > 2000 then (haulagelaw12_RowcodeTypes.j0 k l2 a3 true a0_0 a0_1 a0_2 a0_3 l0_4 a1_0 a1_1 a1_2 a1_3 l1_4) else ((haulageref08_Table.f k a0_0 a0_1 a0_2 a0_3 l0_4).bind fun t319 => (if t319 = true then ((haulageref08_Table.f k a1_0 a1_1 a1_2 a1_3 l1_4).bind fun t320 => (if t320 = true then ((haulagelaw12_types.f k a0_0 a0_1 a0_2 a0_3 l0_4 a1_0 a1_1 a1_2 a1_3 l1_4).bind fun t321 => (haulagelaw12_RowcodeTypes.j0 k l2 a3 (!t321) a0_0 a0_1 a0_2 a0_3 l0_4 a1_0 a1_1 a1_2 a1_3 l1_4)) else (haulagelaw12_RowcodeTypes.j0 k l2 a3 true a0_0 a0_1 a0_2 a0_3 l0_4 a1_0 a1_1 a1_2 a1_3 l1_4))) else (haulagelaw12_RowcodeTypes.j0 k l2 a3 true a0_0 a0_1 a0_2 a0_3 l0_4 a1_0 a1_1 a1_2 a1_3 l1_4)))) else (haulagelaw12_RowcodeTypes.j0 k l2 a3 true a0_0 a0_1 a0_2 a0_3 l0_4 a1_0 a1_1 a1_2 a1_3 l1_4))) else (haulagelaw12_RowcodeTypes.j0 k l2 a3 true a0_0 a0_1 a0_2 a0_3 l0_4 a1_0 a1_1 a1_2 a1_3 l1_4))) else (haulagelaw12_RowcodeTypes.j0 k l2 a3 true a0_0 a0_1 a0_2 a0_3 l0_4 a1_0 a1_1 a1_2 a1_3 l1_4))) else (some false))
theorem haulagelaw12_RowcodeTypes.mono_l : ∀ k, (∀ y0 y1 y2 y3 y4 y5 y6 y7 y8 y9 y10 y11 y12, LeO (haulagelaw12_RowcodeTypes.j0 k y0 y1 y2 y3 y4 y5 y6 y7 y8 y9 y10 y11 y12) (haulagelaw12_RowcodeTypes.j0 (k + 1) y0 y1 y2 y3 y4 y5 y6 y7 y8 y9 y10 y11 y12))
 | 0 => fun _ _ _ _ _ _ _ _ _ _ _ _ _ r h => by simp [haulagelaw12_RowcodeTypes.j0] at h
 | k + 1 => by
  have ih0 := haulagelaw12_RowcodeTypes.mono_l k
  ·
   intro y0 y1 y2 y3 y4 y5 y6 y7 y8 y9 y10 y11 y12
   unfold haulagelaw12_RowcodeTypes.j0
   repeat' first
   | (with_reducible exact ih0 _ _ _ _ _ _ _ _ _ _ _ _ _)
   | (with_reducible exact haulagelaw08_Few.mono _ _ _ _ _ _)
   | (with_reducible exact haulagelaw08_FewValues.mono _ _)
   | (with_reducible exact haulagelaw12_lives.mono _)
   | (with_reducible exact haulagelaw12_types.mono _ _ _ _ _ _ _ _ _ _ _)
   | (with_reducible exact haulageref08_SameRow.mono _ _ _)
   | (with_reducible exact haulageref08_Table.mono _ _ _ _ _ _)
   | (with_reducible exact rowcode_Decode.mono _ _ _ _ _ _ _)
   | (with_reducible exact rowcode_Encode.mono _ _ _ _ _ _ _)
   | (with_reducible exact LeO.refl _)
   | (with_reducible exact LeO.none _)
   | (with_reducible refine LeO.ite ?_ ?_)
   | (with_reducible refine LeO.bind ?_ (fun _ => ?_))
   | exact ih0 _ _ _ _ _ _ _ _ _ _ _ _ _
   | exact haulagelaw08_Few.mono _ _ _ _ _ _
   | exact haulagelaw08_FewValues.mono _ _
   | exact haulagelaw12_lives.mono _
   | exact haulagelaw12_types.mono _ _ _ _ _ _ _ _ _ _ _
   | exact haulageref08_SameRow.mono _ _ _
   | exact haulageref08_Table.mono _ _ _ _ _ _
   | exact rowcode_Decode.mono _ _ _ _ _ _ _
   | exact rowcode_Encode.mono _ _ _ _ _ _ _
   | exact LeO.none _
   | refine LeO.ite ?_ ?_
   | refine LeO.bind ?_ (fun _ => ?_)
theorem haulagelaw12_RowcodeTypes.mono : ∀ a0 a1 a2 a3 a4 a5 a6 a7 a8 a9 a10 a11 k, LeO (haulagelaw12_RowcodeTypes.f k a0 a1 a2 a3 a4 a5 a6 a7 a8 a9 a10 a11) (haulagelaw12_RowcodeTypes.f (k + 1) a0 a1 a2 a3 a4 a5 a6 a7 a8 a9 a10 a11) := by
 intro a0 a1 a2 a3 a4 a5 a6 a7 a8 a9 a10 a11 k
 have ih0 := haulagelaw12_RowcodeTypes.mono_l k
 unfold haulagelaw12_RowcodeTypes.f
 repeat' first | with_reducible (first | exact ih0 .. | exact haulagelaw08_Few.mono .. | exact haulagelaw08_FewValues.mono .. | exact haulagelaw12_lives.mono .. | exact haulagelaw12_types.mono .. | exact haulageref08_SameRow.mono .. | exact haulageref08_Table.mono .. | exact rowcode_Decode.mono .. | exact rowcode_Encode.mono .. | exact LeO.refl .. | exact LeO.none .. | refine LeO.ite ?_ ?_ | refine LeO.bind ?_ (fun _ => ?_)) | exact ih0 .. | exact haulagelaw08_Few.mono .. | exact haulagelaw08_FewValues.mono .. | exact haulagelaw12_lives.mono .. | exact haulagelaw12_types.mono .. | exact haulageref08_SameRow.mono .. | exact haulageref08_Table.mono .. | exact rowcode_Decode.mono .. | exact rowcode_Encode.mono .. | exact LeO.none .. | refine LeO.ite ?_ ?_ | refine LeO.bind ?_ (fun _ => ?_)
set_option maxHeartbeats 8000000 in
set_option maxRecDepth 100000 in
theorem haulagelaw12_RowcodeTypes.calls (k : Nat) (a0_0 : Int) (a0_1 : ByteArray) (a0_2 : Int) (a0_3 : Int) (A0_4 : Option Addr) (c0_4 : Nat) (l0_4 : List (S54)) (a1_0 : Int) (a1_1 : ByteArray) (a1_2 : Int) (a1_3 : Int) (A1_4 : Option Addr) (c1_4 : Nat) (l1_4 : List (S54)) (A2 : Option Addr) (c2 : Nat) (l2 : List (S52)) (a3 : ByteArray) (r : Bool) (w : World) (hr0_4 : Kd.C k54 w A0_4 l0_4.length l0_4) (hc0_4 : l0_4.length ≤ c0_4) (hr1_4 : Kd.C k54 w A1_4 l1_4.length l1_4) (hc1_4 : l1_4.length ≤ c1_4) (hr2 : Kd.C k52 w A2 l2.length l2) (hc2 : l2.length ≤ c2) (hG : Glob w) (h : haulagelaw12_RowcodeTypes.f k a0_0 a0_1 a0_2 a0_3 l0_4 a1_0 a1_1 a1_2 a1_3 l1_4 l2 a3 = some r) :
  Calls Tryd.prog 11 #[.agg #[.int .i64 a0_0, .string a0_1, .int .i64 a0_2, .int .i64 a0_3, .slice A0_4 l0_4.length c0_4], .agg #[.int .i64 a1_0, .string a1_1, .int .i64 a1_2, .int .i64 a1_3, .slice A1_4 l1_4.length c1_4], .slice A2 l2.length c2, .string a3] w fun e w' => e = .returned (.bool r) ∧ Below w.heap.size w w' := by
 have hu24 := Tryd.underlying24
 have HR0_4 := aM hr0_4
 have HC0_4 := aM hc0_4
 clear hr0_4 hc0_4
 have HR1_4 := aM hr1_4
 have HC1_4 := aM hc1_4
 clear hr1_4 hc1_4
 have HR2 := aM hr2
 have HC2 := aM hc2
 clear hr2 hc2
 have HG := aM hG
 clear hG
 have HB := aM (Below.refl w.heap.size w)
 have H : ((haulagelaw12_lives.f k).bind fun t315 => (if t315 = true then ((haulagelaw08_Few.f k a0_0 a0_1 a0_2 a0_3 l0_4).bind fun t316 => (if t316 = true then ((haulagelaw08_Few.f k a1_0 a1_1 a1_2 a1_3 l1_4).bind fun t317 => (if t317 = true then ((haulagelaw08_FewValues.f k l2).bind fun t318 => (if t318 = true then (if (a3.size : Int) > 2000 then (haulagelaw12_RowcodeTypes.j0 k l2 a3 true a0_0 a0_1 a0_2 a0_3 l0_4 a1_0 a1_1 a1_2 a1_3 l1_4) else ((haulageref08_Table.f k a0_0 a0_1 a0_2 a0_3 l0_4).bind fun t319 => (if t319 = true then ((haulageref08_Table.f k a1_0 a1_1 a1_2 a1_3 l1_4).bind fun t320 => (if t320 = true then ((haulagelaw12_types.f k a0_0 a0_1 a0_2 a0_3 l0_4 a1_0 a1_1 a1_2 a1_3 l1_4).bind fun t321 => (haulagelaw12_RowcodeTypes.j0 k l2 a3 (!t321) a0_0 a0_1 a0_2 a0_3 l0_4 a1_0 a1_1 a1_2 a1_3 l1_4)) else (haulagelaw12_RowcodeTypes.j0 k l2 a3 true a0_0 a0_1 a0_2 a0_3 l0_4 a1_0 a1_1 a1_2 a1_3 l1_4))) else (haulagelaw12_RowcodeTypes.j0 k l2 a3 true a0_0 a0_1 a0_2 a0_3 l0_4 a1_0 a1_1 a1_2 a1_3 l1_4)))) else (haulagelaw12_RowcodeTypes.j0 k l2 a3 true a0_0 a0_1 a0_2 a0_3 l0_4 a1_0 a1_1 a1_2 a1_3 l1_4))) else (haulagelaw12_RowcodeTypes.j0 k l2 a3 true a0_0 a0_1 a0_2 a0_3 l0_4 a1_0 a1_1 a1_2 a1_3 l1_4))) else (haulagelaw12_RowcodeTypes.j0 k l2 a3 true a0_0 a0_1 a0_2 a0_3 l0_4 a1_0 a1_1 a1_2 a1_3 l1_4))) else (some false))) = some r := h
 clear h
 obtain ⟨t315, A5, H⟩ := yb H
 by_cases c6 : t315 = true
 ·
  subst c6
  replace H := yt H
  have HC7 := aM H
  clear H
  go_enter Tryd.func11, Tryd.ntmps11
  go_upto_region 3 with (first | ((with_reducible refine gate_dst (N := 4) rfl ?_); (try (refine gate_guard (by rfl) ?_; dsimp only)); refine yX (N := 4) (cs := #[.int .i64 a0_0, .string a0_1, .int .i64 a0_2, .int .i64 a0_3, .slice A0_4 l0_4.length c0_4]) (t := 24) ?_; intro gb313 hg w8 hbox hb; have BK313 := aM (hbox); have GW313 := yZ hg (yB HB); have GE313 := yZ hg (yB HB); replace HB := aM (bP (yB HB) hb); clear hb hbox hg) | ((with_reducible refine gate_dst (N := 5) rfl ?_); (try (refine gate_guard (by rfl) ?_; dsimp only)); refine yX (N := 5) (cs := #[.int .i64 a1_0, .string a1_1, .int .i64 a1_2, .int .i64 a1_3, .slice A1_4 l1_4.length c1_4]) (t := 24) ?_; intro gb314 hg w9 hbox hb; have BK314 := aM (hbox); have GW314 := yZ hg (yG1 HB GE313.out); have GE314 := yZ hg (yG1 HB GE313.out); replace HB := aM (bP (yG1 HB GE313.out) hb); have NB313_314 := yN hg (yK BK313); have NB314_313 := yM hg (yK BK313); replace BK313 := aM (kB (yK BK313) hb); clear hb hbox hg) | ((with_reducible refine gate_callee (f := 13) rfl ?_); refine yC 17 Tryd.func13 #[] rfl ?_; (with_reducible refine (haulagelaw12_lives.calls k  true _ ?side1 A5.out).mono ?_); (case side1 => first | (with_reducible exact HG.out) | exact Glob.below HG.out (yG2 HB GE313.out GE314.out)); rintro e w10 ⟨rfl, hb⟩; refine ⟨_, rfl, ?_⟩; replace BK313 := aM (kB (yK BK313) hb); replace BK314 := aM (kB (yK BK314) hb); replace HB := aM (bP (yG2 HB GE313.out GE314.out) hb); (try clear hb)))
  (try simp only [Act.put, s1_, s2_, s3_])
  go_cut [52] (fun v52 wc => ∃ (kq : Nat) (x52_6 : Bool), v52 = .bool x52_6 ∧ Aside0 (haulagelaw12_RowcodeTypes.j0 kq l2 a3 x52_6 a0_0 a0_1 a0_2 a0_3 l0_4 a1_0 a1_1 a1_2 a1_3 l1_4 = some r) ∧ Aside0 (kq ≤ k) ∧ Aside0 (wc.heap[gb313]? = some (.cells #[.int .i64 a0_0, .string a0_1, .int .i64 a0_2, .int .i64 a0_3, (.slice A0_4 l0_4.length c0_4)] 24 (0, 0))) ∧ Aside0 (wc.heap[gb314]? = some (.cells #[.int .i64 a1_0, .string a1_1, .int .i64 a1_2, .int .i64 a1_3, (.slice A1_4 l1_4.length c1_4)] 24 (0, 0))) ∧ Aside0 (Below w.heap.size w wc))
  case first =>
   have H := HC7.out
   clear HC7
   obtain ⟨t316, A11, H⟩ := yb H
   by_cases c12 : t316 = true
   ·
    subst c12
    replace H := yt H
    obtain ⟨t317, A13, H⟩ := yb H
    by_cases c14 : t317 = true
    ·
     subst c14
     replace H := yt H
     obtain ⟨t318, A15, H⟩ := yb H
     by_cases c16 : t318 = true
     ·
      subst c16
      replace H := yt H
      by_cases c17 : (a3.size : Int) > 2000
      ·
       rw [if_pos c17] at H
       have c17b0 : decide (2000 < (a3.size : Int)) = true := decide_eq_true c17
       have c17b1 : decide (2000 < a3.size) = true := decide_eq_true (by omega)
       clear c17
       (first | rw [c17b0] | (simp only [i64_w, i32_w]; rw [c17b0]) | skip)
       have H' := aM H
       clear H
       have hnb18 := NB313_314.out
       have hnc18 := NB314_313.out
       obtain ⟨hcz19_0, hcz19_1, hcz19_2, hcz19_3, hcz19_4, hfz19_0, hfz19_1, hfz19_2, hfz19_3, hfz19_4⟩ := cells5 BK313.out
       go_wp2_with (first | ((with_reducible refine gate_callee (f := 14) rfl ?_); refine yC 20 Tryd.func14 #[.agg #[.int .i64 a0_0, .string a0_1, .int .i64 a0_2, .int .i64 a0_3, .slice A0_4 l0_4.length c0_4]] rfl ?_; (with_reducible refine (haulagelaw08_Few.calls k a0_0 a0_1 a0_2 a0_3 _ _ l0_4 true _ ?side1 ?side2 A11.out).mono ?_); (case side1 => exact yW (Kd.C_below HR0_4.out HB.out)); (case side2 => exact HC0_4.out); rintro e w20 ⟨rfl, hb⟩; refine ⟨_, rfl, ?_⟩; replace BK313 := aM (kB (yK BK313) hb); replace BK314 := aM (kB (yK BK314) hb); replace HB := aM (bP (yG2 HB GE313.out GE314.out) hb); (try clear hb); obtain ⟨hcz21_0, hcz21_1, hcz21_2, hcz21_3, hcz21_4, hfz21_0, hfz21_1, hfz21_2, hfz21_3, hfz21_4⟩ := cells5 BK314.out) | (go_at_call 14; (with_reducible refine (haulagelaw08_Few.calls k a1_0 a1_1 a1_2 a1_3 _ _ l1_4 true _ ?side1 ?side2 A13.out).mono ?_); (case side1 => exact yW (Kd.C_below HR1_4.out HB.out)); (case side2 => exact HC1_4.out); rintro e w22 ⟨rfl, hb⟩; replace BK313 := aM (kB (yK BK313) hb); replace BK314 := aM (kB (yK BK314) hb); replace HB := aM (bP (yG2 HB GE313.out GE314.out) hb); (try clear hb)) | (go_at_call 15; (with_reducible refine (haulagelaw08_FewValues.calls k _ _ l2 true _ ?side1 ?side2 A15.out).mono ?_); (case side1 => exact yW (Kd.C_below HR2.out HB.out)); (case side2 => exact HC2.out); rintro e w' ⟨rfl, ⟨nd, rfl⟩⟩))
       go_meet
       case rel => exact ⟨_, (true), yS, H', ⟨yO⟩, ⟨yK BK313⟩, ⟨yK BK314⟩, ⟨yG2 HB GE313.out GE314.out⟩⟩
      ·
       rw [if_neg c17] at H
       have c17b0 : decide (2000 < (a3.size : Int)) = false := decide_eq_false c17
       have c17b1 : decide (2000 < a3.size) = false := decide_eq_false (by omega)
       clear c17
       (first | rw [c17b0] | (simp only [i64_w, i32_w]; rw [c17b0]) | skip)
       obtain ⟨t319, A23, H⟩ := yb H
       by_cases c24 : t319 = true
       ·
        subst c24
        replace H := yt H
        obtain ⟨t320, A25, H⟩ := yb H
        by_cases c26 : t320 = true
        ·
         subst c26
         replace H := yt H
         obtain ⟨t321, A27, H⟩ := yb H
         have H' := aM H
         clear H
         have hnb28 := NB313_314.out
         have hnc28 := NB314_313.out
         obtain ⟨hcz29_0, hcz29_1, hcz29_2, hcz29_3, hcz29_4, hfz29_0, hfz29_1, hfz29_2, hfz29_3, hfz29_4⟩ := cells5 BK313.out
         go_wp2_with (first | ((with_reducible refine gate_callee (f := 14) rfl ?_); refine yC 20 Tryd.func14 #[.agg #[.int .i64 a0_0, .string a0_1, .int .i64 a0_2, .int .i64 a0_3, .slice A0_4 l0_4.length c0_4]] rfl ?_; (with_reducible refine (haulagelaw08_Few.calls k a0_0 a0_1 a0_2 a0_3 _ _ l0_4 true _ ?side1 ?side2 A11.out).mono ?_); (case side1 => exact yW (Kd.C_below HR0_4.out HB.out)); (case side2 => exact HC0_4.out); rintro e w30 ⟨rfl, hb⟩; refine ⟨_, rfl, ?_⟩; replace BK313 := aM (kB (yK BK313) hb); replace BK314 := aM (kB (yK BK314) hb); replace HB := aM (bP (yG2 HB GE313.out GE314.out) hb); (try clear hb); obtain ⟨hcz31_0, hcz31_1, hcz31_2, hcz31_3, hcz31_4, hfz31_0, hfz31_1, hfz31_2, hfz31_3, hfz31_4⟩ := cells5 BK314.out) | (go_at_call 14; (with_reducible refine (haulagelaw08_Few.calls k a1_0 a1_1 a1_2 a1_3 _ _ l1_4 true _ ?side1 ?side2 A13.out).mono ?_); (case side1 => exact yW (Kd.C_below HR1_4.out HB.out)); (case side2 => exact HC1_4.out); rintro e w32 ⟨rfl, hb⟩; replace BK313 := aM (kB (yK BK313) hb); replace BK314 := aM (kB (yK BK314) hb); replace HB := aM (bP (yG2 HB GE313.out GE314.out) hb); (try clear hb)) | (go_at_call 15; (with_reducible refine (haulagelaw08_FewValues.calls k _ _ l2 true _ ?side1 ?side2 A15.out).mono ?_); (case side1 => exact yW (Kd.C_below HR2.out HB.out)); (case side2 => exact HC2.out); rintro e w' ⟨rfl, ⟨nd, rfl⟩⟩; obtain ⟨hcz33_0, hcz33_1, hcz33_2, hcz33_3, hcz33_4, hfz33_0, hfz33_1, hfz33_2, hfz33_3, hfz33_4⟩ := cells5 BK313.out) | (go_at_call 27; (with_reducible refine (haulageref08_Table.calls k a0_0 a0_1 a0_2 a0_3 _ _ l0_4 true _ ?side1 ?side2 A23.out).mono ?_); (case side1 => repeat (first | exact (Kd.C_below HR0_4.out (yG2 HB GE313.out GE314.out)) | (with_reducible refine Kd.C_alloc ?_ _) | (with_reducible refine Kd.C_drewN ?_ _) | (with_reducible refine Kd.C_drew ?_))); (case side2 => exact HC0_4.out); rintro e w34 ⟨rfl, hb⟩; replace BK313 := aM (kB (yK BK313) hb); replace BK314 := aM (kB (yK BK314) hb); replace HB := aM (bP (yG2 HB GE313.out GE314.out) hb); (try clear hb); obtain ⟨hcz35_0, hcz35_1, hcz35_2, hcz35_3, hcz35_4, hfz35_0, hfz35_1, hfz35_2, hfz35_3, hfz35_4⟩ := cells5 BK314.out) | (go_at_call 27; (with_reducible refine (haulageref08_Table.calls k a1_0 a1_1 a1_2 a1_3 _ _ l1_4 true _ ?side1 ?side2 A25.out).mono ?_); (case side1 => exact yW (Kd.C_below HR1_4.out HB.out)); (case side2 => exact HC1_4.out); rintro e w36 ⟨rfl, hb⟩; replace BK313 := aM (kB (yK BK313) hb); replace BK314 := aM (kB (yK BK314) hb); replace HB := aM (bP (yG2 HB GE313.out GE314.out) hb); (try clear hb); obtain ⟨hcz37_0, hcz37_1, hcz37_2, hcz37_3, hcz37_4, hfz37_0, hfz37_1, hfz37_2, hfz37_3, hfz37_4⟩ := cells5 BK313.out; obtain ⟨hcz38_0, hcz38_1, hcz38_2, hcz38_3, hcz38_4, hfz38_0, hfz38_1, hfz38_2, hfz38_3, hfz38_4⟩ := cells5 BK314.out) | (go_at_call 53; (with_reducible refine (haulagelaw12_types.calls k a0_0 a0_1 a0_2 a0_3 _ _ l0_4 a1_0 a1_1 a1_2 a1_3 _ _ l1_4 t321 _ ?side1 ?side2 ?side3 ?side4 A27.out).mono ?_); (case side1 => exact yW (Kd.C_below HR0_4.out HB.out)); (case side2 => exact HC0_4.out); (case side3 => exact yW (Kd.C_below HR1_4.out HB.out)); (case side4 => exact HC1_4.out); rintro e w39 ⟨rfl, hb⟩; replace BK313 := aM (kB (yK BK313) hb); replace BK314 := aM (kB (yK BK314) hb); replace HB := aM (bP (yG2 HB GE313.out GE314.out) hb); (try clear hb)))
         go_meet
         case rel => exact ⟨_, (!t321), yS, H', ⟨yO⟩, ⟨yK BK313⟩, ⟨yK BK314⟩, ⟨yG2 HB GE313.out GE314.out⟩⟩
        ·
         replace c26 := Bool.eq_false_iff.mpr c26
         subst c26
         replace H := yf H
         have H' := aM H
         clear H
         have hnb40 := NB313_314.out
         have hnc40 := NB314_313.out
         obtain ⟨hcz41_0, hcz41_1, hcz41_2, hcz41_3, hcz41_4, hfz41_0, hfz41_1, hfz41_2, hfz41_3, hfz41_4⟩ := cells5 BK313.out
         go_wp2_with (first | ((with_reducible refine gate_callee (f := 14) rfl ?_); refine yC 20 Tryd.func14 #[.agg #[.int .i64 a0_0, .string a0_1, .int .i64 a0_2, .int .i64 a0_3, .slice A0_4 l0_4.length c0_4]] rfl ?_; (with_reducible refine (haulagelaw08_Few.calls k a0_0 a0_1 a0_2 a0_3 _ _ l0_4 true _ ?side1 ?side2 A11.out).mono ?_); (case side1 => exact yW (Kd.C_below HR0_4.out HB.out)); (case side2 => exact HC0_4.out); rintro e w42 ⟨rfl, hb⟩; refine ⟨_, rfl, ?_⟩; replace BK313 := aM (kB (yK BK313) hb); replace BK314 := aM (kB (yK BK314) hb); replace HB := aM (bP (yG2 HB GE313.out GE314.out) hb); (try clear hb); obtain ⟨hcz43_0, hcz43_1, hcz43_2, hcz43_3, hcz43_4, hfz43_0, hfz43_1, hfz43_2, hfz43_3, hfz43_4⟩ := cells5 BK314.out) | (go_at_call 14; (with_reducible refine (haulagelaw08_Few.calls k a1_0 a1_1 a1_2 a1_3 _ _ l1_4 true _ ?side1 ?side2 A13.out).mono ?_); (case side1 => exact yW (Kd.C_below HR1_4.out HB.out)); (case side2 => exact HC1_4.out); rintro e w44 ⟨rfl, hb⟩; replace BK313 := aM (kB (yK BK313) hb); replace BK314 := aM (kB (yK BK314) hb); replace HB := aM (bP (yG2 HB GE313.out GE314.out) hb); (try clear hb)) | (go_at_call 15; (with_reducible refine (haulagelaw08_FewValues.calls k _ _ l2 true _ ?side1 ?side2 A15.out).mono ?_); (case side1 => exact yW (Kd.C_below HR2.out HB.out)); (case side2 => exact HC2.out); rintro e w' ⟨rfl, ⟨nd, rfl⟩⟩; obtain ⟨hcz45_0, hcz45_1, hcz45_2, hcz45_3, hcz45_4, hfz45_0, hfz45_1, hfz45_2, hfz45_3, hfz45_4⟩ := cells5 BK313.out) | (go_at_call 27; (with_reducible refine (haulageref08_Table.calls k a0_0 a0_1 a0_2 a0_3 _ _ l0_4 true _ ?side1 ?side2 A23.out).mono ?_); (case side1 => repeat (first | exact (Kd.C_below HR0_4.out (yG2 HB GE313.out GE314.out)) | (with_reducible refine Kd.C_alloc ?_ _) | (with_reducible refine Kd.C_drewN ?_ _) | (with_reducible refine Kd.C_drew ?_))); (case side2 => exact HC0_4.out); rintro e w46 ⟨rfl, hb⟩; replace BK313 := aM (kB (yK BK313) hb); replace BK314 := aM (kB (yK BK314) hb); replace HB := aM (bP (yG2 HB GE313.out GE314.out) hb); (try clear hb); obtain ⟨hcz47_0, hcz47_1, hcz47_2, hcz47_3, hcz47_4, hfz47_0, hfz47_1, hfz47_2, hfz47_3, hfz47_4⟩ := cells5 BK314.out) | (go_at_call 27; (with_reducible refine (haulageref08_Table.calls k a1_0 a1_1 a1_2 a1_3 _ _ l1_4 false _ ?side1 ?side2 A25.out).mono ?_); (case side1 => exact yW (Kd.C_below HR1_4.out HB.out)); (case side2 => exact HC1_4.out); rintro e w48 ⟨rfl, hb⟩; replace BK313 := aM (kB (yK BK313) hb); replace BK314 := aM (kB (yK BK314) hb); replace HB := aM (bP (yG2 HB GE313.out GE314.out) hb); (try clear hb)))
         go_meet
         case rel => exact ⟨_, (true), yS, H', ⟨yO⟩, ⟨yK BK313⟩, ⟨yK BK314⟩, ⟨yG2 HB GE313.out GE314.out⟩⟩
       ·
        replace c24 := Bool.eq_false_iff.mpr c24
        subst c24
        replace H := yf H
        have H' := aM H
        clear H
        have hnb49 := NB313_314.out
        have hnc49 := NB314_313.out
        obtain ⟨hcz50_0, hcz50_1, hcz50_2, hcz50_3, hcz50_4, hfz50_0, hfz50_1, hfz50_2, hfz50_3, hfz50_4⟩ := cells5 BK313.out
        go_wp2_with (first | ((with_reducible refine gate_callee (f := 14) rfl ?_); refine yC 20 Tryd.func14 #[.agg #[.int .i64 a0_0, .string a0_1, .int .i64 a0_2, .int .i64 a0_3, .slice A0_4 l0_4.length c0_4]] rfl ?_; (with_reducible refine (haulagelaw08_Few.calls k a0_0 a0_1 a0_2 a0_3 _ _ l0_4 true _ ?side1 ?side2 A11.out).mono ?_); (case side1 => exact yW (Kd.C_below HR0_4.out HB.out)); (case side2 => exact HC0_4.out); rintro e w51 ⟨rfl, hb⟩; refine ⟨_, rfl, ?_⟩; replace BK313 := aM (kB (yK BK313) hb); replace BK314 := aM (kB (yK BK314) hb); replace HB := aM (bP (yG2 HB GE313.out GE314.out) hb); (try clear hb); obtain ⟨hcz52_0, hcz52_1, hcz52_2, hcz52_3, hcz52_4, hfz52_0, hfz52_1, hfz52_2, hfz52_3, hfz52_4⟩ := cells5 BK314.out) | (go_at_call 14; (with_reducible refine (haulagelaw08_Few.calls k a1_0 a1_1 a1_2 a1_3 _ _ l1_4 true _ ?side1 ?side2 A13.out).mono ?_); (case side1 => exact yW (Kd.C_below HR1_4.out HB.out)); (case side2 => exact HC1_4.out); rintro e w53 ⟨rfl, hb⟩; replace BK313 := aM (kB (yK BK313) hb); replace BK314 := aM (kB (yK BK314) hb); replace HB := aM (bP (yG2 HB GE313.out GE314.out) hb); (try clear hb)) | (go_at_call 15; (with_reducible refine (haulagelaw08_FewValues.calls k _ _ l2 true _ ?side1 ?side2 A15.out).mono ?_); (case side1 => exact yW (Kd.C_below HR2.out HB.out)); (case side2 => exact HC2.out); rintro e w' ⟨rfl, ⟨nd, rfl⟩⟩; obtain ⟨hcz54_0, hcz54_1, hcz54_2, hcz54_3, hcz54_4, hfz54_0, hfz54_1, hfz54_2, hfz54_3, hfz54_4⟩ := cells5 BK313.out) | (go_at_call 27; (with_reducible refine (haulageref08_Table.calls k a0_0 a0_1 a0_2 a0_3 _ _ l0_4 false _ ?side1 ?side2 A23.out).mono ?_); (case side1 => repeat (first | exact (Kd.C_below HR0_4.out (yG2 HB GE313.out GE314.out)) | (with_reducible refine Kd.C_alloc ?_ _) | (with_reducible refine Kd.C_drewN ?_ _) | (with_reducible refine Kd.C_drew ?_))); (case side2 => exact HC0_4.out); rintro e w55 ⟨rfl, hb⟩; replace BK313 := aM (kB (yK BK313) hb); replace BK314 := aM (kB (yK BK314) hb); replace HB := aM (bP (yG2 HB GE313.out GE314.out) hb); (try clear hb)))
        go_meet
        case rel => exact ⟨_, (true), yS, H', ⟨yO⟩, ⟨yK BK313⟩, ⟨yK BK314⟩, ⟨yG2 HB GE313.out GE314.out⟩⟩
     ·
      replace c16 := Bool.eq_false_iff.mpr c16
      subst c16
      replace H := yf H
      have H' := aM H
      clear H
      have hnb56 := NB313_314.out
      have hnc56 := NB314_313.out
      obtain ⟨hcz57_0, hcz57_1, hcz57_2, hcz57_3, hcz57_4, hfz57_0, hfz57_1, hfz57_2, hfz57_3, hfz57_4⟩ := cells5 BK313.out
      go_wp2_with (first | ((with_reducible refine gate_callee (f := 14) rfl ?_); refine yC 20 Tryd.func14 #[.agg #[.int .i64 a0_0, .string a0_1, .int .i64 a0_2, .int .i64 a0_3, .slice A0_4 l0_4.length c0_4]] rfl ?_; (with_reducible refine (haulagelaw08_Few.calls k a0_0 a0_1 a0_2 a0_3 _ _ l0_4 true _ ?side1 ?side2 A11.out).mono ?_); (case side1 => exact yW (Kd.C_below HR0_4.out HB.out)); (case side2 => exact HC0_4.out); rintro e w58 ⟨rfl, hb⟩; refine ⟨_, rfl, ?_⟩; replace BK313 := aM (kB (yK BK313) hb); replace BK314 := aM (kB (yK BK314) hb); replace HB := aM (bP (yG2 HB GE313.out GE314.out) hb); (try clear hb); obtain ⟨hcz59_0, hcz59_1, hcz59_2, hcz59_3, hcz59_4, hfz59_0, hfz59_1, hfz59_2, hfz59_3, hfz59_4⟩ := cells5 BK314.out) | (go_at_call 14; (with_reducible refine (haulagelaw08_Few.calls k a1_0 a1_1 a1_2 a1_3 _ _ l1_4 true _ ?side1 ?side2 A13.out).mono ?_); (case side1 => exact yW (Kd.C_below HR1_4.out HB.out)); (case side2 => exact HC1_4.out); rintro e w60 ⟨rfl, hb⟩; replace BK313 := aM (kB (yK BK313) hb); replace BK314 := aM (kB (yK BK314) hb); replace HB := aM (bP (yG2 HB GE313.out GE314.out) hb); (try clear hb)) | (go_at_call 15; (with_reducible refine (haulagelaw08_FewValues.calls k _ _ l2 false _ ?side1 ?side2 A15.out).mono ?_); (case side1 => exact yW (Kd.C_below HR2.out HB.out)); (case side2 => exact HC2.out); rintro e w' ⟨rfl, ⟨nd, rfl⟩⟩))
      go_meet
      case rel => exact ⟨_, (true), yS, H', ⟨yO⟩, ⟨yK BK313⟩, ⟨yK BK314⟩, ⟨yG2 HB GE313.out GE314.out⟩⟩
    ·
     replace c14 := Bool.eq_false_iff.mpr c14
     subst c14
     replace H := yf H
     have H' := aM H
     clear H
     have hnb61 := NB313_314.out
     have hnc61 := NB314_313.out
     obtain ⟨hcz62_0, hcz62_1, hcz62_2, hcz62_3, hcz62_4, hfz62_0, hfz62_1, hfz62_2, hfz62_3, hfz62_4⟩ := cells5 BK313.out
     go_wp2_with (first | ((with_reducible refine gate_callee (f := 14) rfl ?_); refine yC 20 Tryd.func14 #[.agg #[.int .i64 a0_0, .string a0_1, .int .i64 a0_2, .int .i64 a0_3, .slice A0_4 l0_4.length c0_4]] rfl ?_; (with_reducible refine (haulagelaw08_Few.calls k a0_0 a0_1 a0_2 a0_3 _ _ l0_4 true _ ?side1 ?side2 A11.out).mono ?_); (case side1 => exact yW (Kd.C_below HR0_4.out HB.out)); (case side2 => exact HC0_4.out); rintro e w63 ⟨rfl, hb⟩; refine ⟨_, rfl, ?_⟩; replace BK313 := aM (kB (yK BK313) hb); replace BK314 := aM (kB (yK BK314) hb); replace HB := aM (bP (yG2 HB GE313.out GE314.out) hb); (try clear hb); obtain ⟨hcz64_0, hcz64_1, hcz64_2, hcz64_3, hcz64_4, hfz64_0, hfz64_1, hfz64_2, hfz64_3, hfz64_4⟩ := cells5 BK314.out) | (go_at_call 14; (with_reducible refine (haulagelaw08_Few.calls k a1_0 a1_1 a1_2 a1_3 _ _ l1_4 false _ ?side1 ?side2 A13.out).mono ?_); (case side1 => exact yW (Kd.C_below HR1_4.out HB.out)); (case side2 => exact HC1_4.out); rintro e w65 ⟨rfl, hb⟩; replace BK313 := aM (kB (yK BK313) hb); replace BK314 := aM (kB (yK BK314) hb); replace HB := aM (bP (yG2 HB GE313.out GE314.out) hb); (try clear hb)))
     go_meet
     case rel => exact ⟨_, (true), yS, H', ⟨yO⟩, ⟨yK BK313⟩, ⟨yK BK314⟩, ⟨yG2 HB GE313.out GE314.out⟩⟩
   ·
    replace c12 := Bool.eq_false_iff.mpr c12
    subst c12
    replace H := yf H
    have H' := aM H
    clear H
    have hnb66 := NB313_314.out
    have hnc66 := NB314_313.out
    obtain ⟨hcz67_0, hcz67_1, hcz67_2, hcz67_3, hcz67_4, hfz67_0, hfz67_1, hfz67_2, hfz67_3, hfz67_4⟩ := cells5 BK313.out
    go_wp2_with (first | ((with_reducible refine gate_callee (f := 14) rfl ?_); refine yC 20 Tryd.func14 #[.agg #[.int .i64 a0_0, .string a0_1, .int .i64 a0_2, .int .i64 a0_3, .slice A0_4 l0_4.length c0_4]] rfl ?_; (with_reducible refine (haulagelaw08_Few.calls k a0_0 a0_1 a0_2 a0_3 _ _ l0_4 false _ ?side1 ?side2 A11.out).mono ?_); (case side1 => exact yW (Kd.C_below HR0_4.out HB.out)); (case side2 => exact HC0_4.out); rintro e w68 ⟨rfl, hb⟩; refine ⟨_, rfl, ?_⟩; replace BK313 := aM (kB (yK BK313) hb); replace BK314 := aM (kB (yK BK314) hb); replace HB := aM (bP (yG2 HB GE313.out GE314.out) hb); (try clear hb)))
    go_meet
    case rel => exact ⟨_, (true), yS, H', ⟨yO⟩, ⟨yK BK313⟩, ⟨yK BK314⟩, ⟨yG2 HB GE313.out GE314.out⟩⟩
  case rest =>
   clear HC7
   try clear c2
   try clear c6
   obtain ⟨kq, x52_6, rfl, HA, HJ6, BK313, BK314, HB⟩ := hcut
   cases kq with
   | zero => exact absurd HA.out (by simp [haulagelaw12_RowcodeTypes.j0])
   | succ kj6 =>
    have H := HA.out
    clear HA
    simp only [haulagelaw12_RowcodeTypes.j0] at H
    by_cases c69 : x52_6 = true
    ·
     subst c69
     replace H := yt H
     obtain rfl := Option.some.inj H
     go_wp2
     go_ret
     exact ⟨yE, yG2 HB GE313.out GE314.out⟩
    ·
     replace c69 := Bool.eq_false_iff.mpr c69
     subst c69
     replace H := yf H
     obtain ⟨⟨t322, t323⟩, A70, H⟩ := yb H
     try dsimp -simprocs only at H
     obtain ⟨⟨t324, t325⟩, A71, H⟩ := yb H
     try dsimp -simprocs only at H
     obtain ⟨⟨t326, t329⟩, A72, H⟩ := yb H
     try dsimp -simprocs only at H
     obtain ⟨⟨t330, t333⟩, A73, H⟩ := yb H
     try dsimp -simprocs only at H
     by_cases c74 : t322.toList = t324.toList
     ·
      rw [if_pos c74] at H
      have c74b0 : (t322.toList == t324.toList) = true := beq_iff_eq.mpr c74
      have c74b1 : (t322.toList != t324.toList) = false := bne_eq_false_iff_eq.mpr c74
      clear c74
      by_cases c75 : t323 = t325
      ·
       rw [if_pos c75] at H
       have c75b0 : (t323 == t325) = true := beq_iff_eq.mpr c75
       have c75b1 : (t323 != t325) = false := bne_eq_false_iff_eq.mpr c75
       clear c75
       obtain ⟨t334, A76, H⟩ := yb H
       by_cases c77 : t334 = true
       ·
        subst c77
        replace H := yt H
        obtain rfl := Option.some.inj H
        have hnb78 := NB313_314.out
        have hnc78 := NB314_313.out
        obtain ⟨hcz79_0, hcz79_1, hcz79_2, hcz79_3, hcz79_4, hfz79_0, hfz79_1, hfz79_2, hfz79_3, hfz79_4⟩ := cells5 BK313.out
        go_wp2_with (first | ((with_reducible refine gate_callee (f := 16) rfl ?_); refine yC 56 Tryd.func16 #[.agg #[.int .i64 a0_0, .string a0_1, .int .i64 a0_2, .int .i64 a0_3, .slice A0_4 l0_4.length c0_4], .slice A2 l2.length c2] rfl ?_; (with_reducible refine (rowcode_Encode.calls kj6 a0_0 a0_1 a0_2 a0_3 _ _ l0_4 _ _ l2 t322 t323 _ ?side1 ?side2 ?side3 ?side4 ?side5 A70.out).mono ?_); (case side1 => exact yW (Kd.C_below HR0_4.out HB.out)); (case side2 => exact HC0_4.out); (case side3 => exact yW (Kd.C_below HR2.out HB.out)); (case side4 => exact HC2.out); (case side5 => first | (with_reducible exact HG.out) | exact Glob.below HG.out (yG2 HB GE313.out GE314.out)); rintro e w80 ⟨rfl, hb⟩; refine ⟨_, rfl, ?_⟩; replace BK313 := aM (kB (yK BK313) hb); replace BK314 := aM (kB (yK BK314) hb); replace HB := aM (bP (yG2 HB GE313.out GE314.out) hb); (try clear hb); obtain ⟨hcz81_0, hcz81_1, hcz81_2, hcz81_3, hcz81_4, hfz81_0, hfz81_1, hfz81_2, hfz81_3, hfz81_4⟩ := cells5 BK314.out) | ((with_reducible refine gate_callee (f := 16) rfl ?_); refine yC 62 Tryd.func16 #[.agg #[.int .i64 a1_0, .string a1_1, .int .i64 a1_2, .int .i64 a1_3, .slice A1_4 l1_4.length c1_4], .slice A2 l2.length c2] rfl ?_; (with_reducible refine (rowcode_Encode.calls kj6 a1_0 a1_1 a1_2 a1_3 _ _ l1_4 _ _ l2 t324 t325 _ ?side1 ?side2 ?side3 ?side4 ?side5 A71.out).mono ?_); (case side1 => exact yW (Kd.C_below HR1_4.out HB.out)); (case side2 => exact HC1_4.out); (case side3 => exact yW (Kd.C_below HR2.out HB.out)); (case side4 => exact HC2.out); (case side5 => first | (with_reducible exact HG.out) | exact Glob.below HG.out (yG2 HB GE313.out GE314.out)); rintro e w82 ⟨rfl, hb⟩; refine ⟨_, rfl, ?_⟩; replace BK313 := aM (kB (yK BK313) hb); replace BK314 := aM (kB (yK BK314) hb); replace HB := aM (bP (yG2 HB GE313.out GE314.out) hb); (try clear hb); obtain ⟨hcz83_0, hcz83_1, hcz83_2, hcz83_3, hcz83_4, hfz83_0, hfz83_1, hfz83_2, hfz83_3, hfz83_4⟩ := cells5 BK313.out) | ((with_reducible refine gate_callee (f := 51) rfl ?_); refine yC 68 Tryd.func51 #[.agg #[.int .i64 a0_0, .string a0_1, .int .i64 a0_2, .int .i64 a0_3, .slice A0_4 l0_4.length c0_4], .string a3] rfl ?_; (with_reducible refine (rowcode_Decode.calls kj6 a0_0 a0_1 a0_2 a0_3 _ _ l0_4 a3 t326 t329 _ ?side1 ?side2 ?side3 A72.out).mono ?_); (case side1 => exact yW (Kd.C_below HR0_4.out HB.out)); (case side2 => exact HC0_4.out); (case side3 => first | (with_reducible exact HG.out) | exact Glob.below HG.out (yG2 HB GE313.out GE314.out)); rintro e w84 ⟨v327, rfl, ho0, hb⟩; refine ⟨_, rfl, ?_⟩; have HO328 := aM (Kd.R_lower ho0 (bZ (yG2 HB GE313.out GE314.out))); replace BK313 := aM (kB (yK BK313) hb); replace BK314 := aM (kB (yK BK314) hb); replace HB := aM (bP (yG2 HB GE313.out GE314.out) hb); (try clear hb); (try clear ho0); obtain ⟨hcz85_0, hcz85_1, hcz85_2, hcz85_3, hcz85_4, hfz85_0, hfz85_1, hfz85_2, hfz85_3, hfz85_4⟩ := cells5 BK314.out) | ((with_reducible refine gate_callee (f := 51) rfl ?_); refine yC 74 Tryd.func51 #[.agg #[.int .i64 a1_0, .string a1_1, .int .i64 a1_2, .int .i64 a1_3, .slice A1_4 l1_4.length c1_4], .string a3] rfl ?_; (with_reducible refine (rowcode_Decode.calls kj6 a1_0 a1_1 a1_2 a1_3 _ _ l1_4 a3 t330 t333 _ ?side1 ?side2 ?side3 A73.out).mono ?_); (case side1 => exact yW (Kd.C_below HR1_4.out HB.out)); (case side2 => exact HC1_4.out); (case side3 => first | (with_reducible exact HG.out) | exact Glob.below HG.out (yG2 HB GE313.out GE314.out)); rintro e w86 ⟨v331, rfl, ho0, hb⟩; refine ⟨_, rfl, ?_⟩; have HO332 := aM (Kd.R_lower (Kd.R_new' ho0 (Kd.R_lt (yR HO328.out))) (bZ (yG2 HB GE313.out GE314.out))); replace HO328 := aM (Kd.R_elder' (yR HO328.out) (Kd.R_base ho0) hb); replace BK313 := aM (kB (yK BK313) hb); replace BK314 := aM (kB (yK BK314) hb); replace HB := aM (bP (yG2 HB GE313.out GE314.out) hb); (try clear hb); (try clear ho0); obtain ⟨Ao87, co87, eo87⟩ := Kd.R_slice HO328.out; subst eo87; obtain ⟨Ao88, co88, eo88⟩ := Kd.R_slice HO332.out; subst eo88) | (go_at_call 23; (with_reducible refine (haulageref08_SameRow.calls kj6 _ _ t326 _ _ t330 true _ ?side1 ?side2 ?side3 ?side4 A76.out).mono ?_); (case side1 => exact yW (Kd.R_reads' HO328.out).2.2); (case side2 => exact (Kd.R_reads' HO328.out).2.1); (case side3 => exact yW (Kd.R_reads' HO332.out).2.2); (case side4 => exact (Kd.R_reads' HO332.out).2.1); rintro e w' ⟨rfl, ⟨nd, rfl⟩⟩))
        go_ret
        exact ⟨yE, yG2 HB GE313.out GE314.out⟩
       ·
        replace c77 := Bool.eq_false_iff.mpr c77
        subst c77
        replace H := yf H
        obtain rfl := Option.some.inj H
        have hnb89 := NB313_314.out
        have hnc89 := NB314_313.out
        obtain ⟨hcz90_0, hcz90_1, hcz90_2, hcz90_3, hcz90_4, hfz90_0, hfz90_1, hfz90_2, hfz90_3, hfz90_4⟩ := cells5 BK313.out
        go_wp2_with (first | ((with_reducible refine gate_callee (f := 16) rfl ?_); refine yC 56 Tryd.func16 #[.agg #[.int .i64 a0_0, .string a0_1, .int .i64 a0_2, .int .i64 a0_3, .slice A0_4 l0_4.length c0_4], .slice A2 l2.length c2] rfl ?_; (with_reducible refine (rowcode_Encode.calls kj6 a0_0 a0_1 a0_2 a0_3 _ _ l0_4 _ _ l2 t322 t323 _ ?side1 ?side2 ?side3 ?side4 ?side5 A70.out).mono ?_); (case side1 => exact yW (Kd.C_below HR0_4.out HB.out)); (case side2 => exact HC0_4.out); (case side3 => exact yW (Kd.C_below HR2.out HB.out)); (case side4 => exact HC2.out); (case side5 => first | (with_reducible exact HG.out) | exact Glob.below HG.out (yG2 HB GE313.out GE314.out)); rintro e w91 ⟨rfl, hb⟩; refine ⟨_, rfl, ?_⟩; replace BK313 := aM (kB (yK BK313) hb); replace BK314 := aM (kB (yK BK314) hb); replace HB := aM (bP (yG2 HB GE313.out GE314.out) hb); (try clear hb); obtain ⟨hcz92_0, hcz92_1, hcz92_2, hcz92_3, hcz92_4, hfz92_0, hfz92_1, hfz92_2, hfz92_3, hfz92_4⟩ := cells5 BK314.out) | ((with_reducible refine gate_callee (f := 16) rfl ?_); refine yC 62 Tryd.func16 #[.agg #[.int .i64 a1_0, .string a1_1, .int .i64 a1_2, .int .i64 a1_3, .slice A1_4 l1_4.length c1_4], .slice A2 l2.length c2] rfl ?_; (with_reducible refine (rowcode_Encode.calls kj6 a1_0 a1_1 a1_2 a1_3 _ _ l1_4 _ _ l2 t324 t325 _ ?side1 ?side2 ?side3 ?side4 ?side5 A71.out).mono ?_); (case side1 => exact yW (Kd.C_below HR1_4.out HB.out)); (case side2 => exact HC1_4.out); (case side3 => exact yW (Kd.C_below HR2.out HB.out)); (case side4 => exact HC2.out); (case side5 => first | (with_reducible exact HG.out) | exact Glob.below HG.out (yG2 HB GE313.out GE314.out)); rintro e w93 ⟨rfl, hb⟩; refine ⟨_, rfl, ?_⟩; replace BK313 := aM (kB (yK BK313) hb); replace BK314 := aM (kB (yK BK314) hb); replace HB := aM (bP (yG2 HB GE313.out GE314.out) hb); (try clear hb); obtain ⟨hcz94_0, hcz94_1, hcz94_2, hcz94_3, hcz94_4, hfz94_0, hfz94_1, hfz94_2, hfz94_3, hfz94_4⟩ := cells5 BK313.out) | ((with_reducible refine gate_callee (f := 51) rfl ?_); refine yC 68 Tryd.func51 #[.agg #[.int .i64 a0_0, .string a0_1, .int .i64 a0_2, .int .i64 a0_3, .slice A0_4 l0_4.length c0_4], .string a3] rfl ?_; (with_reducible refine (rowcode_Decode.calls kj6 a0_0 a0_1 a0_2 a0_3 _ _ l0_4 a3 t326 t329 _ ?side1 ?side2 ?side3 A72.out).mono ?_); (case side1 => exact yW (Kd.C_below HR0_4.out HB.out)); (case side2 => exact HC0_4.out); (case side3 => first | (with_reducible exact HG.out) | exact Glob.below HG.out (yG2 HB GE313.out GE314.out)); rintro e w95 ⟨v327, rfl, ho0, hb⟩; refine ⟨_, rfl, ?_⟩; have HO328 := aM (Kd.R_lower ho0 (bZ (yG2 HB GE313.out GE314.out))); replace BK313 := aM (kB (yK BK313) hb); replace BK314 := aM (kB (yK BK314) hb); replace HB := aM (bP (yG2 HB GE313.out GE314.out) hb); (try clear hb); (try clear ho0); obtain ⟨hcz96_0, hcz96_1, hcz96_2, hcz96_3, hcz96_4, hfz96_0, hfz96_1, hfz96_2, hfz96_3, hfz96_4⟩ := cells5 BK314.out) | ((with_reducible refine gate_callee (f := 51) rfl ?_); refine yC 74 Tryd.func51 #[.agg #[.int .i64 a1_0, .string a1_1, .int .i64 a1_2, .int .i64 a1_3, .slice A1_4 l1_4.length c1_4], .string a3] rfl ?_; (with_reducible refine (rowcode_Decode.calls kj6 a1_0 a1_1 a1_2 a1_3 _ _ l1_4 a3 t330 t333 _ ?side1 ?side2 ?side3 A73.out).mono ?_); (case side1 => exact yW (Kd.C_below HR1_4.out HB.out)); (case side2 => exact HC1_4.out); (case side3 => first | (with_reducible exact HG.out) | exact Glob.below HG.out (yG2 HB GE313.out GE314.out)); rintro e w97 ⟨v331, rfl, ho0, hb⟩; refine ⟨_, rfl, ?_⟩; have HO332 := aM (Kd.R_lower (Kd.R_new' ho0 (Kd.R_lt (yR HO328.out))) (bZ (yG2 HB GE313.out GE314.out))); replace HO328 := aM (Kd.R_elder' (yR HO328.out) (Kd.R_base ho0) hb); replace BK313 := aM (kB (yK BK313) hb); replace BK314 := aM (kB (yK BK314) hb); replace HB := aM (bP (yG2 HB GE313.out GE314.out) hb); (try clear hb); (try clear ho0); obtain ⟨Ao98, co98, eo98⟩ := Kd.R_slice HO328.out; subst eo98; obtain ⟨Ao99, co99, eo99⟩ := Kd.R_slice HO332.out; subst eo99) | (go_at_call 23; (with_reducible refine (haulageref08_SameRow.calls kj6 _ _ t326 _ _ t330 false _ ?side1 ?side2 ?side3 ?side4 A76.out).mono ?_); (case side1 => exact yW (Kd.R_reads' HO328.out).2.2); (case side2 => exact (Kd.R_reads' HO328.out).2.1); (case side3 => exact yW (Kd.R_reads' HO332.out).2.2); (case side4 => exact (Kd.R_reads' HO332.out).2.1); rintro e w' ⟨rfl, ⟨nd, rfl⟩⟩))
        go_ret
        exact ⟨yE, yG2 HB GE313.out GE314.out⟩
      ·
       rw [if_neg c75] at H
       have c75b0 : (t323 == t325) = false := beq_eq_false_iff_ne.mpr c75
       have c75b1 : (t323 != t325) = true := bne_iff_ne.mpr c75
       obtain rfl := Option.some.inj H
       have hnb100 := NB313_314.out
       have hnc100 := NB314_313.out
       obtain ⟨hcz101_0, hcz101_1, hcz101_2, hcz101_3, hcz101_4, hfz101_0, hfz101_1, hfz101_2, hfz101_3, hfz101_4⟩ := cells5 BK313.out
       go_wp2_with (first | ((with_reducible refine gate_callee (f := 16) rfl ?_); refine yC 56 Tryd.func16 #[.agg #[.int .i64 a0_0, .string a0_1, .int .i64 a0_2, .int .i64 a0_3, .slice A0_4 l0_4.length c0_4], .slice A2 l2.length c2] rfl ?_; (with_reducible refine (rowcode_Encode.calls kj6 a0_0 a0_1 a0_2 a0_3 _ _ l0_4 _ _ l2 t322 t323 _ ?side1 ?side2 ?side3 ?side4 ?side5 A70.out).mono ?_); (case side1 => exact yW (Kd.C_below HR0_4.out HB.out)); (case side2 => exact HC0_4.out); (case side3 => exact yW (Kd.C_below HR2.out HB.out)); (case side4 => exact HC2.out); (case side5 => first | (with_reducible exact HG.out) | exact Glob.below HG.out (yG2 HB GE313.out GE314.out)); rintro e w102 ⟨rfl, hb⟩; refine ⟨_, rfl, ?_⟩; replace BK313 := aM (kB (yK BK313) hb); replace BK314 := aM (kB (yK BK314) hb); replace HB := aM (bP (yG2 HB GE313.out GE314.out) hb); (try clear hb); obtain ⟨hcz103_0, hcz103_1, hcz103_2, hcz103_3, hcz103_4, hfz103_0, hfz103_1, hfz103_2, hfz103_3, hfz103_4⟩ := cells5 BK314.out) | ((with_reducible refine gate_callee (f := 16) rfl ?_); refine yC 62 Tryd.func16 #[.agg #[.int .i64 a1_0, .string a1_1, .int .i64 a1_2, .int .i64 a1_3, .slice A1_4 l1_4.length c1_4], .slice A2 l2.length c2] rfl ?_; (with_reducible refine (rowcode_Encode.calls kj6 a1_0 a1_1 a1_2 a1_3 _ _ l1_4 _ _ l2 t324 t325 _ ?side1 ?side2 ?side3 ?side4 ?side5 A71.out).mono ?_); (case side1 => exact yW (Kd.C_below HR1_4.out HB.out)); (case side2 => exact HC1_4.out); (case side3 => exact yW (Kd.C_below HR2.out HB.out)); (case side4 => exact HC2.out); (case side5 => first | (with_reducible exact HG.out) | exact Glob.below HG.out (yG2 HB GE313.out GE314.out)); rintro e w104 ⟨rfl, hb⟩; refine ⟨_, rfl, ?_⟩; replace BK313 := aM (kB (yK BK313) hb); replace BK314 := aM (kB (yK BK314) hb); replace HB := aM (bP (yG2 HB GE313.out GE314.out) hb); (try clear hb); obtain ⟨hcz105_0, hcz105_1, hcz105_2, hcz105_3, hcz105_4, hfz105_0, hfz105_1, hfz105_2, hfz105_3, hfz105_4⟩ := cells5 BK313.out) | ((with_reducible refine gate_callee (f := 51) rfl ?_); refine yC 68 Tryd.func51 #[.agg #[.int .i64 a0_0, .string a0_1, .int .i64 a0_2, .int .i64 a0_3, .slice A0_4 l0_4.length c0_4], .string a3] rfl ?_; (with_reducible refine (rowcode_Decode.calls kj6 a0_0 a0_1 a0_2 a0_3 _ _ l0_4 a3 t326 t329 _ ?side1 ?side2 ?side3 A72.out).mono ?_); (case side1 => exact yW (Kd.C_below HR0_4.out HB.out)); (case side2 => exact HC0_4.out); (case side3 => first | (with_reducible exact HG.out) | exact Glob.below HG.out (yG2 HB GE313.out GE314.out)); rintro e w106 ⟨v327, rfl, ho0, hb⟩; refine ⟨_, rfl, ?_⟩; have HO328 := aM (Kd.R_lower ho0 (bZ (yG2 HB GE313.out GE314.out))); replace BK313 := aM (kB (yK BK313) hb); replace BK314 := aM (kB (yK BK314) hb); replace HB := aM (bP (yG2 HB GE313.out GE314.out) hb); (try clear hb); (try clear ho0); obtain ⟨hcz107_0, hcz107_1, hcz107_2, hcz107_3, hcz107_4, hfz107_0, hfz107_1, hfz107_2, hfz107_3, hfz107_4⟩ := cells5 BK314.out) | ((with_reducible refine gate_callee (f := 51) rfl ?_); refine yC 74 Tryd.func51 #[.agg #[.int .i64 a1_0, .string a1_1, .int .i64 a1_2, .int .i64 a1_3, .slice A1_4 l1_4.length c1_4], .string a3] rfl ?_; (with_reducible refine (rowcode_Decode.calls kj6 a1_0 a1_1 a1_2 a1_3 _ _ l1_4 a3 t330 t333 _ ?side1 ?side2 ?side3 A73.out).mono ?_); (case side1 => exact yW (Kd.C_below HR1_4.out HB.out)); (case side2 => exact HC1_4.out); (case side3 => first | (with_reducible exact HG.out) | exact Glob.below HG.out (yG2 HB GE313.out GE314.out)); rintro e w108 ⟨v331, rfl, ho0, hb⟩; refine ⟨_, rfl, ?_⟩; have HO332 := aM (Kd.R_lower (Kd.R_new' ho0 (Kd.R_lt (yR HO328.out))) (bZ (yG2 HB GE313.out GE314.out))); replace HO328 := aM (Kd.R_elder' (yR HO328.out) (Kd.R_base ho0) hb); replace BK313 := aM (kB (yK BK313) hb); replace BK314 := aM (kB (yK BK314) hb); replace HB := aM (bP (yG2 HB GE313.out GE314.out) hb); (try clear hb); (try clear ho0)))
       go_ret
       exact ⟨yE, yG2 HB GE313.out GE314.out⟩
     ·
      rw [if_neg c74] at H
      have c74b0 : (t322.toList == t324.toList) = false := beq_eq_false_iff_ne.mpr c74
      have c74b1 : (t322.toList != t324.toList) = true := bne_iff_ne.mpr c74
      obtain rfl := Option.some.inj H
      have hnb109 := NB313_314.out
      have hnc109 := NB314_313.out
      obtain ⟨hcz110_0, hcz110_1, hcz110_2, hcz110_3, hcz110_4, hfz110_0, hfz110_1, hfz110_2, hfz110_3, hfz110_4⟩ := cells5 BK313.out
      go_wp2_with (first | ((with_reducible refine gate_callee (f := 16) rfl ?_); refine yC 56 Tryd.func16 #[.agg #[.int .i64 a0_0, .string a0_1, .int .i64 a0_2, .int .i64 a0_3, .slice A0_4 l0_4.length c0_4], .slice A2 l2.length c2] rfl ?_; (with_reducible refine (rowcode_Encode.calls kj6 a0_0 a0_1 a0_2 a0_3 _ _ l0_4 _ _ l2 t322 t323 _ ?side1 ?side2 ?side3 ?side4 ?side5 A70.out).mono ?_); (case side1 => exact yW (Kd.C_below HR0_4.out HB.out)); (case side2 => exact HC0_4.out); (case side3 => exact yW (Kd.C_below HR2.out HB.out)); (case side4 => exact HC2.out); (case side5 => first | (with_reducible exact HG.out) | exact Glob.below HG.out (yG2 HB GE313.out GE314.out)); rintro e w111 ⟨rfl, hb⟩; refine ⟨_, rfl, ?_⟩; replace BK313 := aM (kB (yK BK313) hb); replace BK314 := aM (kB (yK BK314) hb); replace HB := aM (bP (yG2 HB GE313.out GE314.out) hb); (try clear hb); obtain ⟨hcz112_0, hcz112_1, hcz112_2, hcz112_3, hcz112_4, hfz112_0, hfz112_1, hfz112_2, hfz112_3, hfz112_4⟩ := cells5 BK314.out) | ((with_reducible refine gate_callee (f := 16) rfl ?_); refine yC 62 Tryd.func16 #[.agg #[.int .i64 a1_0, .string a1_1, .int .i64 a1_2, .int .i64 a1_3, .slice A1_4 l1_4.length c1_4], .slice A2 l2.length c2] rfl ?_; (with_reducible refine (rowcode_Encode.calls kj6 a1_0 a1_1 a1_2 a1_3 _ _ l1_4 _ _ l2 t324 t325 _ ?side1 ?side2 ?side3 ?side4 ?side5 A71.out).mono ?_); (case side1 => exact yW (Kd.C_below HR1_4.out HB.out)); (case side2 => exact HC1_4.out); (case side3 => exact yW (Kd.C_below HR2.out HB.out)); (case side4 => exact HC2.out); (case side5 => first | (with_reducible exact HG.out) | exact Glob.below HG.out (yG2 HB GE313.out GE314.out)); rintro e w113 ⟨rfl, hb⟩; refine ⟨_, rfl, ?_⟩; replace BK313 := aM (kB (yK BK313) hb); replace BK314 := aM (kB (yK BK314) hb); replace HB := aM (bP (yG2 HB GE313.out GE314.out) hb); (try clear hb); obtain ⟨hcz114_0, hcz114_1, hcz114_2, hcz114_3, hcz114_4, hfz114_0, hfz114_1, hfz114_2, hfz114_3, hfz114_4⟩ := cells5 BK313.out) | ((with_reducible refine gate_callee (f := 51) rfl ?_); refine yC 68 Tryd.func51 #[.agg #[.int .i64 a0_0, .string a0_1, .int .i64 a0_2, .int .i64 a0_3, .slice A0_4 l0_4.length c0_4], .string a3] rfl ?_; (with_reducible refine (rowcode_Decode.calls kj6 a0_0 a0_1 a0_2 a0_3 _ _ l0_4 a3 t326 t329 _ ?side1 ?side2 ?side3 A72.out).mono ?_); (case side1 => exact yW (Kd.C_below HR0_4.out HB.out)); (case side2 => exact HC0_4.out); (case side3 => first | (with_reducible exact HG.out) | exact Glob.below HG.out (yG2 HB GE313.out GE314.out)); rintro e w115 ⟨v327, rfl, ho0, hb⟩; refine ⟨_, rfl, ?_⟩; have HO328 := aM (Kd.R_lower ho0 (bZ (yG2 HB GE313.out GE314.out))); replace BK313 := aM (kB (yK BK313) hb); replace BK314 := aM (kB (yK BK314) hb); replace HB := aM (bP (yG2 HB GE313.out GE314.out) hb); (try clear hb); (try clear ho0); obtain ⟨hcz116_0, hcz116_1, hcz116_2, hcz116_3, hcz116_4, hfz116_0, hfz116_1, hfz116_2, hfz116_3, hfz116_4⟩ := cells5 BK314.out) | ((with_reducible refine gate_callee (f := 51) rfl ?_); refine yC 74 Tryd.func51 #[.agg #[.int .i64 a1_0, .string a1_1, .int .i64 a1_2, .int .i64 a1_3, .slice A1_4 l1_4.length c1_4], .string a3] rfl ?_; (with_reducible refine (rowcode_Decode.calls kj6 a1_0 a1_1 a1_2 a1_3 _ _ l1_4 a3 t330 t333 _ ?side1 ?side2 ?side3 A73.out).mono ?_); (case side1 => exact yW (Kd.C_below HR1_4.out HB.out)); (case side2 => exact HC1_4.out); (case side3 => first | (with_reducible exact HG.out) | exact Glob.below HG.out (yG2 HB GE313.out GE314.out)); rintro e w117 ⟨v331, rfl, ho0, hb⟩; refine ⟨_, rfl, ?_⟩; have HO332 := aM (Kd.R_lower (Kd.R_new' ho0 (Kd.R_lt (yR HO328.out))) (bZ (yG2 HB GE313.out GE314.out))); replace HO328 := aM (Kd.R_elder' (yR HO328.out) (Kd.R_base ho0) hb); replace BK313 := aM (kB (yK BK313) hb); replace BK314 := aM (kB (yK BK314) hb); replace HB := aM (bP (yG2 HB GE313.out GE314.out) hb); (try clear hb); (try clear ho0)))
      go_ret
      exact ⟨yE, yG2 HB GE313.out GE314.out⟩
 ·
  replace c6 := Bool.eq_false_iff.mpr c6
  subst c6
  replace H := yf H
  obtain rfl := Option.some.inj H
  go_enter Tryd.func11, Tryd.ntmps11
  go_wp2_with (first | ((with_reducible refine gate_dst (N := 4) rfl ?_); (try (refine gate_guard (by rfl) ?_; dsimp only)); refine yX (N := 4) (cs := #[.int .i64 a0_0, .string a0_1, .int .i64 a0_2, .int .i64 a0_3, .slice A0_4 l0_4.length c0_4]) (t := 24) ?_; intro gb313 hg w118 hbox hb; have BK313 := aM (hbox); have GW313 := yZ hg (yB HB); have GE313 := yZ hg (yB HB); replace HB := aM (bP (yB HB) hb); clear hb hbox hg) | ((with_reducible refine gate_dst (N := 5) rfl ?_); (try (refine gate_guard (by rfl) ?_; dsimp only)); refine yX (N := 5) (cs := #[.int .i64 a1_0, .string a1_1, .int .i64 a1_2, .int .i64 a1_3, .slice A1_4 l1_4.length c1_4]) (t := 24) ?_; intro gb314 hg w119 hbox hb; have BK314 := aM (hbox); have GW314 := yZ hg (yG1 HB GE313.out); have GE314 := yZ hg (yG1 HB GE313.out); replace HB := aM (bP (yG1 HB GE313.out) hb); have NB313_314 := yN hg (yK BK313); have NB314_313 := yM hg (yK BK313); replace BK313 := aM (kB (yK BK313) hb); clear hb hbox hg) | ((with_reducible refine gate_callee (f := 13) rfl ?_); refine yC 17 Tryd.func13 #[] rfl ?_; (with_reducible refine (haulagelaw12_lives.calls k  false _ ?side1 A5.out).mono ?_); (case side1 => first | (with_reducible exact HG.out) | exact Glob.below HG.out (yG2 HB GE313.out GE314.out)); rintro e w120 ⟨rfl, hb⟩; refine ⟨_, rfl, ?_⟩; replace BK313 := aM (kB (yK BK313) hb); replace BK314 := aM (kB (yK BK314) hb); replace HB := aM (bP (yG2 HB GE313.out GE314.out) hb); (try clear hb)))
  go_ret
  exact ⟨yE, yG2 HB GE313.out GE314.out⟩
end Go.Proofs.YtdeophpjammbpaaDoor.HRowcodeTypes

/- For Go functions that RowcodeBack reaches: Lean functions, and walks that show that each call comes to what its Lean function tells; no condition but those that each theorem states. (Made by a program of this session over the kit's print.py.) -/
import Derived.Test.YtdeophpjammbpaaDoorHRowcodeBackx0
import Derived.Test.YtdeophpjammbpaaDoorHRowcodeBackx8
import Derived.Test.YtdeophpjammbpaaDoorHRowcodeBackx9
import Derived.Test.YtdeophpjammbpaaDoorHRowcodeBackx14
import Derived.Test.YtdeophpjammbpaaDoorHRowcodeBackx17
namespace Go.Proofs.YtdeophpjammbpaaDoor.HRowcodeBack
open Go.RowKit Go.Proofs.YtdeophpjammbpaaDoorW.PrintWords Go.Proofs.YtdeophpjammbpaaDoorW.PrintLast Go.Proofs.YtdeophpjammbpaaDoorW.PrintMore
attribute [local go_sem] max2_int min2_int max_two min_two max_three min_three max_four min_four   -- for this text's walks alone
set_option linter.unusedVariables false
set_option linter.unusedSimpArgs false
attribute [local go_sem] hp_s8 hp_s16 hp_s32 hp_s64 hp_m8 hp_m16 hp_m32 hp_m64
/-! ### haulagelaw12_RowcodeBack: function 10 -/
mutual
def haulagelaw12_RowcodeBack.j0 : Nat → List (S52) → ByteArray → Bool → Int → ByteArray → Int → Int → List (S54) → Option (Bool)
 | 0, _, _, _, _, _, _, _, _ => none
 | k + 1, x1, x2, x29, x315000, x315001, x315002, x315003, x315004 => if x29 = true then (some true) else ((rowcode_Encode.f k x315000 x315001 x315002 x315003 x315004 x1).bind fun bt318 => (if bt318.2 = 0 then ((rowcode_Decode.f k x315000 x315001 x315002 x315003 x315004 bt318.1).bind fun bt320 => (if bt320.2 = 0 then ((haulageref08_SameRow.f k bt320.1 x1).bind fun t324 => (if t324 = true then (haulagelaw12_RowcodeBack.j1 k x2 x315000 x315001 x315002 x315003 x315004) else (some false))) else (some false))) else (haulagelaw12_RowcodeBack.j1 k x2 x315000 x315001 x315002 x315003 x315004)))
def haulagelaw12_RowcodeBack.j1 : Nat → ByteArray → Int → ByteArray → Int → Int → List (S54) → Option (Bool)
 | 0, _, _, _, _, _, _ => none
 | k + 1, x2, x315000, x315001, x315002, x315003, x315004 => (rowcode_Decode.f k x315000 x315001 x315002 x315003 x315004 x2).bind fun bt325 => (if bt325.2 = 0 then ((rowcode_Encode.f k x315000 x315001 x315002 x315003 x315004 bt325.1).bind fun bt329 => (if bt329.2 = 0 then (if bt329.1.toList = x2.toList then ((haulageref08_Row.f k x315000 x315001 x315002 x315003 x315004 bt325.1).bind fun t331 => (some (t331 == 0))) else (some false)) else (some false))) else (some ((bt325.1.length : Int) == 0)))
end
def haulagelaw12_RowcodeBack.f (k : Nat) (a0_0 : Int) (a0_1 : ByteArray) (a0_2 : Int) (a0_3 : Int) (l0_4 : List (S54)) (l1 : List (S52)) (a2 : ByteArray) : Option (Bool) := (haulagelaw12_lives.f k).bind fun t315 => (if t315 = true then ((haulagelaw08_Few.f k a0_0 a0_1 a0_2 a0_3 l0_4).bind fun t316 => (if t316 = true then ((haulagelaw08_FewValues.f k l1).bind fun t317 => (if t317 = true then (haulagelaw12_RowcodeBack.j0 k l1 a2 (decide ((a2.size : Int) > 2000)) a0_0 a0_1 a0_2 a0_3 l0_4) else (haulagelaw12_RowcodeBack.j0 k l1 a2 true a0_0 a0_1 a0_2 a0_3 l0_4))) else (haulagelaw12_RowcodeBack.j0 k l1 a2 true a0_0 a0_1 a0_2 a0_3 l0_4))) else (some false))
theorem haulagelaw12_RowcodeBack.mono_l : ∀ k, (∀ y0 y1 y2 y3 y4 y5 y6 y7, LeO (haulagelaw12_RowcodeBack.j0 k y0 y1 y2 y3 y4 y5 y6 y7) (haulagelaw12_RowcodeBack.j0 (k + 1) y0 y1 y2 y3 y4 y5 y6 y7)) ∧ (∀ y0 y1 y2 y3 y4 y5, LeO (haulagelaw12_RowcodeBack.j1 k y0 y1 y2 y3 y4 y5) (haulagelaw12_RowcodeBack.j1 (k + 1) y0 y1 y2 y3 y4 y5))
 | 0 => by refine ⟨?_, ?_⟩ <;> intros <;> exact LeO.none _
 | k + 1 => by
  obtain ⟨ih0, ih1⟩ := haulagelaw12_RowcodeBack.mono_l k
  refine ⟨?_, ?_⟩ <;> intros <;> first | unfold haulagelaw12_RowcodeBack.j0 | unfold haulagelaw12_RowcodeBack.j1
  all_goals repeat' first | with_reducible (first | exact ih0 .. | exact ih1 .. | exact haulagelaw08_Few.mono .. | exact haulagelaw08_FewValues.mono .. | exact haulagelaw12_lives.mono .. | exact haulageref08_Row.mono .. | exact haulageref08_SameRow.mono .. | exact rowcode_Decode.mono .. | exact rowcode_Encode.mono .. | exact LeO.refl .. | exact LeO.none .. | refine LeO.ite ?_ ?_ | refine LeO.bind ?_ (fun _ => ?_)) | exact ih0 .. | exact ih1 .. | exact haulagelaw08_Few.mono .. | exact haulagelaw08_FewValues.mono .. | exact haulagelaw12_lives.mono .. | exact haulageref08_Row.mono .. | exact haulageref08_SameRow.mono .. | exact rowcode_Decode.mono .. | exact rowcode_Encode.mono .. | exact LeO.none .. | refine LeO.ite ?_ ?_ | refine LeO.bind ?_ (fun _ => ?_)
theorem haulagelaw12_RowcodeBack.mono : ∀ a0 a1 a2 a3 a4 a5 a6 k, LeO (haulagelaw12_RowcodeBack.f k a0 a1 a2 a3 a4 a5 a6) (haulagelaw12_RowcodeBack.f (k + 1) a0 a1 a2 a3 a4 a5 a6) := by
 intro a0 a1 a2 a3 a4 a5 a6 k
 obtain ⟨ih0, ih1⟩ := haulagelaw12_RowcodeBack.mono_l k
 unfold haulagelaw12_RowcodeBack.f
 repeat' first | with_reducible (first | exact ih0 .. | exact ih1 .. | exact haulagelaw08_Few.mono .. | exact haulagelaw08_FewValues.mono .. | exact haulagelaw12_lives.mono .. | exact haulageref08_Row.mono .. | exact haulageref08_SameRow.mono .. | exact rowcode_Decode.mono .. | exact rowcode_Encode.mono .. | exact LeO.refl .. | exact LeO.none .. | refine LeO.ite ?_ ?_ | refine LeO.bind ?_ (fun _ => ?_)) | exact ih0 .. | exact ih1 .. | exact haulagelaw08_Few.mono .. | exact haulagelaw08_FewValues.mono .. | exact haulagelaw12_lives.mono .. | exact haulageref08_Row.mono .. | exact haulageref08_SameRow.mono .. | exact rowcode_Decode.mono .. | exact rowcode_Encode.mono .. | exact LeO.none .. | refine LeO.ite ?_ ?_ | refine LeO.bind ?_ (fun _ => ?_)
set_option maxHeartbeats 8000000 in
set_option maxRecDepth 100000 in
theorem haulagelaw12_RowcodeBack.calls (k : Nat) (a0_0 : Int) (a0_1 : ByteArray) (a0_2 : Int) (a0_3 : Int) (A0_4 : Option Addr) (c0_4 : Nat) (l0_4 : List (S54)) (A1 : Option Addr) (c1 : Nat) (l1 : List (S52)) (a2 : ByteArray) (r : Bool) (w : World) (hr0_4 : Kd.C k54 w A0_4 l0_4.length l0_4) (hc0_4 : l0_4.length ≤ c0_4) (hr1 : Kd.C k52 w A1 l1.length l1) (hc1 : l1.length ≤ c1) (hG : Glob w) (h : haulagelaw12_RowcodeBack.f k a0_0 a0_1 a0_2 a0_3 l0_4 l1 a2 = some r) :
  Calls Tryd.prog 10 #[.agg #[.int .i64 a0_0, .string a0_1, .int .i64 a0_2, .int .i64 a0_3, .slice A0_4 l0_4.length c0_4], .slice A1 l1.length c1, .string a2] w fun e w' => e = .returned (.bool r) ∧ Below w.heap.size w w' := by
 have hu24 := Tryd.underlying24
 have HR0_4 := aM hr0_4
 have HC0_4 := aM hc0_4
 clear hr0_4 hc0_4
 have HR1 := aM hr1
 have HC1 := aM hc1
 clear hr1 hc1
 have HG := aM hG
 clear hG
 have HB := aM (Below.refl w.heap.size w)
 have H : ((haulagelaw12_lives.f k).bind fun t315 => (if t315 = true then ((haulagelaw08_Few.f k a0_0 a0_1 a0_2 a0_3 l0_4).bind fun t316 => (if t316 = true then ((haulagelaw08_FewValues.f k l1).bind fun t317 => (if t317 = true then (haulagelaw12_RowcodeBack.j0 k l1 a2 (decide ((a2.size : Int) > 2000)) a0_0 a0_1 a0_2 a0_3 l0_4) else (haulagelaw12_RowcodeBack.j0 k l1 a2 true a0_0 a0_1 a0_2 a0_3 l0_4))) else (haulagelaw12_RowcodeBack.j0 k l1 a2 true a0_0 a0_1 a0_2 a0_3 l0_4))) else (some false))) = some r := h
 clear h
 obtain ⟨t315, A4, H⟩ := yb H
 by_cases c5 : t315 = true
 ·
  subst c5
  replace H := yt H
  have HC6 := aM H
  clear H
  go_enter Tryd.func10, Tryd.ntmps10
  go_upto_region 3 with (first | ((with_reducible refine gate_dst (N := 3) rfl ?_); (try (refine gate_guard (by rfl) ?_; dsimp only)); refine yX (N := 3) (cs := #[.int .i64 a0_0, .string a0_1, .int .i64 a0_2, .int .i64 a0_3, .slice A0_4 l0_4.length c0_4]) (t := 24) ?_; intro gb314 hg w7 hbox hb; have BK314 := aM (hbox); have GW314 := yZ hg (yB HB); have GE314 := yZ hg (yB HB); replace HB := aM (bP (yB HB) hb); clear hb hbox hg) | ((with_reducible refine gate_callee (f := 13) rfl ?_); refine yC 15 Tryd.func13 #[] rfl ?_; (with_reducible refine (haulagelaw12_lives.calls k  true _ ?side1 A4.out).mono ?_); (case side1 => first | (with_reducible exact HG.out) | exact Glob.below HG.out (yG1 HB GE314.out)); rintro e w8 ⟨rfl, hb⟩; refine ⟨_, rfl, ?_⟩; replace BK314 := aM (kB (yK BK314) hb); replace HB := aM (bP (yG1 HB GE314.out) hb); (try clear hb)))
  (try simp only [Act.put, s1_, s2_, s3_])
  go_cut [29] (fun v29 wc => ∃ (kq : Nat) (x29_5 : Bool), v29 = .bool x29_5 ∧ Aside0 (haulagelaw12_RowcodeBack.j0 kq l1 a2 x29_5 a0_0 a0_1 a0_2 a0_3 l0_4 = some r) ∧ Aside0 (kq ≤ k) ∧ Aside0 (wc.heap[gb314]? = some (.cells #[.int .i64 a0_0, .string a0_1, .int .i64 a0_2, .int .i64 a0_3, (.slice A0_4 l0_4.length c0_4)] 24 (0, 0))) ∧ Aside0 (Below w.heap.size w wc))
  case first =>
   have H := HC6.out
   clear HC6
   obtain ⟨t316, A9, H⟩ := yb H
   by_cases c10 : t316 = true
   ·
    subst c10
    replace H := yt H
    obtain ⟨t317, A11, H⟩ := yb H
    by_cases c12 : t317 = true
    ·
     subst c12
     replace H := yt H
     have H' := aM H
     clear H
     obtain ⟨hcz13_0, hcz13_1, hcz13_2, hcz13_3, hcz13_4, hfz13_0, hfz13_1, hfz13_2, hfz13_3, hfz13_4⟩ := cells5 BK314.out
     go_wp2_with (first | ((with_reducible refine gate_callee (f := 14) rfl ?_); refine yC 18 Tryd.func14 #[.agg #[.int .i64 a0_0, .string a0_1, .int .i64 a0_2, .int .i64 a0_3, .slice A0_4 l0_4.length c0_4]] rfl ?_; (with_reducible refine (haulagelaw08_Few.calls k a0_0 a0_1 a0_2 a0_3 _ _ l0_4 true _ ?side1 ?side2 A9.out).mono ?_); (case side1 => exact yW (Kd.C_below HR0_4.out HB.out)); (case side2 => exact HC0_4.out); rintro e w14 ⟨rfl, hb⟩; refine ⟨_, rfl, ?_⟩; replace BK314 := aM (kB (yK BK314) hb); replace HB := aM (bP (yG1 HB GE314.out) hb); (try clear hb)) | (go_at_call 15; (with_reducible refine (haulagelaw08_FewValues.calls k _ _ l1 true _ ?side1 ?side2 A11.out).mono ?_); (case side1 => exact yW (Kd.C_below HR1.out HB.out)); (case side2 => exact HC1.out); rintro e w' ⟨rfl, ⟨nd, rfl⟩⟩))
     go_meet
     case rel => exact ⟨_, (decide ((a2.size : Int) > 2000)), yS, H', ⟨yO⟩, ⟨yK BK314⟩, ⟨yG1 HB GE314.out⟩⟩
    ·
     replace c12 := Bool.eq_false_iff.mpr c12
     subst c12
     replace H := yf H
     have H' := aM H
     clear H
     obtain ⟨hcz15_0, hcz15_1, hcz15_2, hcz15_3, hcz15_4, hfz15_0, hfz15_1, hfz15_2, hfz15_3, hfz15_4⟩ := cells5 BK314.out
     go_wp2_with (first | ((with_reducible refine gate_callee (f := 14) rfl ?_); refine yC 18 Tryd.func14 #[.agg #[.int .i64 a0_0, .string a0_1, .int .i64 a0_2, .int .i64 a0_3, .slice A0_4 l0_4.length c0_4]] rfl ?_; (with_reducible refine (haulagelaw08_Few.calls k a0_0 a0_1 a0_2 a0_3 _ _ l0_4 true _ ?side1 ?side2 A9.out).mono ?_); (case side1 => exact yW (Kd.C_below HR0_4.out HB.out)); (case side2 => exact HC0_4.out); rintro e w16 ⟨rfl, hb⟩; refine ⟨_, rfl, ?_⟩; replace BK314 := aM (kB (yK BK314) hb); replace HB := aM (bP (yG1 HB GE314.out) hb); (try clear hb)) | (go_at_call 15; (with_reducible refine (haulagelaw08_FewValues.calls k _ _ l1 false _ ?side1 ?side2 A11.out).mono ?_); (case side1 => exact yW (Kd.C_below HR1.out HB.out)); (case side2 => exact HC1.out); rintro e w' ⟨rfl, ⟨nd, rfl⟩⟩))
     go_meet
     case rel => exact ⟨_, (true), yS, H', ⟨yO⟩, ⟨yK BK314⟩, ⟨yG1 HB GE314.out⟩⟩
   ·
    replace c10 := Bool.eq_false_iff.mpr c10
    subst c10
    replace H := yf H
    have H' := aM H
    clear H
    obtain ⟨hcz17_0, hcz17_1, hcz17_2, hcz17_3, hcz17_4, hfz17_0, hfz17_1, hfz17_2, hfz17_3, hfz17_4⟩ := cells5 BK314.out
    go_wp2_with (first | ((with_reducible refine gate_callee (f := 14) rfl ?_); refine yC 18 Tryd.func14 #[.agg #[.int .i64 a0_0, .string a0_1, .int .i64 a0_2, .int .i64 a0_3, .slice A0_4 l0_4.length c0_4]] rfl ?_; (with_reducible refine (haulagelaw08_Few.calls k a0_0 a0_1 a0_2 a0_3 _ _ l0_4 false _ ?side1 ?side2 A9.out).mono ?_); (case side1 => exact yW (Kd.C_below HR0_4.out HB.out)); (case side2 => exact HC0_4.out); rintro e w18 ⟨rfl, hb⟩; refine ⟨_, rfl, ?_⟩; replace BK314 := aM (kB (yK BK314) hb); replace HB := aM (bP (yG1 HB GE314.out) hb); (try clear hb)))
    go_meet
    case rel => exact ⟨_, (true), yS, H', ⟨yO⟩, ⟨yK BK314⟩, ⟨yG1 HB GE314.out⟩⟩
  case rest =>
   clear HC6
   try clear c1
   try clear c5
   obtain ⟨kq, x29_5, rfl, HA, HJ5, BK314, HB⟩ := hcut
   cases kq with
   | zero => exact absurd HA.out (by simp [haulagelaw12_RowcodeBack.j0])
   | succ kj5 =>
    have H := HA.out
    clear HA
    simp only [haulagelaw12_RowcodeBack.j0] at H
    by_cases c19 : x29_5 = true
    ·
     subst c19
     replace H := yt H
     obtain rfl := Option.some.inj H
     go_wp2
     go_ret
     exact ⟨yE, yG1 HB GE314.out⟩
    ·
     replace c19 := Bool.eq_false_iff.mpr c19
     subst c19
     replace H := yf H
     obtain ⟨⟨t318, t319⟩, A20, H⟩ := yb H
     try dsimp -simprocs only at H
     have HC21 := aM H
     clear H
     obtain ⟨hcz22_0, hcz22_1, hcz22_2, hcz22_3, hcz22_4, hfz22_0, hfz22_1, hfz22_2, hfz22_3, hfz22_4⟩ := cells5 BK314.out
     go_upto_if 37 with (first | ((with_reducible refine gate_callee (f := 16) rfl ?_); refine yC 33 Tryd.func16 #[.agg #[.int .i64 a0_0, .string a0_1, .int .i64 a0_2, .int .i64 a0_3, .slice A0_4 l0_4.length c0_4], .slice A1 l1.length c1] rfl ?_; (with_reducible refine (rowcode_Encode.calls kj5 a0_0 a0_1 a0_2 a0_3 _ _ l0_4 _ _ l1 t318 t319 _ ?side1 ?side2 ?side3 ?side4 ?side5 A20.out).mono ?_); (case side1 => exact yW (Kd.C_below HR0_4.out HB.out)); (case side2 => exact HC0_4.out); (case side3 => exact yW (Kd.C_below HR1.out HB.out)); (case side4 => exact HC1.out); (case side5 => first | (with_reducible exact HG.out) | exact Glob.below HG.out (yG1 HB GE314.out)); rintro e w23 ⟨rfl, hb⟩; refine ⟨_, rfl, ?_⟩; replace BK314 := aM (kB (yK BK314) hb); replace HB := aM (bP (yG1 HB GE314.out) hb); (try clear hb)))
     (try simp only [Act.put, s1_, s2_, s3_])
     go_cut [] (fun wc => ∃ (kq : Nat), Aside0 (haulagelaw12_RowcodeBack.j1 kq a2 a0_0 a0_1 a0_2 a0_3 l0_4 = some r) ∧ Aside0 (kq ≤ kj5) ∧ Aside0 (wc.heap[gb314]? = some (.cells #[.int .i64 a0_0, .string a0_1, .int .i64 a0_2, .int .i64 a0_3, (.slice A0_4 l0_4.length c0_4)] 24 (0, 0))) ∧ Aside0 (Below w.heap.size w wc))
     case first =>
      have H := HC21.out
      clear HC21
      by_cases c24 : t319 = 0
      ·
       rw [if_pos c24] at H
       have c24b0 : (t319 == 0) = true := beq_iff_eq.mpr c24
       have c24b1 : (t319 != 0) = false := bne_eq_false_iff_eq.mpr c24
       clear c24
       (first | rw [c24b0] | (simp only [i64_w, i32_w]; rw [c24b0]) | skip)
       obtain ⟨⟨t320, t323⟩, A25, H⟩ := yb H
       try dsimp -simprocs only at H
       by_cases c26 : t323 = 0
       ·
        rw [if_pos c26] at H
        have c26b0 : (t323 == 0) = true := beq_iff_eq.mpr c26
        have c26b1 : (t323 != 0) = false := bne_eq_false_iff_eq.mpr c26
        clear c26
        obtain ⟨t324, A27, H⟩ := yb H
        by_cases c28 : t324 = true
        ·
         subst c28
         replace H := yt H
         have H' := aM H
         clear H
         obtain ⟨hcz29_0, hcz29_1, hcz29_2, hcz29_3, hcz29_4, hfz29_0, hfz29_1, hfz29_2, hfz29_3, hfz29_4⟩ := cells5 BK314.out
         go_wp2_with (first | ((with_reducible refine gate_callee (f := 51) rfl ?_); refine yC 41 Tryd.func51 #[.agg #[.int .i64 a0_0, .string a0_1, .int .i64 a0_2, .int .i64 a0_3, .slice A0_4 l0_4.length c0_4], .string t318] rfl ?_; (with_reducible refine (rowcode_Decode.calls kj5 a0_0 a0_1 a0_2 a0_3 _ _ l0_4 t318 t320 t323 _ ?side1 ?side2 ?side3 A25.out).mono ?_); (case side1 => exact yW (Kd.C_below HR0_4.out HB.out)); (case side2 => exact HC0_4.out); (case side3 => first | (with_reducible exact HG.out) | exact Glob.below HG.out (yG1 HB GE314.out)); rintro e w30 ⟨v321, rfl, ho0, hb⟩; refine ⟨_, rfl, ?_⟩; have HO322 := aM (Kd.R_lower ho0 (bZ (yG1 HB GE314.out))); replace BK314 := aM (kB (yK BK314) hb); replace HB := aM (bP (yG1 HB GE314.out) hb); (try clear hb); (try clear ho0); obtain ⟨Ao31, co31, eo31⟩ := Kd.R_slice HO322.out; subst eo31) | (go_at_call 23; (with_reducible refine (haulageref08_SameRow.calls kj5 _ _ t320 _ _ l1 true _ ?side1 ?side2 ?side3 ?side4 A27.out).mono ?_); (case side1 => exact yW (Kd.R_reads' HO322.out).2.2); (case side2 => exact (Kd.R_reads' HO322.out).2.1); (case side3 => exact yW (Kd.C_below HR1.out HB.out)); (case side4 => exact HC1.out); rintro e w' ⟨rfl, ⟨nd, rfl⟩⟩))
         go_meet
         case rel => exact ⟨_, H', ⟨by have := HJ5.out; first | omega | exact Nat.le_refl _⟩, ⟨yK BK314⟩, ⟨yG1 HB GE314.out⟩⟩
        ·
         replace c28 := Bool.eq_false_iff.mpr c28
         subst c28
         replace H := yf H
         obtain rfl := Option.some.inj H
         obtain ⟨hcz32_0, hcz32_1, hcz32_2, hcz32_3, hcz32_4, hfz32_0, hfz32_1, hfz32_2, hfz32_3, hfz32_4⟩ := cells5 BK314.out
         go_wp2_with (first | ((with_reducible refine gate_callee (f := 51) rfl ?_); refine yC 41 Tryd.func51 #[.agg #[.int .i64 a0_0, .string a0_1, .int .i64 a0_2, .int .i64 a0_3, .slice A0_4 l0_4.length c0_4], .string t318] rfl ?_; (with_reducible refine (rowcode_Decode.calls kj5 a0_0 a0_1 a0_2 a0_3 _ _ l0_4 t318 t320 t323 _ ?side1 ?side2 ?side3 A25.out).mono ?_); (case side1 => exact yW (Kd.C_below HR0_4.out HB.out)); (case side2 => exact HC0_4.out); (case side3 => first | (with_reducible exact HG.out) | exact Glob.below HG.out (yG1 HB GE314.out)); rintro e w33 ⟨v321, rfl, ho0, hb⟩; refine ⟨_, rfl, ?_⟩; have HO322 := aM (Kd.R_lower ho0 (bZ (yG1 HB GE314.out))); replace BK314 := aM (kB (yK BK314) hb); replace HB := aM (bP (yG1 HB GE314.out) hb); (try clear hb); (try clear ho0); obtain ⟨Ao34, co34, eo34⟩ := Kd.R_slice HO322.out; subst eo34) | (go_at_call 23; (with_reducible refine (haulageref08_SameRow.calls kj5 _ _ t320 _ _ l1 false _ ?side1 ?side2 ?side3 ?side4 A27.out).mono ?_); (case side1 => exact yW (Kd.R_reads' HO322.out).2.2); (case side2 => exact (Kd.R_reads' HO322.out).2.1); (case side3 => exact yW (Kd.C_below HR1.out HB.out)); (case side4 => exact HC1.out); rintro e w' ⟨rfl, ⟨nd, rfl⟩⟩))
         go_ret
         exact ⟨yE, yG1 HB GE314.out⟩
       ·
        rw [if_neg c26] at H
        have c26b0 : (t323 == 0) = false := beq_eq_false_iff_ne.mpr c26
        have c26b1 : (t323 != 0) = true := bne_iff_ne.mpr c26
        obtain rfl := Option.some.inj H
        obtain ⟨hcz35_0, hcz35_1, hcz35_2, hcz35_3, hcz35_4, hfz35_0, hfz35_1, hfz35_2, hfz35_3, hfz35_4⟩ := cells5 BK314.out
        go_wp2_with (first | ((with_reducible refine gate_callee (f := 51) rfl ?_); refine yC 41 Tryd.func51 #[.agg #[.int .i64 a0_0, .string a0_1, .int .i64 a0_2, .int .i64 a0_3, .slice A0_4 l0_4.length c0_4], .string t318] rfl ?_; (with_reducible refine (rowcode_Decode.calls kj5 a0_0 a0_1 a0_2 a0_3 _ _ l0_4 t318 t320 t323 _ ?side1 ?side2 ?side3 A25.out).mono ?_); (case side1 => exact yW (Kd.C_below HR0_4.out HB.out)); (case side2 => exact HC0_4.out); (case side3 => first | (with_reducible exact HG.out) | exact Glob.below HG.out (yG1 HB GE314.out)); rintro e w36 ⟨v321, rfl, ho0, hb⟩; refine ⟨_, rfl, ?_⟩; have HO322 := aM (Kd.R_lower ho0 (bZ (yG1 HB GE314.out))); replace BK314 := aM (kB (yK BK314) hb); replace HB := aM (bP (yG1 HB GE314.out) hb); (try clear hb); (try clear ho0)))
        go_ret
        exact ⟨yE, yG1 HB GE314.out⟩
      ·
       rw [if_neg c24] at H
       have c24b0 : (t319 == 0) = false := beq_eq_false_iff_ne.mpr c24
       have c24b1 : (t319 != 0) = true := bne_iff_ne.mpr c24
       (first | rw [c24b0] | (simp only [i64_w, i32_w]; rw [c24b0]) | skip)
       have H' := aM H
       clear H
       go_wp2
       go_meet
       case rel => exact ⟨_, H', ⟨by have := HJ5.out; first | omega | exact Nat.le_refl _⟩, ⟨yK BK314⟩, ⟨yG1 HB GE314.out⟩⟩
     case rest =>
      clear HC21
      try clear c1
      try clear c5
      try clear c19
      try clear hcz22_0 hcz22_1 hcz22_2 hcz22_3 hcz22_4
      try clear hfz22_0 hfz22_1 hfz22_2 hfz22_3 hfz22_4
      obtain ⟨kq, HA, HJ20, BK314, HB⟩ := hcut
      cases kq with
      | zero => exact absurd HA.out (by simp [haulagelaw12_RowcodeBack.j1])
      | succ kj20 =>
       have H := HA.out
       clear HA
       simp only [haulagelaw12_RowcodeBack.j1] at H
       obtain ⟨⟨t325, t328⟩, A37, H⟩ := yb H
       try dsimp -simprocs only at H
       by_cases c38 : t328 = 0
       ·
        rw [if_pos c38] at H
        have c38b0 : (t328 == 0) = true := beq_iff_eq.mpr c38
        have c38b1 : (t328 != 0) = false := bne_eq_false_iff_eq.mpr c38
        clear c38
        obtain ⟨⟨t329, t330⟩, A39, H⟩ := yb H
        try dsimp -simprocs only at H
        by_cases c40 : t330 = 0
        ·
         rw [if_pos c40] at H
         have c40b0 : (t330 == 0) = true := beq_iff_eq.mpr c40
         have c40b1 : (t330 != 0) = false := bne_eq_false_iff_eq.mpr c40
         clear c40
         by_cases c41 : t329.toList = a2.toList
         ·
          rw [if_pos c41] at H
          have c41b0 : (t329.toList == a2.toList) = true := beq_iff_eq.mpr c41
          have c41b1 : (t329.toList != a2.toList) = false := bne_eq_false_iff_eq.mpr c41
          clear c41
          obtain ⟨t331, A42, H⟩ := yb H
          obtain rfl := Option.some.inj H
          obtain ⟨hcz43_0, hcz43_1, hcz43_2, hcz43_3, hcz43_4, hfz43_0, hfz43_1, hfz43_2, hfz43_3, hfz43_4⟩ := cells5 BK314.out
          go_wp2_with (first | ((with_reducible refine gate_callee (f := 51) rfl ?_); refine yC 55 Tryd.func51 #[.agg #[.int .i64 a0_0, .string a0_1, .int .i64 a0_2, .int .i64 a0_3, .slice A0_4 l0_4.length c0_4], .string a2] rfl ?_; (with_reducible refine (rowcode_Decode.calls kj20 a0_0 a0_1 a0_2 a0_3 _ _ l0_4 a2 t325 t328 _ ?side1 ?side2 ?side3 A37.out).mono ?_); (case side1 => exact yW (Kd.C_below HR0_4.out HB.out)); (case side2 => exact HC0_4.out); (case side3 => first | (with_reducible exact HG.out) | exact Glob.below HG.out (yG1 HB GE314.out)); rintro e w44 ⟨v326, rfl, ho0, hb⟩; refine ⟨_, rfl, ?_⟩; have HO327 := aM (Kd.R_lower ho0 (bZ (yG1 HB GE314.out))); replace BK314 := aM (kB (yK BK314) hb); replace HB := aM (bP (yG1 HB GE314.out) hb); (try clear hb); (try clear ho0); obtain ⟨hcz45_0, hcz45_1, hcz45_2, hcz45_3, hcz45_4, hfz45_0, hfz45_1, hfz45_2, hfz45_3, hfz45_4⟩ := cells5 BK314.out; obtain ⟨Ao46, co46, eo46⟩ := Kd.R_slice HO327.out; subst eo46) | ((with_reducible refine gate_callee (f := 16) rfl ?_); refine yC 66 Tryd.func16 #[.agg #[.int .i64 a0_0, .string a0_1, .int .i64 a0_2, .int .i64 a0_3, .slice A0_4 l0_4.length c0_4], .slice Ao46 t325.length co46] rfl ?_; (with_reducible refine (rowcode_Encode.calls kj20 a0_0 a0_1 a0_2 a0_3 _ _ l0_4 _ _ t325 t329 t330 _ ?side1 ?side2 ?side3 ?side4 ?side5 A39.out).mono ?_); (case side1 => exact yW (Kd.C_below HR0_4.out HB.out)); (case side2 => exact HC0_4.out); (case side3 => exact yW (Kd.R_reads' HO327.out).2.2); (case side4 => exact (Kd.R_reads' HO327.out).2.1); (case side5 => first | (with_reducible exact HG.out) | exact Glob.below HG.out (yG1 HB GE314.out)); rintro e w47 ⟨rfl, hb⟩; refine ⟨_, rfl, ?_⟩; replace HO327 := aM (Kd.R_below (yR HO327.out) hb); replace BK314 := aM (kB (yK BK314) hb); replace HB := aM (bP (yG1 HB GE314.out) hb); (try clear hb); obtain ⟨hcz48_0, hcz48_1, hcz48_2, hcz48_3, hcz48_4, hfz48_0, hfz48_1, hfz48_2, hfz48_3, hfz48_4⟩ := cells5 BK314.out) | (go_at_call 17; (with_reducible refine (haulageref08_Row.calls kj20 a0_0 a0_1 a0_2 a0_3 _ _ l0_4 _ _ t325 t331 _ ?side1 ?side2 ?side3 ?side4 A42.out).mono ?_); (case side1 => exact yW (Kd.C_below HR0_4.out HB.out)); (case side2 => exact HC0_4.out); (case side3 => exact yW (Kd.R_reads' HO327.out).2.2); (case side4 => exact (Kd.R_reads' HO327.out).2.1); rintro e w49 ⟨rfl, hb⟩; replace HO327 := aM (Kd.R_below (yR HO327.out) hb); replace BK314 := aM (kB (yK BK314) hb); replace HB := aM (bP (yG1 HB GE314.out) hb); (try clear hb)))
          go_ret
          exact ⟨yE, yG1 HB GE314.out⟩
         ·
          rw [if_neg c41] at H
          have c41b0 : (t329.toList == a2.toList) = false := beq_eq_false_iff_ne.mpr c41
          have c41b1 : (t329.toList != a2.toList) = true := bne_iff_ne.mpr c41
          obtain rfl := Option.some.inj H
          obtain ⟨hcz50_0, hcz50_1, hcz50_2, hcz50_3, hcz50_4, hfz50_0, hfz50_1, hfz50_2, hfz50_3, hfz50_4⟩ := cells5 BK314.out
          go_wp2_with (first | ((with_reducible refine gate_callee (f := 51) rfl ?_); refine yC 55 Tryd.func51 #[.agg #[.int .i64 a0_0, .string a0_1, .int .i64 a0_2, .int .i64 a0_3, .slice A0_4 l0_4.length c0_4], .string a2] rfl ?_; (with_reducible refine (rowcode_Decode.calls kj20 a0_0 a0_1 a0_2 a0_3 _ _ l0_4 a2 t325 t328 _ ?side1 ?side2 ?side3 A37.out).mono ?_); (case side1 => exact yW (Kd.C_below HR0_4.out HB.out)); (case side2 => exact HC0_4.out); (case side3 => first | (with_reducible exact HG.out) | exact Glob.below HG.out (yG1 HB GE314.out)); rintro e w51 ⟨v326, rfl, ho0, hb⟩; refine ⟨_, rfl, ?_⟩; have HO327 := aM (Kd.R_lower ho0 (bZ (yG1 HB GE314.out))); replace BK314 := aM (kB (yK BK314) hb); replace HB := aM (bP (yG1 HB GE314.out) hb); (try clear hb); (try clear ho0); obtain ⟨hcz52_0, hcz52_1, hcz52_2, hcz52_3, hcz52_4, hfz52_0, hfz52_1, hfz52_2, hfz52_3, hfz52_4⟩ := cells5 BK314.out; obtain ⟨Ao53, co53, eo53⟩ := Kd.R_slice HO327.out; subst eo53) | ((with_reducible refine gate_callee (f := 16) rfl ?_); refine yC 66 Tryd.func16 #[.agg #[.int .i64 a0_0, .string a0_1, .int .i64 a0_2, .int .i64 a0_3, .slice A0_4 l0_4.length c0_4], .slice Ao53 t325.length co53] rfl ?_; (with_reducible refine (rowcode_Encode.calls kj20 a0_0 a0_1 a0_2 a0_3 _ _ l0_4 _ _ t325 t329 t330 _ ?side1 ?side2 ?side3 ?side4 ?side5 A39.out).mono ?_); (case side1 => exact yW (Kd.C_below HR0_4.out HB.out)); (case side2 => exact HC0_4.out); (case side3 => exact yW (Kd.R_reads' HO327.out).2.2); (case side4 => exact (Kd.R_reads' HO327.out).2.1); (case side5 => first | (with_reducible exact HG.out) | exact Glob.below HG.out (yG1 HB GE314.out)); rintro e w54 ⟨rfl, hb⟩; refine ⟨_, rfl, ?_⟩; replace HO327 := aM (Kd.R_below (yR HO327.out) hb); replace BK314 := aM (kB (yK BK314) hb); replace HB := aM (bP (yG1 HB GE314.out) hb); (try clear hb)))
          go_ret
          exact ⟨yE, yG1 HB GE314.out⟩
        ·
         rw [if_neg c40] at H
         have c40b0 : (t330 == 0) = false := beq_eq_false_iff_ne.mpr c40
         have c40b1 : (t330 != 0) = true := bne_iff_ne.mpr c40
         obtain rfl := Option.some.inj H
         obtain ⟨hcz55_0, hcz55_1, hcz55_2, hcz55_3, hcz55_4, hfz55_0, hfz55_1, hfz55_2, hfz55_3, hfz55_4⟩ := cells5 BK314.out
         go_wp2_with (first | ((with_reducible refine gate_callee (f := 51) rfl ?_); refine yC 55 Tryd.func51 #[.agg #[.int .i64 a0_0, .string a0_1, .int .i64 a0_2, .int .i64 a0_3, .slice A0_4 l0_4.length c0_4], .string a2] rfl ?_; (with_reducible refine (rowcode_Decode.calls kj20 a0_0 a0_1 a0_2 a0_3 _ _ l0_4 a2 t325 t328 _ ?side1 ?side2 ?side3 A37.out).mono ?_); (case side1 => exact yW (Kd.C_below HR0_4.out HB.out)); (case side2 => exact HC0_4.out); (case side3 => first | (with_reducible exact HG.out) | exact Glob.below HG.out (yG1 HB GE314.out)); rintro e w56 ⟨v326, rfl, ho0, hb⟩; refine ⟨_, rfl, ?_⟩; have HO327 := aM (Kd.R_lower ho0 (bZ (yG1 HB GE314.out))); replace BK314 := aM (kB (yK BK314) hb); replace HB := aM (bP (yG1 HB GE314.out) hb); (try clear hb); (try clear ho0); obtain ⟨hcz57_0, hcz57_1, hcz57_2, hcz57_3, hcz57_4, hfz57_0, hfz57_1, hfz57_2, hfz57_3, hfz57_4⟩ := cells5 BK314.out; obtain ⟨Ao58, co58, eo58⟩ := Kd.R_slice HO327.out; subst eo58) | ((with_reducible refine gate_callee (f := 16) rfl ?_); refine yC 66 Tryd.func16 #[.agg #[.int .i64 a0_0, .string a0_1, .int .i64 a0_2, .int .i64 a0_3, .slice A0_4 l0_4.length c0_4], .slice Ao58 t325.length co58] rfl ?_; (with_reducible refine (rowcode_Encode.calls kj20 a0_0 a0_1 a0_2 a0_3 _ _ l0_4 _ _ t325 t329 t330 _ ?side1 ?side2 ?side3 ?side4 ?side5 A39.out).mono ?_); (case side1 => exact yW (Kd.C_below HR0_4.out HB.out)); (case side2 => exact HC0_4.out); (case side3 => exact yW (Kd.R_reads' HO327.out).2.2); (case side4 => exact (Kd.R_reads' HO327.out).2.1); (case side5 => first | (with_reducible exact HG.out) | exact Glob.below HG.out (yG1 HB GE314.out)); rintro e w59 ⟨rfl, hb⟩; refine ⟨_, rfl, ?_⟩; replace HO327 := aM (Kd.R_below (yR HO327.out) hb); replace BK314 := aM (kB (yK BK314) hb); replace HB := aM (bP (yG1 HB GE314.out) hb); (try clear hb)))
         go_ret
         exact ⟨yE, yG1 HB GE314.out⟩
       ·
        rw [if_neg c38] at H
        have c38b0 : (t328 == 0) = false := beq_eq_false_iff_ne.mpr c38
        have c38b1 : (t328 != 0) = true := bne_iff_ne.mpr c38
        obtain rfl := Option.some.inj H
        obtain ⟨hcz60_0, hcz60_1, hcz60_2, hcz60_3, hcz60_4, hfz60_0, hfz60_1, hfz60_2, hfz60_3, hfz60_4⟩ := cells5 BK314.out
        go_wp2_with (first | ((with_reducible refine gate_callee (f := 51) rfl ?_); refine yC 55 Tryd.func51 #[.agg #[.int .i64 a0_0, .string a0_1, .int .i64 a0_2, .int .i64 a0_3, .slice A0_4 l0_4.length c0_4], .string a2] rfl ?_; (with_reducible refine (rowcode_Decode.calls kj20 a0_0 a0_1 a0_2 a0_3 _ _ l0_4 a2 t325 t328 _ ?side1 ?side2 ?side3 A37.out).mono ?_); (case side1 => exact yW (Kd.C_below HR0_4.out HB.out)); (case side2 => exact HC0_4.out); (case side3 => first | (with_reducible exact HG.out) | exact Glob.below HG.out (yG1 HB GE314.out)); rintro e w61 ⟨v326, rfl, ho0, hb⟩; refine ⟨_, rfl, ?_⟩; have HO327 := aM (Kd.R_lower ho0 (bZ (yG1 HB GE314.out))); replace BK314 := aM (kB (yK BK314) hb); replace HB := aM (bP (yG1 HB GE314.out) hb); (try clear hb); (try clear ho0); obtain ⟨Ao62, co62, eo62⟩ := Kd.R_slice HO327.out; subst eo62))
        go_ret
        exact ⟨yE, yG1 HB GE314.out⟩
 ·
  replace c5 := Bool.eq_false_iff.mpr c5
  subst c5
  replace H := yf H
  obtain rfl := Option.some.inj H
  go_enter Tryd.func10, Tryd.ntmps10
  go_wp2_with (first | ((with_reducible refine gate_dst (N := 3) rfl ?_); (try (refine gate_guard (by rfl) ?_; dsimp only)); refine yX (N := 3) (cs := #[.int .i64 a0_0, .string a0_1, .int .i64 a0_2, .int .i64 a0_3, .slice A0_4 l0_4.length c0_4]) (t := 24) ?_; intro gb314 hg w63 hbox hb; have BK314 := aM (hbox); have GW314 := yZ hg (yB HB); have GE314 := yZ hg (yB HB); replace HB := aM (bP (yB HB) hb); clear hb hbox hg) | ((with_reducible refine gate_callee (f := 13) rfl ?_); refine yC 15 Tryd.func13 #[] rfl ?_; (with_reducible refine (haulagelaw12_lives.calls k  false _ ?side1 A4.out).mono ?_); (case side1 => first | (with_reducible exact HG.out) | exact Glob.below HG.out (yG1 HB GE314.out)); rintro e w64 ⟨rfl, hb⟩; refine ⟨_, rfl, ?_⟩; replace BK314 := aM (kB (yK BK314) hb); replace HB := aM (bP (yG1 HB GE314.out) hb); (try clear hb)))
  go_ret
  exact ⟨yE, yG1 HB GE314.out⟩
end Go.Proofs.YtdeophpjammbpaaDoor.HRowcodeBack

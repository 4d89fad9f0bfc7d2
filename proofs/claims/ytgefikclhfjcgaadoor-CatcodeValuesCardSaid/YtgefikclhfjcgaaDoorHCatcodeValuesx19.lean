/- For Go functions that CatcodeValues reaches: Lean functions, and walks that show that each call comes to what its Lean function tells; no condition but those that each theorem states. (Made by a program of this session over the kit's print.py.) -/
import Derived.Test.YtgefikclhfjcgaaDoorHCatcodeValuesx0
import Derived.Test.YtgefikclhfjcgaaDoorHCatcodeValuesx1
import Derived.Test.YtgefikclhfjcgaaDoorHCatcodeValuesx4
import Derived.Test.YtgefikclhfjcgaaDoorHCatcodeValuesx10
import Derived.Test.YtgefikclhfjcgaaDoorHCatcodeValuesx11
import Derived.Test.YtgefikclhfjcgaaDoorHCatcodeValuesx17
import Derived.Test.YtgefikclhfjcgaaDoorHCatcodeValuesx18
namespace Go.Proofs.YtgefikclhfjcgaaDoor.HCatcodeValues
open Go.RowKit Go.Proofs.YtgefikclhfjcgaaDoorW.PrintWords Go.Proofs.YtgefikclhfjcgaaDoorW.PrintLast Go.Proofs.YtgefikclhfjcgaaDoorW.PrintMore
attribute [local go_sem] max2_int min2_int max_two min_two max_three min_three max_four min_four   -- for this text's walks alone
set_option linter.unusedVariables false
set_option linter.unusedSimpArgs false
attribute [local go_sem] hp_s8 hp_s16 hp_s32 hp_s64 hp_m8 hp_m16 hp_m32 hp_m64
attribute [local go_sem high] eqA23
/-! ### haulagelaw11_CatcodeValues: function 3 -/
mutual
def haulagelaw11_CatcodeValues.j0 : Nat → ByteArray → Bool → Int → Int → ByteArray → Option (Bool)
 | 0, _, _, _, _, _ => none
 | k + 1, x1, x26, x410000, x410001, x410002 => if x26 = true then (some true) else ((catcode_Value.f k x410000 x410001 x410002).bind fun bt411 => ((catcode_ReadValue.f k x1).bind fun bt413 => ((haulageref11_ReadValue.f k x1).bind fun bt419 => (if (!(bt413.1 == bt419.1) || (!(bt413.2.1 == bt419.2.1) || (!(bt413.2.2.1.toList == bt419.2.2.1.toList)))) = true then (haulagelaw11_CatcodeValues.j1 k x1 bt411.1 bt411.2 true x410000 x410001 x410002) else (if bt413.2.2.2.1 = bt419.2.2.2.1 then (haulagelaw11_CatcodeValues.j1 k x1 bt411.1 bt411.2 (bt413.2.2.2.2 != bt419.2.2.2.2) x410000 x410001 x410002) else (haulagelaw11_CatcodeValues.j1 k x1 bt411.1 bt411.2 true x410000 x410001 x410002))))))
def haulagelaw11_CatcodeValues.j1 : Nat → ByteArray → ByteArray → Int → Bool → Int → Int → ByteArray → Option (Bool)
 | 0, _, _, _, _, _, _, _ => none
 | k + 1, x1, x5, x6, x56, x410000, x410001, x410002 => if x56 = true then (some false) else ((haulageref05_Right.f k x410000 x410001 x410002).bind fun t425 => (if t425 = true then (if x5.size + x1.size ≤ 9223372036854775807 then ((catcode_ReadValue.f k (x5 ++ x1)).bind fun bt426 => ((haulageref11_Value.f k x410000 x410001 x410002).bind fun t432 => (if x5.toList = t432.toList then (if x6 = 0 then (if (bt426.1 == x410000 && (bt426.2.1 == x410001 && (bt426.2.2.1.toList == x410002.toList))) = true then (if bt426.2.2.2.1 = (x5.size : Int) then (some (bt426.2.2.2.2 == 0)) else (some false)) else (some false)) else (some false)) else (some false)))) else (none)) else (if x5.toList = ([] : List UInt8) then (some (x6 == 2)) else (some false))))
end
def haulagelaw11_CatcodeValues.f (k : Nat) (a0_0 : Int) (a0_1 : Int) (a0_2 : ByteArray) (a1 : ByteArray) : Option (Bool) := (haulagelaw11_lives.f k).bind fun t410 => (if t410 = true then (if (a0_2.size : Int) > 300 then (haulagelaw11_CatcodeValues.j0 k a1 true a0_0 a0_1 a0_2) else (haulagelaw11_CatcodeValues.j0 k a1 (decide ((a1.size : Int) > 400)) a0_0 a0_1 a0_2)) else (some false))
theorem haulagelaw11_CatcodeValues.mono_l : ∀ k, (∀ y0 y1 y2 y3 y4, LeO (haulagelaw11_CatcodeValues.j0 k y0 y1 y2 y3 y4) (haulagelaw11_CatcodeValues.j0 (k + 1) y0 y1 y2 y3 y4)) ∧ (∀ y0 y1 y2 y3 y4 y5 y6, LeO (haulagelaw11_CatcodeValues.j1 k y0 y1 y2 y3 y4 y5 y6) (haulagelaw11_CatcodeValues.j1 (k + 1) y0 y1 y2 y3 y4 y5 y6))
 | 0 => by refine ⟨?_, ?_⟩ <;> intros <;> exact LeO.none _
 | k + 1 => by
  obtain ⟨ih0, ih1⟩ := haulagelaw11_CatcodeValues.mono_l k
  refine ⟨?_, ?_⟩ <;> intros <;> first | unfold haulagelaw11_CatcodeValues.j0 | unfold haulagelaw11_CatcodeValues.j1
  all_goals repeat' first | with_reducible (first | exact ih0 .. | exact ih1 .. | exact catcode_ReadValue.mono .. | exact catcode_Value.mono .. | exact haulagelaw11_lives.mono .. | exact haulageref05_Right.mono .. | exact haulageref11_ReadValue.mono .. | exact haulageref11_Value.mono .. | exact LeO.refl .. | exact LeO.none .. | refine LeO.ite ?_ ?_ | refine LeO.bind ?_ (fun _ => ?_)) | exact ih0 .. | exact ih1 .. | exact catcode_ReadValue.mono .. | exact catcode_Value.mono .. | exact haulagelaw11_lives.mono .. | exact haulageref05_Right.mono .. | exact haulageref11_ReadValue.mono .. | exact haulageref11_Value.mono .. | exact LeO.none .. | refine LeO.ite ?_ ?_ | refine LeO.bind ?_ (fun _ => ?_)
theorem haulagelaw11_CatcodeValues.mono : ∀ a0 a1 a2 a3 k, LeO (haulagelaw11_CatcodeValues.f k a0 a1 a2 a3) (haulagelaw11_CatcodeValues.f (k + 1) a0 a1 a2 a3) := by
 intro a0 a1 a2 a3 k
 obtain ⟨ih0, ih1⟩ := haulagelaw11_CatcodeValues.mono_l k
 unfold haulagelaw11_CatcodeValues.f
 repeat' first | with_reducible (first | exact ih0 .. | exact ih1 .. | exact catcode_ReadValue.mono .. | exact catcode_Value.mono .. | exact haulagelaw11_lives.mono .. | exact haulageref05_Right.mono .. | exact haulageref11_ReadValue.mono .. | exact haulageref11_Value.mono .. | exact LeO.refl .. | exact LeO.none .. | refine LeO.ite ?_ ?_ | refine LeO.bind ?_ (fun _ => ?_)) | exact ih0 .. | exact ih1 .. | exact catcode_ReadValue.mono .. | exact catcode_Value.mono .. | exact haulagelaw11_lives.mono .. | exact haulageref05_Right.mono .. | exact haulageref11_ReadValue.mono .. | exact haulageref11_Value.mono .. | exact LeO.none .. | refine LeO.ite ?_ ?_ | refine LeO.bind ?_ (fun _ => ?_)
set_option maxHeartbeats 8000000 in
set_option maxRecDepth 100000 in
theorem haulagelaw11_CatcodeValues.calls (k : Nat) (a0_0 : Int) (a0_1 : Int) (a0_2 : ByteArray) (a1 : ByteArray) (r : Bool) (w : World) (hG : Glob w) (h : haulagelaw11_CatcodeValues.f k a0_0 a0_1 a0_2 a1 = some r) :
  Calls Tryd.prog 3 #[.agg #[.int .i64 a0_0, .int .i64 a0_1, .string a0_2], .string a1] w fun e w' => e = .returned (.bool r) ∧ Below w.heap.size w w' := by
 have hu23 := Tryd.underlying23
 have HG := aM hG
 clear hG
 have HB := aM (Below.refl w.heap.size w)
 have H : ((haulagelaw11_lives.f k).bind fun t410 => (if t410 = true then (if (a0_2.size : Int) > 300 then (haulagelaw11_CatcodeValues.j0 k a1 true a0_0 a0_1 a0_2) else (haulagelaw11_CatcodeValues.j0 k a1 (decide ((a1.size : Int) > 400)) a0_0 a0_1 a0_2)) else (some false))) = some r := h
 clear h
 obtain ⟨t410, A3, H⟩ := yb H
 by_cases c4 : t410 = true
 ·
  subst c4
  replace H := yt H
  have HC5 := aM H
  clear H
  go_enter Tryd.func3, Tryd.ntmps3
  go_upto_region 3 with (first | ((with_reducible refine gate_dst (N := 2) rfl ?_); (try (refine gate_guard (by rfl) ?_; dsimp only)); refine yX (N := 2) (cs := #[.int .i64 a0_0, .int .i64 a0_1, .string a0_2]) (t := 23) ?_; intro gb409 hg w6 hbox hb; have BK409 := aM (hbox); have GW409 := yZ hg (yB HB); have GE409 := yZ hg (yB HB); replace HB := aM (bP (yB HB) hb); clear hb hbox hg) | ((with_reducible refine gate_callee (f := 8) rfl ?_); refine yC 16 Tryd.func8 #[] rfl ?_; (with_reducible refine (haulagelaw11_lives.calls k  true _ ?side1 A3.out).mono ?_); (case side1 => first | (with_reducible exact HG.out) | exact Glob.below HG.out (yG1 HB GE409.out)); rintro e w7 ⟨rfl, hb⟩; refine ⟨_, rfl, ?_⟩; replace BK409 := aM (kB (yK BK409) hb); replace HB := aM (bP (yG1 HB GE409.out) hb); (try clear hb)))
  (try simp only [Act.put, s1_, s2_, s3_])
  go_cut [26] (fun v26 wc => ∃ (kq : Nat) (x26_4 : Bool), v26 = .bool x26_4 ∧ Aside0 (haulagelaw11_CatcodeValues.j0 kq a1 x26_4 a0_0 a0_1 a0_2 = some r) ∧ Aside0 (kq ≤ k) ∧ Aside0 (wc.heap[gb409]? = some (.cells #[.int .i64 a0_0, .int .i64 a0_1, .string a0_2] 23 (0, 0))) ∧ Aside0 (Below w.heap.size w wc))
  case first =>
   have H := HC5.out
   clear HC5
   by_cases c8 : (a0_2.size : Int) > 300
   ·
    rw [if_pos c8] at H
    have c8b0 : decide (300 < (a0_2.size : Int)) = true := decide_eq_true c8
    have c8b1 : decide (300 < a0_2.size) = true := decide_eq_true (by omega)
    clear c8
    (first | rw [c8b0] | (simp only [i64_w, i32_w]; rw [c8b0]) | skip)
    have H' := aM H
    clear H
    obtain ⟨hcz9_0, hcz9_1, hcz9_2, hfz9_0, hfz9_1, hfz9_2⟩ := cells3 BK409.out
    go_wp2
    go_meet
    case rel => exact ⟨_, (true), yS, H', ⟨yO⟩, ⟨yK BK409⟩, ⟨yG1 HB GE409.out⟩⟩
   ·
    rw [if_neg c8] at H
    have c8b0 : decide (300 < (a0_2.size : Int)) = false := decide_eq_false c8
    have c8b1 : decide (300 < a0_2.size) = false := decide_eq_false (by omega)
    clear c8
    (first | rw [c8b0] | (simp only [i64_w, i32_w]; rw [c8b0]) | skip)
    have H' := aM H
    clear H
    obtain ⟨hcz10_0, hcz10_1, hcz10_2, hfz10_0, hfz10_1, hfz10_2⟩ := cells3 BK409.out
    go_wp2
    go_meet
    case rel => exact ⟨_, (decide ((a1.size : Int) > 400)), yS, H', ⟨yO⟩, ⟨yK BK409⟩, ⟨yG1 HB GE409.out⟩⟩
  case rest =>
   clear HC5
   try clear c4
   obtain ⟨kq, x26_4, rfl, HA, HJ4, BK409, HB⟩ := hcut
   cases kq with
   | zero => exact absurd HA.out (by simp [haulagelaw11_CatcodeValues.j0])
   | succ kj4 =>
    have H := HA.out
    clear HA
    simp only [haulagelaw11_CatcodeValues.j0] at H
    by_cases c11 : x26_4 = true
    ·
     subst c11
     replace H := yt H
     obtain rfl := Option.some.inj H
     go_wp2
     go_ret
     exact ⟨yE, yG1 HB GE409.out⟩
    ·
     replace c11 := Bool.eq_false_iff.mpr c11
     subst c11
     replace H := yf H
     obtain ⟨⟨t411, t412⟩, A12, H⟩ := yb H
     try dsimp -simprocs only at H
     obtain ⟨⟨t413, t414, t415, t416, t417⟩, A13, H⟩ := yb H
     try dsimp -simprocs only at H
     obtain ⟨⟨t419, t420, t421, t422, t423⟩, A14, H⟩ := yb H
     try dsimp -simprocs only at H
     have HC15 := aM H
     clear H
     obtain ⟨hcz16_0, hcz16_1, hcz16_2, hfz16_0, hfz16_1, hfz16_2⟩ := cells3 BK409.out
     go_upto_region 8 with (first | ((with_reducible refine gate_callee (f := 9) rfl ?_); refine yC 29 Tryd.func9 #[.agg #[.int .i64 a0_0, .int .i64 a0_1, .string a0_2]] rfl ?_; (with_reducible refine (catcode_Value.calls kj4 a0_0 a0_1 a0_2 t411 t412 _ ?side1 A12.out).mono ?_); (case side1 => first | (with_reducible exact HG.out) | exact Glob.below HG.out (yG1 HB GE409.out)); rintro e w17 ⟨rfl, hb⟩; refine ⟨_, rfl, ?_⟩; replace BK409 := aM (kB (yK BK409) hb); replace HB := aM (bP (yG1 HB GE409.out) hb); (try clear hb)) | ((with_reducible refine gate_callee (f := 10) rfl ?_); refine yC 34 Tryd.func10 #[.string a1] rfl ?_; (with_reducible refine (catcode_ReadValue.calls kj4 a1 t413 t414 t415 t416 t417 _ ?side1 A13.out).mono ?_); (case side1 => first | (with_reducible exact HG.out) | exact Glob.below HG.out (yG1 HB GE409.out)); rintro e w18 ⟨rfl, hb⟩; refine ⟨_, rfl, ?_⟩; replace BK409 := aM (kB (yK BK409) hb); replace HB := aM (bP (yG1 HB GE409.out) hb); (try clear hb)) | ((with_reducible refine gate_dst (N := 7) rfl ?_); (try (refine gate_guard (by rfl) ?_; dsimp only)); refine yX (N := 7) (cs := #[.int .i64 0, .int .i64 0, .string (⟨#[]⟩ : ByteArray)]) (t := 23) ?_; intro gb418 hg w19 hbox hb; have BK418 := aM (hbox); have GW418 := yZ hg (yG1 HB GE409.out); have GE418 := yZ hg (yG1 HB GE409.out); replace HB := aM (bP (yG1 HB GE409.out) hb); have NB409_418 := yN hg (yK BK409); have NB418_409 := yM hg (yK BK409); replace BK409 := aM (kB (yK BK409) hb); clear hb hbox hg; have hnb20 := NB418_409.out; have hnc20 := NB409_418.out; obtain ⟨hcz21_0, hcz21_1, hcz21_2, hfz21_0, hfz21_1, hfz21_2⟩ := cells3 BK418.out) | ((with_reducible refine gate_callee (f := 11) rfl ?_); refine yC 40 Tryd.func11 #[.string a1] rfl ?_; (with_reducible refine (haulageref11_ReadValue.calls kj4 a1 t419 t420 t421 t422 t423 _ A14.out).mono ?_); rintro e w22 ⟨rfl, hb⟩; refine ⟨_, rfl, ?_⟩; replace BK409 := aM (kB (yF1 BK409 NB409_418.out) hb); replace BK418 := aM (kB (puts3 BK418.out) hb); replace HB := aM (bP (yG2 HB GE409.out GE418.out) hb); (try clear hb)) | ((with_reducible refine gate_dst (N := 10) rfl ?_); (try (refine gate_guard (by rfl) ?_; dsimp only)); refine yX (N := 10) (cs := #[.int .i64 0, .int .i64 0, .string (⟨#[]⟩ : ByteArray)]) (t := 23) ?_; intro gb424 hg w23 hbox hb; have BK424 := aM (hbox); have GW424 := yZ hg (yG2 HB GE409.out GE418.out); have GE424 := yZ hg (yG2 HB GE409.out GE418.out); replace HB := aM (bP (yG2 HB GE409.out GE418.out) hb); have NB409_424 := yN hg (yK BK409); have NB424_409 := yM hg (yK BK409); replace BK409 := aM (kB (yK BK409) hb); have NB418_424 := yN hg (yK BK418); have NB424_418 := yM hg (yK BK418); replace BK418 := aM (kB (yK BK418) hb); clear hb hbox hg; have hnb24 := NB424_409.out; have hnc24 := NB409_424.out; have hnb25 := NB424_418.out; have hnc25 := NB418_424.out; obtain ⟨hcz26_0, hcz26_1, hcz26_2, hfz26_0, hfz26_1, hfz26_2⟩ := cells3 BK424.out))
     (try simp only [Act.put, s1_, s2_, s3_])
     go_cut [56] (fun v56 wc => ∃ (kq : Nat) (x56_14 : Bool), v56 = .bool x56_14 ∧ Aside0 (haulagelaw11_CatcodeValues.j1 kq a1 t411 t412 x56_14 a0_0 a0_1 a0_2 = some r) ∧ Aside0 (kq ≤ kj4) ∧ Aside0 (wc.heap[gb409]? = some (.cells #[.int .i64 a0_0, .int .i64 a0_1, .string a0_2] 23 (0, 0))) ∧ Aside0 (wc.heap[gb418]? = some (.cells #[.int .i64 t413, .int .i64 t414, .string t415] 23 (0, 0))) ∧ Aside0 (wc.heap[gb424]? = some (.cells #[.int .i64 t419, .int .i64 t420, .string t421] 23 (0, 0))) ∧ Aside0 (Below w.heap.size w wc))
     case first =>
      have H := HC15.out
      clear HC15
      by_cases c27 : (!(t413 == t419) || (!(t414 == t420) || (!(t415.toList == t421.toList)))) = true
      ·
       rw [if_pos c27] at H
       have c27b0 : (!(t413 == t419) || (!(t414 == t420) || (!(t415.toList == t421.toList)))) = true := c27
       clear c27
       (first | rw [c27b0] | (simp only [i64_w, i32_w]; rw [c27b0]) | skip)
       have H' := aM H
       clear H
       have hnb28 := NB418_409.out
       have hnc28 := NB409_418.out
       have hnb29 := NB418_424.out
       have hnc29 := NB424_418.out
       obtain ⟨hcz30_0, hcz30_1, hcz30_2, hfz30_0, hfz30_1, hfz30_2⟩ := cells3 BK418.out
       have hnb31 := NB424_409.out
       have hnc31 := NB409_424.out
       obtain ⟨hcz32_0, hcz32_1, hcz32_2, hfz32_0, hfz32_1, hfz32_2⟩ := cells3 BK424.out
       go_wp2
       go_meet
       case rel => exact ⟨_, (true), yS, H', ⟨by have := HJ4.out; first | omega | exact Nat.le_refl _⟩, ⟨yF1 BK409 NB409_424.out⟩, ⟨yF1 BK418 NB418_424.out⟩, ⟨puts3 BK424.out⟩, ⟨yG3 HB GE409.out GE418.out GE424.out⟩⟩
      ·
       rw [if_neg c27] at H
       have c27b0 : (!(t413 == t419) || (!(t414 == t420) || (!(t415.toList == t421.toList)))) = false := by simpa using c27
       clear c27
       (first | rw [c27b0] | (simp only [i64_w, i32_w]; rw [c27b0]) | skip)
       by_cases c33 : t416 = t422
       ·
        rw [if_pos c33] at H
        have c33b0 : (t416 == t422) = true := beq_iff_eq.mpr c33
        have c33b1 : (t416 != t422) = false := bne_eq_false_iff_eq.mpr c33
        clear c33
        have H' := aM H
        clear H
        have hnb34 := NB418_409.out
        have hnc34 := NB409_418.out
        have hnb35 := NB418_424.out
        have hnc35 := NB424_418.out
        obtain ⟨hcz36_0, hcz36_1, hcz36_2, hfz36_0, hfz36_1, hfz36_2⟩ := cells3 BK418.out
        have hnb37 := NB424_409.out
        have hnc37 := NB409_424.out
        obtain ⟨hcz38_0, hcz38_1, hcz38_2, hfz38_0, hfz38_1, hfz38_2⟩ := cells3 BK424.out
        go_wp2
        go_meet
        case rel => exact ⟨_, ((t417 != t423)), yS, H', ⟨by have := HJ4.out; first | omega | exact Nat.le_refl _⟩, ⟨yF1 BK409 NB409_424.out⟩, ⟨yF1 BK418 NB418_424.out⟩, ⟨puts3 BK424.out⟩, ⟨yG3 HB GE409.out GE418.out GE424.out⟩⟩
       ·
        rw [if_neg c33] at H
        have c33b0 : (t416 == t422) = false := beq_eq_false_iff_ne.mpr c33
        have c33b1 : (t416 != t422) = true := bne_iff_ne.mpr c33
        have H' := aM H
        clear H
        have hnb39 := NB418_409.out
        have hnc39 := NB409_418.out
        have hnb40 := NB418_424.out
        have hnc40 := NB424_418.out
        obtain ⟨hcz41_0, hcz41_1, hcz41_2, hfz41_0, hfz41_1, hfz41_2⟩ := cells3 BK418.out
        have hnb42 := NB424_409.out
        have hnc42 := NB409_424.out
        obtain ⟨hcz43_0, hcz43_1, hcz43_2, hfz43_0, hfz43_1, hfz43_2⟩ := cells3 BK424.out
        go_wp2
        go_meet
        case rel => exact ⟨_, (true), yS, H', ⟨by have := HJ4.out; first | omega | exact Nat.le_refl _⟩, ⟨yF1 BK409 NB409_424.out⟩, ⟨yF1 BK418 NB418_424.out⟩, ⟨puts3 BK424.out⟩, ⟨yG3 HB GE409.out GE418.out GE424.out⟩⟩
     case rest =>
      clear HC15
      try clear c4
      try clear c11
      try clear hcz16_0 hcz16_1 hcz16_2
      try clear hcz21_0 hcz21_1 hcz21_2
      try clear hcz26_0 hcz26_1 hcz26_2
      try clear hfz16_0 hfz16_1 hfz16_2
      try clear hfz21_0 hfz21_1 hfz21_2
      try clear hfz26_0 hfz26_1 hfz26_2
      obtain ⟨kq, x56_14, rfl, HA, HJ14, BK409, BK418, BK424, HB⟩ := hcut
      cases kq with
      | zero => exact absurd HA.out (by simp [haulagelaw11_CatcodeValues.j1])
      | succ kj14 =>
       have H := HA.out
       clear HA
       simp only [haulagelaw11_CatcodeValues.j1] at H
       by_cases c44 : x56_14 = true
       ·
        subst c44
        replace H := yt H
        obtain rfl := Option.some.inj H
        go_wp2
        go_ret
        exact ⟨yE, yG3 HB GE409.out GE418.out GE424.out⟩
       ·
        replace c44 := Bool.eq_false_iff.mpr c44
        subst c44
        replace H := yf H
        obtain ⟨t425, A45, H⟩ := yb H
        by_cases c46 : t425 = true
        ·
         subst c46
         replace H := yt H
         by_cases c47 : t411.size + a1.size ≤ 9223372036854775807
         ·
          rw [if_pos c47] at H
          have c47b0 := eq_true c47
          have c47b1 : decide (t411.size + a1.size ≤ 9223372036854775807) = true := decide_eq_true c47
          try have c47b2 : (9223372036854775807 < t411.size + a1.size) = False := eq_false (Nat.not_lt.2 c47)
          obtain ⟨⟨t426, t427, t428, t429, t430⟩, A48, H⟩ := yb H
          try dsimp -simprocs only at H
          obtain ⟨t432, A49, H⟩ := yb H
          by_cases c50 : t411.toList = t432.toList
          ·
           rw [if_pos c50] at H
           have c50b0 : (t411.toList == t432.toList) = true := beq_iff_eq.mpr c50
           have c50b1 : (t411.toList != t432.toList) = false := bne_eq_false_iff_eq.mpr c50
           clear c50
           by_cases c51 : t412 = 0
           ·
            rw [if_pos c51] at H
            have c51b0 : (t412 == 0) = true := beq_iff_eq.mpr c51
            have c51b1 : (t412 != 0) = false := bne_eq_false_iff_eq.mpr c51
            clear c51
            by_cases c52 : (t426 == a0_0 && (t427 == a0_1 && (t428.toList == a0_2.toList))) = true
            ·
             rw [if_pos c52] at H
             have c52b0 : (t426 == a0_0 && (t427 == a0_1 && (t428.toList == a0_2.toList))) = true := c52
             (try (have c52b1 : decide (t426 = a0_0 && (t427 == a0_1 && (t428.toList == a0_2.toList))) = true := by simpa using c52))
             (try (have c52b2 : (t426 == a0_0 && (t427 == a0_1 && (t428.toList == a0_2.toList))) = true := by simpa using c52))
             clear c52
             by_cases c53 : t429 = (t411.size : Int)
             ·
              rw [if_pos c53] at H
              have c53b0 : (t429 == (t411.size : Int)) = true := beq_iff_eq.mpr c53
              have c53b1 : (t429 != (t411.size : Int)) = false := bne_eq_false_iff_eq.mpr c53
              clear c53
              obtain rfl := Option.some.inj H
              have hnb54 := NB409_418.out
              have hnc54 := NB418_409.out
              have hnb55 := NB409_424.out
              have hnc55 := NB424_409.out
              obtain ⟨hcz56_0, hcz56_1, hcz56_2, hfz56_0, hfz56_1, hfz56_2⟩ := cells3 BK409.out
              go_wp2_with (first | ((with_reducible refine gate_callee (f := 12) rfl ?_); refine yC 58 Tryd.func12 #[.agg #[.int .i64 a0_0, .int .i64 a0_1, .string a0_2]] rfl ?_; (with_reducible refine (haulageref05_Right.calls kj14 a0_0 a0_1 a0_2 true _ A45.out).mono ?_); rintro e w57 ⟨rfl, hb⟩; refine ⟨_, rfl, ?_⟩; replace BK409 := aM (kB (yK BK409) hb); replace BK418 := aM (kB (yK BK418) hb); replace BK424 := aM (kB (yK BK424) hb); replace HB := aM (bP (yG3 HB GE409.out GE418.out GE424.out) hb); (try clear hb)) | ((with_reducible refine gate_callee (f := 10) rfl ?_); refine yC 70 Tryd.func10 #[.string (t411 ++ a1)] rfl ?_; (with_reducible refine (catcode_ReadValue.calls kj14 (t411 ++ a1) t426 t427 t428 t429 t430 _ ?side1 A48.out).mono ?_); (case side1 => first | (with_reducible exact HG.out) | exact Glob.below HG.out (yG3 HB GE409.out GE418.out GE424.out)); rintro e w58 ⟨rfl, hb⟩; refine ⟨_, rfl, ?_⟩; replace BK409 := aM (kB (yK BK409) hb); replace BK418 := aM (kB (yK BK418) hb); replace BK424 := aM (kB (yK BK424) hb); replace HB := aM (bP (yG3 HB GE409.out GE418.out GE424.out) hb); (try clear hb)) | ((with_reducible refine gate_dst (N := 13) rfl ?_); (try (refine gate_guard (by rfl) ?_; dsimp only)); refine yX (N := 13) (cs := #[.int .i64 0, .int .i64 0, .string (⟨#[]⟩ : ByteArray)]) (t := 23) ?_; intro gb431 hg w59 hbox hb; have BK431 := aM (hbox); have GW431 := yZ hg (yG3 HB GE409.out GE418.out GE424.out); have GE431 := yZ hg (yG3 HB GE409.out GE418.out GE424.out); replace HB := aM (bP (yG3 HB GE409.out GE418.out GE424.out) hb); have NB409_431 := yN hg (yK BK409); have NB431_409 := yM hg (yK BK409); replace BK409 := aM (kB (yK BK409) hb); have NB418_431 := yN hg (yK BK418); have NB431_418 := yM hg (yK BK418); replace BK418 := aM (kB (yK BK418) hb); have NB424_431 := yN hg (yK BK424); have NB431_424 := yM hg (yK BK424); replace BK424 := aM (kB (yK BK424) hb); clear hb hbox hg; have hnb60 := NB431_409.out; have hnc60 := NB409_431.out; have hnb61 := NB431_418.out; have hnc61 := NB418_431.out; have hnb62 := NB431_424.out; have hnc62 := NB424_431.out; obtain ⟨hcz63_0, hcz63_1, hcz63_2, hfz63_0, hfz63_1, hfz63_2⟩ := cells3 BK431.out; obtain ⟨hcz64_0, hcz64_1, hcz64_2, hfz64_0, hfz64_1, hfz64_2⟩ := cells3 BK409.out) | ((with_reducible refine gate_callee (f := 13) rfl ?_); refine yC 76 Tryd.func13 #[.agg #[.int .i64 a0_0, .int .i64 a0_1, .string a0_2]] rfl ?_; (with_reducible refine (haulageref11_Value.calls kj14 a0_0 a0_1 a0_2 t432 _ A49.out).mono ?_); rintro e w65 ⟨rfl, hb⟩; refine ⟨_, rfl, ?_⟩; replace BK409 := aM (kB (yF1 BK409 NB409_431.out) hb); replace BK418 := aM (kB (yF1 BK418 NB418_431.out) hb); replace BK424 := aM (kB (yF1 BK424 NB424_431.out) hb); replace BK431 := aM (kB (puts3 BK431.out) hb); replace HB := aM (bP (yG4 HB GE409.out GE418.out GE424.out GE431.out) hb); (try clear hb); obtain ⟨hcz66_0, hcz66_1, hcz66_2, hfz66_0, hfz66_1, hfz66_2⟩ := cells3 BK431.out; obtain ⟨hcz67_0, hcz67_1, hcz67_2, hfz67_0, hfz67_1, hfz67_2⟩ := cells3 BK409.out))
              go_ret
              exact ⟨yE, yG4 HB GE409.out GE418.out GE424.out GE431.out⟩
             ·
              rw [if_neg c53] at H
              have c53b0 : (t429 == (t411.size : Int)) = false := beq_eq_false_iff_ne.mpr c53
              have c53b1 : (t429 != (t411.size : Int)) = true := bne_iff_ne.mpr c53
              obtain rfl := Option.some.inj H
              have hnb68 := NB409_418.out
              have hnc68 := NB418_409.out
              have hnb69 := NB409_424.out
              have hnc69 := NB424_409.out
              obtain ⟨hcz70_0, hcz70_1, hcz70_2, hfz70_0, hfz70_1, hfz70_2⟩ := cells3 BK409.out
              go_wp2_with (first | ((with_reducible refine gate_callee (f := 12) rfl ?_); refine yC 58 Tryd.func12 #[.agg #[.int .i64 a0_0, .int .i64 a0_1, .string a0_2]] rfl ?_; (with_reducible refine (haulageref05_Right.calls kj14 a0_0 a0_1 a0_2 true _ A45.out).mono ?_); rintro e w71 ⟨rfl, hb⟩; refine ⟨_, rfl, ?_⟩; replace BK409 := aM (kB (yK BK409) hb); replace BK418 := aM (kB (yK BK418) hb); replace BK424 := aM (kB (yK BK424) hb); replace HB := aM (bP (yG3 HB GE409.out GE418.out GE424.out) hb); (try clear hb)) | ((with_reducible refine gate_callee (f := 10) rfl ?_); refine yC 70 Tryd.func10 #[.string (t411 ++ a1)] rfl ?_; (with_reducible refine (catcode_ReadValue.calls kj14 (t411 ++ a1) t426 t427 t428 t429 t430 _ ?side1 A48.out).mono ?_); (case side1 => first | (with_reducible exact HG.out) | exact Glob.below HG.out (yG3 HB GE409.out GE418.out GE424.out)); rintro e w72 ⟨rfl, hb⟩; refine ⟨_, rfl, ?_⟩; replace BK409 := aM (kB (yK BK409) hb); replace BK418 := aM (kB (yK BK418) hb); replace BK424 := aM (kB (yK BK424) hb); replace HB := aM (bP (yG3 HB GE409.out GE418.out GE424.out) hb); (try clear hb)) | ((with_reducible refine gate_dst (N := 13) rfl ?_); (try (refine gate_guard (by rfl) ?_; dsimp only)); refine yX (N := 13) (cs := #[.int .i64 0, .int .i64 0, .string (⟨#[]⟩ : ByteArray)]) (t := 23) ?_; intro gb431 hg w73 hbox hb; have BK431 := aM (hbox); have GW431 := yZ hg (yG3 HB GE409.out GE418.out GE424.out); have GE431 := yZ hg (yG3 HB GE409.out GE418.out GE424.out); replace HB := aM (bP (yG3 HB GE409.out GE418.out GE424.out) hb); have NB409_431 := yN hg (yK BK409); have NB431_409 := yM hg (yK BK409); replace BK409 := aM (kB (yK BK409) hb); have NB418_431 := yN hg (yK BK418); have NB431_418 := yM hg (yK BK418); replace BK418 := aM (kB (yK BK418) hb); have NB424_431 := yN hg (yK BK424); have NB431_424 := yM hg (yK BK424); replace BK424 := aM (kB (yK BK424) hb); clear hb hbox hg; have hnb74 := NB431_409.out; have hnc74 := NB409_431.out; have hnb75 := NB431_418.out; have hnc75 := NB418_431.out; have hnb76 := NB431_424.out; have hnc76 := NB424_431.out; obtain ⟨hcz77_0, hcz77_1, hcz77_2, hfz77_0, hfz77_1, hfz77_2⟩ := cells3 BK431.out; obtain ⟨hcz78_0, hcz78_1, hcz78_2, hfz78_0, hfz78_1, hfz78_2⟩ := cells3 BK409.out) | ((with_reducible refine gate_callee (f := 13) rfl ?_); refine yC 76 Tryd.func13 #[.agg #[.int .i64 a0_0, .int .i64 a0_1, .string a0_2]] rfl ?_; (with_reducible refine (haulageref11_Value.calls kj14 a0_0 a0_1 a0_2 t432 _ A49.out).mono ?_); rintro e w79 ⟨rfl, hb⟩; refine ⟨_, rfl, ?_⟩; replace BK409 := aM (kB (yF1 BK409 NB409_431.out) hb); replace BK418 := aM (kB (yF1 BK418 NB418_431.out) hb); replace BK424 := aM (kB (yF1 BK424 NB424_431.out) hb); replace BK431 := aM (kB (puts3 BK431.out) hb); replace HB := aM (bP (yG4 HB GE409.out GE418.out GE424.out GE431.out) hb); (try clear hb); obtain ⟨hcz80_0, hcz80_1, hcz80_2, hfz80_0, hfz80_1, hfz80_2⟩ := cells3 BK431.out; obtain ⟨hcz81_0, hcz81_1, hcz81_2, hfz81_0, hfz81_1, hfz81_2⟩ := cells3 BK409.out))
              go_ret
              exact ⟨yE, yG4 HB GE409.out GE418.out GE424.out GE431.out⟩
            ·
             rw [if_neg c52] at H
             have c52b0 : (t426 == a0_0 && (t427 == a0_1 && (t428.toList == a0_2.toList))) = false := by simpa using c52
             (try (have c52b1 : decide (t426 = a0_0 && (t427 == a0_1 && (t428.toList == a0_2.toList))) = false := by simpa using c52))
             (try (have c52b2 : (t426 == a0_0 && (t427 == a0_1 && (t428.toList == a0_2.toList))) = false := by simpa using c52))
             (try (have c52b3 : ¬ (t426 = a0_0 && (t427 == a0_1 && (t428.toList == a0_2.toList))) := by simpa using c52))
             clear c52
             obtain rfl := Option.some.inj H
             have hnb82 := NB409_418.out
             have hnc82 := NB418_409.out
             have hnb83 := NB409_424.out
             have hnc83 := NB424_409.out
             obtain ⟨hcz84_0, hcz84_1, hcz84_2, hfz84_0, hfz84_1, hfz84_2⟩ := cells3 BK409.out
             go_wp2_with (first | ((with_reducible refine gate_callee (f := 12) rfl ?_); refine yC 58 Tryd.func12 #[.agg #[.int .i64 a0_0, .int .i64 a0_1, .string a0_2]] rfl ?_; (with_reducible refine (haulageref05_Right.calls kj14 a0_0 a0_1 a0_2 true _ A45.out).mono ?_); rintro e w85 ⟨rfl, hb⟩; refine ⟨_, rfl, ?_⟩; replace BK409 := aM (kB (yK BK409) hb); replace BK418 := aM (kB (yK BK418) hb); replace BK424 := aM (kB (yK BK424) hb); replace HB := aM (bP (yG3 HB GE409.out GE418.out GE424.out) hb); (try clear hb)) | ((with_reducible refine gate_callee (f := 10) rfl ?_); refine yC 70 Tryd.func10 #[.string (t411 ++ a1)] rfl ?_; (with_reducible refine (catcode_ReadValue.calls kj14 (t411 ++ a1) t426 t427 t428 t429 t430 _ ?side1 A48.out).mono ?_); (case side1 => first | (with_reducible exact HG.out) | exact Glob.below HG.out (yG3 HB GE409.out GE418.out GE424.out)); rintro e w86 ⟨rfl, hb⟩; refine ⟨_, rfl, ?_⟩; replace BK409 := aM (kB (yK BK409) hb); replace BK418 := aM (kB (yK BK418) hb); replace BK424 := aM (kB (yK BK424) hb); replace HB := aM (bP (yG3 HB GE409.out GE418.out GE424.out) hb); (try clear hb)) | ((with_reducible refine gate_dst (N := 13) rfl ?_); (try (refine gate_guard (by rfl) ?_; dsimp only)); refine yX (N := 13) (cs := #[.int .i64 0, .int .i64 0, .string (⟨#[]⟩ : ByteArray)]) (t := 23) ?_; intro gb431 hg w87 hbox hb; have BK431 := aM (hbox); have GW431 := yZ hg (yG3 HB GE409.out GE418.out GE424.out); have GE431 := yZ hg (yG3 HB GE409.out GE418.out GE424.out); replace HB := aM (bP (yG3 HB GE409.out GE418.out GE424.out) hb); have NB409_431 := yN hg (yK BK409); have NB431_409 := yM hg (yK BK409); replace BK409 := aM (kB (yK BK409) hb); have NB418_431 := yN hg (yK BK418); have NB431_418 := yM hg (yK BK418); replace BK418 := aM (kB (yK BK418) hb); have NB424_431 := yN hg (yK BK424); have NB431_424 := yM hg (yK BK424); replace BK424 := aM (kB (yK BK424) hb); clear hb hbox hg; have hnb88 := NB431_409.out; have hnc88 := NB409_431.out; have hnb89 := NB431_418.out; have hnc89 := NB418_431.out; have hnb90 := NB431_424.out; have hnc90 := NB424_431.out; obtain ⟨hcz91_0, hcz91_1, hcz91_2, hfz91_0, hfz91_1, hfz91_2⟩ := cells3 BK431.out; obtain ⟨hcz92_0, hcz92_1, hcz92_2, hfz92_0, hfz92_1, hfz92_2⟩ := cells3 BK409.out) | ((with_reducible refine gate_callee (f := 13) rfl ?_); refine yC 76 Tryd.func13 #[.agg #[.int .i64 a0_0, .int .i64 a0_1, .string a0_2]] rfl ?_; (with_reducible refine (haulageref11_Value.calls kj14 a0_0 a0_1 a0_2 t432 _ A49.out).mono ?_); rintro e w93 ⟨rfl, hb⟩; refine ⟨_, rfl, ?_⟩; replace BK409 := aM (kB (yF1 BK409 NB409_431.out) hb); replace BK418 := aM (kB (yF1 BK418 NB418_431.out) hb); replace BK424 := aM (kB (yF1 BK424 NB424_431.out) hb); replace BK431 := aM (kB (puts3 BK431.out) hb); replace HB := aM (bP (yG4 HB GE409.out GE418.out GE424.out GE431.out) hb); (try clear hb); obtain ⟨hcz94_0, hcz94_1, hcz94_2, hfz94_0, hfz94_1, hfz94_2⟩ := cells3 BK431.out; obtain ⟨hcz95_0, hcz95_1, hcz95_2, hfz95_0, hfz95_1, hfz95_2⟩ := cells3 BK409.out))
             go_ret
             exact ⟨yE, yG4 HB GE409.out GE418.out GE424.out GE431.out⟩
           ·
            rw [if_neg c51] at H
            have c51b0 : (t412 == 0) = false := beq_eq_false_iff_ne.mpr c51
            have c51b1 : (t412 != 0) = true := bne_iff_ne.mpr c51
            obtain rfl := Option.some.inj H
            have hnb96 := NB409_418.out
            have hnc96 := NB418_409.out
            have hnb97 := NB409_424.out
            have hnc97 := NB424_409.out
            obtain ⟨hcz98_0, hcz98_1, hcz98_2, hfz98_0, hfz98_1, hfz98_2⟩ := cells3 BK409.out
            go_wp2_with (first | ((with_reducible refine gate_callee (f := 12) rfl ?_); refine yC 58 Tryd.func12 #[.agg #[.int .i64 a0_0, .int .i64 a0_1, .string a0_2]] rfl ?_; (with_reducible refine (haulageref05_Right.calls kj14 a0_0 a0_1 a0_2 true _ A45.out).mono ?_); rintro e w99 ⟨rfl, hb⟩; refine ⟨_, rfl, ?_⟩; replace BK409 := aM (kB (yK BK409) hb); replace BK418 := aM (kB (yK BK418) hb); replace BK424 := aM (kB (yK BK424) hb); replace HB := aM (bP (yG3 HB GE409.out GE418.out GE424.out) hb); (try clear hb)) | ((with_reducible refine gate_callee (f := 10) rfl ?_); refine yC 70 Tryd.func10 #[.string (t411 ++ a1)] rfl ?_; (with_reducible refine (catcode_ReadValue.calls kj14 (t411 ++ a1) t426 t427 t428 t429 t430 _ ?side1 A48.out).mono ?_); (case side1 => first | (with_reducible exact HG.out) | exact Glob.below HG.out (yG3 HB GE409.out GE418.out GE424.out)); rintro e w100 ⟨rfl, hb⟩; refine ⟨_, rfl, ?_⟩; replace BK409 := aM (kB (yK BK409) hb); replace BK418 := aM (kB (yK BK418) hb); replace BK424 := aM (kB (yK BK424) hb); replace HB := aM (bP (yG3 HB GE409.out GE418.out GE424.out) hb); (try clear hb)) | ((with_reducible refine gate_dst (N := 13) rfl ?_); (try (refine gate_guard (by rfl) ?_; dsimp only)); refine yX (N := 13) (cs := #[.int .i64 0, .int .i64 0, .string (⟨#[]⟩ : ByteArray)]) (t := 23) ?_; intro gb431 hg w101 hbox hb; have BK431 := aM (hbox); have GW431 := yZ hg (yG3 HB GE409.out GE418.out GE424.out); have GE431 := yZ hg (yG3 HB GE409.out GE418.out GE424.out); replace HB := aM (bP (yG3 HB GE409.out GE418.out GE424.out) hb); have NB409_431 := yN hg (yK BK409); have NB431_409 := yM hg (yK BK409); replace BK409 := aM (kB (yK BK409) hb); have NB418_431 := yN hg (yK BK418); have NB431_418 := yM hg (yK BK418); replace BK418 := aM (kB (yK BK418) hb); have NB424_431 := yN hg (yK BK424); have NB431_424 := yM hg (yK BK424); replace BK424 := aM (kB (yK BK424) hb); clear hb hbox hg; have hnb102 := NB431_409.out; have hnc102 := NB409_431.out; have hnb103 := NB431_418.out; have hnc103 := NB418_431.out; have hnb104 := NB431_424.out; have hnc104 := NB424_431.out; obtain ⟨hcz105_0, hcz105_1, hcz105_2, hfz105_0, hfz105_1, hfz105_2⟩ := cells3 BK431.out; obtain ⟨hcz106_0, hcz106_1, hcz106_2, hfz106_0, hfz106_1, hfz106_2⟩ := cells3 BK409.out) | ((with_reducible refine gate_callee (f := 13) rfl ?_); refine yC 76 Tryd.func13 #[.agg #[.int .i64 a0_0, .int .i64 a0_1, .string a0_2]] rfl ?_; (with_reducible refine (haulageref11_Value.calls kj14 a0_0 a0_1 a0_2 t432 _ A49.out).mono ?_); rintro e w107 ⟨rfl, hb⟩; refine ⟨_, rfl, ?_⟩; replace BK409 := aM (kB (yF1 BK409 NB409_431.out) hb); replace BK418 := aM (kB (yF1 BK418 NB418_431.out) hb); replace BK424 := aM (kB (yF1 BK424 NB424_431.out) hb); replace BK431 := aM (kB (puts3 BK431.out) hb); replace HB := aM (bP (yG4 HB GE409.out GE418.out GE424.out GE431.out) hb); (try clear hb)))
            go_ret
            exact ⟨yE, yG4 HB GE409.out GE418.out GE424.out GE431.out⟩
          ·
           rw [if_neg c50] at H
           have c50b0 : (t411.toList == t432.toList) = false := beq_eq_false_iff_ne.mpr c50
           have c50b1 : (t411.toList != t432.toList) = true := bne_iff_ne.mpr c50
           obtain rfl := Option.some.inj H
           have hnb108 := NB409_418.out
           have hnc108 := NB418_409.out
           have hnb109 := NB409_424.out
           have hnc109 := NB424_409.out
           obtain ⟨hcz110_0, hcz110_1, hcz110_2, hfz110_0, hfz110_1, hfz110_2⟩ := cells3 BK409.out
           go_wp2_with (first | ((with_reducible refine gate_callee (f := 12) rfl ?_); refine yC 58 Tryd.func12 #[.agg #[.int .i64 a0_0, .int .i64 a0_1, .string a0_2]] rfl ?_; (with_reducible refine (haulageref05_Right.calls kj14 a0_0 a0_1 a0_2 true _ A45.out).mono ?_); rintro e w111 ⟨rfl, hb⟩; refine ⟨_, rfl, ?_⟩; replace BK409 := aM (kB (yK BK409) hb); replace BK418 := aM (kB (yK BK418) hb); replace BK424 := aM (kB (yK BK424) hb); replace HB := aM (bP (yG3 HB GE409.out GE418.out GE424.out) hb); (try clear hb)) | ((with_reducible refine gate_callee (f := 10) rfl ?_); refine yC 70 Tryd.func10 #[.string (t411 ++ a1)] rfl ?_; (with_reducible refine (catcode_ReadValue.calls kj14 (t411 ++ a1) t426 t427 t428 t429 t430 _ ?side1 A48.out).mono ?_); (case side1 => first | (with_reducible exact HG.out) | exact Glob.below HG.out (yG3 HB GE409.out GE418.out GE424.out)); rintro e w112 ⟨rfl, hb⟩; refine ⟨_, rfl, ?_⟩; replace BK409 := aM (kB (yK BK409) hb); replace BK418 := aM (kB (yK BK418) hb); replace BK424 := aM (kB (yK BK424) hb); replace HB := aM (bP (yG3 HB GE409.out GE418.out GE424.out) hb); (try clear hb)) | ((with_reducible refine gate_dst (N := 13) rfl ?_); (try (refine gate_guard (by rfl) ?_; dsimp only)); refine yX (N := 13) (cs := #[.int .i64 0, .int .i64 0, .string (⟨#[]⟩ : ByteArray)]) (t := 23) ?_; intro gb431 hg w113 hbox hb; have BK431 := aM (hbox); have GW431 := yZ hg (yG3 HB GE409.out GE418.out GE424.out); have GE431 := yZ hg (yG3 HB GE409.out GE418.out GE424.out); replace HB := aM (bP (yG3 HB GE409.out GE418.out GE424.out) hb); have NB409_431 := yN hg (yK BK409); have NB431_409 := yM hg (yK BK409); replace BK409 := aM (kB (yK BK409) hb); have NB418_431 := yN hg (yK BK418); have NB431_418 := yM hg (yK BK418); replace BK418 := aM (kB (yK BK418) hb); have NB424_431 := yN hg (yK BK424); have NB431_424 := yM hg (yK BK424); replace BK424 := aM (kB (yK BK424) hb); clear hb hbox hg; have hnb114 := NB431_409.out; have hnc114 := NB409_431.out; have hnb115 := NB431_418.out; have hnc115 := NB418_431.out; have hnb116 := NB431_424.out; have hnc116 := NB424_431.out; obtain ⟨hcz117_0, hcz117_1, hcz117_2, hfz117_0, hfz117_1, hfz117_2⟩ := cells3 BK431.out; obtain ⟨hcz118_0, hcz118_1, hcz118_2, hfz118_0, hfz118_1, hfz118_2⟩ := cells3 BK409.out) | ((with_reducible refine gate_callee (f := 13) rfl ?_); refine yC 76 Tryd.func13 #[.agg #[.int .i64 a0_0, .int .i64 a0_1, .string a0_2]] rfl ?_; (with_reducible refine (haulageref11_Value.calls kj14 a0_0 a0_1 a0_2 t432 _ A49.out).mono ?_); rintro e w119 ⟨rfl, hb⟩; refine ⟨_, rfl, ?_⟩; replace BK409 := aM (kB (yF1 BK409 NB409_431.out) hb); replace BK418 := aM (kB (yF1 BK418 NB418_431.out) hb); replace BK424 := aM (kB (yF1 BK424 NB424_431.out) hb); replace BK431 := aM (kB (puts3 BK431.out) hb); replace HB := aM (bP (yG4 HB GE409.out GE418.out GE424.out GE431.out) hb); (try clear hb)))
           go_ret
           exact ⟨yE, yG4 HB GE409.out GE418.out GE424.out GE431.out⟩
         ·
          rw [if_neg c47] at H
          exact absurd H (by simp)
        ·
         replace c46 := Bool.eq_false_iff.mpr c46
         subst c46
         replace H := yf H
         by_cases c120 : t411.toList = ([] : List UInt8)
         ·
          rw [if_pos c120] at H
          have c120b0 : (t411.toList == ([] : List UInt8)) = true := beq_iff_eq.mpr c120
          have c120b1 : (t411.toList != ([] : List UInt8)) = false := bne_eq_false_iff_eq.mpr c120
          clear c120
          obtain rfl := Option.some.inj H
          have hnb121 := NB409_418.out
          have hnc121 := NB418_409.out
          have hnb122 := NB409_424.out
          have hnc122 := NB424_409.out
          obtain ⟨hcz123_0, hcz123_1, hcz123_2, hfz123_0, hfz123_1, hfz123_2⟩ := cells3 BK409.out
          go_wp2_with (first | ((with_reducible refine gate_callee (f := 12) rfl ?_); refine yC 58 Tryd.func12 #[.agg #[.int .i64 a0_0, .int .i64 a0_1, .string a0_2]] rfl ?_; (with_reducible refine (haulageref05_Right.calls kj14 a0_0 a0_1 a0_2 false _ A45.out).mono ?_); rintro e w124 ⟨rfl, hb⟩; refine ⟨_, rfl, ?_⟩; replace BK409 := aM (kB (yK BK409) hb); replace BK418 := aM (kB (yK BK418) hb); replace BK424 := aM (kB (yK BK424) hb); replace HB := aM (bP (yG3 HB GE409.out GE418.out GE424.out) hb); (try clear hb)))
          go_ret
          exact ⟨yE, yG3 HB GE409.out GE418.out GE424.out⟩
         ·
          rw [if_neg c120] at H
          have c120b0 : (t411.toList == ([] : List UInt8)) = false := beq_eq_false_iff_ne.mpr c120
          have c120b1 : (t411.toList != ([] : List UInt8)) = true := bne_iff_ne.mpr c120
          obtain rfl := Option.some.inj H
          have hnb125 := NB409_418.out
          have hnc125 := NB418_409.out
          have hnb126 := NB409_424.out
          have hnc126 := NB424_409.out
          obtain ⟨hcz127_0, hcz127_1, hcz127_2, hfz127_0, hfz127_1, hfz127_2⟩ := cells3 BK409.out
          go_wp2_with (first | ((with_reducible refine gate_callee (f := 12) rfl ?_); refine yC 58 Tryd.func12 #[.agg #[.int .i64 a0_0, .int .i64 a0_1, .string a0_2]] rfl ?_; (with_reducible refine (haulageref05_Right.calls kj14 a0_0 a0_1 a0_2 false _ A45.out).mono ?_); rintro e w128 ⟨rfl, hb⟩; refine ⟨_, rfl, ?_⟩; replace BK409 := aM (kB (yK BK409) hb); replace BK418 := aM (kB (yK BK418) hb); replace BK424 := aM (kB (yK BK424) hb); replace HB := aM (bP (yG3 HB GE409.out GE418.out GE424.out) hb); (try clear hb)))
          go_ret
          exact ⟨yE, yG3 HB GE409.out GE418.out GE424.out⟩
 ·
  replace c4 := Bool.eq_false_iff.mpr c4
  subst c4
  replace H := yf H
  obtain rfl := Option.some.inj H
  go_enter Tryd.func3, Tryd.ntmps3
  go_wp2_with (first | ((with_reducible refine gate_dst (N := 2) rfl ?_); (try (refine gate_guard (by rfl) ?_; dsimp only)); refine yX (N := 2) (cs := #[.int .i64 a0_0, .int .i64 a0_1, .string a0_2]) (t := 23) ?_; intro gb409 hg w129 hbox hb; have BK409 := aM (hbox); have GW409 := yZ hg (yB HB); have GE409 := yZ hg (yB HB); replace HB := aM (bP (yB HB) hb); clear hb hbox hg) | ((with_reducible refine gate_callee (f := 8) rfl ?_); refine yC 16 Tryd.func8 #[] rfl ?_; (with_reducible refine (haulagelaw11_lives.calls k  false _ ?side1 A3.out).mono ?_); (case side1 => first | (with_reducible exact HG.out) | exact Glob.below HG.out (yG1 HB GE409.out)); rintro e w130 ⟨rfl, hb⟩; refine ⟨_, rfl, ?_⟩; replace BK409 := aM (kB (yK BK409) hb); replace HB := aM (bP (yG1 HB GE409.out) hb); (try clear hb)))
  go_ret
  exact ⟨yE, yG1 HB GE409.out⟩
end Go.Proofs.YtgefikclhfjcgaaDoor.HCatcodeValues

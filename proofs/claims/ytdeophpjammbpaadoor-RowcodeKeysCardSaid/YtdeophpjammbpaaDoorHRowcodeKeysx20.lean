/- For Go functions that RowcodeKeys reaches: Lean functions, and walks that show that each call comes to what its Lean function tells; no condition but those that each theorem states. (Made by a program of this session over the kit's print.py.) -/
import Derived.Test.YtdeophpjammbpaaDoorHRowcodeKeysx0
import Derived.Test.YtdeophpjammbpaaDoorHRowcodeKeysx1
import Derived.Test.YtdeophpjammbpaaDoorHRowcodeKeysx8
import Derived.Test.YtdeophpjammbpaaDoorHRowcodeKeysx9
import Derived.Test.YtdeophpjammbpaaDoorHRowcodeKeysx11
import Derived.Test.YtdeophpjammbpaaDoorHRowcodeKeysx13
import Derived.Test.YtdeophpjammbpaaDoorHRowcodeKeysx14
import Derived.Test.YtdeophpjammbpaaDoorHRowcodeKeysx16
import Derived.Test.YtdeophpjammbpaaDoorHRowcodeKeysx18
import Derived.Test.YtdeophpjammbpaaDoorHRowcodeKeysx19
namespace Go.Proofs.YtdeophpjammbpaaDoor.HRowcodeKeys
open Go.RowKit Go.Proofs.YtdeophpjammbpaaDoorW.PrintWords Go.Proofs.YtdeophpjammbpaaDoorW.PrintLast Go.Proofs.YtdeophpjammbpaaDoorW.PrintMore
attribute [local go_sem] max2_int min2_int max_two min_two max_three min_three max_four min_four   -- for this text's walks alone
set_option linter.unusedVariables false
set_option linter.unusedSimpArgs false
attribute [local go_sem] hp_s8 hp_s16 hp_s32 hp_s64 hp_m8 hp_m16 hp_m32 hp_m64
attribute [local go_sem high] eqA52
/-! ### haulagelaw12_RowcodeKeys: function 12 -/
mutual
def haulagelaw12_RowcodeKeys.j0 : Nat → ByteArray → Bool → Int → ByteArray → Int → Int → List (S54) → Int → Int → ByteArray → Option (Bool)
 | 0, _, _, _, _, _, _, _, _, _, _ => none
 | k + 1, x2, x30, x361000, x361001, x361002, x361003, x361004, x362000, x362001, x362002 => if x30 = true then (some true) else ((rowcode_Key.f k x361000 x361001 x361002 x361003 x361004 x362000 x362001 x362002).bind fun bt364 => ((rowcode_ReadKey.f k x361000 x361001 x361002 x361003 x361004 x2).bind fun bt366 => ((haulageref08_Table.f k x361000 x361001 x361002 x361003 x361004).bind fun t371 => (if t371 = true then ((haulageref12_ReadKey.f k x361000 x361001 x361002 x361003 x361004 x2).bind fun bt372 => (if (!(bt366.1 == bt372.1) || (!(bt366.2.1 == bt372.2.1) || (!(bt366.2.2.1.toList == bt372.2.2.1.toList)))) = true then (haulagelaw12_RowcodeKeys.j1 k bt364.1 bt364.2 true x361000 x361001 x361002 x361003 x361004 x362000 x362001 x362002) else (haulagelaw12_RowcodeKeys.j1 k bt364.1 bt364.2 (bt366.2.2.2 != bt372.2.2.2) x361000 x361001 x361002 x361003 x361004 x362000 x362001 x362002))) else (if bt364.1.toList = ([] : List UInt8) then (if bt364.2 = 2 then (if (bt366.1 == 0 && (bt366.2.1 == 0 && (bt366.2.2.1.toList == ([] : List UInt8)))) = true then (some (bt366.2.2.2 == 2)) else (some false)) else (some false)) else (some false))))))
def haulagelaw12_RowcodeKeys.j1 : Nat → ByteArray → Int → Bool → Int → ByteArray → Int → Int → List (S54) → Int → Int → ByteArray → Option (Bool)
 | 0, _, _, _, _, _, _, _, _, _, _, _ => none
 | k + 1, x7, x8, x74, x361000, x361001, x361002, x361003, x361004, x362000, x362001, x362002 => if x74 = true then (some false) else ((haulageref08_Key.f k x361000 x361001 x361002 x361003 x361004).bind fun t377 => (if 0 ≤ t377 then (if t377 < (x361004.length : Int) then ((haulageref06_Fits.f k ((rd_T54 x361004 t377).f2.f0) ((rd_T54 x361004 t377).f2.f1) x362000 x362001 x362002).bind fun t379 => (if t379 = true then ((rowcode_ReadKey.f k x361000 x361001 x361002 x361003 x361004 x7).bind fun bt380 => ((haulageref12_One.f k x362000 x362001 x362002).bind fun t385 => (if x7.toList = t385.toList then (if x8 = 0 then (if (bt380.1 == x362000 && (bt380.2.1 == x362001 && (bt380.2.2.1.toList == x362002.toList))) = true then (some (bt380.2.2.2 == 0)) else (some false)) else (some false)) else (some false)))) else (if x7.toList = ([] : List UInt8) then (some (x8 == 10)) else (some false)))) else (none)) else (none)))
end
def haulagelaw12_RowcodeKeys.f (k : Nat) (a0_0 : Int) (a0_1 : ByteArray) (a0_2 : Int) (a0_3 : Int) (l0_4 : List (S54)) (a1_0 : Int) (a1_1 : Int) (a1_2 : ByteArray) (a2 : ByteArray) : Option (Bool) := (haulagelaw12_lives.f k).bind fun t362 => (if t362 = true then ((haulagelaw08_Few.f k a0_0 a0_1 a0_2 a0_3 l0_4).bind fun t363 => (if t363 = true then (if (a1_2.size : Int) > 300 then (haulagelaw12_RowcodeKeys.j0 k a2 true a0_0 a0_1 a0_2 a0_3 l0_4 a1_0 a1_1 a1_2) else (haulagelaw12_RowcodeKeys.j0 k a2 (decide ((a2.size : Int) > 500)) a0_0 a0_1 a0_2 a0_3 l0_4 a1_0 a1_1 a1_2)) else (haulagelaw12_RowcodeKeys.j0 k a2 true a0_0 a0_1 a0_2 a0_3 l0_4 a1_0 a1_1 a1_2))) else (some false))
theorem haulagelaw12_RowcodeKeys.mono_l : ∀ k, (∀ y0 y1 y2 y3 y4 y5 y6 y7 y8 y9, LeO (haulagelaw12_RowcodeKeys.j0 k y0 y1 y2 y3 y4 y5 y6 y7 y8 y9) (haulagelaw12_RowcodeKeys.j0 (k + 1) y0 y1 y2 y3 y4 y5 y6 y7 y8 y9)) ∧ (∀ y0 y1 y2 y3 y4 y5 y6 y7 y8 y9 y10, LeO (haulagelaw12_RowcodeKeys.j1 k y0 y1 y2 y3 y4 y5 y6 y7 y8 y9 y10) (haulagelaw12_RowcodeKeys.j1 (k + 1) y0 y1 y2 y3 y4 y5 y6 y7 y8 y9 y10))
 | 0 => by refine ⟨?_, ?_⟩ <;> intros <;> exact LeO.none _
 | k + 1 => by
  obtain ⟨ih0, ih1⟩ := haulagelaw12_RowcodeKeys.mono_l k
  refine ⟨?_, ?_⟩ <;> intros <;> first | unfold haulagelaw12_RowcodeKeys.j0 | unfold haulagelaw12_RowcodeKeys.j1
  all_goals repeat' first | with_reducible (first | exact ih0 .. | exact ih1 .. | exact haulagelaw08_Few.mono .. | exact haulagelaw12_lives.mono .. | exact haulageref06_Fits.mono .. | exact haulageref08_Key.mono .. | exact haulageref08_Table.mono .. | exact haulageref12_One.mono .. | exact haulageref12_ReadKey.mono .. | exact rowcode_Key.mono .. | exact rowcode_ReadKey.mono .. | exact LeO.refl .. | exact LeO.none .. | refine LeO.ite ?_ ?_ | refine LeO.bind ?_ (fun _ => ?_)) | exact ih0 .. | exact ih1 .. | exact haulagelaw08_Few.mono .. | exact haulagelaw12_lives.mono .. | exact haulageref06_Fits.mono .. | exact haulageref08_Key.mono .. | exact haulageref08_Table.mono .. | exact haulageref12_One.mono .. | exact haulageref12_ReadKey.mono .. | exact rowcode_Key.mono .. | exact rowcode_ReadKey.mono .. | exact LeO.none .. | refine LeO.ite ?_ ?_ | refine LeO.bind ?_ (fun _ => ?_)
theorem haulagelaw12_RowcodeKeys.mono : ∀ a0 a1 a2 a3 a4 a5 a6 a7 a8 k, LeO (haulagelaw12_RowcodeKeys.f k a0 a1 a2 a3 a4 a5 a6 a7 a8) (haulagelaw12_RowcodeKeys.f (k + 1) a0 a1 a2 a3 a4 a5 a6 a7 a8) := by
 intro a0 a1 a2 a3 a4 a5 a6 a7 a8 k
 obtain ⟨ih0, ih1⟩ := haulagelaw12_RowcodeKeys.mono_l k
 unfold haulagelaw12_RowcodeKeys.f
 repeat' first | with_reducible (first | exact ih0 .. | exact ih1 .. | exact haulagelaw08_Few.mono .. | exact haulagelaw12_lives.mono .. | exact haulageref06_Fits.mono .. | exact haulageref08_Key.mono .. | exact haulageref08_Table.mono .. | exact haulageref12_One.mono .. | exact haulageref12_ReadKey.mono .. | exact rowcode_Key.mono .. | exact rowcode_ReadKey.mono .. | exact LeO.refl .. | exact LeO.none .. | refine LeO.ite ?_ ?_ | refine LeO.bind ?_ (fun _ => ?_)) | exact ih0 .. | exact ih1 .. | exact haulagelaw08_Few.mono .. | exact haulagelaw12_lives.mono .. | exact haulageref06_Fits.mono .. | exact haulageref08_Key.mono .. | exact haulageref08_Table.mono .. | exact haulageref12_One.mono .. | exact haulageref12_ReadKey.mono .. | exact rowcode_Key.mono .. | exact rowcode_ReadKey.mono .. | exact LeO.none .. | refine LeO.ite ?_ ?_ | refine LeO.bind ?_ (fun _ => ?_)
def haulagelaw12_RowcodeKeys.T12 : Bool × List (List Nat × List Nat) := (true, [([], []), ([0], [0]), ([], []), ([2], [2]), ([1, 3], [1, 3]), ([4], [4]), ([5], [5]), ([], []), ([6, 7, 3], [6, 7]), ([8], [8])])
def haulagelaw12_RowcodeKeys.B12 : List Nat := [0, 1, 0, 4, 15, 31, 63, 0, 255, 511]
theorem haulagelaw12_RowcodeKeys.tab12 : rtab .any (opsOf Tryd.f12 12) = haulagelaw12_RowcodeKeys.T12 := by kernel_rfl
theorem haulagelaw12_RowcodeKeys.bits12 : waitsOk haulagelaw12_RowcodeKeys.T12.2 haulagelaw12_RowcodeKeys.B12 = true := by kernel_rfl
set_option maxHeartbeats 8000000 in
set_option maxRecDepth 100000 in
theorem haulagelaw12_RowcodeKeys.calls (k : Nat) (a0_0 : Int) (a0_1 : ByteArray) (a0_2 : Int) (a0_3 : Int) (A0_4 : Option Addr) (c0_4 : Nat) (l0_4 : List (S54)) (a1_0 : Int) (a1_1 : Int) (a1_2 : ByteArray) (a2 : ByteArray) (r : Bool) (w : World) (hr0_4 : Kd.C k54 w A0_4 l0_4.length l0_4) (hc0_4 : l0_4.length ≤ c0_4) (hG : Glob w) (h : haulagelaw12_RowcodeKeys.f k a0_0 a0_1 a0_2 a0_3 l0_4 a1_0 a1_1 a1_2 a2 = some r) :
  Calls Tryd.prog 12 #[.agg #[.int .i64 a0_0, .string a0_1, .int .i64 a0_2, .int .i64 a0_3, .slice A0_4 l0_4.length c0_4], .agg #[.int .i64 a1_0, .int .i64 a1_1, .string a1_2], .string a2] w fun e w' => e = .returned (.bool r) ∧ Below w.heap.size w w' := by
 have hu24 := Tryd.underlying24
 have hu52 := Tryd.underlying52
 have hu50 := Tryd.underlying50
 have HR0_4 := aM hr0_4
 have HC0_4 := aM hc0_4
 clear hr0_4 hc0_4
 have HG := aM hG
 clear hG
 have HB := aM (Below.refl w.heap.size w)
 have H : ((haulagelaw12_lives.f k).bind fun t362 => (if t362 = true then ((haulagelaw08_Few.f k a0_0 a0_1 a0_2 a0_3 l0_4).bind fun t363 => (if t363 = true then (if (a1_2.size : Int) > 300 then (haulagelaw12_RowcodeKeys.j0 k a2 true a0_0 a0_1 a0_2 a0_3 l0_4 a1_0 a1_1 a1_2) else (haulagelaw12_RowcodeKeys.j0 k a2 (decide ((a2.size : Int) > 500)) a0_0 a0_1 a0_2 a0_3 l0_4 a1_0 a1_1 a1_2)) else (haulagelaw12_RowcodeKeys.j0 k a2 true a0_0 a0_1 a0_2 a0_3 l0_4 a1_0 a1_1 a1_2))) else (some false))) = some r := h
 clear h
 obtain ⟨t362, A4, H⟩ := yb H
 by_cases c5 : t362 = true
 ·
  subst c5
  replace H := yt H
  have HC6 := aM H
  clear H
  go_enter Tryd.func12, Tryd.ntmps12
  go_upto_region 3 with (first | ((with_reducible refine gate_dst (N := 3) rfl ?_); (try (refine gate_guard (by rfl) ?_; dsimp only)); refine yX (N := 3) (cs := #[.int .i64 a0_0, .string a0_1, .int .i64 a0_2, .int .i64 a0_3, .slice A0_4 l0_4.length c0_4]) (t := 24) ?_; intro gb360 hg w7 hbox hb; have BK360 := aM (hbox); have GW360 := yZ hg (yB HB); have GE360 := yZ hg (yB HB); replace HB := aM (bP (yB HB) hb); clear hb hbox hg) | ((with_reducible refine gate_dst (N := 4) rfl ?_); (try (refine gate_guard (by rfl) ?_; dsimp only)); refine yX (N := 4) (cs := #[.int .i64 a1_0, .int .i64 a1_1, .string a1_2]) (t := 52) ?_; intro gb361 hg w8 hbox hb; have BK361 := aM (hbox); have GW361 := yZ hg (yG1 HB GE360.out); have GE361 := yZ hg (yG1 HB GE360.out); replace HB := aM (bP (yG1 HB GE360.out) hb); have NB360_361 := yN hg (yK BK360); have NB361_360 := yM hg (yK BK360); replace BK360 := aM (kB (yK BK360) hb); clear hb hbox hg) | ((with_reducible refine gate_callee (f := 13) rfl ?_); refine yC 15 Tryd.func13 #[] rfl ?_; (with_reducible refine (haulagelaw12_lives.calls k  true _ ?side1 A4.out).mono ?_); (case side1 => first | (with_reducible exact HG.out) | exact Glob.below HG.out (yG2 HB GE360.out GE361.out)); rintro e w9 ⟨rfl, hb⟩; refine ⟨_, rfl, ?_⟩; replace BK360 := aM (kB (yK BK360) hb); replace BK361 := aM (kB (yK BK361) hb); replace HB := aM (bP (yG2 HB GE360.out GE361.out) hb); (try clear hb)))
  (try simp only [Act.put, s1_, s2_, s3_])
  go_cut [30] (fun v30 wc => ∃ (kq : Nat) (x30_5 : Bool), v30 = .bool x30_5 ∧ Aside0 (haulagelaw12_RowcodeKeys.j0 kq a2 x30_5 a0_0 a0_1 a0_2 a0_3 l0_4 a1_0 a1_1 a1_2 = some r) ∧ Aside0 (kq ≤ k) ∧ Aside0 (wc.heap[gb360]? = some (.cells #[.int .i64 a0_0, .string a0_1, .int .i64 a0_2, .int .i64 a0_3, (.slice A0_4 l0_4.length c0_4)] 24 (0, 0))) ∧ Aside0 (wc.heap[gb361]? = some (.cells #[.int .i64 a1_0, .int .i64 a1_1, .string a1_2] 52 (0, 0))) ∧ Aside0 (Below w.heap.size w wc))
  case first =>
   have H := HC6.out
   clear HC6
   obtain ⟨t363, A10, H⟩ := yb H
   by_cases c11 : t363 = true
   ·
    subst c11
    replace H := yt H
    by_cases c12 : (a1_2.size : Int) > 300
    ·
     rw [if_pos c12] at H
     have c12b0 : decide (300 < (a1_2.size : Int)) = true := decide_eq_true c12
     have c12b1 : decide (300 < a1_2.size) = true := decide_eq_true (by omega)
     clear c12
     (first | rw [c12b0] | (simp only [i64_w, i32_w]; rw [c12b0]) | skip)
     have H' := aM H
     clear H
     have hnb13 := NB360_361.out
     have hnc13 := NB361_360.out
     obtain ⟨hcz14_0, hcz14_1, hcz14_2, hcz14_3, hcz14_4, hfz14_0, hfz14_1, hfz14_2, hfz14_3, hfz14_4⟩ := cells5 BK360.out
     go_wp2_with (first | ((with_reducible refine gate_callee (f := 14) rfl ?_); refine yC 18 Tryd.func14 #[.agg #[.int .i64 a0_0, .string a0_1, .int .i64 a0_2, .int .i64 a0_3, .slice A0_4 l0_4.length c0_4]] rfl ?_; (with_reducible refine (haulagelaw08_Few.calls k a0_0 a0_1 a0_2 a0_3 _ _ l0_4 true _ ?side1 ?side2 A10.out).mono ?_); (case side1 => exact yW (Kd.C_below HR0_4.out HB.out)); (case side2 => exact HC0_4.out); rintro e w15 ⟨rfl, hb⟩; refine ⟨_, rfl, ?_⟩; replace BK360 := aM (kB (yK BK360) hb); replace BK361 := aM (kB (yK BK361) hb); replace HB := aM (bP (yG2 HB GE360.out GE361.out) hb); (try clear hb); obtain ⟨hcz16_0, hcz16_1, hcz16_2, hfz16_0, hfz16_1, hfz16_2⟩ := cells3 BK361.out))
     go_meet
     case rel => exact ⟨_, (true), yS, H', ⟨yO⟩, ⟨yK BK360⟩, ⟨yK BK361⟩, ⟨yG2 HB GE360.out GE361.out⟩⟩
    ·
     rw [if_neg c12] at H
     have c12b0 : decide (300 < (a1_2.size : Int)) = false := decide_eq_false c12
     have c12b1 : decide (300 < a1_2.size) = false := decide_eq_false (by omega)
     clear c12
     (first | rw [c12b0] | (simp only [i64_w, i32_w]; rw [c12b0]) | skip)
     have H' := aM H
     clear H
     have hnb17 := NB360_361.out
     have hnc17 := NB361_360.out
     obtain ⟨hcz18_0, hcz18_1, hcz18_2, hcz18_3, hcz18_4, hfz18_0, hfz18_1, hfz18_2, hfz18_3, hfz18_4⟩ := cells5 BK360.out
     go_wp2_with (first | ((with_reducible refine gate_callee (f := 14) rfl ?_); refine yC 18 Tryd.func14 #[.agg #[.int .i64 a0_0, .string a0_1, .int .i64 a0_2, .int .i64 a0_3, .slice A0_4 l0_4.length c0_4]] rfl ?_; (with_reducible refine (haulagelaw08_Few.calls k a0_0 a0_1 a0_2 a0_3 _ _ l0_4 true _ ?side1 ?side2 A10.out).mono ?_); (case side1 => exact yW (Kd.C_below HR0_4.out HB.out)); (case side2 => exact HC0_4.out); rintro e w19 ⟨rfl, hb⟩; refine ⟨_, rfl, ?_⟩; replace BK360 := aM (kB (yK BK360) hb); replace BK361 := aM (kB (yK BK361) hb); replace HB := aM (bP (yG2 HB GE360.out GE361.out) hb); (try clear hb); obtain ⟨hcz20_0, hcz20_1, hcz20_2, hfz20_0, hfz20_1, hfz20_2⟩ := cells3 BK361.out))
     go_meet
     case rel => exact ⟨_, (decide ((a2.size : Int) > 500)), yS, H', ⟨yO⟩, ⟨yK BK360⟩, ⟨yK BK361⟩, ⟨yG2 HB GE360.out GE361.out⟩⟩
   ·
    replace c11 := Bool.eq_false_iff.mpr c11
    subst c11
    replace H := yf H
    have H' := aM H
    clear H
    have hnb21 := NB360_361.out
    have hnc21 := NB361_360.out
    obtain ⟨hcz22_0, hcz22_1, hcz22_2, hcz22_3, hcz22_4, hfz22_0, hfz22_1, hfz22_2, hfz22_3, hfz22_4⟩ := cells5 BK360.out
    go_wp2_with (first | ((with_reducible refine gate_callee (f := 14) rfl ?_); refine yC 18 Tryd.func14 #[.agg #[.int .i64 a0_0, .string a0_1, .int .i64 a0_2, .int .i64 a0_3, .slice A0_4 l0_4.length c0_4]] rfl ?_; (with_reducible refine (haulagelaw08_Few.calls k a0_0 a0_1 a0_2 a0_3 _ _ l0_4 false _ ?side1 ?side2 A10.out).mono ?_); (case side1 => exact yW (Kd.C_below HR0_4.out HB.out)); (case side2 => exact HC0_4.out); rintro e w23 ⟨rfl, hb⟩; refine ⟨_, rfl, ?_⟩; replace BK360 := aM (kB (yK BK360) hb); replace BK361 := aM (kB (yK BK361) hb); replace HB := aM (bP (yG2 HB GE360.out GE361.out) hb); (try clear hb)))
    go_meet
    case rel => exact ⟨_, (true), yS, H', ⟨yO⟩, ⟨yK BK360⟩, ⟨yK BK361⟩, ⟨yG2 HB GE360.out GE361.out⟩⟩
  case rest =>
   clear HC6
   try clear c5
   obtain ⟨kq, x30_5, rfl, HA, HJ5, BK360, BK361, HB⟩ := hcut
   cases kq with
   | zero => exact absurd HA.out (by simp [haulagelaw12_RowcodeKeys.j0])
   | succ kj5 =>
    have H := HA.out
    clear HA
    simp only [haulagelaw12_RowcodeKeys.j0] at H
    by_cases c24 : x30_5 = true
    ·
     subst c24
     replace H := yt H
     obtain rfl := Option.some.inj H
     go_wp2
     go_ret
     exact ⟨yE, yG2 HB GE360.out GE361.out⟩
    ·
     replace c24 := Bool.eq_false_iff.mpr c24
     subst c24
     replace H := yf H
     obtain ⟨⟨t364, t365⟩, A25, H⟩ := yb H
     try dsimp -simprocs only at H
     obtain ⟨⟨t366, t367, t368, t369⟩, A26, H⟩ := yb H
     try dsimp -simprocs only at H
     obtain ⟨t371, A27, H⟩ := yb H
     by_cases c28 : t371 = true
     ·
      subst c28
      replace H := yt H
      obtain ⟨⟨t372, t373, t374, t375⟩, A29, H⟩ := yb H
      try dsimp -simprocs only at H
      have HC30 := aM H
      clear H
      have hnb31 := NB360_361.out
      have hnc31 := NB361_360.out
      obtain ⟨hcz32_0, hcz32_1, hcz32_2, hcz32_3, hcz32_4, hfz32_0, hfz32_1, hfz32_2, hfz32_3, hfz32_4⟩ := cells5 BK360.out
      obtain ⟨hcz33_0, hcz33_1, hcz33_2, hfz33_0, hfz33_1, hfz33_2⟩ := cells3 BK361.out
      go_upto_region 10 with (first | ((with_reducible refine gate_callee (f := 54) rfl ?_); refine yC 34 Tryd.func54 #[.agg #[.int .i64 a0_0, .string a0_1, .int .i64 a0_2, .int .i64 a0_3, .slice A0_4 l0_4.length c0_4], .agg #[.int .i64 a1_0, .int .i64 a1_1, .string a1_2]] rfl ?_; (with_reducible refine (rowcode_Key.calls kj5 a0_0 a0_1 a0_2 a0_3 _ _ l0_4 a1_0 a1_1 a1_2 t364 t365 _ ?side1 ?side2 ?side3 A25.out).mono ?_); (case side1 => exact yW (Kd.C_below HR0_4.out HB.out)); (case side2 => exact HC0_4.out); (case side3 => first | (with_reducible exact HG.out) | exact Glob.below HG.out (yG2 HB GE360.out GE361.out)); rintro e w34 ⟨rfl, hb⟩; refine ⟨_, rfl, ?_⟩; replace BK360 := aM (kB (yK BK360) hb); replace BK361 := aM (kB (yK BK361) hb); replace HB := aM (bP (yG2 HB GE360.out GE361.out) hb); (try clear hb); obtain ⟨hcz35_0, hcz35_1, hcz35_2, hcz35_3, hcz35_4, hfz35_0, hfz35_1, hfz35_2, hfz35_3, hfz35_4⟩ := cells5 BK360.out) | ((with_reducible refine gate_callee (f := 55) rfl ?_); refine yC 40 Tryd.func55 #[.agg #[.int .i64 a0_0, .string a0_1, .int .i64 a0_2, .int .i64 a0_3, .slice A0_4 l0_4.length c0_4], .string a2] rfl ?_; (with_reducible refine (rowcode_ReadKey.calls kj5 a0_0 a0_1 a0_2 a0_3 _ _ l0_4 a2 t366 t367 t368 t369 _ ?side1 ?side2 ?side3 A26.out).mono ?_); (case side1 => exact yW (Kd.C_below HR0_4.out HB.out)); (case side2 => exact HC0_4.out); (case side3 => first | (with_reducible exact HG.out) | exact Glob.below HG.out (yG2 HB GE360.out GE361.out)); rintro e w36 ⟨rfl, hb⟩; refine ⟨_, rfl, ?_⟩; replace BK360 := aM (kB (yK BK360) hb); replace BK361 := aM (kB (yK BK361) hb); replace HB := aM (bP (yG2 HB GE360.out GE361.out) hb); (try clear hb)) | ((with_reducible refine gate_dst (N := 9) rfl ?_); (try (refine gate_guard (by rfl) ?_; dsimp only)); refine yX (N := 9) (cs := #[.int .i64 0, .int .i64 0, .string (⟨#[]⟩ : ByteArray)]) (t := 52) ?_; intro gb370 hg w37 hbox hb; have BK370 := aM (hbox); have GW370 := yZ hg (yG2 HB GE360.out GE361.out); have GE370 := yZ hg (yG2 HB GE360.out GE361.out); replace HB := aM (bP (yG2 HB GE360.out GE361.out) hb); have NB360_370 := yN hg (yK BK360); have NB370_360 := yM hg (yK BK360); replace BK360 := aM (kB (yK BK360) hb); have NB361_370 := yN hg (yK BK361); have NB370_361 := yM hg (yK BK361); replace BK361 := aM (kB (yK BK361) hb); clear hb hbox hg; have hnb38 := NB370_360.out; have hnc38 := NB360_370.out; have hnb39 := NB370_361.out; have hnc39 := NB361_370.out; obtain ⟨hcz40_0, hcz40_1, hcz40_2, hfz40_0, hfz40_1, hfz40_2⟩ := cells3 BK370.out; obtain ⟨hcz41_0, hcz41_1, hcz41_2, hcz41_3, hcz41_4, hfz41_0, hfz41_1, hfz41_2, hfz41_3, hfz41_4⟩ := cells5 BK360.out) | ((with_reducible refine gate_callee (f := 27) rfl ?_); refine yC 44 Tryd.func27 #[.agg #[.int .i64 a0_0, .string a0_1, .int .i64 a0_2, .int .i64 a0_3, .slice A0_4 l0_4.length c0_4]] rfl ?_; (with_reducible refine (haulageref08_Table.calls kj5 a0_0 a0_1 a0_2 a0_3 _ _ l0_4 true _ ?side1 ?side2 A27.out).mono ?_); (case side1 => exact Kd.C_below HR0_4.out (yG3 HB GE360.out GE361.out GE370.out)); (case side2 => exact HC0_4.out); rintro e w42 ⟨rfl, hb⟩; refine ⟨_, rfl, ?_⟩; replace BK360 := aM (kB (yF1 BK360 NB360_370.out) hb); replace BK361 := aM (kB (yF1 BK361 NB361_370.out) hb); replace BK370 := aM (kB (puts3 BK370.out) hb); replace HB := aM (bP (yG3 HB GE360.out GE361.out GE370.out) hb); (try clear hb); obtain ⟨hcz43_0, hcz43_1, hcz43_2, hcz43_3, hcz43_4, hfz43_0, hfz43_1, hfz43_2, hfz43_3, hfz43_4⟩ := cells5 BK360.out) | ((with_reducible refine gate_callee (f := 56) rfl ?_); refine yC 64 Tryd.func56 #[.agg #[.int .i64 a0_0, .string a0_1, .int .i64 a0_2, .int .i64 a0_3, .slice A0_4 l0_4.length c0_4], .string a2] rfl ?_; (with_reducible refine (haulageref12_ReadKey.calls kj5 a0_0 a0_1 a0_2 a0_3 _ _ l0_4 a2 t372 t373 t374 t375 _ ?side1 ?side2 A29.out).mono ?_); (case side1 => exact yW (Kd.C_below HR0_4.out HB.out)); (case side2 => exact HC0_4.out); rintro e w44 ⟨rfl, hb⟩; refine ⟨_, rfl, ?_⟩; replace BK360 := aM (kB (yK BK360) hb); replace BK361 := aM (kB (yK BK361) hb); replace BK370 := aM (kB (yK BK370) hb); replace HB := aM (bP (yG3 HB GE360.out GE361.out GE370.out) hb); (try clear hb)) | ((with_reducible refine gate_dst (N := 11) rfl ?_); (try (refine gate_guard (by rfl) ?_; dsimp only)); refine yX (N := 11) (cs := #[.int .i64 0, .int .i64 0, .string (⟨#[]⟩ : ByteArray)]) (t := 52) ?_; intro gb376 hg w45 hbox hb; have BK376 := aM (hbox); have GW376 := yZ hg (yG3 HB GE360.out GE361.out GE370.out); have GE376 := yZ hg (yG3 HB GE360.out GE361.out GE370.out); replace HB := aM (bP (yG3 HB GE360.out GE361.out GE370.out) hb); have NB360_376 := yN hg (yK BK360); have NB376_360 := yM hg (yK BK360); replace BK360 := aM (kB (yK BK360) hb); have NB361_376 := yN hg (yK BK361); have NB376_361 := yM hg (yK BK361); replace BK361 := aM (kB (yK BK361) hb); have NB370_376 := yN hg (yK BK370); have NB376_370 := yM hg (yK BK370); replace BK370 := aM (kB (yK BK370) hb); clear hb hbox hg; have hnb46 := NB376_360.out; have hnc46 := NB360_376.out; have hnb47 := NB376_361.out; have hnc47 := NB361_376.out; have hnb48 := NB376_370.out; have hnc48 := NB370_376.out; obtain ⟨hcz49_0, hcz49_1, hcz49_2, hfz49_0, hfz49_1, hfz49_2⟩ := cells3 BK376.out))
      (try simp only [Act.put, s1_, s2_, s3_])
      go_cut [74] (fun v74 wc => ∃ (kq : Nat) (x74_29 : Bool), v74 = .bool x74_29 ∧ Aside0 (haulagelaw12_RowcodeKeys.j1 kq t364 t365 x74_29 a0_0 a0_1 a0_2 a0_3 l0_4 a1_0 a1_1 a1_2 = some r) ∧ Aside0 (kq ≤ kj5) ∧ Aside0 (wc.heap[gb360]? = some (.cells #[.int .i64 a0_0, .string a0_1, .int .i64 a0_2, .int .i64 a0_3, (.slice A0_4 l0_4.length c0_4)] 24 (0, 0))) ∧ Aside0 (wc.heap[gb361]? = some (.cells #[.int .i64 a1_0, .int .i64 a1_1, .string a1_2] 52 (0, 0))) ∧ Aside0 (wc.heap[gb370]? = some (.cells #[.int .i64 t366, .int .i64 t367, .string t368] 52 (0, 0))) ∧ Aside0 (wc.heap[gb376]? = some (.cells #[.int .i64 t372, .int .i64 t373, .string t374] 52 (0, 0))) ∧ Aside0 (Below w.heap.size w wc))
      case first =>
       have H := HC30.out
       clear HC30
       by_cases c50 : (!(t366 == t372) || (!(t367 == t373) || (!(t368.toList == t374.toList)))) = true
       ·
        rw [if_pos c50] at H
        have c50b0 : (!(t366 == t372) || (!(t367 == t373) || (!(t368.toList == t374.toList)))) = true := c50
        clear c50
        (first | rw [c50b0] | (simp only [i64_w, i32_w]; rw [c50b0]) | skip)
        have H' := aM H
        clear H
        have hnb51 := NB370_360.out
        have hnc51 := NB360_370.out
        have hnb52 := NB370_361.out
        have hnc52 := NB361_370.out
        have hnb53 := NB370_376.out
        have hnc53 := NB376_370.out
        obtain ⟨hcz54_0, hcz54_1, hcz54_2, hfz54_0, hfz54_1, hfz54_2⟩ := cells3 BK370.out
        have hnb55 := NB376_360.out
        have hnc55 := NB360_376.out
        have hnb56 := NB376_361.out
        have hnc56 := NB361_376.out
        obtain ⟨hcz57_0, hcz57_1, hcz57_2, hfz57_0, hfz57_1, hfz57_2⟩ := cells3 BK376.out
        go_wp2
        go_meet
        case rel => exact ⟨_, (true), yS, H', ⟨by have := HJ5.out; first | omega | exact Nat.le_refl _⟩, ⟨yF1 BK360 NB360_376.out⟩, ⟨yF1 BK361 NB361_376.out⟩, ⟨yF1 BK370 NB370_376.out⟩, ⟨puts3 BK376.out⟩, ⟨yG4 HB GE360.out GE361.out GE370.out GE376.out⟩⟩
       ·
        rw [if_neg c50] at H
        have c50b0 : (!(t366 == t372) || (!(t367 == t373) || (!(t368.toList == t374.toList)))) = false := by simpa using c50
        clear c50
        (first | rw [c50b0] | (simp only [i64_w, i32_w]; rw [c50b0]) | skip)
        have H' := aM H
        clear H
        have hnb58 := NB370_360.out
        have hnc58 := NB360_370.out
        have hnb59 := NB370_361.out
        have hnc59 := NB361_370.out
        have hnb60 := NB370_376.out
        have hnc60 := NB376_370.out
        obtain ⟨hcz61_0, hcz61_1, hcz61_2, hfz61_0, hfz61_1, hfz61_2⟩ := cells3 BK370.out
        have hnb62 := NB376_360.out
        have hnc62 := NB360_376.out
        have hnb63 := NB376_361.out
        have hnc63 := NB361_376.out
        obtain ⟨hcz64_0, hcz64_1, hcz64_2, hfz64_0, hfz64_1, hfz64_2⟩ := cells3 BK376.out
        go_wp2
        go_meet
        case rel => exact ⟨_, ((t369 != t375)), yS, H', ⟨by have := HJ5.out; first | omega | exact Nat.le_refl _⟩, ⟨yF1 BK360 NB360_376.out⟩, ⟨yF1 BK361 NB361_376.out⟩, ⟨yF1 BK370 NB370_376.out⟩, ⟨puts3 BK376.out⟩, ⟨yG4 HB GE360.out GE361.out GE370.out GE376.out⟩⟩
      case rest =>
       clear HC30
       try clear c5
       try clear c24
       try clear c28
       try clear hcz32_0 hcz32_1 hcz32_2 hcz32_3 hcz32_4
       try clear hcz33_0 hcz33_1 hcz33_2
       try clear hcz35_0 hcz35_1 hcz35_2 hcz35_3 hcz35_4
       try clear hcz40_0 hcz40_1 hcz40_2
       try clear hcz41_0 hcz41_1 hcz41_2 hcz41_3 hcz41_4
       try clear hcz43_0 hcz43_1 hcz43_2 hcz43_3 hcz43_4
       try clear hcz49_0 hcz49_1 hcz49_2
       try clear hfz32_0 hfz32_1 hfz32_2 hfz32_3 hfz32_4
       try clear hfz33_0 hfz33_1 hfz33_2
       try clear hfz35_0 hfz35_1 hfz35_2 hfz35_3 hfz35_4
       try clear hfz40_0 hfz40_1 hfz40_2
       try clear hfz41_0 hfz41_1 hfz41_2 hfz41_3 hfz41_4
       try clear hfz43_0 hfz43_1 hfz43_2 hfz43_3 hfz43_4
       try clear hfz49_0 hfz49_1 hfz49_2
       obtain ⟨kq, x74_29, rfl, HA, HJ29, BK360, BK361, BK370, BK376, HB⟩ := hcut
       cases kq with
       | zero => exact absurd HA.out (by simp [haulagelaw12_RowcodeKeys.j1])
       | succ kj29 =>
        have H := HA.out
        clear HA
        simp only [haulagelaw12_RowcodeKeys.j1] at H
        by_cases c65 : x74_29 = true
        ·
         subst c65
         replace H := yt H
         obtain rfl := Option.some.inj H
         go_wp2
         go_ret
         exact ⟨yE, yG4 HB GE360.out GE361.out GE370.out GE376.out⟩
        ·
         replace c65 := Bool.eq_false_iff.mpr c65
         subst c65
         replace H := yf H
         obtain ⟨t377, A66, H⟩ := yb H
         by_cases c67 : 0 ≤ t377
         ·
          rw [if_pos c67] at H
          have c67b0 : decide (0 ≤ t377) = true := decide_eq_true c67
          clear c67
          by_cases c68 : t377 < (l0_4.length : Int)
          ·
           rw [if_pos c68] at H
           have c68b0 : decide (t377 < (l0_4.length : Int)) = true := decide_eq_true c68
           clear c68
           obtain ⟨t379, A69, H⟩ := yb H
           by_cases c70 : t379 = true
           ·
            subst c70
            replace H := yt H
            obtain ⟨⟨t380, t381, t382, t383⟩, A71, H⟩ := yb H
            try dsimp -simprocs only at H
            obtain ⟨t385, A72, H⟩ := yb H
            by_cases c73 : t364.toList = t385.toList
            ·
             rw [if_pos c73] at H
             have c73b0 : (t364.toList == t385.toList) = true := beq_iff_eq.mpr c73
             have c73b1 : (t364.toList != t385.toList) = false := bne_eq_false_iff_eq.mpr c73
             clear c73
             by_cases c74 : t365 = 0
             ·
              rw [if_pos c74] at H
              have c74b0 : (t365 == 0) = true := beq_iff_eq.mpr c74
              have c74b1 : (t365 != 0) = false := bne_eq_false_iff_eq.mpr c74
              clear c74
              by_cases c75 : (t380 == a1_0 && (t381 == a1_1 && (t382.toList == a1_2.toList))) = true
              ·
               rw [if_pos c75] at H
               have c75b0 : (t380 == a1_0 && (t381 == a1_1 && (t382.toList == a1_2.toList))) = true := c75
               (try (have c75b1 : decide (t380 = a1_0 && (t381 == a1_1 && (t382.toList == a1_2.toList))) = true := by simpa using c75))
               (try (have c75b2 : (t380 == a1_0 && (t381 == a1_1 && (t382.toList == a1_2.toList))) = true := by simpa using c75))
               clear c75
               obtain rfl := Option.some.inj H
               try go_wp2
               have n0_ := aM (kD BK360.out)
               have n1_ := aM (kD BK361.out)
               have n2_ := aM (kD BK370.out)
               have n3_ := aM (kD BK376.out)
               have n4_ := aM (b1 HB.out)
               clear BK360
               clear BK361
               clear BK370
               clear BK376
               clear HB
               have BK360 := n0_
               have BK361 := n1_
               have BK370 := n2_
               have BK376 := n3_
               have HB := n4_
               clear n0_ n1_ n2_ n3_ n4_
               have p378 : 0 ≤ (t377 : Int) := oD yA
               have q378 : t377 < (l0_4.length : Int) := oD yA
               obtain ⟨ad378, e378, hx378_0, hx378_1, hx378_2, hx378_3, hx378_4, hx378_5, hx378_6, hx378_7⟩ := at_T54 HR0_4.out t377 p378 q378
               have hw378_7 := hx378_7
               have hw378_6 := hx378_6
               have hw378_5 := hx378_5
               have hw378_4 := hx378_4
               have hw378_3 := hx378_3
               have hw378_2 := hx378_2
               have hw378_1 := hx378_1
               have hw378_0 := hx378_0
               cases e378
               replace hx378_0 := pw_cell_below HB.out hx378_0
               replace hx378_1 := pw_cell_below HB.out hx378_1
               replace hx378_2 := pw_cell_below HB.out hx378_2
               replace hx378_3 := pw_cell_below HB.out hx378_3
               replace hx378_4 := pw_cell_below HB.out hx378_4
               replace hx378_5 := pw_cell_below HB.out hx378_5
               replace hx378_6 := pw_cell_below HB.out hx378_6
               replace hx378_7 := pw_cell_below HB.out hx378_7
               replace p378 := eq_true p378
               replace q378 := eq_true q378
               refine start_ (n := 10) (S := fun w' => w'.cell? ⟨gb360, 0, none⟩ = some (.int .i64 a0_0) ∧ w'.cell? ⟨gb360, 1, none⟩ = some (.string a0_1) ∧ w'.cell? ⟨gb360, 2, none⟩ = some (.int .i64 a0_2) ∧ w'.cell? ⟨gb360, 3, none⟩ = some (.int .i64 a0_3) ∧ w'.cell? ⟨gb360, 4, none⟩ = some (.slice (some ad378) l0_4.length c0_4) ∧ w'.cell? ⟨gb361, 0, none⟩ = some (.int .i64 a1_0) ∧ w'.cell? ⟨gb361, 1, none⟩ = some (.int .i64 a1_1) ∧ w'.cell? ⟨gb361, 2, none⟩ = some (.string a1_2) ∧ w'.cell? (ad378.add ((t377).toNat * 8)) = some (.int .i64 ((rd_T54 l0_4 t377).f0)) ∧ w'.cell? ⟨(ad378.add ((t377).toNat * 8)).block, (ad378.add ((t377).toNat * 8)).off + 1, none⟩ = some (.string ((rd_T54 l0_4 t377).f1)) ∧ w'.cell? ⟨(ad378.add ((t377).toNat * 8)).block, (ad378.add ((t377).toNat * 8)).off + 2, none⟩ = some (.int .i64 ((rd_T54 l0_4 t377).f2.f0)) ∧ w'.cell? ⟨(ad378.add ((t377).toNat * 8)).block, (ad378.add ((t377).toNat * 8)).off + 3, none⟩ = some (.int .i64 ((rd_T54 l0_4 t377).f2.f1)) ∧ w'.cell? ⟨(ad378.add ((t377).toNat * 8)).block, (ad378.add ((t377).toNat * 8)).off + 4, none⟩ = some (.bool ((rd_T54 l0_4 t377).f3)) ∧ w'.cell? ⟨(ad378.add ((t377).toNat * 8)).block, (ad378.add ((t377).toNat * 8)).off + 5, none⟩ = some (.int .i64 ((rd_T54 l0_4 t377).f4.f0)) ∧ w'.cell? ⟨(ad378.add ((t377).toNat * 8)).block, (ad378.add ((t377).toNat * 8)).off + 6, none⟩ = some (.int .i64 ((rd_T54 l0_4 t377).f4.f1)) ∧ w'.cell? ⟨(ad378.add ((t377).toNat * 8)).block, (ad378.add ((t377).toNat * 8)).off + 7, none⟩ = some (.string ((rd_T54 l0_4 t377).f4.f2))) (ds := []) (tB 0 10) (by kernel_rfl) rfl rfl ⟨yV BK360 0, yV BK360 1, yV BK360 2, yV BK360 3, yV BK360 4, yV BK361 0, yV BK361 1, yV BK361 2, (pw_cell_below HB.out hw378_0), (pw_cell_below HB.out hw378_1), (pw_cell_below HB.out hw378_2), (pw_cell_below HB.out hw378_3), (pw_cell_below HB.out hw378_4), (pw_cell_below HB.out hw378_5), (pw_cell_below HB.out hw378_6), (pw_cell_below HB.out hw378_7)⟩ (fun hHeld => ?_); refine with_tabW haulagelaw12_RowcodeKeys.tab12 haulagelaw12_RowcodeKeys.bits12 (fun HT_ HW_ => ?_)
               generalize wc.drew = w76 at BK360 BK361 BK370 BK376 HB hx378_0 hx378_1 hx378_2 hx378_3 hx378_4 hx378_5 hx378_6 hx378_7 hHeld ⊢
               refine yP HT_ 0 75 (tB 1 10) rfl rfl ?_
               refine yT HT_ HW_ 1 76 (tB 3 10) rfl rfl hHeld ?_
               refine yT HT_ HW_ 2 77 (tB 7 10) rfl rfl hHeld ?_
               refine yT HT_ HW_ 7 82 (tB 135 10) rfl rfl hHeld ?_
               refine yI HT_ 3 (tB 143 10) rfl rfl fun K hK => ?_
               refine yc Tryd.func48 #[.agg #[.int .i64 a0_0, .string a0_1, .int .i64 a0_2, .int .i64 a0_3, .slice (some ad378) l0_4.length c0_4]] rfl rfl ?_
               with_reducible refine (haulageref08_Key.calls kj29 a0_0 a0_1 a0_2 a0_3 _ _ l0_4 t377 _ ?side1 ?side2 A66.out).mono ?_
               (case side1 => exact yW (Kd.C_below HR0_4.out HB.out))
               (case side2 => exact HC0_4.out)
               rintro e w77 ⟨rfl, hb⟩
               refine ⟨_, rfl, ?_⟩
               have n0_ := aM (kB (yK BK360) hb)
               have n1_ := aM (kB (yK BK361) hb)
               have n2_ := aM (kB (yK BK370) hb)
               have n3_ := aM (kB (yK BK376) hb)
               have n4_ := aM (bP (yG4 HB GE360.out GE361.out GE370.out GE376.out) hb)
               clear BK360
               clear BK361
               clear BK370
               clear BK376
               clear HB
               have BK360 := n0_
               have BK361 := n1_
               have BK370 := n2_
               have BK376 := n3_
               have HB := n4_
               clear n0_ n1_ n2_ n3_ n4_
               (try clear hb)
               (try clear hb2)
               (try clear hk)
               (try clear hi)
               refine hK.out _ _ ⟨yV BK360 0, yV BK360 1, yV BK360 2, yV BK360 3, yV BK360 4, yV BK361 0, yV BK361 1, yV BK361 2, (pw_cell_below HB.out hw378_0), (pw_cell_below HB.out hw378_1), (pw_cell_below HB.out hw378_2), (pw_cell_below HB.out hw378_3), (pw_cell_below HB.out hw378_4), (pw_cell_below HB.out hw378_5), (pw_cell_below HB.out hw378_6), (pw_cell_below HB.out hw378_7)⟩ (fun hHeld => ?_)
               clear hK K
               refine norm_ (a' := ?_) ?_ ?_
               rotate_left
               ·
                show Act.put _ (some 78) _ = _
                simp only [Act.put, s1_, s2_, s3_, i64_w, i32_w]
                rfl
               refine yP HT_ 4 79 (tB 159 10) rfl rfl ?_
               refine yP HT_ 5 80 (tB 191 10) rfl rfl ?_
               refine yT HT_ HW_ 6 81 (tB 255 10) rfl rfl hHeld ?_
               refine yI HT_ 8 (tB 511 10) rfl rfl fun K hK => ?_
               refine yc Tryd.func57 #[.agg #[.int .i64 ((rd_T54 l0_4 t377).f2.f0), .int .i64 ((rd_T54 l0_4 t377).f2.f1)], .agg #[.int .i64 a1_0, .int .i64 a1_1, .string a1_2]] rfl rfl ?_
               with_reducible refine (haulageref06_Fits.calls kj29 ((rd_T54 l0_4 t377).f2.f0) ((rd_T54 l0_4 t377).f2.f1) a1_0 a1_1 a1_2 true _ A69.out).mono ?_
               rintro e w78 ⟨rfl, hb⟩
               refine ⟨_, rfl, ?_⟩
               have n0_ := aM (kB (yK BK360) hb)
               have n1_ := aM (kB (yK BK361) hb)
               have n2_ := aM (kB (yK BK370) hb)
               have n3_ := aM (kB (yK BK376) hb)
               have n4_ := aM (bP (yG4 HB GE360.out GE361.out GE370.out GE376.out) hb)
               clear BK360
               clear BK361
               clear BK370
               clear BK376
               clear HB
               have BK360 := n0_
               have BK361 := n1_
               have BK370 := n2_
               have BK376 := n3_
               have HB := n4_
               clear n0_ n1_ n2_ n3_ n4_
               (try clear hb)
               (try clear hb2)
               (try clear hk)
               (try clear hi)
               refine hK.out _ _ ⟨yV BK360 0, yV BK360 1, yV BK360 2, yV BK360 3, yV BK360 4, yV BK361 0, yV BK361 1, yV BK361 2, (pw_cell_below HB.out hw378_0), (pw_cell_below HB.out hw378_1), (pw_cell_below HB.out hw378_2), (pw_cell_below HB.out hw378_3), (pw_cell_below HB.out hw378_4), (pw_cell_below HB.out hw378_5), (pw_cell_below HB.out hw378_6), (pw_cell_below HB.out hw378_7)⟩ (fun hHeld => ?_)
               clear hK K
               refine norm_ (a' := ?_) ?_ ?_
               rotate_left
               ·
                show Act.put _ (some 83) _ = _
                simp only [Act.put, s1_, s2_, s3_, i64_w, i32_w]
                rfl
               refine yP HT_ 9 84 (tB 1023 10) rfl rfl ?_
               refine done_ (done_of HT_.out (by kernel_rfl)) ?_
               have hnb79 := NB360_361.out
               have hnc79 := NB361_360.out
               have hnb80 := NB360_370.out
               have hnc80 := NB370_360.out
               have hnb81 := NB360_376.out
               have hnc81 := NB376_360.out
               obtain ⟨hcz82_0, hcz82_1, hcz82_2, hcz82_3, hcz82_4, hfz82_0, hfz82_1, hfz82_2, hfz82_3, hfz82_4⟩ := cells5 BK360.out
               try go_wp2_with (first | ((with_reducible refine gate_callee (f := 55) rfl ?_); refine yC 94 Tryd.func55 #[.agg #[.int .i64 a0_0, .string a0_1, .int .i64 a0_2, .int .i64 a0_3, .slice (some ad378) l0_4.length c0_4], .string t364] rfl ?_; (with_reducible refine (rowcode_ReadKey.calls kj29 a0_0 a0_1 a0_2 a0_3 _ _ l0_4 t364 t380 t381 t382 t383 _ ?side1 ?side2 ?side3 A71.out).mono ?_); (case side1 => exact yW (Kd.C_below HR0_4.out HB.out)); (case side2 => exact HC0_4.out); (case side3 => first | (with_reducible exact HG.out) | exact Glob.below HG.out (yG4 HB GE360.out GE361.out GE370.out GE376.out)); rintro e w83 ⟨rfl, hb⟩; refine ⟨_, rfl, ?_⟩; replace BK360 := aM (kB (yK BK360) hb); replace BK361 := aM (kB (yK BK361) hb); replace BK370 := aM (kB (yK BK370) hb); replace BK376 := aM (kB (yK BK376) hb); replace HB := aM (bP (yG4 HB GE360.out GE361.out GE370.out GE376.out) hb); (try clear hb)) | ((with_reducible refine gate_dst (N := 13) rfl ?_); (try (refine gate_guard (by rfl) ?_; dsimp only)); refine yX (N := 13) (cs := #[.int .i64 0, .int .i64 0, .string (⟨#[]⟩ : ByteArray)]) (t := 52) ?_; intro gb384 hg w84 hbox hb; have BK384 := aM (hbox); have GW384 := yZ hg (yG4 HB GE360.out GE361.out GE370.out GE376.out); have GE384 := yZ hg (yG4 HB GE360.out GE361.out GE370.out GE376.out); replace HB := aM (bP (yG4 HB GE360.out GE361.out GE370.out GE376.out) hb); have NB360_384 := yN hg (yK BK360); have NB384_360 := yM hg (yK BK360); replace BK360 := aM (kB (yK BK360) hb); have NB361_384 := yN hg (yK BK361); have NB384_361 := yM hg (yK BK361); replace BK361 := aM (kB (yK BK361) hb); have NB370_384 := yN hg (yK BK370); have NB384_370 := yM hg (yK BK370); replace BK370 := aM (kB (yK BK370) hb); have NB376_384 := yN hg (yK BK376); have NB384_376 := yM hg (yK BK376); replace BK376 := aM (kB (yK BK376) hb); clear hb hbox hg; have hnb85 := NB384_360.out; have hnc85 := NB360_384.out; have hnb86 := NB384_361.out; have hnc86 := NB361_384.out; have hnb87 := NB384_370.out; have hnc87 := NB370_384.out; have hnb88 := NB384_376.out; have hnc88 := NB376_384.out; obtain ⟨hcz89_0, hcz89_1, hcz89_2, hfz89_0, hfz89_1, hfz89_2⟩ := cells3 BK384.out; have hnb90 := NB361_370.out; have hnc90 := NB370_361.out; have hnb91 := NB361_376.out; have hnc91 := NB376_361.out; obtain ⟨hcz92_0, hcz92_1, hcz92_2, hfz92_0, hfz92_1, hfz92_2⟩ := cells3 BK361.out) | ((with_reducible refine gate_callee (f := 58) rfl ?_); refine yC 99 Tryd.func58 #[.agg #[.int .i64 a1_0, .int .i64 a1_1, .string a1_2]] rfl ?_; (with_reducible refine (haulageref12_One.calls kj29 a1_0 a1_1 a1_2 t385 _ A72.out).mono ?_); rintro e w93 ⟨rfl, hb⟩; refine ⟨_, rfl, ?_⟩; replace BK360 := aM (kB (yF1 BK360 NB360_384.out) hb); replace BK361 := aM (kB (yF1 BK361 NB361_384.out) hb); replace BK370 := aM (kB (yF1 BK370 NB370_384.out) hb); replace BK376 := aM (kB (yF1 BK376 NB376_384.out) hb); replace BK384 := aM (kB (puts3 BK384.out) hb); replace HB := aM (bP (by repeat (first | (with_reducible first | exact HB.out | apply bA | apply bN | apply b1 | refine bS ?_ GE360.out | refine bS ?_ GE361.out | refine bS ?_ GE370.out | refine bS ?_ GE376.out | refine bS ?_ GE384.out) | exact HB.out)) hb); (try clear hb); obtain ⟨hcz94_0, hcz94_1, hcz94_2, hfz94_0, hfz94_1, hfz94_2⟩ := cells3 BK384.out; obtain ⟨hcz95_0, hcz95_1, hcz95_2, hfz95_0, hfz95_1, hfz95_2⟩ := cells3 BK361.out))
               go_ret
               exact ⟨yE, by repeat (first | (with_reducible first | exact HB.out | apply bA | apply bN | apply b1 | refine bS ?_ GE360.out | refine bS ?_ GE361.out | refine bS ?_ GE370.out | refine bS ?_ GE376.out | refine bS ?_ GE384.out) | exact HB.out)⟩
              ·
               rw [if_neg c75] at H
               have c75b0 : (t380 == a1_0 && (t381 == a1_1 && (t382.toList == a1_2.toList))) = false := by simpa using c75
               (try (have c75b1 : decide (t380 = a1_0 && (t381 == a1_1 && (t382.toList == a1_2.toList))) = false := by simpa using c75))
               (try (have c75b2 : (t380 == a1_0 && (t381 == a1_1 && (t382.toList == a1_2.toList))) = false := by simpa using c75))
               (try (have c75b3 : ¬ (t380 = a1_0 && (t381 == a1_1 && (t382.toList == a1_2.toList))) := by simpa using c75))
               clear c75
               obtain rfl := Option.some.inj H
               try go_wp2
               have n0_ := aM (kD BK360.out)
               have n1_ := aM (kD BK361.out)
               have n2_ := aM (kD BK370.out)
               have n3_ := aM (kD BK376.out)
               have n4_ := aM (b1 HB.out)
               clear BK360
               clear BK361
               clear BK370
               clear BK376
               clear HB
               have BK360 := n0_
               have BK361 := n1_
               have BK370 := n2_
               have BK376 := n3_
               have HB := n4_
               clear n0_ n1_ n2_ n3_ n4_
               have p378 : 0 ≤ (t377 : Int) := oD yA
               have q378 : t377 < (l0_4.length : Int) := oD yA
               obtain ⟨ad378, e378, hx378_0, hx378_1, hx378_2, hx378_3, hx378_4, hx378_5, hx378_6, hx378_7⟩ := at_T54 HR0_4.out t377 p378 q378
               have hw378_7 := hx378_7
               have hw378_6 := hx378_6
               have hw378_5 := hx378_5
               have hw378_4 := hx378_4
               have hw378_3 := hx378_3
               have hw378_2 := hx378_2
               have hw378_1 := hx378_1
               have hw378_0 := hx378_0
               cases e378
               replace hx378_0 := pw_cell_below HB.out hx378_0
               replace hx378_1 := pw_cell_below HB.out hx378_1
               replace hx378_2 := pw_cell_below HB.out hx378_2
               replace hx378_3 := pw_cell_below HB.out hx378_3
               replace hx378_4 := pw_cell_below HB.out hx378_4
               replace hx378_5 := pw_cell_below HB.out hx378_5
               replace hx378_6 := pw_cell_below HB.out hx378_6
               replace hx378_7 := pw_cell_below HB.out hx378_7
               replace p378 := eq_true p378
               replace q378 := eq_true q378
               refine start_ (n := 10) (S := fun w' => w'.cell? ⟨gb360, 0, none⟩ = some (.int .i64 a0_0) ∧ w'.cell? ⟨gb360, 1, none⟩ = some (.string a0_1) ∧ w'.cell? ⟨gb360, 2, none⟩ = some (.int .i64 a0_2) ∧ w'.cell? ⟨gb360, 3, none⟩ = some (.int .i64 a0_3) ∧ w'.cell? ⟨gb360, 4, none⟩ = some (.slice (some ad378) l0_4.length c0_4) ∧ w'.cell? ⟨gb361, 0, none⟩ = some (.int .i64 a1_0) ∧ w'.cell? ⟨gb361, 1, none⟩ = some (.int .i64 a1_1) ∧ w'.cell? ⟨gb361, 2, none⟩ = some (.string a1_2) ∧ w'.cell? (ad378.add ((t377).toNat * 8)) = some (.int .i64 ((rd_T54 l0_4 t377).f0)) ∧ w'.cell? ⟨(ad378.add ((t377).toNat * 8)).block, (ad378.add ((t377).toNat * 8)).off + 1, none⟩ = some (.string ((rd_T54 l0_4 t377).f1)) ∧ w'.cell? ⟨(ad378.add ((t377).toNat * 8)).block, (ad378.add ((t377).toNat * 8)).off + 2, none⟩ = some (.int .i64 ((rd_T54 l0_4 t377).f2.f0)) ∧ w'.cell? ⟨(ad378.add ((t377).toNat * 8)).block, (ad378.add ((t377).toNat * 8)).off + 3, none⟩ = some (.int .i64 ((rd_T54 l0_4 t377).f2.f1)) ∧ w'.cell? ⟨(ad378.add ((t377).toNat * 8)).block, (ad378.add ((t377).toNat * 8)).off + 4, none⟩ = some (.bool ((rd_T54 l0_4 t377).f3)) ∧ w'.cell? ⟨(ad378.add ((t377).toNat * 8)).block, (ad378.add ((t377).toNat * 8)).off + 5, none⟩ = some (.int .i64 ((rd_T54 l0_4 t377).f4.f0)) ∧ w'.cell? ⟨(ad378.add ((t377).toNat * 8)).block, (ad378.add ((t377).toNat * 8)).off + 6, none⟩ = some (.int .i64 ((rd_T54 l0_4 t377).f4.f1)) ∧ w'.cell? ⟨(ad378.add ((t377).toNat * 8)).block, (ad378.add ((t377).toNat * 8)).off + 7, none⟩ = some (.string ((rd_T54 l0_4 t377).f4.f2))) (ds := []) (tB 0 10) (by kernel_rfl) rfl rfl ⟨yV BK360 0, yV BK360 1, yV BK360 2, yV BK360 3, yV BK360 4, yV BK361 0, yV BK361 1, yV BK361 2, (pw_cell_below HB.out hw378_0), (pw_cell_below HB.out hw378_1), (pw_cell_below HB.out hw378_2), (pw_cell_below HB.out hw378_3), (pw_cell_below HB.out hw378_4), (pw_cell_below HB.out hw378_5), (pw_cell_below HB.out hw378_6), (pw_cell_below HB.out hw378_7)⟩ (fun hHeld => ?_); refine with_tabW haulagelaw12_RowcodeKeys.tab12 haulagelaw12_RowcodeKeys.bits12 (fun HT_ HW_ => ?_)
               generalize wc.drew = w96 at BK360 BK361 BK370 BK376 HB hx378_0 hx378_1 hx378_2 hx378_3 hx378_4 hx378_5 hx378_6 hx378_7 hHeld ⊢
               refine yP HT_ 0 75 (tB 1 10) rfl rfl ?_
               refine yT HT_ HW_ 1 76 (tB 3 10) rfl rfl hHeld ?_
               refine yT HT_ HW_ 2 77 (tB 7 10) rfl rfl hHeld ?_
               refine yT HT_ HW_ 7 82 (tB 135 10) rfl rfl hHeld ?_
               refine yI HT_ 3 (tB 143 10) rfl rfl fun K hK => ?_
               refine yc Tryd.func48 #[.agg #[.int .i64 a0_0, .string a0_1, .int .i64 a0_2, .int .i64 a0_3, .slice (some ad378) l0_4.length c0_4]] rfl rfl ?_
               with_reducible refine (haulageref08_Key.calls kj29 a0_0 a0_1 a0_2 a0_3 _ _ l0_4 t377 _ ?side1 ?side2 A66.out).mono ?_
               (case side1 => exact yW (Kd.C_below HR0_4.out HB.out))
               (case side2 => exact HC0_4.out)
               rintro e w97 ⟨rfl, hb⟩
               refine ⟨_, rfl, ?_⟩
               have n0_ := aM (kB (yK BK360) hb)
               have n1_ := aM (kB (yK BK361) hb)
               have n2_ := aM (kB (yK BK370) hb)
               have n3_ := aM (kB (yK BK376) hb)
               have n4_ := aM (bP (yG4 HB GE360.out GE361.out GE370.out GE376.out) hb)
               clear BK360
               clear BK361
               clear BK370
               clear BK376
               clear HB
               have BK360 := n0_
               have BK361 := n1_
               have BK370 := n2_
               have BK376 := n3_
               have HB := n4_
               clear n0_ n1_ n2_ n3_ n4_
               (try clear hb)
               (try clear hb2)
               (try clear hk)
               (try clear hi)
               refine hK.out _ _ ⟨yV BK360 0, yV BK360 1, yV BK360 2, yV BK360 3, yV BK360 4, yV BK361 0, yV BK361 1, yV BK361 2, (pw_cell_below HB.out hw378_0), (pw_cell_below HB.out hw378_1), (pw_cell_below HB.out hw378_2), (pw_cell_below HB.out hw378_3), (pw_cell_below HB.out hw378_4), (pw_cell_below HB.out hw378_5), (pw_cell_below HB.out hw378_6), (pw_cell_below HB.out hw378_7)⟩ (fun hHeld => ?_)
               clear hK K
               refine norm_ (a' := ?_) ?_ ?_
               rotate_left
               ·
                show Act.put _ (some 78) _ = _
                simp only [Act.put, s1_, s2_, s3_, i64_w, i32_w]
                rfl
               refine yP HT_ 4 79 (tB 159 10) rfl rfl ?_
               refine yP HT_ 5 80 (tB 191 10) rfl rfl ?_
               refine yT HT_ HW_ 6 81 (tB 255 10) rfl rfl hHeld ?_
               refine yI HT_ 8 (tB 511 10) rfl rfl fun K hK => ?_
               refine yc Tryd.func57 #[.agg #[.int .i64 ((rd_T54 l0_4 t377).f2.f0), .int .i64 ((rd_T54 l0_4 t377).f2.f1)], .agg #[.int .i64 a1_0, .int .i64 a1_1, .string a1_2]] rfl rfl ?_
               with_reducible refine (haulageref06_Fits.calls kj29 ((rd_T54 l0_4 t377).f2.f0) ((rd_T54 l0_4 t377).f2.f1) a1_0 a1_1 a1_2 true _ A69.out).mono ?_
               rintro e w98 ⟨rfl, hb⟩
               refine ⟨_, rfl, ?_⟩
               have n0_ := aM (kB (yK BK360) hb)
               have n1_ := aM (kB (yK BK361) hb)
               have n2_ := aM (kB (yK BK370) hb)
               have n3_ := aM (kB (yK BK376) hb)
               have n4_ := aM (bP (yG4 HB GE360.out GE361.out GE370.out GE376.out) hb)
               clear BK360
               clear BK361
               clear BK370
               clear BK376
               clear HB
               have BK360 := n0_
               have BK361 := n1_
               have BK370 := n2_
               have BK376 := n3_
               have HB := n4_
               clear n0_ n1_ n2_ n3_ n4_
               (try clear hb)
               (try clear hb2)
               (try clear hk)
               (try clear hi)
               refine hK.out _ _ ⟨yV BK360 0, yV BK360 1, yV BK360 2, yV BK360 3, yV BK360 4, yV BK361 0, yV BK361 1, yV BK361 2, (pw_cell_below HB.out hw378_0), (pw_cell_below HB.out hw378_1), (pw_cell_below HB.out hw378_2), (pw_cell_below HB.out hw378_3), (pw_cell_below HB.out hw378_4), (pw_cell_below HB.out hw378_5), (pw_cell_below HB.out hw378_6), (pw_cell_below HB.out hw378_7)⟩ (fun hHeld => ?_)
               clear hK K
               refine norm_ (a' := ?_) ?_ ?_
               rotate_left
               ·
                show Act.put _ (some 83) _ = _
                simp only [Act.put, s1_, s2_, s3_, i64_w, i32_w]
                rfl
               refine yP HT_ 9 84 (tB 1023 10) rfl rfl ?_
               refine done_ (done_of HT_.out (by kernel_rfl)) ?_
               have hnb99 := NB360_361.out
               have hnc99 := NB361_360.out
               have hnb100 := NB360_370.out
               have hnc100 := NB370_360.out
               have hnb101 := NB360_376.out
               have hnc101 := NB376_360.out
               obtain ⟨hcz102_0, hcz102_1, hcz102_2, hcz102_3, hcz102_4, hfz102_0, hfz102_1, hfz102_2, hfz102_3, hfz102_4⟩ := cells5 BK360.out
               try go_wp2_with (first | ((with_reducible refine gate_callee (f := 55) rfl ?_); refine yC 94 Tryd.func55 #[.agg #[.int .i64 a0_0, .string a0_1, .int .i64 a0_2, .int .i64 a0_3, .slice (some ad378) l0_4.length c0_4], .string t364] rfl ?_; (with_reducible refine (rowcode_ReadKey.calls kj29 a0_0 a0_1 a0_2 a0_3 _ _ l0_4 t364 t380 t381 t382 t383 _ ?side1 ?side2 ?side3 A71.out).mono ?_); (case side1 => exact yW (Kd.C_below HR0_4.out HB.out)); (case side2 => exact HC0_4.out); (case side3 => first | (with_reducible exact HG.out) | exact Glob.below HG.out (yG4 HB GE360.out GE361.out GE370.out GE376.out)); rintro e w103 ⟨rfl, hb⟩; refine ⟨_, rfl, ?_⟩; replace BK360 := aM (kB (yK BK360) hb); replace BK361 := aM (kB (yK BK361) hb); replace BK370 := aM (kB (yK BK370) hb); replace BK376 := aM (kB (yK BK376) hb); replace HB := aM (bP (yG4 HB GE360.out GE361.out GE370.out GE376.out) hb); (try clear hb)) | ((with_reducible refine gate_dst (N := 13) rfl ?_); (try (refine gate_guard (by rfl) ?_; dsimp only)); refine yX (N := 13) (cs := #[.int .i64 0, .int .i64 0, .string (⟨#[]⟩ : ByteArray)]) (t := 52) ?_; intro gb384 hg w104 hbox hb; have BK384 := aM (hbox); have GW384 := yZ hg (yG4 HB GE360.out GE361.out GE370.out GE376.out); have GE384 := yZ hg (yG4 HB GE360.out GE361.out GE370.out GE376.out); replace HB := aM (bP (yG4 HB GE360.out GE361.out GE370.out GE376.out) hb); have NB360_384 := yN hg (yK BK360); have NB384_360 := yM hg (yK BK360); replace BK360 := aM (kB (yK BK360) hb); have NB361_384 := yN hg (yK BK361); have NB384_361 := yM hg (yK BK361); replace BK361 := aM (kB (yK BK361) hb); have NB370_384 := yN hg (yK BK370); have NB384_370 := yM hg (yK BK370); replace BK370 := aM (kB (yK BK370) hb); have NB376_384 := yN hg (yK BK376); have NB384_376 := yM hg (yK BK376); replace BK376 := aM (kB (yK BK376) hb); clear hb hbox hg; have hnb105 := NB384_360.out; have hnc105 := NB360_384.out; have hnb106 := NB384_361.out; have hnc106 := NB361_384.out; have hnb107 := NB384_370.out; have hnc107 := NB370_384.out; have hnb108 := NB384_376.out; have hnc108 := NB376_384.out; obtain ⟨hcz109_0, hcz109_1, hcz109_2, hfz109_0, hfz109_1, hfz109_2⟩ := cells3 BK384.out; have hnb110 := NB361_370.out; have hnc110 := NB370_361.out; have hnb111 := NB361_376.out; have hnc111 := NB376_361.out; obtain ⟨hcz112_0, hcz112_1, hcz112_2, hfz112_0, hfz112_1, hfz112_2⟩ := cells3 BK361.out) | ((with_reducible refine gate_callee (f := 58) rfl ?_); refine yC 99 Tryd.func58 #[.agg #[.int .i64 a1_0, .int .i64 a1_1, .string a1_2]] rfl ?_; (with_reducible refine (haulageref12_One.calls kj29 a1_0 a1_1 a1_2 t385 _ A72.out).mono ?_); rintro e w113 ⟨rfl, hb⟩; refine ⟨_, rfl, ?_⟩; replace BK360 := aM (kB (yF1 BK360 NB360_384.out) hb); replace BK361 := aM (kB (yF1 BK361 NB361_384.out) hb); replace BK370 := aM (kB (yF1 BK370 NB370_384.out) hb); replace BK376 := aM (kB (yF1 BK376 NB376_384.out) hb); replace BK384 := aM (kB (puts3 BK384.out) hb); replace HB := aM (bP (by repeat (first | (with_reducible first | exact HB.out | apply bA | apply bN | apply b1 | refine bS ?_ GE360.out | refine bS ?_ GE361.out | refine bS ?_ GE370.out | refine bS ?_ GE376.out | refine bS ?_ GE384.out) | exact HB.out)) hb); (try clear hb); obtain ⟨hcz114_0, hcz114_1, hcz114_2, hfz114_0, hfz114_1, hfz114_2⟩ := cells3 BK384.out; obtain ⟨hcz115_0, hcz115_1, hcz115_2, hfz115_0, hfz115_1, hfz115_2⟩ := cells3 BK361.out))
               go_ret
               exact ⟨yE, by repeat (first | (with_reducible first | exact HB.out | apply bA | apply bN | apply b1 | refine bS ?_ GE360.out | refine bS ?_ GE361.out | refine bS ?_ GE370.out | refine bS ?_ GE376.out | refine bS ?_ GE384.out) | exact HB.out)⟩
             ·
              rw [if_neg c74] at H
              have c74b0 : (t365 == 0) = false := beq_eq_false_iff_ne.mpr c74
              have c74b1 : (t365 != 0) = true := bne_iff_ne.mpr c74
              obtain rfl := Option.some.inj H
              try go_wp2
              have n0_ := aM (kD BK360.out)
              have n1_ := aM (kD BK361.out)
              have n2_ := aM (kD BK370.out)
              have n3_ := aM (kD BK376.out)
              have n4_ := aM (b1 HB.out)
              clear BK360
              clear BK361
              clear BK370
              clear BK376
              clear HB
              have BK360 := n0_
              have BK361 := n1_
              have BK370 := n2_
              have BK376 := n3_
              have HB := n4_
              clear n0_ n1_ n2_ n3_ n4_
              have p378 : 0 ≤ (t377 : Int) := oD yA
              have q378 : t377 < (l0_4.length : Int) := oD yA
              obtain ⟨ad378, e378, hx378_0, hx378_1, hx378_2, hx378_3, hx378_4, hx378_5, hx378_6, hx378_7⟩ := at_T54 HR0_4.out t377 p378 q378
              have hw378_7 := hx378_7
              have hw378_6 := hx378_6
              have hw378_5 := hx378_5
              have hw378_4 := hx378_4
              have hw378_3 := hx378_3
              have hw378_2 := hx378_2
              have hw378_1 := hx378_1
              have hw378_0 := hx378_0
              cases e378
              replace hx378_0 := pw_cell_below HB.out hx378_0
              replace hx378_1 := pw_cell_below HB.out hx378_1
              replace hx378_2 := pw_cell_below HB.out hx378_2
              replace hx378_3 := pw_cell_below HB.out hx378_3
              replace hx378_4 := pw_cell_below HB.out hx378_4
              replace hx378_5 := pw_cell_below HB.out hx378_5
              replace hx378_6 := pw_cell_below HB.out hx378_6
              replace hx378_7 := pw_cell_below HB.out hx378_7
              replace p378 := eq_true p378
              replace q378 := eq_true q378
              refine start_ (n := 10) (S := fun w' => w'.cell? ⟨gb360, 0, none⟩ = some (.int .i64 a0_0) ∧ w'.cell? ⟨gb360, 1, none⟩ = some (.string a0_1) ∧ w'.cell? ⟨gb360, 2, none⟩ = some (.int .i64 a0_2) ∧ w'.cell? ⟨gb360, 3, none⟩ = some (.int .i64 a0_3) ∧ w'.cell? ⟨gb360, 4, none⟩ = some (.slice (some ad378) l0_4.length c0_4) ∧ w'.cell? ⟨gb361, 0, none⟩ = some (.int .i64 a1_0) ∧ w'.cell? ⟨gb361, 1, none⟩ = some (.int .i64 a1_1) ∧ w'.cell? ⟨gb361, 2, none⟩ = some (.string a1_2) ∧ w'.cell? (ad378.add ((t377).toNat * 8)) = some (.int .i64 ((rd_T54 l0_4 t377).f0)) ∧ w'.cell? ⟨(ad378.add ((t377).toNat * 8)).block, (ad378.add ((t377).toNat * 8)).off + 1, none⟩ = some (.string ((rd_T54 l0_4 t377).f1)) ∧ w'.cell? ⟨(ad378.add ((t377).toNat * 8)).block, (ad378.add ((t377).toNat * 8)).off + 2, none⟩ = some (.int .i64 ((rd_T54 l0_4 t377).f2.f0)) ∧ w'.cell? ⟨(ad378.add ((t377).toNat * 8)).block, (ad378.add ((t377).toNat * 8)).off + 3, none⟩ = some (.int .i64 ((rd_T54 l0_4 t377).f2.f1)) ∧ w'.cell? ⟨(ad378.add ((t377).toNat * 8)).block, (ad378.add ((t377).toNat * 8)).off + 4, none⟩ = some (.bool ((rd_T54 l0_4 t377).f3)) ∧ w'.cell? ⟨(ad378.add ((t377).toNat * 8)).block, (ad378.add ((t377).toNat * 8)).off + 5, none⟩ = some (.int .i64 ((rd_T54 l0_4 t377).f4.f0)) ∧ w'.cell? ⟨(ad378.add ((t377).toNat * 8)).block, (ad378.add ((t377).toNat * 8)).off + 6, none⟩ = some (.int .i64 ((rd_T54 l0_4 t377).f4.f1)) ∧ w'.cell? ⟨(ad378.add ((t377).toNat * 8)).block, (ad378.add ((t377).toNat * 8)).off + 7, none⟩ = some (.string ((rd_T54 l0_4 t377).f4.f2))) (ds := []) (tB 0 10) (by kernel_rfl) rfl rfl ⟨yV BK360 0, yV BK360 1, yV BK360 2, yV BK360 3, yV BK360 4, yV BK361 0, yV BK361 1, yV BK361 2, (pw_cell_below HB.out hw378_0), (pw_cell_below HB.out hw378_1), (pw_cell_below HB.out hw378_2), (pw_cell_below HB.out hw378_3), (pw_cell_below HB.out hw378_4), (pw_cell_below HB.out hw378_5), (pw_cell_below HB.out hw378_6), (pw_cell_below HB.out hw378_7)⟩ (fun hHeld => ?_); refine with_tabW haulagelaw12_RowcodeKeys.tab12 haulagelaw12_RowcodeKeys.bits12 (fun HT_ HW_ => ?_)
              generalize wc.drew = w116 at BK360 BK361 BK370 BK376 HB hx378_0 hx378_1 hx378_2 hx378_3 hx378_4 hx378_5 hx378_6 hx378_7 hHeld ⊢
              refine yP HT_ 0 75 (tB 1 10) rfl rfl ?_
              refine yT HT_ HW_ 1 76 (tB 3 10) rfl rfl hHeld ?_
              refine yT HT_ HW_ 2 77 (tB 7 10) rfl rfl hHeld ?_
              refine yT HT_ HW_ 7 82 (tB 135 10) rfl rfl hHeld ?_
              refine yI HT_ 3 (tB 143 10) rfl rfl fun K hK => ?_
              refine yc Tryd.func48 #[.agg #[.int .i64 a0_0, .string a0_1, .int .i64 a0_2, .int .i64 a0_3, .slice (some ad378) l0_4.length c0_4]] rfl rfl ?_
              with_reducible refine (haulageref08_Key.calls kj29 a0_0 a0_1 a0_2 a0_3 _ _ l0_4 t377 _ ?side1 ?side2 A66.out).mono ?_
              (case side1 => exact yW (Kd.C_below HR0_4.out HB.out))
              (case side2 => exact HC0_4.out)
              rintro e w117 ⟨rfl, hb⟩
              refine ⟨_, rfl, ?_⟩
              have n0_ := aM (kB (yK BK360) hb)
              have n1_ := aM (kB (yK BK361) hb)
              have n2_ := aM (kB (yK BK370) hb)
              have n3_ := aM (kB (yK BK376) hb)
              have n4_ := aM (bP (yG4 HB GE360.out GE361.out GE370.out GE376.out) hb)
              clear BK360
              clear BK361
              clear BK370
              clear BK376
              clear HB
              have BK360 := n0_
              have BK361 := n1_
              have BK370 := n2_
              have BK376 := n3_
              have HB := n4_
              clear n0_ n1_ n2_ n3_ n4_
              (try clear hb)
              (try clear hb2)
              (try clear hk)
              (try clear hi)
              refine hK.out _ _ ⟨yV BK360 0, yV BK360 1, yV BK360 2, yV BK360 3, yV BK360 4, yV BK361 0, yV BK361 1, yV BK361 2, (pw_cell_below HB.out hw378_0), (pw_cell_below HB.out hw378_1), (pw_cell_below HB.out hw378_2), (pw_cell_below HB.out hw378_3), (pw_cell_below HB.out hw378_4), (pw_cell_below HB.out hw378_5), (pw_cell_below HB.out hw378_6), (pw_cell_below HB.out hw378_7)⟩ (fun hHeld => ?_)
              clear hK K
              refine norm_ (a' := ?_) ?_ ?_
              rotate_left
              ·
               show Act.put _ (some 78) _ = _
               simp only [Act.put, s1_, s2_, s3_, i64_w, i32_w]
               rfl
              refine yP HT_ 4 79 (tB 159 10) rfl rfl ?_
              refine yP HT_ 5 80 (tB 191 10) rfl rfl ?_
              refine yT HT_ HW_ 6 81 (tB 255 10) rfl rfl hHeld ?_
              refine yI HT_ 8 (tB 511 10) rfl rfl fun K hK => ?_
              refine yc Tryd.func57 #[.agg #[.int .i64 ((rd_T54 l0_4 t377).f2.f0), .int .i64 ((rd_T54 l0_4 t377).f2.f1)], .agg #[.int .i64 a1_0, .int .i64 a1_1, .string a1_2]] rfl rfl ?_
              with_reducible refine (haulageref06_Fits.calls kj29 ((rd_T54 l0_4 t377).f2.f0) ((rd_T54 l0_4 t377).f2.f1) a1_0 a1_1 a1_2 true _ A69.out).mono ?_
              rintro e w118 ⟨rfl, hb⟩
              refine ⟨_, rfl, ?_⟩
              have n0_ := aM (kB (yK BK360) hb)
              have n1_ := aM (kB (yK BK361) hb)
              have n2_ := aM (kB (yK BK370) hb)
              have n3_ := aM (kB (yK BK376) hb)
              have n4_ := aM (bP (yG4 HB GE360.out GE361.out GE370.out GE376.out) hb)
              clear BK360
              clear BK361
              clear BK370
              clear BK376
              clear HB
              have BK360 := n0_
              have BK361 := n1_
              have BK370 := n2_
              have BK376 := n3_
              have HB := n4_
              clear n0_ n1_ n2_ n3_ n4_
              (try clear hb)
              (try clear hb2)
              (try clear hk)
              (try clear hi)
              refine hK.out _ _ ⟨yV BK360 0, yV BK360 1, yV BK360 2, yV BK360 3, yV BK360 4, yV BK361 0, yV BK361 1, yV BK361 2, (pw_cell_below HB.out hw378_0), (pw_cell_below HB.out hw378_1), (pw_cell_below HB.out hw378_2), (pw_cell_below HB.out hw378_3), (pw_cell_below HB.out hw378_4), (pw_cell_below HB.out hw378_5), (pw_cell_below HB.out hw378_6), (pw_cell_below HB.out hw378_7)⟩ (fun hHeld => ?_)
              clear hK K
              refine norm_ (a' := ?_) ?_ ?_
              rotate_left
              ·
               show Act.put _ (some 83) _ = _
               simp only [Act.put, s1_, s2_, s3_, i64_w, i32_w]
               rfl
              refine yP HT_ 9 84 (tB 1023 10) rfl rfl ?_
              refine done_ (done_of HT_.out (by kernel_rfl)) ?_
              have hnb119 := NB360_361.out
              have hnc119 := NB361_360.out
              have hnb120 := NB360_370.out
              have hnc120 := NB370_360.out
              have hnb121 := NB360_376.out
              have hnc121 := NB376_360.out
              obtain ⟨hcz122_0, hcz122_1, hcz122_2, hcz122_3, hcz122_4, hfz122_0, hfz122_1, hfz122_2, hfz122_3, hfz122_4⟩ := cells5 BK360.out
              try go_wp2_with (first | ((with_reducible refine gate_callee (f := 55) rfl ?_); refine yC 94 Tryd.func55 #[.agg #[.int .i64 a0_0, .string a0_1, .int .i64 a0_2, .int .i64 a0_3, .slice (some ad378) l0_4.length c0_4], .string t364] rfl ?_; (with_reducible refine (rowcode_ReadKey.calls kj29 a0_0 a0_1 a0_2 a0_3 _ _ l0_4 t364 t380 t381 t382 t383 _ ?side1 ?side2 ?side3 A71.out).mono ?_); (case side1 => exact yW (Kd.C_below HR0_4.out HB.out)); (case side2 => exact HC0_4.out); (case side3 => first | (with_reducible exact HG.out) | exact Glob.below HG.out (yG4 HB GE360.out GE361.out GE370.out GE376.out)); rintro e w123 ⟨rfl, hb⟩; refine ⟨_, rfl, ?_⟩; replace BK360 := aM (kB (yK BK360) hb); replace BK361 := aM (kB (yK BK361) hb); replace BK370 := aM (kB (yK BK370) hb); replace BK376 := aM (kB (yK BK376) hb); replace HB := aM (bP (yG4 HB GE360.out GE361.out GE370.out GE376.out) hb); (try clear hb)) | ((with_reducible refine gate_dst (N := 13) rfl ?_); (try (refine gate_guard (by rfl) ?_; dsimp only)); refine yX (N := 13) (cs := #[.int .i64 0, .int .i64 0, .string (⟨#[]⟩ : ByteArray)]) (t := 52) ?_; intro gb384 hg w124 hbox hb; have BK384 := aM (hbox); have GW384 := yZ hg (yG4 HB GE360.out GE361.out GE370.out GE376.out); have GE384 := yZ hg (yG4 HB GE360.out GE361.out GE370.out GE376.out); replace HB := aM (bP (yG4 HB GE360.out GE361.out GE370.out GE376.out) hb); have NB360_384 := yN hg (yK BK360); have NB384_360 := yM hg (yK BK360); replace BK360 := aM (kB (yK BK360) hb); have NB361_384 := yN hg (yK BK361); have NB384_361 := yM hg (yK BK361); replace BK361 := aM (kB (yK BK361) hb); have NB370_384 := yN hg (yK BK370); have NB384_370 := yM hg (yK BK370); replace BK370 := aM (kB (yK BK370) hb); have NB376_384 := yN hg (yK BK376); have NB384_376 := yM hg (yK BK376); replace BK376 := aM (kB (yK BK376) hb); clear hb hbox hg; have hnb125 := NB384_360.out; have hnc125 := NB360_384.out; have hnb126 := NB384_361.out; have hnc126 := NB361_384.out; have hnb127 := NB384_370.out; have hnc127 := NB370_384.out; have hnb128 := NB384_376.out; have hnc128 := NB376_384.out; obtain ⟨hcz129_0, hcz129_1, hcz129_2, hfz129_0, hfz129_1, hfz129_2⟩ := cells3 BK384.out; have hnb130 := NB361_370.out; have hnc130 := NB370_361.out; have hnb131 := NB361_376.out; have hnc131 := NB376_361.out; obtain ⟨hcz132_0, hcz132_1, hcz132_2, hfz132_0, hfz132_1, hfz132_2⟩ := cells3 BK361.out) | ((with_reducible refine gate_callee (f := 58) rfl ?_); refine yC 99 Tryd.func58 #[.agg #[.int .i64 a1_0, .int .i64 a1_1, .string a1_2]] rfl ?_; (with_reducible refine (haulageref12_One.calls kj29 a1_0 a1_1 a1_2 t385 _ A72.out).mono ?_); rintro e w133 ⟨rfl, hb⟩; refine ⟨_, rfl, ?_⟩; replace BK360 := aM (kB (yF1 BK360 NB360_384.out) hb); replace BK361 := aM (kB (yF1 BK361 NB361_384.out) hb); replace BK370 := aM (kB (yF1 BK370 NB370_384.out) hb); replace BK376 := aM (kB (yF1 BK376 NB376_384.out) hb); replace BK384 := aM (kB (puts3 BK384.out) hb); replace HB := aM (bP (by repeat (first | (with_reducible first | exact HB.out | apply bA | apply bN | apply b1 | refine bS ?_ GE360.out | refine bS ?_ GE361.out | refine bS ?_ GE370.out | refine bS ?_ GE376.out | refine bS ?_ GE384.out) | exact HB.out)) hb); (try clear hb)))
              go_ret
              exact ⟨yE, by repeat (first | (with_reducible first | exact HB.out | apply bA | apply bN | apply b1 | refine bS ?_ GE360.out | refine bS ?_ GE361.out | refine bS ?_ GE370.out | refine bS ?_ GE376.out | refine bS ?_ GE384.out) | exact HB.out)⟩
            ·
             rw [if_neg c73] at H
             have c73b0 : (t364.toList == t385.toList) = false := beq_eq_false_iff_ne.mpr c73
             have c73b1 : (t364.toList != t385.toList) = true := bne_iff_ne.mpr c73
             obtain rfl := Option.some.inj H
             try go_wp2
             have n0_ := aM (kD BK360.out)
             have n1_ := aM (kD BK361.out)
             have n2_ := aM (kD BK370.out)
             have n3_ := aM (kD BK376.out)
             have n4_ := aM (b1 HB.out)
             clear BK360
             clear BK361
             clear BK370
             clear BK376
             clear HB
             have BK360 := n0_
             have BK361 := n1_
             have BK370 := n2_
             have BK376 := n3_
             have HB := n4_
             clear n0_ n1_ n2_ n3_ n4_
             have p378 : 0 ≤ (t377 : Int) := oD yA
             have q378 : t377 < (l0_4.length : Int) := oD yA
             obtain ⟨ad378, e378, hx378_0, hx378_1, hx378_2, hx378_3, hx378_4, hx378_5, hx378_6, hx378_7⟩ := at_T54 HR0_4.out t377 p378 q378
             have hw378_7 := hx378_7
             have hw378_6 := hx378_6
             have hw378_5 := hx378_5
             have hw378_4 := hx378_4
             have hw378_3 := hx378_3
             have hw378_2 := hx378_2
             have hw378_1 := hx378_1
             have hw378_0 := hx378_0
             cases e378
             replace hx378_0 := pw_cell_below HB.out hx378_0
             replace hx378_1 := pw_cell_below HB.out hx378_1
             replace hx378_2 := pw_cell_below HB.out hx378_2
             replace hx378_3 := pw_cell_below HB.out hx378_3
             replace hx378_4 := pw_cell_below HB.out hx378_4
             replace hx378_5 := pw_cell_below HB.out hx378_5
             replace hx378_6 := pw_cell_below HB.out hx378_6
             replace hx378_7 := pw_cell_below HB.out hx378_7
             replace p378 := eq_true p378
             replace q378 := eq_true q378
             refine start_ (n := 10) (S := fun w' => w'.cell? ⟨gb360, 0, none⟩ = some (.int .i64 a0_0) ∧ w'.cell? ⟨gb360, 1, none⟩ = some (.string a0_1) ∧ w'.cell? ⟨gb360, 2, none⟩ = some (.int .i64 a0_2) ∧ w'.cell? ⟨gb360, 3, none⟩ = some (.int .i64 a0_3) ∧ w'.cell? ⟨gb360, 4, none⟩ = some (.slice (some ad378) l0_4.length c0_4) ∧ w'.cell? ⟨gb361, 0, none⟩ = some (.int .i64 a1_0) ∧ w'.cell? ⟨gb361, 1, none⟩ = some (.int .i64 a1_1) ∧ w'.cell? ⟨gb361, 2, none⟩ = some (.string a1_2) ∧ w'.cell? (ad378.add ((t377).toNat * 8)) = some (.int .i64 ((rd_T54 l0_4 t377).f0)) ∧ w'.cell? ⟨(ad378.add ((t377).toNat * 8)).block, (ad378.add ((t377).toNat * 8)).off + 1, none⟩ = some (.string ((rd_T54 l0_4 t377).f1)) ∧ w'.cell? ⟨(ad378.add ((t377).toNat * 8)).block, (ad378.add ((t377).toNat * 8)).off + 2, none⟩ = some (.int .i64 ((rd_T54 l0_4 t377).f2.f0)) ∧ w'.cell? ⟨(ad378.add ((t377).toNat * 8)).block, (ad378.add ((t377).toNat * 8)).off + 3, none⟩ = some (.int .i64 ((rd_T54 l0_4 t377).f2.f1)) ∧ w'.cell? ⟨(ad378.add ((t377).toNat * 8)).block, (ad378.add ((t377).toNat * 8)).off + 4, none⟩ = some (.bool ((rd_T54 l0_4 t377).f3)) ∧ w'.cell? ⟨(ad378.add ((t377).toNat * 8)).block, (ad378.add ((t377).toNat * 8)).off + 5, none⟩ = some (.int .i64 ((rd_T54 l0_4 t377).f4.f0)) ∧ w'.cell? ⟨(ad378.add ((t377).toNat * 8)).block, (ad378.add ((t377).toNat * 8)).off + 6, none⟩ = some (.int .i64 ((rd_T54 l0_4 t377).f4.f1)) ∧ w'.cell? ⟨(ad378.add ((t377).toNat * 8)).block, (ad378.add ((t377).toNat * 8)).off + 7, none⟩ = some (.string ((rd_T54 l0_4 t377).f4.f2))) (ds := []) (tB 0 10) (by kernel_rfl) rfl rfl ⟨yV BK360 0, yV BK360 1, yV BK360 2, yV BK360 3, yV BK360 4, yV BK361 0, yV BK361 1, yV BK361 2, (pw_cell_below HB.out hw378_0), (pw_cell_below HB.out hw378_1), (pw_cell_below HB.out hw378_2), (pw_cell_below HB.out hw378_3), (pw_cell_below HB.out hw378_4), (pw_cell_below HB.out hw378_5), (pw_cell_below HB.out hw378_6), (pw_cell_below HB.out hw378_7)⟩ (fun hHeld => ?_); refine with_tabW haulagelaw12_RowcodeKeys.tab12 haulagelaw12_RowcodeKeys.bits12 (fun HT_ HW_ => ?_)
             generalize wc.drew = w134 at BK360 BK361 BK370 BK376 HB hx378_0 hx378_1 hx378_2 hx378_3 hx378_4 hx378_5 hx378_6 hx378_7 hHeld ⊢
             refine yP HT_ 0 75 (tB 1 10) rfl rfl ?_
             refine yT HT_ HW_ 1 76 (tB 3 10) rfl rfl hHeld ?_
             refine yT HT_ HW_ 2 77 (tB 7 10) rfl rfl hHeld ?_
             refine yT HT_ HW_ 7 82 (tB 135 10) rfl rfl hHeld ?_
             refine yI HT_ 3 (tB 143 10) rfl rfl fun K hK => ?_
             refine yc Tryd.func48 #[.agg #[.int .i64 a0_0, .string a0_1, .int .i64 a0_2, .int .i64 a0_3, .slice (some ad378) l0_4.length c0_4]] rfl rfl ?_
             with_reducible refine (haulageref08_Key.calls kj29 a0_0 a0_1 a0_2 a0_3 _ _ l0_4 t377 _ ?side1 ?side2 A66.out).mono ?_
             (case side1 => exact yW (Kd.C_below HR0_4.out HB.out))
             (case side2 => exact HC0_4.out)
             rintro e w135 ⟨rfl, hb⟩
             refine ⟨_, rfl, ?_⟩
             have n0_ := aM (kB (yK BK360) hb)
             have n1_ := aM (kB (yK BK361) hb)
             have n2_ := aM (kB (yK BK370) hb)
             have n3_ := aM (kB (yK BK376) hb)
             have n4_ := aM (bP (yG4 HB GE360.out GE361.out GE370.out GE376.out) hb)
             clear BK360
             clear BK361
             clear BK370
             clear BK376
             clear HB
             have BK360 := n0_
             have BK361 := n1_
             have BK370 := n2_
             have BK376 := n3_
             have HB := n4_
             clear n0_ n1_ n2_ n3_ n4_
             (try clear hb)
             (try clear hb2)
             (try clear hk)
             (try clear hi)
             refine hK.out _ _ ⟨yV BK360 0, yV BK360 1, yV BK360 2, yV BK360 3, yV BK360 4, yV BK361 0, yV BK361 1, yV BK361 2, (pw_cell_below HB.out hw378_0), (pw_cell_below HB.out hw378_1), (pw_cell_below HB.out hw378_2), (pw_cell_below HB.out hw378_3), (pw_cell_below HB.out hw378_4), (pw_cell_below HB.out hw378_5), (pw_cell_below HB.out hw378_6), (pw_cell_below HB.out hw378_7)⟩ (fun hHeld => ?_)
             clear hK K
             refine norm_ (a' := ?_) ?_ ?_
             rotate_left
             ·
              show Act.put _ (some 78) _ = _
              simp only [Act.put, s1_, s2_, s3_, i64_w, i32_w]
              rfl
             refine yP HT_ 4 79 (tB 159 10) rfl rfl ?_
             refine yP HT_ 5 80 (tB 191 10) rfl rfl ?_
             refine yT HT_ HW_ 6 81 (tB 255 10) rfl rfl hHeld ?_
             refine yI HT_ 8 (tB 511 10) rfl rfl fun K hK => ?_
             refine yc Tryd.func57 #[.agg #[.int .i64 ((rd_T54 l0_4 t377).f2.f0), .int .i64 ((rd_T54 l0_4 t377).f2.f1)], .agg #[.int .i64 a1_0, .int .i64 a1_1, .string a1_2]] rfl rfl ?_
             with_reducible refine (haulageref06_Fits.calls kj29 ((rd_T54 l0_4 t377).f2.f0) ((rd_T54 l0_4 t377).f2.f1) a1_0 a1_1 a1_2 true _ A69.out).mono ?_
             rintro e w136 ⟨rfl, hb⟩
             refine ⟨_, rfl, ?_⟩
             have n0_ := aM (kB (yK BK360) hb)
             have n1_ := aM (kB (yK BK361) hb)
             have n2_ := aM (kB (yK BK370) hb)
             have n3_ := aM (kB (yK BK376) hb)
             have n4_ := aM (bP (yG4 HB GE360.out GE361.out GE370.out GE376.out) hb)
             clear BK360
             clear BK361
             clear BK370
             clear BK376
             clear HB
             have BK360 := n0_
             have BK361 := n1_
             have BK370 := n2_
             have BK376 := n3_
             have HB := n4_
             clear n0_ n1_ n2_ n3_ n4_
             (try clear hb)
             (try clear hb2)
             (try clear hk)
             (try clear hi)
             refine hK.out _ _ ⟨yV BK360 0, yV BK360 1, yV BK360 2, yV BK360 3, yV BK360 4, yV BK361 0, yV BK361 1, yV BK361 2, (pw_cell_below HB.out hw378_0), (pw_cell_below HB.out hw378_1), (pw_cell_below HB.out hw378_2), (pw_cell_below HB.out hw378_3), (pw_cell_below HB.out hw378_4), (pw_cell_below HB.out hw378_5), (pw_cell_below HB.out hw378_6), (pw_cell_below HB.out hw378_7)⟩ (fun hHeld => ?_)
             clear hK K
             refine norm_ (a' := ?_) ?_ ?_
             rotate_left
             ·
              show Act.put _ (some 83) _ = _
              simp only [Act.put, s1_, s2_, s3_, i64_w, i32_w]
              rfl
             refine yP HT_ 9 84 (tB 1023 10) rfl rfl ?_
             refine done_ (done_of HT_.out (by kernel_rfl)) ?_
             have hnb137 := NB360_361.out
             have hnc137 := NB361_360.out
             have hnb138 := NB360_370.out
             have hnc138 := NB370_360.out
             have hnb139 := NB360_376.out
             have hnc139 := NB376_360.out
             obtain ⟨hcz140_0, hcz140_1, hcz140_2, hcz140_3, hcz140_4, hfz140_0, hfz140_1, hfz140_2, hfz140_3, hfz140_4⟩ := cells5 BK360.out
             try go_wp2_with (first | ((with_reducible refine gate_callee (f := 55) rfl ?_); refine yC 94 Tryd.func55 #[.agg #[.int .i64 a0_0, .string a0_1, .int .i64 a0_2, .int .i64 a0_3, .slice (some ad378) l0_4.length c0_4], .string t364] rfl ?_; (with_reducible refine (rowcode_ReadKey.calls kj29 a0_0 a0_1 a0_2 a0_3 _ _ l0_4 t364 t380 t381 t382 t383 _ ?side1 ?side2 ?side3 A71.out).mono ?_); (case side1 => exact yW (Kd.C_below HR0_4.out HB.out)); (case side2 => exact HC0_4.out); (case side3 => first | (with_reducible exact HG.out) | exact Glob.below HG.out (yG4 HB GE360.out GE361.out GE370.out GE376.out)); rintro e w141 ⟨rfl, hb⟩; refine ⟨_, rfl, ?_⟩; replace BK360 := aM (kB (yK BK360) hb); replace BK361 := aM (kB (yK BK361) hb); replace BK370 := aM (kB (yK BK370) hb); replace BK376 := aM (kB (yK BK376) hb); replace HB := aM (bP (yG4 HB GE360.out GE361.out GE370.out GE376.out) hb); (try clear hb)) | ((with_reducible refine gate_dst (N := 13) rfl ?_); (try (refine gate_guard (by rfl) ?_; dsimp only)); refine yX (N := 13) (cs := #[.int .i64 0, .int .i64 0, .string (⟨#[]⟩ : ByteArray)]) (t := 52) ?_; intro gb384 hg w142 hbox hb; have BK384 := aM (hbox); have GW384 := yZ hg (yG4 HB GE360.out GE361.out GE370.out GE376.out); have GE384 := yZ hg (yG4 HB GE360.out GE361.out GE370.out GE376.out); replace HB := aM (bP (yG4 HB GE360.out GE361.out GE370.out GE376.out) hb); have NB360_384 := yN hg (yK BK360); have NB384_360 := yM hg (yK BK360); replace BK360 := aM (kB (yK BK360) hb); have NB361_384 := yN hg (yK BK361); have NB384_361 := yM hg (yK BK361); replace BK361 := aM (kB (yK BK361) hb); have NB370_384 := yN hg (yK BK370); have NB384_370 := yM hg (yK BK370); replace BK370 := aM (kB (yK BK370) hb); have NB376_384 := yN hg (yK BK376); have NB384_376 := yM hg (yK BK376); replace BK376 := aM (kB (yK BK376) hb); clear hb hbox hg; have hnb143 := NB384_360.out; have hnc143 := NB360_384.out; have hnb144 := NB384_361.out; have hnc144 := NB361_384.out; have hnb145 := NB384_370.out; have hnc145 := NB370_384.out; have hnb146 := NB384_376.out; have hnc146 := NB376_384.out; obtain ⟨hcz147_0, hcz147_1, hcz147_2, hfz147_0, hfz147_1, hfz147_2⟩ := cells3 BK384.out; have hnb148 := NB361_370.out; have hnc148 := NB370_361.out; have hnb149 := NB361_376.out; have hnc149 := NB376_361.out; obtain ⟨hcz150_0, hcz150_1, hcz150_2, hfz150_0, hfz150_1, hfz150_2⟩ := cells3 BK361.out) | ((with_reducible refine gate_callee (f := 58) rfl ?_); refine yC 99 Tryd.func58 #[.agg #[.int .i64 a1_0, .int .i64 a1_1, .string a1_2]] rfl ?_; (with_reducible refine (haulageref12_One.calls kj29 a1_0 a1_1 a1_2 t385 _ A72.out).mono ?_); rintro e w151 ⟨rfl, hb⟩; refine ⟨_, rfl, ?_⟩; replace BK360 := aM (kB (yF1 BK360 NB360_384.out) hb); replace BK361 := aM (kB (yF1 BK361 NB361_384.out) hb); replace BK370 := aM (kB (yF1 BK370 NB370_384.out) hb); replace BK376 := aM (kB (yF1 BK376 NB376_384.out) hb); replace BK384 := aM (kB (puts3 BK384.out) hb); replace HB := aM (bP (by repeat (first | (with_reducible first | exact HB.out | apply bA | apply bN | apply b1 | refine bS ?_ GE360.out | refine bS ?_ GE361.out | refine bS ?_ GE370.out | refine bS ?_ GE376.out | refine bS ?_ GE384.out) | exact HB.out)) hb); (try clear hb)))
             go_ret
             exact ⟨yE, by repeat (first | (with_reducible first | exact HB.out | apply bA | apply bN | apply b1 | refine bS ?_ GE360.out | refine bS ?_ GE361.out | refine bS ?_ GE370.out | refine bS ?_ GE376.out | refine bS ?_ GE384.out) | exact HB.out)⟩
           ·
            replace c70 := Bool.eq_false_iff.mpr c70
            subst c70
            replace H := yf H
            by_cases c152 : t364.toList = ([] : List UInt8)
            ·
             rw [if_pos c152] at H
             have c152b0 : (t364.toList == ([] : List UInt8)) = true := beq_iff_eq.mpr c152
             have c152b1 : (t364.toList != ([] : List UInt8)) = false := bne_eq_false_iff_eq.mpr c152
             clear c152
             obtain rfl := Option.some.inj H
             try go_wp2
             have n0_ := aM (kD BK360.out)
             have n1_ := aM (kD BK361.out)
             have n2_ := aM (kD BK370.out)
             have n3_ := aM (kD BK376.out)
             have n4_ := aM (b1 HB.out)
             clear BK360
             clear BK361
             clear BK370
             clear BK376
             clear HB
             have BK360 := n0_
             have BK361 := n1_
             have BK370 := n2_
             have BK376 := n3_
             have HB := n4_
             clear n0_ n1_ n2_ n3_ n4_
             have p378 : 0 ≤ (t377 : Int) := oD yA
             have q378 : t377 < (l0_4.length : Int) := oD yA
             obtain ⟨ad378, e378, hx378_0, hx378_1, hx378_2, hx378_3, hx378_4, hx378_5, hx378_6, hx378_7⟩ := at_T54 HR0_4.out t377 p378 q378
             have hw378_7 := hx378_7
             have hw378_6 := hx378_6
             have hw378_5 := hx378_5
             have hw378_4 := hx378_4
             have hw378_3 := hx378_3
             have hw378_2 := hx378_2
             have hw378_1 := hx378_1
             have hw378_0 := hx378_0
             cases e378
             replace hx378_0 := pw_cell_below HB.out hx378_0
             replace hx378_1 := pw_cell_below HB.out hx378_1
             replace hx378_2 := pw_cell_below HB.out hx378_2
             replace hx378_3 := pw_cell_below HB.out hx378_3
             replace hx378_4 := pw_cell_below HB.out hx378_4
             replace hx378_5 := pw_cell_below HB.out hx378_5
             replace hx378_6 := pw_cell_below HB.out hx378_6
             replace hx378_7 := pw_cell_below HB.out hx378_7
             replace p378 := eq_true p378
             replace q378 := eq_true q378
             refine start_ (n := 10) (S := fun w' => w'.cell? ⟨gb360, 0, none⟩ = some (.int .i64 a0_0) ∧ w'.cell? ⟨gb360, 1, none⟩ = some (.string a0_1) ∧ w'.cell? ⟨gb360, 2, none⟩ = some (.int .i64 a0_2) ∧ w'.cell? ⟨gb360, 3, none⟩ = some (.int .i64 a0_3) ∧ w'.cell? ⟨gb360, 4, none⟩ = some (.slice (some ad378) l0_4.length c0_4) ∧ w'.cell? ⟨gb361, 0, none⟩ = some (.int .i64 a1_0) ∧ w'.cell? ⟨gb361, 1, none⟩ = some (.int .i64 a1_1) ∧ w'.cell? ⟨gb361, 2, none⟩ = some (.string a1_2) ∧ w'.cell? (ad378.add ((t377).toNat * 8)) = some (.int .i64 ((rd_T54 l0_4 t377).f0)) ∧ w'.cell? ⟨(ad378.add ((t377).toNat * 8)).block, (ad378.add ((t377).toNat * 8)).off + 1, none⟩ = some (.string ((rd_T54 l0_4 t377).f1)) ∧ w'.cell? ⟨(ad378.add ((t377).toNat * 8)).block, (ad378.add ((t377).toNat * 8)).off + 2, none⟩ = some (.int .i64 ((rd_T54 l0_4 t377).f2.f0)) ∧ w'.cell? ⟨(ad378.add ((t377).toNat * 8)).block, (ad378.add ((t377).toNat * 8)).off + 3, none⟩ = some (.int .i64 ((rd_T54 l0_4 t377).f2.f1)) ∧ w'.cell? ⟨(ad378.add ((t377).toNat * 8)).block, (ad378.add ((t377).toNat * 8)).off + 4, none⟩ = some (.bool ((rd_T54 l0_4 t377).f3)) ∧ w'.cell? ⟨(ad378.add ((t377).toNat * 8)).block, (ad378.add ((t377).toNat * 8)).off + 5, none⟩ = some (.int .i64 ((rd_T54 l0_4 t377).f4.f0)) ∧ w'.cell? ⟨(ad378.add ((t377).toNat * 8)).block, (ad378.add ((t377).toNat * 8)).off + 6, none⟩ = some (.int .i64 ((rd_T54 l0_4 t377).f4.f1)) ∧ w'.cell? ⟨(ad378.add ((t377).toNat * 8)).block, (ad378.add ((t377).toNat * 8)).off + 7, none⟩ = some (.string ((rd_T54 l0_4 t377).f4.f2))) (ds := []) (tB 0 10) (by kernel_rfl) rfl rfl ⟨yV BK360 0, yV BK360 1, yV BK360 2, yV BK360 3, yV BK360 4, yV BK361 0, yV BK361 1, yV BK361 2, (pw_cell_below HB.out hw378_0), (pw_cell_below HB.out hw378_1), (pw_cell_below HB.out hw378_2), (pw_cell_below HB.out hw378_3), (pw_cell_below HB.out hw378_4), (pw_cell_below HB.out hw378_5), (pw_cell_below HB.out hw378_6), (pw_cell_below HB.out hw378_7)⟩ (fun hHeld => ?_); refine with_tabW haulagelaw12_RowcodeKeys.tab12 haulagelaw12_RowcodeKeys.bits12 (fun HT_ HW_ => ?_)
             generalize wc.drew = w153 at BK360 BK361 BK370 BK376 HB hx378_0 hx378_1 hx378_2 hx378_3 hx378_4 hx378_5 hx378_6 hx378_7 hHeld ⊢
             refine yP HT_ 0 75 (tB 1 10) rfl rfl ?_
             refine yT HT_ HW_ 1 76 (tB 3 10) rfl rfl hHeld ?_
             refine yT HT_ HW_ 2 77 (tB 7 10) rfl rfl hHeld ?_
             refine yT HT_ HW_ 7 82 (tB 135 10) rfl rfl hHeld ?_
             refine yI HT_ 3 (tB 143 10) rfl rfl fun K hK => ?_
             refine yc Tryd.func48 #[.agg #[.int .i64 a0_0, .string a0_1, .int .i64 a0_2, .int .i64 a0_3, .slice (some ad378) l0_4.length c0_4]] rfl rfl ?_
             with_reducible refine (haulageref08_Key.calls kj29 a0_0 a0_1 a0_2 a0_3 _ _ l0_4 t377 _ ?side1 ?side2 A66.out).mono ?_
             (case side1 => exact yW (Kd.C_below HR0_4.out HB.out))
             (case side2 => exact HC0_4.out)
             rintro e w154 ⟨rfl, hb⟩
             refine ⟨_, rfl, ?_⟩
             have n0_ := aM (kB (yK BK360) hb)
             have n1_ := aM (kB (yK BK361) hb)
             have n2_ := aM (kB (yK BK370) hb)
             have n3_ := aM (kB (yK BK376) hb)
             have n4_ := aM (bP (yG4 HB GE360.out GE361.out GE370.out GE376.out) hb)
             clear BK360
             clear BK361
             clear BK370
             clear BK376
             clear HB
             have BK360 := n0_
             have BK361 := n1_
             have BK370 := n2_
             have BK376 := n3_
             have HB := n4_
             clear n0_ n1_ n2_ n3_ n4_
             (try clear hb)
             (try clear hb2)
             (try clear hk)
             (try clear hi)
             refine hK.out _ _ ⟨yV BK360 0, yV BK360 1, yV BK360 2, yV BK360 3, yV BK360 4, yV BK361 0, yV BK361 1, yV BK361 2, (pw_cell_below HB.out hw378_0), (pw_cell_below HB.out hw378_1), (pw_cell_below HB.out hw378_2), (pw_cell_below HB.out hw378_3), (pw_cell_below HB.out hw378_4), (pw_cell_below HB.out hw378_5), (pw_cell_below HB.out hw378_6), (pw_cell_below HB.out hw378_7)⟩ (fun hHeld => ?_)
             clear hK K
             refine norm_ (a' := ?_) ?_ ?_
             rotate_left
             ·
              show Act.put _ (some 78) _ = _
              simp only [Act.put, s1_, s2_, s3_, i64_w, i32_w]
              rfl
             refine yP HT_ 4 79 (tB 159 10) rfl rfl ?_
             refine yP HT_ 5 80 (tB 191 10) rfl rfl ?_
             refine yT HT_ HW_ 6 81 (tB 255 10) rfl rfl hHeld ?_
             refine yI HT_ 8 (tB 511 10) rfl rfl fun K hK => ?_
             refine yc Tryd.func57 #[.agg #[.int .i64 ((rd_T54 l0_4 t377).f2.f0), .int .i64 ((rd_T54 l0_4 t377).f2.f1)], .agg #[.int .i64 a1_0, .int .i64 a1_1, .string a1_2]] rfl rfl ?_
             with_reducible refine (haulageref06_Fits.calls kj29 ((rd_T54 l0_4 t377).f2.f0) ((rd_T54 l0_4 t377).f2.f1) a1_0 a1_1 a1_2 false _ A69.out).mono ?_
             rintro e w155 ⟨rfl, hb⟩
             refine ⟨_, rfl, ?_⟩
             have n0_ := aM (kB (yK BK360) hb)
             have n1_ := aM (kB (yK BK361) hb)
             have n2_ := aM (kB (yK BK370) hb)
             have n3_ := aM (kB (yK BK376) hb)
             have n4_ := aM (bP (yG4 HB GE360.out GE361.out GE370.out GE376.out) hb)
             clear BK360
             clear BK361
             clear BK370
             clear BK376
             clear HB
             have BK360 := n0_
             have BK361 := n1_
             have BK370 := n2_
             have BK376 := n3_
             have HB := n4_
             clear n0_ n1_ n2_ n3_ n4_
             (try clear hb)
             (try clear hb2)
             (try clear hk)
             (try clear hi)
             refine hK.out _ _ ⟨yV BK360 0, yV BK360 1, yV BK360 2, yV BK360 3, yV BK360 4, yV BK361 0, yV BK361 1, yV BK361 2, (pw_cell_below HB.out hw378_0), (pw_cell_below HB.out hw378_1), (pw_cell_below HB.out hw378_2), (pw_cell_below HB.out hw378_3), (pw_cell_below HB.out hw378_4), (pw_cell_below HB.out hw378_5), (pw_cell_below HB.out hw378_6), (pw_cell_below HB.out hw378_7)⟩ (fun hHeld => ?_)
             clear hK K
             refine norm_ (a' := ?_) ?_ ?_
             rotate_left
             ·
              show Act.put _ (some 83) _ = _
              simp only [Act.put, s1_, s2_, s3_, i64_w, i32_w]
              rfl
             refine yP HT_ 9 84 (tB 1023 10) rfl rfl ?_
             refine done_ (done_of HT_.out (by kernel_rfl)) ?_
             try go_wp2
             go_ret
             exact ⟨yE, yG4 HB GE360.out GE361.out GE370.out GE376.out⟩
            ·
             rw [if_neg c152] at H
             have c152b0 : (t364.toList == ([] : List UInt8)) = false := beq_eq_false_iff_ne.mpr c152
             have c152b1 : (t364.toList != ([] : List UInt8)) = true := bne_iff_ne.mpr c152
             obtain rfl := Option.some.inj H
             try go_wp2
             have n0_ := aM (kD BK360.out)
             have n1_ := aM (kD BK361.out)
             have n2_ := aM (kD BK370.out)
             have n3_ := aM (kD BK376.out)
             have n4_ := aM (b1 HB.out)
             clear BK360
             clear BK361
             clear BK370
             clear BK376
             clear HB
             have BK360 := n0_
             have BK361 := n1_
             have BK370 := n2_
             have BK376 := n3_
             have HB := n4_
             clear n0_ n1_ n2_ n3_ n4_
             have p378 : 0 ≤ (t377 : Int) := oD yA
             have q378 : t377 < (l0_4.length : Int) := oD yA
             obtain ⟨ad378, e378, hx378_0, hx378_1, hx378_2, hx378_3, hx378_4, hx378_5, hx378_6, hx378_7⟩ := at_T54 HR0_4.out t377 p378 q378
             have hw378_7 := hx378_7
             have hw378_6 := hx378_6
             have hw378_5 := hx378_5
             have hw378_4 := hx378_4
             have hw378_3 := hx378_3
             have hw378_2 := hx378_2
             have hw378_1 := hx378_1
             have hw378_0 := hx378_0
             cases e378
             replace hx378_0 := pw_cell_below HB.out hx378_0
             replace hx378_1 := pw_cell_below HB.out hx378_1
             replace hx378_2 := pw_cell_below HB.out hx378_2
             replace hx378_3 := pw_cell_below HB.out hx378_3
             replace hx378_4 := pw_cell_below HB.out hx378_4
             replace hx378_5 := pw_cell_below HB.out hx378_5
             replace hx378_6 := pw_cell_below HB.out hx378_6
             replace hx378_7 := pw_cell_below HB.out hx378_7
             replace p378 := eq_true p378
             replace q378 := eq_true q378
             refine start_ (n := 10) (S := fun w' => w'.cell? ⟨gb360, 0, none⟩ = some (.int .i64 a0_0) ∧ w'.cell? ⟨gb360, 1, none⟩ = some (.string a0_1) ∧ w'.cell? ⟨gb360, 2, none⟩ = some (.int .i64 a0_2) ∧ w'.cell? ⟨gb360, 3, none⟩ = some (.int .i64 a0_3) ∧ w'.cell? ⟨gb360, 4, none⟩ = some (.slice (some ad378) l0_4.length c0_4) ∧ w'.cell? ⟨gb361, 0, none⟩ = some (.int .i64 a1_0) ∧ w'.cell? ⟨gb361, 1, none⟩ = some (.int .i64 a1_1) ∧ w'.cell? ⟨gb361, 2, none⟩ = some (.string a1_2) ∧ w'.cell? (ad378.add ((t377).toNat * 8)) = some (.int .i64 ((rd_T54 l0_4 t377).f0)) ∧ w'.cell? ⟨(ad378.add ((t377).toNat * 8)).block, (ad378.add ((t377).toNat * 8)).off + 1, none⟩ = some (.string ((rd_T54 l0_4 t377).f1)) ∧ w'.cell? ⟨(ad378.add ((t377).toNat * 8)).block, (ad378.add ((t377).toNat * 8)).off + 2, none⟩ = some (.int .i64 ((rd_T54 l0_4 t377).f2.f0)) ∧ w'.cell? ⟨(ad378.add ((t377).toNat * 8)).block, (ad378.add ((t377).toNat * 8)).off + 3, none⟩ = some (.int .i64 ((rd_T54 l0_4 t377).f2.f1)) ∧ w'.cell? ⟨(ad378.add ((t377).toNat * 8)).block, (ad378.add ((t377).toNat * 8)).off + 4, none⟩ = some (.bool ((rd_T54 l0_4 t377).f3)) ∧ w'.cell? ⟨(ad378.add ((t377).toNat * 8)).block, (ad378.add ((t377).toNat * 8)).off + 5, none⟩ = some (.int .i64 ((rd_T54 l0_4 t377).f4.f0)) ∧ w'.cell? ⟨(ad378.add ((t377).toNat * 8)).block, (ad378.add ((t377).toNat * 8)).off + 6, none⟩ = some (.int .i64 ((rd_T54 l0_4 t377).f4.f1)) ∧ w'.cell? ⟨(ad378.add ((t377).toNat * 8)).block, (ad378.add ((t377).toNat * 8)).off + 7, none⟩ = some (.string ((rd_T54 l0_4 t377).f4.f2))) (ds := []) (tB 0 10) (by kernel_rfl) rfl rfl ⟨yV BK360 0, yV BK360 1, yV BK360 2, yV BK360 3, yV BK360 4, yV BK361 0, yV BK361 1, yV BK361 2, (pw_cell_below HB.out hw378_0), (pw_cell_below HB.out hw378_1), (pw_cell_below HB.out hw378_2), (pw_cell_below HB.out hw378_3), (pw_cell_below HB.out hw378_4), (pw_cell_below HB.out hw378_5), (pw_cell_below HB.out hw378_6), (pw_cell_below HB.out hw378_7)⟩ (fun hHeld => ?_); refine with_tabW haulagelaw12_RowcodeKeys.tab12 haulagelaw12_RowcodeKeys.bits12 (fun HT_ HW_ => ?_)
             generalize wc.drew = w156 at BK360 BK361 BK370 BK376 HB hx378_0 hx378_1 hx378_2 hx378_3 hx378_4 hx378_5 hx378_6 hx378_7 hHeld ⊢
             refine yP HT_ 0 75 (tB 1 10) rfl rfl ?_
             refine yT HT_ HW_ 1 76 (tB 3 10) rfl rfl hHeld ?_
             refine yT HT_ HW_ 2 77 (tB 7 10) rfl rfl hHeld ?_
             refine yT HT_ HW_ 7 82 (tB 135 10) rfl rfl hHeld ?_
             refine yI HT_ 3 (tB 143 10) rfl rfl fun K hK => ?_
             refine yc Tryd.func48 #[.agg #[.int .i64 a0_0, .string a0_1, .int .i64 a0_2, .int .i64 a0_3, .slice (some ad378) l0_4.length c0_4]] rfl rfl ?_
             with_reducible refine (haulageref08_Key.calls kj29 a0_0 a0_1 a0_2 a0_3 _ _ l0_4 t377 _ ?side1 ?side2 A66.out).mono ?_
             (case side1 => exact yW (Kd.C_below HR0_4.out HB.out))
             (case side2 => exact HC0_4.out)
             rintro e w157 ⟨rfl, hb⟩
             refine ⟨_, rfl, ?_⟩
             have n0_ := aM (kB (yK BK360) hb)
             have n1_ := aM (kB (yK BK361) hb)
             have n2_ := aM (kB (yK BK370) hb)
             have n3_ := aM (kB (yK BK376) hb)
             have n4_ := aM (bP (yG4 HB GE360.out GE361.out GE370.out GE376.out) hb)
             clear BK360
             clear BK361
             clear BK370
             clear BK376
             clear HB
             have BK360 := n0_
             have BK361 := n1_
             have BK370 := n2_
             have BK376 := n3_
             have HB := n4_
             clear n0_ n1_ n2_ n3_ n4_
             (try clear hb)
             (try clear hb2)
             (try clear hk)
             (try clear hi)
             refine hK.out _ _ ⟨yV BK360 0, yV BK360 1, yV BK360 2, yV BK360 3, yV BK360 4, yV BK361 0, yV BK361 1, yV BK361 2, (pw_cell_below HB.out hw378_0), (pw_cell_below HB.out hw378_1), (pw_cell_below HB.out hw378_2), (pw_cell_below HB.out hw378_3), (pw_cell_below HB.out hw378_4), (pw_cell_below HB.out hw378_5), (pw_cell_below HB.out hw378_6), (pw_cell_below HB.out hw378_7)⟩ (fun hHeld => ?_)
             clear hK K
             refine norm_ (a' := ?_) ?_ ?_
             rotate_left
             ·
              show Act.put _ (some 78) _ = _
              simp only [Act.put, s1_, s2_, s3_, i64_w, i32_w]
              rfl
             refine yP HT_ 4 79 (tB 159 10) rfl rfl ?_
             refine yP HT_ 5 80 (tB 191 10) rfl rfl ?_
             refine yT HT_ HW_ 6 81 (tB 255 10) rfl rfl hHeld ?_
             refine yI HT_ 8 (tB 511 10) rfl rfl fun K hK => ?_
             refine yc Tryd.func57 #[.agg #[.int .i64 ((rd_T54 l0_4 t377).f2.f0), .int .i64 ((rd_T54 l0_4 t377).f2.f1)], .agg #[.int .i64 a1_0, .int .i64 a1_1, .string a1_2]] rfl rfl ?_
             with_reducible refine (haulageref06_Fits.calls kj29 ((rd_T54 l0_4 t377).f2.f0) ((rd_T54 l0_4 t377).f2.f1) a1_0 a1_1 a1_2 false _ A69.out).mono ?_
             rintro e w158 ⟨rfl, hb⟩
             refine ⟨_, rfl, ?_⟩
             have n0_ := aM (kB (yK BK360) hb)
             have n1_ := aM (kB (yK BK361) hb)
             have n2_ := aM (kB (yK BK370) hb)
             have n3_ := aM (kB (yK BK376) hb)
             have n4_ := aM (bP (yG4 HB GE360.out GE361.out GE370.out GE376.out) hb)
             clear BK360
             clear BK361
             clear BK370
             clear BK376
             clear HB
             have BK360 := n0_
             have BK361 := n1_
             have BK370 := n2_
             have BK376 := n3_
             have HB := n4_
             clear n0_ n1_ n2_ n3_ n4_
             (try clear hb)
             (try clear hb2)
             (try clear hk)
             (try clear hi)
             refine hK.out _ _ ⟨yV BK360 0, yV BK360 1, yV BK360 2, yV BK360 3, yV BK360 4, yV BK361 0, yV BK361 1, yV BK361 2, (pw_cell_below HB.out hw378_0), (pw_cell_below HB.out hw378_1), (pw_cell_below HB.out hw378_2), (pw_cell_below HB.out hw378_3), (pw_cell_below HB.out hw378_4), (pw_cell_below HB.out hw378_5), (pw_cell_below HB.out hw378_6), (pw_cell_below HB.out hw378_7)⟩ (fun hHeld => ?_)
             clear hK K
             refine norm_ (a' := ?_) ?_ ?_
             rotate_left
             ·
              show Act.put _ (some 83) _ = _
              simp only [Act.put, s1_, s2_, s3_, i64_w, i32_w]
              rfl
             refine yP HT_ 9 84 (tB 1023 10) rfl rfl ?_
             refine done_ (done_of HT_.out (by kernel_rfl)) ?_
             try go_wp2
             go_ret
             exact ⟨yE, yG4 HB GE360.out GE361.out GE370.out GE376.out⟩
          ·
           rw [if_neg c68] at H
           exact absurd H (by simp)
         ·
          rw [if_neg c67] at H
          exact absurd H (by simp)
     ·
      replace c28 := Bool.eq_false_iff.mpr c28
      subst c28
      replace H := yf H
      by_cases c159 : t364.toList = ([] : List UInt8)
      ·
       rw [if_pos c159] at H
       have c159b0 : (t364.toList == ([] : List UInt8)) = true := beq_iff_eq.mpr c159
       have c159b1 : (t364.toList != ([] : List UInt8)) = false := bne_eq_false_iff_eq.mpr c159
       clear c159
       by_cases c160 : t365 = 2
       ·
        rw [if_pos c160] at H
        have c160b0 : (t365 == 2) = true := beq_iff_eq.mpr c160
        have c160b1 : (t365 != 2) = false := bne_eq_false_iff_eq.mpr c160
        clear c160
        by_cases c161 : (t366 == 0 && (t367 == 0 && (t368.toList == ([] : List UInt8)))) = true
        ·
         rw [if_pos c161] at H
         have c161b0 : (t366 == 0 && (t367 == 0 && (t368.toList == ([] : List UInt8)))) = true := c161
         (try have c161b0_e : (t366 == 0 && (t367 == 0 && ((t368.toList.isEmpty)))) = true := by have h_ := c161b0; simp only [hp_nil] at h_; exact h_)
         (try (have c161b1 : decide (t366 = 0 && (t367 == 0 && (t368.toList == ([] : List UInt8)))) = true := by simpa using c161))
         (try have c161b1_e : decide (t366 = 0 && (t367 == 0 && ((t368.toList.isEmpty)))) = true := by have h_ := c161b1; simp only [hp_nil] at h_; exact h_)
         (try (have c161b2 : (t366 == 0 && (t367 == 0 && (t368.toList == ([] : List UInt8)))) = true := by simpa using c161))
         (try have c161b2_e : (t366 == 0 && (t367 == 0 && ((t368.toList.isEmpty)))) = true := by have h_ := c161b2; simp only [hp_nil] at h_; exact h_)
         clear c161
         obtain rfl := Option.some.inj H
         have hnb162 := NB360_361.out
         have hnc162 := NB361_360.out
         obtain ⟨hcz163_0, hcz163_1, hcz163_2, hcz163_3, hcz163_4, hfz163_0, hfz163_1, hfz163_2, hfz163_3, hfz163_4⟩ := cells5 BK360.out
         obtain ⟨hcz164_0, hcz164_1, hcz164_2, hfz164_0, hfz164_1, hfz164_2⟩ := cells3 BK361.out
         go_wp2_with (first | ((with_reducible refine gate_callee (f := 54) rfl ?_); refine yC 34 Tryd.func54 #[.agg #[.int .i64 a0_0, .string a0_1, .int .i64 a0_2, .int .i64 a0_3, .slice A0_4 l0_4.length c0_4], .agg #[.int .i64 a1_0, .int .i64 a1_1, .string a1_2]] rfl ?_; (with_reducible refine (rowcode_Key.calls kj5 a0_0 a0_1 a0_2 a0_3 _ _ l0_4 a1_0 a1_1 a1_2 t364 t365 _ ?side1 ?side2 ?side3 A25.out).mono ?_); (case side1 => exact yW (Kd.C_below HR0_4.out HB.out)); (case side2 => exact HC0_4.out); (case side3 => first | (with_reducible exact HG.out) | exact Glob.below HG.out (yG2 HB GE360.out GE361.out)); rintro e w165 ⟨rfl, hb⟩; refine ⟨_, rfl, ?_⟩; replace BK360 := aM (kB (yK BK360) hb); replace BK361 := aM (kB (yK BK361) hb); replace HB := aM (bP (yG2 HB GE360.out GE361.out) hb); (try clear hb); obtain ⟨hcz166_0, hcz166_1, hcz166_2, hcz166_3, hcz166_4, hfz166_0, hfz166_1, hfz166_2, hfz166_3, hfz166_4⟩ := cells5 BK360.out) | ((with_reducible refine gate_callee (f := 55) rfl ?_); refine yC 40 Tryd.func55 #[.agg #[.int .i64 a0_0, .string a0_1, .int .i64 a0_2, .int .i64 a0_3, .slice A0_4 l0_4.length c0_4], .string a2] rfl ?_; (with_reducible refine (rowcode_ReadKey.calls kj5 a0_0 a0_1 a0_2 a0_3 _ _ l0_4 a2 t366 t367 t368 t369 _ ?side1 ?side2 ?side3 A26.out).mono ?_); (case side1 => exact yW (Kd.C_below HR0_4.out HB.out)); (case side2 => exact HC0_4.out); (case side3 => first | (with_reducible exact HG.out) | exact Glob.below HG.out (yG2 HB GE360.out GE361.out)); rintro e w167 ⟨rfl, hb⟩; refine ⟨_, rfl, ?_⟩; replace BK360 := aM (kB (yK BK360) hb); replace BK361 := aM (kB (yK BK361) hb); replace HB := aM (bP (yG2 HB GE360.out GE361.out) hb); (try clear hb)) | ((with_reducible refine gate_dst (N := 9) rfl ?_); (try (refine gate_guard (by rfl) ?_; dsimp only)); refine yX (N := 9) (cs := #[.int .i64 0, .int .i64 0, .string (⟨#[]⟩ : ByteArray)]) (t := 52) ?_; intro gb370 hg w168 hbox hb; have BK370 := aM (hbox); have GW370 := yZ hg (yG2 HB GE360.out GE361.out); have GE370 := yZ hg (yG2 HB GE360.out GE361.out); replace HB := aM (bP (yG2 HB GE360.out GE361.out) hb); have NB360_370 := yN hg (yK BK360); have NB370_360 := yM hg (yK BK360); replace BK360 := aM (kB (yK BK360) hb); have NB361_370 := yN hg (yK BK361); have NB370_361 := yM hg (yK BK361); replace BK361 := aM (kB (yK BK361) hb); clear hb hbox hg; have hnb169 := NB370_360.out; have hnc169 := NB360_370.out; have hnb170 := NB370_361.out; have hnc170 := NB361_370.out; obtain ⟨hcz171_0, hcz171_1, hcz171_2, hfz171_0, hfz171_1, hfz171_2⟩ := cells3 BK370.out; obtain ⟨hcz172_0, hcz172_1, hcz172_2, hcz172_3, hcz172_4, hfz172_0, hfz172_1, hfz172_2, hfz172_3, hfz172_4⟩ := cells5 BK360.out) | ((with_reducible refine gate_callee (f := 27) rfl ?_); refine yC 44 Tryd.func27 #[.agg #[.int .i64 a0_0, .string a0_1, .int .i64 a0_2, .int .i64 a0_3, .slice A0_4 l0_4.length c0_4]] rfl ?_; (with_reducible refine (haulageref08_Table.calls kj5 a0_0 a0_1 a0_2 a0_3 _ _ l0_4 false _ ?side1 ?side2 A27.out).mono ?_); (case side1 => exact Kd.C_below HR0_4.out (yG3 HB GE360.out GE361.out GE370.out)); (case side2 => exact HC0_4.out); rintro e w173 ⟨rfl, hb⟩; refine ⟨_, rfl, ?_⟩; replace BK360 := aM (kB (yF1 BK360 NB360_370.out) hb); replace BK361 := aM (kB (yF1 BK361 NB361_370.out) hb); replace BK370 := aM (kB (puts3 BK370.out) hb); replace HB := aM (bP (yG3 HB GE360.out GE361.out GE370.out) hb); (try clear hb); obtain ⟨hcz174_0, hcz174_1, hcz174_2, hfz174_0, hfz174_1, hfz174_2⟩ := cells3 BK370.out))
         go_ret
         exact ⟨yE, yG3 HB GE360.out GE361.out GE370.out⟩
        ·
         rw [if_neg c161] at H
         have c161b0 : (t366 == 0 && (t367 == 0 && (t368.toList == ([] : List UInt8)))) = false := by simpa using c161
         (try have c161b0_e : (t366 == 0 && (t367 == 0 && ((t368.toList.isEmpty)))) = false := by have h_ := c161b0; simp only [hp_nil] at h_; exact h_)
         (try (have c161b1 : decide (t366 = 0 && (t367 == 0 && (t368.toList == ([] : List UInt8)))) = false := by simpa using c161))
         (try have c161b1_e : decide (t366 = 0 && (t367 == 0 && ((t368.toList.isEmpty)))) = false := by have h_ := c161b1; simp only [hp_nil] at h_; exact h_)
         (try (have c161b2 : (t366 == 0 && (t367 == 0 && (t368.toList == ([] : List UInt8)))) = false := by simpa using c161))
         (try have c161b2_e : (t366 == 0 && (t367 == 0 && ((t368.toList.isEmpty)))) = false := by have h_ := c161b2; simp only [hp_nil] at h_; exact h_)
         (try (have c161b3 : ¬ (t366 = 0 && (t367 == 0 && (t368.toList == ([] : List UInt8)))) := by simpa using c161))
         (try have c161b3_e : ¬ (t366 = 0 && (t367 == 0 && ((t368.toList.isEmpty)))) := by have h_ := c161b3; simp only [hp_nil] at h_; exact h_)
         clear c161
         obtain rfl := Option.some.inj H
         have hnb175 := NB360_361.out
         have hnc175 := NB361_360.out
         obtain ⟨hcz176_0, hcz176_1, hcz176_2, hcz176_3, hcz176_4, hfz176_0, hfz176_1, hfz176_2, hfz176_3, hfz176_4⟩ := cells5 BK360.out
         obtain ⟨hcz177_0, hcz177_1, hcz177_2, hfz177_0, hfz177_1, hfz177_2⟩ := cells3 BK361.out
         go_wp2_with (first | ((with_reducible refine gate_callee (f := 54) rfl ?_); refine yC 34 Tryd.func54 #[.agg #[.int .i64 a0_0, .string a0_1, .int .i64 a0_2, .int .i64 a0_3, .slice A0_4 l0_4.length c0_4], .agg #[.int .i64 a1_0, .int .i64 a1_1, .string a1_2]] rfl ?_; (with_reducible refine (rowcode_Key.calls kj5 a0_0 a0_1 a0_2 a0_3 _ _ l0_4 a1_0 a1_1 a1_2 t364 t365 _ ?side1 ?side2 ?side3 A25.out).mono ?_); (case side1 => exact yW (Kd.C_below HR0_4.out HB.out)); (case side2 => exact HC0_4.out); (case side3 => first | (with_reducible exact HG.out) | exact Glob.below HG.out (yG2 HB GE360.out GE361.out)); rintro e w178 ⟨rfl, hb⟩; refine ⟨_, rfl, ?_⟩; replace BK360 := aM (kB (yK BK360) hb); replace BK361 := aM (kB (yK BK361) hb); replace HB := aM (bP (yG2 HB GE360.out GE361.out) hb); (try clear hb); obtain ⟨hcz179_0, hcz179_1, hcz179_2, hcz179_3, hcz179_4, hfz179_0, hfz179_1, hfz179_2, hfz179_3, hfz179_4⟩ := cells5 BK360.out) | ((with_reducible refine gate_callee (f := 55) rfl ?_); refine yC 40 Tryd.func55 #[.agg #[.int .i64 a0_0, .string a0_1, .int .i64 a0_2, .int .i64 a0_3, .slice A0_4 l0_4.length c0_4], .string a2] rfl ?_; (with_reducible refine (rowcode_ReadKey.calls kj5 a0_0 a0_1 a0_2 a0_3 _ _ l0_4 a2 t366 t367 t368 t369 _ ?side1 ?side2 ?side3 A26.out).mono ?_); (case side1 => exact yW (Kd.C_below HR0_4.out HB.out)); (case side2 => exact HC0_4.out); (case side3 => first | (with_reducible exact HG.out) | exact Glob.below HG.out (yG2 HB GE360.out GE361.out)); rintro e w180 ⟨rfl, hb⟩; refine ⟨_, rfl, ?_⟩; replace BK360 := aM (kB (yK BK360) hb); replace BK361 := aM (kB (yK BK361) hb); replace HB := aM (bP (yG2 HB GE360.out GE361.out) hb); (try clear hb)) | ((with_reducible refine gate_dst (N := 9) rfl ?_); (try (refine gate_guard (by rfl) ?_; dsimp only)); refine yX (N := 9) (cs := #[.int .i64 0, .int .i64 0, .string (⟨#[]⟩ : ByteArray)]) (t := 52) ?_; intro gb370 hg w181 hbox hb; have BK370 := aM (hbox); have GW370 := yZ hg (yG2 HB GE360.out GE361.out); have GE370 := yZ hg (yG2 HB GE360.out GE361.out); replace HB := aM (bP (yG2 HB GE360.out GE361.out) hb); have NB360_370 := yN hg (yK BK360); have NB370_360 := yM hg (yK BK360); replace BK360 := aM (kB (yK BK360) hb); have NB361_370 := yN hg (yK BK361); have NB370_361 := yM hg (yK BK361); replace BK361 := aM (kB (yK BK361) hb); clear hb hbox hg; have hnb182 := NB370_360.out; have hnc182 := NB360_370.out; have hnb183 := NB370_361.out; have hnc183 := NB361_370.out; obtain ⟨hcz184_0, hcz184_1, hcz184_2, hfz184_0, hfz184_1, hfz184_2⟩ := cells3 BK370.out; obtain ⟨hcz185_0, hcz185_1, hcz185_2, hcz185_3, hcz185_4, hfz185_0, hfz185_1, hfz185_2, hfz185_3, hfz185_4⟩ := cells5 BK360.out) | ((with_reducible refine gate_callee (f := 27) rfl ?_); refine yC 44 Tryd.func27 #[.agg #[.int .i64 a0_0, .string a0_1, .int .i64 a0_2, .int .i64 a0_3, .slice A0_4 l0_4.length c0_4]] rfl ?_; (with_reducible refine (haulageref08_Table.calls kj5 a0_0 a0_1 a0_2 a0_3 _ _ l0_4 false _ ?side1 ?side2 A27.out).mono ?_); (case side1 => exact Kd.C_below HR0_4.out (yG3 HB GE360.out GE361.out GE370.out)); (case side2 => exact HC0_4.out); rintro e w186 ⟨rfl, hb⟩; refine ⟨_, rfl, ?_⟩; replace BK360 := aM (kB (yF1 BK360 NB360_370.out) hb); replace BK361 := aM (kB (yF1 BK361 NB361_370.out) hb); replace BK370 := aM (kB (puts3 BK370.out) hb); replace HB := aM (bP (yG3 HB GE360.out GE361.out GE370.out) hb); (try clear hb); obtain ⟨hcz187_0, hcz187_1, hcz187_2, hfz187_0, hfz187_1, hfz187_2⟩ := cells3 BK370.out))
         go_ret
         exact ⟨yE, yG3 HB GE360.out GE361.out GE370.out⟩
       ·
        rw [if_neg c160] at H
        have c160b0 : (t365 == 2) = false := beq_eq_false_iff_ne.mpr c160
        have c160b1 : (t365 != 2) = true := bne_iff_ne.mpr c160
        obtain rfl := Option.some.inj H
        have hnb188 := NB360_361.out
        have hnc188 := NB361_360.out
        obtain ⟨hcz189_0, hcz189_1, hcz189_2, hcz189_3, hcz189_4, hfz189_0, hfz189_1, hfz189_2, hfz189_3, hfz189_4⟩ := cells5 BK360.out
        obtain ⟨hcz190_0, hcz190_1, hcz190_2, hfz190_0, hfz190_1, hfz190_2⟩ := cells3 BK361.out
        go_wp2_with (first | ((with_reducible refine gate_callee (f := 54) rfl ?_); refine yC 34 Tryd.func54 #[.agg #[.int .i64 a0_0, .string a0_1, .int .i64 a0_2, .int .i64 a0_3, .slice A0_4 l0_4.length c0_4], .agg #[.int .i64 a1_0, .int .i64 a1_1, .string a1_2]] rfl ?_; (with_reducible refine (rowcode_Key.calls kj5 a0_0 a0_1 a0_2 a0_3 _ _ l0_4 a1_0 a1_1 a1_2 t364 t365 _ ?side1 ?side2 ?side3 A25.out).mono ?_); (case side1 => exact yW (Kd.C_below HR0_4.out HB.out)); (case side2 => exact HC0_4.out); (case side3 => first | (with_reducible exact HG.out) | exact Glob.below HG.out (yG2 HB GE360.out GE361.out)); rintro e w191 ⟨rfl, hb⟩; refine ⟨_, rfl, ?_⟩; replace BK360 := aM (kB (yK BK360) hb); replace BK361 := aM (kB (yK BK361) hb); replace HB := aM (bP (yG2 HB GE360.out GE361.out) hb); (try clear hb); obtain ⟨hcz192_0, hcz192_1, hcz192_2, hcz192_3, hcz192_4, hfz192_0, hfz192_1, hfz192_2, hfz192_3, hfz192_4⟩ := cells5 BK360.out) | ((with_reducible refine gate_callee (f := 55) rfl ?_); refine yC 40 Tryd.func55 #[.agg #[.int .i64 a0_0, .string a0_1, .int .i64 a0_2, .int .i64 a0_3, .slice A0_4 l0_4.length c0_4], .string a2] rfl ?_; (with_reducible refine (rowcode_ReadKey.calls kj5 a0_0 a0_1 a0_2 a0_3 _ _ l0_4 a2 t366 t367 t368 t369 _ ?side1 ?side2 ?side3 A26.out).mono ?_); (case side1 => exact yW (Kd.C_below HR0_4.out HB.out)); (case side2 => exact HC0_4.out); (case side3 => first | (with_reducible exact HG.out) | exact Glob.below HG.out (yG2 HB GE360.out GE361.out)); rintro e w193 ⟨rfl, hb⟩; refine ⟨_, rfl, ?_⟩; replace BK360 := aM (kB (yK BK360) hb); replace BK361 := aM (kB (yK BK361) hb); replace HB := aM (bP (yG2 HB GE360.out GE361.out) hb); (try clear hb)) | ((with_reducible refine gate_dst (N := 9) rfl ?_); (try (refine gate_guard (by rfl) ?_; dsimp only)); refine yX (N := 9) (cs := #[.int .i64 0, .int .i64 0, .string (⟨#[]⟩ : ByteArray)]) (t := 52) ?_; intro gb370 hg w194 hbox hb; have BK370 := aM (hbox); have GW370 := yZ hg (yG2 HB GE360.out GE361.out); have GE370 := yZ hg (yG2 HB GE360.out GE361.out); replace HB := aM (bP (yG2 HB GE360.out GE361.out) hb); have NB360_370 := yN hg (yK BK360); have NB370_360 := yM hg (yK BK360); replace BK360 := aM (kB (yK BK360) hb); have NB361_370 := yN hg (yK BK361); have NB370_361 := yM hg (yK BK361); replace BK361 := aM (kB (yK BK361) hb); clear hb hbox hg; have hnb195 := NB370_360.out; have hnc195 := NB360_370.out; have hnb196 := NB370_361.out; have hnc196 := NB361_370.out; obtain ⟨hcz197_0, hcz197_1, hcz197_2, hfz197_0, hfz197_1, hfz197_2⟩ := cells3 BK370.out; obtain ⟨hcz198_0, hcz198_1, hcz198_2, hcz198_3, hcz198_4, hfz198_0, hfz198_1, hfz198_2, hfz198_3, hfz198_4⟩ := cells5 BK360.out) | ((with_reducible refine gate_callee (f := 27) rfl ?_); refine yC 44 Tryd.func27 #[.agg #[.int .i64 a0_0, .string a0_1, .int .i64 a0_2, .int .i64 a0_3, .slice A0_4 l0_4.length c0_4]] rfl ?_; (with_reducible refine (haulageref08_Table.calls kj5 a0_0 a0_1 a0_2 a0_3 _ _ l0_4 false _ ?side1 ?side2 A27.out).mono ?_); (case side1 => exact Kd.C_below HR0_4.out (yG3 HB GE360.out GE361.out GE370.out)); (case side2 => exact HC0_4.out); rintro e w199 ⟨rfl, hb⟩; refine ⟨_, rfl, ?_⟩; replace BK360 := aM (kB (yF1 BK360 NB360_370.out) hb); replace BK361 := aM (kB (yF1 BK361 NB361_370.out) hb); replace BK370 := aM (kB (puts3 BK370.out) hb); replace HB := aM (bP (yG3 HB GE360.out GE361.out GE370.out) hb); (try clear hb)))
        go_ret
        exact ⟨yE, yG3 HB GE360.out GE361.out GE370.out⟩
      ·
       rw [if_neg c159] at H
       have c159b0 : (t364.toList == ([] : List UInt8)) = false := beq_eq_false_iff_ne.mpr c159
       have c159b1 : (t364.toList != ([] : List UInt8)) = true := bne_iff_ne.mpr c159
       obtain rfl := Option.some.inj H
       have hnb200 := NB360_361.out
       have hnc200 := NB361_360.out
       obtain ⟨hcz201_0, hcz201_1, hcz201_2, hcz201_3, hcz201_4, hfz201_0, hfz201_1, hfz201_2, hfz201_3, hfz201_4⟩ := cells5 BK360.out
       obtain ⟨hcz202_0, hcz202_1, hcz202_2, hfz202_0, hfz202_1, hfz202_2⟩ := cells3 BK361.out
       go_wp2_with (first | ((with_reducible refine gate_callee (f := 54) rfl ?_); refine yC 34 Tryd.func54 #[.agg #[.int .i64 a0_0, .string a0_1, .int .i64 a0_2, .int .i64 a0_3, .slice A0_4 l0_4.length c0_4], .agg #[.int .i64 a1_0, .int .i64 a1_1, .string a1_2]] rfl ?_; (with_reducible refine (rowcode_Key.calls kj5 a0_0 a0_1 a0_2 a0_3 _ _ l0_4 a1_0 a1_1 a1_2 t364 t365 _ ?side1 ?side2 ?side3 A25.out).mono ?_); (case side1 => exact yW (Kd.C_below HR0_4.out HB.out)); (case side2 => exact HC0_4.out); (case side3 => first | (with_reducible exact HG.out) | exact Glob.below HG.out (yG2 HB GE360.out GE361.out)); rintro e w203 ⟨rfl, hb⟩; refine ⟨_, rfl, ?_⟩; replace BK360 := aM (kB (yK BK360) hb); replace BK361 := aM (kB (yK BK361) hb); replace HB := aM (bP (yG2 HB GE360.out GE361.out) hb); (try clear hb); obtain ⟨hcz204_0, hcz204_1, hcz204_2, hcz204_3, hcz204_4, hfz204_0, hfz204_1, hfz204_2, hfz204_3, hfz204_4⟩ := cells5 BK360.out) | ((with_reducible refine gate_callee (f := 55) rfl ?_); refine yC 40 Tryd.func55 #[.agg #[.int .i64 a0_0, .string a0_1, .int .i64 a0_2, .int .i64 a0_3, .slice A0_4 l0_4.length c0_4], .string a2] rfl ?_; (with_reducible refine (rowcode_ReadKey.calls kj5 a0_0 a0_1 a0_2 a0_3 _ _ l0_4 a2 t366 t367 t368 t369 _ ?side1 ?side2 ?side3 A26.out).mono ?_); (case side1 => exact yW (Kd.C_below HR0_4.out HB.out)); (case side2 => exact HC0_4.out); (case side3 => first | (with_reducible exact HG.out) | exact Glob.below HG.out (yG2 HB GE360.out GE361.out)); rintro e w205 ⟨rfl, hb⟩; refine ⟨_, rfl, ?_⟩; replace BK360 := aM (kB (yK BK360) hb); replace BK361 := aM (kB (yK BK361) hb); replace HB := aM (bP (yG2 HB GE360.out GE361.out) hb); (try clear hb)) | ((with_reducible refine gate_dst (N := 9) rfl ?_); (try (refine gate_guard (by rfl) ?_; dsimp only)); refine yX (N := 9) (cs := #[.int .i64 0, .int .i64 0, .string (⟨#[]⟩ : ByteArray)]) (t := 52) ?_; intro gb370 hg w206 hbox hb; have BK370 := aM (hbox); have GW370 := yZ hg (yG2 HB GE360.out GE361.out); have GE370 := yZ hg (yG2 HB GE360.out GE361.out); replace HB := aM (bP (yG2 HB GE360.out GE361.out) hb); have NB360_370 := yN hg (yK BK360); have NB370_360 := yM hg (yK BK360); replace BK360 := aM (kB (yK BK360) hb); have NB361_370 := yN hg (yK BK361); have NB370_361 := yM hg (yK BK361); replace BK361 := aM (kB (yK BK361) hb); clear hb hbox hg; have hnb207 := NB370_360.out; have hnc207 := NB360_370.out; have hnb208 := NB370_361.out; have hnc208 := NB361_370.out; obtain ⟨hcz209_0, hcz209_1, hcz209_2, hfz209_0, hfz209_1, hfz209_2⟩ := cells3 BK370.out; obtain ⟨hcz210_0, hcz210_1, hcz210_2, hcz210_3, hcz210_4, hfz210_0, hfz210_1, hfz210_2, hfz210_3, hfz210_4⟩ := cells5 BK360.out) | ((with_reducible refine gate_callee (f := 27) rfl ?_); refine yC 44 Tryd.func27 #[.agg #[.int .i64 a0_0, .string a0_1, .int .i64 a0_2, .int .i64 a0_3, .slice A0_4 l0_4.length c0_4]] rfl ?_; (with_reducible refine (haulageref08_Table.calls kj5 a0_0 a0_1 a0_2 a0_3 _ _ l0_4 false _ ?side1 ?side2 A27.out).mono ?_); (case side1 => exact Kd.C_below HR0_4.out (yG3 HB GE360.out GE361.out GE370.out)); (case side2 => exact HC0_4.out); rintro e w211 ⟨rfl, hb⟩; refine ⟨_, rfl, ?_⟩; replace BK360 := aM (kB (yF1 BK360 NB360_370.out) hb); replace BK361 := aM (kB (yF1 BK361 NB361_370.out) hb); replace BK370 := aM (kB (puts3 BK370.out) hb); replace HB := aM (bP (yG3 HB GE360.out GE361.out GE370.out) hb); (try clear hb)))
       go_ret
       exact ⟨yE, yG3 HB GE360.out GE361.out GE370.out⟩
 ·
  replace c5 := Bool.eq_false_iff.mpr c5
  subst c5
  replace H := yf H
  obtain rfl := Option.some.inj H
  go_enter Tryd.func12, Tryd.ntmps12
  go_wp2_with (first | ((with_reducible refine gate_dst (N := 3) rfl ?_); (try (refine gate_guard (by rfl) ?_; dsimp only)); refine yX (N := 3) (cs := #[.int .i64 a0_0, .string a0_1, .int .i64 a0_2, .int .i64 a0_3, .slice A0_4 l0_4.length c0_4]) (t := 24) ?_; intro gb360 hg w212 hbox hb; have BK360 := aM (hbox); have GW360 := yZ hg (yB HB); have GE360 := yZ hg (yB HB); replace HB := aM (bP (yB HB) hb); clear hb hbox hg) | ((with_reducible refine gate_dst (N := 4) rfl ?_); (try (refine gate_guard (by rfl) ?_; dsimp only)); refine yX (N := 4) (cs := #[.int .i64 a1_0, .int .i64 a1_1, .string a1_2]) (t := 52) ?_; intro gb361 hg w213 hbox hb; have BK361 := aM (hbox); have GW361 := yZ hg (yG1 HB GE360.out); have GE361 := yZ hg (yG1 HB GE360.out); replace HB := aM (bP (yG1 HB GE360.out) hb); have NB360_361 := yN hg (yK BK360); have NB361_360 := yM hg (yK BK360); replace BK360 := aM (kB (yK BK360) hb); clear hb hbox hg) | ((with_reducible refine gate_callee (f := 13) rfl ?_); refine yC 15 Tryd.func13 #[] rfl ?_; (with_reducible refine (haulagelaw12_lives.calls k  false _ ?side1 A4.out).mono ?_); (case side1 => first | (with_reducible exact HG.out) | exact Glob.below HG.out (yG2 HB GE360.out GE361.out)); rintro e w214 ⟨rfl, hb⟩; refine ⟨_, rfl, ?_⟩; replace BK360 := aM (kB (yK BK360) hb); replace BK361 := aM (kB (yK BK361) hb); replace HB := aM (bP (yG2 HB GE360.out GE361.out) hb); (try clear hb)))
  go_ret
  exact ⟨yE, yG2 HB GE360.out GE361.out⟩
end Go.Proofs.YtdeophpjammbpaaDoor.HRowcodeKeys

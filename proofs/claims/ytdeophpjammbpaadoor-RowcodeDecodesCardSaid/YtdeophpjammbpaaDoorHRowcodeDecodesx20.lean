/- For Go functions that RowcodeDecodes reaches: Lean functions, and walks that show that each call comes to what its Lean function tells; no condition but those that each theorem states. (Made by a program of this session over the kit's print.py.) -/
import Derived.Test.YtdeophpjammbpaaDoorHRowcodeDecodesx0
import Derived.Test.YtdeophpjammbpaaDoorHRowcodeDecodesx8
import Derived.Test.YtdeophpjammbpaaDoorHRowcodeDecodesx9
import Derived.Test.YtdeophpjammbpaaDoorHRowcodeDecodesx13
import Derived.Test.YtdeophpjammbpaaDoorHRowcodeDecodesx16
import Derived.Test.YtdeophpjammbpaaDoorHRowcodeDecodesx19
namespace Go.Proofs.YtdeophpjammbpaaDoor.HRowcodeDecodes
open Go.RowKit Go.Proofs.YtdeophpjammbpaaDoorW.PrintWords Go.Proofs.YtdeophpjammbpaaDoorW.PrintLast Go.Proofs.YtdeophpjammbpaaDoorW.PrintMore
attribute [local go_sem] max2_int min2_int max_two min_two max_three min_three max_four min_four   -- for this text's walks alone
set_option linter.unusedVariables false
set_option linter.unusedSimpArgs false
attribute [local go_sem] hp_s8 hp_s16 hp_s32 hp_s64 hp_m8 hp_m16 hp_m32 hp_m64
/-! ### haulagelaw12_RowcodeDecodes: function 9 -/
def haulagelaw12_RowcodeDecodes.j0 : Nat → ByteArray → Bool → Int → ByteArray → Int → Int → List (S54) → Option (Bool)
 | 0, _, _, _, _, _, _, _ => none
 | k + 1, x1, x18, x336000, x336001, x336002, x336003, x336004 => if x18 = true then (some true) else ((rowcode_Decode.f k x336000 x336001 x336002 x336003 x336004 x1).bind fun bt338 => ((haulageref08_Table.f k x336000 x336001 x336002 x336003 x336004).bind fun t342 => (if t342 = true then ((haulageref12_Decode.f k x336000 x336001 x336002 x336003 x336004 x1).bind fun bt343 => ((haulageref08_SameRow.f k bt338.1 bt343.1).bind fun t347 => (if t347 = true then (some (bt338.2 == bt343.2)) else (some false)))) else (if (bt338.1.length : Int) = 0 then (some (bt338.2 == 2)) else (some false)))))
def haulagelaw12_RowcodeDecodes.f (k : Nat) (a0_0 : Int) (a0_1 : ByteArray) (a0_2 : Int) (a0_3 : Int) (l0_4 : List (S54)) (a1 : ByteArray) : Option (Bool) := (haulagelaw12_lives.f k).bind fun t336 => (if t336 = true then ((haulagelaw08_Few.f k a0_0 a0_1 a0_2 a0_3 l0_4).bind fun t337 => (if t337 = true then (haulagelaw12_RowcodeDecodes.j0 k a1 (decide ((a1.size : Int) > 2000)) a0_0 a0_1 a0_2 a0_3 l0_4) else (haulagelaw12_RowcodeDecodes.j0 k a1 true a0_0 a0_1 a0_2 a0_3 l0_4))) else (some false))
theorem haulagelaw12_RowcodeDecodes.mono_l : ∀ k, (∀ y0 y1 y2 y3 y4 y5 y6, LeO (haulagelaw12_RowcodeDecodes.j0 k y0 y1 y2 y3 y4 y5 y6) (haulagelaw12_RowcodeDecodes.j0 (k + 1) y0 y1 y2 y3 y4 y5 y6))
 | 0 => fun _ _ _ _ _ _ _ r h => by simp [haulagelaw12_RowcodeDecodes.j0] at h
 | k + 1 => by
  have ih0 := haulagelaw12_RowcodeDecodes.mono_l k
  ·
   intro y0 y1 y2 y3 y4 y5 y6
   unfold haulagelaw12_RowcodeDecodes.j0
   repeat' first
   | (with_reducible exact ih0 _ _ _ _ _ _ _)
   | (with_reducible exact haulagelaw08_Few.mono _ _ _ _ _ _)
   | (with_reducible exact haulagelaw12_lives.mono _)
   | (with_reducible exact haulageref08_SameRow.mono _ _ _)
   | (with_reducible exact haulageref08_Table.mono _ _ _ _ _ _)
   | (with_reducible exact haulageref12_Decode.mono _ _ _ _ _ _ _)
   | (with_reducible exact rowcode_Decode.mono _ _ _ _ _ _ _)
   | (with_reducible exact LeO.refl _)
   | (with_reducible exact LeO.none _)
   | (with_reducible refine LeO.ite ?_ ?_)
   | (with_reducible refine LeO.bind ?_ (fun _ => ?_))
   | exact ih0 _ _ _ _ _ _ _
   | exact haulagelaw08_Few.mono _ _ _ _ _ _
   | exact haulagelaw12_lives.mono _
   | exact haulageref08_SameRow.mono _ _ _
   | exact haulageref08_Table.mono _ _ _ _ _ _
   | exact haulageref12_Decode.mono _ _ _ _ _ _ _
   | exact rowcode_Decode.mono _ _ _ _ _ _ _
   | exact LeO.none _
   | refine LeO.ite ?_ ?_
   | refine LeO.bind ?_ (fun _ => ?_)
theorem haulagelaw12_RowcodeDecodes.mono : ∀ a0 a1 a2 a3 a4 a5 k, LeO (haulagelaw12_RowcodeDecodes.f k a0 a1 a2 a3 a4 a5) (haulagelaw12_RowcodeDecodes.f (k + 1) a0 a1 a2 a3 a4 a5) := by
 intro a0 a1 a2 a3 a4 a5 k
 have ih0 := haulagelaw12_RowcodeDecodes.mono_l k
 unfold haulagelaw12_RowcodeDecodes.f
 repeat' first | with_reducible (first | exact ih0 .. | exact haulagelaw08_Few.mono .. | exact haulagelaw12_lives.mono .. | exact haulageref08_SameRow.mono .. | exact haulageref08_Table.mono .. | exact haulageref12_Decode.mono .. | exact rowcode_Decode.mono .. | exact LeO.refl .. | exact LeO.none .. | refine LeO.ite ?_ ?_ | refine LeO.bind ?_ (fun _ => ?_)) | exact ih0 .. | exact haulagelaw08_Few.mono .. | exact haulagelaw12_lives.mono .. | exact haulageref08_SameRow.mono .. | exact haulageref08_Table.mono .. | exact haulageref12_Decode.mono .. | exact rowcode_Decode.mono .. | exact LeO.none .. | refine LeO.ite ?_ ?_ | refine LeO.bind ?_ (fun _ => ?_)
set_option maxHeartbeats 8000000 in
set_option maxRecDepth 100000 in
theorem haulagelaw12_RowcodeDecodes.calls (k : Nat) (a0_0 : Int) (a0_1 : ByteArray) (a0_2 : Int) (a0_3 : Int) (A0_4 : Option Addr) (c0_4 : Nat) (l0_4 : List (S54)) (a1 : ByteArray) (r : Bool) (w : World) (hr0_4 : Kd.C k54 w A0_4 l0_4.length l0_4) (hc0_4 : l0_4.length ≤ c0_4) (hG : Glob w) (h : haulagelaw12_RowcodeDecodes.f k a0_0 a0_1 a0_2 a0_3 l0_4 a1 = some r) :
  Calls Tryd.prog 9 #[.agg #[.int .i64 a0_0, .string a0_1, .int .i64 a0_2, .int .i64 a0_3, .slice A0_4 l0_4.length c0_4], .string a1] w fun e w' => e = .returned (.bool r) ∧ Below w.heap.size w w' := by
 have hu24 := Tryd.underlying24
 have HR0_4 := aM hr0_4
 have HC0_4 := aM hc0_4
 clear hr0_4 hc0_4
 have HG := aM hG
 clear hG
 have HB := aM (Below.refl w.heap.size w)
 have H : ((haulagelaw12_lives.f k).bind fun t336 => (if t336 = true then ((haulagelaw08_Few.f k a0_0 a0_1 a0_2 a0_3 l0_4).bind fun t337 => (if t337 = true then (haulagelaw12_RowcodeDecodes.j0 k a1 (decide ((a1.size : Int) > 2000)) a0_0 a0_1 a0_2 a0_3 l0_4) else (haulagelaw12_RowcodeDecodes.j0 k a1 true a0_0 a0_1 a0_2 a0_3 l0_4))) else (some false))) = some r := h
 clear h
 obtain ⟨t336, A3, H⟩ := yb H
 by_cases c4 : t336 = true
 ·
  subst c4
  replace H := yt H
  have HC5 := aM H
  clear H
  go_enter Tryd.func9, Tryd.ntmps9
  go_upto_region 3 with (first | ((with_reducible refine gate_dst (N := 2) rfl ?_); (try (refine gate_guard (by rfl) ?_; dsimp only)); refine yX (N := 2) (cs := #[.int .i64 a0_0, .string a0_1, .int .i64 a0_2, .int .i64 a0_3, .slice A0_4 l0_4.length c0_4]) (t := 24) ?_; intro gb335 hg w6 hbox hb; have BK335 := aM (hbox); have GW335 := yZ hg (yB HB); have GE335 := yZ hg (yB HB); replace HB := aM (bP (yB HB) hb); clear hb hbox hg) | ((with_reducible refine gate_callee (f := 13) rfl ?_); refine yC 9 Tryd.func13 #[] rfl ?_; (with_reducible refine (haulagelaw12_lives.calls k  true _ ?side1 A3.out).mono ?_); (case side1 => first | (with_reducible exact HG.out) | exact Glob.below HG.out (yG1 HB GE335.out)); rintro e w7 ⟨rfl, hb⟩; refine ⟨_, rfl, ?_⟩; replace BK335 := aM (kB (yK BK335) hb); replace HB := aM (bP (yG1 HB GE335.out) hb); (try clear hb)))
  (try simp only [Act.put, s1_, s2_, s3_])
  go_cut [18] (fun v18 wc => ∃ (kq : Nat) (x18_4 : Bool), v18 = .bool x18_4 ∧ Aside0 (haulagelaw12_RowcodeDecodes.j0 kq a1 x18_4 a0_0 a0_1 a0_2 a0_3 l0_4 = some r) ∧ Aside0 (kq ≤ k) ∧ Aside0 (wc.heap[gb335]? = some (.cells #[.int .i64 a0_0, .string a0_1, .int .i64 a0_2, .int .i64 a0_3, (.slice A0_4 l0_4.length c0_4)] 24 (0, 0))) ∧ Aside0 (Below w.heap.size w wc))
  case first =>
   have H := HC5.out
   clear HC5
   obtain ⟨t337, A8, H⟩ := yb H
   by_cases c9 : t337 = true
   ·
    subst c9
    replace H := yt H
    have H' := aM H
    clear H
    obtain ⟨hcz10_0, hcz10_1, hcz10_2, hcz10_3, hcz10_4, hfz10_0, hfz10_1, hfz10_2, hfz10_3, hfz10_4⟩ := cells5 BK335.out
    go_wp2_with (first | ((with_reducible refine gate_callee (f := 14) rfl ?_); refine yC 12 Tryd.func14 #[.agg #[.int .i64 a0_0, .string a0_1, .int .i64 a0_2, .int .i64 a0_3, .slice A0_4 l0_4.length c0_4]] rfl ?_; (with_reducible refine (haulagelaw08_Few.calls k a0_0 a0_1 a0_2 a0_3 _ _ l0_4 true _ ?side1 ?side2 A8.out).mono ?_); (case side1 => exact yW (Kd.C_below HR0_4.out HB.out)); (case side2 => exact HC0_4.out); rintro e w11 ⟨rfl, hb⟩; refine ⟨_, rfl, ?_⟩; replace BK335 := aM (kB (yK BK335) hb); replace HB := aM (bP (yG1 HB GE335.out) hb); (try clear hb)))
    go_meet
    case rel => exact ⟨_, (decide ((a1.size : Int) > 2000)), yS, H', ⟨yO⟩, ⟨yK BK335⟩, ⟨yG1 HB GE335.out⟩⟩
   ·
    replace c9 := Bool.eq_false_iff.mpr c9
    subst c9
    replace H := yf H
    have H' := aM H
    clear H
    obtain ⟨hcz12_0, hcz12_1, hcz12_2, hcz12_3, hcz12_4, hfz12_0, hfz12_1, hfz12_2, hfz12_3, hfz12_4⟩ := cells5 BK335.out
    go_wp2_with (first | ((with_reducible refine gate_callee (f := 14) rfl ?_); refine yC 12 Tryd.func14 #[.agg #[.int .i64 a0_0, .string a0_1, .int .i64 a0_2, .int .i64 a0_3, .slice A0_4 l0_4.length c0_4]] rfl ?_; (with_reducible refine (haulagelaw08_Few.calls k a0_0 a0_1 a0_2 a0_3 _ _ l0_4 false _ ?side1 ?side2 A8.out).mono ?_); (case side1 => exact yW (Kd.C_below HR0_4.out HB.out)); (case side2 => exact HC0_4.out); rintro e w13 ⟨rfl, hb⟩; refine ⟨_, rfl, ?_⟩; replace BK335 := aM (kB (yK BK335) hb); replace HB := aM (bP (yG1 HB GE335.out) hb); (try clear hb)))
    go_meet
    case rel => exact ⟨_, (true), yS, H', ⟨yO⟩, ⟨yK BK335⟩, ⟨yG1 HB GE335.out⟩⟩
  case rest =>
   clear HC5
   try clear c4
   obtain ⟨kq, x18_4, rfl, HA, HJ4, BK335, HB⟩ := hcut
   cases kq with
   | zero => exact absurd HA.out (by simp [haulagelaw12_RowcodeDecodes.j0])
   | succ kj4 =>
    have H := HA.out
    clear HA
    simp only [haulagelaw12_RowcodeDecodes.j0] at H
    by_cases c14 : x18_4 = true
    ·
     subst c14
     replace H := yt H
     obtain rfl := Option.some.inj H
     go_wp2
     go_ret
     exact ⟨yE, yG1 HB GE335.out⟩
    ·
     replace c14 := Bool.eq_false_iff.mpr c14
     subst c14
     replace H := yf H
     obtain ⟨⟨t338, t341⟩, A15, H⟩ := yb H
     try dsimp -simprocs only at H
     obtain ⟨t342, A16, H⟩ := yb H
     by_cases c17 : t342 = true
     ·
      subst c17
      replace H := yt H
      obtain ⟨⟨t343, t346⟩, A18, H⟩ := yb H
      try dsimp -simprocs only at H
      obtain ⟨t347, A19, H⟩ := yb H
      by_cases c20 : t347 = true
      ·
       subst c20
       replace H := yt H
       obtain rfl := Option.some.inj H
       obtain ⟨hcz21_0, hcz21_1, hcz21_2, hcz21_3, hcz21_4, hfz21_0, hfz21_1, hfz21_2, hfz21_3, hfz21_4⟩ := cells5 BK335.out
       go_wp2_with (first | ((with_reducible refine gate_callee (f := 51) rfl ?_); refine yC 22 Tryd.func51 #[.agg #[.int .i64 a0_0, .string a0_1, .int .i64 a0_2, .int .i64 a0_3, .slice A0_4 l0_4.length c0_4], .string a1] rfl ?_; (with_reducible refine (rowcode_Decode.calls kj4 a0_0 a0_1 a0_2 a0_3 _ _ l0_4 a1 t338 t341 _ ?side1 ?side2 ?side3 A15.out).mono ?_); (case side1 => exact yW (Kd.C_below HR0_4.out HB.out)); (case side2 => exact HC0_4.out); (case side3 => first | (with_reducible exact HG.out) | exact Glob.below HG.out (yG1 HB GE335.out)); rintro e w22 ⟨v339, rfl, ho0, hb⟩; refine ⟨_, rfl, ?_⟩; have HO340 := aM (Kd.R_lower ho0 (bZ (yG1 HB GE335.out))); replace BK335 := aM (kB (yK BK335) hb); replace HB := aM (bP (yG1 HB GE335.out) hb); (try clear hb); (try clear ho0); obtain ⟨hcz23_0, hcz23_1, hcz23_2, hcz23_3, hcz23_4, hfz23_0, hfz23_1, hfz23_2, hfz23_3, hfz23_4⟩ := cells5 BK335.out) | ((with_reducible refine gate_callee (f := 27) rfl ?_); refine yC 26 Tryd.func27 #[.agg #[.int .i64 a0_0, .string a0_1, .int .i64 a0_2, .int .i64 a0_3, .slice A0_4 l0_4.length c0_4]] rfl ?_; (with_reducible refine (haulageref08_Table.calls kj4 a0_0 a0_1 a0_2 a0_3 _ _ l0_4 true _ ?side1 ?side2 A16.out).mono ?_); (case side1 => exact yW (Kd.C_below HR0_4.out HB.out)); (case side2 => exact HC0_4.out); rintro e w24 ⟨rfl, hb⟩; refine ⟨_, rfl, ?_⟩; replace HO340 := aM (Kd.R_below (yR HO340.out) hb); replace BK335 := aM (kB (yK BK335) hb); replace HB := aM (bP (yG1 HB GE335.out) hb); (try clear hb); obtain ⟨hcz25_0, hcz25_1, hcz25_2, hcz25_3, hcz25_4, hfz25_0, hfz25_1, hfz25_2, hfz25_3, hfz25_4⟩ := cells5 BK335.out) | ((with_reducible refine gate_callee (f := 52) rfl ?_); refine yC 38 Tryd.func52 #[.agg #[.int .i64 a0_0, .string a0_1, .int .i64 a0_2, .int .i64 a0_3, .slice A0_4 l0_4.length c0_4], .string a1] rfl ?_; (with_reducible refine (haulageref12_Decode.calls kj4 a0_0 a0_1 a0_2 a0_3 _ _ l0_4 a1 t343 t346 _ ?side1 ?side2 A18.out).mono ?_); (case side1 => exact yW (Kd.C_below HR0_4.out HB.out)); (case side2 => exact HC0_4.out); rintro e w26 ⟨v344, rfl, ho0, hb⟩; refine ⟨_, rfl, ?_⟩; have HO345 := aM (Kd.R_lower (Kd.R_new' ho0 (Kd.R_lt (yR HO340.out))) (bZ (yG1 HB GE335.out))); replace HO340 := aM (Kd.R_elder' (yR HO340.out) (Kd.R_base ho0) hb); replace BK335 := aM (kB (yK BK335) hb); replace HB := aM (bP (yG1 HB GE335.out) hb); (try clear hb); (try clear ho0); obtain ⟨Ao27, co27, eo27⟩ := Kd.R_slice HO340.out; subst eo27; obtain ⟨Ao28, co28, eo28⟩ := Kd.R_slice HO345.out; subst eo28) | ((with_reducible refine gate_callee (f := 23) rfl ?_); refine yC 43 Tryd.func23 #[.slice Ao27 t338.length co27, .slice Ao28 t343.length co28] rfl ?_; (with_reducible refine (haulageref08_SameRow.calls kj4 _ _ t338 _ _ t343 true _ ?side1 ?side2 ?side3 ?side4 A19.out).mono ?_); (case side1 => exact yW (Kd.R_reads' HO340.out).2.2); (case side2 => exact (Kd.R_reads' HO340.out).2.1); (case side3 => exact yW (Kd.R_reads' HO345.out).2.2); (case side4 => exact (Kd.R_reads' HO345.out).2.1); rintro e w' ⟨rfl, ⟨nd, rfl⟩⟩; refine ⟨_, rfl, ?_⟩))
       go_ret
       exact ⟨yE, yG1 HB GE335.out⟩
      ·
       replace c20 := Bool.eq_false_iff.mpr c20
       subst c20
       replace H := yf H
       obtain rfl := Option.some.inj H
       obtain ⟨hcz29_0, hcz29_1, hcz29_2, hcz29_3, hcz29_4, hfz29_0, hfz29_1, hfz29_2, hfz29_3, hfz29_4⟩ := cells5 BK335.out
       go_wp2_with (first | ((with_reducible refine gate_callee (f := 51) rfl ?_); refine yC 22 Tryd.func51 #[.agg #[.int .i64 a0_0, .string a0_1, .int .i64 a0_2, .int .i64 a0_3, .slice A0_4 l0_4.length c0_4], .string a1] rfl ?_; (with_reducible refine (rowcode_Decode.calls kj4 a0_0 a0_1 a0_2 a0_3 _ _ l0_4 a1 t338 t341 _ ?side1 ?side2 ?side3 A15.out).mono ?_); (case side1 => exact yW (Kd.C_below HR0_4.out HB.out)); (case side2 => exact HC0_4.out); (case side3 => first | (with_reducible exact HG.out) | exact Glob.below HG.out (yG1 HB GE335.out)); rintro e w30 ⟨v339, rfl, ho0, hb⟩; refine ⟨_, rfl, ?_⟩; have HO340 := aM (Kd.R_lower ho0 (bZ (yG1 HB GE335.out))); replace BK335 := aM (kB (yK BK335) hb); replace HB := aM (bP (yG1 HB GE335.out) hb); (try clear hb); (try clear ho0); obtain ⟨hcz31_0, hcz31_1, hcz31_2, hcz31_3, hcz31_4, hfz31_0, hfz31_1, hfz31_2, hfz31_3, hfz31_4⟩ := cells5 BK335.out) | ((with_reducible refine gate_callee (f := 27) rfl ?_); refine yC 26 Tryd.func27 #[.agg #[.int .i64 a0_0, .string a0_1, .int .i64 a0_2, .int .i64 a0_3, .slice A0_4 l0_4.length c0_4]] rfl ?_; (with_reducible refine (haulageref08_Table.calls kj4 a0_0 a0_1 a0_2 a0_3 _ _ l0_4 true _ ?side1 ?side2 A16.out).mono ?_); (case side1 => exact yW (Kd.C_below HR0_4.out HB.out)); (case side2 => exact HC0_4.out); rintro e w32 ⟨rfl, hb⟩; refine ⟨_, rfl, ?_⟩; replace HO340 := aM (Kd.R_below (yR HO340.out) hb); replace BK335 := aM (kB (yK BK335) hb); replace HB := aM (bP (yG1 HB GE335.out) hb); (try clear hb); obtain ⟨hcz33_0, hcz33_1, hcz33_2, hcz33_3, hcz33_4, hfz33_0, hfz33_1, hfz33_2, hfz33_3, hfz33_4⟩ := cells5 BK335.out) | ((with_reducible refine gate_callee (f := 52) rfl ?_); refine yC 38 Tryd.func52 #[.agg #[.int .i64 a0_0, .string a0_1, .int .i64 a0_2, .int .i64 a0_3, .slice A0_4 l0_4.length c0_4], .string a1] rfl ?_; (with_reducible refine (haulageref12_Decode.calls kj4 a0_0 a0_1 a0_2 a0_3 _ _ l0_4 a1 t343 t346 _ ?side1 ?side2 A18.out).mono ?_); (case side1 => exact yW (Kd.C_below HR0_4.out HB.out)); (case side2 => exact HC0_4.out); rintro e w34 ⟨v344, rfl, ho0, hb⟩; refine ⟨_, rfl, ?_⟩; have HO345 := aM (Kd.R_lower (Kd.R_new' ho0 (Kd.R_lt (yR HO340.out))) (bZ (yG1 HB GE335.out))); replace HO340 := aM (Kd.R_elder' (yR HO340.out) (Kd.R_base ho0) hb); replace BK335 := aM (kB (yK BK335) hb); replace HB := aM (bP (yG1 HB GE335.out) hb); (try clear hb); (try clear ho0); obtain ⟨Ao35, co35, eo35⟩ := Kd.R_slice HO340.out; subst eo35; obtain ⟨Ao36, co36, eo36⟩ := Kd.R_slice HO345.out; subst eo36) | ((with_reducible refine gate_callee (f := 23) rfl ?_); refine yC 43 Tryd.func23 #[.slice Ao35 t338.length co35, .slice Ao36 t343.length co36] rfl ?_; (with_reducible refine (haulageref08_SameRow.calls kj4 _ _ t338 _ _ t343 false _ ?side1 ?side2 ?side3 ?side4 A19.out).mono ?_); (case side1 => exact yW (Kd.R_reads' HO340.out).2.2); (case side2 => exact (Kd.R_reads' HO340.out).2.1); (case side3 => exact yW (Kd.R_reads' HO345.out).2.2); (case side4 => exact (Kd.R_reads' HO345.out).2.1); rintro e w' ⟨rfl, ⟨nd, rfl⟩⟩; refine ⟨_, rfl, ?_⟩))
       go_ret
       exact ⟨yE, yG1 HB GE335.out⟩
     ·
      replace c17 := Bool.eq_false_iff.mpr c17
      subst c17
      replace H := yf H
      by_cases c37 : (t338.length : Int) = 0
      ·
       rw [if_pos c37] at H
       have c37b0 : ((t338.length : Int) == 0) = true := beq_iff_eq.mpr c37
       have c37b1 : ((t338.length : Int) != 0) = false := bne_eq_false_iff_eq.mpr c37
       clear c37
       obtain rfl := Option.some.inj H
       obtain ⟨hcz38_0, hcz38_1, hcz38_2, hcz38_3, hcz38_4, hfz38_0, hfz38_1, hfz38_2, hfz38_3, hfz38_4⟩ := cells5 BK335.out
       go_wp2_with (first | ((with_reducible refine gate_callee (f := 51) rfl ?_); refine yC 22 Tryd.func51 #[.agg #[.int .i64 a0_0, .string a0_1, .int .i64 a0_2, .int .i64 a0_3, .slice A0_4 l0_4.length c0_4], .string a1] rfl ?_; (with_reducible refine (rowcode_Decode.calls kj4 a0_0 a0_1 a0_2 a0_3 _ _ l0_4 a1 t338 t341 _ ?side1 ?side2 ?side3 A15.out).mono ?_); (case side1 => exact yW (Kd.C_below HR0_4.out HB.out)); (case side2 => exact HC0_4.out); (case side3 => first | (with_reducible exact HG.out) | exact Glob.below HG.out (yG1 HB GE335.out)); rintro e w39 ⟨v339, rfl, ho0, hb⟩; refine ⟨_, rfl, ?_⟩; have HO340 := aM (Kd.R_lower ho0 (bZ (yG1 HB GE335.out))); replace BK335 := aM (kB (yK BK335) hb); replace HB := aM (bP (yG1 HB GE335.out) hb); (try clear hb); (try clear ho0); obtain ⟨hcz40_0, hcz40_1, hcz40_2, hcz40_3, hcz40_4, hfz40_0, hfz40_1, hfz40_2, hfz40_3, hfz40_4⟩ := cells5 BK335.out) | ((with_reducible refine gate_callee (f := 27) rfl ?_); refine yC 26 Tryd.func27 #[.agg #[.int .i64 a0_0, .string a0_1, .int .i64 a0_2, .int .i64 a0_3, .slice A0_4 l0_4.length c0_4]] rfl ?_; (with_reducible refine (haulageref08_Table.calls kj4 a0_0 a0_1 a0_2 a0_3 _ _ l0_4 false _ ?side1 ?side2 A16.out).mono ?_); (case side1 => exact yW (Kd.C_below HR0_4.out HB.out)); (case side2 => exact HC0_4.out); rintro e w41 ⟨rfl, hb⟩; refine ⟨_, rfl, ?_⟩; replace HO340 := aM (Kd.R_below (yR HO340.out) hb); replace BK335 := aM (kB (yK BK335) hb); replace HB := aM (bP (yG1 HB GE335.out) hb); (try clear hb); obtain ⟨Ao42, co42, eo42⟩ := Kd.R_slice HO340.out; subst eo42))
       go_ret
       exact ⟨yE, yG1 HB GE335.out⟩
      ·
       rw [if_neg c37] at H
       have c37b0 : ((t338.length : Int) == 0) = false := beq_eq_false_iff_ne.mpr c37
       have c37b1 : ((t338.length : Int) != 0) = true := bne_iff_ne.mpr c37
       have c37b2 : ¬ (t338 = []) := fun h_ => c37 (by rw [h_]; rfl)
       obtain rfl := Option.some.inj H
       obtain ⟨hcz43_0, hcz43_1, hcz43_2, hcz43_3, hcz43_4, hfz43_0, hfz43_1, hfz43_2, hfz43_3, hfz43_4⟩ := cells5 BK335.out
       go_wp2_with (first | ((with_reducible refine gate_callee (f := 51) rfl ?_); refine yC 22 Tryd.func51 #[.agg #[.int .i64 a0_0, .string a0_1, .int .i64 a0_2, .int .i64 a0_3, .slice A0_4 l0_4.length c0_4], .string a1] rfl ?_; (with_reducible refine (rowcode_Decode.calls kj4 a0_0 a0_1 a0_2 a0_3 _ _ l0_4 a1 t338 t341 _ ?side1 ?side2 ?side3 A15.out).mono ?_); (case side1 => exact yW (Kd.C_below HR0_4.out HB.out)); (case side2 => exact HC0_4.out); (case side3 => first | (with_reducible exact HG.out) | exact Glob.below HG.out (yG1 HB GE335.out)); rintro e w44 ⟨v339, rfl, ho0, hb⟩; refine ⟨_, rfl, ?_⟩; have HO340 := aM (Kd.R_lower ho0 (bZ (yG1 HB GE335.out))); replace BK335 := aM (kB (yK BK335) hb); replace HB := aM (bP (yG1 HB GE335.out) hb); (try clear hb); (try clear ho0); obtain ⟨hcz45_0, hcz45_1, hcz45_2, hcz45_3, hcz45_4, hfz45_0, hfz45_1, hfz45_2, hfz45_3, hfz45_4⟩ := cells5 BK335.out) | ((with_reducible refine gate_callee (f := 27) rfl ?_); refine yC 26 Tryd.func27 #[.agg #[.int .i64 a0_0, .string a0_1, .int .i64 a0_2, .int .i64 a0_3, .slice A0_4 l0_4.length c0_4]] rfl ?_; (with_reducible refine (haulageref08_Table.calls kj4 a0_0 a0_1 a0_2 a0_3 _ _ l0_4 false _ ?side1 ?side2 A16.out).mono ?_); (case side1 => exact yW (Kd.C_below HR0_4.out HB.out)); (case side2 => exact HC0_4.out); rintro e w46 ⟨rfl, hb⟩; refine ⟨_, rfl, ?_⟩; replace HO340 := aM (Kd.R_below (yR HO340.out) hb); replace BK335 := aM (kB (yK BK335) hb); replace HB := aM (bP (yG1 HB GE335.out) hb); (try clear hb); obtain ⟨Ao47, co47, eo47⟩ := Kd.R_slice HO340.out; subst eo47))
       go_ret
       exact ⟨yE, yG1 HB GE335.out⟩
 ·
  replace c4 := Bool.eq_false_iff.mpr c4
  subst c4
  replace H := yf H
  obtain rfl := Option.some.inj H
  go_enter Tryd.func9, Tryd.ntmps9
  go_wp2_with (first | ((with_reducible refine gate_dst (N := 2) rfl ?_); (try (refine gate_guard (by rfl) ?_; dsimp only)); refine yX (N := 2) (cs := #[.int .i64 a0_0, .string a0_1, .int .i64 a0_2, .int .i64 a0_3, .slice A0_4 l0_4.length c0_4]) (t := 24) ?_; intro gb335 hg w48 hbox hb; have BK335 := aM (hbox); have GW335 := yZ hg (yB HB); have GE335 := yZ hg (yB HB); replace HB := aM (bP (yB HB) hb); clear hb hbox hg) | ((with_reducible refine gate_callee (f := 13) rfl ?_); refine yC 9 Tryd.func13 #[] rfl ?_; (with_reducible refine (haulagelaw12_lives.calls k  false _ ?side1 A3.out).mono ?_); (case side1 => first | (with_reducible exact HG.out) | exact Glob.below HG.out (yG1 HB GE335.out)); rintro e w49 ⟨rfl, hb⟩; refine ⟨_, rfl, ?_⟩; replace BK335 := aM (kB (yK BK335) hb); replace HB := aM (bP (yG1 HB GE335.out) hb); (try clear hb)))
  go_ret
  exact ⟨yE, yG1 HB GE335.out⟩
end Go.Proofs.YtdeophpjammbpaaDoor.HRowcodeDecodes

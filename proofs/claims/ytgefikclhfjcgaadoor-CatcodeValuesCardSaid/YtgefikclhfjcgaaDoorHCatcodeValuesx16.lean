/- For Go functions that CatcodeValues reaches: Lean functions, and walks that show that each call comes to what its Lean function tells; no condition but those that each theorem states. (Made by a program of this session over the kit's print.py.) -/
import Derived.Test.YtgefikclhfjcgaaDoorHCatcodeValuesx0
import Derived.Test.YtgefikclhfjcgaaDoorHCatcodeValuesx12
import Derived.Test.YtgefikclhfjcgaaDoorHCatcodeValuesx14
import Derived.Test.YtgefikclhfjcgaaDoorHCatcodeValuesx15
namespace Go.Proofs.YtgefikclhfjcgaaDoor.HCatcodeValues
open Go.RowKit Go.Proofs.YtgefikclhfjcgaaDoorW.PrintWords Go.Proofs.YtgefikclhfjcgaaDoorW.PrintLast Go.Proofs.YtgefikclhfjcgaaDoorW.PrintMore
attribute [local go_sem] max2_int min2_int max_two min_two max_three min_three max_four min_four   -- for this text's walks alone
set_option linter.unusedVariables false
set_option linter.unusedSimpArgs false
attribute [local go_sem] hp_s8 hp_s16 hp_s32 hp_s64 hp_m8 hp_m16 hp_m32 hp_m64
/-! ### haulageref11_R_Text: function 57 -/
mutual
def haulageref11_R_Text.j0 : Nat → Int → Bool → ByteArray → Int → Int → Option (ByteArray × ByteArray × Int × Int)
 | 0, _, _, _, _, _ => none
 | k + 1, x5, x27, x1000, x1001, x1002 => if x27 = true then ((haulageref11_R_bad.f x1000 x1001 x1002 4).bind fun bt352 => (haulageref11_R_Text.j1 k x5 bt352.1 bt352.2.1 bt352.2.2)) else (haulageref11_R_Text.j1 k x5 x1000 x1001 x1002)
def haulageref11_R_Text.j1 : Nat → Int → ByteArray → Int → Int → Option (ByteArray × ByteArray × Int × Int)
 | 0, _, _, _, _ => none
 | k + 1, x5, x1000, x1001, x1002 => if x1002 = 0 then (if 0 ≤ (wrap64 ((wrap64 (x1001 + x5)) - x5)) then (if (wrap64 ((wrap64 (x1001 + x5)) - x5)) ≤ (wrap64 (x1001 + x5)) then (if (wrap64 (x1001 + x5)) ≤ (x1000.size : Int) then (some (x1000.extract ((wrap64 ((wrap64 (x1001 + x5)) - x5)) : Int).toNat ((wrap64 (x1001 + x5)) : Int).toNat, x1000, wrap64 (x1001 + x5), x1002)) else (none)) else (none)) else (none)) else (some ((⟨#[]⟩ : ByteArray), x1000, x1001, x1002))
end
def haulageref11_R_Text.f (k : Nat) (s0_0 : ByteArray) (s0_1 : Int) (s0_2 : Int) (a1 : Int) : Option (ByteArray × ByteArray × Int × Int) := (haulageref11_R_Number.f k s0_0 s0_1 s0_2 a1).bind fun bt348 => (if bt348.2.2.2 = 0 then (haulageref11_R_Text.j0 k bt348.1 (decide (bt348.1 > (wrap64 ((bt348.2.1.size : Int) - bt348.2.2.1)))) bt348.2.1 bt348.2.2.1 bt348.2.2.2) else (haulageref11_R_Text.j0 k bt348.1 false bt348.2.1 bt348.2.2.1 bt348.2.2.2))
theorem haulageref11_R_Text.mono_l : ∀ k, (∀ y0 y1 y2 y3 y4, LeO (haulageref11_R_Text.j0 k y0 y1 y2 y3 y4) (haulageref11_R_Text.j0 (k + 1) y0 y1 y2 y3 y4)) ∧ (∀ y0 y1 y2 y3, LeO (haulageref11_R_Text.j1 k y0 y1 y2 y3) (haulageref11_R_Text.j1 (k + 1) y0 y1 y2 y3))
 | 0 => by refine ⟨?_, ?_⟩ <;> intros <;> exact LeO.none _
 | k + 1 => by
  obtain ⟨ih0, ih1⟩ := haulageref11_R_Text.mono_l k
  refine ⟨?_, ?_⟩ <;> intros <;> first | unfold haulageref11_R_Text.j0 | unfold haulageref11_R_Text.j1
  all_goals repeat' first | with_reducible (first | exact ih0 .. | exact ih1 .. | exact haulageref11_R_Number.mono .. | exact LeO.refl .. | exact LeO.none .. | refine LeO.ite ?_ ?_ | refine LeO.bind ?_ (fun _ => ?_)) | exact ih0 .. | exact ih1 .. | exact haulageref11_R_Number.mono .. | exact LeO.none .. | refine LeO.ite ?_ ?_ | refine LeO.bind ?_ (fun _ => ?_)
theorem haulageref11_R_Text.mono : ∀ a0 a1 a2 a3 k, LeO (haulageref11_R_Text.f k a0 a1 a2 a3) (haulageref11_R_Text.f (k + 1) a0 a1 a2 a3) := by
 intro a0 a1 a2 a3 k
 obtain ⟨ih0, ih1⟩ := haulageref11_R_Text.mono_l k
 unfold haulageref11_R_Text.f
 repeat' first | with_reducible (first | exact ih0 .. | exact ih1 .. | exact haulageref11_R_Number.mono .. | exact LeO.refl .. | exact LeO.none .. | refine LeO.ite ?_ ?_ | refine LeO.bind ?_ (fun _ => ?_)) | exact ih0 .. | exact ih1 .. | exact haulageref11_R_Number.mono .. | exact LeO.none .. | refine LeO.ite ?_ ?_ | refine LeO.bind ?_ (fun _ => ?_)
set_option maxHeartbeats 8000000 in
set_option maxRecDepth 100000 in
theorem haulageref11_R_Text.calls (k : Nat) (g : Nat) (s0_0 : ByteArray) (s0_1 : Int) (s0_2 : Int) (a1 : Int) (r1 : ByteArray) (r2 : ByteArray) (r3 : Int) (r4 : Int) (w0 w : World) (hI : IsS86 w0 w g s0_0 s0_1 s0_2) (hB : Below w0.heap.size w0 w) (h : haulageref11_R_Text.f k s0_0 s0_1 s0_2 a1 = some (r1, r2, r3, r4)) :
  Calls Tryd.prog 57 #[.pointer (some ⟨g, 0, none⟩), .int .i64 a1] w fun e w' => e = .returned (.string r1) ∧ IsS86 w0 w' g r2 r3 r4 ∧ Below w0.heap.size w0 w' ∧ KeepBut w w' g none := by
 have HI0 := aM hI
 have HK := aM (KeepBut.refl w g none)
 have HL := aM hB.size
 clear hI
 have HW0 := aM hB.size
 have HB := aM hB
 clear hB
 have H : ((haulageref11_R_Number.f k s0_0 s0_1 s0_2 a1).bind fun bt348 => (if bt348.2.2.2 = 0 then (haulageref11_R_Text.j0 k bt348.1 (decide (bt348.1 > (wrap64 ((bt348.2.1.size : Int) - bt348.2.2.1)))) bt348.2.1 bt348.2.2.1 bt348.2.2.2) else (haulageref11_R_Text.j0 k bt348.1 false bt348.2.1 bt348.2.2.1 bt348.2.2.2))) = some (r1, r2, r3, r4) := h
 clear h
 obtain ⟨⟨t348, t349, t350, t351⟩, A3, H⟩ := yb H
 try dsimp -simprocs only at H
 have HC4 := aM H
 clear H
 go_enter Tryd.func57, Tryd.ntmps57
 go_upto_region 2 with (first | (go_at_call 56; (with_reducible refine (haulageref11_R_Number.calls k g s0_0 s0_1 s0_2 a1 t348 t349 t350 t351 w0 _ ?side1 ?side2 A3.out).mono ?_); (case side1 => repeat (first | (with_reducible first | exact HI0.out | apply IsS86.alloc | apply IsS86.drewN | apply IsS86.drew | apply IsS86.set_0 | apply IsS86.set_1 | apply IsS86.set_2) | exact HI0.out)); (case side2 => exact yG1 HB (IsS86.ge HI0.out)); rintro e w5 ⟨rfl, hi, hb, hk⟩; replace HK := aM (KeepBut.trans (by repeat (first | (with_reducible first | exact HK.out | apply KeepBut.set_ | apply keep_drewN | apply keep_drew | apply keep_alloc) | exact HK.out)) hk (.inl rfl)); replace HB := aM (hb); replace HI0 := aM (hi); (try clear hb); (try clear hb2); (try clear hk); (try clear hi)))
 repeat (go_quiet (first | (go_at_call 56; (with_reducible refine (haulageref11_R_Number.calls k g s0_0 s0_1 s0_2 a1 t348 t349 t350 t351 w0 _ ?side1 ?side2 A3.out).mono ?_); (case side1 => repeat (first | (with_reducible first | exact HI0.out | apply IsS86.alloc | apply IsS86.drewN | apply IsS86.drew | apply IsS86.set_0 | apply IsS86.set_1 | apply IsS86.set_2) | exact HI0.out)); (case side2 => exact yG1 HB (IsS86.ge HI0.out)); rintro e w5 ⟨rfl, hi, hb, hk⟩; replace HK := aM (KeepBut.trans (by repeat (first | (with_reducible first | exact HK.out | apply KeepBut.set_ | apply keep_drewN | apply keep_drew | apply keep_alloc) | exact HK.out)) hk (.inl rfl)); replace HB := aM (hb); replace HI0 := aM (hi); (try clear hb); (try clear hb2); (try clear hk); (try clear hi))); go_upto_region 2 with (first | (go_at_call 56; (with_reducible refine (haulageref11_R_Number.calls k g s0_0 s0_1 s0_2 a1 t348 t349 t350 t351 w0 _ ?side1 ?side2 A3.out).mono ?_); (case side1 => repeat (first | (with_reducible first | exact HI0.out | apply IsS86.alloc | apply IsS86.drewN | apply IsS86.drew | apply IsS86.set_0 | apply IsS86.set_1 | apply IsS86.set_2) | exact HI0.out)); (case side2 => exact yG1 HB (IsS86.ge HI0.out)); rintro e w5 ⟨rfl, hi, hb, hk⟩; replace HK := aM (KeepBut.trans (by repeat (first | (with_reducible first | exact HK.out | apply KeepBut.set_ | apply keep_drewN | apply keep_drew | apply keep_alloc) | exact HK.out)) hk (.inl rfl)); replace HB := aM (hb); replace HI0 := aM (hi); (try clear hb); (try clear hb2); (try clear hk); (try clear hi))))
 (try simp only [Act.put, s1_, s2_, s3_])
 go_cut [27] (fun v27 wc => ∃ (kq : Nat) (x27_3 : Bool), v27 = .bool x27_3 ∧ Aside0 (haulageref11_R_Text.j0 kq t348 x27_3 t349 t350 t351 = some (r1, r2, r3, r4)) ∧ Aside0 (kq ≤ k) ∧ Aside0 (IsS86 w0 wc g t349 t350 t351) ∧ Aside0 (KeepBut w wc g none) ∧ Aside0 (Below w0.heap.size w0 wc))
 case first =>
  have H := HC4.out
  clear HC4
  by_cases c6 : t351 = 0
  ·
   rw [if_pos c6] at H
   have c6b0 : (t351 == 0) = true := beq_iff_eq.mpr c6
   have c6b1 : (t351 != 0) = false := bne_eq_false_iff_eq.mpr c6
   clear c6
   (first | rw [c6b0] | (simp only [i64_w, i32_w]; rw [c6b0]) | skip)
   have H' := aM H
   clear H
   obtain ⟨HGz7, hgz7⟩ := HI0.out
   have hcz7_0 := cellS86_0 HGz7
   have hcz7_1 := cellS86_1 HGz7
   have hcz7_2 := cellS86_2 HGz7
   have hfz7_0 := blk_frozen HGz7 0
   have hfz7_1 := blk_frozen HGz7 1
   have hfz7_2 := blk_frozen HGz7 2
   clear HGz7 hgz7
   go_wp2
   repeat (go_quiet (fail); try go_wp2)
   go_meet
   case rel => exact ⟨_, (decide (t348 > (wrap64 ((t349.size : Int) - t350)))), yS, H', ⟨yO⟩, ⟨by repeat (first | (with_reducible first | exact HI0.out | apply IsS86.alloc | apply IsS86.drewN | apply IsS86.drew | apply IsS86.set_0 | apply IsS86.set_1 | apply IsS86.set_2) | exact HI0.out)⟩, ⟨by repeat (first | (with_reducible first | exact HK.out | apply KeepBut.set_ | apply keep_drewN | apply keep_drew | apply keep_alloc) | exact HK.out)⟩, ⟨yG1 HB (IsS86.ge HI0.out)⟩⟩
  ·
   rw [if_neg c6] at H
   have c6b0 : (t351 == 0) = false := beq_eq_false_iff_ne.mpr c6
   have c6b1 : (t351 != 0) = true := bne_iff_ne.mpr c6
   (first | rw [c6b0] | (simp only [i64_w, i32_w]; rw [c6b0]) | skip)
   have H' := aM H
   clear H
   obtain ⟨HGz8, hgz8⟩ := HI0.out
   have hcz8_0 := cellS86_0 HGz8
   have hcz8_1 := cellS86_1 HGz8
   have hcz8_2 := cellS86_2 HGz8
   have hfz8_0 := blk_frozen HGz8 0
   have hfz8_1 := blk_frozen HGz8 1
   have hfz8_2 := blk_frozen HGz8 2
   clear HGz8 hgz8
   go_wp2
   repeat (go_quiet (fail); try go_wp2)
   go_meet
   case rel => exact ⟨_, (false), yS, H', ⟨yO⟩, ⟨by repeat (first | (with_reducible first | exact HI0.out | apply IsS86.alloc | apply IsS86.drewN | apply IsS86.drew | apply IsS86.set_0 | apply IsS86.set_1 | apply IsS86.set_2) | exact HI0.out)⟩, ⟨by repeat (first | (with_reducible first | exact HK.out | apply KeepBut.set_ | apply keep_drewN | apply keep_drew | apply keep_alloc) | exact HK.out)⟩, ⟨yG1 HB (IsS86.ge HI0.out)⟩⟩
 case rest =>
  clear HC4
  obtain ⟨kq, x27_3, rfl, HA, HJ3, HI0, HK, HB⟩ := hcut
  cases kq with
  | zero => exact absurd HA.out (by simp [haulageref11_R_Text.j0])
  | succ kj3 =>
   have H := HA.out
   clear HA
   simp only [haulageref11_R_Text.j0] at H
   have HC9 := aM H
   clear H
   go_upto_if 27 with (fail)
   repeat (go_quiet (fail); go_upto_if 27 with (fail))
   go_cut [] (fun wc => ∃ (kq : Nat) (x1000_8 : ByteArray) (x1001_8 : Int) (x1002_8 : Int), Aside0 (haulageref11_R_Text.j1 kq t348 x1000_8 x1001_8 x1002_8 = some (r1, r2, r3, r4)) ∧ Aside0 (kq ≤ kj3) ∧ Aside0 (IsS86 w0 wc g x1000_8 x1001_8 x1002_8) ∧ Aside0 (KeepBut w wc g none) ∧ Aside0 (Below w0.heap.size w0 wc))
   case first =>
    have H := HC9.out
    clear HC9
    by_cases c10 : x27_3 = true
    ·
     subst c10
     replace H := yt H
     obtain ⟨⟨t352, t353, t354⟩, A11, H⟩ := yb H
     try dsimp -simprocs only at H
     have H' := aM H
     clear H
     go_wp2_with (first | (go_at_call 59; (with_reducible refine (haulageref11_R_bad.calls g t349 t350 t351 4 t352 t353 t354 w0 _ ?side1 ?side2 A11.out).mono ?_); (case side1 => repeat (first | (with_reducible first | exact HI0.out | apply IsS86.alloc | apply IsS86.drewN | apply IsS86.drew | apply IsS86.set_0 | apply IsS86.set_1 | apply IsS86.set_2) | exact HI0.out)); (case side2 => exact yG1 HB (IsS86.ge HI0.out)); rintro e w12 ⟨rfl, hi, hb, hk⟩; replace HK := aM (KeepBut.trans (by repeat (first | (with_reducible first | exact HK.out | apply KeepBut.set_ | apply keep_drewN | apply keep_drew | apply keep_alloc) | exact HK.out)) hk (.inl rfl)); replace HB := aM (hb); replace HI0 := aM (hi); (try clear hb); (try clear hb2); (try clear hk); (try clear hi)))
     repeat (go_quiet (first | (go_at_call 59; (with_reducible refine (haulageref11_R_bad.calls g t349 t350 t351 4 t352 t353 t354 w0 _ ?side1 ?side2 A11.out).mono ?_); (case side1 => repeat (first | (with_reducible first | exact HI0.out | apply IsS86.alloc | apply IsS86.drewN | apply IsS86.drew | apply IsS86.set_0 | apply IsS86.set_1 | apply IsS86.set_2) | exact HI0.out)); (case side2 => exact yG1 HB (IsS86.ge HI0.out)); rintro e w12 ⟨rfl, hi, hb, hk⟩; replace HK := aM (KeepBut.trans (by repeat (first | (with_reducible first | exact HK.out | apply KeepBut.set_ | apply keep_drewN | apply keep_drew | apply keep_alloc) | exact HK.out)) hk (.inl rfl)); replace HB := aM (hb); replace HI0 := aM (hi); (try clear hb); (try clear hb2); (try clear hk); (try clear hi))); try go_wp2_with (first | (go_at_call 59; (with_reducible refine (haulageref11_R_bad.calls g t349 t350 t351 4 t352 t353 t354 w0 _ ?side1 ?side2 A11.out).mono ?_); (case side1 => repeat (first | (with_reducible first | exact HI0.out | apply IsS86.alloc | apply IsS86.drewN | apply IsS86.drew | apply IsS86.set_0 | apply IsS86.set_1 | apply IsS86.set_2) | exact HI0.out)); (case side2 => exact yG1 HB (IsS86.ge HI0.out)); rintro e w12 ⟨rfl, hi, hb, hk⟩; replace HK := aM (KeepBut.trans (by repeat (first | (with_reducible first | exact HK.out | apply KeepBut.set_ | apply keep_drewN | apply keep_drew | apply keep_alloc) | exact HK.out)) hk (.inl rfl)); replace HB := aM (hb); replace HI0 := aM (hi); (try clear hb); (try clear hb2); (try clear hk); (try clear hi))))
     go_meet
     case rel => exact ⟨_, (t352), (t353), (t354), H', ⟨by have := HJ3.out; first | omega | exact Nat.le_refl _⟩, ⟨by repeat (first | (with_reducible first | exact HI0.out | apply IsS86.alloc | apply IsS86.drewN | apply IsS86.drew | apply IsS86.set_0 | apply IsS86.set_1 | apply IsS86.set_2) | exact HI0.out)⟩, ⟨by repeat (first | (with_reducible first | exact HK.out | apply KeepBut.set_ | apply keep_drewN | apply keep_drew | apply keep_alloc) | exact HK.out)⟩, ⟨yG1 HB (IsS86.ge HI0.out)⟩⟩
    ·
     replace c10 := Bool.eq_false_iff.mpr c10
     subst c10
     replace H := yf H
     have H' := aM H
     clear H
     go_wp2
     repeat (go_quiet (fail); try go_wp2)
     go_meet
     case rel => exact ⟨_, (t349), (t350), (t351), H', ⟨by have := HJ3.out; first | omega | exact Nat.le_refl _⟩, ⟨by repeat (first | (with_reducible first | exact HI0.out | apply IsS86.alloc | apply IsS86.drewN | apply IsS86.drew | apply IsS86.set_0 | apply IsS86.set_1 | apply IsS86.set_2) | exact HI0.out)⟩, ⟨by repeat (first | (with_reducible first | exact HK.out | apply KeepBut.set_ | apply keep_drewN | apply keep_drew | apply keep_alloc) | exact HK.out)⟩, ⟨yG1 HB (IsS86.ge HI0.out)⟩⟩
   case rest =>
    clear HC9
    obtain ⟨kq, x1000_8, x1001_8, x1002_8, HA, HJ8, HI0, HK, HB⟩ := hcut
    cases kq with
    | zero => exact absurd HA.out (by simp [haulageref11_R_Text.j1])
    | succ kj8 =>
     have H := HA.out
     clear HA
     simp only [haulageref11_R_Text.j1] at H
     by_cases c13 : x1002_8 = 0
     ·
      rw [if_pos c13] at H
      have c13b0 : (x1002_8 == 0) = true := beq_iff_eq.mpr c13
      have c13b1 : (x1002_8 != 0) = false := bne_eq_false_iff_eq.mpr c13
      clear c13
      obtain ⟨ji14, hji14⟩ : ∃ j_ : Int, (wrap64 ((wrap64 (x1001_8 + t348)) - t348)) = j_ := ⟨_, rfl⟩
      replace H : (if 0 ≤ (ji14) then (if (ji14) ≤ (wrap64 (x1001_8 + t348)) then (if (wrap64 (x1001_8 + t348)) ≤ (x1000_8.size : Int) then (some (x1000_8.extract ((ji14) : Int).toNat ((wrap64 (x1001_8 + t348)) : Int).toNat, x1000_8, wrap64 (x1001_8 + t348), x1002_8)) else (none)) else (none)) else (none)) = some (r1, r2, r3, r4) := by first | (rw [hji14] at H; exact H) | (simp only [hji14] at H ⊢; exact H)
      have hji14w : (IntKind.i64.wrap ((wrap64 (x1001_8 + t348)) - t348)) = ji14 := (i64_w _).trans hji14
      by_cases c15 : 0 ≤ (ji14)
      ·
       rw [if_pos c15] at H
       have c15b0 := eq_true c15
       have c15b1 : decide (0 ≤ (ji14)) = true := decide_eq_true c15
       clear c15
       by_cases c16 : (ji14) ≤ (wrap64 (x1001_8 + t348))
       ·
        rw [if_pos c16] at H
        have c16b0 := eq_true c16
        have c16b1 : decide ((ji14) ≤ (wrap64 (x1001_8 + t348))) = true := decide_eq_true c16
        by_cases c17 : (wrap64 (x1001_8 + t348)) ≤ (x1000_8.size : Int)
        ·
         rw [if_pos c17] at H
         have c17b0 := eq_true c17
         have c17b1 : decide ((wrap64 (x1001_8 + t348)) ≤ (x1000_8.size : Int)) = true := decide_eq_true c17
         simp only [Option.some.injEq, Prod.mk.injEq] at H
         obtain ⟨rfl, rfl, rfl, rfl⟩ := H
         obtain ⟨HGz18, hgz18⟩ := HI0.out
         have hcz18_0 := cellS86_0 HGz18
         have hcz18_1 := cellS86_1 HGz18
         have hcz18_2 := cellS86_2 HGz18
         have hfz18_0 := blk_frozen HGz18 0
         have hfz18_1 := blk_frozen HGz18 1
         have hfz18_2 := blk_frozen HGz18 2
         clear HGz18 hgz18
         go_wp2
         repeat (go_quiet (fail); try go_wp2)
         go_ret
         exact ⟨by first | rfl | (simp [errW_none, errW_some] <;> rfl) | (simp only [← hji14]; first | rfl | (simp [errW_none, errW_some] <;> rfl)) | (simp [*, errW_none, errW_some] <;> rfl), by repeat (first | (with_reducible first | exact HI0.out | apply IsS86.alloc | apply IsS86.drewN | apply IsS86.drew | apply IsS86.set_0 | apply IsS86.set_1 | apply IsS86.set_2) | exact HI0.out), yG1 HB (IsS86.ge HI0.out), by repeat (first | (with_reducible first | exact HK.out | apply KeepBut.set_ | apply keep_drewN | apply keep_drew | apply keep_alloc) | exact HK.out)⟩
        ·
         rw [if_neg c17] at H
         exact absurd H (by simp)
       ·
        rw [if_neg c16] at H
        exact absurd H (by simp)
      ·
       rw [if_neg c15] at H
       exact absurd H (by simp)
     ·
      rw [if_neg c13] at H
      have c13b0 : (x1002_8 == 0) = false := beq_eq_false_iff_ne.mpr c13
      have c13b1 : (x1002_8 != 0) = true := bne_iff_ne.mpr c13
      simp only [Option.some.injEq, Prod.mk.injEq] at H
      obtain ⟨rfl, rfl, rfl, rfl⟩ := H
      obtain ⟨HGz19, hgz19⟩ := HI0.out
      have hcz19_0 := cellS86_0 HGz19
      have hcz19_1 := cellS86_1 HGz19
      have hcz19_2 := cellS86_2 HGz19
      have hfz19_0 := blk_frozen HGz19 0
      have hfz19_1 := blk_frozen HGz19 1
      have hfz19_2 := blk_frozen HGz19 2
      clear HGz19 hgz19
      go_wp2
      repeat (go_quiet (fail); try go_wp2)
      go_ret
      exact ⟨yE, by repeat (first | (with_reducible first | exact HI0.out | apply IsS86.alloc | apply IsS86.drewN | apply IsS86.drew | apply IsS86.set_0 | apply IsS86.set_1 | apply IsS86.set_2) | exact HI0.out), yG1 HB (IsS86.ge HI0.out), by repeat (first | (with_reducible first | exact HK.out | apply KeepBut.set_ | apply keep_drewN | apply keep_drew | apply keep_alloc) | exact HK.out)⟩
/-! ### haulageref01_Zag: function 97 -/
def haulageref01_Zag.f (a0 : Int) : Option (Int) := if (Int.tmod a0 2) = 0 then (some (wrap64 (IntKind.u64.wrap (Int.tdiv a0 2)))) else (some (wrap64 ((-1) - (wrap64 (IntKind.u64.wrap (Int.tdiv a0 2))))))
set_option maxHeartbeats 8000000 in
set_option maxRecDepth 100000 in
theorem haulageref01_Zag.calls (a0 : Int) (r : Int) (w : World) (h : haulageref01_Zag.f a0 = some r) :
  Calls Tryd.prog 97 #[.int .u64 a0] w fun e w' => e = .returned (.int .i64 r) ∧ Drawn0 w w' := by
 have H : (if (Int.tmod a0 2) = 0 then (some (wrap64 (IntKind.u64.wrap (Int.tdiv a0 2)))) else (some (wrap64 ((-1) - (wrap64 (IntKind.u64.wrap (Int.tdiv a0 2))))))) = some r := h
 clear h
 by_cases c2 : (Int.tmod a0 2) = 0
 ·
  rw [if_pos c2] at H
  have c2b0 : ((Int.tmod a0 2) == 0) = true := beq_iff_eq.mpr c2
  have c2b1 : ((Int.tmod a0 2) != 0) = false := bne_eq_false_iff_eq.mpr c2
  clear c2
  obtain rfl := Option.some.inj H
  go_enter Tryd.func97, Tryd.ntmps97
  go_wp2
  go_ret
  exact ⟨yS, yD⟩
 ·
  rw [if_neg c2] at H
  have c2b0 : ((Int.tmod a0 2) == 0) = false := beq_eq_false_iff_ne.mpr c2
  have c2b1 : ((Int.tmod a0 2) != 0) = true := bne_iff_ne.mpr c2
  obtain rfl := Option.some.inj H
  go_enter Tryd.func97, Tryd.ntmps97
  go_wp2
  go_ret
  exact ⟨yS, yD⟩
/-! ### haulageref11_R_Value: function 39 -/
mutual
def haulageref11_R_Value.j0 : Nat → Bool → ByteArray → Int → Int → Int → Int → ByteArray → Option (Int × Int × ByteArray × ByteArray × Int × Int)
 | 0, _, _, _, _, _, _, _ => none
 | k + 1, x14, x1000, x1001, x1002, x361000, x361001, x361002 => if x14 = true then ((haulageref11_R_Raw.f k x1000 x1001 x1002).bind fun bt361 => ((haulageref01_Zag.f bt361.1).bind fun t365 => (if x361000 = 1 then ((haulageref01_Fits.f k t365 32).bind fun t366 => (if t366 = true then (haulageref11_R_Value.j1 k bt361.2.1 bt361.2.2.1 bt361.2.2.2 x361000 t365 x361002) else ((haulageref11_R_bad.f bt361.2.1 bt361.2.2.1 bt361.2.2.2 5).bind fun bt367 => (haulageref11_R_Value.j1 k bt367.1 bt367.2.1 bt367.2.2 x361000 t365 x361002)))) else (haulageref11_R_Value.j1 k bt361.2.1 bt361.2.2.1 bt361.2.2.2 x361000 t365 x361002)))) else (haulageref11_R_Value.j1 k x1000 x1001 x1002 x361000 x361001 x361002)
def haulageref11_R_Value.j1 : Nat → ByteArray → Int → Int → Int → Int → ByteArray → Option (Int × Int × ByteArray × ByteArray × Int × Int)
 | 0, _, _, _, _, _, _ => none
 | k + 1, x1000, x1001, x1002, x361000, x361001, x361002 => if x361000 ≥ 3 then ((haulageref11_R_Text.f k x1000 x1001 x1002 120).bind fun bt370 => (if x361000 = 3 then ((haulageref03_Right.f k bt370.1).bind fun t374 => (if t374 = true then (some (x361000, x361001, bt370.1, bt370.2.1, bt370.2.2.1, bt370.2.2.2)) else ((haulageref11_R_bad.f bt370.2.1 bt370.2.2.1 bt370.2.2.2 5).bind fun bt375 => (some (x361000, x361001, bt370.1, bt375.1, bt375.2.1, bt375.2.2))))) else (some (x361000, x361001, bt370.1, bt370.2.1, bt370.2.2.1, bt370.2.2.2)))) else (some (x361000, x361001, x361002, x1000, x1001, x1002))
end
def haulageref11_R_Value.f (k : Nat) (s0_0 : ByteArray) (s0_1 : Int) (s0_2 : Int) : Option (Int × Int × ByteArray × ByteArray × Int × Int) := (haulageref11_R_Byte.f k s0_0 s0_1 s0_2 0 4).bind fun bt356 => (if bt356.1 = 1 then (haulageref11_R_Value.j0 k true bt356.2.1 bt356.2.2.1 bt356.2.2.2 bt356.1 0 (⟨#[]⟩ : ByteArray)) else (haulageref11_R_Value.j0 k (bt356.1 == 2) bt356.2.1 bt356.2.2.1 bt356.2.2.2 bt356.1 0 (⟨#[]⟩ : ByteArray)))
theorem haulageref11_R_Value.mono_l : ∀ k, (∀ y0 y1 y2 y3 y4 y5 y6, LeO (haulageref11_R_Value.j0 k y0 y1 y2 y3 y4 y5 y6) (haulageref11_R_Value.j0 (k + 1) y0 y1 y2 y3 y4 y5 y6)) ∧ (∀ y0 y1 y2 y3 y4 y5, LeO (haulageref11_R_Value.j1 k y0 y1 y2 y3 y4 y5) (haulageref11_R_Value.j1 (k + 1) y0 y1 y2 y3 y4 y5))
 | 0 => by refine ⟨?_, ?_⟩ <;> intros <;> exact LeO.none _
 | k + 1 => by
  obtain ⟨ih0, ih1⟩ := haulageref11_R_Value.mono_l k
  refine ⟨?_, ?_⟩ <;> intros <;> first | unfold haulageref11_R_Value.j0 | unfold haulageref11_R_Value.j1
  all_goals repeat' first | with_reducible (first | exact ih0 .. | exact ih1 .. | exact haulageref01_Fits.mono .. | exact haulageref03_Right.mono .. | exact haulageref11_R_Byte.mono .. | exact haulageref11_R_Raw.mono .. | exact haulageref11_R_Text.mono .. | exact LeO.refl .. | exact LeO.none .. | refine LeO.ite ?_ ?_ | refine LeO.bind ?_ (fun _ => ?_)) | exact ih0 .. | exact ih1 .. | exact haulageref01_Fits.mono .. | exact haulageref03_Right.mono .. | exact haulageref11_R_Byte.mono .. | exact haulageref11_R_Raw.mono .. | exact haulageref11_R_Text.mono .. | exact LeO.none .. | refine LeO.ite ?_ ?_ | refine LeO.bind ?_ (fun _ => ?_)
theorem haulageref11_R_Value.mono : ∀ a0 a1 a2 k, LeO (haulageref11_R_Value.f k a0 a1 a2) (haulageref11_R_Value.f (k + 1) a0 a1 a2) := by
 intro a0 a1 a2 k
 obtain ⟨ih0, ih1⟩ := haulageref11_R_Value.mono_l k
 unfold haulageref11_R_Value.f
 repeat' first | with_reducible (first | exact ih0 .. | exact ih1 .. | exact haulageref01_Fits.mono .. | exact haulageref03_Right.mono .. | exact haulageref11_R_Byte.mono .. | exact haulageref11_R_Raw.mono .. | exact haulageref11_R_Text.mono .. | exact LeO.refl .. | exact LeO.none .. | refine LeO.ite ?_ ?_ | refine LeO.bind ?_ (fun _ => ?_)) | exact ih0 .. | exact ih1 .. | exact haulageref01_Fits.mono .. | exact haulageref03_Right.mono .. | exact haulageref11_R_Byte.mono .. | exact haulageref11_R_Raw.mono .. | exact haulageref11_R_Text.mono .. | exact LeO.none .. | refine LeO.ite ?_ ?_ | refine LeO.bind ?_ (fun _ => ?_)
set_option maxHeartbeats 8000000 in
set_option maxRecDepth 100000 in
theorem haulageref11_R_Value.calls (k : Nat) (g : Nat) (s0_0 : ByteArray) (s0_1 : Int) (s0_2 : Int) (r1 : Int) (r2 : Int) (r3 : ByteArray) (r4 : ByteArray) (r5 : Int) (r6 : Int) (w0 w : World) (hI : IsS86 w0 w g s0_0 s0_1 s0_2) (hB : Below w0.heap.size w0 w) (h : haulageref11_R_Value.f k s0_0 s0_1 s0_2 = some (r1, r2, r3, r4, r5, r6)) :
  Calls Tryd.prog 39 #[.pointer (some ⟨g, 0, none⟩)] w fun e w' => e = .returned (.agg #[.int .i64 r1, .int .i64 r2, .string r3]) ∧ IsS86 w0 w' g r4 r5 r6 ∧ Below w0.heap.size w0 w' ∧ KeepBut w w' g none := by
 have hu23 := Tryd.underlying23
 have HI0 := aM hI
 have HK := aM (KeepBut.refl w g none)
 have HL := aM hB.size
 clear hI
 have HW0 := aM hB.size
 have HB := aM hB
 clear hB
 have H : ((haulageref11_R_Byte.f k s0_0 s0_1 s0_2 0 4).bind fun bt356 => (if bt356.1 = 1 then (haulageref11_R_Value.j0 k true bt356.2.1 bt356.2.2.1 bt356.2.2.2 bt356.1 0 (⟨#[]⟩ : ByteArray)) else (haulageref11_R_Value.j0 k (bt356.1 == 2) bt356.2.1 bt356.2.2.1 bt356.2.2.2 bt356.1 0 (⟨#[]⟩ : ByteArray)))) = some (r1, r2, r3, r4, r5, r6) := h
 clear h
 obtain ⟨⟨t356, t357, t358, t359⟩, A2, H⟩ := yb H
 try dsimp -simprocs only at H
 have HC3 := aM H
 clear H
 go_enter Tryd.func39, Tryd.ntmps39
 go_upto_region 2 with (first | ((with_reducible refine gate_dst (N := 2) rfl ?_); refine yX (N := 2) (cs := #[.int .i64 0, .int .i64 0, .string (⟨#[]⟩ : ByteArray)]) (t := 23) ?_; intro gb355 hg w4 hbox hb; replace HB := aM (bP (yG1 HB (IsS86.ge HI0.out)) hb); have BK355 := aM (hbox); have GW355 := aM ((by rw [hg]; exact (keep_size (w := w) (g := g) (row := none) (by repeat (first | (with_reducible first | exact HK.out | apply KeepBut.set_ | apply keep_drewN | apply keep_drew | apply keep_alloc) | exact HK.out))) : w.heap.size ≤ gb355)); have GE355 := aM ((Nat.le_trans HW0.out (by rw [hg]; exact (keep_size (w := w) (g := g) (row := none) (by repeat (first | (with_reducible first | exact HK.out | apply KeepBut.set_ | apply keep_drewN | apply keep_drew | apply keep_alloc) | exact HK.out))) : w.heap.size ≤ gb355) : w0.heap.size ≤ gb355)); replace HK := aM (KeepBut.trans (by repeat (first | (with_reducible first | exact HK.out | apply KeepBut.set_ | apply keep_drewN | apply keep_drew | apply keep_alloc) | exact HK.out)) (KeepBut.of_below hb g none) (.inl rfl)); have NB0_355 := aM ((by rw [hg]; exact Nat.ne_of_lt (IsS86.lt (show IsS86 w0 _ g s0_0 s0_1 s0_2 from by repeat (first | (with_reducible first | exact HI0.out | apply IsS86.alloc | apply IsS86.drewN | apply IsS86.drew | apply IsS86.set_0 | apply IsS86.set_1 | apply IsS86.set_2) | exact HI0.out))) : g ≠ gb355)); have NB355_0 := aM ((by rw [hg]; exact Nat.ne_of_gt (IsS86.lt (show IsS86 w0 _ g s0_0 s0_1 s0_2 from by repeat (first | (with_reducible first | exact HI0.out | apply IsS86.alloc | apply IsS86.drewN | apply IsS86.drew | apply IsS86.set_0 | apply IsS86.set_1 | apply IsS86.set_2) | exact HI0.out))) : gb355 ≠ g)); replace HI0 := aM (IsS86.below (by repeat (first | (with_reducible first | exact HI0.out | apply IsS86.alloc | apply IsS86.drewN | apply IsS86.drew | apply IsS86.set_0 | apply IsS86.set_1 | apply IsS86.set_2) | exact HI0.out)) hb); clear hb hbox hg) | ((with_reducible refine gate_callee (f := 55) rfl ?_); refine yC 5 Tryd.func55 #[.pointer (some ⟨g, 0, none⟩), .int .i64 0, .int .i64 4] rfl ?_; (with_reducible refine (haulageref11_R_Byte.calls k g s0_0 s0_1 s0_2 0 4 t356 t357 t358 t359 w0 _ ?side1 ?side2 A2.out).mono ?_); (case side1 => repeat (first | (with_reducible first | exact HI0.out | apply IsS86.alloc | apply IsS86.drewN | apply IsS86.drew | apply IsS86.set_0 | apply IsS86.set_1 | apply IsS86.set_2 | apply IsS86.far (hne := NB0_355.out)) | exact HI0.out)); (case side2 => exact yG2 HB (IsS86.ge HI0.out) GE355.out); rintro e w5 ⟨rfl, hi, hb, hk⟩; refine ⟨_, rfl, ?_⟩; replace BK355 := aM (KeepBut.blk hk (g' := gb355) (o := .cells #[.int .i64 0, .int .i64 0, .string (⟨#[]⟩ : ByteArray)] 23 (0, 0)) (yK BK355) NB355_0.out (by simp)); replace HK := aM (KeepBut.trans (by repeat (first | (with_reducible first | exact HK.out | apply KeepBut.set_ | apply keep_drewN | apply keep_drew | apply keep_alloc | refine keep_far ?_ GW355.out _) | exact HK.out)) hk (.inl rfl)); replace HB := aM (hb); replace HI0 := aM (hi); (try clear hb); (try clear hk); (try clear hi)) | ((with_reducible refine gate_dst (N := 3) rfl ?_); refine yX (N := 3) (cs := #[.int .i64 0, .int .i64 0, .string (⟨#[]⟩ : ByteArray)]) (t := 23) ?_; intro gb360 hg w6 hbox hb; replace HB := aM (bP (yG2 HB (IsS86.ge HI0.out) GE355.out) hb); have BK360 := aM (hbox); have GW360 := aM ((by rw [hg]; exact (keep_size (w := w) (g := g) (row := none) (by repeat (first | (with_reducible first | exact HK.out | apply KeepBut.set_ | apply keep_drewN | apply keep_drew | apply keep_alloc | refine keep_far ?_ GW355.out _) | exact HK.out))) : w.heap.size ≤ gb360)); have GE360 := aM ((Nat.le_trans HW0.out (by rw [hg]; exact (keep_size (w := w) (g := g) (row := none) (by repeat (first | (with_reducible first | exact HK.out | apply KeepBut.set_ | apply keep_drewN | apply keep_drew | apply keep_alloc | refine keep_far ?_ GW355.out _) | exact HK.out))) : w.heap.size ≤ gb360) : w0.heap.size ≤ gb360)); replace HK := aM (KeepBut.trans (by repeat (first | (with_reducible first | exact HK.out | apply KeepBut.set_ | apply keep_drewN | apply keep_drew | apply keep_alloc | refine keep_far ?_ GW355.out _) | exact HK.out)) (KeepBut.of_below hb g none) (.inl rfl)); have NB355_360 := yN hg (yK BK355); have NB360_355 := yM hg (yK BK355); replace BK355 := aM (kB (yK BK355) hb); have NB0_360 := aM ((by rw [hg]; exact Nat.ne_of_lt (IsS86.lt (show IsS86 w0 _ g t357 t358 t359 from by repeat (first | (with_reducible first | exact HI0.out | apply IsS86.alloc | apply IsS86.drewN | apply IsS86.drew | apply IsS86.set_0 | apply IsS86.set_1 | apply IsS86.set_2 | apply IsS86.far (hne := NB0_355.out)) | exact HI0.out))) : g ≠ gb360)); have NB360_0 := aM ((by rw [hg]; exact Nat.ne_of_gt (IsS86.lt (show IsS86 w0 _ g t357 t358 t359 from by repeat (first | (with_reducible first | exact HI0.out | apply IsS86.alloc | apply IsS86.drewN | apply IsS86.drew | apply IsS86.set_0 | apply IsS86.set_1 | apply IsS86.set_2 | apply IsS86.far (hne := NB0_355.out)) | exact HI0.out))) : gb360 ≠ g)); replace HI0 := aM (IsS86.below (by repeat (first | (with_reducible first | exact HI0.out | apply IsS86.alloc | apply IsS86.drewN | apply IsS86.drew | apply IsS86.set_0 | apply IsS86.set_1 | apply IsS86.set_2 | apply IsS86.far (hne := NB0_355.out)) | exact HI0.out)) hb); clear hb hbox hg; have hnb7 := NB360_355.out; have hnc7 := NB355_360.out; have hnb8 := NB360_0.out; have hnc8 := NB0_360.out; obtain ⟨hcz9_0, hcz9_1, hcz9_2, hfz9_0, hfz9_1, hfz9_2⟩ := cells3 BK360.out))
 (try simp only [Act.put, s1_, s2_, s3_])
 go_cut [14] (fun v14 wc => ∃ (kq : Nat) (x14_2 : Bool), v14 = .bool x14_2 ∧ Aside0 (haulageref11_R_Value.j0 kq x14_2 t357 t358 t359 t356 0 (⟨#[]⟩ : ByteArray) = some (r1, r2, r3, r4, r5, r6)) ∧ Aside0 (kq ≤ k) ∧ Aside0 (wc.heap[gb355]? = some (.cells #[.int .i64 0, .int .i64 0, .string (⟨#[]⟩ : ByteArray)] 23 (0, 0))) ∧ Aside0 (wc.heap[gb360]? = some (.cells #[.int .i64 t356, .int .i64 0, .string (⟨#[]⟩ : ByteArray)] 23 (0, 0))) ∧ Aside0 (IsS86 w0 wc g t357 t358 t359) ∧ Aside0 (KeepBut w wc g none) ∧ Aside0 (Below w0.heap.size w0 wc))
 case first =>
  have H := HC3.out
  clear HC3
  by_cases c10 : t356 = 1
  ·
   rw [if_pos c10] at H
   have c10b0 : (t356 == 1) = true := beq_iff_eq.mpr c10
   have c10b1 : (t356 != 1) = false := bne_eq_false_iff_eq.mpr c10
   clear c10
   (first | rw [c10b0] | (simp only [i64_w, i32_w]; rw [c10b0]) | skip)
   have H' := aM H
   clear H
   have hnb11 := NB360_355.out
   have hnc11 := NB355_360.out
   have hnb12 := NB360_0.out
   have hnc12 := NB0_360.out
   obtain ⟨hcz13_0, hcz13_1, hcz13_2, hfz13_0, hfz13_1, hfz13_2⟩ := cells3 BK360.out
   go_wp2
   go_meet
   case rel => exact ⟨_, (true), yS, H', ⟨yO⟩, ⟨yF1 BK355 NB355_360.out⟩, ⟨puts3 BK360.out⟩, ⟨by repeat (first | (with_reducible first | exact HI0.out | apply IsS86.alloc | apply IsS86.drewN | apply IsS86.drew | apply IsS86.set_0 | apply IsS86.set_1 | apply IsS86.set_2 | apply IsS86.far (hne := NB0_355.out) | apply IsS86.far (hne := NB0_360.out)) | exact HI0.out)⟩, ⟨by repeat (first | (with_reducible first | exact HK.out | apply KeepBut.set_ | apply keep_drewN | apply keep_drew | apply keep_alloc | refine keep_far ?_ GW355.out _ | refine keep_far ?_ GW360.out _) | exact HK.out)⟩, ⟨yG3 HB (IsS86.ge HI0.out) GE355.out GE360.out⟩⟩
  ·
   rw [if_neg c10] at H
   have c10b0 : (t356 == 1) = false := beq_eq_false_iff_ne.mpr c10
   have c10b1 : (t356 != 1) = true := bne_iff_ne.mpr c10
   (first | rw [c10b0] | (simp only [i64_w, i32_w]; rw [c10b0]) | skip)
   have H' := aM H
   clear H
   have hnb14 := NB360_355.out
   have hnc14 := NB355_360.out
   have hnb15 := NB360_0.out
   have hnc15 := NB0_360.out
   obtain ⟨hcz16_0, hcz16_1, hcz16_2, hfz16_0, hfz16_1, hfz16_2⟩ := cells3 BK360.out
   go_wp2
   go_meet
   case rel => exact ⟨_, ((t356 == 2)), yS, H', ⟨yO⟩, ⟨yF1 BK355 NB355_360.out⟩, ⟨puts3 BK360.out⟩, ⟨by repeat (first | (with_reducible first | exact HI0.out | apply IsS86.alloc | apply IsS86.drewN | apply IsS86.drew | apply IsS86.set_0 | apply IsS86.set_1 | apply IsS86.set_2 | apply IsS86.far (hne := NB0_355.out) | apply IsS86.far (hne := NB0_360.out)) | exact HI0.out)⟩, ⟨by repeat (first | (with_reducible first | exact HK.out | apply KeepBut.set_ | apply keep_drewN | apply keep_drew | apply keep_alloc | refine keep_far ?_ GW355.out _ | refine keep_far ?_ GW360.out _) | exact HK.out)⟩, ⟨yG3 HB (IsS86.ge HI0.out) GE355.out GE360.out⟩⟩
 case rest =>
  clear HC3
  try clear hcz9_0 hcz9_1 hcz9_2
  try clear hfz9_0 hfz9_1 hfz9_2
  obtain ⟨kq, x14_2, rfl, HA, HJ2, BK355, BK360, HI0, HK, HB⟩ := hcut
  cases kq with
  | zero => exact absurd HA.out (by simp [haulageref11_R_Value.j0])
  | succ kj2 =>
   have H := HA.out
   clear HA
   simp only [haulageref11_R_Value.j0] at H
   have HC17 := aM H
   clear H
   go_upto_if 14 with (fail)
   go_cut [] (fun wc => ∃ (kq : Nat) (x1000_16 : ByteArray) (x1001_16 : Int) (x1002_16 : Int) (x361001_16 : Int), Aside0 (haulageref11_R_Value.j1 kq x1000_16 x1001_16 x1002_16 t356 x361001_16 (⟨#[]⟩ : ByteArray) = some (r1, r2, r3, r4, r5, r6)) ∧ Aside0 (kq ≤ kj2) ∧ Aside0 (wc.heap[gb355]? = some (.cells #[.int .i64 0, .int .i64 0, .string (⟨#[]⟩ : ByteArray)] 23 (0, 0))) ∧ Aside0 (wc.heap[gb360]? = some (.cells #[.int .i64 t356, .int .i64 x361001_16, .string (⟨#[]⟩ : ByteArray)] 23 (0, 0))) ∧ Aside0 (IsS86 w0 wc g x1000_16 x1001_16 x1002_16) ∧ Aside0 (KeepBut w wc g none) ∧ Aside0 (Below w0.heap.size w0 wc))
   case first =>
    have H := HC17.out
    clear HC17
    by_cases c18 : x14_2 = true
    ·
     subst c18
     replace H := yt H
     obtain ⟨⟨t361, t362, t363, t364⟩, A19, H⟩ := yb H
     try dsimp -simprocs only at H
     obtain ⟨t365, A20, H⟩ := yb H
     by_cases c21 : t356 = 1
     ·
      rw [if_pos c21] at H
      have c21b0 : (t356 == 1) = true := beq_iff_eq.mpr c21
      have c21b1 : (t356 != 1) = false := bne_eq_false_iff_eq.mpr c21
      clear c21
      (first | rw [c21b0] | (simp only [i64_w, i32_w]; rw [c21b0]) | skip)
      obtain ⟨t366, A22, H⟩ := yb H
      by_cases c23 : t366 = true
      ·
       subst c23
       replace H := yt H
       have H' := aM H
       clear H
       go_wp2_with (first | ((with_reducible refine gate_callee (f := 98) rfl ?_); refine yC 16 Tryd.func98 #[.pointer (some ⟨g, 0, none⟩)] rfl ?_; (with_reducible refine (haulageref11_R_Raw.calls kj2 g t357 t358 t359 t361 t362 t363 t364 w0 _ ?side1 ?side2 A19.out).mono ?_); (case side1 => repeat (first | (with_reducible first | exact HI0.out | apply IsS86.alloc | apply IsS86.drewN | apply IsS86.drew | apply IsS86.set_0 | apply IsS86.set_1 | apply IsS86.set_2 | apply IsS86.far (hne := NB0_355.out) | apply IsS86.far (hne := NB0_360.out)) | exact HI0.out)); (case side2 => exact yG3 HB (IsS86.ge HI0.out) GE355.out GE360.out); rintro e w24 ⟨rfl, hi, hb, hk⟩; refine ⟨_, rfl, ?_⟩; replace BK355 := aM (KeepBut.blk hk (g' := gb355) (o := .cells #[.int .i64 0, .int .i64 0, .string (⟨#[]⟩ : ByteArray)] 23 (0, 0)) (yK BK355) NB355_0.out (by simp)); replace BK360 := aM (KeepBut.blk hk (g' := gb360) (o := .cells #[.int .i64 t356, .int .i64 0, .string (⟨#[]⟩ : ByteArray)] 23 (0, 0)) (yK BK360) NB360_0.out (by simp)); replace HK := aM (KeepBut.trans (by repeat (first | (with_reducible first | exact HK.out | apply KeepBut.set_ | apply keep_drewN | apply keep_drew | apply keep_alloc | refine keep_far ?_ GW355.out _ | refine keep_far ?_ GW360.out _) | exact HK.out)) hk (.inl rfl)); replace HB := aM (hb); replace HI0 := aM (hi); (try clear hb); (try clear hk); (try clear hi)) | ((with_reducible refine gate_callee (f := 97) rfl ?_); refine yC 17 Tryd.func97 #[.int .u64 t361] rfl ?_; (with_reducible refine (haulageref01_Zag.calls t361 t365 _ A20.out).mono ?_); rintro e w' ⟨rfl, ⟨nd, rfl⟩⟩; refine ⟨_, rfl, ?_⟩; (try (rw [drewN_self w24]; generalize hq_ : World.drewN w24 _ = w24; have n0_ : Aside0 (w24.heap[gb355]? = some (.cells #[.int .i64 0, .int .i64 0, .string (⟨#[]⟩ : ByteArray)] 23 (0, 0))) := ⟨by rw [← hq_]; exact (yK BK355)⟩; have n1_ : Aside0 (w24.heap[gb360]? = some (.cells #[.int .i64 t356, .int .i64 0, .string (⟨#[]⟩ : ByteArray)] 23 (0, 0))) := ⟨by rw [← hq_]; exact (yK BK360)⟩; have n2_ : Aside0 (IsS86 w0 w24 g t362 t363 t364) := ⟨by rw [← hq_]; exact (by repeat (first | (with_reducible first | exact HI0.out | apply IsS86.alloc | apply IsS86.drewN | apply IsS86.drew | apply IsS86.set_0 | apply IsS86.set_1 | apply IsS86.set_2 | apply IsS86.far (hne := NB0_355.out) | apply IsS86.far (hne := NB0_360.out)) | exact HI0.out))⟩; have n3_ : Aside0 (KeepBut w w24 g none) := ⟨by rw [← hq_]; exact (by repeat (first | (with_reducible first | exact HK.out | apply KeepBut.set_ | apply keep_drewN | apply keep_drew | apply keep_alloc | refine keep_far ?_ GW355.out _ | refine keep_far ?_ GW360.out _) | exact HK.out))⟩; have n4_ : Aside0 (Below w0.heap.size w0 w24) := ⟨by rw [← hq_]; exact (yG3 HB (IsS86.ge HI0.out) GE355.out GE360.out)⟩; clear BK355 BK360 HI0 HK HB hq_; have BK355 := n0_; have BK360 := n1_; have HI0 := n2_; have HK := n3_; have HB := n4_; clear n0_ n1_ n2_ n3_ n4_)); obtain ⟨HGm, hgm⟩ := HI0.out; have hczm0_0 := cellS86_0 HGm; have hfzm0_0 := blk_frozen HGm 0; clear HGm hgm; have hnb25 := NB360_355.out; have hnc25 := NB355_360.out; have hnb26 := NB360_0.out; have hnc26 := NB0_360.out; obtain ⟨hcz27_0, hcz27_1, hcz27_2, hfz27_0, hfz27_1, hfz27_2⟩ := cells3 BK360.out) | (go_at_call 40; (with_reducible refine (haulageref01_Fits.calls kj2 t365 32 true _ A22.out).mono ?_); rintro e w' ⟨rfl, ⟨nd, rfl⟩⟩))
       go_meet
       case rel => exact ⟨_, (t362), (t363), (t364), (t365), H', ⟨by have := HJ2.out; first | omega | exact Nat.le_refl _⟩, ⟨yF1 BK355 NB355_360.out⟩, ⟨by (with_reducible repeat (first | refine kN ?_ _ | refine kD ?_ | refine kA ?_ _)); refine kP (cs := #[.int .i64 t356, .int .i64 0, .string (⟨#[]⟩ : ByteArray)]) ?_ 1 _ rfl; (with_reducible repeat (first | refine kN ?_ _ | refine kD ?_ | refine kA ?_ _)); exact BK360.out⟩, ⟨by repeat (first | (with_reducible first | exact HI0.out | apply IsS86.alloc | apply IsS86.drewN | apply IsS86.drew | apply IsS86.set_0 | apply IsS86.set_1 | apply IsS86.set_2 | apply IsS86.far (hne := NB0_355.out) | apply IsS86.far (hne := NB0_360.out)) | exact HI0.out)⟩, ⟨by repeat (first | (with_reducible first | exact HK.out | apply KeepBut.set_ | apply keep_drewN | apply keep_drew | apply keep_alloc | refine keep_far ?_ GW355.out _ | refine keep_far ?_ GW360.out _) | exact HK.out)⟩, ⟨yG3 HB (IsS86.ge HI0.out) GE355.out GE360.out⟩⟩
      ·
       replace c23 := Bool.eq_false_iff.mpr c23
       subst c23
       replace H := yf H
       obtain ⟨⟨t367, t368, t369⟩, A28, H⟩ := yb H
       try dsimp -simprocs only at H
       have H' := aM H
       clear H
       go_wp2_with (first | ((with_reducible refine gate_callee (f := 98) rfl ?_); refine yC 16 Tryd.func98 #[.pointer (some ⟨g, 0, none⟩)] rfl ?_; (with_reducible refine (haulageref11_R_Raw.calls kj2 g t357 t358 t359 t361 t362 t363 t364 w0 _ ?side1 ?side2 A19.out).mono ?_); (case side1 => repeat (first | (with_reducible first | exact HI0.out | apply IsS86.alloc | apply IsS86.drewN | apply IsS86.drew | apply IsS86.set_0 | apply IsS86.set_1 | apply IsS86.set_2 | apply IsS86.far (hne := NB0_355.out) | apply IsS86.far (hne := NB0_360.out)) | exact HI0.out)); (case side2 => exact yG3 HB (IsS86.ge HI0.out) GE355.out GE360.out); rintro e w29 ⟨rfl, hi, hb, hk⟩; refine ⟨_, rfl, ?_⟩; replace BK355 := aM (KeepBut.blk hk (g' := gb355) (o := .cells #[.int .i64 0, .int .i64 0, .string (⟨#[]⟩ : ByteArray)] 23 (0, 0)) (yK BK355) NB355_0.out (by simp)); replace BK360 := aM (KeepBut.blk hk (g' := gb360) (o := .cells #[.int .i64 t356, .int .i64 0, .string (⟨#[]⟩ : ByteArray)] 23 (0, 0)) (yK BK360) NB360_0.out (by simp)); replace HK := aM (KeepBut.trans (by repeat (first | (with_reducible first | exact HK.out | apply KeepBut.set_ | apply keep_drewN | apply keep_drew | apply keep_alloc | refine keep_far ?_ GW355.out _ | refine keep_far ?_ GW360.out _) | exact HK.out)) hk (.inl rfl)); replace HB := aM (hb); replace HI0 := aM (hi); (try clear hb); (try clear hk); (try clear hi)) | ((with_reducible refine gate_callee (f := 97) rfl ?_); refine yC 17 Tryd.func97 #[.int .u64 t361] rfl ?_; (with_reducible refine (haulageref01_Zag.calls t361 t365 _ A20.out).mono ?_); rintro e w' ⟨rfl, ⟨nd, rfl⟩⟩; refine ⟨_, rfl, ?_⟩; (try (rw [drewN_self w29]; generalize hq_ : World.drewN w29 _ = w29; have n0_ : Aside0 (w29.heap[gb355]? = some (.cells #[.int .i64 0, .int .i64 0, .string (⟨#[]⟩ : ByteArray)] 23 (0, 0))) := ⟨by rw [← hq_]; exact (yK BK355)⟩; have n1_ : Aside0 (w29.heap[gb360]? = some (.cells #[.int .i64 t356, .int .i64 0, .string (⟨#[]⟩ : ByteArray)] 23 (0, 0))) := ⟨by rw [← hq_]; exact (yK BK360)⟩; have n2_ : Aside0 (IsS86 w0 w29 g t362 t363 t364) := ⟨by rw [← hq_]; exact (by repeat (first | (with_reducible first | exact HI0.out | apply IsS86.alloc | apply IsS86.drewN | apply IsS86.drew | apply IsS86.set_0 | apply IsS86.set_1 | apply IsS86.set_2 | apply IsS86.far (hne := NB0_355.out) | apply IsS86.far (hne := NB0_360.out)) | exact HI0.out))⟩; have n3_ : Aside0 (KeepBut w w29 g none) := ⟨by rw [← hq_]; exact (by repeat (first | (with_reducible first | exact HK.out | apply KeepBut.set_ | apply keep_drewN | apply keep_drew | apply keep_alloc | refine keep_far ?_ GW355.out _ | refine keep_far ?_ GW360.out _) | exact HK.out))⟩; have n4_ : Aside0 (Below w0.heap.size w0 w29) := ⟨by rw [← hq_]; exact (yG3 HB (IsS86.ge HI0.out) GE355.out GE360.out)⟩; clear BK355 BK360 HI0 HK HB hq_; have BK355 := n0_; have BK360 := n1_; have HI0 := n2_; have HK := n3_; have HB := n4_; clear n0_ n1_ n2_ n3_ n4_)); obtain ⟨HGm, hgm⟩ := HI0.out; have hczm0_0 := cellS86_0 HGm; have hfzm0_0 := blk_frozen HGm 0; clear HGm hgm; have hnb30 := NB360_355.out; have hnc30 := NB355_360.out; have hnb31 := NB360_0.out; have hnc31 := NB0_360.out; obtain ⟨hcz32_0, hcz32_1, hcz32_2, hfz32_0, hfz32_1, hfz32_2⟩ := cells3 BK360.out) | (go_at_call 40; (with_reducible refine (haulageref01_Fits.calls kj2 t365 32 false _ A22.out).mono ?_); rintro e w' ⟨rfl, ⟨nd, rfl⟩⟩) | ((with_reducible refine gate_callee (f := 59) rfl ?_); refine yC 29 Tryd.func59 #[.pointer (some ⟨g, 0, none⟩), .int .i64 5] rfl ?_; (with_reducible refine (haulageref11_R_bad.calls g t362 t363 t364 5 t367 t368 t369 w0 _ ?side1 ?side2 A28.out).mono ?_); (case side1 => repeat (first | (with_reducible first | exact HI0.out | apply IsS86.alloc | apply IsS86.drewN | apply IsS86.drew | apply IsS86.set_0 | apply IsS86.set_1 | apply IsS86.set_2 | apply IsS86.far (hne := NB0_355.out) | apply IsS86.far (hne := NB0_360.out)) | exact HI0.out)); (case side2 => exact yG3 HB (IsS86.ge HI0.out) GE355.out GE360.out); rintro e w33 ⟨rfl, hi, hb, hk⟩; refine ⟨_, rfl, ?_⟩; replace BK355 := aM (KeepBut.blk hk (g' := gb355) (o := .cells #[.int .i64 0, .int .i64 0, .string (⟨#[]⟩ : ByteArray)] 23 (0, 0)) (yF1 BK355 NB355_360.out) NB355_0.out (by simp)); replace BK360 := aM (KeepBut.blk hk (g' := gb360) (o := .cells #[.int .i64 t356, .int .i64 t365, .string (⟨#[]⟩ : ByteArray)] 23 (0, 0)) (by (with_reducible repeat (first | refine kN ?_ _ | refine kD ?_ | refine kA ?_ _)); refine kP (cs := #[.int .i64 t356, .int .i64 0, .string (⟨#[]⟩ : ByteArray)]) ?_ 1 _ rfl; (with_reducible repeat (first | refine kN ?_ _ | refine kD ?_ | refine kA ?_ _)); exact BK360.out) NB360_0.out (by simp)); replace HK := aM (KeepBut.trans (by repeat (first | (with_reducible first | exact HK.out | apply KeepBut.set_ | apply keep_drewN | apply keep_drew | apply keep_alloc | refine keep_far ?_ GW355.out _ | refine keep_far ?_ GW360.out _) | exact HK.out)) hk (.inl rfl)); replace HB := aM (hb); replace HI0 := aM (hi); (try clear hb); (try clear hk); (try clear hi)))
       go_meet
       case rel => exact ⟨_, (t367), (t368), (t369), (t365), H', ⟨by have := HJ2.out; first | omega | exact Nat.le_refl _⟩, ⟨yK BK355⟩, ⟨yK BK360⟩, ⟨by repeat (first | (with_reducible first | exact HI0.out | apply IsS86.alloc | apply IsS86.drewN | apply IsS86.drew | apply IsS86.set_0 | apply IsS86.set_1 | apply IsS86.set_2 | apply IsS86.far (hne := NB0_355.out) | apply IsS86.far (hne := NB0_360.out)) | exact HI0.out)⟩, ⟨by repeat (first | (with_reducible first | exact HK.out | apply KeepBut.set_ | apply keep_drewN | apply keep_drew | apply keep_alloc | refine keep_far ?_ GW355.out _ | refine keep_far ?_ GW360.out _) | exact HK.out)⟩, ⟨yG3 HB (IsS86.ge HI0.out) GE355.out GE360.out⟩⟩
     ·
      rw [if_neg c21] at H
      have c21b0 : (t356 == 1) = false := beq_eq_false_iff_ne.mpr c21
      have c21b1 : (t356 != 1) = true := bne_iff_ne.mpr c21
      (first | rw [c21b0] | (simp only [i64_w, i32_w]; rw [c21b0]) | skip)
      have H' := aM H
      clear H
      go_wp2_with (first | ((with_reducible refine gate_callee (f := 98) rfl ?_); refine yC 16 Tryd.func98 #[.pointer (some ⟨g, 0, none⟩)] rfl ?_; (with_reducible refine (haulageref11_R_Raw.calls kj2 g t357 t358 t359 t361 t362 t363 t364 w0 _ ?side1 ?side2 A19.out).mono ?_); (case side1 => repeat (first | (with_reducible first | exact HI0.out | apply IsS86.alloc | apply IsS86.drewN | apply IsS86.drew | apply IsS86.set_0 | apply IsS86.set_1 | apply IsS86.set_2 | apply IsS86.far (hne := NB0_355.out) | apply IsS86.far (hne := NB0_360.out)) | exact HI0.out)); (case side2 => exact yG3 HB (IsS86.ge HI0.out) GE355.out GE360.out); rintro e w34 ⟨rfl, hi, hb, hk⟩; refine ⟨_, rfl, ?_⟩; replace BK355 := aM (KeepBut.blk hk (g' := gb355) (o := .cells #[.int .i64 0, .int .i64 0, .string (⟨#[]⟩ : ByteArray)] 23 (0, 0)) (yK BK355) NB355_0.out (by simp)); replace BK360 := aM (KeepBut.blk hk (g' := gb360) (o := .cells #[.int .i64 t356, .int .i64 0, .string (⟨#[]⟩ : ByteArray)] 23 (0, 0)) (yK BK360) NB360_0.out (by simp)); replace HK := aM (KeepBut.trans (by repeat (first | (with_reducible first | exact HK.out | apply KeepBut.set_ | apply keep_drewN | apply keep_drew | apply keep_alloc | refine keep_far ?_ GW355.out _ | refine keep_far ?_ GW360.out _) | exact HK.out)) hk (.inl rfl)); replace HB := aM (hb); replace HI0 := aM (hi); (try clear hb); (try clear hk); (try clear hi)) | ((with_reducible refine gate_callee (f := 97) rfl ?_); refine yC 17 Tryd.func97 #[.int .u64 t361] rfl ?_; (with_reducible refine (haulageref01_Zag.calls t361 t365 _ A20.out).mono ?_); rintro e w' ⟨rfl, ⟨nd, rfl⟩⟩; refine ⟨_, rfl, ?_⟩; (try (rw [drewN_self w34]; generalize hq_ : World.drewN w34 _ = w34; have n0_ : Aside0 (w34.heap[gb355]? = some (.cells #[.int .i64 0, .int .i64 0, .string (⟨#[]⟩ : ByteArray)] 23 (0, 0))) := ⟨by rw [← hq_]; exact (yK BK355)⟩; have n1_ : Aside0 (w34.heap[gb360]? = some (.cells #[.int .i64 t356, .int .i64 0, .string (⟨#[]⟩ : ByteArray)] 23 (0, 0))) := ⟨by rw [← hq_]; exact (yK BK360)⟩; have n2_ : Aside0 (IsS86 w0 w34 g t362 t363 t364) := ⟨by rw [← hq_]; exact (by repeat (first | (with_reducible first | exact HI0.out | apply IsS86.alloc | apply IsS86.drewN | apply IsS86.drew | apply IsS86.set_0 | apply IsS86.set_1 | apply IsS86.set_2 | apply IsS86.far (hne := NB0_355.out) | apply IsS86.far (hne := NB0_360.out)) | exact HI0.out))⟩; have n3_ : Aside0 (KeepBut w w34 g none) := ⟨by rw [← hq_]; exact (by repeat (first | (with_reducible first | exact HK.out | apply KeepBut.set_ | apply keep_drewN | apply keep_drew | apply keep_alloc | refine keep_far ?_ GW355.out _ | refine keep_far ?_ GW360.out _) | exact HK.out))⟩; have n4_ : Aside0 (Below w0.heap.size w0 w34) := ⟨by rw [← hq_]; exact (yG3 HB (IsS86.ge HI0.out) GE355.out GE360.out)⟩; clear BK355 BK360 HI0 HK HB hq_; have BK355 := n0_; have BK360 := n1_; have HI0 := n2_; have HK := n3_; have HB := n4_; clear n0_ n1_ n2_ n3_ n4_)); obtain ⟨HGm, hgm⟩ := HI0.out; have hczm0_0 := cellS86_0 HGm; have hfzm0_0 := blk_frozen HGm 0; clear HGm hgm; have hnb35 := NB360_355.out; have hnc35 := NB355_360.out; have hnb36 := NB360_0.out; have hnc36 := NB0_360.out; obtain ⟨hcz37_0, hcz37_1, hcz37_2, hfz37_0, hfz37_1, hfz37_2⟩ := cells3 BK360.out))
      go_meet
      case rel => exact ⟨_, (t362), (t363), (t364), (t365), H', ⟨by have := HJ2.out; first | omega | exact Nat.le_refl _⟩, ⟨yF1 BK355 NB355_360.out⟩, ⟨by (with_reducible repeat (first | refine kN ?_ _ | refine kD ?_ | refine kA ?_ _)); refine kP (cs := #[.int .i64 t356, .int .i64 0, .string (⟨#[]⟩ : ByteArray)]) ?_ 1 _ rfl; (with_reducible repeat (first | refine kN ?_ _ | refine kD ?_ | refine kA ?_ _)); exact BK360.out⟩, ⟨by repeat (first | (with_reducible first | exact HI0.out | apply IsS86.alloc | apply IsS86.drewN | apply IsS86.drew | apply IsS86.set_0 | apply IsS86.set_1 | apply IsS86.set_2 | apply IsS86.far (hne := NB0_355.out) | apply IsS86.far (hne := NB0_360.out)) | exact HI0.out)⟩, ⟨by repeat (first | (with_reducible first | exact HK.out | apply KeepBut.set_ | apply keep_drewN | apply keep_drew | apply keep_alloc | refine keep_far ?_ GW355.out _ | refine keep_far ?_ GW360.out _) | exact HK.out)⟩, ⟨yG3 HB (IsS86.ge HI0.out) GE355.out GE360.out⟩⟩
    ·
     replace c18 := Bool.eq_false_iff.mpr c18
     subst c18
     replace H := yf H
     have H' := aM H
     clear H
     go_wp2
     go_meet
     case rel => exact ⟨_, (t357), (t358), (t359), (0), H', ⟨by have := HJ2.out; first | omega | exact Nat.le_refl _⟩, ⟨yK BK355⟩, ⟨yK BK360⟩, ⟨by repeat (first | (with_reducible first | exact HI0.out | apply IsS86.alloc | apply IsS86.drewN | apply IsS86.drew | apply IsS86.set_0 | apply IsS86.set_1 | apply IsS86.set_2 | apply IsS86.far (hne := NB0_355.out) | apply IsS86.far (hne := NB0_360.out)) | exact HI0.out)⟩, ⟨by repeat (first | (with_reducible first | exact HK.out | apply KeepBut.set_ | apply keep_drewN | apply keep_drew | apply keep_alloc | refine keep_far ?_ GW355.out _ | refine keep_far ?_ GW360.out _) | exact HK.out)⟩, ⟨yG3 HB (IsS86.ge HI0.out) GE355.out GE360.out⟩⟩
   case rest =>
    clear HC17
    try clear hcz9_0 hcz9_1 hcz9_2
    try clear hfz9_0 hfz9_1 hfz9_2
    obtain ⟨kq, x1000_16, x1001_16, x1002_16, x361001_16, HA, HJ16, BK355, BK360, HI0, HK, HB⟩ := hcut
    cases kq with
    | zero => exact absurd HA.out (by simp [haulageref11_R_Value.j1])
    | succ kj16 =>
     have H := HA.out
     clear HA
     simp only [haulageref11_R_Value.j1] at H
     by_cases c38 : t356 ≥ 3
     ·
      rw [if_pos c38] at H
      have c38b0 : decide (3 ≤ t356) = true := decide_eq_true c38
      clear c38
      obtain ⟨⟨t370, t371, t372, t373⟩, A39, H⟩ := yb H
      try dsimp -simprocs only at H
      by_cases c40 : t356 = 3
      ·
       rw [if_pos c40] at H
       have c40b0 : (t356 == 3) = true := beq_iff_eq.mpr c40
       have c40b1 : (t356 != 3) = false := bne_eq_false_iff_eq.mpr c40
       clear c40
       obtain ⟨t374, A41, H⟩ := yb H
       by_cases c42 : t374 = true
       ·
        subst c42
        replace H := yt H
        simp only [Option.some.injEq, Prod.mk.injEq] at H
        obtain ⟨rfl, rfl, rfl, rfl, rfl, rfl⟩ := H
        have hnb43 := NB360_355.out
        have hnc43 := NB355_360.out
        have hnb44 := NB360_0.out
        have hnc44 := NB0_360.out
        obtain ⟨hcz45_0, hcz45_1, hcz45_2, hfz45_0, hfz45_1, hfz45_2⟩ := cells3 BK360.out
        go_wp2_with (first | ((with_reducible refine gate_callee (f := 57) rfl ?_); refine yC 34 Tryd.func57 #[.pointer (some ⟨g, 0, none⟩), .int .i64 120] rfl ?_; (with_reducible refine (haulageref11_R_Text.calls kj16 g x1000_16 x1001_16 x1002_16 120 t370 t371 t372 t373 w0 _ ?side1 ?side2 A39.out).mono ?_); (case side1 => repeat (first | (with_reducible first | exact HI0.out | apply IsS86.alloc | apply IsS86.drewN | apply IsS86.drew | apply IsS86.set_0 | apply IsS86.set_1 | apply IsS86.set_2 | apply IsS86.far (hne := NB0_355.out) | apply IsS86.far (hne := NB0_360.out)) | exact HI0.out)); (case side2 => exact yG3 HB (IsS86.ge HI0.out) GE355.out GE360.out); rintro e w46 ⟨rfl, hi, hb, hk⟩; refine ⟨_, rfl, ?_⟩; replace BK355 := aM (KeepBut.blk hk (g' := gb355) (o := .cells #[.int .i64 0, .int .i64 0, .string (⟨#[]⟩ : ByteArray)] 23 (0, 0)) (yK BK355) NB355_0.out (by simp)); replace BK360 := aM (KeepBut.blk hk (g' := gb360) (o := .cells #[.int .i64 t356, .int .i64 x361001_16, .string (⟨#[]⟩ : ByteArray)] 23 (0, 0)) (yK BK360) NB360_0.out (by simp)); replace HK := aM (KeepBut.trans (by repeat (first | (with_reducible first | exact HK.out | apply KeepBut.set_ | apply keep_drewN | apply keep_drew | apply keep_alloc | refine keep_far ?_ GW355.out _ | refine keep_far ?_ GW360.out _) | exact HK.out)) hk (.inl rfl)); replace HB := aM (hb); replace HI0 := aM (hi); (try clear hb); (try clear hk); (try clear hi); obtain ⟨hcz47_0, hcz47_1, hcz47_2, hfz47_0, hfz47_1, hfz47_2⟩ := cells3 BK360.out) | (go_at_call 41; (with_reducible refine (haulageref03_Right.calls kj16 t370 true _ A41.out).mono ?_); rintro e w48 ⟨rfl, hb⟩; replace BK355 := aM (kB (yF1 BK355 NB355_360.out) hb); replace BK360 := aM (kB (g := gb360) (o := .cells #[.int .i64 t356, .int .i64 x361001_16, .string t370] 23 (0, 0)) (by (with_reducible repeat (first | refine kN ?_ _ | refine kD ?_ | refine kA ?_ _)); refine kP (cs := #[.int .i64 t356, .int .i64 x361001_16, .string (⟨#[]⟩ : ByteArray)]) ?_ 2 _ rfl; (with_reducible repeat (first | refine kN ?_ _ | refine kD ?_ | refine kA ?_ _)); exact BK360.out) hb); replace HK := aM (KeepBut.trans (by repeat (first | (with_reducible first | exact HK.out | apply KeepBut.set_ | apply keep_drewN | apply keep_drew | apply keep_alloc | refine keep_far ?_ GW355.out _ | refine keep_far ?_ GW360.out _) | exact HK.out)) (KeepBut.of_below hb g none) (.inl rfl)); replace HB := aM (bP (yG3 HB (IsS86.ge HI0.out) GE355.out GE360.out) hb); replace HI0 := aM (IsS86.below (show IsS86 w0 (w46.setCell ⟨gb360, 2, none⟩ (.string t370)) g t371 t372 t373 from by repeat (first | (with_reducible first | exact HI0.out | apply IsS86.alloc | apply IsS86.drewN | apply IsS86.drew | apply IsS86.set_0 | apply IsS86.set_1 | apply IsS86.set_2 | apply IsS86.far (hne := NB0_355.out) | apply IsS86.far (hne := NB0_360.out)) | exact HI0.out)) hb); (try clear hb); (try clear hk); (try clear hi); obtain ⟨hcz49_0, hcz49_1, hcz49_2, hfz49_0, hfz49_1, hfz49_2⟩ := cells3 BK360.out; have hnb50 := NB355_0.out; have hnc50 := NB0_355.out; obtain ⟨hcz51_0, hcz51_1, hcz51_2, hfz51_0, hfz51_1, hfz51_2⟩ := cells3 BK355.out))
        refine bodyPost_ret (results_cell_row rfl _ _ gb355 23 #[.int .i64 t356, .int .i64 x361001_16, .string t370] (0, 0) _ rfl (puts3 BK355.out) Tryd.underlying23 rfl (by kernel_rfl)) rfl ?_
        exact ⟨yE, by repeat (first | (with_reducible first | exact HI0.out | apply IsS86.alloc | apply IsS86.drewN | apply IsS86.drew | apply IsS86.set_0 | apply IsS86.set_1 | apply IsS86.set_2 | apply IsS86.far (hne := NB0_355.out) | apply IsS86.far (hne := NB0_360.out)) | exact HI0.out), yG3 HB (IsS86.ge HI0.out) GE355.out GE360.out, by repeat (first | (with_reducible first | exact HK.out | apply KeepBut.set_ | apply keep_drewN | apply keep_drew | apply keep_alloc | refine keep_far ?_ GW355.out _ | refine keep_far ?_ GW360.out _) | exact HK.out)⟩
       ·
        replace c42 := Bool.eq_false_iff.mpr c42
        subst c42
        replace H := yf H
        obtain ⟨⟨t375, t376, t377⟩, A52, H⟩ := yb H
        try dsimp -simprocs only at H
        simp only [Option.some.injEq, Prod.mk.injEq] at H
        obtain ⟨rfl, rfl, rfl, rfl, rfl, rfl⟩ := H
        have hnb53 := NB360_355.out
        have hnc53 := NB355_360.out
        have hnb54 := NB360_0.out
        have hnc54 := NB0_360.out
        obtain ⟨hcz55_0, hcz55_1, hcz55_2, hfz55_0, hfz55_1, hfz55_2⟩ := cells3 BK360.out
        go_wp2_with (first | ((with_reducible refine gate_callee (f := 57) rfl ?_); refine yC 34 Tryd.func57 #[.pointer (some ⟨g, 0, none⟩), .int .i64 120] rfl ?_; (with_reducible refine (haulageref11_R_Text.calls kj16 g x1000_16 x1001_16 x1002_16 120 t370 t371 t372 t373 w0 _ ?side1 ?side2 A39.out).mono ?_); (case side1 => repeat (first | (with_reducible first | exact HI0.out | apply IsS86.alloc | apply IsS86.drewN | apply IsS86.drew | apply IsS86.set_0 | apply IsS86.set_1 | apply IsS86.set_2 | apply IsS86.far (hne := NB0_355.out) | apply IsS86.far (hne := NB0_360.out)) | exact HI0.out)); (case side2 => exact yG3 HB (IsS86.ge HI0.out) GE355.out GE360.out); rintro e w56 ⟨rfl, hi, hb, hk⟩; refine ⟨_, rfl, ?_⟩; replace BK355 := aM (KeepBut.blk hk (g' := gb355) (o := .cells #[.int .i64 0, .int .i64 0, .string (⟨#[]⟩ : ByteArray)] 23 (0, 0)) (yK BK355) NB355_0.out (by simp)); replace BK360 := aM (KeepBut.blk hk (g' := gb360) (o := .cells #[.int .i64 t356, .int .i64 x361001_16, .string (⟨#[]⟩ : ByteArray)] 23 (0, 0)) (yK BK360) NB360_0.out (by simp)); replace HK := aM (KeepBut.trans (by repeat (first | (with_reducible first | exact HK.out | apply KeepBut.set_ | apply keep_drewN | apply keep_drew | apply keep_alloc | refine keep_far ?_ GW355.out _ | refine keep_far ?_ GW360.out _) | exact HK.out)) hk (.inl rfl)); replace HB := aM (hb); replace HI0 := aM (hi); (try clear hb); (try clear hk); (try clear hi); obtain ⟨hcz57_0, hcz57_1, hcz57_2, hfz57_0, hfz57_1, hfz57_2⟩ := cells3 BK360.out) | (go_at_call 41; (with_reducible refine (haulageref03_Right.calls kj16 t370 false _ A41.out).mono ?_); rintro e w58 ⟨rfl, hb⟩; replace BK355 := aM (kB (yF1 BK355 NB355_360.out) hb); replace BK360 := aM (kB (g := gb360) (o := .cells #[.int .i64 t356, .int .i64 x361001_16, .string t370] 23 (0, 0)) (by (with_reducible repeat (first | refine kN ?_ _ | refine kD ?_ | refine kA ?_ _)); refine kP (cs := #[.int .i64 t356, .int .i64 x361001_16, .string (⟨#[]⟩ : ByteArray)]) ?_ 2 _ rfl; (with_reducible repeat (first | refine kN ?_ _ | refine kD ?_ | refine kA ?_ _)); exact BK360.out) hb); replace HK := aM (KeepBut.trans (by repeat (first | (with_reducible first | exact HK.out | apply KeepBut.set_ | apply keep_drewN | apply keep_drew | apply keep_alloc | refine keep_far ?_ GW355.out _ | refine keep_far ?_ GW360.out _) | exact HK.out)) (KeepBut.of_below hb g none) (.inl rfl)); replace HB := aM (bP (yG3 HB (IsS86.ge HI0.out) GE355.out GE360.out) hb); replace HI0 := aM (IsS86.below (show IsS86 w0 (w56.setCell ⟨gb360, 2, none⟩ (.string t370)) g t371 t372 t373 from by repeat (first | (with_reducible first | exact HI0.out | apply IsS86.alloc | apply IsS86.drewN | apply IsS86.drew | apply IsS86.set_0 | apply IsS86.set_1 | apply IsS86.set_2 | apply IsS86.far (hne := NB0_355.out) | apply IsS86.far (hne := NB0_360.out)) | exact HI0.out)) hb); (try clear hb); (try clear hk); (try clear hi)) | ((with_reducible refine gate_callee (f := 59) rfl ?_); refine yC 46 Tryd.func59 #[.pointer (some ⟨g, 0, none⟩), .int .i64 5] rfl ?_; (with_reducible refine (haulageref11_R_bad.calls g t371 t372 t373 5 t375 t376 t377 w0 _ ?side1 ?side2 A52.out).mono ?_); (case side1 => repeat (first | (with_reducible first | exact HI0.out | apply IsS86.alloc | apply IsS86.drewN | apply IsS86.drew | apply IsS86.set_0 | apply IsS86.set_1 | apply IsS86.set_2 | apply IsS86.far (hne := NB0_355.out) | apply IsS86.far (hne := NB0_360.out)) | exact HI0.out)); (case side2 => exact yG3 HB (IsS86.ge HI0.out) GE355.out GE360.out); rintro e w59 ⟨rfl, hi, hb, hk⟩; refine ⟨_, rfl, ?_⟩; replace BK355 := aM (KeepBut.blk hk (g' := gb355) (o := .cells #[.int .i64 0, .int .i64 0, .string (⟨#[]⟩ : ByteArray)] 23 (0, 0)) (yK BK355) NB355_0.out (by simp)); replace BK360 := aM (KeepBut.blk hk (g' := gb360) (o := .cells #[.int .i64 t356, .int .i64 x361001_16, .string t370] 23 (0, 0)) (yK BK360) NB360_0.out (by simp)); replace HK := aM (KeepBut.trans (by repeat (first | (with_reducible first | exact HK.out | apply KeepBut.set_ | apply keep_drewN | apply keep_drew | apply keep_alloc | refine keep_far ?_ GW355.out _ | refine keep_far ?_ GW360.out _) | exact HK.out)) hk (.inl rfl)); replace HB := aM (hb); replace HI0 := aM (hi); (try clear hb); (try clear hk); (try clear hi); obtain ⟨hcz60_0, hcz60_1, hcz60_2, hfz60_0, hfz60_1, hfz60_2⟩ := cells3 BK360.out; have hnb61 := NB355_0.out; have hnc61 := NB0_355.out; obtain ⟨hcz62_0, hcz62_1, hcz62_2, hfz62_0, hfz62_1, hfz62_2⟩ := cells3 BK355.out))
        refine bodyPost_ret (results_cell_row rfl _ _ gb355 23 #[.int .i64 t356, .int .i64 x361001_16, .string t370] (0, 0) _ rfl (puts3 BK355.out) Tryd.underlying23 rfl (by kernel_rfl)) rfl ?_
        exact ⟨yE, by repeat (first | (with_reducible first | exact HI0.out | apply IsS86.alloc | apply IsS86.drewN | apply IsS86.drew | apply IsS86.set_0 | apply IsS86.set_1 | apply IsS86.set_2 | apply IsS86.far (hne := NB0_355.out) | apply IsS86.far (hne := NB0_360.out)) | exact HI0.out), yG3 HB (IsS86.ge HI0.out) GE355.out GE360.out, by repeat (first | (with_reducible first | exact HK.out | apply KeepBut.set_ | apply keep_drewN | apply keep_drew | apply keep_alloc | refine keep_far ?_ GW355.out _ | refine keep_far ?_ GW360.out _) | exact HK.out)⟩
      ·
       rw [if_neg c40] at H
       have c40b0 : (t356 == 3) = false := beq_eq_false_iff_ne.mpr c40
       have c40b1 : (t356 != 3) = true := bne_iff_ne.mpr c40
       simp only [Option.some.injEq, Prod.mk.injEq] at H
       obtain ⟨rfl, rfl, rfl, rfl, rfl, rfl⟩ := H
       have hnb63 := NB360_355.out
       have hnc63 := NB355_360.out
       have hnb64 := NB360_0.out
       have hnc64 := NB0_360.out
       obtain ⟨hcz65_0, hcz65_1, hcz65_2, hfz65_0, hfz65_1, hfz65_2⟩ := cells3 BK360.out
       go_wp2_with (first | ((with_reducible refine gate_callee (f := 57) rfl ?_); refine yC 34 Tryd.func57 #[.pointer (some ⟨g, 0, none⟩), .int .i64 120] rfl ?_; (with_reducible refine (haulageref11_R_Text.calls kj16 g x1000_16 x1001_16 x1002_16 120 t370 t371 t372 t373 w0 _ ?side1 ?side2 A39.out).mono ?_); (case side1 => repeat (first | (with_reducible first | exact HI0.out | apply IsS86.alloc | apply IsS86.drewN | apply IsS86.drew | apply IsS86.set_0 | apply IsS86.set_1 | apply IsS86.set_2 | apply IsS86.far (hne := NB0_355.out) | apply IsS86.far (hne := NB0_360.out)) | exact HI0.out)); (case side2 => exact yG3 HB (IsS86.ge HI0.out) GE355.out GE360.out); rintro e w66 ⟨rfl, hi, hb, hk⟩; refine ⟨_, rfl, ?_⟩; replace BK355 := aM (KeepBut.blk hk (g' := gb355) (o := .cells #[.int .i64 0, .int .i64 0, .string (⟨#[]⟩ : ByteArray)] 23 (0, 0)) (yK BK355) NB355_0.out (by simp)); replace BK360 := aM (KeepBut.blk hk (g' := gb360) (o := .cells #[.int .i64 t356, .int .i64 x361001_16, .string (⟨#[]⟩ : ByteArray)] 23 (0, 0)) (yK BK360) NB360_0.out (by simp)); replace HK := aM (KeepBut.trans (by repeat (first | (with_reducible first | exact HK.out | apply KeepBut.set_ | apply keep_drewN | apply keep_drew | apply keep_alloc | refine keep_far ?_ GW355.out _ | refine keep_far ?_ GW360.out _) | exact HK.out)) hk (.inl rfl)); replace HB := aM (hb); replace HI0 := aM (hi); (try clear hb); (try clear hk); (try clear hi); obtain ⟨hcz67_0, hcz67_1, hcz67_2, hfz67_0, hfz67_1, hfz67_2⟩ := cells3 BK360.out; have hnb68 := NB355_0.out; have hnc68 := NB0_355.out; obtain ⟨hcz69_0, hcz69_1, hcz69_2, hfz69_0, hfz69_1, hfz69_2⟩ := cells3 BK355.out))
       refine bodyPost_ret (results_cell_row rfl _ _ gb355 23 #[.int .i64 t356, .int .i64 x361001_16, .string t370] (0, 0) _ rfl (by (with_reducible repeat (first | refine kN ?_ _ | refine kD ?_ | refine kA ?_ _)); refine kP (cs := #[.int .i64 t356, .int .i64 x361001_16, .string (⟨#[]⟩ : ByteArray)]) ?_ 2 _ rfl; (with_reducible repeat (first | refine kN ?_ _ | refine kD ?_ | refine kA ?_ _)); refine kP (cs := #[.int .i64 t356, .int .i64 0, .string (⟨#[]⟩ : ByteArray)]) ?_ 1 _ rfl; (with_reducible repeat (first | refine kN ?_ _ | refine kD ?_ | refine kA ?_ _)); refine kP (cs := #[.int .i64 0, .int .i64 0, .string (⟨#[]⟩ : ByteArray)]) ?_ 0 _ rfl; (with_reducible repeat (first | refine kN ?_ _ | refine kD ?_ | refine kA ?_ _)); refine kF ?_ NB355_360.out _; (with_reducible repeat (first | refine kN ?_ _ | refine kD ?_ | refine kA ?_ _)); exact BK355.out) Tryd.underlying23 rfl (by kernel_rfl)) rfl ?_
       exact ⟨yE, by repeat (first | (with_reducible first | exact HI0.out | apply IsS86.alloc | apply IsS86.drewN | apply IsS86.drew | apply IsS86.set_0 | apply IsS86.set_1 | apply IsS86.set_2 | apply IsS86.far (hne := NB0_355.out) | apply IsS86.far (hne := NB0_360.out)) | exact HI0.out), yG3 HB (IsS86.ge HI0.out) GE355.out GE360.out, by repeat (first | (with_reducible first | exact HK.out | apply KeepBut.set_ | apply keep_drewN | apply keep_drew | apply keep_alloc | refine keep_far ?_ GW355.out _ | refine keep_far ?_ GW360.out _) | exact HK.out)⟩
     ·
      rw [if_neg c38] at H
      have c38b0 : decide (3 ≤ t356) = false := decide_eq_false c38
      clear c38
      simp only [Option.some.injEq, Prod.mk.injEq] at H
      obtain ⟨rfl, rfl, rfl, rfl, rfl, rfl⟩ := H
      have hnb70 := NB360_355.out
      have hnc70 := NB355_360.out
      have hnb71 := NB360_0.out
      have hnc71 := NB0_360.out
      obtain ⟨hcz72_0, hcz72_1, hcz72_2, hfz72_0, hfz72_1, hfz72_2⟩ := cells3 BK360.out
      have hnb73 := NB355_0.out
      have hnc73 := NB0_355.out
      obtain ⟨hcz74_0, hcz74_1, hcz74_2, hfz74_0, hfz74_1, hfz74_2⟩ := cells3 BK355.out
      go_wp2
      refine bodyPost_ret (results_cell_row rfl _ _ gb355 23 #[.int .i64 t356, .int .i64 x361001_16, .string (⟨#[]⟩ : ByteArray)] (0, 0) _ rfl (puts3 BK355.out) Tryd.underlying23 rfl (by kernel_rfl)) rfl ?_
      exact ⟨yE, by repeat (first | (with_reducible first | exact HI0.out | apply IsS86.alloc | apply IsS86.drewN | apply IsS86.drew | apply IsS86.set_0 | apply IsS86.set_1 | apply IsS86.set_2 | apply IsS86.far (hne := NB0_355.out) | apply IsS86.far (hne := NB0_360.out)) | exact HI0.out), yG3 HB (IsS86.ge HI0.out) GE355.out GE360.out, by repeat (first | (with_reducible first | exact HK.out | apply KeepBut.set_ | apply keep_drewN | apply keep_drew | apply keep_alloc | refine keep_far ?_ GW355.out _ | refine keep_far ?_ GW360.out _) | exact HK.out)⟩
end Go.Proofs.YtgefikclhfjcgaaDoor.HCatcodeValues

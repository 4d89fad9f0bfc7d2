/- For Go functions that CatcodeValues reaches: Lean functions, and walks that show that each call comes to what its Lean function tells; no condition but those that each theorem states. (Made by a program of this session over the kit's print.py.) -/
import Derived.Test.YtgefikclhfjcgaaDoorHCatcodeValuesx0
import Derived.Test.YtgefikclhfjcgaaDoorHCatcodeValuesx2
import Derived.Test.YtgefikclhfjcgaaDoorHCatcodeValuesx3
import Derived.Test.YtgefikclhfjcgaaDoorHCatcodeValuesx10
namespace Go.Proofs.YtgefikclhfjcgaaDoor.HCatcodeValues
open Go.RowKit Go.Proofs.YtgefikclhfjcgaaDoorW.PrintWords Go.Proofs.YtgefikclhfjcgaaDoorW.PrintLast Go.Proofs.YtgefikclhfjcgaaDoorW.PrintMore
attribute [local go_sem] max2_int min2_int max_two min_two max_three min_three max_four min_four   -- for this text's walks alone
set_option linter.unusedVariables false
set_option linter.unusedSimpArgs false
attribute [local go_sem] hp_s8 hp_s16 hp_s32 hp_s64 hp_m8 hp_m16 hp_m32 hp_m64
/-! ### catcode_reader_text: function 67 -/
def catcode_reader_text.j0 : Nat → Int → ByteArray → Int → Option (ByteArray × ByteArray × Int)
 | 0, _, _, _ => none
 | k + 1, x5, x1000, x1001 => if x1001 = 0 then (if 0 ≤ x5 then (if x5 ≤ (x1000.size : Int) then (some (x1000.extract 0 (x5 : Int).toNat, x1000.extract (x5 : Int).toNat x1000.size, x1001)) else (none)) else (none)) else (some ((⟨#[]⟩ : ByteArray), x1000, x1001))
def catcode_reader_text.f (k : Nat) (s0_0 : ByteArray) (s0_1 : Int) (a1 : Int) : Option (ByteArray × ByteArray × Int) := (catcode_reader_number.f k s0_0 s0_1 a1).bind fun bt267 => (if bt267.1 > (bt267.2.1.size : Int) then ((catcode_reader_fail.f bt267.2.1 bt267.2.2 4).bind fun bt270 => (catcode_reader_text.j0 k bt267.1 bt270.1 bt270.2)) else (catcode_reader_text.j0 k bt267.1 bt267.2.1 bt267.2.2))
theorem catcode_reader_text.mono_l : ∀ k, (∀ y0 y1 y2, LeO (catcode_reader_text.j0 k y0 y1 y2) (catcode_reader_text.j0 (k + 1) y0 y1 y2))
 | 0 => fun _ _ _ r h => by simp [catcode_reader_text.j0] at h
 | k + 1 => by
  have ih0 := catcode_reader_text.mono_l k
  ·
   intro y0 y1 y2
   unfold catcode_reader_text.j0
   repeat' first
   | (with_reducible exact ih0 _ _ _)
   | (with_reducible exact catcode_reader_number.mono _ _ _ _)
   | (with_reducible exact LeO.refl _)
   | (with_reducible exact LeO.none _)
   | (with_reducible refine LeO.ite ?_ ?_)
   | (with_reducible refine LeO.bind ?_ (fun _ => ?_))
   | exact ih0 _ _ _
   | exact catcode_reader_number.mono _ _ _ _
   | exact LeO.none _
   | refine LeO.ite ?_ ?_
   | refine LeO.bind ?_ (fun _ => ?_)
theorem catcode_reader_text.mono : ∀ a0 a1 a2 k, LeO (catcode_reader_text.f k a0 a1 a2) (catcode_reader_text.f (k + 1) a0 a1 a2) := by
 intro a0 a1 a2 k
 have ih0 := catcode_reader_text.mono_l k
 unfold catcode_reader_text.f
 repeat' first | with_reducible (first | exact ih0 .. | exact catcode_reader_number.mono .. | exact LeO.refl .. | exact LeO.none .. | refine LeO.ite ?_ ?_ | refine LeO.bind ?_ (fun _ => ?_)) | exact ih0 .. | exact catcode_reader_number.mono .. | exact LeO.none .. | refine LeO.ite ?_ ?_ | refine LeO.bind ?_ (fun _ => ?_)
set_option maxHeartbeats 8000000 in
set_option maxRecDepth 100000 in
theorem catcode_reader_text.calls (k : Nat) (g : Nat) (s0_0 : ByteArray) (s0_1 : Int) (a1 : Int) (r1 : ByteArray) (r2 : ByteArray) (r3 : Int) (w0 w : World) (hI : IsS82 w0 w g s0_0 s0_1) (hB : Below w0.heap.size w0 w) (h : catcode_reader_text.f k s0_0 s0_1 a1 = some (r1, r2, r3)) :
  Calls Tryd.prog 67 #[.pointer (some ⟨g, 0, none⟩), .int .i64 a1] w fun e w' => e = .returned (.string r1) ∧ IsS82 w0 w' g r2 r3 ∧ Below w0.heap.size w0 w' ∧ KeepBut w w' g none := by
 have HI0 := aM hI
 have HK := aM (KeepBut.refl w g none)
 have HL := aM hB.size
 clear hI
 have HW0 := aM hB.size
 have HB := aM hB
 clear hB
 have H : ((catcode_reader_number.f k s0_0 s0_1 a1).bind fun bt267 => (if bt267.1 > (bt267.2.1.size : Int) then ((catcode_reader_fail.f bt267.2.1 bt267.2.2 4).bind fun bt270 => (catcode_reader_text.j0 k bt267.1 bt270.1 bt270.2)) else (catcode_reader_text.j0 k bt267.1 bt267.2.1 bt267.2.2))) = some (r1, r2, r3) := h
 clear h
 obtain ⟨⟨t267, t268, t269⟩, A3, H⟩ := yb H
 try dsimp -simprocs only at H
 have HC4 := aM H
 clear H
 go_enter Tryd.func67, Tryd.ntmps67
 go_upto_if 16 with (first | ((with_reducible refine gate_callee (f := 51) rfl ?_); refine yC 9 Tryd.func51 #[.pointer (some ⟨g, 0, none⟩), .int .i64 a1] rfl ?_; (with_reducible refine (catcode_reader_number.calls k g s0_0 s0_1 a1 t267 t268 t269 w0 _ ?side1 ?side2 A3.out).mono ?_); (case side1 => repeat (first | (with_reducible first | exact HI0.out | apply IsS82.alloc | apply IsS82.drewN | apply IsS82.drew | apply IsS82.set_0 | apply IsS82.set_1) | exact HI0.out)); (case side2 => exact yG1 HB (IsS82.ge HI0.out)); rintro e w5 ⟨rfl, hi, hb, hk⟩; refine ⟨_, rfl, ?_⟩; replace HK := aM (KeepBut.trans (by repeat (first | (with_reducible first | exact HK.out | apply KeepBut.set_ | apply keep_drewN | apply keep_drew | apply keep_alloc) | exact HK.out)) hk (.inl rfl)); replace HB := aM (hb); replace HI0 := aM (hi); (try clear hb); (try clear hk); (try clear hi); obtain ⟨HGz6, hgz6⟩ := HI0.out; have hcz6_0 := cellS82_0 HGz6; have hcz6_1 := cellS82_1 HGz6; have hfz6_0 := blk_frozen HGz6 0; have hfz6_1 := blk_frozen HGz6 1; clear HGz6 hgz6))
 (try simp only [Act.put, s1_, s2_, s3_])
 go_cut [] (fun wc => ∃ (kq : Nat) (x1000_3 : ByteArray) (x1001_3 : Int), Aside0 (catcode_reader_text.j0 kq t267 x1000_3 x1001_3 = some (r1, r2, r3)) ∧ Aside0 (kq ≤ k) ∧ Aside0 (IsS82 w0 wc g x1000_3 x1001_3) ∧ Aside0 (KeepBut w wc g none) ∧ Aside0 (Below w0.heap.size w0 wc))
 case first =>
  have H := HC4.out
  clear HC4
  by_cases c7 : t267 > (t268.size : Int)
  ·
   rw [if_pos c7] at H
   have c7b0 : decide ((t268.size : Int) < t267) = true := decide_eq_true c7
   clear c7
   (first | rw [c7b0] | (simp only [i64_w, i32_w]; rw [c7b0]) | skip)
   obtain ⟨⟨t270, t271⟩, A8, H⟩ := yb H
   try dsimp -simprocs only at H
   have H' := aM H
   clear H
   go_wp2_with (first | ((with_reducible refine gate_callee (f := 96) rfl ?_); refine yC 18 Tryd.func96 #[.pointer (some ⟨g, 0, none⟩), .int .i64 4] rfl ?_; (with_reducible refine (catcode_reader_fail.calls g t268 t269 4 t270 t271 w0 _ ?side1 ?side2 A8.out).mono ?_); (case side1 => repeat (first | (with_reducible first | exact HI0.out | apply IsS82.alloc | apply IsS82.drewN | apply IsS82.drew | apply IsS82.set_0 | apply IsS82.set_1) | exact HI0.out)); (case side2 => exact yG1 HB (IsS82.ge HI0.out)); rintro e w9 ⟨rfl, hi, hb, hk⟩; refine ⟨_, rfl, ?_⟩; replace HK := aM (KeepBut.trans (by repeat (first | (with_reducible first | exact HK.out | apply KeepBut.set_ | apply keep_drewN | apply keep_drew | apply keep_alloc) | exact HK.out)) hk (.inl rfl)); replace HB := aM (hb); replace HI0 := aM (hi); (try clear hb); (try clear hk); (try clear hi)))
   go_meet
   case rel => exact ⟨_, (t270), (t271), H', ⟨yO⟩, ⟨by repeat (first | (with_reducible first | exact HI0.out | apply IsS82.alloc | apply IsS82.drewN | apply IsS82.drew | apply IsS82.set_0 | apply IsS82.set_1) | exact HI0.out)⟩, ⟨by repeat (first | (with_reducible first | exact HK.out | apply KeepBut.set_ | apply keep_drewN | apply keep_drew | apply keep_alloc) | exact HK.out)⟩, ⟨yG1 HB (IsS82.ge HI0.out)⟩⟩
  ·
   rw [if_neg c7] at H
   have c7b0 : decide ((t268.size : Int) < t267) = false := decide_eq_false c7
   clear c7
   (first | rw [c7b0] | (simp only [i64_w, i32_w]; rw [c7b0]) | skip)
   have H' := aM H
   clear H
   go_wp2
   go_meet
   case rel => exact ⟨_, (t268), (t269), H', ⟨yO⟩, ⟨by repeat (first | (with_reducible first | exact HI0.out | apply IsS82.alloc | apply IsS82.drewN | apply IsS82.drew | apply IsS82.set_0 | apply IsS82.set_1) | exact HI0.out)⟩, ⟨by repeat (first | (with_reducible first | exact HK.out | apply KeepBut.set_ | apply keep_drewN | apply keep_drew | apply keep_alloc) | exact HK.out)⟩, ⟨yG1 HB (IsS82.ge HI0.out)⟩⟩
 case rest =>
  clear HC4
  try clear hcz6_0 hcz6_1
  try clear hfz6_0 hfz6_1
  obtain ⟨kq, x1000_3, x1001_3, HA, HJ3, HI0, HK, HB⟩ := hcut
  cases kq with
  | zero => exact absurd HA.out (by simp [catcode_reader_text.j0])
  | succ kj3 =>
   have H := HA.out
   clear HA
   simp only [catcode_reader_text.j0] at H
   by_cases c10 : x1001_3 = 0
   ·
    rw [if_pos c10] at H
    have c10b0 : (x1001_3 == 0) = true := beq_iff_eq.mpr c10
    have c10b1 : (x1001_3 != 0) = false := bne_eq_false_iff_eq.mpr c10
    clear c10
    by_cases c11 : 0 ≤ t267
    ·
     rw [if_pos c11] at H
     have c11b0 := eq_true c11
     have c11b1 : decide (0 ≤ t267) = true := decide_eq_true c11
     clear c11
     by_cases c12 : t267 ≤ (x1000_3.size : Int)
     ·
      rw [if_pos c12] at H
      have c12b0 := eq_true c12
      have c12b1 : decide (t267 ≤ (x1000_3.size : Int)) = true := decide_eq_true c12
      clear c12
      have c13b0 := eq_true (oD yA : 0 ≤ t267)
      have c14b0 := eq_true (oD yA : t267 ≤ (x1000_3.size : Int))
      simp only [Option.some.injEq, Prod.mk.injEq] at H
      obtain ⟨rfl, rfl, rfl⟩ := H
      obtain ⟨HGz15, hgz15⟩ := HI0.out
      have hcz15_0 := cellS82_0 HGz15
      have hcz15_1 := cellS82_1 HGz15
      have hfz15_0 := blk_frozen HGz15 0
      have hfz15_1 := blk_frozen HGz15 1
      clear HGz15 hgz15
      go_wp2
      go_ret
      exact ⟨yE, by repeat (first | (with_reducible first | exact HI0.out | apply IsS82.alloc | apply IsS82.drewN | apply IsS82.drew | apply IsS82.set_0 | apply IsS82.set_1) | exact HI0.out), yG1 HB (IsS82.ge HI0.out), by repeat (first | (with_reducible first | exact HK.out | apply KeepBut.set_ | apply keep_drewN | apply keep_drew | apply keep_alloc) | exact HK.out)⟩
     ·
      rw [if_neg c12] at H
      exact absurd H (by simp)
    ·
     rw [if_neg c11] at H
     exact absurd H (by simp)
   ·
    rw [if_neg c10] at H
    have c10b0 : (x1001_3 == 0) = false := beq_eq_false_iff_ne.mpr c10
    have c10b1 : (x1001_3 != 0) = true := bne_iff_ne.mpr c10
    simp only [Option.some.injEq, Prod.mk.injEq] at H
    obtain ⟨rfl, rfl, rfl⟩ := H
    obtain ⟨HGz16, hgz16⟩ := HI0.out
    have hcz16_0 := cellS82_0 HGz16
    have hcz16_1 := cellS82_1 HGz16
    have hfz16_0 := blk_frozen HGz16 0
    have hfz16_1 := blk_frozen HGz16 1
    clear HGz16 hgz16
    go_wp2
    go_ret
    exact ⟨yE, by repeat (first | (with_reducible first | exact HI0.out | apply IsS82.alloc | apply IsS82.drewN | apply IsS82.drew | apply IsS82.set_0 | apply IsS82.set_1) | exact HI0.out), yG1 HB (IsS82.ge HI0.out), by repeat (first | (with_reducible first | exact HK.out | apply KeepBut.set_ | apply keep_drewN | apply keep_drew | apply keep_alloc) | exact HK.out)⟩
/-! ### word_Zag: function 94 -/
def word_Zag.f (a0 : Int) : Option (Int) := some (Go.bits .xor .i64 (wrap64 (a0 / 2)) (wrap64 (-(wrap64 (Go.bits .and .u64 a0 1)))))
set_option maxHeartbeats 8000000 in
set_option maxRecDepth 100000 in
theorem word_Zag.calls (a0 : Int) (r : Int) (w : World) (h : word_Zag.f a0 = some r) :
  Calls Tryd.prog 94 #[.int .u64 a0] w fun e w' => e = .returned (.int .i64 r) ∧ Drawn0 w w' := by
 have H : (some (Go.bits .xor .i64 (wrap64 (a0 / 2)) (wrap64 (-(wrap64 (Go.bits .and .u64 a0 1)))))) = some r := h
 clear h
 obtain rfl := Option.some.inj H
 go_enter Tryd.func94, Tryd.ntmps94
 go_wp2
 go_ret
 exact ⟨yS, yD⟩
/-! ### catcode_reader_value: function 38 -/
mutual
def catcode_reader_value.j0 : Nat → Int → Bool → ByteArray → Int → Int → Int → ByteArray → Option (Int × Int × ByteArray × ByteArray × Int)
 | 0, _, _, _, _, _, _, _ => none
 | k + 1, x9, x10, x1000, x1001, x277000, x277001, x277002 => if x10 = true then ((catcode_reader_raw.f k x1000 x1001).bind fun bt277 => ((word_Zag.f bt277.1).bind fun t280 => (if x277000 = 1 then ((word_Fits.f t280 32).bind fun t281 => (if t281 = true then (some (x277000, t280, x277002, bt277.2.1, bt277.2.2)) else ((catcode_reader_fail.f bt277.2.1 bt277.2.2 5).bind fun bt282 => (some (x277000, t280, x277002, bt282.1, bt282.2))))) else (some (x277000, t280, x277002, bt277.2.1, bt277.2.2))))) else (if x9 = 3 then (catcode_reader_value.j1 k (x9 == 3) x1000 x1001 x277000 x277001 x277002) else (catcode_reader_value.j1 k (x9 == 4) x1000 x1001 x277000 x277001 x277002))
def catcode_reader_value.j1 : Nat → Bool → ByteArray → Int → Int → Int → ByteArray → Option (Int × Int × ByteArray × ByteArray × Int)
 | 0, _, _, _, _, _, _ => none
 | k + 1, x28, x1000, x1001, x277000, x277001, x277002 => if x28 = true then ((catcode_reader_text.f k x1000 x1001 120).bind fun bt284 => (if x277000 = 3 then ((utf_Right.f k bt284.1).bind fun t287 => (if t287 = true then (some (x277000, x277001, bt284.1, bt284.2.1, bt284.2.2)) else ((catcode_reader_fail.f bt284.2.1 bt284.2.2 5).bind fun bt288 => (some (x277000, x277001, bt284.1, bt288.1, bt288.2))))) else (some (x277000, x277001, bt284.1, bt284.2.1, bt284.2.2)))) else (some (x277000, x277001, x277002, x1000, x1001))
end
def catcode_reader_value.f (k : Nat) (s0_0 : ByteArray) (s0_1 : Int) : Option (Int × Int × ByteArray × ByteArray × Int) := (catcode_reader_one.f s0_0 s0_1 0 4).bind fun bt273 => (if (wrap64 (bt273.1)) = 1 then (catcode_reader_value.j0 k (wrap64 (bt273.1)) ((wrap64 (bt273.1)) == 1) bt273.2.1 bt273.2.2 (wrap64 (bt273.1)) 0 (⟨#[]⟩ : ByteArray)) else (catcode_reader_value.j0 k (wrap64 (bt273.1)) ((wrap64 (bt273.1)) == 2) bt273.2.1 bt273.2.2 (wrap64 (bt273.1)) 0 (⟨#[]⟩ : ByteArray)))
theorem catcode_reader_value.mono_l : ∀ k, (∀ y0 y1 y2 y3 y4 y5 y6, LeO (catcode_reader_value.j0 k y0 y1 y2 y3 y4 y5 y6) (catcode_reader_value.j0 (k + 1) y0 y1 y2 y3 y4 y5 y6)) ∧ (∀ y0 y1 y2 y3 y4 y5, LeO (catcode_reader_value.j1 k y0 y1 y2 y3 y4 y5) (catcode_reader_value.j1 (k + 1) y0 y1 y2 y3 y4 y5))
 | 0 => by refine ⟨?_, ?_⟩ <;> intros <;> exact LeO.none _
 | k + 1 => by
  obtain ⟨ih0, ih1⟩ := catcode_reader_value.mono_l k
  refine ⟨?_, ?_⟩ <;> intros <;> first | unfold catcode_reader_value.j0 | unfold catcode_reader_value.j1
  all_goals repeat' first | with_reducible (first | exact ih0 .. | exact ih1 .. | exact catcode_reader_raw.mono .. | exact catcode_reader_text.mono .. | exact utf_Right.mono .. | exact LeO.refl .. | exact LeO.none .. | refine LeO.ite ?_ ?_ | refine LeO.bind ?_ (fun _ => ?_)) | exact ih0 .. | exact ih1 .. | exact catcode_reader_raw.mono .. | exact catcode_reader_text.mono .. | exact utf_Right.mono .. | exact LeO.none .. | refine LeO.ite ?_ ?_ | refine LeO.bind ?_ (fun _ => ?_)
theorem catcode_reader_value.mono : ∀ a0 a1 k, LeO (catcode_reader_value.f k a0 a1) (catcode_reader_value.f (k + 1) a0 a1) := by
 intro a0 a1 k
 obtain ⟨ih0, ih1⟩ := catcode_reader_value.mono_l k
 unfold catcode_reader_value.f
 repeat' first | with_reducible (first | exact ih0 .. | exact ih1 .. | exact catcode_reader_raw.mono .. | exact catcode_reader_text.mono .. | exact utf_Right.mono .. | exact LeO.refl .. | exact LeO.none .. | refine LeO.ite ?_ ?_ | refine LeO.bind ?_ (fun _ => ?_)) | exact ih0 .. | exact ih1 .. | exact catcode_reader_raw.mono .. | exact catcode_reader_text.mono .. | exact utf_Right.mono .. | exact LeO.none .. | refine LeO.ite ?_ ?_ | refine LeO.bind ?_ (fun _ => ?_)
set_option maxHeartbeats 8000000 in
set_option maxRecDepth 100000 in
theorem catcode_reader_value.calls (k : Nat) (g : Nat) (s0_0 : ByteArray) (s0_1 : Int) (r1 : Int) (r2 : Int) (r3 : ByteArray) (r4 : ByteArray) (r5 : Int) (w0 w : World) (hI : IsS82 w0 w g s0_0 s0_1) (hB : Below w0.heap.size w0 w) (hG : Glob w0) (h : catcode_reader_value.f k s0_0 s0_1 = some (r1, r2, r3, r4, r5)) :
  Calls Tryd.prog 38 #[.pointer (some ⟨g, 0, none⟩)] w fun e w' => e = .returned (.agg #[.int .i64 r1, .int .i64 r2, .string r3]) ∧ IsS82 w0 w' g r4 r5 ∧ Below w0.heap.size w0 w' ∧ KeepBut w w' g none := by
 have hu23 := Tryd.underlying23
 have HG := aM hG
 clear hG
 have HI0 := aM hI
 have HK := aM (KeepBut.refl w g none)
 have HL := aM hB.size
 clear hI
 have HW0 := aM hB.size
 have HB := aM hB
 clear hB
 have H : ((catcode_reader_one.f s0_0 s0_1 0 4).bind fun bt273 => (if (wrap64 (bt273.1)) = 1 then (catcode_reader_value.j0 k (wrap64 (bt273.1)) ((wrap64 (bt273.1)) == 1) bt273.2.1 bt273.2.2 (wrap64 (bt273.1)) 0 (⟨#[]⟩ : ByteArray)) else (catcode_reader_value.j0 k (wrap64 (bt273.1)) ((wrap64 (bt273.1)) == 2) bt273.2.1 bt273.2.2 (wrap64 (bt273.1)) 0 (⟨#[]⟩ : ByteArray)))) = some (r1, r2, r3, r4, r5) := h
 clear h
 obtain ⟨⟨t273, t274, t275⟩, A2, H⟩ := yb H
 try dsimp -simprocs only at H
 have HC3 := aM H
 clear H
 go_enter Tryd.func38, Tryd.ntmps38
 go_upto_if 10 with (first | ((with_reducible refine gate_dst (N := 2) rfl ?_); refine yX (N := 2) (cs := #[.int .i64 0, .int .i64 0, .string (⟨#[]⟩ : ByteArray)]) (t := 23) ?_; intro gb272 hg w4 hbox hb; replace HB := aM (bP (yG1 HB (IsS82.ge HI0.out)) hb); have BK272 := aM (hbox); have GW272 := aM ((by rw [hg]; exact (keep_size (w := w) (g := g) (row := none) (by repeat (first | (with_reducible first | exact HK.out | apply KeepBut.set_ | apply keep_drewN | apply keep_drew | apply keep_alloc) | exact HK.out))) : w.heap.size ≤ gb272)); have GE272 := aM ((Nat.le_trans HW0.out (by rw [hg]; exact (keep_size (w := w) (g := g) (row := none) (by repeat (first | (with_reducible first | exact HK.out | apply KeepBut.set_ | apply keep_drewN | apply keep_drew | apply keep_alloc) | exact HK.out))) : w.heap.size ≤ gb272) : w0.heap.size ≤ gb272)); replace HK := aM (KeepBut.trans (by repeat (first | (with_reducible first | exact HK.out | apply KeepBut.set_ | apply keep_drewN | apply keep_drew | apply keep_alloc) | exact HK.out)) (KeepBut.of_below hb g none) (.inl rfl)); have NB0_272 := aM ((by rw [hg]; exact Nat.ne_of_lt (IsS82.lt (show IsS82 w0 _ g s0_0 s0_1 from by repeat (first | (with_reducible first | exact HI0.out | apply IsS82.alloc | apply IsS82.drewN | apply IsS82.drew | apply IsS82.set_0 | apply IsS82.set_1) | exact HI0.out))) : g ≠ gb272)); have NB272_0 := aM ((by rw [hg]; exact Nat.ne_of_gt (IsS82.lt (show IsS82 w0 _ g s0_0 s0_1 from by repeat (first | (with_reducible first | exact HI0.out | apply IsS82.alloc | apply IsS82.drewN | apply IsS82.drew | apply IsS82.set_0 | apply IsS82.set_1) | exact HI0.out))) : gb272 ≠ g)); replace HI0 := aM (IsS82.below (by repeat (first | (with_reducible first | exact HI0.out | apply IsS82.alloc | apply IsS82.drewN | apply IsS82.drew | apply IsS82.set_0 | apply IsS82.set_1) | exact HI0.out)) hb); clear hb hbox hg) | ((with_reducible refine gate_callee (f := 50) rfl ?_); refine yC 5 Tryd.func50 #[.pointer (some ⟨g, 0, none⟩), .int .u8 0, .int .u8 4] rfl ?_; (with_reducible refine (catcode_reader_one.calls g s0_0 s0_1 0 4 t273 t274 t275 w0 _ ?side1 ?side2 A2.out).mono ?_); (case side1 => repeat (first | (with_reducible first | exact HI0.out | apply IsS82.alloc | apply IsS82.drewN | apply IsS82.drew | apply IsS82.set_0 | apply IsS82.set_1 | apply IsS82.far (hne := NB0_272.out)) | exact HI0.out)); (case side2 => exact yG2 HB (IsS82.ge HI0.out) GE272.out); rintro e w5 ⟨rfl, hi, hb, hk⟩; refine ⟨_, rfl, ?_⟩; replace BK272 := aM (KeepBut.blk hk (g' := gb272) (o := .cells #[.int .i64 0, .int .i64 0, .string (⟨#[]⟩ : ByteArray)] 23 (0, 0)) (yK BK272) NB272_0.out (by simp)); replace HK := aM (KeepBut.trans (by repeat (first | (with_reducible first | exact HK.out | apply KeepBut.set_ | apply keep_drewN | apply keep_drew | apply keep_alloc | refine keep_far ?_ GW272.out _) | exact HK.out)) hk (.inl rfl)); replace HB := aM (hb); replace HI0 := aM (hi); (try clear hb); (try clear hk); (try clear hi)) | ((with_reducible refine gate_dst (N := 3) rfl ?_); refine yX (N := 3) (cs := #[.int .i64 0, .int .i64 0, .string (⟨#[]⟩ : ByteArray)]) (t := 23) ?_; intro gb276 hg w6 hbox hb; replace HB := aM (bP (yG2 HB (IsS82.ge HI0.out) GE272.out) hb); have BK276 := aM (hbox); have GW276 := aM ((by rw [hg]; exact (keep_size (w := w) (g := g) (row := none) (by repeat (first | (with_reducible first | exact HK.out | apply KeepBut.set_ | apply keep_drewN | apply keep_drew | apply keep_alloc | refine keep_far ?_ GW272.out _) | exact HK.out))) : w.heap.size ≤ gb276)); have GE276 := aM ((Nat.le_trans HW0.out (by rw [hg]; exact (keep_size (w := w) (g := g) (row := none) (by repeat (first | (with_reducible first | exact HK.out | apply KeepBut.set_ | apply keep_drewN | apply keep_drew | apply keep_alloc | refine keep_far ?_ GW272.out _) | exact HK.out))) : w.heap.size ≤ gb276) : w0.heap.size ≤ gb276)); replace HK := aM (KeepBut.trans (by repeat (first | (with_reducible first | exact HK.out | apply KeepBut.set_ | apply keep_drewN | apply keep_drew | apply keep_alloc | refine keep_far ?_ GW272.out _) | exact HK.out)) (KeepBut.of_below hb g none) (.inl rfl)); have NB272_276 := yN hg (yK BK272); have NB276_272 := yM hg (yK BK272); replace BK272 := aM (kB (yK BK272) hb); have NB0_276 := aM ((by rw [hg]; exact Nat.ne_of_lt (IsS82.lt (show IsS82 w0 _ g t274 t275 from by repeat (first | (with_reducible first | exact HI0.out | apply IsS82.alloc | apply IsS82.drewN | apply IsS82.drew | apply IsS82.set_0 | apply IsS82.set_1 | apply IsS82.far (hne := NB0_272.out)) | exact HI0.out))) : g ≠ gb276)); have NB276_0 := aM ((by rw [hg]; exact Nat.ne_of_gt (IsS82.lt (show IsS82 w0 _ g t274 t275 from by repeat (first | (with_reducible first | exact HI0.out | apply IsS82.alloc | apply IsS82.drewN | apply IsS82.drew | apply IsS82.set_0 | apply IsS82.set_1 | apply IsS82.far (hne := NB0_272.out)) | exact HI0.out))) : gb276 ≠ g)); replace HI0 := aM (IsS82.below (by repeat (first | (with_reducible first | exact HI0.out | apply IsS82.alloc | apply IsS82.drewN | apply IsS82.drew | apply IsS82.set_0 | apply IsS82.set_1 | apply IsS82.far (hne := NB0_272.out)) | exact HI0.out)) hb); clear hb hbox hg; have hnb7 := NB276_272.out; have hnc7 := NB272_276.out; have hnb8 := NB276_0.out; have hnc8 := NB0_276.out; obtain ⟨hcz9_0, hcz9_1, hcz9_2, hfz9_0, hfz9_1, hfz9_2⟩ := cells3 BK276.out))
 (try simp only [Act.put, s1_, s2_, s3_])
 go_cut [10] (fun v10 wc => ∃ (kq : Nat) (x10_2 : Bool), v10 = .bool x10_2 ∧ Aside0 (catcode_reader_value.j0 kq (wrap64 (t273)) x10_2 t274 t275 (wrap64 (t273)) 0 (⟨#[]⟩ : ByteArray) = some (r1, r2, r3, r4, r5)) ∧ Aside0 (kq ≤ k) ∧ Aside0 (wc.heap[gb272]? = some (.cells #[.int .i64 0, .int .i64 0, .string (⟨#[]⟩ : ByteArray)] 23 (0, 0))) ∧ Aside0 (wc.heap[gb276]? = some (.cells #[.int .i64 (wrap64 (t273)), .int .i64 0, .string (⟨#[]⟩ : ByteArray)] 23 (0, 0))) ∧ Aside0 (IsS82 w0 wc g t274 t275) ∧ Aside0 (KeepBut w wc g none) ∧ Aside0 (Below w0.heap.size w0 wc))
 case first =>
  have H := HC3.out
  clear HC3
  by_cases c10 : (wrap64 (t273)) = 1
  ·
   rw [if_pos c10] at H
   have c10b0 : ((wrap64 (t273)) == 1) = true := beq_iff_eq.mpr c10
   have c10b1 : ((wrap64 (t273)) != 1) = false := bne_eq_false_iff_eq.mpr c10
   clear c10
   (first | rw [c10b0] | (simp only [i64_w, i32_w]; rw [c10b0]) | skip)
   have H' := aM H
   clear H
   go_wp2
   go_meet
   case rel => exact ⟨_, (((wrap64 (t273)) == 1)), yS, H', ⟨yO⟩, ⟨yF1 BK272 NB272_276.out⟩, ⟨puts3 BK276.out⟩, ⟨by repeat (first | (with_reducible first | exact HI0.out | apply IsS82.alloc | apply IsS82.drewN | apply IsS82.drew | apply IsS82.set_0 | apply IsS82.set_1 | apply IsS82.far (hne := NB0_272.out) | apply IsS82.far (hne := NB0_276.out)) | exact HI0.out)⟩, ⟨by repeat (first | (with_reducible first | exact HK.out | apply KeepBut.set_ | apply keep_drewN | apply keep_drew | apply keep_alloc | refine keep_far ?_ GW272.out _ | refine keep_far ?_ GW276.out _) | exact HK.out)⟩, ⟨yG3 HB (IsS82.ge HI0.out) GE272.out GE276.out⟩⟩
  ·
   rw [if_neg c10] at H
   have c10b0 : ((wrap64 (t273)) == 1) = false := beq_eq_false_iff_ne.mpr c10
   have c10b1 : ((wrap64 (t273)) != 1) = true := bne_iff_ne.mpr c10
   (first | rw [c10b0] | (simp only [i64_w, i32_w]; rw [c10b0]) | skip)
   have H' := aM H
   clear H
   go_wp2
   go_meet
   case rel => exact ⟨_, (((wrap64 (t273)) == 2)), yS, H', ⟨yO⟩, ⟨yF1 BK272 NB272_276.out⟩, ⟨puts3 BK276.out⟩, ⟨by repeat (first | (with_reducible first | exact HI0.out | apply IsS82.alloc | apply IsS82.drewN | apply IsS82.drew | apply IsS82.set_0 | apply IsS82.set_1 | apply IsS82.far (hne := NB0_272.out) | apply IsS82.far (hne := NB0_276.out)) | exact HI0.out)⟩, ⟨by repeat (first | (with_reducible first | exact HK.out | apply KeepBut.set_ | apply keep_drewN | apply keep_drew | apply keep_alloc | refine keep_far ?_ GW272.out _ | refine keep_far ?_ GW276.out _) | exact HK.out)⟩, ⟨yG3 HB (IsS82.ge HI0.out) GE272.out GE276.out⟩⟩
 case rest =>
  clear HC3
  try clear hcz9_0 hcz9_1 hcz9_2
  try clear hfz9_0 hfz9_1 hfz9_2
  obtain ⟨kq, x10_2, rfl, HA, HJ2, BK272, BK276, HI0, HK, HB⟩ := hcut
  cases kq with
  | zero => exact absurd HA.out (by simp [catcode_reader_value.j0])
  | succ kj2 =>
   have H := HA.out
   clear HA
   simp only [catcode_reader_value.j0] at H
   by_cases c11 : x10_2 = true
   ·
    subst c11
    replace H := yt H
    obtain ⟨⟨t277, t278, t279⟩, A12, H⟩ := yb H
    try dsimp -simprocs only at H
    obtain ⟨t280, A13, H⟩ := yb H
    by_cases c14 : (wrap64 (t273)) = 1
    ·
     rw [if_pos c14] at H
     have c14b0 : ((wrap64 (t273)) == 1) = true := beq_iff_eq.mpr c14
     have c14b1 : ((wrap64 (t273)) != 1) = false := bne_eq_false_iff_eq.mpr c14
     clear c14
     obtain ⟨t281, A15, H⟩ := yb H
     by_cases c16 : t281 = true
     ·
      subst c16
      replace H := yt H
      simp only [Option.some.injEq, Prod.mk.injEq] at H
      obtain ⟨rfl, rfl, rfl, rfl, rfl⟩ := H
      go_wp2_with (first | ((with_reducible refine gate_callee (f := 95) rfl ?_); refine yC 14 Tryd.func95 #[.pointer (some ⟨g, 0, none⟩)] rfl ?_; (with_reducible refine (catcode_reader_raw.calls kj2 g t274 t275 t277 t278 t279 w0 _ ?side1 ?side2 A12.out).mono ?_); (case side1 => repeat (first | (with_reducible first | exact HI0.out | apply IsS82.alloc | apply IsS82.drewN | apply IsS82.drew | apply IsS82.set_0 | apply IsS82.set_1 | apply IsS82.far (hne := NB0_272.out) | apply IsS82.far (hne := NB0_276.out)) | exact HI0.out)); (case side2 => exact yG3 HB (IsS82.ge HI0.out) GE272.out GE276.out); rintro e w17 ⟨rfl, hi, hb, hk⟩; refine ⟨_, rfl, ?_⟩; replace BK272 := aM (KeepBut.blk hk (g' := gb272) (o := .cells #[.int .i64 0, .int .i64 0, .string (⟨#[]⟩ : ByteArray)] 23 (0, 0)) (yK BK272) NB272_0.out (by simp)); replace BK276 := aM (KeepBut.blk hk (g' := gb276) (o := .cells #[.int .i64 (wrap64 (t273)), .int .i64 0, .string (⟨#[]⟩ : ByteArray)] 23 (0, 0)) (yK BK276) NB276_0.out (by simp)); replace HK := aM (KeepBut.trans (by repeat (first | (with_reducible first | exact HK.out | apply KeepBut.set_ | apply keep_drewN | apply keep_drew | apply keep_alloc | refine keep_far ?_ GW272.out _ | refine keep_far ?_ GW276.out _) | exact HK.out)) hk (.inl rfl)); replace HB := aM (hb); replace HI0 := aM (hi); (try clear hb); (try clear hk); (try clear hi)) | ((with_reducible refine gate_callee (f := 94) rfl ?_); refine yC 15 Tryd.func94 #[.int .u64 t277] rfl ?_; (with_reducible refine (word_Zag.calls t277 t280 _ A13.out).mono ?_); rintro e w' ⟨rfl, ⟨nd, rfl⟩⟩; refine ⟨_, rfl, ?_⟩; (try (rw [drewN_self w17]; generalize hq_ : World.drewN w17 _ = w17; have n0_ : Aside0 (w17.heap[gb272]? = some (.cells #[.int .i64 0, .int .i64 0, .string (⟨#[]⟩ : ByteArray)] 23 (0, 0))) := ⟨by rw [← hq_]; exact (yK BK272)⟩; have n1_ : Aside0 (w17.heap[gb276]? = some (.cells #[.int .i64 (wrap64 (t273)), .int .i64 0, .string (⟨#[]⟩ : ByteArray)] 23 (0, 0))) := ⟨by rw [← hq_]; exact (yK BK276)⟩; have n2_ : Aside0 (IsS82 w0 w17 g t278 t279) := ⟨by rw [← hq_]; exact (by repeat (first | (with_reducible first | exact HI0.out | apply IsS82.alloc | apply IsS82.drewN | apply IsS82.drew | apply IsS82.set_0 | apply IsS82.set_1 | apply IsS82.far (hne := NB0_272.out) | apply IsS82.far (hne := NB0_276.out)) | exact HI0.out))⟩; have n3_ : Aside0 (KeepBut w w17 g none) := ⟨by rw [← hq_]; exact (by repeat (first | (with_reducible first | exact HK.out | apply KeepBut.set_ | apply keep_drewN | apply keep_drew | apply keep_alloc | refine keep_far ?_ GW272.out _ | refine keep_far ?_ GW276.out _) | exact HK.out))⟩; have n4_ : Aside0 (Below w0.heap.size w0 w17) := ⟨by rw [← hq_]; exact (yG3 HB (IsS82.ge HI0.out) GE272.out GE276.out)⟩; clear BK272 BK276 HI0 HK HB hq_; have BK272 := n0_; have BK276 := n1_; have HI0 := n2_; have HK := n3_; have HB := n4_; clear n0_ n1_ n2_ n3_ n4_)); obtain ⟨HGm, hgm⟩ := HI0.out; have hczm0_0 := cellS82_0 HGm; have hfzm0_0 := blk_frozen HGm 0; clear HGm hgm; have hnb18 := NB276_272.out; have hnc18 := NB272_276.out; have hnb19 := NB276_0.out; have hnc19 := NB0_276.out; obtain ⟨hcz20_0, hcz20_1, hcz20_2, hfz20_0, hfz20_1, hfz20_2⟩ := cells3 BK276.out) | (go_at_call 90; (with_reducible refine (word_Fits.calls t280 32 true _ A15.out).mono ?_); rintro e w' ⟨rfl, ⟨nd, rfl⟩⟩; have hnb21 := NB272_0.out; have hnc21 := NB0_272.out; obtain ⟨hcz22_0, hcz22_1, hcz22_2, hfz22_0, hfz22_1, hfz22_2⟩ := cells3 BK272.out))
      refine bodyPost_ret (results_cell_row rfl _ _ gb272 23 #[.int .i64 (wrap64 (t273)), .int .i64 t280, .string (⟨#[]⟩ : ByteArray)] (0, 0) _ rfl (by (with_reducible repeat (first | refine kN ?_ _ | refine kD ?_ | refine kA ?_ _)); refine kP (cs := #[.int .i64 (wrap64 (t273)), .int .i64 t280, .string (⟨#[]⟩ : ByteArray)]) ?_ 2 _ rfl; (with_reducible repeat (first | refine kN ?_ _ | refine kD ?_ | refine kA ?_ _)); refine kP (cs := #[.int .i64 (wrap64 (t273)), .int .i64 0, .string (⟨#[]⟩ : ByteArray)]) ?_ 1 _ rfl; (with_reducible repeat (first | refine kN ?_ _ | refine kD ?_ | refine kA ?_ _)); refine kP (cs := #[.int .i64 0, .int .i64 0, .string (⟨#[]⟩ : ByteArray)]) ?_ 0 _ rfl; (with_reducible repeat (first | refine kN ?_ _ | refine kD ?_ | refine kA ?_ _)); refine kF ?_ NB272_276.out _; (with_reducible repeat (first | refine kN ?_ _ | refine kD ?_ | refine kA ?_ _)); exact BK272.out) Tryd.underlying23 rfl (by kernel_rfl)) rfl ?_
      exact ⟨yE, by repeat (first | (with_reducible first | exact HI0.out | apply IsS82.alloc | apply IsS82.drewN | apply IsS82.drew | apply IsS82.set_0 | apply IsS82.set_1 | apply IsS82.far (hne := NB0_272.out) | apply IsS82.far (hne := NB0_276.out)) | exact HI0.out), yG3 HB (IsS82.ge HI0.out) GE272.out GE276.out, by repeat (first | (with_reducible first | exact HK.out | apply KeepBut.set_ | apply keep_drewN | apply keep_drew | apply keep_alloc | refine keep_far ?_ GW272.out _ | refine keep_far ?_ GW276.out _) | exact HK.out)⟩
     ·
      replace c16 := Bool.eq_false_iff.mpr c16
      subst c16
      replace H := yf H
      obtain ⟨⟨t282, t283⟩, A23, H⟩ := yb H
      try dsimp -simprocs only at H
      simp only [Option.some.injEq, Prod.mk.injEq] at H
      obtain ⟨rfl, rfl, rfl, rfl, rfl⟩ := H
      go_wp2_with (first | ((with_reducible refine gate_callee (f := 95) rfl ?_); refine yC 14 Tryd.func95 #[.pointer (some ⟨g, 0, none⟩)] rfl ?_; (with_reducible refine (catcode_reader_raw.calls kj2 g t274 t275 t277 t278 t279 w0 _ ?side1 ?side2 A12.out).mono ?_); (case side1 => repeat (first | (with_reducible first | exact HI0.out | apply IsS82.alloc | apply IsS82.drewN | apply IsS82.drew | apply IsS82.set_0 | apply IsS82.set_1 | apply IsS82.far (hne := NB0_272.out) | apply IsS82.far (hne := NB0_276.out)) | exact HI0.out)); (case side2 => exact yG3 HB (IsS82.ge HI0.out) GE272.out GE276.out); rintro e w24 ⟨rfl, hi, hb, hk⟩; refine ⟨_, rfl, ?_⟩; replace BK272 := aM (KeepBut.blk hk (g' := gb272) (o := .cells #[.int .i64 0, .int .i64 0, .string (⟨#[]⟩ : ByteArray)] 23 (0, 0)) (yK BK272) NB272_0.out (by simp)); replace BK276 := aM (KeepBut.blk hk (g' := gb276) (o := .cells #[.int .i64 (wrap64 (t273)), .int .i64 0, .string (⟨#[]⟩ : ByteArray)] 23 (0, 0)) (yK BK276) NB276_0.out (by simp)); replace HK := aM (KeepBut.trans (by repeat (first | (with_reducible first | exact HK.out | apply KeepBut.set_ | apply keep_drewN | apply keep_drew | apply keep_alloc | refine keep_far ?_ GW272.out _ | refine keep_far ?_ GW276.out _) | exact HK.out)) hk (.inl rfl)); replace HB := aM (hb); replace HI0 := aM (hi); (try clear hb); (try clear hk); (try clear hi)) | ((with_reducible refine gate_callee (f := 94) rfl ?_); refine yC 15 Tryd.func94 #[.int .u64 t277] rfl ?_; (with_reducible refine (word_Zag.calls t277 t280 _ A13.out).mono ?_); rintro e w' ⟨rfl, ⟨nd, rfl⟩⟩; refine ⟨_, rfl, ?_⟩; (try (rw [drewN_self w24]; generalize hq_ : World.drewN w24 _ = w24; have n0_ : Aside0 (w24.heap[gb272]? = some (.cells #[.int .i64 0, .int .i64 0, .string (⟨#[]⟩ : ByteArray)] 23 (0, 0))) := ⟨by rw [← hq_]; exact (yK BK272)⟩; have n1_ : Aside0 (w24.heap[gb276]? = some (.cells #[.int .i64 (wrap64 (t273)), .int .i64 0, .string (⟨#[]⟩ : ByteArray)] 23 (0, 0))) := ⟨by rw [← hq_]; exact (yK BK276)⟩; have n2_ : Aside0 (IsS82 w0 w24 g t278 t279) := ⟨by rw [← hq_]; exact (by repeat (first | (with_reducible first | exact HI0.out | apply IsS82.alloc | apply IsS82.drewN | apply IsS82.drew | apply IsS82.set_0 | apply IsS82.set_1 | apply IsS82.far (hne := NB0_272.out) | apply IsS82.far (hne := NB0_276.out)) | exact HI0.out))⟩; have n3_ : Aside0 (KeepBut w w24 g none) := ⟨by rw [← hq_]; exact (by repeat (first | (with_reducible first | exact HK.out | apply KeepBut.set_ | apply keep_drewN | apply keep_drew | apply keep_alloc | refine keep_far ?_ GW272.out _ | refine keep_far ?_ GW276.out _) | exact HK.out))⟩; have n4_ : Aside0 (Below w0.heap.size w0 w24) := ⟨by rw [← hq_]; exact (yG3 HB (IsS82.ge HI0.out) GE272.out GE276.out)⟩; clear BK272 BK276 HI0 HK HB hq_; have BK272 := n0_; have BK276 := n1_; have HI0 := n2_; have HK := n3_; have HB := n4_; clear n0_ n1_ n2_ n3_ n4_)); obtain ⟨HGm, hgm⟩ := HI0.out; have hczm0_0 := cellS82_0 HGm; have hfzm0_0 := blk_frozen HGm 0; clear HGm hgm; have hnb25 := NB276_272.out; have hnc25 := NB272_276.out; have hnb26 := NB276_0.out; have hnc26 := NB0_276.out; obtain ⟨hcz27_0, hcz27_1, hcz27_2, hfz27_0, hfz27_1, hfz27_2⟩ := cells3 BK276.out) | (go_at_call 90; (with_reducible refine (word_Fits.calls t280 32 false _ A15.out).mono ?_); rintro e w' ⟨rfl, ⟨nd, rfl⟩⟩) | ((with_reducible refine gate_callee (f := 96) rfl ?_); refine yC 27 Tryd.func96 #[.pointer (some ⟨g, 0, none⟩), .int .i64 5] rfl ?_; (with_reducible refine (catcode_reader_fail.calls g t278 t279 5 t282 t283 w0 _ ?side1 ?side2 A23.out).mono ?_); (case side1 => repeat (first | (with_reducible first | exact HI0.out | apply IsS82.alloc | apply IsS82.drewN | apply IsS82.drew | apply IsS82.set_0 | apply IsS82.set_1 | apply IsS82.far (hne := NB0_272.out) | apply IsS82.far (hne := NB0_276.out)) | exact HI0.out)); (case side2 => exact yG3 HB (IsS82.ge HI0.out) GE272.out GE276.out); rintro e w28 ⟨rfl, hi, hb, hk⟩; refine ⟨_, rfl, ?_⟩; replace BK272 := aM (KeepBut.blk hk (g' := gb272) (o := .cells #[.int .i64 0, .int .i64 0, .string (⟨#[]⟩ : ByteArray)] 23 (0, 0)) (yF1 BK272 NB272_276.out) NB272_0.out (by simp)); replace BK276 := aM (KeepBut.blk hk (g' := gb276) (o := .cells #[.int .i64 (wrap64 (t273)), .int .i64 t280, .string (⟨#[]⟩ : ByteArray)] 23 (0, 0)) (by (with_reducible repeat (first | refine kN ?_ _ | refine kD ?_ | refine kA ?_ _)); refine kP (cs := #[.int .i64 (wrap64 (t273)), .int .i64 0, .string (⟨#[]⟩ : ByteArray)]) ?_ 1 _ rfl; (with_reducible repeat (first | refine kN ?_ _ | refine kD ?_ | refine kA ?_ _)); exact BK276.out) NB276_0.out (by simp)); replace HK := aM (KeepBut.trans (by repeat (first | (with_reducible first | exact HK.out | apply KeepBut.set_ | apply keep_drewN | apply keep_drew | apply keep_alloc | refine keep_far ?_ GW272.out _ | refine keep_far ?_ GW276.out _) | exact HK.out)) hk (.inl rfl)); replace HB := aM (hb); replace HI0 := aM (hi); (try clear hb); (try clear hk); (try clear hi); obtain ⟨hcz29_0, hcz29_1, hcz29_2, hfz29_0, hfz29_1, hfz29_2⟩ := cells3 BK276.out; have hnb30 := NB272_0.out; have hnc30 := NB0_272.out; obtain ⟨hcz31_0, hcz31_1, hcz31_2, hfz31_0, hfz31_1, hfz31_2⟩ := cells3 BK272.out))
      refine bodyPost_ret (results_cell_row rfl _ _ gb272 23 #[.int .i64 (wrap64 (t273)), .int .i64 t280, .string (⟨#[]⟩ : ByteArray)] (0, 0) _ rfl (puts3 BK272.out) Tryd.underlying23 rfl (by kernel_rfl)) rfl ?_
      exact ⟨yE, by repeat (first | (with_reducible first | exact HI0.out | apply IsS82.alloc | apply IsS82.drewN | apply IsS82.drew | apply IsS82.set_0 | apply IsS82.set_1 | apply IsS82.far (hne := NB0_272.out) | apply IsS82.far (hne := NB0_276.out)) | exact HI0.out), yG3 HB (IsS82.ge HI0.out) GE272.out GE276.out, by repeat (first | (with_reducible first | exact HK.out | apply KeepBut.set_ | apply keep_drewN | apply keep_drew | apply keep_alloc | refine keep_far ?_ GW272.out _ | refine keep_far ?_ GW276.out _) | exact HK.out)⟩
    ·
     rw [if_neg c14] at H
     have c14b0 : ((wrap64 (t273)) == 1) = false := beq_eq_false_iff_ne.mpr c14
     have c14b1 : ((wrap64 (t273)) != 1) = true := bne_iff_ne.mpr c14
     simp only [Option.some.injEq, Prod.mk.injEq] at H
     obtain ⟨rfl, rfl, rfl, rfl, rfl⟩ := H
     go_wp2_with (first | ((with_reducible refine gate_callee (f := 95) rfl ?_); refine yC 14 Tryd.func95 #[.pointer (some ⟨g, 0, none⟩)] rfl ?_; (with_reducible refine (catcode_reader_raw.calls kj2 g t274 t275 t277 t278 t279 w0 _ ?side1 ?side2 A12.out).mono ?_); (case side1 => repeat (first | (with_reducible first | exact HI0.out | apply IsS82.alloc | apply IsS82.drewN | apply IsS82.drew | apply IsS82.set_0 | apply IsS82.set_1 | apply IsS82.far (hne := NB0_272.out) | apply IsS82.far (hne := NB0_276.out)) | exact HI0.out)); (case side2 => exact yG3 HB (IsS82.ge HI0.out) GE272.out GE276.out); rintro e w32 ⟨rfl, hi, hb, hk⟩; refine ⟨_, rfl, ?_⟩; replace BK272 := aM (KeepBut.blk hk (g' := gb272) (o := .cells #[.int .i64 0, .int .i64 0, .string (⟨#[]⟩ : ByteArray)] 23 (0, 0)) (yK BK272) NB272_0.out (by simp)); replace BK276 := aM (KeepBut.blk hk (g' := gb276) (o := .cells #[.int .i64 (wrap64 (t273)), .int .i64 0, .string (⟨#[]⟩ : ByteArray)] 23 (0, 0)) (yK BK276) NB276_0.out (by simp)); replace HK := aM (KeepBut.trans (by repeat (first | (with_reducible first | exact HK.out | apply KeepBut.set_ | apply keep_drewN | apply keep_drew | apply keep_alloc | refine keep_far ?_ GW272.out _ | refine keep_far ?_ GW276.out _) | exact HK.out)) hk (.inl rfl)); replace HB := aM (hb); replace HI0 := aM (hi); (try clear hb); (try clear hk); (try clear hi)) | ((with_reducible refine gate_callee (f := 94) rfl ?_); refine yC 15 Tryd.func94 #[.int .u64 t277] rfl ?_; (with_reducible refine (word_Zag.calls t277 t280 _ A13.out).mono ?_); rintro e w' ⟨rfl, ⟨nd, rfl⟩⟩; refine ⟨_, rfl, ?_⟩; (try (rw [drewN_self w32]; generalize hq_ : World.drewN w32 _ = w32; have n0_ : Aside0 (w32.heap[gb272]? = some (.cells #[.int .i64 0, .int .i64 0, .string (⟨#[]⟩ : ByteArray)] 23 (0, 0))) := ⟨by rw [← hq_]; exact (yK BK272)⟩; have n1_ : Aside0 (w32.heap[gb276]? = some (.cells #[.int .i64 (wrap64 (t273)), .int .i64 0, .string (⟨#[]⟩ : ByteArray)] 23 (0, 0))) := ⟨by rw [← hq_]; exact (yK BK276)⟩; have n2_ : Aside0 (IsS82 w0 w32 g t278 t279) := ⟨by rw [← hq_]; exact (by repeat (first | (with_reducible first | exact HI0.out | apply IsS82.alloc | apply IsS82.drewN | apply IsS82.drew | apply IsS82.set_0 | apply IsS82.set_1 | apply IsS82.far (hne := NB0_272.out) | apply IsS82.far (hne := NB0_276.out)) | exact HI0.out))⟩; have n3_ : Aside0 (KeepBut w w32 g none) := ⟨by rw [← hq_]; exact (by repeat (first | (with_reducible first | exact HK.out | apply KeepBut.set_ | apply keep_drewN | apply keep_drew | apply keep_alloc | refine keep_far ?_ GW272.out _ | refine keep_far ?_ GW276.out _) | exact HK.out))⟩; have n4_ : Aside0 (Below w0.heap.size w0 w32) := ⟨by rw [← hq_]; exact (yG3 HB (IsS82.ge HI0.out) GE272.out GE276.out)⟩; clear BK272 BK276 HI0 HK HB hq_; have BK272 := n0_; have BK276 := n1_; have HI0 := n2_; have HK := n3_; have HB := n4_; clear n0_ n1_ n2_ n3_ n4_)); obtain ⟨HGm, hgm⟩ := HI0.out; have hczm0_0 := cellS82_0 HGm; have hfzm0_0 := blk_frozen HGm 0; clear HGm hgm; have hnb33 := NB276_272.out; have hnc33 := NB272_276.out; have hnb34 := NB276_0.out; have hnc34 := NB0_276.out; obtain ⟨hcz35_0, hcz35_1, hcz35_2, hfz35_0, hfz35_1, hfz35_2⟩ := cells3 BK276.out; have hnb36 := NB272_0.out; have hnc36 := NB0_272.out; obtain ⟨hcz37_0, hcz37_1, hcz37_2, hfz37_0, hfz37_1, hfz37_2⟩ := cells3 BK272.out))
     refine bodyPost_ret (results_cell_row rfl _ _ gb272 23 #[.int .i64 (wrap64 (t273)), .int .i64 t280, .string (⟨#[]⟩ : ByteArray)] (0, 0) _ rfl (by (with_reducible repeat (first | refine kN ?_ _ | refine kD ?_ | refine kA ?_ _)); refine kP (cs := #[.int .i64 (wrap64 (t273)), .int .i64 t280, .string (⟨#[]⟩ : ByteArray)]) ?_ 2 _ rfl; (with_reducible repeat (first | refine kN ?_ _ | refine kD ?_ | refine kA ?_ _)); refine kP (cs := #[.int .i64 (wrap64 (t273)), .int .i64 0, .string (⟨#[]⟩ : ByteArray)]) ?_ 1 _ rfl; (with_reducible repeat (first | refine kN ?_ _ | refine kD ?_ | refine kA ?_ _)); refine kP (cs := #[.int .i64 0, .int .i64 0, .string (⟨#[]⟩ : ByteArray)]) ?_ 0 _ rfl; (with_reducible repeat (first | refine kN ?_ _ | refine kD ?_ | refine kA ?_ _)); refine kF ?_ NB272_276.out _; (with_reducible repeat (first | refine kN ?_ _ | refine kD ?_ | refine kA ?_ _)); exact BK272.out) Tryd.underlying23 rfl (by kernel_rfl)) rfl ?_
     exact ⟨yE, by repeat (first | (with_reducible first | exact HI0.out | apply IsS82.alloc | apply IsS82.drewN | apply IsS82.drew | apply IsS82.set_0 | apply IsS82.set_1 | apply IsS82.far (hne := NB0_272.out) | apply IsS82.far (hne := NB0_276.out)) | exact HI0.out), yG3 HB (IsS82.ge HI0.out) GE272.out GE276.out, by repeat (first | (with_reducible first | exact HK.out | apply KeepBut.set_ | apply keep_drewN | apply keep_drew | apply keep_alloc | refine keep_far ?_ GW272.out _ | refine keep_far ?_ GW276.out _) | exact HK.out)⟩
   ·
    replace c11 := Bool.eq_false_iff.mpr c11
    subst c11
    replace H := yf H
    have HC38 := aM H
    clear H
    go_upto_if 28 with (fail)
    go_cut [28] (fun v28 wc => ∃ (kq : Nat) (x28_37 : Bool), v28 = .bool x28_37 ∧ Aside0 (catcode_reader_value.j1 kq x28_37 t274 t275 (wrap64 (t273)) 0 (⟨#[]⟩ : ByteArray) = some (r1, r2, r3, r4, r5)) ∧ Aside0 (kq ≤ kj2) ∧ Aside0 (wc.heap[gb272]? = some (.cells #[.int .i64 0, .int .i64 0, .string (⟨#[]⟩ : ByteArray)] 23 (0, 0))) ∧ Aside0 (wc.heap[gb276]? = some (.cells #[.int .i64 (wrap64 (t273)), .int .i64 0, .string (⟨#[]⟩ : ByteArray)] 23 (0, 0))) ∧ Aside0 (IsS82 w0 wc g t274 t275) ∧ Aside0 (KeepBut w wc g none) ∧ Aside0 (Below w0.heap.size w0 wc))
    case first =>
     have H := HC38.out
     clear HC38
     by_cases c39 : (wrap64 (t273)) = 3
     ·
      rw [if_pos c39] at H
      have c39b0 : ((wrap64 (t273)) == 3) = true := beq_iff_eq.mpr c39
      have c39b1 : ((wrap64 (t273)) != 3) = false := bne_eq_false_iff_eq.mpr c39
      clear c39
      (first | rw [c39b0] | (simp only [i64_w, i32_w]; rw [c39b0]) | skip)
      have H' := aM H
      clear H
      go_wp2
      go_meet
      case rel => exact ⟨_, (((wrap64 (t273)) == 3)), yS, H', ⟨by have := HJ2.out; first | omega | exact Nat.le_refl _⟩, ⟨yK BK272⟩, ⟨yK BK276⟩, ⟨by repeat (first | (with_reducible first | exact HI0.out | apply IsS82.alloc | apply IsS82.drewN | apply IsS82.drew | apply IsS82.set_0 | apply IsS82.set_1 | apply IsS82.far (hne := NB0_272.out) | apply IsS82.far (hne := NB0_276.out)) | exact HI0.out)⟩, ⟨by repeat (first | (with_reducible first | exact HK.out | apply KeepBut.set_ | apply keep_drewN | apply keep_drew | apply keep_alloc | refine keep_far ?_ GW272.out _ | refine keep_far ?_ GW276.out _) | exact HK.out)⟩, ⟨yG3 HB (IsS82.ge HI0.out) GE272.out GE276.out⟩⟩
     ·
      rw [if_neg c39] at H
      have c39b0 : ((wrap64 (t273)) == 3) = false := beq_eq_false_iff_ne.mpr c39
      have c39b1 : ((wrap64 (t273)) != 3) = true := bne_iff_ne.mpr c39
      (first | rw [c39b0] | (simp only [i64_w, i32_w]; rw [c39b0]) | skip)
      have H' := aM H
      clear H
      go_wp2
      go_meet
      case rel => exact ⟨_, (((wrap64 (t273)) == 4)), yS, H', ⟨by have := HJ2.out; first | omega | exact Nat.le_refl _⟩, ⟨yK BK272⟩, ⟨yK BK276⟩, ⟨by repeat (first | (with_reducible first | exact HI0.out | apply IsS82.alloc | apply IsS82.drewN | apply IsS82.drew | apply IsS82.set_0 | apply IsS82.set_1 | apply IsS82.far (hne := NB0_272.out) | apply IsS82.far (hne := NB0_276.out)) | exact HI0.out)⟩, ⟨by repeat (first | (with_reducible first | exact HK.out | apply KeepBut.set_ | apply keep_drewN | apply keep_drew | apply keep_alloc | refine keep_far ?_ GW272.out _ | refine keep_far ?_ GW276.out _) | exact HK.out)⟩, ⟨yG3 HB (IsS82.ge HI0.out) GE272.out GE276.out⟩⟩
    case rest =>
     clear HC38
     try clear c11
     try clear hcz9_0 hcz9_1 hcz9_2
     try clear hfz9_0 hfz9_1 hfz9_2
     obtain ⟨kq, x28_37, rfl, HA, HJ37, BK272, BK276, HI0, HK, HB⟩ := hcut
     cases kq with
     | zero => exact absurd HA.out (by simp [catcode_reader_value.j1])
     | succ kj37 =>
      have H := HA.out
      clear HA
      simp only [catcode_reader_value.j1] at H
      by_cases c40 : x28_37 = true
      ·
       subst c40
       replace H := yt H
       obtain ⟨⟨t284, t285, t286⟩, A41, H⟩ := yb H
       try dsimp -simprocs only at H
       by_cases c42 : (wrap64 (t273)) = 3
       ·
        rw [if_pos c42] at H
        have c42b0 : ((wrap64 (t273)) == 3) = true := beq_iff_eq.mpr c42
        have c42b1 : ((wrap64 (t273)) != 3) = false := bne_eq_false_iff_eq.mpr c42
        clear c42
        obtain ⟨t287, A43, H⟩ := yb H
        by_cases c44 : t287 = true
        ·
         subst c44
         replace H := yt H
         simp only [Option.some.injEq, Prod.mk.injEq] at H
         obtain ⟨rfl, rfl, rfl, rfl, rfl⟩ := H
         go_wp2_with (first | ((with_reducible refine gate_callee (f := 67) rfl ?_); refine yC 32 Tryd.func67 #[.pointer (some ⟨g, 0, none⟩), .int .i64 120] rfl ?_; (with_reducible refine (catcode_reader_text.calls kj37 g t274 t275 120 t284 t285 t286 w0 _ ?side1 ?side2 A41.out).mono ?_); (case side1 => repeat (first | (with_reducible first | exact HI0.out | apply IsS82.alloc | apply IsS82.drewN | apply IsS82.drew | apply IsS82.set_0 | apply IsS82.set_1 | apply IsS82.far (hne := NB0_272.out) | apply IsS82.far (hne := NB0_276.out)) | exact HI0.out)); (case side2 => exact yG3 HB (IsS82.ge HI0.out) GE272.out GE276.out); rintro e w45 ⟨rfl, hi, hb, hk⟩; refine ⟨_, rfl, ?_⟩; replace BK272 := aM (KeepBut.blk hk (g' := gb272) (o := .cells #[.int .i64 0, .int .i64 0, .string (⟨#[]⟩ : ByteArray)] 23 (0, 0)) (yK BK272) NB272_0.out (by simp)); replace BK276 := aM (KeepBut.blk hk (g' := gb276) (o := .cells #[.int .i64 (wrap64 (t273)), .int .i64 0, .string (⟨#[]⟩ : ByteArray)] 23 (0, 0)) (yK BK276) NB276_0.out (by simp)); replace HK := aM (KeepBut.trans (by repeat (first | (with_reducible first | exact HK.out | apply KeepBut.set_ | apply keep_drewN | apply keep_drew | apply keep_alloc | refine keep_far ?_ GW272.out _ | refine keep_far ?_ GW276.out _) | exact HK.out)) hk (.inl rfl)); replace HB := aM (hb); replace HI0 := aM (hi); (try clear hb); (try clear hk); (try clear hi); have hnb46 := NB276_272.out; have hnc46 := NB272_276.out; have hnb47 := NB276_0.out; have hnc47 := NB0_276.out; obtain ⟨hcz48_0, hcz48_1, hcz48_2, hfz48_0, hfz48_1, hfz48_2⟩ := cells3 BK276.out) | (go_at_call 91; (with_reducible refine (utf_Right.calls kj37 t284 true _ ?side1 A43.out).mono ?_); (case side1 => first | (with_reducible exact HG.out) | exact Glob.below HG.out (yG3 HB (IsS82.ge HI0.out) GE272.out GE276.out)); rintro e w49 ⟨rfl, hb⟩; replace BK272 := aM (kB (yF1 BK272 NB272_276.out) hb); replace BK276 := aM (kB (g := gb276) (o := .cells #[.int .i64 (wrap64 (t273)), .int .i64 0, .string t284] 23 (0, 0)) (by (with_reducible repeat (first | refine kN ?_ _ | refine kD ?_ | refine kA ?_ _)); refine kP (cs := #[.int .i64 (wrap64 (t273)), .int .i64 0, .string (⟨#[]⟩ : ByteArray)]) ?_ 2 _ rfl; (with_reducible repeat (first | refine kN ?_ _ | refine kD ?_ | refine kA ?_ _)); exact BK276.out) hb); replace HK := aM (KeepBut.trans (by repeat (first | (with_reducible first | exact HK.out | apply KeepBut.set_ | apply keep_drewN | apply keep_drew | apply keep_alloc | refine keep_far ?_ GW272.out _ | refine keep_far ?_ GW276.out _) | exact HK.out)) (KeepBut.of_below hb g none) (.inl rfl)); replace HB := aM (bP (yG3 HB (IsS82.ge HI0.out) GE272.out GE276.out) hb); replace HI0 := aM (IsS82.below (show IsS82 w0 (w45.setCell ⟨gb276, 2, none⟩ (.string t284)) g t285 t286 from by repeat (first | (with_reducible first | exact HI0.out | apply IsS82.alloc | apply IsS82.drewN | apply IsS82.drew | apply IsS82.set_0 | apply IsS82.set_1 | apply IsS82.far (hne := NB0_272.out) | apply IsS82.far (hne := NB0_276.out)) | exact HI0.out)) hb); (try clear hb); (try clear hk); (try clear hi); obtain ⟨hcz50_0, hcz50_1, hcz50_2, hfz50_0, hfz50_1, hfz50_2⟩ := cells3 BK276.out; have hnb51 := NB272_0.out; have hnc51 := NB0_272.out; obtain ⟨hcz52_0, hcz52_1, hcz52_2, hfz52_0, hfz52_1, hfz52_2⟩ := cells3 BK272.out))
         refine bodyPost_ret (results_cell_row rfl _ _ gb272 23 #[.int .i64 (wrap64 (t273)), .int .i64 0, .string t284] (0, 0) _ rfl (puts3 BK272.out) Tryd.underlying23 rfl (by kernel_rfl)) rfl ?_
         exact ⟨yE, by repeat (first | (with_reducible first | exact HI0.out | apply IsS82.alloc | apply IsS82.drewN | apply IsS82.drew | apply IsS82.set_0 | apply IsS82.set_1 | apply IsS82.far (hne := NB0_272.out) | apply IsS82.far (hne := NB0_276.out)) | exact HI0.out), yG3 HB (IsS82.ge HI0.out) GE272.out GE276.out, by repeat (first | (with_reducible first | exact HK.out | apply KeepBut.set_ | apply keep_drewN | apply keep_drew | apply keep_alloc | refine keep_far ?_ GW272.out _ | refine keep_far ?_ GW276.out _) | exact HK.out)⟩
        ·
         replace c44 := Bool.eq_false_iff.mpr c44
         subst c44
         replace H := yf H
         obtain ⟨⟨t288, t289⟩, A53, H⟩ := yb H
         try dsimp -simprocs only at H
         simp only [Option.some.injEq, Prod.mk.injEq] at H
         obtain ⟨rfl, rfl, rfl, rfl, rfl⟩ := H
         go_wp2_with (first | ((with_reducible refine gate_callee (f := 67) rfl ?_); refine yC 32 Tryd.func67 #[.pointer (some ⟨g, 0, none⟩), .int .i64 120] rfl ?_; (with_reducible refine (catcode_reader_text.calls kj37 g t274 t275 120 t284 t285 t286 w0 _ ?side1 ?side2 A41.out).mono ?_); (case side1 => repeat (first | (with_reducible first | exact HI0.out | apply IsS82.alloc | apply IsS82.drewN | apply IsS82.drew | apply IsS82.set_0 | apply IsS82.set_1 | apply IsS82.far (hne := NB0_272.out) | apply IsS82.far (hne := NB0_276.out)) | exact HI0.out)); (case side2 => exact yG3 HB (IsS82.ge HI0.out) GE272.out GE276.out); rintro e w54 ⟨rfl, hi, hb, hk⟩; refine ⟨_, rfl, ?_⟩; replace BK272 := aM (KeepBut.blk hk (g' := gb272) (o := .cells #[.int .i64 0, .int .i64 0, .string (⟨#[]⟩ : ByteArray)] 23 (0, 0)) (yK BK272) NB272_0.out (by simp)); replace BK276 := aM (KeepBut.blk hk (g' := gb276) (o := .cells #[.int .i64 (wrap64 (t273)), .int .i64 0, .string (⟨#[]⟩ : ByteArray)] 23 (0, 0)) (yK BK276) NB276_0.out (by simp)); replace HK := aM (KeepBut.trans (by repeat (first | (with_reducible first | exact HK.out | apply KeepBut.set_ | apply keep_drewN | apply keep_drew | apply keep_alloc | refine keep_far ?_ GW272.out _ | refine keep_far ?_ GW276.out _) | exact HK.out)) hk (.inl rfl)); replace HB := aM (hb); replace HI0 := aM (hi); (try clear hb); (try clear hk); (try clear hi); have hnb55 := NB276_272.out; have hnc55 := NB272_276.out; have hnb56 := NB276_0.out; have hnc56 := NB0_276.out; obtain ⟨hcz57_0, hcz57_1, hcz57_2, hfz57_0, hfz57_1, hfz57_2⟩ := cells3 BK276.out) | (go_at_call 91; (with_reducible refine (utf_Right.calls kj37 t284 false _ ?side1 A43.out).mono ?_); (case side1 => first | (with_reducible exact HG.out) | exact Glob.below HG.out (yG3 HB (IsS82.ge HI0.out) GE272.out GE276.out)); rintro e w58 ⟨rfl, hb⟩; replace BK272 := aM (kB (yF1 BK272 NB272_276.out) hb); replace BK276 := aM (kB (g := gb276) (o := .cells #[.int .i64 (wrap64 (t273)), .int .i64 0, .string t284] 23 (0, 0)) (by (with_reducible repeat (first | refine kN ?_ _ | refine kD ?_ | refine kA ?_ _)); refine kP (cs := #[.int .i64 (wrap64 (t273)), .int .i64 0, .string (⟨#[]⟩ : ByteArray)]) ?_ 2 _ rfl; (with_reducible repeat (first | refine kN ?_ _ | refine kD ?_ | refine kA ?_ _)); exact BK276.out) hb); replace HK := aM (KeepBut.trans (by repeat (first | (with_reducible first | exact HK.out | apply KeepBut.set_ | apply keep_drewN | apply keep_drew | apply keep_alloc | refine keep_far ?_ GW272.out _ | refine keep_far ?_ GW276.out _) | exact HK.out)) (KeepBut.of_below hb g none) (.inl rfl)); replace HB := aM (bP (yG3 HB (IsS82.ge HI0.out) GE272.out GE276.out) hb); replace HI0 := aM (IsS82.below (show IsS82 w0 (w54.setCell ⟨gb276, 2, none⟩ (.string t284)) g t285 t286 from by repeat (first | (with_reducible first | exact HI0.out | apply IsS82.alloc | apply IsS82.drewN | apply IsS82.drew | apply IsS82.set_0 | apply IsS82.set_1 | apply IsS82.far (hne := NB0_272.out) | apply IsS82.far (hne := NB0_276.out)) | exact HI0.out)) hb); (try clear hb); (try clear hk); (try clear hi)) | ((with_reducible refine gate_callee (f := 96) rfl ?_); refine yC 44 Tryd.func96 #[.pointer (some ⟨g, 0, none⟩), .int .i64 5] rfl ?_; (with_reducible refine (catcode_reader_fail.calls g t285 t286 5 t288 t289 w0 _ ?side1 ?side2 A53.out).mono ?_); (case side1 => repeat (first | (with_reducible first | exact HI0.out | apply IsS82.alloc | apply IsS82.drewN | apply IsS82.drew | apply IsS82.set_0 | apply IsS82.set_1 | apply IsS82.far (hne := NB0_272.out) | apply IsS82.far (hne := NB0_276.out)) | exact HI0.out)); (case side2 => exact yG3 HB (IsS82.ge HI0.out) GE272.out GE276.out); rintro e w59 ⟨rfl, hi, hb, hk⟩; refine ⟨_, rfl, ?_⟩; replace BK272 := aM (KeepBut.blk hk (g' := gb272) (o := .cells #[.int .i64 0, .int .i64 0, .string (⟨#[]⟩ : ByteArray)] 23 (0, 0)) (yK BK272) NB272_0.out (by simp)); replace BK276 := aM (KeepBut.blk hk (g' := gb276) (o := .cells #[.int .i64 (wrap64 (t273)), .int .i64 0, .string t284] 23 (0, 0)) (yK BK276) NB276_0.out (by simp)); replace HK := aM (KeepBut.trans (by repeat (first | (with_reducible first | exact HK.out | apply KeepBut.set_ | apply keep_drewN | apply keep_drew | apply keep_alloc | refine keep_far ?_ GW272.out _ | refine keep_far ?_ GW276.out _) | exact HK.out)) hk (.inl rfl)); replace HB := aM (hb); replace HI0 := aM (hi); (try clear hb); (try clear hk); (try clear hi); obtain ⟨hcz60_0, hcz60_1, hcz60_2, hfz60_0, hfz60_1, hfz60_2⟩ := cells3 BK276.out; have hnb61 := NB272_0.out; have hnc61 := NB0_272.out; obtain ⟨hcz62_0, hcz62_1, hcz62_2, hfz62_0, hfz62_1, hfz62_2⟩ := cells3 BK272.out))
         refine bodyPost_ret (results_cell_row rfl _ _ gb272 23 #[.int .i64 (wrap64 (t273)), .int .i64 0, .string t284] (0, 0) _ rfl (puts3 BK272.out) Tryd.underlying23 rfl (by kernel_rfl)) rfl ?_
         exact ⟨yE, by repeat (first | (with_reducible first | exact HI0.out | apply IsS82.alloc | apply IsS82.drewN | apply IsS82.drew | apply IsS82.set_0 | apply IsS82.set_1 | apply IsS82.far (hne := NB0_272.out) | apply IsS82.far (hne := NB0_276.out)) | exact HI0.out), yG3 HB (IsS82.ge HI0.out) GE272.out GE276.out, by repeat (first | (with_reducible first | exact HK.out | apply KeepBut.set_ | apply keep_drewN | apply keep_drew | apply keep_alloc | refine keep_far ?_ GW272.out _ | refine keep_far ?_ GW276.out _) | exact HK.out)⟩
       ·
        rw [if_neg c42] at H
        have c42b0 : ((wrap64 (t273)) == 3) = false := beq_eq_false_iff_ne.mpr c42
        have c42b1 : ((wrap64 (t273)) != 3) = true := bne_iff_ne.mpr c42
        simp only [Option.some.injEq, Prod.mk.injEq] at H
        obtain ⟨rfl, rfl, rfl, rfl, rfl⟩ := H
        go_wp2_with (first | ((with_reducible refine gate_callee (f := 67) rfl ?_); refine yC 32 Tryd.func67 #[.pointer (some ⟨g, 0, none⟩), .int .i64 120] rfl ?_; (with_reducible refine (catcode_reader_text.calls kj37 g t274 t275 120 t284 t285 t286 w0 _ ?side1 ?side2 A41.out).mono ?_); (case side1 => repeat (first | (with_reducible first | exact HI0.out | apply IsS82.alloc | apply IsS82.drewN | apply IsS82.drew | apply IsS82.set_0 | apply IsS82.set_1 | apply IsS82.far (hne := NB0_272.out) | apply IsS82.far (hne := NB0_276.out)) | exact HI0.out)); (case side2 => exact yG3 HB (IsS82.ge HI0.out) GE272.out GE276.out); rintro e w63 ⟨rfl, hi, hb, hk⟩; refine ⟨_, rfl, ?_⟩; replace BK272 := aM (KeepBut.blk hk (g' := gb272) (o := .cells #[.int .i64 0, .int .i64 0, .string (⟨#[]⟩ : ByteArray)] 23 (0, 0)) (yK BK272) NB272_0.out (by simp)); replace BK276 := aM (KeepBut.blk hk (g' := gb276) (o := .cells #[.int .i64 (wrap64 (t273)), .int .i64 0, .string (⟨#[]⟩ : ByteArray)] 23 (0, 0)) (yK BK276) NB276_0.out (by simp)); replace HK := aM (KeepBut.trans (by repeat (first | (with_reducible first | exact HK.out | apply KeepBut.set_ | apply keep_drewN | apply keep_drew | apply keep_alloc | refine keep_far ?_ GW272.out _ | refine keep_far ?_ GW276.out _) | exact HK.out)) hk (.inl rfl)); replace HB := aM (hb); replace HI0 := aM (hi); (try clear hb); (try clear hk); (try clear hi); have hnb64 := NB276_272.out; have hnc64 := NB272_276.out; have hnb65 := NB276_0.out; have hnc65 := NB0_276.out; obtain ⟨hcz66_0, hcz66_1, hcz66_2, hfz66_0, hfz66_1, hfz66_2⟩ := cells3 BK276.out; have hnb67 := NB272_0.out; have hnc67 := NB0_272.out; obtain ⟨hcz68_0, hcz68_1, hcz68_2, hfz68_0, hfz68_1, hfz68_2⟩ := cells3 BK272.out))
        refine bodyPost_ret (results_cell_row rfl _ _ gb272 23 #[.int .i64 (wrap64 (t273)), .int .i64 0, .string t284] (0, 0) _ rfl (by (with_reducible repeat (first | refine kN ?_ _ | refine kD ?_ | refine kA ?_ _)); refine kP (cs := #[.int .i64 (wrap64 (t273)), .int .i64 0, .string (⟨#[]⟩ : ByteArray)]) ?_ 2 _ rfl; (with_reducible repeat (first | refine kN ?_ _ | refine kD ?_ | refine kA ?_ _)); refine kP (cs := #[.int .i64 (wrap64 (t273)), .int .i64 0, .string (⟨#[]⟩ : ByteArray)]) ?_ 1 _ rfl; (with_reducible repeat (first | refine kN ?_ _ | refine kD ?_ | refine kA ?_ _)); refine kP (cs := #[.int .i64 0, .int .i64 0, .string (⟨#[]⟩ : ByteArray)]) ?_ 0 _ rfl; (with_reducible repeat (first | refine kN ?_ _ | refine kD ?_ | refine kA ?_ _)); refine kF ?_ NB272_276.out _; (with_reducible repeat (first | refine kN ?_ _ | refine kD ?_ | refine kA ?_ _)); exact BK272.out) Tryd.underlying23 rfl (by kernel_rfl)) rfl ?_
        exact ⟨yE, by repeat (first | (with_reducible first | exact HI0.out | apply IsS82.alloc | apply IsS82.drewN | apply IsS82.drew | apply IsS82.set_0 | apply IsS82.set_1 | apply IsS82.far (hne := NB0_272.out) | apply IsS82.far (hne := NB0_276.out)) | exact HI0.out), yG3 HB (IsS82.ge HI0.out) GE272.out GE276.out, by repeat (first | (with_reducible first | exact HK.out | apply KeepBut.set_ | apply keep_drewN | apply keep_drew | apply keep_alloc | refine keep_far ?_ GW272.out _ | refine keep_far ?_ GW276.out _) | exact HK.out)⟩
      ·
       replace c40 := Bool.eq_false_iff.mpr c40
       subst c40
       replace H := yf H
       simp only [Option.some.injEq, Prod.mk.injEq] at H
       obtain ⟨rfl, rfl, rfl, rfl, rfl⟩ := H
       have hnb69 := NB276_272.out
       have hnc69 := NB272_276.out
       have hnb70 := NB276_0.out
       have hnc70 := NB0_276.out
       obtain ⟨hcz71_0, hcz71_1, hcz71_2, hfz71_0, hfz71_1, hfz71_2⟩ := cells3 BK276.out
       have hnb72 := NB272_0.out
       have hnc72 := NB0_272.out
       obtain ⟨hcz73_0, hcz73_1, hcz73_2, hfz73_0, hfz73_1, hfz73_2⟩ := cells3 BK272.out
       go_wp2
       refine bodyPost_ret (results_cell_row rfl _ _ gb272 23 #[.int .i64 (wrap64 (t273)), .int .i64 0, .string (⟨#[]⟩ : ByteArray)] (0, 0) _ rfl (puts3 BK272.out) Tryd.underlying23 rfl (by kernel_rfl)) rfl ?_
       exact ⟨yE, by repeat (first | (with_reducible first | exact HI0.out | apply IsS82.alloc | apply IsS82.drewN | apply IsS82.drew | apply IsS82.set_0 | apply IsS82.set_1 | apply IsS82.far (hne := NB0_272.out) | apply IsS82.far (hne := NB0_276.out)) | exact HI0.out), yG3 HB (IsS82.ge HI0.out) GE272.out GE276.out, by repeat (first | (with_reducible first | exact HK.out | apply KeepBut.set_ | apply keep_drewN | apply keep_drew | apply keep_alloc | refine keep_far ?_ GW272.out _ | refine keep_far ?_ GW276.out _) | exact HK.out)⟩
/-! ### catcode_ReadValue: function 10 -/
def catcode_ReadValue.f (k : Nat) (a0 : ByteArray) : Option (Int × Int × ByteArray × Int × Int) := (catcode_reader_value.f k a0 0).bind fun bt292 => (if bt292.2.2.2.2 = 0 then (some (bt292.1, bt292.2.1, bt292.2.2.1, wrap64 ((a0.size : Int) - (bt292.2.2.2.1.size : Int)), 0)) else (some (0, 0, (⟨#[]⟩ : ByteArray), 0, bt292.2.2.2.2)))
theorem catcode_ReadValue.mono : ∀ a0 k, LeO (catcode_ReadValue.f k a0) (catcode_ReadValue.f (k + 1) a0) := by
 intro a0 k
 unfold catcode_ReadValue.f
 repeat' first | with_reducible (first | exact catcode_reader_value.mono .. | exact LeO.refl .. | exact LeO.none .. | refine LeO.ite ?_ ?_ | refine LeO.bind ?_ (fun _ => ?_)) | exact catcode_reader_value.mono .. | exact LeO.none .. | refine LeO.ite ?_ ?_ | refine LeO.bind ?_ (fun _ => ?_)
def catcode_ReadValue.T4 : Bool × List (List Nat × List Nat) := (true, [([], []), ([], []), ([1], [1]), ([2], [2]), ([3], [3]), ([0, 0], [0]), ([5, 0, 5], []), ([4, 6, 0, 1, 2, 3, 4, 5, 6], [4])])
def catcode_ReadValue.B4 : List Nat := [0, 0, 2, 6, 14, 1, 33, 127]
theorem catcode_ReadValue.tab4 : rtab .any (opsOf Tryd.f10 4) = catcode_ReadValue.T4 := by kernel_rfl
theorem catcode_ReadValue.bits4 : waitsOk catcode_ReadValue.T4.2 catcode_ReadValue.B4 = true := by kernel_rfl
def catcode_ReadValue.T5 : Bool × List (List Nat × List Nat) := (true, [([], []), ([], []), ([1], [1]), ([], []), ([3], [3]), ([4], [4]), ([5], [5]), ([6], [6]), ([2, 7], [2, 7]), ([0, 0], [0]), ([8, 9, 0, 1, 2, 3, 4, 5, 6, 7, 8, 9], [8]), ([10, 0, 1, 2, 3, 4, 5, 6, 7, 8, 9, 10], [])])
def catcode_ReadValue.B5 : List Nat := [0, 0, 2, 0, 8, 24, 56, 120, 254, 1, 1023, 2047]
theorem catcode_ReadValue.tab5 : rtab .any (opsOf Tryd.f10 5) = catcode_ReadValue.T5 := by kernel_rfl
theorem catcode_ReadValue.bits5 : waitsOk catcode_ReadValue.T5.2 catcode_ReadValue.B5 = true := by kernel_rfl
set_option maxHeartbeats 8000000 in
set_option maxRecDepth 100000 in
theorem catcode_ReadValue.calls (k : Nat) (a0 : ByteArray) (r1 : Int) (r2 : Int) (r3 : ByteArray) (r4 : Int) (r5 : Int) (w : World) (hG : Glob w) (h : catcode_ReadValue.f k a0 = some (r1, r2, r3, r4, r5)) :
  Calls Tryd.prog 10 #[.string a0] w fun e w' => e = .returned (.tuple #[.agg #[.int .i64 r1, .int .i64 r2, .string r3], .int .i64 r4, .int .i64 r5]) ∧ Below w.heap.size w w' := by
 have hu23 := Tryd.underlying23
 have hu82 := Tryd.underlying82
 have HG := aM hG
 clear hG
 have HB := aM (Below.refl w.heap.size w)
 have H : ((catcode_reader_value.f k a0 0).bind fun bt292 => (if bt292.2.2.2.2 = 0 then (some (bt292.1, bt292.2.1, bt292.2.2.1, wrap64 ((a0.size : Int) - (bt292.2.2.2.1.size : Int)), 0)) else (some (0, 0, (⟨#[]⟩ : ByteArray), 0, bt292.2.2.2.2)))) = some (r1, r2, r3, r4, r5) := h
 clear h
 obtain ⟨⟨t292, t293, t294, t295, t296⟩, A2, H⟩ := yb H
 try dsimp -simprocs only at H
 by_cases c3 : t296 = 0
 ·
  rw [if_pos c3] at H
  have c3b0 : (t296 == 0) = true := beq_iff_eq.mpr c3
  have c3b1 : (t296 != 0) = false := bne_eq_false_iff_eq.mpr c3
  clear c3
  simp only [Option.some.injEq, Prod.mk.injEq] at H
  obtain ⟨rfl, rfl, rfl, rfl, rfl⟩ := H
  go_enter Tryd.func10, Tryd.ntmps10
  try go_wp2_with (first | ((with_reducible refine gate_dst (N := 2) rfl ?_); refine yX (N := 2) (cs := #[.int .i64 0, .int .i64 0, .string (⟨#[]⟩ : ByteArray)]) (t := 23) ?_; intro gb290 hg w4 hbox hb; have BK290 := aM (hbox); have GW290 := yZ hg (yB HB); have GE290 := yZ hg (yB HB); replace HB := aM (bP (yB HB) hb); clear hb hbox hg) | ((with_reducible refine gate_dst (N := 8) rfl ?_); refine yX (N := 8) (cs := #[.string a0, .int .i64 0]) (t := 82) ?_; intro gb291 hg w5 hbox hb; have HI291 := aM ((show IsS82 w w5 gb291 a0 0 from ⟨hbox, by rw [hg]; exact (bZ (yG1 HB GE290.out))⟩)); have GW291 := yZ hg (yG1 HB GE290.out); have GE291 := yZ hg (yG1 HB GE290.out); replace HB := aM (bP (yG1 HB GE290.out) hb); have NB290_291 := yN hg (yK BK290); have NB291_290 := yM hg (yK BK290); replace BK290 := aM (kB (yK BK290) hb); clear hb hbox hg) | ((with_reducible refine gate_callee (f := 38) rfl ?_); refine yC 10 Tryd.func38 #[.pointer (some ⟨gb291, 0, none⟩)] rfl ?_; (with_reducible refine (catcode_reader_value.calls k gb291 a0 0 t292 t293 t294 t295 t296 w _ ?side1 ?side2 ?side3 A2.out).mono ?_); (case side1 => repeat (first | (with_reducible first | exact HI291.out | apply IsS82.alloc | apply IsS82.drewN | apply IsS82.drew | apply IsS82.set_0 | apply IsS82.set_1 | apply IsS82.far (hne := NB291_290.out)) | exact HI291.out)); (case side2 => exact yG2 HB (IsS82.ge HI291.out) GE290.out); (case side3 => first | (with_reducible exact HG.out) | exact Glob.below HG.out (yG2 HB (IsS82.ge HI291.out) GE290.out)); rintro e w6 ⟨rfl, hi, hb, hk⟩; refine ⟨_, rfl, ?_⟩; replace BK290 := aM (KeepBut.blk hk (g' := gb290) (o := .cells #[.int .i64 0, .int .i64 0, .string (⟨#[]⟩ : ByteArray)] 23 (0, 0)) (yK BK290) NB290_291.out (by simp)); replace HB := aM (hb); replace HI291 := aM (hi); (try clear hb); (try clear hk); (try clear hi); have hnb7 := NB290_291.out; have hnc7 := NB291_290.out; obtain ⟨hcz8_0, hcz8_1, hcz8_2, hfz8_0, hfz8_1, hfz8_2⟩ := cells3 BK290.out; obtain ⟨HGz9, hgz9⟩ := HI291.out; have hcz9_0 := cellS82_0 HGz9; have hcz9_1 := cellS82_1 HGz9; have hfz9_0 := blk_frozen HGz9 0; have hfz9_1 := blk_frozen HGz9 1; clear HGz9 hgz9))
  have n0_ : Aside0 ((((w6.setCell ⟨gb290, 0, none⟩ (.int .i64 t292)).setCell ⟨gb290, 1, none⟩ (.int .i64 t293)).setCell ⟨gb290, 2, none⟩ (.string t294)).heap[gb290]? = some (.cells #[.int .i64 t292, .int .i64 t293, .string t294] 23 (0, 0))) := ⟨puts3 BK290.out⟩
  have n1_ : Aside0 (IsS82 w (((w6.setCell ⟨gb290, 0, none⟩ (.int .i64 t292)).setCell ⟨gb290, 1, none⟩ (.int .i64 t293)).setCell ⟨gb290, 2, none⟩ (.string t294)) gb291 t295 t296) := ⟨by repeat (first | (with_reducible first | exact HI291.out | apply IsS82.alloc | apply IsS82.drewN | apply IsS82.drew | apply IsS82.set_0 | apply IsS82.set_1 | apply IsS82.far (hne := NB291_290.out)) | exact HI291.out)⟩
  have n2_ : Aside0 (Below w.heap.size w (((w6.setCell ⟨gb290, 0, none⟩ (.int .i64 t292)).setCell ⟨gb290, 1, none⟩ (.int .i64 t293)).setCell ⟨gb290, 2, none⟩ (.string t294))) := ⟨yG2 HB (IsS82.ge HI291.out) GE290.out⟩
  (try clear BK290)
  (try clear HI291)
  (try clear HB)
  generalize (((w6.setCell ⟨gb290, 0, none⟩ (.int .i64 t292)).setCell ⟨gb290, 1, none⟩ (.int .i64 t293)).setCell ⟨gb290, 2, none⟩ (.string t294)) = w10 at n0_ n1_ n2_ ⊢
  have BK290 := n0_
  have HI291 := n1_
  have HB := n2_
  clear n0_ n1_ n2_
  have n0_ := aM (kD BK290.out)
  have n1_ := aM (IsS82.drew HI291.out)
  have n2_ := aM (b1 HB.out)
  clear BK290
  clear HI291
  clear HB
  have BK290 := n0_
  have HI291 := n1_
  have HB := n2_
  clear n0_ n1_ n2_
  refine start_ (n := 12) (S := fun w' => w'.cell? ⟨gb290, 0, none⟩ = some (.int .i64 t292) ∧ w'.cell? ⟨gb290, 1, none⟩ = some (.int .i64 t293) ∧ w'.cell? ⟨gb290, 2, none⟩ = some (.string t294) ∧ w'.cell? ⟨gb291, 0, none⟩ = some (.string t295) ∧ w'.cell? ⟨gb291, 1, none⟩ = some (.int .i64 t296)) (ds := []) (tB 0 12) (by kernel_rfl) rfl rfl ⟨yV BK290 0, yV BK290 1, yV BK290 2, (blk_cell (IsS82.box HI291).out 0).trans rfl, (blk_cell (IsS82.box HI291).out 1).trans rfl⟩ (fun hHeld => ?_); refine with_tabW catcode_ReadValue.tab5 catcode_ReadValue.bits5 (fun HT_ HW_ => ?_)
  generalize w10.drew = w11 at BK290 HI291 HB hHeld ⊢
  refine yP HT_ 1 22 (tB 2 12) rfl rfl ?_
  refine yP HT_ 2 23 (tB 6 12) rfl rfl ?_
  refine yP HT_ 3 24 (tB 14 12) rfl rfl ?_
  refine yP HT_ 4 25 (tB 30 12) rfl rfl ?_
  refine yP HT_ 5 26 (tB 62 12) rfl rfl ?_
  refine yT HT_ HW_ 0 21 (tB 63 12) rfl rfl hHeld ?_
  refine yT HT_ HW_ 6 27 (tB 127 12) rfl rfl hHeld ?_
  refine yP HT_ 7 28 (tB 255 12) rfl rfl ?_
  refine yP HT_ 8 29 (tB 511 12) rfl rfl ?_
  refine yI HT_ 9 (tB 1023 12) rfl rfl fun K hK => ?_
  have hs12 : w11.cell? ⟨gb290, 0, none⟩ = some (.int .i64 t292) := (blk_cell BK290.out 0).trans rfl
  have hfs12 := blk_frozen BK290.out 0
  have hs13 : w11.cell? ⟨gb290, 1, none⟩ = some (.int .i64 t293) := (blk_cell BK290.out 1).trans rfl
  have hfs13 := blk_frozen BK290.out 1
  have hs14 : w11.cell? ⟨gb290, 2, none⟩ = some (.string t294) := (blk_cell BK290.out 2).trans rfl
  have hfs14 := blk_frozen BK290.out 2
  refine skip_ (w1 := ?_) (by rfl) rfl ?_ ?_
  rotate_left
  ·
   go_simp
   rfl
  refine hK.out _ _ ⟨(by first | (go_simp; done) | (go_simp; rfl)), (by first | (go_simp; done) | (go_simp; rfl)), (by first | (go_simp; done) | (go_simp; rfl)), (cF3 NB291_290.out hHeld.2.2.2.1), (cF3 NB291_290.out hHeld.2.2.2.2)⟩ (fun hHeld => ?_)
  clear hK K
  refine yP HT_ 10 3 (tB 2047 12) rfl rfl ?_
  refine yP HT_ 11 4 (tB 4095 12) rfl rfl ?_
  refine done_ (done_of HT_.out (by kernel_rfl)) ?_
  try go_wp2
  refine bodyPost_ret (results_ctt rfl _ _ gb290 23 #[.int .i64 t292, .int .i64 t293, .string t294] (0, 0) _ rfl (puts3 BK290.out) Tryd.underlying23 rfl (by kernel_rfl)) rfl ?_
  exact ⟨yE, yG2 HB (IsS82.ge HI291.out) GE290.out⟩
 ·
  rw [if_neg c3] at H
  have c3b0 : (t296 == 0) = false := beq_eq_false_iff_ne.mpr c3
  have c3b1 : (t296 != 0) = true := bne_iff_ne.mpr c3
  simp only [Option.some.injEq, Prod.mk.injEq] at H
  obtain ⟨rfl, rfl, rfl, rfl, rfl⟩ := H
  go_enter Tryd.func10, Tryd.ntmps10
  try go_wp2_with (first | ((with_reducible refine gate_dst (N := 2) rfl ?_); refine yX (N := 2) (cs := #[.int .i64 0, .int .i64 0, .string (⟨#[]⟩ : ByteArray)]) (t := 23) ?_; intro gb290 hg w15 hbox hb; have BK290 := aM (hbox); have GW290 := yZ hg (yB HB); have GE290 := yZ hg (yB HB); replace HB := aM (bP (yB HB) hb); clear hb hbox hg) | ((with_reducible refine gate_dst (N := 8) rfl ?_); refine yX (N := 8) (cs := #[.string a0, .int .i64 0]) (t := 82) ?_; intro gb291 hg w16 hbox hb; have HI291 := aM ((show IsS82 w w16 gb291 a0 0 from ⟨hbox, by rw [hg]; exact (bZ (yG1 HB GE290.out))⟩)); have GW291 := yZ hg (yG1 HB GE290.out); have GE291 := yZ hg (yG1 HB GE290.out); replace HB := aM (bP (yG1 HB GE290.out) hb); have NB290_291 := yN hg (yK BK290); have NB291_290 := yM hg (yK BK290); replace BK290 := aM (kB (yK BK290) hb); clear hb hbox hg) | ((with_reducible refine gate_callee (f := 38) rfl ?_); refine yC 10 Tryd.func38 #[.pointer (some ⟨gb291, 0, none⟩)] rfl ?_; (with_reducible refine (catcode_reader_value.calls k gb291 a0 0 t292 t293 t294 t295 t296 w _ ?side1 ?side2 ?side3 A2.out).mono ?_); (case side1 => repeat (first | (with_reducible first | exact HI291.out | apply IsS82.alloc | apply IsS82.drewN | apply IsS82.drew | apply IsS82.set_0 | apply IsS82.set_1 | apply IsS82.far (hne := NB291_290.out)) | exact HI291.out)); (case side2 => exact yG2 HB (IsS82.ge HI291.out) GE290.out); (case side3 => first | (with_reducible exact HG.out) | exact Glob.below HG.out (yG2 HB (IsS82.ge HI291.out) GE290.out)); rintro e w17 ⟨rfl, hi, hb, hk⟩; refine ⟨_, rfl, ?_⟩; replace BK290 := aM (KeepBut.blk hk (g' := gb290) (o := .cells #[.int .i64 0, .int .i64 0, .string (⟨#[]⟩ : ByteArray)] 23 (0, 0)) (yK BK290) NB290_291.out (by simp)); replace HB := aM (hb); replace HI291 := aM (hi); (try clear hb); (try clear hk); (try clear hi); have hnb18 := NB290_291.out; have hnc18 := NB291_290.out; obtain ⟨hcz19_0, hcz19_1, hcz19_2, hfz19_0, hfz19_1, hfz19_2⟩ := cells3 BK290.out; obtain ⟨HGz20, hgz20⟩ := HI291.out; have hcz20_0 := cellS82_0 HGz20; have hcz20_1 := cellS82_1 HGz20; have hfz20_0 := blk_frozen HGz20 0; have hfz20_1 := blk_frozen HGz20 1; clear HGz20 hgz20))
  have n0_ : Aside0 ((((w17.setCell ⟨gb290, 0, none⟩ (.int .i64 t292)).setCell ⟨gb290, 1, none⟩ (.int .i64 t293)).setCell ⟨gb290, 2, none⟩ (.string t294)).heap[gb290]? = some (.cells #[.int .i64 t292, .int .i64 t293, .string t294] 23 (0, 0))) := ⟨puts3 BK290.out⟩
  have n1_ : Aside0 (IsS82 w (((w17.setCell ⟨gb290, 0, none⟩ (.int .i64 t292)).setCell ⟨gb290, 1, none⟩ (.int .i64 t293)).setCell ⟨gb290, 2, none⟩ (.string t294)) gb291 t295 t296) := ⟨by repeat (first | (with_reducible first | exact HI291.out | apply IsS82.alloc | apply IsS82.drewN | apply IsS82.drew | apply IsS82.set_0 | apply IsS82.set_1 | apply IsS82.far (hne := NB291_290.out)) | exact HI291.out)⟩
  have n2_ : Aside0 (Below w.heap.size w (((w17.setCell ⟨gb290, 0, none⟩ (.int .i64 t292)).setCell ⟨gb290, 1, none⟩ (.int .i64 t293)).setCell ⟨gb290, 2, none⟩ (.string t294))) := ⟨yG2 HB (IsS82.ge HI291.out) GE290.out⟩
  (try clear BK290)
  (try clear HI291)
  (try clear HB)
  generalize (((w17.setCell ⟨gb290, 0, none⟩ (.int .i64 t292)).setCell ⟨gb290, 1, none⟩ (.int .i64 t293)).setCell ⟨gb290, 2, none⟩ (.string t294)) = w21 at n0_ n1_ n2_ ⊢
  have BK290 := n0_
  have HI291 := n1_
  have HB := n2_
  clear n0_ n1_ n2_
  have n0_ := aM (kD BK290.out)
  have n1_ := aM (IsS82.drew HI291.out)
  have n2_ := aM (b1 HB.out)
  clear BK290
  clear HI291
  clear HB
  have BK290 := n0_
  have HI291 := n1_
  have HB := n2_
  clear n0_ n1_ n2_
  refine start_ (n := 8) (S := fun w' => w'.cell? ⟨gb291, 0, none⟩ = some (.string t295) ∧ w'.cell? ⟨gb291, 1, none⟩ = some (.int .i64 t296)) (ds := []) (tB 0 8) (by kernel_rfl) rfl rfl ⟨(blk_cell (IsS82.box HI291).out 0).trans rfl, (blk_cell (IsS82.box HI291).out 1).trans rfl⟩ (fun hHeld => ?_); refine with_tabW catcode_ReadValue.tab4 catcode_ReadValue.bits4 (fun HT_ HW_ => ?_)
  generalize w21.drew = w22 at BK290 HI291 HB hHeld ⊢
  refine yP HT_ 0 16 (tB 1 8) rfl rfl ?_
  refine yP HT_ 1 17 (tB 3 8) rfl rfl ?_
  refine yP HT_ 2 18 (tB 7 8) rfl rfl ?_
  refine yP HT_ 3 19 (tB 15 8) rfl rfl ?_
  refine yT HT_ HW_ 4 20 (tB 31 8) rfl rfl hHeld ?_
  refine yI HT_ 5 (tB 63 8) rfl rfl fun K hK => ?_
  have hs23 : w22.cell? ⟨gb290, 0, none⟩ = some (.int .i64 t292) := (blk_cell BK290.out 0).trans rfl
  have hfs23 := blk_frozen BK290.out 0
  have hs24 : w22.cell? ⟨gb290, 1, none⟩ = some (.int .i64 t293) := (blk_cell BK290.out 1).trans rfl
  have hfs24 := blk_frozen BK290.out 1
  have hs25 : w22.cell? ⟨gb290, 2, none⟩ = some (.string t294) := (blk_cell BK290.out 2).trans rfl
  have hfs25 := blk_frozen BK290.out 2
  refine skip_ (w1 := ?_) (by rfl) rfl ?_ ?_
  rotate_left
  ·
   go_simp
   rfl
  refine hK.out _ _ ⟨(cF3 NB291_290.out hHeld.1), (cF3 NB291_290.out hHeld.2)⟩ (fun hHeld => ?_)
  clear hK K
  refine yP HT_ 6 3 (tB 127 8) rfl rfl ?_
  refine yP HT_ 7 4 (tB 255 8) rfl rfl ?_
  refine done_ (done_of HT_.out (by kernel_rfl)) ?_
  try go_wp2
  refine bodyPost_ret (results_ctt rfl _ _ gb290 23 #[.int .i64 0, .int .i64 0, .string (⟨#[]⟩ : ByteArray)] (0, 0) _ rfl (puts3 BK290.out) Tryd.underlying23 rfl (by kernel_rfl)) rfl ?_
  exact ⟨yE, yG2 HB (IsS82.ge HI291.out) GE290.out⟩
end Go.Proofs.YtgefikclhfjcgaaDoor.HCatcodeValues

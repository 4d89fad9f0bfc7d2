/- For Go functions that RowcodeTypes reaches: Lean functions, and walks that show that each call comes to what its Lean function tells; no condition but those that each theorem states. (Made by a program of this session over the kit's print.py.) -/
import Derived.Test.YtdeophpjammbpaaDoorHRowcodeTypesx0
import Derived.Test.YtdeophpjammbpaaDoorHRowcodeTypesx7
import Derived.Test.YtdeophpjammbpaaDoorHRowcodeTypesx8
import Derived.Test.YtdeophpjammbpaaDoorHRowcodeTypesx17
namespace Go.Proofs.YtdeophpjammbpaaDoor.HRowcodeTypes
open Go.RowKit Go.Proofs.YtdeophpjammbpaaDoorW.PrintWords Go.Proofs.YtdeophpjammbpaaDoorW.PrintLast Go.Proofs.YtdeophpjammbpaaDoorW.PrintMore
attribute [local go_sem] max2_int min2_int max_two min_two max_three min_three max_four min_four   -- for this text's walks alone
set_option linter.unusedVariables false
set_option linter.unusedSimpArgs false
attribute [local go_sem] hp_s8 hp_s16 hp_s32 hp_s64 hp_m8 hp_m16 hp_m32 hp_m64
/-! ### rowcode_reader_left: function 85 -/
def rowcode_reader_left.f (s0_0 : ByteArray) : Option (Int × ByteArray) := if s0_0.toList = ([] : List UInt8) then (some (0, s0_0)) else (some (6, s0_0))
set_option maxHeartbeats 8000000 in
set_option maxRecDepth 100000 in
theorem rowcode_reader_left.calls (g : Nat) (s0_0 : ByteArray) (r1 : Int) (r2 : ByteArray) (w0 w : World) (hI : IsS112 w0 w g s0_0) (hB : Below w0.heap.size w0 w) (h : rowcode_reader_left.f s0_0 = some (r1, r2)) :
  Calls Tryd.prog 85 #[.pointer (some ⟨g, 0, none⟩)] w fun e w' => e = .returned (.int .i64 r1) ∧ IsS112 w0 w' g r2 ∧ Below w0.heap.size w0 w' ∧ KeepBut w w' g none := by
 have HI0 := aM hI
 have HK := aM (KeepBut.refl w g none)
 have HL := aM hB.size
 clear hI
 have HW0 := aM hB.size
 have HB := aM hB
 clear hB
 have H : (if s0_0.toList = ([] : List UInt8) then (some (0, s0_0)) else (some (6, s0_0))) = some (r1, r2) := h
 clear h
 by_cases c2 : s0_0.toList = ([] : List UInt8)
 ·
  rw [if_pos c2] at H
  have c2b0 : (s0_0.toList == ([] : List UInt8)) = true := beq_iff_eq.mpr c2
  have c2b1 : (s0_0.toList != ([] : List UInt8)) = false := bne_eq_false_iff_eq.mpr c2
  clear c2
  simp only [Option.some.injEq, Prod.mk.injEq] at H
  obtain ⟨rfl, rfl⟩ := H
  obtain ⟨HGz3, hgz3⟩ := HI0.out
  have hcz3_0 := cellS112_0 HGz3
  have hfz3_0 := blk_frozen HGz3 0
  clear HGz3 hgz3
  go_enter Tryd.func85, Tryd.ntmps85
  go_wp2
  go_ret
  exact ⟨yE, by repeat (first | (with_reducible first | exact HI0.out | apply IsS112.alloc | apply IsS112.drewN | apply IsS112.drew | apply IsS112.set_0) | exact HI0.out), yG1 HB (IsS112.ge HI0.out), by repeat (first | (with_reducible first | exact HK.out | apply KeepBut.set_ | apply keep_drewN | apply keep_drew | apply keep_alloc) | exact HK.out)⟩
 ·
  rw [if_neg c2] at H
  have c2b0 : (s0_0.toList == ([] : List UInt8)) = false := beq_eq_false_iff_ne.mpr c2
  have c2b1 : (s0_0.toList != ([] : List UInt8)) = true := bne_iff_ne.mpr c2
  simp only [Option.some.injEq, Prod.mk.injEq] at H
  obtain ⟨rfl, rfl⟩ := H
  obtain ⟨HGz4, hgz4⟩ := HI0.out
  have hcz4_0 := cellS112_0 HGz4
  have hfz4_0 := blk_frozen HGz4 0
  clear HGz4 hgz4
  go_enter Tryd.func85, Tryd.ntmps85
  go_wp2
  go_ret
  exact ⟨yE, by repeat (first | (with_reducible first | exact HI0.out | apply IsS112.alloc | apply IsS112.drewN | apply IsS112.drew | apply IsS112.set_0) | exact HI0.out), yG1 HB (IsS112.ge HI0.out), by repeat (first | (with_reducible first | exact HK.out | apply KeepBut.set_ | apply keep_drewN | apply keep_drew | apply keep_alloc) | exact HK.out)⟩
/-! ### rowcode_Decode: function 51 -/
mutual
def rowcode_Decode.j0 : Nat → ByteArray → Int → Bool → Int → ByteArray → Int → Int → List (S54) → Option ((List (S52)) × Int)
 | 0, _, _, _, _, _, _, _, _ => none
 | k + 1, x1, x6, x40, x290000, x290001, x290002, x290003, x290004 => if x40 = true then (some (([] : List (S52)), 5)) else (if 0 ≤ x6 then (if x6 ≤ (x1.size : Int) then (if 0 ≤ (x290004.length : Int) then (if ((x290004.length : Int) : Int).toNat ≤ 8796093022208 then (rowcode_Decode.l0 k x1 (List.replicate ((x290004.length : Int) : Int).toNat z52) x290004 (x290004.length : Int) 0 (x1.extract (x6 : Int).toNat x1.size)) else (none)) else (none)) else (none)) else (none))
def rowcode_Decode.l0 : Nat → ByteArray → List (S52) → List (S54) → Int → Int → ByteArray → Option ((List (S52)) × Int)
 | 0, _, _, _, _, _, _ => none
 | k + 1, x1, x9, x51, x52, x53, x293000 => if x53 < x52 then (if 0 ≤ x53 then (if x53 < (x51.length : Int) then (if 0 ≤ (x53 / 8) then (if (x53 / 8) < (x1.size : Int) then (if 0 ≤ (Go.bits .and .i64 x53 7) then (if (Go.bits .and .u8 (shr .u8 (bt x1 (x53 / 8)) (Go.bits .and .i64 x53 7)) 1) = 1 then (if ((rd_T54 x51 x53).f3 = true) then (rowcode_Decode.l0 k x1 x9 x51 x52 (wrap64 (x53 + 1)) x293000) else (some (([] : List (S52)), 11))) else ((rowcode_reader_value.f k x293000 ((rd_T54 x51 x53).f2.f0) ((rd_T54 x51 x53).f2.f1)).bind fun bt298 => (if bt298.2.2.2.1 = 0 then (if x53 < (x9.length : Int) then (rowcode_Decode.l0 k x1 (x9.set (x53 : Int).toNat (⟨bt298.1, bt298.2.1, bt298.2.2.1⟩ : S52)) x51 x52 (wrap64 (x53 + 1)) bt298.2.2.2.2) else (none)) else (some (([] : List (S52)), bt298.2.2.2.1))))) else (none)) else (none)) else (none)) else (none)) else (none)) else ((rowcode_reader_left.f x293000).bind fun bt305 => (if bt305.1 = 0 then (some (x9, 0)) else (some (([] : List (S52)), bt305.1))))
end
def rowcode_Decode.f (k : Nat) (a0_0 : Int) (a0_1 : ByteArray) (a0_2 : Int) (a0_3 : Int) (l0_4 : List (S54)) (a1 : ByteArray) : Option ((List (S52)) × Int) := (schema_RightTable.f k a0_0 a0_1 a0_2 a0_3 l0_4).bind fun t290 => (if t290 = true then ((rowcode_size.f (l0_4.length : Int)).bind fun t291 => (if (a1.size : Int) < t291 then (some (([] : List (S52)), 4)) else (if (Go.bits .and .i64 (l0_4.length : Int) 7) = 0 then (rowcode_Decode.j0 k a1 t291 false a0_0 a0_1 a0_2 a0_3 l0_4) else (if 0 ≤ (wrap64 (t291 - 1)) then (if (wrap64 (t291 - 1)) < (a1.size : Int) then (if 0 ≤ (Go.bits .and .i64 (l0_4.length : Int) 7) then (rowcode_Decode.j0 k a1 t291 ((shr .u8 (bt a1 (wrap64 (t291 - 1))) (Go.bits .and .i64 (l0_4.length : Int) 7)) != 0) a0_0 a0_1 a0_2 a0_3 l0_4) else (none)) else (none)) else (none))))) else (some (([] : List (S52)), 2)))
theorem rowcode_Decode.mono_l : ∀ k, (∀ y0 y1 y2 y3 y4 y5 y6 y7, LeO (rowcode_Decode.j0 k y0 y1 y2 y3 y4 y5 y6 y7) (rowcode_Decode.j0 (k + 1) y0 y1 y2 y3 y4 y5 y6 y7)) ∧ (∀ y0 y1 y2 y3 y4 y5, LeO (rowcode_Decode.l0 k y0 y1 y2 y3 y4 y5) (rowcode_Decode.l0 (k + 1) y0 y1 y2 y3 y4 y5))
 | 0 => by refine ⟨?_, ?_⟩ <;> intros <;> exact LeO.none _
 | k + 1 => by
  obtain ⟨ih0, ih1⟩ := rowcode_Decode.mono_l k
  refine ⟨?_, ?_⟩ <;> intros <;> first | unfold rowcode_Decode.j0 | unfold rowcode_Decode.l0
  all_goals repeat' first | with_reducible (first | exact ih0 .. | exact ih1 .. | exact rowcode_reader_value.mono .. | exact schema_RightTable.mono .. | exact LeO.refl .. | exact LeO.none .. | refine LeO.ite ?_ ?_ | refine LeO.bind ?_ (fun _ => ?_)) | exact ih0 .. | exact ih1 .. | exact rowcode_reader_value.mono .. | exact schema_RightTable.mono .. | exact LeO.none .. | refine LeO.ite ?_ ?_ | refine LeO.bind ?_ (fun _ => ?_)
theorem rowcode_Decode.mono : ∀ a0 a1 a2 a3 a4 a5 k, LeO (rowcode_Decode.f k a0 a1 a2 a3 a4 a5) (rowcode_Decode.f (k + 1) a0 a1 a2 a3 a4 a5) := by
 intro a0 a1 a2 a3 a4 a5 k
 obtain ⟨ih0, ih1⟩ := rowcode_Decode.mono_l k
 unfold rowcode_Decode.f
 repeat' first | with_reducible (first | exact ih0 .. | exact ih1 .. | exact rowcode_reader_value.mono .. | exact schema_RightTable.mono .. | exact LeO.refl .. | exact LeO.none .. | refine LeO.ite ?_ ?_ | refine LeO.bind ?_ (fun _ => ?_)) | exact ih0 .. | exact ih1 .. | exact rowcode_reader_value.mono .. | exact schema_RightTable.mono .. | exact LeO.none .. | refine LeO.ite ?_ ?_ | refine LeO.bind ?_ (fun _ => ?_)
set_option maxHeartbeats 8000000 in
set_option maxRecDepth 100000 in
theorem rowcode_Decode.calls (k : Nat) (a0_0 : Int) (a0_1 : ByteArray) (a0_2 : Int) (a0_3 : Int) (A0_4 : Option Addr) (c0_4 : Nat) (l0_4 : List (S54)) (a1 : ByteArray) (r1 : List (S52)) (r2 : Int) (w : World) (hr0_4 : Kd.C k54 w A0_4 l0_4.length l0_4) (hc0_4 : l0_4.length ≤ c0_4) (hG : Glob w) (h : rowcode_Decode.f k a0_0 a0_1 a0_2 a0_3 l0_4 a1 = some (r1, r2)) :
  Calls Tryd.prog 51 #[.agg #[.int .i64 a0_0, .string a0_1, .int .i64 a0_2, .int .i64 a0_3, .slice A0_4 l0_4.length c0_4], .string a1] w fun e w' => ∃ v0_ : Value, e = .returned (.tuple #[v0_, .int .i64 r2]) ∧ Kd.R k52 52 w' w.heap.size (fun _ => True) v0_ r1 ∧ Below w.heap.size w w' := by
 have hu24 := Tryd.underlying24
 have hu112 := Tryd.underlying112
 have hu54 := Tryd.underlying54
 have hu50 := Tryd.underlying50
 have hu52 := Tryd.underlying52
 have HR0_4 := aM hr0_4
 have HC0_4 := aM hc0_4
 clear hr0_4 hc0_4
 have HG := aM hG
 clear hG
 have HB := aM (Below.refl w.heap.size w)
 have H : ((schema_RightTable.f k a0_0 a0_1 a0_2 a0_3 l0_4).bind fun t290 => (if t290 = true then ((rowcode_size.f (l0_4.length : Int)).bind fun t291 => (if (a1.size : Int) < t291 then (some (([] : List (S52)), 4)) else (if (Go.bits .and .i64 (l0_4.length : Int) 7) = 0 then (rowcode_Decode.j0 k a1 t291 false a0_0 a0_1 a0_2 a0_3 l0_4) else (if 0 ≤ (wrap64 (t291 - 1)) then (if (wrap64 (t291 - 1)) < (a1.size : Int) then (if 0 ≤ (Go.bits .and .i64 (l0_4.length : Int) 7) then (rowcode_Decode.j0 k a1 t291 ((shr .u8 (bt a1 (wrap64 (t291 - 1))) (Go.bits .and .i64 (l0_4.length : Int) 7)) != 0) a0_0 a0_1 a0_2 a0_3 l0_4) else (none)) else (none)) else (none))))) else (some (([] : List (S52)), 2)))) = some (r1, r2) := h
 clear h
 obtain ⟨t290, A3, H⟩ := yb H
 by_cases c4 : t290 = true
 ·
  subst c4
  replace H := yt H
  obtain ⟨t291, A5, H⟩ := yb H
  by_cases c6 : (a1.size : Int) < t291
  ·
   rw [if_pos c6] at H
   have c6b0 : decide ((a1.size : Int) < t291) = true := decide_eq_true c6
   clear c6
   simp only [Option.some.injEq, Prod.mk.injEq] at H
   obtain ⟨rfl, rfl⟩ := H
   go_enter Tryd.func51, Tryd.ntmps51
   go_wp2_with (first | ((with_reducible refine gate_dst (N := 2) rfl ?_); refine yX (N := 2) (cs := #[.int .i64 a0_0, .string a0_1, .int .i64 a0_2, .int .i64 a0_3, .slice A0_4 l0_4.length c0_4]) (t := 24) ?_; intro gb289 hg w7 hbox hb; have BK289 := aM (hbox); have GW289 := yZ hg (yB HB); have GE289 := yZ hg (yB HB); replace HB := aM (bP (yB HB) hb); clear hb hbox hg; obtain ⟨hcz8_0, hcz8_1, hcz8_2, hcz8_3, hcz8_4, hfz8_0, hfz8_1, hfz8_2, hfz8_3, hfz8_4⟩ := cells5 BK289.out) | ((with_reducible refine gate_callee (f := 26) rfl ?_); refine yC 16 Tryd.func26 #[.agg #[.int .i64 a0_0, .string a0_1, .int .i64 a0_2, .int .i64 a0_3, .slice A0_4 l0_4.length c0_4]] rfl ?_; (with_reducible refine (schema_RightTable.calls k a0_0 a0_1 a0_2 a0_3 _ _ l0_4 true _ ?side1 ?side2 ?side3 A3.out).mono ?_); (case side1 => exact yW (Kd.C_below HR0_4.out HB.out)); (case side2 => exact HC0_4.out); (case side3 => first | (with_reducible exact HG.out) | exact Glob.below HG.out (yG1 HB GE289.out)); rintro e w9 ⟨rfl, hb⟩; refine ⟨_, rfl, ?_⟩; replace BK289 := aM (kB (yK BK289) hb); replace HB := aM (bP (yG1 HB GE289.out) hb); (try clear hb); obtain ⟨hcz10_0, hcz10_1, hcz10_2, hcz10_3, hcz10_4, hfz10_0, hfz10_1, hfz10_2, hfz10_3, hfz10_4⟩ := cells5 BK289.out) | ((with_reducible refine gate_callee (f := 60) rfl ?_); refine yC 21 Tryd.func60 #[.int .i64 (l0_4.length : Int)] rfl ?_; (with_reducible refine (rowcode_size.calls (l0_4.length : Int) t291 _ A5.out).mono ?_); rintro e w' ⟨rfl, ⟨nd, rfl⟩⟩; refine ⟨_, rfl, ?_⟩))
   go_ret2
   exact ⟨_, yE, by first | exact Kd.R_nil _ _ _ _ _ | exact Kd.N_nil _ _ _ _ _ | exact Kd.V_nil _ _ _ _ _ | exact Kd.Q_nil _ _ _ _ _ | exact Kd.S_nil _ _ _ _ _, yG1 HB GE289.out⟩
  ·
   rw [if_neg c6] at H
   have c6b0 : decide ((a1.size : Int) < t291) = false := decide_eq_false c6
   clear c6
   have HC11 := aM H
   clear H
   go_enter Tryd.func51, Tryd.ntmps51
   go_upto_region 7 with (first | ((with_reducible refine gate_dst (N := 2) rfl ?_); refine yX (N := 2) (cs := #[.int .i64 a0_0, .string a0_1, .int .i64 a0_2, .int .i64 a0_3, .slice A0_4 l0_4.length c0_4]) (t := 24) ?_; intro gb289 hg w12 hbox hb; have BK289 := aM (hbox); have GW289 := yZ hg (yB HB); have GE289 := yZ hg (yB HB); replace HB := aM (bP (yB HB) hb); clear hb hbox hg; obtain ⟨hcz13_0, hcz13_1, hcz13_2, hcz13_3, hcz13_4, hfz13_0, hfz13_1, hfz13_2, hfz13_3, hfz13_4⟩ := cells5 BK289.out) | ((with_reducible refine gate_callee (f := 26) rfl ?_); refine yC 16 Tryd.func26 #[.agg #[.int .i64 a0_0, .string a0_1, .int .i64 a0_2, .int .i64 a0_3, .slice A0_4 l0_4.length c0_4]] rfl ?_; (with_reducible refine (schema_RightTable.calls k a0_0 a0_1 a0_2 a0_3 _ _ l0_4 true _ ?side1 ?side2 ?side3 A3.out).mono ?_); (case side1 => exact yW (Kd.C_below HR0_4.out HB.out)); (case side2 => exact HC0_4.out); (case side3 => first | (with_reducible exact HG.out) | exact Glob.below HG.out (yG1 HB GE289.out)); rintro e w14 ⟨rfl, hb⟩; refine ⟨_, rfl, ?_⟩; replace BK289 := aM (kB (yK BK289) hb); replace HB := aM (bP (yG1 HB GE289.out) hb); (try clear hb); obtain ⟨hcz15_0, hcz15_1, hcz15_2, hcz15_3, hcz15_4, hfz15_0, hfz15_1, hfz15_2, hfz15_3, hfz15_4⟩ := cells5 BK289.out) | ((with_reducible refine gate_callee (f := 60) rfl ?_); refine yC 21 Tryd.func60 #[.int .i64 (l0_4.length : Int)] rfl ?_; (with_reducible refine (rowcode_size.calls (l0_4.length : Int) t291 _ A5.out).mono ?_); rintro e w' ⟨rfl, ⟨nd, rfl⟩⟩; refine ⟨_, rfl, ?_⟩))
   (try simp only [Act.put, s1_, s2_, s3_])
   go_cut [40] (fun v40 wc => ∃ (kq : Nat) (x40_10 : Bool), v40 = .bool x40_10 ∧ Aside0 (rowcode_Decode.j0 kq a1 t291 x40_10 a0_0 a0_1 a0_2 a0_3 l0_4 = some (r1, r2)) ∧ Aside0 (kq ≤ k) ∧ Aside0 (wc.heap[gb289]? = some (.cells #[.int .i64 a0_0, .string a0_1, .int .i64 a0_2, .int .i64 a0_3, (.slice A0_4 l0_4.length c0_4)] 24 (0, 0))) ∧ Aside0 (Below w.heap.size w wc))
   case first =>
    have H := HC11.out
    clear HC11
    by_cases c16 : (Go.bits .and .i64 (l0_4.length : Int) 7) = 0
    ·
     rw [if_pos c16] at H
     have c16b0 : ((Go.bits .and .i64 (l0_4.length : Int) 7) == 0) = true := beq_iff_eq.mpr c16
     have c16b1 : ((Go.bits .and .i64 (l0_4.length : Int) 7) != 0) = false := bne_eq_false_iff_eq.mpr c16
     clear c16
     (first | rw [c16b0] | (simp only [i64_w, i32_w]; rw [c16b0]) | skip)
     have H' := aM H
     clear H
     go_wp2
     go_meet
     case rel => exact ⟨_, (false), yS, H', ⟨yO⟩, ⟨yK BK289⟩, ⟨yG1 HB GE289.out⟩⟩
    ·
     rw [if_neg c16] at H
     have c16b0 : ((Go.bits .and .i64 (l0_4.length : Int) 7) == 0) = false := beq_eq_false_iff_ne.mpr c16
     have c16b1 : ((Go.bits .and .i64 (l0_4.length : Int) 7) != 0) = true := bne_iff_ne.mpr c16
     (first | rw [c16b0] | (simp only [i64_w, i32_w]; rw [c16b0]) | skip)
     obtain ⟨ji17, hji17⟩ : ∃ j_ : Int, (wrap64 (t291 - 1)) = j_ := ⟨_, rfl⟩
     replace H : (if 0 ≤ (ji17) then (if (ji17) < (a1.size : Int) then (if 0 ≤ (Go.bits .and .i64 (l0_4.length : Int) 7) then (rowcode_Decode.j0 k a1 t291 ((shr .u8 (bt a1 (ji17)) (Go.bits .and .i64 (l0_4.length : Int) 7)) != 0) a0_0 a0_1 a0_2 a0_3 l0_4) else (none)) else (none)) else (none)) = some (r1, r2) := by first | (rw [hji17] at H; exact H) | (simp only [hji17] at H ⊢; exact H)
     have hji17w : (IntKind.i64.wrap (t291 - 1)) = ji17 := (i64_w _).trans hji17
     by_cases c18 : 0 ≤ (ji17)
     ·
      rw [if_pos c18] at H
      have c18b0 : decide (0 ≤ (ji17)) = true := decide_eq_true c18
      clear c18
      by_cases c19 : (ji17) < (a1.size : Int)
      ·
       rw [if_pos c19] at H
       have c19b0 : decide ((ji17) < (a1.size : Int)) = true := decide_eq_true c19
       clear c19
       by_cases c21 : 0 ≤ (Go.bits .and .i64 (l0_4.length : Int) 7)
       ·
        rw [if_pos c21] at H
        have c21b0 := eq_true c21
        have c21b1 : decide (0 ≤ (Go.bits .and .i64 (l0_4.length : Int) 7)) = true := decide_eq_true c21
        clear c21
        obtain ⟨ji22, hji22⟩ : ∃ j_ : Int, (shr .u8 (bt a1 (ji17)) (Go.bits .and .i64 (l0_4.length : Int) 7)) = j_ := ⟨_, rfl⟩
        replace H : (rowcode_Decode.j0 k a1 t291 ((ji22) != 0) a0_0 a0_1 a0_2 a0_3 l0_4) = some (r1, r2) := by first | (rw [hji22] at H; exact H) | (simp only [hji22] at H ⊢; exact H)
        have hji22_ : ((bt a1 (ji17)) / 2 ^ min (Go.bits .and .i64 (l0_4.length : Int) 7).toNat 8) = ji22 := hji22
        have hji22z : (Go.bits .and .i64 (l0_4.length : Int) 7) ≤ 8 → ((bt a1 (ji17)) / 2 ^ (Go.bits .and .i64 (l0_4.length : Int) 7).toNat) = ji22 := shr_small hji22
        have H' := aM H
        clear H
        have p20 : 0 ≤ ((ji17) : Int) := oD yA
        have q20 : (ji17) < (a1.size : Int) := oD yA
        have hx20 := bt_at a1 (ji17)
        replace p20 := eq_true p20
        replace q20 := eq_true q20
        go_wp2
        go_meet
        case rel => exact ⟨_, (((ji22) != 0)), (by first | rfl | (simp; done) | (simp only [← hji22] <;> (first | rfl | simp)) | (simp [*]; done)), H', ⟨yO⟩, ⟨yK BK289⟩, ⟨yG1 HB GE289.out⟩⟩
       ·
        rw [if_neg c21] at H
        exact absurd H (by simp)
      ·
       rw [if_neg c19] at H
       exact absurd H (by simp)
     ·
      rw [if_neg c18] at H
      exact absurd H (by simp)
   case rest =>
    clear HC11
    try clear c4
    try clear c6
    try clear c6b0
    try clear hcz13_0 hcz13_1 hcz13_2 hcz13_3 hcz13_4
    try clear hcz15_0 hcz15_1 hcz15_2 hcz15_3 hcz15_4
    try clear hfz13_0 hfz13_1 hfz13_2 hfz13_3 hfz13_4
    try clear hfz15_0 hfz15_1 hfz15_2 hfz15_3 hfz15_4
    obtain ⟨kq, x40_10, rfl, HA, HJ10, BK289, HB⟩ := hcut
    cases kq with
    | zero => exact absurd HA.out (by simp [rowcode_Decode.j0])
    | succ kj10 =>
     have H := HA.out
     clear HA
     simp only [rowcode_Decode.j0] at H
     by_cases c23 : x40_10 = true
     ·
      subst c23
      replace H := yt H
      simp only [Option.some.injEq, Prod.mk.injEq] at H
      obtain ⟨rfl, rfl⟩ := H
      go_wp2
      go_ret2
      exact ⟨_, yE, by first | exact Kd.R_nil _ _ _ _ _ | exact Kd.N_nil _ _ _ _ _ | exact Kd.V_nil _ _ _ _ _ | exact Kd.Q_nil _ _ _ _ _ | exact Kd.S_nil _ _ _ _ _, yG1 HB GE289.out⟩
     ·
      replace c23 := Bool.eq_false_iff.mpr c23
      subst c23
      replace H := yf H
      by_cases c24 : 0 ≤ t291
      ·
       rw [if_pos c24] at H
       have c24b0 := eq_true c24
       have c24b1 : decide (0 ≤ t291) = true := decide_eq_true c24
       clear c24
       by_cases c25 : t291 ≤ (a1.size : Int)
       ·
        rw [if_pos c25] at H
        have c25b0 := eq_true c25
        have c25b1 : decide (t291 ≤ (a1.size : Int)) = true := decide_eq_true c25
        clear c25
        by_cases c26 : 0 ≤ (l0_4.length : Int)
        ·
         rw [if_pos c26] at H
         have c26b0 := eq_true c26
         have c26b1 : decide (0 ≤ (l0_4.length : Int)) = true := decide_eq_true c26
         clear c26
         by_cases c27 : ((l0_4.length : Int) : Int).toNat ≤ 8796093022208
         ·
          rw [if_pos c27] at H
          have c27b0 := eq_true c27
          have c27b1 : decide (((l0_4.length : Int) : Int).toNat ≤ 8796093022208) = true := decide_eq_true c27
          clear c27
          obtain ⟨y293, hy293⟩ : ∃ y_ : List (S52), y_ = (List.replicate ((l0_4.length : Int) : Int).toNat z52) := ⟨_, rfl⟩
          replace H : (rowcode_Decode.l0 kj10 a1 y293 l0_4 (l0_4.length : Int) 0 (a1.extract (t291 : Int).toNat a1.size)) = some (r1, r2) := by first | (rw [hy293]; with_reducible exact H) | (have H2_ := (Option.bind_some _ _).symm.trans H; rw [hy293]; with_reducible exact H2_) | (have H2_ := (Option.bind_some _ _).symm.trans H; with_reducible exact H2_) | with_reducible exact H | (rw [hy293]; exact H) | exact H
          have Ny293 := aM hy293
          clear hy293
          have H' := aM H
          clear H
          go_wp2_with (first | ((with_reducible refine gate_dst (N := 45) rfl ?_); refine yX (N := 45) (cs := #[.string (a1.extract (t291 : Int).toNat a1.size)]) (t := 112) ?_; intro gb292 hg w28 hbox hb; have HI292 := aM ((show IsS112 w w28 gb292 (a1.extract (t291 : Int).toNat a1.size) from ⟨hbox, by rw [hg]; exact (bZ (yG1 HB GE289.out))⟩)); have GW292 := yZ hg (yG1 HB GE289.out); have GE292 := yZ hg (yG1 HB GE289.out); replace HB := aM (bP (yG1 HB GE289.out) hb); have NB289_292 := yN hg (yK BK289); have NB292_289 := yM hg (yK BK289); replace BK289 := aM (kB (yK BK289) hb); clear hb hbox hg; have hnb29 := NB289_292.out; have hnc29 := NB292_289.out; obtain ⟨hcz30_0, hcz30_1, hcz30_2, hcz30_3, hcz30_4, hfz30_0, hfz30_1, hfz30_2, hfz30_3, hfz30_4⟩ := cells5 BK289.out) | ((with_reducible refine gate_dst (N := 49) rfl ?_); refine Kd.R_make k52 _ 52 rfl (N := 49) rfl 25 _ _ rfl (l0_4.length : Int) rfl rfl Tryd.underlying25 (.agg #[(.int .i64 0), (.int .i64 0), (.string ⟨#[]⟩)]) 32 info52 rfl (by decide) (by omega) z52 (ok := fun _ => True) (okp := fun _ => True) (k52_mkM _ _ _ z52 ) (fun _ hk => hk) trivial (oD yA) (Nat.le_trans (Nat.mul_le_mul_right _ (oD yA : (l0_4.length : Int).toNat ≤ 8796093022208)) (by omega)) (Below.refl _ _) (Nat.le_refl _) ?_; intro v294 w31 ho32 hb hg_ hnew_; clear hg_ hnew_; (first | rw [← Ny293.out] at ho32 | (simp only [Int.reduceToNat] at ho32; rw [← Ny293.out] at ho32)); have HO295 := aM (Kd.R_lower ho32 (bZ (yG2 HB (IsS112.ge HI292.out) GE289.out))); replace BK289 := aM (kB (yK BK289) hb); replace HB := aM (bP (yG2 HB (IsS112.ge HI292.out) GE289.out) hb); replace HI292 := aM (IsS112.below (by repeat (first | (with_reducible first | exact HI292.out | apply IsS112.alloc | apply IsS112.drewN | apply IsS112.drew | apply IsS112.set_0 | apply IsS112.far (hne := NB292_289.out)) | exact HI292.out)) hb); clear hb ho32; obtain ⟨hcz33_0, hcz33_1, hcz33_2, hcz33_3, hcz33_4, hfz33_0, hfz33_1, hfz33_2, hfz33_3, hfz33_4⟩ := cells5 BK289.out))
          go_loopg [53] kj10 (fun kq v53 w' => ∃ (x9_2 : List (S52)) (x53_2 : Int) (x293000_2 : ByteArray), v53 = .int .i64 x53_2 ∧ Aside0 (rowcode_Decode.l0 kq a1 x9_2 l0_4 (l0_4.length : Int) x53_2 x293000_2 = some (r1, r2)) ∧ Aside0 (kq ≤ kj10) ∧ Aside0 (Kd.R k52 52 w' w.heap.size (fun _ => True) v294 x9_2) ∧ Aside0 (w'.heap[gb289]? = some (.cells #[.int .i64 a0_0, .string a0_1, .int .i64 a0_2, .int .i64 a0_3, (.slice A0_4 l0_4.length c0_4)] 24 (0, 0))) ∧ Aside0 (IsS112 w w' gb292 x293000_2) ∧ Aside0 (Below w.heap.size w w'))
          case atStart => exact ⟨(y293), (0), (a1.extract (t291 : Int).toNat a1.size), yS, H', ⟨Nat.le_refl _⟩, ⟨yR HO295.out⟩, ⟨yK BK289⟩, ⟨by repeat (first | (with_reducible first | exact HI292.out | apply IsS112.alloc | apply IsS112.drewN | apply IsS112.drew | apply IsS112.set_0 | apply IsS112.far (hne := NB292_289.out)) | exact HI292.out)⟩, ⟨yG2 HB (IsS112.ge HI292.out) GE289.out⟩⟩
          case round =>
           clear H'
           try clear c4
           try clear c6
           try clear c6b0
           try clear c23
           try clear c24
           try clear c24b0
           try clear c24b1
           try clear c25
           try clear c25b0
           try clear c25b1
           try clear c26
           try clear c26b0
           try clear c26b1
           try clear c27
           try clear c27b0
           try clear c27b1
           try clear hcz13_0 hcz13_1 hcz13_2 hcz13_3 hcz13_4
           try clear hcz15_0 hcz15_1 hcz15_2 hcz15_3 hcz15_4
           try clear hcz30_0 hcz30_1 hcz30_2 hcz30_3 hcz30_4
           try clear hcz33_0 hcz33_1 hcz33_2 hcz33_3 hcz33_4
           try clear hfz13_0 hfz13_1 hfz13_2 hfz13_3 hfz13_4
           try clear hfz15_0 hfz15_1 hfz15_2 hfz15_3 hfz15_4
           try clear hfz30_0 hfz30_1 hfz30_2 hfz30_3 hfz30_4
           try clear hfz33_0 hfz33_1 hfz33_2 hfz33_3 hfz33_4
           obtain ⟨x9_2, x53_2, x293000_2, rfl, HA, HK2, HO_9, BK289, HI292, HB⟩ := hrel
           cases gk with
           | zero => exact absurd HA.out (by simp [rowcode_Decode.l0])
           | succ k2 =>
            have H := HA.out
            clear HA
            simp only [rowcode_Decode.l0] at H
            by_cases c34 : x53_2 < (l0_4.length : Int)
            ·
             rw [if_pos c34] at H
             have c34b0 : decide (x53_2 < (l0_4.length : Int)) = true := decide_eq_true c34
             clear c34
             by_cases c35 : 0 ≤ x53_2
             ·
              rw [if_pos c35] at H
              have c35b0 : decide (0 ≤ x53_2) = true := decide_eq_true c35
              clear c35
              by_cases c36 : x53_2 < (l0_4.length : Int)
              ·
               rw [if_pos c36] at H
               have c36b0 : decide (x53_2 < (l0_4.length : Int)) = true := decide_eq_true c36
               clear c36
               obtain ⟨ji37, hji37⟩ : ∃ j_ : Int, (x53_2 / 8) = j_ := ⟨_, rfl⟩
               replace H : (if 0 ≤ (ji37) then (if (ji37) < (a1.size : Int) then (if 0 ≤ (Go.bits .and .i64 x53_2 7) then (if (Go.bits .and .u8 (shr .u8 (bt a1 (ji37)) (Go.bits .and .i64 x53_2 7)) 1) = 1 then (if ((rd_T54 l0_4 x53_2).f3 = true) then (rowcode_Decode.l0 k2 a1 x9_2 l0_4 (l0_4.length : Int) (wrap64 (x53_2 + 1)) x293000_2) else (some (([] : List (S52)), 11))) else ((rowcode_reader_value.f k2 x293000_2 ((rd_T54 l0_4 x53_2).f2.f0) ((rd_T54 l0_4 x53_2).f2.f1)).bind fun bt298 => (if bt298.2.2.2.1 = 0 then (if x53_2 < (x9_2.length : Int) then (rowcode_Decode.l0 k2 a1 (x9_2.set (x53_2 : Int).toNat (⟨bt298.1, bt298.2.1, bt298.2.2.1⟩ : S52)) l0_4 (l0_4.length : Int) (wrap64 (x53_2 + 1)) bt298.2.2.2.2) else (none)) else (some (([] : List (S52)), bt298.2.2.2.1))))) else (none)) else (none)) else (none)) = some (r1, r2) := by first | (rw [hji37] at H; exact H) | (simp only [hji37] at H ⊢; exact H)
               by_cases c38 : 0 ≤ (ji37)
               ·
                rw [if_pos c38] at H
                have c38b0 : decide (0 ≤ (ji37)) = true := decide_eq_true c38
                clear c38
                by_cases c39 : (ji37) < (a1.size : Int)
                ·
                 rw [if_pos c39] at H
                 have c39b0 : decide ((ji37) < (a1.size : Int)) = true := decide_eq_true c39
                 clear c39
                 by_cases c41 : 0 ≤ (Go.bits .and .i64 x53_2 7)
                 ·
                  rw [if_pos c41] at H
                  have c41b0 := eq_true c41
                  have c41b1 : decide (0 ≤ (Go.bits .and .i64 x53_2 7)) = true := decide_eq_true c41
                  clear c41
                  obtain ⟨ji42, hji42⟩ : ∃ j_ : Int, (shr .u8 (bt a1 (ji37)) (Go.bits .and .i64 x53_2 7)) = j_ := ⟨_, rfl⟩
                  replace H : (if (Go.bits .and .u8 (ji42) 1) = 1 then (if ((rd_T54 l0_4 x53_2).f3 = true) then (rowcode_Decode.l0 k2 a1 x9_2 l0_4 (l0_4.length : Int) (wrap64 (x53_2 + 1)) x293000_2) else (some (([] : List (S52)), 11))) else ((rowcode_reader_value.f k2 x293000_2 ((rd_T54 l0_4 x53_2).f2.f0) ((rd_T54 l0_4 x53_2).f2.f1)).bind fun bt298 => (if bt298.2.2.2.1 = 0 then (if x53_2 < (x9_2.length : Int) then (rowcode_Decode.l0 k2 a1 (x9_2.set (x53_2 : Int).toNat (⟨bt298.1, bt298.2.1, bt298.2.2.1⟩ : S52)) l0_4 (l0_4.length : Int) (wrap64 (x53_2 + 1)) bt298.2.2.2.2) else (none)) else (some (([] : List (S52)), bt298.2.2.2.1))))) = some (r1, r2) := by first | (rw [hji42] at H; exact H) | (simp only [hji42] at H ⊢; exact H)
                  have hji42_ : ((bt a1 (ji37)) / 2 ^ min (Go.bits .and .i64 x53_2 7).toNat 8) = ji42 := hji42
                  have hji42z : (Go.bits .and .i64 x53_2 7) ≤ 8 → ((bt a1 (ji37)) / 2 ^ (Go.bits .and .i64 x53_2 7).toNat) = ji42 := shr_small hji42
                  by_cases c43 : (Go.bits .and .u8 (ji42) 1) = 1
                  ·
                   rw [if_pos c43] at H
                   have c43b0 : ((Go.bits .and .u8 (ji42) 1) == 1) = true := beq_iff_eq.mpr c43
                   have c43b1 : ((Go.bits .and .u8 (ji42) 1) != 1) = false := bne_eq_false_iff_eq.mpr c43
                   clear c43
                   obtain ⟨bq44, hbq44⟩ : ∃ b_ : Bool, b_ = ((rd_T54 l0_4 x53_2).f3) := ⟨_, rfl⟩
                   replace H : (if (bq44 = true) then (rowcode_Decode.l0 k2 a1 x9_2 l0_4 (l0_4.length : Int) (wrap64 (x53_2 + 1)) x293000_2) else (some (([] : List (S52)), 11))) = some (r1, r2) := by rw [← hbq44] at H; exact H
                   have Nbq44 := aM hbq44
                   clear hbq44
                   by_cases c45 : (bq44 = true)
                   ·
                    subst c45
                    replace H := yt H
                    have H' := aM H
                    clear H
                    have p296 : 0 ≤ (x53_2 : Int) := oD yA
                    have q296 : x53_2 < (l0_4.length : Int) := oD yA
                    obtain ⟨ad296, e296, hx296_0, hx296_1, hx296_2, hx296_3, hx296_4, hx296_5, hx296_6, hx296_7⟩ := at_T54 HR0_4.out x53_2 p296 q296
                    (try rw [← Nbq44.out] at hx296_4)
                    cases e296
                    replace hx296_0 := pw_cell_below HB.out hx296_0
                    replace hx296_1 := pw_cell_below HB.out hx296_1
                    replace hx296_2 := pw_cell_below HB.out hx296_2
                    replace hx296_3 := pw_cell_below HB.out hx296_3
                    replace hx296_4 := pw_cell_below HB.out hx296_4
                    replace hx296_5 := pw_cell_below HB.out hx296_5
                    replace hx296_6 := pw_cell_below HB.out hx296_6
                    replace hx296_7 := pw_cell_below HB.out hx296_7
                    replace p296 := eq_true p296
                    replace q296 := eq_true q296
                    go_wp2_with (first | ((with_reducible refine gate_dst (N := 11) rfl ?_); refine yX (N := 11) (cs := #[.int .i64 0, .string (⟨#[]⟩ : ByteArray), .int .i64 0, .int .i64 0, .bool false, .int .i64 0, .int .i64 0, .string (⟨#[]⟩ : ByteArray)]) (t := 54) ?_; intro gb297 hg w46 hbox hb; replace HO_9 := aM (Kd.R_below (yR HO_9.out) hb); have BK297 := aM (hbox); have GW297 := yZ hg (yG2 HB (IsS112.ge HI292.out) GE289.out); have GE297 := yZ hg (yG2 HB (IsS112.ge HI292.out) GE289.out); replace HB := aM (bP (yG2 HB (IsS112.ge HI292.out) GE289.out) hb); have NB289_297 := yN hg (yK BK289); have NB297_289 := yM hg (yK BK289); replace BK289 := aM (kB (yK BK289) hb); have NB292_297 := aM ((by rw [hg]; exact Nat.ne_of_lt (IsS112.lt (show IsS112 w _ gb292 x293000_2 from by repeat (first | (with_reducible first | exact HI292.out | apply IsS112.alloc | apply IsS112.drewN | apply IsS112.drew | apply IsS112.set_0 | apply IsS112.far (hne := NB292_289.out)) | exact HI292.out))) : gb292 ≠ gb297)); have NB297_292 := aM ((by rw [hg]; exact Nat.ne_of_gt (IsS112.lt (show IsS112 w _ gb292 x293000_2 from by repeat (first | (with_reducible first | exact HI292.out | apply IsS112.alloc | apply IsS112.drewN | apply IsS112.drew | apply IsS112.set_0 | apply IsS112.far (hne := NB292_289.out)) | exact HI292.out))) : gb297 ≠ gb292)); replace HI292 := aM (IsS112.below (by repeat (first | (with_reducible first | exact HI292.out | apply IsS112.alloc | apply IsS112.drewN | apply IsS112.drew | apply IsS112.set_0 | apply IsS112.far (hne := NB292_289.out)) | exact HI292.out)) hb); clear hb hbox hg; have hnb47 := NB297_289.out; have hnc47 := NB289_297.out; have hnb48 := NB297_292.out; have hnc48 := NB292_297.out; obtain ⟨hcz49_0, hcz49_1, hcz49_2, hcz49_3, hcz49_4, hcz49_5, hcz49_6, hcz49_7, hfz49_0, hfz49_1, hfz49_2, hfz49_3, hfz49_4, hfz49_5, hfz49_6, hfz49_7⟩ := cells8 BK297.out; have p40 : 0 ≤ ((ji37) : Int) := oD yA; have q40 : (ji37) < (a1.size : Int) := oD yA; have hx40 := bt_at a1 (ji37); replace p40 := eq_true p40; replace q40 := eq_true q40))
                    go_roundg k2
                    case measure => have := HJ10.out; have := HK2.out; omega
                    case rel => exact ⟨(x9_2), (wrap64 (x53_2 + 1)), (x293000_2), yS, H', ⟨by have := HJ10.out; have := HK2.out; omega⟩, ⟨by (with_reducible repeat (first | apply Kd.R_alloc | apply Kd.R_drewN | apply Kd.R_drew)); exact Kd.R_mono (Kd.R_far (p := ⟨gb297, 7, none⟩) (Kd.R_far (p := ⟨gb297, 6, none⟩) (Kd.R_far (p := ⟨gb297, 5, none⟩) (Kd.R_far (p := ⟨gb297, 4, none⟩) (Kd.R_far (p := ⟨gb297, 3, none⟩) (Kd.R_far (p := ⟨gb297, 2, none⟩) (Kd.R_far (p := ⟨gb297, 1, none⟩) (Kd.R_far (p := ⟨gb297, 0, none⟩) (Kd.R_types HO_9.out BK297.out (by decide)) (fun _ hk => hk.2) (.int .i64 ((rd_T54 l0_4 x53_2).f0))) (fun _ hk => hk.2) (.string ((rd_T54 l0_4 x53_2).f1))) (fun _ hk => hk.2) (.int .i64 ((rd_T54 l0_4 x53_2).f2.f0))) (fun _ hk => hk.2) (.int .i64 ((rd_T54 l0_4 x53_2).f2.f1))) (fun _ hk => hk.2) (.bool true)) (fun _ hk => hk.2) (.int .i64 ((rd_T54 l0_4 x53_2).f4.f0))) (fun _ hk => hk.2) (.int .i64 ((rd_T54 l0_4 x53_2).f4.f1))) (fun _ hk => hk.2) (.string ((rd_T54 l0_4 x53_2).f4.f2))) (fun _ hk => trivial)⟩, ⟨yF1 BK289 NB289_297.out⟩, ⟨by repeat (first | (with_reducible first | exact HI292.out | apply IsS112.alloc | apply IsS112.drewN | apply IsS112.drew | apply IsS112.set_0 | apply IsS112.far (hne := NB292_289.out) | apply IsS112.far (hne := NB292_297.out)) | exact HI292.out)⟩, ⟨yG3 HB (IsS112.ge HI292.out) GE289.out GE297.out⟩⟩
                   ·
                    replace c45 := Bool.eq_false_iff.mpr c45
                    subst c45
                    replace H := yf H
                    simp only [Option.some.injEq, Prod.mk.injEq] at H
                    obtain ⟨rfl, rfl⟩ := H
                    have p296 : 0 ≤ (x53_2 : Int) := oD yA
                    have q296 : x53_2 < (l0_4.length : Int) := oD yA
                    obtain ⟨ad296, e296, hx296_0, hx296_1, hx296_2, hx296_3, hx296_4, hx296_5, hx296_6, hx296_7⟩ := at_T54 HR0_4.out x53_2 p296 q296
                    (try rw [← Nbq44.out] at hx296_4)
                    cases e296
                    replace hx296_0 := pw_cell_below HB.out hx296_0
                    replace hx296_1 := pw_cell_below HB.out hx296_1
                    replace hx296_2 := pw_cell_below HB.out hx296_2
                    replace hx296_3 := pw_cell_below HB.out hx296_3
                    replace hx296_4 := pw_cell_below HB.out hx296_4
                    replace hx296_5 := pw_cell_below HB.out hx296_5
                    replace hx296_6 := pw_cell_below HB.out hx296_6
                    replace hx296_7 := pw_cell_below HB.out hx296_7
                    replace p296 := eq_true p296
                    replace q296 := eq_true q296
                    go_wp2_with (first | ((with_reducible refine gate_dst (N := 11) rfl ?_); refine yX (N := 11) (cs := #[.int .i64 0, .string (⟨#[]⟩ : ByteArray), .int .i64 0, .int .i64 0, .bool false, .int .i64 0, .int .i64 0, .string (⟨#[]⟩ : ByteArray)]) (t := 54) ?_; intro gb297 hg w50 hbox hb; replace HO_9 := aM (Kd.R_below (yR HO_9.out) hb); have BK297 := aM (hbox); have GW297 := yZ hg (yG2 HB (IsS112.ge HI292.out) GE289.out); have GE297 := yZ hg (yG2 HB (IsS112.ge HI292.out) GE289.out); replace HB := aM (bP (yG2 HB (IsS112.ge HI292.out) GE289.out) hb); have NB289_297 := yN hg (yK BK289); have NB297_289 := yM hg (yK BK289); replace BK289 := aM (kB (yK BK289) hb); have NB292_297 := aM ((by rw [hg]; exact Nat.ne_of_lt (IsS112.lt (show IsS112 w _ gb292 x293000_2 from by repeat (first | (with_reducible first | exact HI292.out | apply IsS112.alloc | apply IsS112.drewN | apply IsS112.drew | apply IsS112.set_0 | apply IsS112.far (hne := NB292_289.out)) | exact HI292.out))) : gb292 ≠ gb297)); have NB297_292 := aM ((by rw [hg]; exact Nat.ne_of_gt (IsS112.lt (show IsS112 w _ gb292 x293000_2 from by repeat (first | (with_reducible first | exact HI292.out | apply IsS112.alloc | apply IsS112.drewN | apply IsS112.drew | apply IsS112.set_0 | apply IsS112.far (hne := NB292_289.out)) | exact HI292.out))) : gb297 ≠ gb292)); replace HI292 := aM (IsS112.below (by repeat (first | (with_reducible first | exact HI292.out | apply IsS112.alloc | apply IsS112.drewN | apply IsS112.drew | apply IsS112.set_0 | apply IsS112.far (hne := NB292_289.out)) | exact HI292.out)) hb); clear hb hbox hg; have hnb51 := NB297_289.out; have hnc51 := NB289_297.out; have hnb52 := NB297_292.out; have hnc52 := NB292_297.out; obtain ⟨hcz53_0, hcz53_1, hcz53_2, hcz53_3, hcz53_4, hcz53_5, hcz53_6, hcz53_7, hfz53_0, hfz53_1, hfz53_2, hfz53_3, hfz53_4, hfz53_5, hfz53_6, hfz53_7⟩ := cells8 BK297.out; have p40 : 0 ≤ ((ji37) : Int) := oD yA; have q40 : (ji37) < (a1.size : Int) := oD yA; have hx40 := bt_at a1 (ji37); replace p40 := eq_true p40; replace q40 := eq_true q40))
                    go_ret2
                    exact ⟨_, by first | rfl | (simp [errW_none, errW_some] <;> rfl) | (simp only [← hji37, ← hji42]; first | rfl | (simp [errW_none, errW_some] <;> rfl)) | (simp [*, errW_none, errW_some] <;> rfl), by first | exact Kd.R_nil _ _ _ _ _ | exact Kd.N_nil _ _ _ _ _ | exact Kd.V_nil _ _ _ _ _ | exact Kd.Q_nil _ _ _ _ _ | exact Kd.S_nil _ _ _ _ _, yG3 HB (IsS112.ge HI292.out) GE289.out GE297.out⟩
                  ·
                   rw [if_neg c43] at H
                   have c43b0 : ((Go.bits .and .u8 (ji42) 1) == 1) = false := beq_eq_false_iff_ne.mpr c43
                   have c43b1 : ((Go.bits .and .u8 (ji42) 1) != 1) = true := bne_iff_ne.mpr c43
                   obtain ⟨⟨t298, t299, t300, t301, t302⟩, A54, H⟩ := yb H
                   try dsimp -simprocs only at H
                   by_cases c55 : t301 = 0
                   ·
                    rw [if_pos c55] at H
                    have c55b0 : (t301 == 0) = true := beq_iff_eq.mpr c55
                    have c55b1 : (t301 != 0) = false := bne_eq_false_iff_eq.mpr c55
                    clear c55
                    by_cases c56 : x53_2 < (x9_2.length : Int)
                    ·
                     rw [if_pos c56] at H
                     have c56b0 : decide (x53_2 < (x9_2.length : Int)) = true := decide_eq_true c56
                     clear c56
                     obtain ⟨y304, hy304⟩ : ∃ y_ : List (S52), y_ = (x9_2.set (x53_2 : Int).toNat (⟨t298, t299, t300⟩ : S52)) := ⟨_, rfl⟩
                     replace H : (rowcode_Decode.l0 k2 a1 y304 l0_4 (l0_4.length : Int) (wrap64 (x53_2 + 1)) t302) = some (r1, r2) := by first | (rw [hy304]; with_reducible exact H) | (have H2_ := (Option.bind_some _ _).symm.trans H; rw [hy304]; with_reducible exact H2_) | (have H2_ := (Option.bind_some _ _).symm.trans H; with_reducible exact H2_) | with_reducible exact H | (rw [hy304]; exact H) | exact H
                     have Ny304 := aM hy304
                     clear hy304
                     have H' := aM H
                     clear H
                     have p296 : 0 ≤ (x53_2 : Int) := oD yA
                     have q296 : x53_2 < (l0_4.length : Int) := oD yA
                     obtain ⟨ad296, e296, hx296_0, hx296_1, hx296_2, hx296_3, hx296_4, hx296_5, hx296_6, hx296_7⟩ := at_T54 HR0_4.out x53_2 p296 q296
                     cases e296
                     replace hx296_0 := pw_cell_below HB.out hx296_0
                     replace hx296_1 := pw_cell_below HB.out hx296_1
                     replace hx296_2 := pw_cell_below HB.out hx296_2
                     replace hx296_3 := pw_cell_below HB.out hx296_3
                     replace hx296_4 := pw_cell_below HB.out hx296_4
                     replace hx296_5 := pw_cell_below HB.out hx296_5
                     replace hx296_6 := pw_cell_below HB.out hx296_6
                     replace hx296_7 := pw_cell_below HB.out hx296_7
                     replace p296 := eq_true p296
                     replace q296 := eq_true q296
                     go_wp2_with (first | ((with_reducible refine gate_dst (N := 11) rfl ?_); refine yX (N := 11) (cs := #[.int .i64 0, .string (⟨#[]⟩ : ByteArray), .int .i64 0, .int .i64 0, .bool false, .int .i64 0, .int .i64 0, .string (⟨#[]⟩ : ByteArray)]) (t := 54) ?_; intro gb297 hg w58 hbox hb; replace HO_9 := aM (Kd.R_below (yR HO_9.out) hb); have BK297 := aM (hbox); have GW297 := yZ hg (yG2 HB (IsS112.ge HI292.out) GE289.out); have GE297 := yZ hg (yG2 HB (IsS112.ge HI292.out) GE289.out); replace HB := aM (bP (yG2 HB (IsS112.ge HI292.out) GE289.out) hb); have NB289_297 := yN hg (yK BK289); have NB297_289 := yM hg (yK BK289); replace BK289 := aM (kB (yK BK289) hb); have NB292_297 := aM ((by rw [hg]; exact Nat.ne_of_lt (IsS112.lt (show IsS112 w _ gb292 x293000_2 from by repeat (first | (with_reducible first | exact HI292.out | apply IsS112.alloc | apply IsS112.drewN | apply IsS112.drew | apply IsS112.set_0 | apply IsS112.far (hne := NB292_289.out)) | exact HI292.out))) : gb292 ≠ gb297)); have NB297_292 := aM ((by rw [hg]; exact Nat.ne_of_gt (IsS112.lt (show IsS112 w _ gb292 x293000_2 from by repeat (first | (with_reducible first | exact HI292.out | apply IsS112.alloc | apply IsS112.drewN | apply IsS112.drew | apply IsS112.set_0 | apply IsS112.far (hne := NB292_289.out)) | exact HI292.out))) : gb297 ≠ gb292)); replace HI292 := aM (IsS112.below (by repeat (first | (with_reducible first | exact HI292.out | apply IsS112.alloc | apply IsS112.drewN | apply IsS112.drew | apply IsS112.set_0 | apply IsS112.far (hne := NB292_289.out)) | exact HI292.out)) hb); clear hb hbox hg; have hnb59 := NB297_289.out; have hnc59 := NB289_297.out; have hnb60 := NB297_292.out; have hnc60 := NB292_297.out; obtain ⟨hcz61_0, hcz61_1, hcz61_2, hcz61_3, hcz61_4, hcz61_5, hcz61_6, hcz61_7, hfz61_0, hfz61_1, hfz61_2, hfz61_3, hfz61_4, hfz61_5, hfz61_6, hfz61_7⟩ := cells8 BK297.out; have p40 : 0 ≤ ((ji37) : Int) := oD yA; have q40 : (ji37) < (a1.size : Int) := oD yA; have hx40 := bt_at a1 (ji37); replace p40 := eq_true p40; replace q40 := eq_true q40) | ((with_reducible refine gate_callee (f := 84) rfl ?_); refine yC 74 Tryd.func84 #[.pointer (some ⟨gb292, 0, none⟩), .agg #[.int .i64 ((rd_T54 l0_4 x53_2).f2.f0), .int .i64 ((rd_T54 l0_4 x53_2).f2.f1)]] rfl ?_; (with_reducible refine (rowcode_reader_value.calls k2 gb292 x293000_2 ((rd_T54 l0_4 x53_2).f2.f0) ((rd_T54 l0_4 x53_2).f2.f1) t298 t299 t300 t301 t302 w _ ?side1 ?side2 ?side3 A54.out).mono ?_); (case side1 => repeat (first | (with_reducible first | exact HI292.out | apply IsS112.alloc | apply IsS112.drewN | apply IsS112.drew | apply IsS112.set_0 | apply IsS112.far (hne := NB292_289.out) | apply IsS112.far (hne := NB292_297.out)) | exact HI292.out)); (case side2 => exact yG3 HB (IsS112.ge HI292.out) GE289.out GE297.out); (case side3 => first | (with_reducible exact HG.out) | exact Glob.below HG.out (yG3 HB (IsS112.ge HI292.out) GE289.out GE297.out)); rintro e w62 ⟨rfl, hi, hb, hk⟩; refine ⟨_, rfl, ?_⟩; replace HO_9 := aM (Kd.R_mono (Kd.R_keep (IsS112.apart (show IsS112 w _ gb292 x293000_2 from by repeat (first | (with_reducible first | exact HI292.out | apply IsS112.alloc | apply IsS112.drewN | apply IsS112.drew | apply IsS112.set_0 | apply IsS112.far (hne := NB292_289.out) | apply IsS112.far (hne := NB292_297.out)) | exact HI292.out)) (by (with_reducible repeat (first | apply Kd.R_alloc | apply Kd.R_drewN | apply Kd.R_drew)); exact (Kd.R_mono (Kd.R_far (p := ⟨gb297, 7, none⟩) (Kd.R_far (p := ⟨gb297, 6, none⟩) (Kd.R_far (p := ⟨gb297, 5, none⟩) (Kd.R_far (p := ⟨gb297, 4, none⟩) (Kd.R_far (p := ⟨gb297, 3, none⟩) (Kd.R_far (p := ⟨gb297, 2, none⟩) (Kd.R_far (p := ⟨gb297, 1, none⟩) (Kd.R_far (p := ⟨gb297, 0, none⟩) (Kd.R_types HO_9.out BK297.out (by decide)) (fun _ hk => hk.2) (.int .i64 ((rd_T54 l0_4 x53_2).f0))) (fun _ hk => hk.2) (.string ((rd_T54 l0_4 x53_2).f1))) (fun _ hk => hk.2) (.int .i64 ((rd_T54 l0_4 x53_2).f2.f0))) (fun _ hk => hk.2) (.int .i64 ((rd_T54 l0_4 x53_2).f2.f1))) (fun _ hk => hk.2) (.bool ((rd_T54 l0_4 x53_2).f3))) (fun _ hk => hk.2) (.int .i64 ((rd_T54 l0_4 x53_2).f4.f0))) (fun _ hk => hk.2) (.int .i64 ((rd_T54 l0_4 x53_2).f4.f1))) (fun _ hk => hk.2) (.string ((rd_T54 l0_4 x53_2).f4.f2))) (fun _ h_ => h_.1))) (by decide)) hk (fun _ h => h.2)) (fun _ h => h.1)); replace BK289 := aM (KeepBut.blk hk (g' := gb289) (o := .cells #[.int .i64 a0_0, .string a0_1, .int .i64 a0_2, .int .i64 a0_3, .slice (some ad296) l0_4.length c0_4] 24 (0, 0)) (yF1 BK289 NB289_297.out) NB289_292.out (by simp)); replace BK297 := aM (KeepBut.blk hk (g' := gb297) (o := .cells #[.int .i64 ((rd_T54 l0_4 x53_2).f0), .string ((rd_T54 l0_4 x53_2).f1), .int .i64 ((rd_T54 l0_4 x53_2).f2.f0), .int .i64 ((rd_T54 l0_4 x53_2).f2.f1), .bool ((rd_T54 l0_4 x53_2).f3), .int .i64 ((rd_T54 l0_4 x53_2).f4.f0), .int .i64 ((rd_T54 l0_4 x53_2).f4.f1), .string ((rd_T54 l0_4 x53_2).f4.f2)] 54 (0, 0)) (puts8 BK297.out) NB297_292.out (by simp)); replace HB := aM (hb); replace HI292 := aM (hi); (try clear hb); (try clear hk); (try clear hi)) | ((with_reducible refine gate_dst (N := 12) rfl ?_); refine yX (N := 12) (cs := #[.int .i64 0, .int .i64 0, .string (⟨#[]⟩ : ByteArray)]) (t := 52) ?_; intro gb303 hg w63 hbox hb; replace HO_9 := aM (Kd.R_below (Kd.R_elderB (yR HO_9.out) gb303 (Nat.le_of_eq hg.symm)) hb); have BK303 := aM (hbox); have GW303 := yZ hg (yG3 HB (IsS112.ge HI292.out) GE289.out GE297.out); have GE303 := yZ hg (yG3 HB (IsS112.ge HI292.out) GE289.out GE297.out); replace HB := aM (bP (yG3 HB (IsS112.ge HI292.out) GE289.out GE297.out) hb); have NB289_303 := yN hg (yK BK289); have NB303_289 := yM hg (yK BK289); replace BK289 := aM (kB (yK BK289) hb); have NB297_303 := yN hg (yK BK297); have NB303_297 := yM hg (yK BK297); replace BK297 := aM (kB (yK BK297) hb); have NB292_303 := aM ((by rw [hg]; exact Nat.ne_of_lt (IsS112.lt (show IsS112 w _ gb292 t302 from by repeat (first | (with_reducible first | exact HI292.out | apply IsS112.alloc | apply IsS112.drewN | apply IsS112.drew | apply IsS112.set_0 | apply IsS112.far (hne := NB292_289.out) | apply IsS112.far (hne := NB292_297.out)) | exact HI292.out))) : gb292 ≠ gb303)); have NB303_292 := aM ((by rw [hg]; exact Nat.ne_of_gt (IsS112.lt (show IsS112 w _ gb292 t302 from by repeat (first | (with_reducible first | exact HI292.out | apply IsS112.alloc | apply IsS112.drewN | apply IsS112.drew | apply IsS112.set_0 | apply IsS112.far (hne := NB292_289.out) | apply IsS112.far (hne := NB292_297.out)) | exact HI292.out))) : gb303 ≠ gb292)); replace HI292 := aM (IsS112.below (by repeat (first | (with_reducible first | exact HI292.out | apply IsS112.alloc | apply IsS112.drewN | apply IsS112.drew | apply IsS112.set_0 | apply IsS112.far (hne := NB292_289.out) | apply IsS112.far (hne := NB292_297.out)) | exact HI292.out)) hb); clear hb hbox hg; have hnb64 := NB303_289.out; have hnc64 := NB289_303.out; have hnb65 := NB303_297.out; have hnc65 := NB297_303.out; have hnb66 := NB303_292.out; have hnc66 := NB292_303.out; obtain ⟨hcz67_0, hcz67_1, hcz67_2, hfz67_0, hfz67_1, hfz67_2⟩ := cells3 BK303.out) | ((with_reducible refine gate_store (t := 52) (p := 12) rfl ?_); refine store_event (t := 52) (p := 12) (v := ?vo_w68) (w1 := (((w63.setCell ⟨gb303, 0, none⟩ (.int .i64 t298)).setCell ⟨gb303, 1, none⟩ (.int .i64 t299)).setCell ⟨gb303, 2, none⟩ (.string t300))) ?hg ?ho ?hn ?hr ?_; (case ho => rfl); (case hg => rfl); (case hn => rfl); (case hr => first | (go_simp; done) | (go_simp; rfl)); intro w68 hw; have n0_ : Aside0 (Kd.R k52 52 w68 w.heap.size (fun k_ => k_ ≠ gb303) v294 x9_2) := ⟨(by rw [hw]; exact (by (with_reducible repeat (first | apply Kd.R_alloc | apply Kd.R_drewN | apply Kd.R_drew)); exact Kd.R_mono (Kd.R_far (p := ⟨gb303, 2, none⟩) (Kd.R_far (p := ⟨gb303, 1, none⟩) (Kd.R_far (p := ⟨gb303, 0, none⟩) (Kd.R_mono HO_9.out (fun k_ hk => (⟨hk, hk.2⟩ : _ ∧ k_ ≠ gb303))) (fun _ hk => hk.2) (.int .i64 t298)) (fun _ hk => hk.2) (.int .i64 t299)) (fun _ hk => hk.2) (.string t300)) (fun _ hk => hk.1.2)))⟩; have n1_ : Aside0 (w68.heap[gb289]? = some (.cells #[.int .i64 a0_0, .string a0_1, .int .i64 a0_2, .int .i64 a0_3, .slice (some ad296) l0_4.length c0_4] 24 (0, 0))) := ⟨(by rw [hw]; exact (yF1 BK289 NB289_303.out))⟩; have n2_ : Aside0 (w68.heap[gb297]? = some (.cells #[.int .i64 ((rd_T54 l0_4 x53_2).f0), .string ((rd_T54 l0_4 x53_2).f1), .int .i64 ((rd_T54 l0_4 x53_2).f2.f0), .int .i64 ((rd_T54 l0_4 x53_2).f2.f1), .bool ((rd_T54 l0_4 x53_2).f3), .int .i64 ((rd_T54 l0_4 x53_2).f4.f0), .int .i64 ((rd_T54 l0_4 x53_2).f4.f1), .string ((rd_T54 l0_4 x53_2).f4.f2)] 54 (0, 0))) := ⟨(by rw [hw]; exact (yF1 BK297 NB297_303.out))⟩; have n3_ : Aside0 (w68.heap[gb303]? = some (.cells #[.int .i64 t298, .int .i64 t299, .string t300] 52 (0, 0))) := ⟨(by rw [hw]; exact (puts3 BK303.out))⟩; have n4_ : Aside0 (IsS112 w w68 gb292 t302) := ⟨(by rw [hw]; exact (by repeat (first | (with_reducible first | exact HI292.out | apply IsS112.alloc | apply IsS112.drewN | apply IsS112.drew | apply IsS112.set_0 | apply IsS112.far (hne := NB292_289.out) | apply IsS112.far (hne := NB292_297.out) | apply IsS112.far (hne := NB292_303.out)) | exact HI292.out)))⟩; have n5_ : Aside0 (Below w.heap.size w w68) := ⟨(by rw [hw]; exact (yG4 HB (IsS112.ge HI292.out) GE289.out GE297.out GE303.out))⟩; clear hw; clear HO_9; clear BK289; clear BK297; clear BK303; clear HI292; clear HB; have HO_9 := n0_; have BK289 := n1_; have BK297 := n2_; have BK303 := n3_; have HI292 := n4_; have HB := n5_; clear n0_ n1_ n2_ n3_ n4_ n5_; obtain ⟨hcz69_0, hcz69_1, hcz69_2, hfz69_0, hfz69_1, hfz69_2⟩ := cells3 BK303.out; have p57 : 0 ≤ (x53_2 : Int) := oD yA; have q57 : (x53_2 : Int) < ((x9_2.length : Int) : Int) := oD yA; obtain ⟨go57, co57, eo57, gb57, gl57, cl57, HG57⟩ := Kd.R_form HO_9.out (by omega); (first | cases eo57 | (injection eo57 with ea_ en_ ec_; (first | subst ea_ | (injection ea_ with ea_; subst ea_)); subst ec_; clear en_)); have GB57 := aM gb57; have GG57 := aM HG57; clear gb57 gl57 HG57; obtain ⟨ce57, hcl57, hM57, hcc57, hfr57⟩ := Kd.R_elem HO_9.out z52 (x53_2 : Int) p57 q57; obtain rfl := k52_openM hM57; have hx57_0 : w68.cell? ⟨go57, (x53_2 : Int).toNat * 3, none⟩ = some (.int .i64 ((rd_T52 x9_2 x53_2).f0)) := hcc57 0 _ rfl; have hx57_1 : w68.cell? ⟨go57, (x53_2 : Int).toNat * 3 + 1, none⟩ = some (.int .i64 ((rd_T52 x9_2 x53_2).f1)) := hcc57 1 _ rfl; have hx57_2 : w68.cell? ⟨go57, (x53_2 : Int).toNat * 3 + 2, none⟩ = some (.string ((rd_T52 x9_2 x53_2).f2)) := hcc57 2 _ rfl; have hf57_0 : w68.frozen? ⟨go57, (x53_2 : Int).toNat * 3, none⟩ = false := hfr57 0; have hf57_1 : w68.frozen? ⟨go57, (x53_2 : Int).toNat * 3 + 1, none⟩ = false := hfr57 1; have hf57_2 : w68.frozen? ⟨go57, (x53_2 : Int).toNat * 3 + 2, none⟩ = false := hfr57 2; clear hcl57 hcc57 hfr57 hM57; replace p57 := eq_true p57; replace q57 := eq_true q57; have HX70 := aM (show Kd.R k52 52 w68 w.heap.size (fun k_ => k_ ≠ gb303) (.slice (some ⟨go57, 0, none⟩) x9_2.length co57) x9_2 from (yR HO_9.out)); obtain ⟨ce70, hcl70, hM70, hcc70, hfr70⟩ := Kd.R_elem HX70.out z52 (x53_2 : Int) (oD yA) (by have h_ : (x53_2 : Int) < ((x9_2.length : Int) : Int) := oD yA; first | exact h_ | (have e_ := (Kd.R_reads' HO_9.out).1; omega) | simpa using h_); obtain rfl := k52_openM hM70; have HP70 := Kd.R_seg HX70.out (x53_2 : Int) (oD yA) (by have h_ : (x53_2 : Int) < ((x9_2.length : Int) : Int) := oD yA; first | exact h_ | (have e_ := (Kd.R_reads' HO_9.out).1; omega) | simpa using h_) (seg := [.int .i64 t298, .int .i64 t299, .string t300]) (j := 0) hcl70 hcc70 (show 3 ≤ 3 from by decide) (x' := (⟨t298, t299, t300⟩ : S52)) (k52_mkM _ _ _ (⟨t298, t299, t300⟩ : S52) ) (fun _ hk => hk); have hx70_0 := hcc70 0 _ rfl; (try simp only [show (k52).sz = 3 from rfl, Nat.mul_one, Nat.add_zero] at hx70_0); have hf70_0 := hfr70 0; (try simp only [show (k52).sz = 3 from rfl, Nat.mul_one, Nat.add_zero] at hf70_0); have hx70_1 := hcc70 1 _ rfl; (try simp only [show (k52).sz = 3 from rfl, Nat.mul_one, Nat.add_zero] at hx70_1); have hf70_1 := hfr70 1; (try simp only [show (k52).sz = 3 from rfl, Nat.mul_one, Nat.add_zero] at hf70_1); have hx70_2 := hcc70 2 _ rfl; (try simp only [show (k52).sz = 3 from rfl, Nat.mul_one, Nat.add_zero] at hx70_2); have hf70_2 := hfr70 2; (try simp only [show (k52).sz = 3 from rfl, Nat.mul_one, Nat.add_zero] at hf70_2); clear hcl70 hcc70 hfr70 hM70) | ((with_reducible refine gate_store (t := 52) (p := 83) rfl ?_); refine store_event (t := 52) (p := 83) (v := ?vo_w71) (w1 := (((w68.setCell ⟨go57, (x53_2 : Int).toNat * 3, none⟩ (.int .i64 t298)).setCell ⟨go57, (x53_2 : Int).toNat * 3 + 1, none⟩ (.int .i64 t299)).setCell ⟨go57, (x53_2 : Int).toNat * 3 + 2, none⟩ (.string t300))) ?hg ?ho ?hn ?hr ?_; (case ho => rfl); (case hg => rfl); (case hn => rfl); (case hr => first | (go_simp; done) | (go_simp; rfl)); intro w71 hw; have hg : w68.grownBy w71 (some go57) := (by rw [hw]; exact HP70.2); have hp_ : Kd.R k52 52 w71 w.heap.size (fun k_ => k_ ≠ gb303) (.slice (some ⟨go57, 0, none⟩) x9_2.length co57) y304 := (by rw [hw, Ny304.out]; exact HP70.1); clear HP70; replace BK289 := aM (blk_grown (g := gb289) (o := .cells #[.int .i64 a0_0, .string a0_1, .int .i64 a0_2, .int .i64 a0_3, .slice (some ad296) l0_4.length c0_4] 24 (0, 0)) (yK BK289) hg (Kd.R_ne HO_9.out BK289.out (by decide))); replace HI292 := aM (IsS112.grown (by repeat (first | (with_reducible first | exact HI292.out | apply IsS112.alloc | apply IsS112.drewN | apply IsS112.drew | apply IsS112.set_0 | apply IsS112.far (hne := NB292_289.out) | apply IsS112.far (hne := NB292_297.out) | apply IsS112.far (hne := NB292_303.out)) | exact HI292.out)) hg (IsS112.own_ne HI292.out HO_9.out (by decide))); replace BK297 := aM (blk_grown (g := gb297) (o := .cells #[.int .i64 ((rd_T54 l0_4 x53_2).f0), .string ((rd_T54 l0_4 x53_2).f1), .int .i64 ((rd_T54 l0_4 x53_2).f2.f0), .int .i64 ((rd_T54 l0_4 x53_2).f2.f1), .bool ((rd_T54 l0_4 x53_2).f3), .int .i64 ((rd_T54 l0_4 x53_2).f4.f0), .int .i64 ((rd_T54 l0_4 x53_2).f4.f1), .string ((rd_T54 l0_4 x53_2).f4.f2)] 54 (0, 0)) (yK BK297) hg (Kd.R_ne HO_9.out BK297.out (by decide))); replace BK303 := aM (blk_grown (g := gb303) (o := .cells #[.int .i64 t298, .int .i64 t299, .string t300] 52 (0, 0)) (yK BK303) hg (Kd.R_away HO_9.out (fun _ hk => hk))); replace HO_9 := aM (hp_); replace HB := aM ((by rw [hw]; exact bS (bS (bS (HB.out) GB57.out) GB57.out) GB57.out : Below w.heap.size w w71)); clear hg hw hp_))
                     go_roundg k2
                     case measure => have := HJ10.out; have := HK2.out; omega
                     case rel => exact ⟨(y304), (wrap64 (x53_2 + 1)), (t302), yS, H', ⟨by have := HJ10.out; have := HK2.out; omega⟩, ⟨by (with_reducible repeat (first | apply Kd.R_alloc | apply Kd.R_drewN | apply Kd.R_drew)); exact Kd.R_mono HO_9.out (fun _ hk => trivial)⟩, ⟨yK BK289⟩, ⟨by repeat (first | (with_reducible first | exact HI292.out | apply IsS112.alloc | apply IsS112.drewN | apply IsS112.drew | apply IsS112.set_0 | apply IsS112.far (hne := NB292_289.out) | apply IsS112.far (hne := NB292_297.out) | apply IsS112.far (hne := NB292_303.out)) | exact HI292.out)⟩, ⟨yG4 HB (IsS112.ge HI292.out) GE289.out GE297.out GE303.out⟩⟩
                    ·
                     rw [if_neg c56] at H
                     exact absurd H (by simp)
                   ·
                    rw [if_neg c55] at H
                    have c55b0 : (t301 == 0) = false := beq_eq_false_iff_ne.mpr c55
                    have c55b1 : (t301 != 0) = true := bne_iff_ne.mpr c55
                    simp only [Option.some.injEq, Prod.mk.injEq] at H
                    obtain ⟨rfl, rfl⟩ := H
                    have p296 : 0 ≤ (x53_2 : Int) := oD yA
                    have q296 : x53_2 < (l0_4.length : Int) := oD yA
                    obtain ⟨ad296, e296, hx296_0, hx296_1, hx296_2, hx296_3, hx296_4, hx296_5, hx296_6, hx296_7⟩ := at_T54 HR0_4.out x53_2 p296 q296
                    cases e296
                    replace hx296_0 := pw_cell_below HB.out hx296_0
                    replace hx296_1 := pw_cell_below HB.out hx296_1
                    replace hx296_2 := pw_cell_below HB.out hx296_2
                    replace hx296_3 := pw_cell_below HB.out hx296_3
                    replace hx296_4 := pw_cell_below HB.out hx296_4
                    replace hx296_5 := pw_cell_below HB.out hx296_5
                    replace hx296_6 := pw_cell_below HB.out hx296_6
                    replace hx296_7 := pw_cell_below HB.out hx296_7
                    replace p296 := eq_true p296
                    replace q296 := eq_true q296
                    go_wp2_with (first | ((with_reducible refine gate_dst (N := 11) rfl ?_); refine yX (N := 11) (cs := #[.int .i64 0, .string (⟨#[]⟩ : ByteArray), .int .i64 0, .int .i64 0, .bool false, .int .i64 0, .int .i64 0, .string (⟨#[]⟩ : ByteArray)]) (t := 54) ?_; intro gb297 hg w72 hbox hb; replace HO_9 := aM (Kd.R_below (yR HO_9.out) hb); have BK297 := aM (hbox); have GW297 := yZ hg (yG2 HB (IsS112.ge HI292.out) GE289.out); have GE297 := yZ hg (yG2 HB (IsS112.ge HI292.out) GE289.out); replace HB := aM (bP (yG2 HB (IsS112.ge HI292.out) GE289.out) hb); have NB289_297 := yN hg (yK BK289); have NB297_289 := yM hg (yK BK289); replace BK289 := aM (kB (yK BK289) hb); have NB292_297 := aM ((by rw [hg]; exact Nat.ne_of_lt (IsS112.lt (show IsS112 w _ gb292 x293000_2 from by repeat (first | (with_reducible first | exact HI292.out | apply IsS112.alloc | apply IsS112.drewN | apply IsS112.drew | apply IsS112.set_0 | apply IsS112.far (hne := NB292_289.out)) | exact HI292.out))) : gb292 ≠ gb297)); have NB297_292 := aM ((by rw [hg]; exact Nat.ne_of_gt (IsS112.lt (show IsS112 w _ gb292 x293000_2 from by repeat (first | (with_reducible first | exact HI292.out | apply IsS112.alloc | apply IsS112.drewN | apply IsS112.drew | apply IsS112.set_0 | apply IsS112.far (hne := NB292_289.out)) | exact HI292.out))) : gb297 ≠ gb292)); replace HI292 := aM (IsS112.below (by repeat (first | (with_reducible first | exact HI292.out | apply IsS112.alloc | apply IsS112.drewN | apply IsS112.drew | apply IsS112.set_0 | apply IsS112.far (hne := NB292_289.out)) | exact HI292.out)) hb); clear hb hbox hg; have hnb73 := NB297_289.out; have hnc73 := NB289_297.out; have hnb74 := NB297_292.out; have hnc74 := NB292_297.out; obtain ⟨hcz75_0, hcz75_1, hcz75_2, hcz75_3, hcz75_4, hcz75_5, hcz75_6, hcz75_7, hfz75_0, hfz75_1, hfz75_2, hfz75_3, hfz75_4, hfz75_5, hfz75_6, hfz75_7⟩ := cells8 BK297.out; have p40 : 0 ≤ ((ji37) : Int) := oD yA; have q40 : (ji37) < (a1.size : Int) := oD yA; have hx40 := bt_at a1 (ji37); replace p40 := eq_true p40; replace q40 := eq_true q40) | ((with_reducible refine gate_callee (f := 84) rfl ?_); refine yC 74 Tryd.func84 #[.pointer (some ⟨gb292, 0, none⟩), .agg #[.int .i64 ((rd_T54 l0_4 x53_2).f2.f0), .int .i64 ((rd_T54 l0_4 x53_2).f2.f1)]] rfl ?_; (with_reducible refine (rowcode_reader_value.calls k2 gb292 x293000_2 ((rd_T54 l0_4 x53_2).f2.f0) ((rd_T54 l0_4 x53_2).f2.f1) t298 t299 t300 t301 t302 w _ ?side1 ?side2 ?side3 A54.out).mono ?_); (case side1 => repeat (first | (with_reducible first | exact HI292.out | apply IsS112.alloc | apply IsS112.drewN | apply IsS112.drew | apply IsS112.set_0 | apply IsS112.far (hne := NB292_289.out) | apply IsS112.far (hne := NB292_297.out)) | exact HI292.out)); (case side2 => exact yG3 HB (IsS112.ge HI292.out) GE289.out GE297.out); (case side3 => first | (with_reducible exact HG.out) | exact Glob.below HG.out (yG3 HB (IsS112.ge HI292.out) GE289.out GE297.out)); rintro e w76 ⟨rfl, hi, hb, hk⟩; refine ⟨_, rfl, ?_⟩; replace HO_9 := aM (Kd.R_mono (Kd.R_keep (IsS112.apart (show IsS112 w _ gb292 x293000_2 from by repeat (first | (with_reducible first | exact HI292.out | apply IsS112.alloc | apply IsS112.drewN | apply IsS112.drew | apply IsS112.set_0 | apply IsS112.far (hne := NB292_289.out) | apply IsS112.far (hne := NB292_297.out)) | exact HI292.out)) (by (with_reducible repeat (first | apply Kd.R_alloc | apply Kd.R_drewN | apply Kd.R_drew)); exact (Kd.R_mono (Kd.R_far (p := ⟨gb297, 7, none⟩) (Kd.R_far (p := ⟨gb297, 6, none⟩) (Kd.R_far (p := ⟨gb297, 5, none⟩) (Kd.R_far (p := ⟨gb297, 4, none⟩) (Kd.R_far (p := ⟨gb297, 3, none⟩) (Kd.R_far (p := ⟨gb297, 2, none⟩) (Kd.R_far (p := ⟨gb297, 1, none⟩) (Kd.R_far (p := ⟨gb297, 0, none⟩) (Kd.R_types HO_9.out BK297.out (by decide)) (fun _ hk => hk.2) (.int .i64 ((rd_T54 l0_4 x53_2).f0))) (fun _ hk => hk.2) (.string ((rd_T54 l0_4 x53_2).f1))) (fun _ hk => hk.2) (.int .i64 ((rd_T54 l0_4 x53_2).f2.f0))) (fun _ hk => hk.2) (.int .i64 ((rd_T54 l0_4 x53_2).f2.f1))) (fun _ hk => hk.2) (.bool ((rd_T54 l0_4 x53_2).f3))) (fun _ hk => hk.2) (.int .i64 ((rd_T54 l0_4 x53_2).f4.f0))) (fun _ hk => hk.2) (.int .i64 ((rd_T54 l0_4 x53_2).f4.f1))) (fun _ hk => hk.2) (.string ((rd_T54 l0_4 x53_2).f4.f2))) (fun _ h_ => h_.1))) (by decide)) hk (fun _ h => h.2)) (fun _ h => h.1)); replace BK289 := aM (KeepBut.blk hk (g' := gb289) (o := .cells #[.int .i64 a0_0, .string a0_1, .int .i64 a0_2, .int .i64 a0_3, .slice (some ad296) l0_4.length c0_4] 24 (0, 0)) (yF1 BK289 NB289_297.out) NB289_292.out (by simp)); replace BK297 := aM (KeepBut.blk hk (g' := gb297) (o := .cells #[.int .i64 ((rd_T54 l0_4 x53_2).f0), .string ((rd_T54 l0_4 x53_2).f1), .int .i64 ((rd_T54 l0_4 x53_2).f2.f0), .int .i64 ((rd_T54 l0_4 x53_2).f2.f1), .bool ((rd_T54 l0_4 x53_2).f3), .int .i64 ((rd_T54 l0_4 x53_2).f4.f0), .int .i64 ((rd_T54 l0_4 x53_2).f4.f1), .string ((rd_T54 l0_4 x53_2).f4.f2)] 54 (0, 0)) (puts8 BK297.out) NB297_292.out (by simp)); replace HB := aM (hb); replace HI292 := aM (hi); (try clear hb); (try clear hk); (try clear hi)) | ((with_reducible refine gate_dst (N := 12) rfl ?_); refine yX (N := 12) (cs := #[.int .i64 0, .int .i64 0, .string (⟨#[]⟩ : ByteArray)]) (t := 52) ?_; intro gb303 hg w77 hbox hb; replace HO_9 := aM (Kd.R_below (Kd.R_elderB (yR HO_9.out) gb303 (Nat.le_of_eq hg.symm)) hb); have BK303 := aM (hbox); have GW303 := yZ hg (yG3 HB (IsS112.ge HI292.out) GE289.out GE297.out); have GE303 := yZ hg (yG3 HB (IsS112.ge HI292.out) GE289.out GE297.out); replace HB := aM (bP (yG3 HB (IsS112.ge HI292.out) GE289.out GE297.out) hb); have NB289_303 := yN hg (yK BK289); have NB303_289 := yM hg (yK BK289); replace BK289 := aM (kB (yK BK289) hb); have NB297_303 := yN hg (yK BK297); have NB303_297 := yM hg (yK BK297); replace BK297 := aM (kB (yK BK297) hb); have NB292_303 := aM ((by rw [hg]; exact Nat.ne_of_lt (IsS112.lt (show IsS112 w _ gb292 t302 from by repeat (first | (with_reducible first | exact HI292.out | apply IsS112.alloc | apply IsS112.drewN | apply IsS112.drew | apply IsS112.set_0 | apply IsS112.far (hne := NB292_289.out) | apply IsS112.far (hne := NB292_297.out)) | exact HI292.out))) : gb292 ≠ gb303)); have NB303_292 := aM ((by rw [hg]; exact Nat.ne_of_gt (IsS112.lt (show IsS112 w _ gb292 t302 from by repeat (first | (with_reducible first | exact HI292.out | apply IsS112.alloc | apply IsS112.drewN | apply IsS112.drew | apply IsS112.set_0 | apply IsS112.far (hne := NB292_289.out) | apply IsS112.far (hne := NB292_297.out)) | exact HI292.out))) : gb303 ≠ gb292)); replace HI292 := aM (IsS112.below (by repeat (first | (with_reducible first | exact HI292.out | apply IsS112.alloc | apply IsS112.drewN | apply IsS112.drew | apply IsS112.set_0 | apply IsS112.far (hne := NB292_289.out) | apply IsS112.far (hne := NB292_297.out)) | exact HI292.out)) hb); clear hb hbox hg; have hnb78 := NB303_289.out; have hnc78 := NB289_303.out; have hnb79 := NB303_297.out; have hnc79 := NB297_303.out; have hnb80 := NB303_292.out; have hnc80 := NB292_303.out; obtain ⟨hcz81_0, hcz81_1, hcz81_2, hfz81_0, hfz81_1, hfz81_2⟩ := cells3 BK303.out))
                    go_ret2
                    exact ⟨_, by first | rfl | (simp [errW_none, errW_some] <;> rfl) | (simp only [← hji37, ← hji42]; first | rfl | (simp [errW_none, errW_some] <;> rfl)) | (simp [*, errW_none, errW_some] <;> rfl), by first | exact Kd.R_nil _ _ _ _ _ | exact Kd.N_nil _ _ _ _ _ | exact Kd.V_nil _ _ _ _ _ | exact Kd.Q_nil _ _ _ _ _ | exact Kd.S_nil _ _ _ _ _, yG4 HB (IsS112.ge HI292.out) GE289.out GE297.out GE303.out⟩
                 ·
                  rw [if_neg c41] at H
                  exact absurd H (by simp)
                ·
                 rw [if_neg c39] at H
                 exact absurd H (by simp)
               ·
                rw [if_neg c38] at H
                exact absurd H (by simp)
              ·
               rw [if_neg c36] at H
               exact absurd H (by simp)
             ·
              rw [if_neg c35] at H
              exact absurd H (by simp)
            ·
             rw [if_neg c34] at H
             have c34b0 : decide (x53_2 < (l0_4.length : Int)) = false := decide_eq_false c34
             clear c34
             obtain ⟨⟨t305, t306⟩, A82, H⟩ := yb H
             try dsimp -simprocs only at H
             by_cases c83 : t305 = 0
             ·
              rw [if_pos c83] at H
              have c83b0 : (t305 == 0) = true := beq_iff_eq.mpr c83
              have c83b1 : (t305 != 0) = false := bne_eq_false_iff_eq.mpr c83
              clear c83
              simp only [Option.some.injEq, Prod.mk.injEq] at H
              obtain ⟨rfl, rfl⟩ := H
              go_wp2_with (first | ((with_reducible refine gate_callee (f := 85) rfl ?_); refine yC 86 Tryd.func85 #[.pointer (some ⟨gb292, 0, none⟩)] rfl ?_; (with_reducible refine (rowcode_reader_left.calls gb292 x293000_2 t305 t306 w _ ?side1 ?side2 A82.out).mono ?_); (case side1 => repeat (first | (with_reducible first | exact HI292.out | apply IsS112.alloc | apply IsS112.drewN | apply IsS112.drew | apply IsS112.set_0 | apply IsS112.far (hne := NB292_289.out)) | exact HI292.out)); (case side2 => exact yG2 HB (IsS112.ge HI292.out) GE289.out); rintro e w84 ⟨rfl, hi, hb, hk⟩; refine ⟨_, rfl, ?_⟩; replace HO_9 := aM (Kd.R_mono (Kd.R_keep (IsS112.apart (show IsS112 w _ gb292 x293000_2 from by repeat (first | (with_reducible first | exact HI292.out | apply IsS112.alloc | apply IsS112.drewN | apply IsS112.drew | apply IsS112.set_0 | apply IsS112.far (hne := NB292_289.out)) | exact HI292.out)) (yR HO_9.out) (by decide)) hk (fun _ h => h.2)) (fun _ h => h.1)); replace BK289 := aM (KeepBut.blk hk (g' := gb289) (o := .cells #[.int .i64 a0_0, .string a0_1, .int .i64 a0_2, .int .i64 a0_3, .slice A0_4 l0_4.length c0_4] 24 (0, 0)) (yK BK289) NB289_292.out (by simp)); replace HB := aM (hb); replace HI292 := aM (hi); (try clear hb); (try clear hk); (try clear hi)))
              go_ret2
              exact ⟨_, yE, yR HO_9.out, yG2 HB (IsS112.ge HI292.out) GE289.out⟩
             ·
              rw [if_neg c83] at H
              have c83b0 : (t305 == 0) = false := beq_eq_false_iff_ne.mpr c83
              have c83b1 : (t305 != 0) = true := bne_iff_ne.mpr c83
              simp only [Option.some.injEq, Prod.mk.injEq] at H
              obtain ⟨rfl, rfl⟩ := H
              go_wp2_with (first | ((with_reducible refine gate_callee (f := 85) rfl ?_); refine yC 86 Tryd.func85 #[.pointer (some ⟨gb292, 0, none⟩)] rfl ?_; (with_reducible refine (rowcode_reader_left.calls gb292 x293000_2 t305 t306 w _ ?side1 ?side2 A82.out).mono ?_); (case side1 => repeat (first | (with_reducible first | exact HI292.out | apply IsS112.alloc | apply IsS112.drewN | apply IsS112.drew | apply IsS112.set_0 | apply IsS112.far (hne := NB292_289.out)) | exact HI292.out)); (case side2 => exact yG2 HB (IsS112.ge HI292.out) GE289.out); rintro e w85 ⟨rfl, hi, hb, hk⟩; refine ⟨_, rfl, ?_⟩; replace HO_9 := aM (Kd.R_mono (Kd.R_keep (IsS112.apart (show IsS112 w _ gb292 x293000_2 from by repeat (first | (with_reducible first | exact HI292.out | apply IsS112.alloc | apply IsS112.drewN | apply IsS112.drew | apply IsS112.set_0 | apply IsS112.far (hne := NB292_289.out)) | exact HI292.out)) (yR HO_9.out) (by decide)) hk (fun _ h => h.2)) (fun _ h => h.1)); replace BK289 := aM (KeepBut.blk hk (g' := gb289) (o := .cells #[.int .i64 a0_0, .string a0_1, .int .i64 a0_2, .int .i64 a0_3, .slice A0_4 l0_4.length c0_4] 24 (0, 0)) (yK BK289) NB289_292.out (by simp)); replace HB := aM (hb); replace HI292 := aM (hi); (try clear hb); (try clear hk); (try clear hi)))
              go_ret2
              exact ⟨_, yE, by first | exact Kd.R_nil _ _ _ _ _ | exact Kd.N_nil _ _ _ _ _ | exact Kd.V_nil _ _ _ _ _ | exact Kd.Q_nil _ _ _ _ _ | exact Kd.S_nil _ _ _ _ _, yG2 HB (IsS112.ge HI292.out) GE289.out⟩
         ·
          rw [if_neg c27] at H
          exact absurd H (by simp)
        ·
         rw [if_neg c26] at H
         exact absurd H (by simp)
       ·
        rw [if_neg c25] at H
        exact absurd H (by simp)
      ·
       rw [if_neg c24] at H
       exact absurd H (by simp)
 ·
  replace c4 := Bool.eq_false_iff.mpr c4
  subst c4
  replace H := yf H
  simp only [Option.some.injEq, Prod.mk.injEq] at H
  obtain ⟨rfl, rfl⟩ := H
  go_enter Tryd.func51, Tryd.ntmps51
  go_wp2_with (first | ((with_reducible refine gate_dst (N := 2) rfl ?_); refine yX (N := 2) (cs := #[.int .i64 a0_0, .string a0_1, .int .i64 a0_2, .int .i64 a0_3, .slice A0_4 l0_4.length c0_4]) (t := 24) ?_; intro gb289 hg w86 hbox hb; have BK289 := aM (hbox); have GW289 := yZ hg (yB HB); have GE289 := yZ hg (yB HB); replace HB := aM (bP (yB HB) hb); clear hb hbox hg; obtain ⟨hcz87_0, hcz87_1, hcz87_2, hcz87_3, hcz87_4, hfz87_0, hfz87_1, hfz87_2, hfz87_3, hfz87_4⟩ := cells5 BK289.out) | ((with_reducible refine gate_callee (f := 26) rfl ?_); refine yC 16 Tryd.func26 #[.agg #[.int .i64 a0_0, .string a0_1, .int .i64 a0_2, .int .i64 a0_3, .slice A0_4 l0_4.length c0_4]] rfl ?_; (with_reducible refine (schema_RightTable.calls k a0_0 a0_1 a0_2 a0_3 _ _ l0_4 false _ ?side1 ?side2 ?side3 A3.out).mono ?_); (case side1 => exact yW (Kd.C_below HR0_4.out HB.out)); (case side2 => exact HC0_4.out); (case side3 => first | (with_reducible exact HG.out) | exact Glob.below HG.out (yG1 HB GE289.out)); rintro e w88 ⟨rfl, hb⟩; refine ⟨_, rfl, ?_⟩; replace BK289 := aM (kB (yK BK289) hb); replace HB := aM (bP (yG1 HB GE289.out) hb); (try clear hb)))
  go_ret2
  exact ⟨_, yE, by first | exact Kd.R_nil _ _ _ _ _ | exact Kd.N_nil _ _ _ _ _ | exact Kd.V_nil _ _ _ _ _ | exact Kd.Q_nil _ _ _ _ _ | exact Kd.S_nil _ _ _ _ _, yG1 HB GE289.out⟩
end Go.Proofs.YtdeophpjammbpaaDoor.HRowcodeTypes

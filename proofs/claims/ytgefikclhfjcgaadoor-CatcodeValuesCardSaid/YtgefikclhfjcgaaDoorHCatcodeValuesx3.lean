/- For Go functions that CatcodeValues reaches: Lean functions, and walks that show that each call comes to what its Lean function tells; no condition but those that each theorem states. (Made by a program of this session over the kit's print.py.) -/
import Derived.Test.YtgefikclhfjcgaaDoorHCatcodeValuesx0
import Derived.Test.YtgefikclhfjcgaaDoorHCatcodeValuesx2
namespace Go.Proofs.YtgefikclhfjcgaaDoor.HCatcodeValues
open Go.RowKit Go.Proofs.YtgefikclhfjcgaaDoorW.PrintWords Go.Proofs.YtgefikclhfjcgaaDoorW.PrintLast Go.Proofs.YtgefikclhfjcgaaDoorW.PrintMore
attribute [local go_sem] max2_int min2_int max_two min_two max_three min_three max_four min_four   -- for this text's walks alone
set_option linter.unusedVariables false
set_option linter.unusedSimpArgs false
attribute [local go_sem] hp_s8 hp_s16 hp_s32 hp_s64 hp_m8 hp_m16 hp_m32 hp_m64
/-! ### utf_Count: function 123 -/
def utf_Count.f (k : Nat) (a0 : ByteArray) : Option (Int) := (utf_walk_f140.f k a0 0).bind fun bt112 => (if bt112.1 = true then (some bt112.2) else (some (-1)))
theorem utf_Count.mono : ∀ a0 k, LeO (utf_Count.f k a0) (utf_Count.f (k + 1) a0) := by
 intro a0 k
 unfold utf_Count.f
 repeat' first | with_reducible (first | exact utf_walk_f140.mono .. | exact LeO.refl .. | exact LeO.none .. | refine LeO.ite ?_ ?_ | refine LeO.bind ?_ (fun _ => ?_)) | exact utf_walk_f140.mono .. | exact LeO.none .. | refine LeO.ite ?_ ?_ | refine LeO.bind ?_ (fun _ => ?_)
set_option maxHeartbeats 8000000 in
set_option maxRecDepth 100000 in
theorem utf_Count.calls (k : Nat) (a0 : ByteArray) (r : Int) (w : World) (hG : Glob w) (h : utf_Count.f k a0 = some r) :
  Calls Tryd.prog 123 #[.string a0] w fun e w' => e = .returned (.int .i64 r) ∧ Below w.heap.size w w' := by
 have hmf : ∀ (fn : Go.Fn) (first cap : Array Value) (w : World), (Instr.makeFunc fn first cap).run Tryd.prog w = .ok (.func fn first cap) w := fun _ _ _ _ => rfl
 have HG := aM hG
 clear hG
 have HB := aM (Below.refl w.heap.size w)
 have H : ((utf_walk_f140.f k a0 0).bind fun bt112 => (if bt112.1 = true then (some bt112.2) else (some (-1)))) = some r := h
 clear h
 obtain ⟨⟨t112, t113⟩, A2, H⟩ := yb H
 try dsimp -simprocs only at H
 by_cases c3 : t112 = true
 ·
  subst c3
  replace H := yt H
  obtain rfl := Option.some.inj H
  go_enter Tryd.func123, Tryd.ntmps123
  go_wp2_with (first | ((with_reducible refine gate_dst (N := 3) rfl ?_); refine yX (N := 3) (cs := #[.int .i64 0]) (t := 3) ?_; intro gb111 hg w4 hbox hb; have HI111 := aM ((show IsS3 w w4 gb111 0 from ⟨hbox, by rw [hg]; exact (bZ (yB HB))⟩)); have GW111 := yZ hg (yB HB); have GE111 := yZ hg (yB HB); replace HB := aM (bP (yB HB) hb); clear hb hbox hg; obtain ⟨HGz5, hgz5⟩ := HI111.out; have hcz5_0 := cellS3_0 HGz5; have hfz5_0 := blk_frozen HGz5 0; clear HGz5 hgz5) | (go_at_call 139; (with_reducible refine (utf_walk_f140.calls k a0 gb111 0 true t113 w _ ?side1 ?side2 ?side3 A2.out).mono ?_); (case side1 => repeat (first | (with_reducible first | exact HI111.out | apply IsS3.alloc | apply IsS3.drewN | apply IsS3.drew | apply IsS3.set_0) | exact HI111.out)); (case side2 => exact yG1 HB (IsS3.ge HI111.out)); (case side3 => first | (with_reducible exact HG.out) | exact Glob.below HG.out (yG1 HB (IsS3.ge HI111.out))); rintro e w6 ⟨rfl, hi, hb, hk⟩; replace HB := aM (hb); replace HI111 := aM (hi); (try clear hb); (try clear hk); (try clear hi); obtain ⟨HGz7, hgz7⟩ := HI111.out; have hcz7_0 := cellS3_0 HGz7; have hfz7_0 := blk_frozen HGz7 0; clear HGz7 hgz7))
  go_ret
  exact ⟨yE, yG1 HB (IsS3.ge HI111.out)⟩
 ·
  replace c3 := Bool.eq_false_iff.mpr c3
  subst c3
  replace H := yf H
  obtain rfl := Option.some.inj H
  go_enter Tryd.func123, Tryd.ntmps123
  go_wp2_with (first | ((with_reducible refine gate_dst (N := 3) rfl ?_); refine yX (N := 3) (cs := #[.int .i64 0]) (t := 3) ?_; intro gb111 hg w8 hbox hb; have HI111 := aM ((show IsS3 w w8 gb111 0 from ⟨hbox, by rw [hg]; exact (bZ (yB HB))⟩)); have GW111 := yZ hg (yB HB); have GE111 := yZ hg (yB HB); replace HB := aM (bP (yB HB) hb); clear hb hbox hg; obtain ⟨HGz9, hgz9⟩ := HI111.out; have hcz9_0 := cellS3_0 HGz9; have hfz9_0 := blk_frozen HGz9 0; clear HGz9 hgz9) | (go_at_call 139; (with_reducible refine (utf_walk_f140.calls k a0 gb111 0 false t113 w _ ?side1 ?side2 ?side3 A2.out).mono ?_); (case side1 => repeat (first | (with_reducible first | exact HI111.out | apply IsS3.alloc | apply IsS3.drewN | apply IsS3.drew | apply IsS3.set_0) | exact HI111.out)); (case side2 => exact yG1 HB (IsS3.ge HI111.out)); (case side3 => first | (with_reducible exact HG.out) | exact Glob.below HG.out (yG1 HB (IsS3.ge HI111.out))); rintro e w10 ⟨rfl, hi, hb, hk⟩; replace HB := aM (hb); replace HI111 := aM (hi); (try clear hb); (try clear hk); (try clear hi)))
  go_ret
  exact ⟨yE, yG1 HB (IsS3.ge HI111.out)⟩
/-! ### utf_Right: function 91 -/
def utf_Right.f (k : Nat) (a0 : ByteArray) : Option (Bool) := (utf_Count.f k a0).bind fun t114 => (some (decide (t114 ≥ 0)))
theorem utf_Right.mono : ∀ a0 k, LeO (utf_Right.f k a0) (utf_Right.f (k + 1) a0) := by
 intro a0 k
 unfold utf_Right.f
 repeat' first | with_reducible (first | exact utf_Count.mono .. | exact LeO.refl .. | exact LeO.none .. | refine LeO.ite ?_ ?_ | refine LeO.bind ?_ (fun _ => ?_)) | exact utf_Count.mono .. | exact LeO.none .. | refine LeO.ite ?_ ?_ | refine LeO.bind ?_ (fun _ => ?_)
set_option maxHeartbeats 8000000 in
set_option maxRecDepth 100000 in
theorem utf_Right.calls (k : Nat) (a0 : ByteArray) (r : Bool) (w : World) (hG : Glob w) (h : utf_Right.f k a0 = some r) :
  Calls Tryd.prog 91 #[.string a0] w fun e w' => e = .returned (.bool r) ∧ Below w.heap.size w w' := by
 have HG := aM hG
 clear hG
 have HB := aM (Below.refl w.heap.size w)
 have H : ((utf_Count.f k a0).bind fun t114 => (some (decide (t114 ≥ 0)))) = some r := h
 clear h
 obtain ⟨t114, A2, H⟩ := yb H
 obtain rfl := Option.some.inj H
 go_enter Tryd.func91, Tryd.ntmps91
 go_wp2_with (first | ((with_reducible refine gate_callee (f := 123) rfl ?_); refine yC 4 Tryd.func123 #[.string a0] rfl ?_; (with_reducible refine (utf_Count.calls k a0 t114 _ ?side1 A2.out).mono ?_); (case side1 => first | (with_reducible exact HG.out) | exact Glob.below HG.out (yB HB)); rintro e w3 ⟨rfl, hb⟩; refine ⟨_, rfl, ?_⟩; replace HB := aM (bP (yB HB) hb); (try clear hb)))
 go_ret
 exact ⟨yE, yB HB⟩
/-! ### value_Right: function 36 -/
mutual
def value_Right.j0 : Nat → Bool → Bool → Int → Int → ByteArray → Option (Bool)
 | 0, _, _, _, _, _ => none
 | k + 1, x3, x4, x116000, x116001, x116002 => if x116001 = 0 then (if x116002.toList = ([] : List UInt8) then (value_Right.j1 k (decide ((x116002.size : Int) > 120))) else (if x4 = true then (value_Right.j1 k (decide ((x116002.size : Int) > 120))) else (value_Right.j1 k true))) else (if x3 = true then (if x116002.toList = ([] : List UInt8) then (value_Right.j1 k (decide ((x116002.size : Int) > 120))) else (if x4 = true then (value_Right.j1 k (decide ((x116002.size : Int) > 120))) else (value_Right.j1 k true))) else (value_Right.j1 k true))
def value_Right.j1 : Nat → Bool → Option (Bool)
 | 0, _ => none
 | k + 1, x44 => if x44 = true then (some false) else (some true)
end
def value_Right.f (k : Nat) (a0_0 : Int) (a0_1 : Int) (a0_2 : ByteArray) : Option (Bool) := if a0_0 = 0 then (value_Right.j0 k false false a0_0 a0_1 a0_2) else (if a0_0 = 1 then ((word_Fits.f a0_1 32).bind fun t116 => (value_Right.j0 k t116 false a0_0 a0_1 a0_2)) else (if a0_0 = 2 then (value_Right.j0 k true false a0_0 a0_1 a0_2) else (if a0_0 = 3 then ((utf_Right.f k a0_2).bind fun t117 => (value_Right.j0 k false t117 a0_0 a0_1 a0_2)) else (if a0_0 = 4 then (value_Right.j0 k false true a0_0 a0_1 a0_2) else (some false)))))
theorem value_Right.mono_l : ∀ k, (∀ y0 y1 y2 y3 y4, LeO (value_Right.j0 k y0 y1 y2 y3 y4) (value_Right.j0 (k + 1) y0 y1 y2 y3 y4)) ∧ (∀ y0, LeO (value_Right.j1 k y0) (value_Right.j1 (k + 1) y0))
 | 0 => by refine ⟨?_, ?_⟩ <;> intros <;> exact LeO.none _
 | k + 1 => by
  obtain ⟨ih0, ih1⟩ := value_Right.mono_l k
  refine ⟨?_, ?_⟩ <;> intros <;> first | unfold value_Right.j0 | unfold value_Right.j1
  all_goals repeat' first | with_reducible (first | exact ih0 .. | exact ih1 .. | exact utf_Right.mono .. | exact LeO.refl .. | exact LeO.none .. | refine LeO.ite ?_ ?_ | refine LeO.bind ?_ (fun _ => ?_)) | exact ih0 .. | exact ih1 .. | exact utf_Right.mono .. | exact LeO.none .. | refine LeO.ite ?_ ?_ | refine LeO.bind ?_ (fun _ => ?_)
theorem value_Right.mono : ∀ a0 a1 a2 k, LeO (value_Right.f k a0 a1 a2) (value_Right.f (k + 1) a0 a1 a2) := by
 intro a0 a1 a2 k
 obtain ⟨ih0, ih1⟩ := value_Right.mono_l k
 unfold value_Right.f
 repeat' first | with_reducible (first | exact ih0 .. | exact ih1 .. | exact utf_Right.mono .. | exact LeO.refl .. | exact LeO.none .. | refine LeO.ite ?_ ?_ | refine LeO.bind ?_ (fun _ => ?_)) | exact ih0 .. | exact ih1 .. | exact utf_Right.mono .. | exact LeO.none .. | refine LeO.ite ?_ ?_ | refine LeO.bind ?_ (fun _ => ?_)
set_option maxHeartbeats 8000000 in
set_option maxRecDepth 100000 in
theorem value_Right.calls (k : Nat) (a0_0 : Int) (a0_1 : Int) (a0_2 : ByteArray) (r : Bool) (w : World) (hG : Glob w) (h : value_Right.f k a0_0 a0_1 a0_2 = some r) :
  Calls Tryd.prog 36 #[.agg #[.int .i64 a0_0, .int .i64 a0_1, .string a0_2]] w fun e w' => e = .returned (.bool r) ∧ Below w.heap.size w w' := by
 have hu23 := Tryd.underlying23
 have HG := aM hG
 clear hG
 have HB := aM (Below.refl w.heap.size w)
 have H : (if a0_0 = 0 then (value_Right.j0 k false false a0_0 a0_1 a0_2) else (if a0_0 = 1 then ((word_Fits.f a0_1 32).bind fun t116 => (value_Right.j0 k t116 false a0_0 a0_1 a0_2)) else (if a0_0 = 2 then (value_Right.j0 k true false a0_0 a0_1 a0_2) else (if a0_0 = 3 then ((utf_Right.f k a0_2).bind fun t117 => (value_Right.j0 k false t117 a0_0 a0_1 a0_2)) else (if a0_0 = 4 then (value_Right.j0 k false true a0_0 a0_1 a0_2) else (some false)))))) = some r := h
 clear h
 have HC2 := aM H
 clear H
 go_enter Tryd.func36, Tryd.ntmps36
 go_upto_block 0 with (first | ((with_reducible refine gate_dst (N := 1) rfl ?_); (try (refine gate_guard (by rfl) ?_; dsimp only)); refine yX (N := 1) (cs := #[.int .i64 a0_0, .int .i64 a0_1, .string a0_2]) (t := 23) ?_; intro gb115 hg w3 hbox hb; have BK115 := aM (hbox); have GW115 := yZ hg (yB HB); have GE115 := yZ hg (yB HB); replace HB := aM (bP (yB HB) hb); clear hb hbox hg; obtain ⟨hcz4_0, hcz4_1, hcz4_2, hfz4_0, hfz4_1, hfz4_2⟩ := cells3 BK115.out))
 (try simp only [Act.put, s1_, s2_, s3_])
 go_cut [3, 4] (fun v3 v4 wc => ∃ (kq : Nat) (x3_1 : Bool) (x4_1 : Bool), v3 = .bool x3_1 ∧ v4 = .bool x4_1 ∧ Aside0 (value_Right.j0 kq x3_1 x4_1 a0_0 a0_1 a0_2 = some r) ∧ Aside0 (kq ≤ k) ∧ Aside0 (wc.heap[gb115]? = some (.cells #[.int .i64 a0_0, .int .i64 a0_1, .string a0_2] 23 (0, 0))) ∧ Aside0 (Below w.heap.size w wc))
 case first =>
  have H := HC2.out
  clear HC2
  by_cases c5 : a0_0 = 0
  ·
   rw [if_pos c5] at H
   have c5b0 : (a0_0 == 0) = true := beq_iff_eq.mpr c5
   have c5b1 : (a0_0 != 0) = false := bne_eq_false_iff_eq.mpr c5
   clear c5
   (first | rw [c5b0] | (simp only [i64_w, i32_w]; rw [c5b0]) | skip)
   have H' := aM H
   clear H
   go_wp2
   go_meet
   case rel => exact ⟨_, (false), (false), yS, yS, H', ⟨yO⟩, ⟨yK BK115⟩, ⟨yG1 HB GE115.out⟩⟩
  ·
   rw [if_neg c5] at H
   have c5b0 : (a0_0 == 0) = false := beq_eq_false_iff_ne.mpr c5
   have c5b1 : (a0_0 != 0) = true := bne_iff_ne.mpr c5
   (first | rw [c5b0] | (simp only [i64_w, i32_w]; rw [c5b0]) | skip)
   by_cases c6 : a0_0 = 1
   ·
    rw [if_pos c6] at H
    have c6b0 : (a0_0 == 1) = true := beq_iff_eq.mpr c6
    have c6b1 : (a0_0 != 1) = false := bne_eq_false_iff_eq.mpr c6
    clear c6
    obtain ⟨t116, A7, H⟩ := yb H
    have H' := aM H
    clear H
    obtain ⟨hcz8_0, hcz8_1, hcz8_2, hfz8_0, hfz8_1, hfz8_2⟩ := cells3 BK115.out
    go_wp2_with (first | ((with_reducible refine gate_callee (f := 90) rfl ?_); refine yC 13 Tryd.func90 #[.int .i64 a0_1, .int .i64 32] rfl ?_; (with_reducible refine (word_Fits.calls a0_1 32 t116 _ A7.out).mono ?_); rintro e w' ⟨rfl, ⟨nd, rfl⟩⟩; refine ⟨_, rfl, ?_⟩))
    go_meet
    case rel => exact ⟨_, (t116), (false), yS, yS, H', ⟨yO⟩, ⟨yK BK115⟩, ⟨yG1 HB GE115.out⟩⟩
   ·
    rw [if_neg c6] at H
    have c6b0 : (a0_0 == 1) = false := beq_eq_false_iff_ne.mpr c6
    have c6b1 : (a0_0 != 1) = true := bne_iff_ne.mpr c6
    by_cases c9 : a0_0 = 2
    ·
     rw [if_pos c9] at H
     have c9b0 : (a0_0 == 2) = true := beq_iff_eq.mpr c9
     have c9b1 : (a0_0 != 2) = false := bne_eq_false_iff_eq.mpr c9
     clear c9
     have H' := aM H
     clear H
     go_wp2
     go_meet
     case rel => exact ⟨_, (true), (false), yS, yS, H', ⟨yO⟩, ⟨yK BK115⟩, ⟨yG1 HB GE115.out⟩⟩
    ·
     rw [if_neg c9] at H
     have c9b0 : (a0_0 == 2) = false := beq_eq_false_iff_ne.mpr c9
     have c9b1 : (a0_0 != 2) = true := bne_iff_ne.mpr c9
     by_cases c10 : a0_0 = 3
     ·
      rw [if_pos c10] at H
      have c10b0 : (a0_0 == 3) = true := beq_iff_eq.mpr c10
      have c10b1 : (a0_0 != 3) = false := bne_eq_false_iff_eq.mpr c10
      clear c10
      obtain ⟨t117, A11, H⟩ := yb H
      have H' := aM H
      clear H
      obtain ⟨hcz12_0, hcz12_1, hcz12_2, hfz12_0, hfz12_1, hfz12_2⟩ := cells3 BK115.out
      go_wp2_with (first | ((with_reducible refine gate_callee (f := 91) rfl ?_); refine yC 20 Tryd.func91 #[.string a0_2] rfl ?_; (with_reducible refine (utf_Right.calls k a0_2 t117 _ ?side1 A11.out).mono ?_); (case side1 => first | (with_reducible exact HG.out) | exact Glob.below HG.out (yG1 HB GE115.out)); rintro e w13 ⟨rfl, hb⟩; refine ⟨_, rfl, ?_⟩; replace BK115 := aM (kB (yK BK115) hb); replace HB := aM (bP (yG1 HB GE115.out) hb); (try clear hb)))
      go_meet
      case rel => exact ⟨_, (false), (t117), yS, yS, H', ⟨yO⟩, ⟨yK BK115⟩, ⟨yG1 HB GE115.out⟩⟩
     ·
      rw [if_neg c10] at H
      have c10b0 : (a0_0 == 3) = false := beq_eq_false_iff_ne.mpr c10
      have c10b1 : (a0_0 != 3) = true := bne_iff_ne.mpr c10
      by_cases c14 : a0_0 = 4
      ·
       rw [if_pos c14] at H
       have c14b0 : (a0_0 == 4) = true := beq_iff_eq.mpr c14
       have c14b1 : (a0_0 != 4) = false := bne_eq_false_iff_eq.mpr c14
       clear c14
       have H' := aM H
       clear H
       go_wp2
       go_meet
       case rel => exact ⟨_, (false), (true), yS, yS, H', ⟨yO⟩, ⟨yK BK115⟩, ⟨yG1 HB GE115.out⟩⟩
      ·
       rw [if_neg c14] at H
       have c14b0 : (a0_0 == 4) = false := beq_eq_false_iff_ne.mpr c14
       have c14b1 : (a0_0 != 4) = true := bne_iff_ne.mpr c14
       obtain rfl := Option.some.inj H
       go_wp2
       go_ret
       exact ⟨yE, yG1 HB GE115.out⟩
 case rest =>
  clear HC2
  try clear hcz4_0 hcz4_1 hcz4_2
  try clear hfz4_0 hfz4_1 hfz4_2
  obtain ⟨kq, x3_1, x4_1, rfl, rfl, HA, HJ1, BK115, HB⟩ := hcut
  cases kq with
  | zero => exact absurd HA.out (by simp [value_Right.j0])
  | succ kj1 =>
   have H := HA.out
   clear HA
   simp only [value_Right.j0] at H
   have HC15 := aM H
   clear H
   go_upto_region 13 with (fail)
   go_cut [44] (fun v44 wc => ∃ (kq : Nat) (x44_14 : Bool), v44 = .bool x44_14 ∧ Aside0 (value_Right.j1 kq x44_14 = some r) ∧ Aside0 (kq ≤ kj1) ∧ Aside0 (wc.heap[gb115]? = some (.cells #[.int .i64 a0_0, .int .i64 a0_1, .string a0_2] 23 (0, 0))) ∧ Aside0 (Below w.heap.size w wc))
   case first =>
    have H := HC15.out
    clear HC15
    by_cases c16 : a0_1 = 0
    ·
     rw [if_pos c16] at H
     have c16b0 : (a0_1 == 0) = true := beq_iff_eq.mpr c16
     have c16b1 : (a0_1 != 0) = false := bne_eq_false_iff_eq.mpr c16
     clear c16
     (first | rw [c16b0] | (simp only [i64_w, i32_w]; rw [c16b0]) | skip)
     by_cases c17 : a0_2.toList = ([] : List UInt8)
     ·
      rw [if_pos c17] at H
      have c17b0 : (a0_2.toList == ([] : List UInt8)) = true := beq_iff_eq.mpr c17
      have c17b1 : (a0_2.toList != ([] : List UInt8)) = false := bne_eq_false_iff_eq.mpr c17
      clear c17
      have H' := aM H
      clear H
      obtain ⟨hcz18_0, hcz18_1, hcz18_2, hfz18_0, hfz18_1, hfz18_2⟩ := cells3 BK115.out
      go_wp2
      go_meet
      case rel => exact ⟨_, (decide ((a0_2.size : Int) > 120)), yS, H', ⟨by have := HJ1.out; first | omega | exact Nat.le_refl _⟩, ⟨yK BK115⟩, ⟨yG1 HB GE115.out⟩⟩
     ·
      rw [if_neg c17] at H
      have c17b0 : (a0_2.toList == ([] : List UInt8)) = false := beq_eq_false_iff_ne.mpr c17
      have c17b1 : (a0_2.toList != ([] : List UInt8)) = true := bne_iff_ne.mpr c17
      by_cases c19 : x4_1 = true
      ·
       subst c19
       replace H := yt H
       have H' := aM H
       clear H
       obtain ⟨hcz20_0, hcz20_1, hcz20_2, hfz20_0, hfz20_1, hfz20_2⟩ := cells3 BK115.out
       go_wp2
       go_meet
       case rel => exact ⟨_, (decide ((a0_2.size : Int) > 120)), yS, H', ⟨by have := HJ1.out; first | omega | exact Nat.le_refl _⟩, ⟨yK BK115⟩, ⟨yG1 HB GE115.out⟩⟩
      ·
       replace c19 := Bool.eq_false_iff.mpr c19
       subst c19
       replace H := yf H
       have H' := aM H
       clear H
       obtain ⟨hcz21_0, hcz21_1, hcz21_2, hfz21_0, hfz21_1, hfz21_2⟩ := cells3 BK115.out
       go_wp2
       go_meet
       case rel => exact ⟨_, (true), yS, H', ⟨by have := HJ1.out; first | omega | exact Nat.le_refl _⟩, ⟨yK BK115⟩, ⟨yG1 HB GE115.out⟩⟩
    ·
     rw [if_neg c16] at H
     have c16b0 : (a0_1 == 0) = false := beq_eq_false_iff_ne.mpr c16
     have c16b1 : (a0_1 != 0) = true := bne_iff_ne.mpr c16
     (first | rw [c16b0] | (simp only [i64_w, i32_w]; rw [c16b0]) | skip)
     by_cases c22 : x3_1 = true
     ·
      subst c22
      replace H := yt H
      by_cases c23 : a0_2.toList = ([] : List UInt8)
      ·
       rw [if_pos c23] at H
       have c23b0 : (a0_2.toList == ([] : List UInt8)) = true := beq_iff_eq.mpr c23
       have c23b1 : (a0_2.toList != ([] : List UInt8)) = false := bne_eq_false_iff_eq.mpr c23
       clear c23
       have H' := aM H
       clear H
       obtain ⟨hcz24_0, hcz24_1, hcz24_2, hfz24_0, hfz24_1, hfz24_2⟩ := cells3 BK115.out
       go_wp2
       go_meet
       case rel => exact ⟨_, (decide ((a0_2.size : Int) > 120)), yS, H', ⟨by have := HJ1.out; first | omega | exact Nat.le_refl _⟩, ⟨yK BK115⟩, ⟨yG1 HB GE115.out⟩⟩
      ·
       rw [if_neg c23] at H
       have c23b0 : (a0_2.toList == ([] : List UInt8)) = false := beq_eq_false_iff_ne.mpr c23
       have c23b1 : (a0_2.toList != ([] : List UInt8)) = true := bne_iff_ne.mpr c23
       by_cases c25 : x4_1 = true
       ·
        subst c25
        replace H := yt H
        have H' := aM H
        clear H
        obtain ⟨hcz26_0, hcz26_1, hcz26_2, hfz26_0, hfz26_1, hfz26_2⟩ := cells3 BK115.out
        go_wp2
        go_meet
        case rel => exact ⟨_, (decide ((a0_2.size : Int) > 120)), yS, H', ⟨by have := HJ1.out; first | omega | exact Nat.le_refl _⟩, ⟨yK BK115⟩, ⟨yG1 HB GE115.out⟩⟩
       ·
        replace c25 := Bool.eq_false_iff.mpr c25
        subst c25
        replace H := yf H
        have H' := aM H
        clear H
        obtain ⟨hcz27_0, hcz27_1, hcz27_2, hfz27_0, hfz27_1, hfz27_2⟩ := cells3 BK115.out
        go_wp2
        go_meet
        case rel => exact ⟨_, (true), yS, H', ⟨by have := HJ1.out; first | omega | exact Nat.le_refl _⟩, ⟨yK BK115⟩, ⟨yG1 HB GE115.out⟩⟩
     ·
      replace c22 := Bool.eq_false_iff.mpr c22
      subst c22
      replace H := yf H
      have H' := aM H
      clear H
      obtain ⟨hcz28_0, hcz28_1, hcz28_2, hfz28_0, hfz28_1, hfz28_2⟩ := cells3 BK115.out
      go_wp2
      go_meet
      case rel => exact ⟨_, (true), yS, H', ⟨by have := HJ1.out; first | omega | exact Nat.le_refl _⟩, ⟨yK BK115⟩, ⟨yG1 HB GE115.out⟩⟩
   case rest =>
    clear HC15
    try clear hcz4_0 hcz4_1 hcz4_2
    try clear hfz4_0 hfz4_1 hfz4_2
    obtain ⟨kq, x44_14, rfl, HA, HJ14, BK115, HB⟩ := hcut
    cases kq with
    | zero => exact absurd HA.out (by simp [value_Right.j1])
    | succ kj14 =>
     have H := HA.out
     clear HA
     simp only [value_Right.j1] at H
     by_cases c29 : x44_14 = true
     ·
      subst c29
      replace H := yt H
      obtain rfl := Option.some.inj H
      go_wp2
      go_ret
      exact ⟨yE, yG1 HB GE115.out⟩
     ·
      replace c29 := Bool.eq_false_iff.mpr c29
      subst c29
      replace H := yf H
      obtain rfl := Option.some.inj H
      go_wp2
      go_ret
      exact ⟨yE, yG1 HB GE115.out⟩
/-! ### word_Short: function 92 -/
mutual
def word_Short.l0 : Nat → List Int → List Int → Int → Int → Option (ByteArray)
 | 0, _, _, _, _ => none
 | k + 1, x3, x6, x7, x8 => if x8 < x7 then (if 0 ≤ x8 then (if x8 < (x6.length : Int) then (word_Short.l1 k x3 (rd x6 x8) x6 x7 x8) else (none)) else (none)) else (some (strOfNums x3))
def word_Short.l1 : Nat → List Int → Int → List Int → Int → Int → Option (ByteArray)
 | 0, _, _, _, _, _ => none
 | k + 1, x3, x5, x6, x7, x8 => if x5 ≥ 128 then (if x3.length < 140737488355328 then (word_Short.l1 k (x3 ++ [Go.bits .or .u8 ((x5) % 256) 128]) (x5 / 128) x6 x7 x8) else (none)) else (if x3.length < 140737488355328 then (word_Short.l0 k (x3 ++ [(x5) % 256]) x6 x7 (wrap64 (x8 + 1))) else (none))
end
def word_Short.f (k : Nat) (l0 : List Int) : Option (ByteArray) := word_Short.l0 k ([] : List Int) l0 (l0.length : Int) 0
theorem word_Short.mono_l : ∀ k, (∀ y0 y1 y2 y3, LeO (word_Short.l0 k y0 y1 y2 y3) (word_Short.l0 (k + 1) y0 y1 y2 y3)) ∧ (∀ y0 y1 y2 y3 y4, LeO (word_Short.l1 k y0 y1 y2 y3 y4) (word_Short.l1 (k + 1) y0 y1 y2 y3 y4))
 | 0 => by refine ⟨?_, ?_⟩ <;> intros <;> exact LeO.none _
 | k + 1 => by
  obtain ⟨ih0, ih1⟩ := word_Short.mono_l k
  refine ⟨?_, ?_⟩ <;> intros <;> first | unfold word_Short.l0 | unfold word_Short.l1
  all_goals repeat' first | with_reducible (first | exact ih0 .. | exact ih1 .. | exact LeO.refl .. | exact LeO.none .. | refine LeO.ite ?_ ?_ | refine LeO.bind ?_ (fun _ => ?_)) | exact ih0 .. | exact ih1 .. | exact LeO.none .. | refine LeO.ite ?_ ?_ | refine LeO.bind ?_ (fun _ => ?_)
theorem word_Short.mono : ∀ a0 k, LeO (word_Short.f k a0) (word_Short.f (k + 1) a0) := by
 intro a0 k
 obtain ⟨ih0, ih1⟩ := word_Short.mono_l k
 unfold word_Short.f
 repeat' first | with_reducible (first | exact ih0 .. | exact ih1 .. | exact LeO.refl .. | exact LeO.none .. | refine LeO.ite ?_ ?_ | refine LeO.bind ?_ (fun _ => ?_)) | exact ih0 .. | exact ih1 .. | exact LeO.none .. | refine LeO.ite ?_ ?_ | refine LeO.bind ?_ (fun _ => ?_)
set_option maxHeartbeats 8000000 in
set_option maxRecDepth 100000 in
theorem word_Short.calls (k : Nat) (A0 : Option Addr) (c0 : Nat) (l0 : List Int) (r : ByteArray) (w : World) (hr0 : Kd.C (Kd.int .u64) w A0 l0.length l0) (hc0 : l0.length ≤ c0) (h : word_Short.f k l0 = some r) :
  Calls Tryd.prog 92 #[.slice A0 l0.length c0] w fun e w' => e = .returned (.string r) ∧ Below w.heap.size w w' := by
 have HR0 := aM hr0
 have HC0 := aM hc0
 clear hr0 hc0
 have HB := aM (Below.refl w.heap.size w)
 have H : (word_Short.l0 k ([] : List Int) l0 (l0.length : Int) 0) = some r := h
 clear h
 have H' := aM H
 clear H
 go_enter Tryd.func92, Tryd.ntmps92
 go_wp2
 go_loopg [3, 8] k (fun kq v3 v8 w' => ∃ (x3_1 : List Int) (x8_1 : Int), v8 = .int .i64 x8_1 ∧ Aside0 (word_Short.l0 kq x3_1 l0 (l0.length : Int) x8_1 = some r) ∧ Aside0 (kq ≤ k) ∧ Aside0 (Kd.R (Kd.int .u8) 5 w' w.heap.size (fun _ => True) v3 x3_1) ∧ Aside0 (Below w.heap.size w w'))
 case atStart => exact ⟨(([] : List Int)), (0), yS, H', ⟨Nat.le_refl _⟩, ⟨by first | exact Kd.R_nil _ _ _ _ _ | exact Kd.N_nil _ _ _ _ _ | exact Kd.V_nil _ _ _ _ _ | exact Kd.Q_nil _ _ _ _ _ | exact Kd.S_nil _ _ _ _ _⟩, ⟨yB HB⟩⟩
 case round =>
  clear H'
  obtain ⟨x3_1, x8_1, rfl, HA, HK1, HO_3, HB⟩ := hrel
  cases gk with
  | zero => exact absurd HA.out (by simp [word_Short.l0])
  | succ k1 =>
   have H := HA.out
   clear HA
   simp only [word_Short.l0] at H
   by_cases c2 : x8_1 < (l0.length : Int)
   ·
    rw [if_pos c2] at H
    have c2b0 : decide (x8_1 < (l0.length : Int)) = true := decide_eq_true c2
    clear c2
    by_cases c3 : 0 ≤ x8_1
    ·
     rw [if_pos c3] at H
     have c3b0 : decide (0 ≤ x8_1) = true := decide_eq_true c3
     clear c3
     by_cases c4 : x8_1 < (l0.length : Int)
     ·
      rw [if_pos c4] at H
      have c4b0 : decide (x8_1 < (l0.length : Int)) = true := decide_eq_true c4
      clear c4
      have H' := aM H
      clear H
      have p118 : 0 ≤ (x8_1 : Int) := oD yA
      have q118 : x8_1 < (l0.length : Int) := oD yA
      obtain ⟨ad118, e118, hx118_0⟩ := Kd.at_int HR0.out x8_1 p118 q118
      cases e118
      replace hx118_0 := pw_cell_below HB.out hx118_0
      replace p118 := eq_true p118
      replace q118 := eq_true q118
      go_wp2
      go_loopg [3, 5] k1 (fun kq v3 v5 w' => ∃ (x3_2 : List Int) (x5_2 : Int), v5 = .int .u64 x5_2 ∧ Aside0 (word_Short.l1 kq x3_2 x5_2 l0 (l0.length : Int) x8_1 = some r) ∧ Aside0 (kq ≤ k1) ∧ Aside0 (Kd.R (Kd.int .u8) 5 w' w.heap.size (fun _ => True) v3 x3_2) ∧ Aside0 (Below w.heap.size w w'))
      case atStart => exact ⟨(x3_1), (rd l0 x8_1), yS, H', ⟨Nat.le_refl _⟩, ⟨yR HO_3.out⟩, ⟨yB HB⟩⟩
      case round =>
       clear H'
       try clear c2
       try clear c2b0
       try clear c3
       try clear c3b0
       try clear c4
       try clear c4b0
       try clear hx118_0
       try clear p118
       try clear q118
       obtain ⟨x3_2, x5_2, rfl, HA, HK2, HO_3, HB⟩ := hrel
       cases gk with
       | zero => exact absurd HA.out (by simp [word_Short.l1])
       | succ k2 =>
        have H := HA.out
        clear HA
        simp only [word_Short.l1] at H
        by_cases c5 : x5_2 ≥ 128
        ·
         rw [if_pos c5] at H
         have c5b0 : decide (128 ≤ x5_2) = true := decide_eq_true c5
         clear c5
         by_cases c6 : x3_2.length < 140737488355328
         ·
          rw [if_pos c6] at H
          have LMc6 := aM c6
          clear c6
          obtain ⟨y119, hy119⟩ : ∃ y_ : List Int, y_ = (x3_2 ++ [Go.bits .or .u8 ((x5_2) % 256) 128]) := ⟨_, rfl⟩
          replace H : (word_Short.l1 k2 y119 (x5_2 / 128) l0 (l0.length : Int) x8_1) = some r := by first | (rw [hy119]; with_reducible exact H) | (have H2_ := (Option.bind_some _ _).symm.trans H; rw [hy119]; with_reducible exact H2_) | (have H2_ := (Option.bind_some _ _).symm.trans H; with_reducible exact H2_) | with_reducible exact H | (rw [hy119]; exact H) | exact H
          have Ny119 := aM hy119
          clear hy119
          have H' := aM H
          clear H
          go_wp2_with (first | ((with_reducible refine gate_builtin (b := .append) (xs := #[.tmp 14, .tmp 18]) rfl ?_); at_builtin; refine Kd.R_append (Kd.int .u8) (w0 := w) w.heap.size rfl (.tmp 14) (.tmp 18) 78 5 (.int .u8 0) 1 rfl Tryd.underlying78 info5 rfl (by decide) (by omega) u3 x3_2 (Go.bits .or .u8 ((x5_2) % 256) 128) [.int .u8 (Go.bits .or .u8 ((x5_2) % 256) 128)] (fun _ => True) (fun _ => False) rfl rfl ?aP (fun _ hk => hk.elim) ?aF ?aO ?aB ?aS ?aL ?_; (case aP => exact rfl); (case aB => exact (yB HB)); (case aF => exact (fun _ _ => trivial)); (case aO => exact (yR HO_3.out)); (case aS => exact (bZ (yB HB))); (case aL => have := LMc6.out; omega); intro v120 w7 ho hb hg hat; rw [← Ny119.out] at ho; have n0_ := aM (hb); have n1_ := aM (ho); clear HB; clear HO_3; have HB := n0_; have HO121 := n1_; clear n0_ n1_; clear ho hb hg hat))
          go_roundg k2
          case measure => have := HK1.out; have := HK2.out; omega
          case rel => exact ⟨(y119), (x5_2 / 128), yS, H', ⟨by have := HK1.out; have := HK2.out; omega⟩, ⟨yR HO121.out⟩, ⟨yB HB⟩⟩
         ·
          rw [if_neg c6] at H
          exact absurd H (by simp)
        ·
         rw [if_neg c5] at H
         have c5b0 : decide (128 ≤ x5_2) = false := decide_eq_false c5
         clear c5
         by_cases c8 : x3_2.length < 140737488355328
         ·
          rw [if_pos c8] at H
          have LMc8 := aM c8
          clear c8
          obtain ⟨y122, hy122⟩ : ∃ y_ : List Int, y_ = (x3_2 ++ [(x5_2) % 256]) := ⟨_, rfl⟩
          replace H : (word_Short.l0 k2 y122 l0 (l0.length : Int) (wrap64 (x8_1 + 1))) = some r := by first | (rw [hy122]; with_reducible exact H) | (have H2_ := (Option.bind_some _ _).symm.trans H; rw [hy122]; with_reducible exact H2_) | (have H2_ := (Option.bind_some _ _).symm.trans H; with_reducible exact H2_) | with_reducible exact H | (rw [hy122]; exact H) | exact H
          have Ny122 := aM hy122
          clear hy122
          have H' := aM H
          clear H
          go_wp2_with (first | ((with_reducible refine gate_builtin (b := .append) (xs := #[.tmp 22, .tmp 25]) rfl ?_); at_builtin; refine Kd.R_append (Kd.int .u8) (w0 := w) w.heap.size rfl (.tmp 22) (.tmp 25) 78 5 (.int .u8 0) 1 rfl Tryd.underlying78 info5 rfl (by decide) (by omega) u3 x3_2 ((x5_2) % 256) [.int .u8 ((x5_2) % 256)] (fun _ => True) (fun _ => False) rfl rfl ?aP (fun _ hk => hk.elim) ?aF ?aO ?aB ?aS ?aL ?_; (case aP => exact rfl); (case aB => exact (yB HB)); (case aF => exact (fun _ _ => trivial)); (case aO => exact (yR HO_3.out)); (case aS => exact (bZ (yB HB))); (case aL => have := LMc8.out; omega); intro v123 w9 ho hb hg hat; rw [← Ny122.out] at ho; have n0_ := aM (hb); have n1_ := aM (ho); clear HB; clear HO_3; have HB := n0_; have HO124 := n1_; clear n0_ n1_; clear ho hb hg hat))
          go_roundg k2
          case measure => have := HK1.out; have := HK2.out; omega
          case rel => exact ⟨(y122), (wrap64 (x8_1 + 1)), yS, H', ⟨by have := HK1.out; have := HK2.out; omega⟩, ⟨yR HO124.out⟩, ⟨yB HB⟩⟩
         ·
          rw [if_neg c8] at H
          exact absurd H (by simp)
     ·
      rw [if_neg c4] at H
      exact absurd H (by simp)
    ·
     rw [if_neg c3] at H
     exact absurd H (by simp)
   ·
    rw [if_neg c2] at H
    have c2b0 : decide (x8_1 < (l0.length : Int)) = false := decide_eq_false c2
    clear c2
    obtain rfl := Option.some.inj H
    have hcv10 := own_string (P := Tryd.prog) Tryd.underlying78 Tryd.underlying5 Tryd.underlying9 (Kd.own_of_R HO_3.out)
    go_wp2
    go_ret
    exact ⟨yE, yB HB⟩
/-! ### catcode_text: function 48 -/
def catcode_text.f (k : Nat) (l0 : List Int) (a1 : ByteArray) : Option (List Int) := (word_Short.f k (([IntKind.u64.wrap ((a1.size : Int))] : List Int))).bind fun t128 => (if l0.length + t128.size < 140737488355328 then ((some (l0 ++ bytesOf t128 : List Int)).bind fun y129 => (if y129.length + a1.size < 140737488355328 then (some (y129 ++ bytesOf a1)) else (none))) else (none))
theorem catcode_text.mono : ∀ a0 a1 k, LeO (catcode_text.f k a0 a1) (catcode_text.f (k + 1) a0 a1) := by
 intro a0 a1 k
 unfold catcode_text.f
 repeat' first | with_reducible (first | exact word_Short.mono .. | exact LeO.refl .. | exact LeO.none .. | refine LeO.ite ?_ ?_ | refine LeO.bind ?_ (fun _ => ?_)) | exact word_Short.mono .. | exact LeO.none .. | refine LeO.ite ?_ ?_ | refine LeO.bind ?_ (fun _ => ?_)
set_option maxHeartbeats 8000000 in
set_option maxRecDepth 100000 in
theorem catcode_text.calls (k : Nat) (P0_ : Nat → Prop) (u9000_ : Value) (l0 : List Int) (a1 : ByteArray) (r : List Int) (w0 w : World) (hB : Below w0.heap.size w0 w) (ho0 : Kd.R (Kd.int .u8) 5 w w0.heap.size P0_ u9000_ l0) (h : catcode_text.f k l0 a1 = some r) :
  Calls Tryd.prog 48 #[u9000_, .string a1] w fun e w' => ∃ v0_ : Value, e = .returned (v0_) ∧ Kd.R (Kd.int .u8) 5 w' w0.heap.size (fun k_ => (P0_ k_ ∨ w.heap.size ≤ k_)) v0_ r ∧ Below w0.heap.size w0 w' ∧ Kept w w' (fun k_ => P0_ k_) := by
 have HO0 := aM (show Kd.R (Kd.int .u8) 5 w w0.heap.size (fun k_ => (P0_ k_ ∨ w.heap.size ≤ k_)) u9000_ l0 from Kd.R_mono ho0 (fun k_ hk => (.inl hk)))
 have HK := aM (Kept.refl w (fun k_ => P0_ k_))
 have HW0 := aM hB.size
 have HB := aM hB
 clear hB
 have H : ((word_Short.f k (([IntKind.u64.wrap ((a1.size : Int))] : List Int))).bind fun t128 => (if l0.length + t128.size < 140737488355328 then ((some (l0 ++ bytesOf t128 : List Int)).bind fun y129 => (if y129.length + a1.size < 140737488355328 then (some (y129 ++ bytesOf a1)) else (none))) else (none))) = some r := h
 clear h
 obtain ⟨y125, hy125⟩ : ∃ y_ : List Int, y_ = (([IntKind.u64.wrap ((a1.size : Int))] : List Int)) := ⟨_, rfl⟩
 replace H : ((word_Short.f k y125).bind fun t128 => (if l0.length + t128.size < 140737488355328 then ((some (l0 ++ bytesOf t128 : List Int)).bind fun y129 => (if y129.length + a1.size < 140737488355328 then (some (y129 ++ bytesOf a1)) else (none))) else (none))) = some r := by first | (rw [hy125]; with_reducible exact H) | (have H2_ := (Option.bind_some _ _).symm.trans H; rw [hy125]; with_reducible exact H2_) | (have H2_ := (Option.bind_some _ _).symm.trans H; with_reducible exact H2_) | with_reducible exact H | (rw [hy125]; exact H) | exact H
 have Ny125 := aM hy125
 clear hy125
 obtain ⟨t128, A3, H⟩ := yb H
 by_cases c4 : l0.length + t128.size < 140737488355328
 ·
  rw [if_pos c4] at H
  have LMc4 := aM c4
  clear c4
  obtain ⟨y129, hy129⟩ : ∃ y_ : List Int, y_ = (l0 ++ bytesOf t128) := ⟨_, rfl⟩
  replace H : (if y129.length + a1.size < 140737488355328 then (some (y129 ++ bytesOf a1)) else (none)) = some r := by first | (rw [hy129]; with_reducible exact H) | (have H2_ := (Option.bind_some _ _).symm.trans H; rw [hy129]; with_reducible exact H2_) | (have H2_ := (Option.bind_some _ _).symm.trans H; with_reducible exact H2_) | with_reducible exact H | (rw [hy129]; exact H) | exact H
  have Ny129 := aM hy129
  clear hy129
  by_cases c5 : y129.length + a1.size < 140737488355328
  ·
   rw [if_pos c5] at H
   have LMc5 := aM c5
   clear c5
   obtain ⟨y132, hy132⟩ : ∃ y_ : List Int, y_ = (y129 ++ bytesOf a1) := ⟨_, rfl⟩
   replace H : (some y132) = some r := by first | (rw [hy132]; with_reducible exact H) | (have H2_ := (Option.bind_some _ _).symm.trans H; rw [hy132]; with_reducible exact H2_) | (have H2_ := (Option.bind_some _ _).symm.trans H; with_reducible exact H2_) | with_reducible exact H | (rw [hy132]; exact H) | exact H
   have Ny132 := aM hy132
   clear hy132
   obtain rfl := Option.some.inj H
   go_enter Tryd.func48, Tryd.ntmps48
   go_wp2_with (first | ((with_reducible refine gate_dst (N := 9) rfl ?_); refine Kd.R_lit (Kd.int .u64) _ 91 ?hg (N := 9) ?hd (xs := ([IntKind.u64.wrap ((a1.size : Int))] : List Int)) (inner := [.int .u64 (IntKind.u64.wrap ((a1.size : Int)))]) (ok := fun _ => True) (okp := fun _ => True) ?hr ?hp (fun _ hk => hk) trivial (Below.refl _ _) (Nat.le_refl _) (by simp) ?_; (case hd => rfl); (case hg => rfl); (case hr => first | (go_simp; done) | (go_simp; rfl)); (case hp => exact (Reps.one (show Kd.M (Kd.int .u64) _ _ _ (IntKind.u64.wrap ((a1.size : Int))) [.int .u64 (IntKind.u64.wrap ((a1.size : Int)))] from rfl) (Reps.none _ _))); intro v126 w6 ho7 hb hg_ hnew_; clear hg_ hnew_; (first | rw [← Ny125.out] at ho7 | (simp only [Int.reduceToNat] at ho7; rw [← Ny125.out] at ho7)); replace HO0 := aM (Kd.R_below (yR HO0.out) hb); have HO127 := aM (Kd.R_lower (Kd.R_newM (M := fun k_ => (P0_ k_ ∨ w.heap.size ≤ k_)) ho7 (by first | exact HK.out.1 | exact (show Kept w _ (fun k_ => P0_ k_) from by repeat (first | (with_reducible first | exact HK.out | apply Kept.alloc | apply Kept.drewN | apply Kept.drew) | exact HK.out)).1) (fun k_ h_ => .inr h_)) (bZ (yB HB))); replace HK := aM (Kept.below (S := (fun k_ => P0_ k_)) (by repeat (first | (with_reducible first | exact HK.out | apply Kept.alloc | apply Kept.drewN | apply Kept.drew) | exact HK.out)) hb); replace HB := aM (bP (yB HB) hb); clear hb ho7; obtain ⟨Ao8, co8, eo8⟩ := Kd.R_slice HO127.out; subst eo8) | ((with_reducible refine gate_callee (f := 92) rfl ?_); refine yC 10 Tryd.func92 #[.slice Ao8 y125.length co8] rfl ?_; (with_reducible refine (word_Short.calls k _ _ y125 t128 _ ?side1 ?side2 A3.out).mono ?_); (case side1 => exact yW (Kd.R_reads' HO127.out).2.2); (case side2 => exact (Kd.R_reads' HO127.out).2.1); rintro e w9 ⟨rfl, hb⟩; refine ⟨_, rfl, ?_⟩; replace HO0 := aM (Kd.R_below (yR HO0.out) hb); replace HO127 := aM (Kd.R_below (yR HO127.out) hb); replace HK := aM (Kept.below (S := (fun k_ => P0_ k_)) (by repeat (first | (with_reducible first | exact HK.out | apply Kept.alloc | apply Kept.drewN | apply Kept.drew) | exact HK.out)) hb); replace HB := aM (bP (yB HB) hb); (try clear hb)) | (at_builtin; refine print_append_strM (w0 := w0) w0.heap.size rfl (.tmp 5) _ 78 9 5 rfl Tryd.underlying78 Tryd.underlying9 info5 u9000_ l0 t128 (fun k_ => (P0_ k_ ∨ w.heap.size ≤ k_)) rfl rfl ?aO ?aF ?aB ?aS ?aL ?_; (case aF => exact fun k_ hk => .inr (Nat.le_trans (by first | exact HK.out.1 | exact (show Kept w _ (fun k_ => P0_ k_) from by repeat (first | (with_reducible first | exact HK.out | apply Kept.alloc | apply Kept.drewN | apply Kept.drew) | exact HK.out)).1) hk)); (case aB => exact (yB HB)); (case aO => exact (yR HO0.out)); (case aS => exact (bZ (yB HB))); (case aL => have := LMc4.out; omega); intro v130 w10 ho hb hg; have hat := True.intro; rw [← Ny129.out] at ho; change Kd.R (Kd.int .u8) 5 w10 w0.heap.size (fun k_ => (P0_ k_ ∨ w.heap.size ≤ k_)) v130 y129 at ho; have n0_ := aM (Kd.R_over' (yR HO127.out) (Kd.R_typed (yR HO0.out)) (by decide) hg); have n1_ := aM (hb); have n2_ := aM (Kept.of_grown (S := (fun k_ => P0_ k_)) hg (by repeat (first | (with_reducible first | exact HK.out | apply Kept.alloc | apply Kept.drewN | apply Kept.drew) | exact HK.out)) (fun k_ e_ => (HO0.out.1 k_ e_))); have n3_ := aM (ho); clear HO127; clear HB; clear HK; clear HO0; have HO127 := n0_; have HB := n1_; have HK := n2_; have HO131 := n3_; clear n0_ n1_ n2_ n3_; clear ho hb hg hat) | (at_builtin; refine print_append_strM (w0 := w0) w0.heap.size rfl (.tmp 12) _ 78 9 5 rfl Tryd.underlying78 Tryd.underlying9 info5 v130 y129 a1 (fun k_ => (P0_ k_ ∨ w.heap.size ≤ k_)) rfl rfl ?aO ?aF ?aB ?aS ?aL ?_; (case aF => exact fun k_ hk => .inr (Nat.le_trans (by first | exact HK.out.1 | exact (show Kept w _ (fun k_ => P0_ k_) from by repeat (first | (with_reducible first | exact HK.out | apply Kept.alloc | apply Kept.drewN | apply Kept.drew) | exact HK.out)).1) hk)); (case aB => exact (yB HB)); (case aO => exact (yR HO131.out)); (case aS => exact (bZ (yB HB))); (case aL => have := LMc5.out; omega); intro v133 w11 ho hb hg; have hat := True.intro; rw [← Ny132.out] at ho; change Kd.R (Kd.int .u8) 5 w11 w0.heap.size (fun k_ => (P0_ k_ ∨ w.heap.size ≤ k_)) v133 y132 at ho; have n0_ := aM (Kd.R_over' (yR HO127.out) (Kd.R_typed (yR HO131.out)) (by decide) hg); have n1_ := aM (hb); have n2_ := aM (Kept.of_grown (S := (fun k_ => P0_ k_)) hg (by repeat (first | (with_reducible first | exact HK.out | apply Kept.alloc | apply Kept.drewN | apply Kept.drew) | exact HK.out)) (fun k_ e_ => (HO131.out.1 k_ e_))); have n3_ := aM (ho); clear HO127; clear HB; clear HK; clear HO131; have HO127 := n0_; have HB := n1_; have HK := n2_; have HO134 := n3_; clear n0_ n1_ n2_ n3_; clear ho hb hg hat))
   go_ret
   exact ⟨_, yE, yR HO134.out, yB HB, by repeat (first | (with_reducible first | exact HK.out | apply Kept.alloc | apply Kept.drewN | apply Kept.drew) | exact HK.out)⟩
  ·
   rw [if_neg c5] at H
   exact absurd H (by simp)
 ·
  rw [if_neg c4] at H
  exact absurd H (by simp)
/-! ### word_Zig: function 93 -/
def word_Zig.f (a0 : Int) : Option (Int) := some (Go.bits .xor .u64 (IntKind.u64.wrap ((IntKind.u64.wrap (a0)) * 2)) (IntKind.u64.wrap (a0 / 9223372036854775808)))
set_option maxHeartbeats 8000000 in
set_option maxRecDepth 100000 in
theorem word_Zig.calls (a0 : Int) (r : Int) (w : World) (h : word_Zig.f a0 = some r) :
  Calls Tryd.prog 93 #[.int .i64 a0] w fun e w' => e = .returned (.int .u64 r) ∧ Drawn0 w w' := by
 have H : (some (Go.bits .xor .u64 (IntKind.u64.wrap ((IntKind.u64.wrap (a0)) * 2)) (IntKind.u64.wrap (a0 / 9223372036854775808)))) = some r := h
 clear h
 obtain rfl := Option.some.inj H
 go_enter Tryd.func93, Tryd.ntmps93
 go_wp2
 go_ret
 exact ⟨yS, yD⟩
end Go.Proofs.YtgefikclhfjcgaaDoor.HCatcodeValues

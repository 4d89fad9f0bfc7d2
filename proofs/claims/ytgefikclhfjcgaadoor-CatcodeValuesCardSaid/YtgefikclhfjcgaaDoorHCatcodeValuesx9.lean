/- For Go functions that CatcodeValues reaches: Lean functions, and walks that show that each call comes to what its Lean function tells; no condition but those that each theorem states. (Made by a program of this session over the kit's print.py.) -/
import Derived.Test.YtgefikclhfjcgaaDoorHCatcodeValuesx0
import Derived.Test.YtgefikclhfjcgaaDoorHCatcodeValuesx3
import Derived.Test.YtgefikclhfjcgaaDoorHCatcodeValuesx7
import Derived.Test.YtgefikclhfjcgaaDoorHCatcodeValuesx8
namespace Go.Proofs.YtgefikclhfjcgaaDoor.HCatcodeValues
open Go.RowKit Go.Proofs.YtgefikclhfjcgaaDoorW.PrintWords Go.Proofs.YtgefikclhfjcgaaDoorW.PrintLast Go.Proofs.YtgefikclhfjcgaaDoorW.PrintMore
attribute [local go_sem] max2_int min2_int max_two min_two max_three min_three max_four min_four   -- for this text's walks alone
set_option linter.unusedVariables false
set_option linter.unusedSimpArgs false
attribute [local go_sem] hp_s8 hp_s16 hp_s32 hp_s64 hp_m8 hp_m16 hp_m32 hp_m64
/-! ### catcode_Catalog: function 15 -/
mutual
def catcode_Catalog.l0 : Nat → List Int → List (S63) → Int → Int → Option (ByteArray × Int)
 | 0, _, _, _, _ => none
 | k + 1, x4, x18, x19, x20 => if x20 < x19 then (if 0 ≤ x20 then (if x20 < (x18.length : Int) then ((catcode_number.f k x4 ((rd_T63 x18 x20).f0)).bind fun t224 => ((catcode_text.f k t224 ((rd_T63 x18 x20).f1)).bind fun t227 => ((catcode_number.f k t227 ((rd_T63 x18 x20).f2)).bind fun t230 => ((catcode_number.f k t230 ((rd_T63 x18 x20).f3)).bind fun t233 => ((catcode_number.f k t233 (((rd_T63 x18 x20).f4).length : Int)).bind fun t236 => (catcode_Catalog.l1 k t236 x18 x19 x20 ((rd_T63 x18 x20).f4) (((rd_T63 x18 x20).f4).length : Int) 0)))))) else (none)) else (none)) else (some (strOfNums x4, 0))
def catcode_Catalog.l1 : Nat → List Int → List (S63) → Int → Int → List (S97) → Int → Int → Option (ByteArray × Int)
 | 0, _, _, _, _, _, _, _ => none
 | k + 1, x4, x18, x19, x20, x43, x44, x45 => if x45 < x44 then (if 0 ≤ x45 then (if x45 < (x43.length : Int) then ((catcode_number.f k x4 ((rd_T97 x43 x45).f0)).bind fun t241 => ((catcode_body.f k t241 ((rd_T97 x43 x45).f0) ((rd_T97 x43 x45).f1) ((rd_T97 x43 x45).f2.f0) ((rd_T97 x43 x45).f2.f1) ((rd_T97 x43 x45).f3) ((rd_T97 x43 x45).f4.f0) ((rd_T97 x43 x45).f4.f1) ((rd_T97 x43 x45).f4.f2)).bind fun t244 => (catcode_Catalog.l1 k t244 x18 x19 x20 x43 x44 (wrap64 (x45 + 1))))) else (none)) else (none)) else (catcode_Catalog.l0 k x4 x18 x19 (wrap64 (x20 + 1)))
end
def catcode_Catalog.f (k : Nat) (l0_0 : List (S63)) : Option (ByteArray × Int) := (schema_Right.f k l0_0).bind fun t215 => (if t215 = true then ((catcode_number.f k (([1] : List Int)) (l0_0.length : Int)).bind fun t219 => (catcode_Catalog.l0 k t219 l0_0 (l0_0.length : Int) 0)) else (some ((⟨#[]⟩ : ByteArray), 2)))
theorem catcode_Catalog.mono_l : ∀ k, (∀ y0 y1 y2 y3, LeO (catcode_Catalog.l0 k y0 y1 y2 y3) (catcode_Catalog.l0 (k + 1) y0 y1 y2 y3)) ∧ (∀ y0 y1 y2 y3 y4 y5 y6, LeO (catcode_Catalog.l1 k y0 y1 y2 y3 y4 y5 y6) (catcode_Catalog.l1 (k + 1) y0 y1 y2 y3 y4 y5 y6))
 | 0 => by refine ⟨?_, ?_⟩ <;> intros <;> exact LeO.none _
 | k + 1 => by
  obtain ⟨ih0, ih1⟩ := catcode_Catalog.mono_l k
  refine ⟨?_, ?_⟩ <;> intros <;> first | unfold catcode_Catalog.l0 | unfold catcode_Catalog.l1
  all_goals repeat' first | with_reducible (first | exact ih0 .. | exact ih1 .. | exact catcode_body.mono .. | exact catcode_number.mono .. | exact catcode_text.mono .. | exact schema_Right.mono .. | exact LeO.refl .. | exact LeO.none .. | refine LeO.ite ?_ ?_ | refine LeO.bind ?_ (fun _ => ?_)) | exact ih0 .. | exact ih1 .. | exact catcode_body.mono .. | exact catcode_number.mono .. | exact catcode_text.mono .. | exact schema_Right.mono .. | exact LeO.none .. | refine LeO.ite ?_ ?_ | refine LeO.bind ?_ (fun _ => ?_)
theorem catcode_Catalog.mono : ∀ a0 k, LeO (catcode_Catalog.f k a0) (catcode_Catalog.f (k + 1) a0) := by
 intro a0 k
 obtain ⟨ih0, ih1⟩ := catcode_Catalog.mono_l k
 unfold catcode_Catalog.f
 repeat' first | with_reducible (first | exact ih0 .. | exact ih1 .. | exact catcode_body.mono .. | exact catcode_number.mono .. | exact catcode_text.mono .. | exact schema_Right.mono .. | exact LeO.refl .. | exact LeO.none .. | refine LeO.ite ?_ ?_ | refine LeO.bind ?_ (fun _ => ?_)) | exact ih0 .. | exact ih1 .. | exact catcode_body.mono .. | exact catcode_number.mono .. | exact catcode_text.mono .. | exact schema_Right.mono .. | exact LeO.none .. | refine LeO.ite ?_ ?_ | refine LeO.bind ?_ (fun _ => ?_)
def catcode_Catalog.T7 : Bool × List (List Nat × List Nat) := (true, [([], []), ([], []), ([1], [1]), ([0, 2], [0, 2]), ([], []), ([4], [4]), ([3, 5, 3], [3, 5]), ([6, 6, 0, 1, 2, 3, 4, 5, 6], [0, 6])])
def catcode_Catalog.B7 : List Nat := [0, 0, 2, 7, 0, 16, 63, 127]
theorem catcode_Catalog.tab7 : rtab .any (opsOf Tryd.f15 7) = catcode_Catalog.T7 := by kernel_rfl
theorem catcode_Catalog.bits7 : waitsOk catcode_Catalog.T7.2 catcode_Catalog.B7 = true := by kernel_rfl
def catcode_Catalog.T8 : Bool × List (List Nat × List Nat) := (true, [([], []), ([], []), ([1], [1]), ([0, 2], [0, 2]), ([], []), ([4], [4]), ([3, 5, 3], [3, 5]), ([], []), ([7], [7]), ([8], [8]), ([6, 9, 6], [6, 9]), ([10, 10, 0, 1, 2, 3, 4, 5, 6, 7, 8, 9, 10], [0, 10])])
def catcode_Catalog.B8 : List Nat := [0, 0, 2, 7, 0, 16, 63, 0, 128, 384, 1023, 2047]
theorem catcode_Catalog.tab8 : rtab .any (opsOf Tryd.f15 8) = catcode_Catalog.T8 := by kernel_rfl
theorem catcode_Catalog.bits8 : waitsOk catcode_Catalog.T8.2 catcode_Catalog.B8 = true := by kernel_rfl
set_option maxHeartbeats 8000000 in
set_option maxRecDepth 100000 in
theorem catcode_Catalog.calls (k : Nat) (A0_0 : Option Addr) (c0_0 : Nat) (l0_0 : List (S63)) (r1 : ByteArray) (r2 : Int) (w : World) (hr0_0 : Kd.C k63 w A0_0 l0_0.length l0_0) (hc0_0 : l0_0.length ≤ c0_0) (hG : Glob w) (h : catcode_Catalog.f k l0_0 = some (r1, r2)) :
  Calls Tryd.prog 15 #[.agg #[.slice A0_0 l0_0.length c0_0]] w fun e w' => e = .returned (.tuple #[.string r1, .int .i64 r2]) ∧ Below w.heap.size w w' := by
 have hu37 := Tryd.underlying37
 have hu63 := Tryd.underlying63
 have hu97 := Tryd.underlying97
 have HR0_0 := aM hr0_0
 have HC0_0 := aM hc0_0
 clear hr0_0 hc0_0
 have HG := aM hG
 clear hG
 have HB := aM (Below.refl w.heap.size w)
 have H : ((schema_Right.f k l0_0).bind fun t215 => (if t215 = true then ((catcode_number.f k (([1] : List Int)) (l0_0.length : Int)).bind fun t219 => (catcode_Catalog.l0 k t219 l0_0 (l0_0.length : Int) 0)) else (some ((⟨#[]⟩ : ByteArray), 2)))) = some (r1, r2) := h
 clear h
 obtain ⟨t215, A2, H⟩ := yb H
 by_cases c3 : t215 = true
 ·
  subst c3
  replace H := yt H
  obtain ⟨y216, hy216⟩ : ∃ y_ : List Int, y_ = (([1] : List Int)) := ⟨_, rfl⟩
  replace H : ((catcode_number.f k y216 (l0_0.length : Int)).bind fun t219 => (catcode_Catalog.l0 k t219 l0_0 (l0_0.length : Int) 0)) = some (r1, r2) := by first | (rw [hy216]; with_reducible exact H) | (have H2_ := (Option.bind_some _ _).symm.trans H; rw [hy216]; with_reducible exact H2_) | (have H2_ := (Option.bind_some _ _).symm.trans H; with_reducible exact H2_) | with_reducible exact H | (rw [hy216]; exact H) | exact H
  have Ny216 := aM hy216
  clear hy216
  obtain ⟨t219, A4, H⟩ := yb H
  have H' := aM H
  clear H
  go_enter Tryd.func15, Tryd.ntmps15
  go_wp2_with (first | ((with_reducible refine gate_dst (N := 1) rfl ?_); refine yX (N := 1) (cs := #[.slice A0_0 l0_0.length c0_0]) (t := 37) ?_; intro gb214 hg w5 hbox hb; have BK214 := aM (hbox); have GW214 := yZ hg (yB HB); have GE214 := yZ hg (yB HB); replace HB := aM (bP (yB HB) hb); clear hb hbox hg; obtain ⟨hcz6_0, hfz6_0⟩ := cells1 BK214.out) | ((with_reducible refine gate_callee (f := 46) rfl ?_); refine yC 10 Tryd.func46 #[.agg #[.slice A0_0 l0_0.length c0_0]] rfl ?_; (with_reducible refine (schema_Right.calls k _ _ l0_0 true _ ?side1 ?side2 ?side3 A2.out).mono ?_); (case side1 => exact yW (Kd.C_below HR0_0.out HB.out)); (case side2 => exact HC0_0.out); (case side3 => first | (with_reducible exact HG.out) | exact Glob.below HG.out (yG1 HB GE214.out)); rintro e w7 ⟨rfl, hb⟩; refine ⟨_, rfl, ?_⟩; replace BK214 := aM (kB (yK BK214) hb); replace HB := aM (bP (yG1 HB GE214.out) hb); (try clear hb)) | ((with_reducible refine gate_dst (N := 12) rfl ?_); refine Kd.R_lit (Kd.int .u8) _ 5 ?hg (N := 12) ?hd (xs := ([1] : List Int)) (inner := [.int .u8 1]) (ok := fun _ => True) (okp := fun _ => True) ?hr ?hp (fun _ hk => hk) trivial (Below.refl _ _) (Nat.le_refl _) (by simp) ?_; (case hd => rfl); (case hg => rfl); (case hr => first | (go_simp; done) | (go_simp; rfl)); (case hp => exact (Reps.one (show Kd.M (Kd.int .u8) _ _ _ 1 [.int .u8 1] from rfl) (Reps.none _ _))); intro v217 w8 ho9 hb hg_ hnew_; clear hg_ hnew_; (first | rw [← Ny216.out] at ho9 | (simp only [Int.reduceToNat] at ho9; rw [← Ny216.out] at ho9)); have HO218 := aM (Kd.R_lower ho9 (bZ (yG1 HB GE214.out))); replace BK214 := aM (kB (yK BK214) hb); replace HB := aM (bP (yG1 HB GE214.out) hb); clear hb ho9; obtain ⟨hcz10_0, hfz10_0⟩ := cells1 BK214.out; obtain ⟨Ao11, co11, eo11⟩ := Kd.R_slice HO218.out; subst eo11) | ((with_reducible refine gate_callee (f := 47) rfl ?_); refine yC 16 Tryd.func47 #[.slice Ao11 y216.length co11, .int .i64 (l0_0.length : Int)] rfl ?_; (with_reducible refine (catcode_number.calls k (fun k_ => some k_ = (.slice Ao11 y216.length co11 : Value).ownBlock) (.slice Ao11 y216.length co11) y216 (l0_0.length : Int) t219 w _ ?side1 ?side2 A4.out).mono ?_); (case side1 => exact yG1 HB GE214.out); (case side2 => exact Kd.R_tight rfl HO218.out); rintro e w12 ⟨v220, rfl, ho0, hb, hkp⟩; refine ⟨_, rfl, ?_⟩; have n0_ := aM (blk_kept (yK BK214) hkp (fun hs_ => (fun e_ => (Kd.R_ne HO218.out BK214.out (by decide)) e_) hs_)); have n1_ := aM (Kd.R_mono (ok' := fun k_ => True) ho0 (fun k_ hk_ => trivial)); have n2_ := aM (hb); clear BK214; clear HB; clear HO218; have BK214 := n0_; have HO221 := n1_; have HB := n2_; clear n0_ n1_ n2_; (try clear hb); (try clear hkp); (try clear ho0); obtain ⟨hcz13_0, hfz13_0⟩ := cells1 BK214.out))
  go_loopg [4, 20] k (fun kq v4 v20 w' => ∃ (x4_1 : List Int) (x20_1 : Int), v20 = .int .i64 x20_1 ∧ Aside0 (catcode_Catalog.l0 kq x4_1 l0_0 (l0_0.length : Int) x20_1 = some (r1, r2)) ∧ Aside0 (kq ≤ k) ∧ Aside0 (Kd.R (Kd.int .u8) 5 w' w.heap.size (fun _ => True) v4 x4_1) ∧ Aside0 (w'.heap[gb214]? = some (.cells #[(.slice A0_0 l0_0.length c0_0)] 37 (0, 0))) ∧ Aside0 (Below w.heap.size w w'))
  case atStart => exact ⟨(t219), (0), yS, H', ⟨Nat.le_refl _⟩, ⟨yR HO221.out⟩, ⟨yK BK214⟩, ⟨yG1 HB GE214.out⟩⟩
  case round =>
   clear H'
   try clear c3
   try clear hcz10_0
   try clear hcz13_0
   try clear hcz6_0
   try clear hfz10_0
   try clear hfz13_0
   try clear hfz6_0
   obtain ⟨x4_1, x20_1, rfl, HA, HK1, HO_4, BK214, HB⟩ := hrel
   cases gk with
   | zero => exact absurd HA.out (by simp [catcode_Catalog.l0])
   | succ k1 =>
    have H := HA.out
    clear HA
    simp only [catcode_Catalog.l0] at H
    by_cases c14 : x20_1 < (l0_0.length : Int)
    ·
     rw [if_pos c14] at H
     have c14b0 : decide (x20_1 < (l0_0.length : Int)) = true := decide_eq_true c14
     clear c14
     by_cases c15 : 0 ≤ x20_1
     ·
      rw [if_pos c15] at H
      have c15b0 : decide (0 ≤ x20_1) = true := decide_eq_true c15
      clear c15
      by_cases c16 : x20_1 < (l0_0.length : Int)
      ·
       rw [if_pos c16] at H
       have c16b0 : decide (x20_1 < (l0_0.length : Int)) = true := decide_eq_true c16
       clear c16
       obtain ⟨t224, A17, H⟩ := yb H
       obtain ⟨t227, A18, H⟩ := yb H
       obtain ⟨t230, A19, H⟩ := yb H
       obtain ⟨t233, A20, H⟩ := yb H
       obtain ⟨t236, A21, H⟩ := yb H
       have H' := aM H
       clear H
       have p222 : 0 ≤ (x20_1 : Int) := oD yA
       have q222 : x20_1 < (l0_0.length : Int) := oD yA
       obtain ⟨ad222, A222_4, c222_4, e222, hx222_0, hx222_1, hx222_2, hx222_3, hx222_4, hl222_4, hi222_4⟩ := at_T63 HR0_0.out x20_1 p222 q222
       cases e222
       replace hx222_0 := pw_cell_below HB.out hx222_0
       replace hx222_1 := pw_cell_below HB.out hx222_1
       replace hx222_2 := pw_cell_below HB.out hx222_2
       replace hx222_3 := pw_cell_below HB.out hx222_3
       replace hx222_4 := pw_cell_below HB.out hx222_4
       have HR222_4 := aM hi222_4
       have HC222_4 := aM hl222_4
       clear hi222_4 hl222_4
       replace p222 := eq_true p222
       replace q222 := eq_true q222
       try go_wp2_with (first | ((with_reducible refine gate_dst (N := 6) rfl ?_); refine yX (N := 6) (cs := #[.int .i64 0, .string (⟨#[]⟩ : ByteArray), .int .i64 0, .int .i64 0, .slice none 0 0]) (t := 63) ?_; intro gb223 hg w22 hbox hb; replace HO_4 := aM (Kd.R_below (yR HO_4.out) hb); have BK223 := aM (hbox); have GW223 := yZ hg (yG1 HB GE214.out); have GE223 := yZ hg (yG1 HB GE214.out); replace HB := aM (bP (yG1 HB GE214.out) hb); have NB214_223 := yN hg (yK BK214); have NB223_214 := yM hg (yK BK214); replace BK214 := aM (kB (yK BK214) hb); clear hb hbox hg; have hnb23 := NB223_214.out; have hnc23 := NB214_223.out; obtain ⟨hcz24_0, hcz24_1, hcz24_2, hcz24_3, hcz24_4, hfz24_0, hfz24_1, hfz24_2, hfz24_3, hfz24_4⟩ := cells5 BK223.out))
       have n0_ : Aside0 (Kd.R (Kd.int .u8) 5 (((((w22.setCell ⟨gb223, 0, none⟩ (.int .i64 ((rd_T63 l0_0 x20_1).f0))).setCell ⟨gb223, 1, none⟩ (.string ((rd_T63 l0_0 x20_1).f1))).setCell ⟨gb223, 2, none⟩ (.int .i64 ((rd_T63 l0_0 x20_1).f2))).setCell ⟨gb223, 3, none⟩ (.int .i64 ((rd_T63 l0_0 x20_1).f3))).setCell ⟨gb223, 4, none⟩ (.slice A222_4 ((rd_T63 l0_0 x20_1).f4).length c222_4)) w.heap.size (fun _ => True) u4 x4_1) := ⟨by (with_reducible repeat (first | apply Kd.R_alloc | apply Kd.R_drewN | apply Kd.R_drew)); exact Kd.R_mono (Kd.R_far (p := ⟨gb223, 4, none⟩) (Kd.R_far (p := ⟨gb223, 3, none⟩) (Kd.R_far (p := ⟨gb223, 2, none⟩) (Kd.R_far (p := ⟨gb223, 1, none⟩) (Kd.R_far (p := ⟨gb223, 0, none⟩) (Kd.R_types HO_4.out BK223.out (by decide)) (fun _ hk => hk.2) (.int .i64 ((rd_T63 l0_0 x20_1).f0))) (fun _ hk => hk.2) (.string ((rd_T63 l0_0 x20_1).f1))) (fun _ hk => hk.2) (.int .i64 ((rd_T63 l0_0 x20_1).f2))) (fun _ hk => hk.2) (.int .i64 ((rd_T63 l0_0 x20_1).f3))) (fun _ hk => hk.2) (.slice A222_4 ((rd_T63 l0_0 x20_1).f4).length c222_4)) (fun _ hk => trivial)⟩
       have n1_ : Aside0 ((((((w22.setCell ⟨gb223, 0, none⟩ (.int .i64 ((rd_T63 l0_0 x20_1).f0))).setCell ⟨gb223, 1, none⟩ (.string ((rd_T63 l0_0 x20_1).f1))).setCell ⟨gb223, 2, none⟩ (.int .i64 ((rd_T63 l0_0 x20_1).f2))).setCell ⟨gb223, 3, none⟩ (.int .i64 ((rd_T63 l0_0 x20_1).f3))).setCell ⟨gb223, 4, none⟩ (.slice A222_4 ((rd_T63 l0_0 x20_1).f4).length c222_4)).heap[gb214]? = some (.cells #[.slice (some ad222) l0_0.length c0_0] 37 (0, 0))) := ⟨yF1 BK214 NB214_223.out⟩
       have n2_ : Aside0 ((((((w22.setCell ⟨gb223, 0, none⟩ (.int .i64 ((rd_T63 l0_0 x20_1).f0))).setCell ⟨gb223, 1, none⟩ (.string ((rd_T63 l0_0 x20_1).f1))).setCell ⟨gb223, 2, none⟩ (.int .i64 ((rd_T63 l0_0 x20_1).f2))).setCell ⟨gb223, 3, none⟩ (.int .i64 ((rd_T63 l0_0 x20_1).f3))).setCell ⟨gb223, 4, none⟩ (.slice A222_4 ((rd_T63 l0_0 x20_1).f4).length c222_4)).heap[gb223]? = some (.cells #[.int .i64 ((rd_T63 l0_0 x20_1).f0), .string ((rd_T63 l0_0 x20_1).f1), .int .i64 ((rd_T63 l0_0 x20_1).f2), .int .i64 ((rd_T63 l0_0 x20_1).f3), .slice A222_4 ((rd_T63 l0_0 x20_1).f4).length c222_4] 63 (0, 0))) := ⟨puts5 BK223.out⟩
       have n3_ : Aside0 (Below w.heap.size w (((((w22.setCell ⟨gb223, 0, none⟩ (.int .i64 ((rd_T63 l0_0 x20_1).f0))).setCell ⟨gb223, 1, none⟩ (.string ((rd_T63 l0_0 x20_1).f1))).setCell ⟨gb223, 2, none⟩ (.int .i64 ((rd_T63 l0_0 x20_1).f2))).setCell ⟨gb223, 3, none⟩ (.int .i64 ((rd_T63 l0_0 x20_1).f3))).setCell ⟨gb223, 4, none⟩ (.slice A222_4 ((rd_T63 l0_0 x20_1).f4).length c222_4))) := ⟨yG2 HB GE214.out GE223.out⟩
       (try clear HO_4)
       (try clear BK214)
       (try clear BK223)
       (try clear HB)
       generalize (((((w22.setCell ⟨gb223, 0, none⟩ (.int .i64 ((rd_T63 l0_0 x20_1).f0))).setCell ⟨gb223, 1, none⟩ (.string ((rd_T63 l0_0 x20_1).f1))).setCell ⟨gb223, 2, none⟩ (.int .i64 ((rd_T63 l0_0 x20_1).f2))).setCell ⟨gb223, 3, none⟩ (.int .i64 ((rd_T63 l0_0 x20_1).f3))).setCell ⟨gb223, 4, none⟩ (.slice A222_4 ((rd_T63 l0_0 x20_1).f4).length c222_4)) = w25 at n0_ n1_ n2_ n3_ ⊢
       have HO_4 := n0_
       have BK214 := n1_
       have BK223 := n2_
       have HB := n3_
       clear n0_ n1_ n2_ n3_
       have n0_ := aM (Kd.R_drew HO_4.out)
       have n1_ := aM (kD BK214.out)
       have n2_ := aM (kD BK223.out)
       have n3_ := aM (b1 HB.out)
       clear HO_4
       clear BK214
       clear BK223
       clear HB
       have HO_4 := n0_
       have BK214 := n1_
       have BK223 := n2_
       have HB := n3_
       clear n0_ n1_ n2_ n3_
       obtain ⟨Ao27, co27, eo27⟩ := Kd.R_slice HO_4.out
       (first | subst eo27 | (injection eo27 with f1_ f2_ f3_; have f4_ := f1_.symm; have f5_ := f3_.symm; clear f1_ f2_ f3_; subst f4_; subst f5_))
       refine start_ (n := 8) (S := fun w' => w'.cell? ⟨gb223, 0, none⟩ = some (.int .i64 ((rd_T63 l0_0 x20_1).f0)) ∧ w'.cell? ⟨gb223, 1, none⟩ = some (.string ((rd_T63 l0_0 x20_1).f1)) ∧ w'.cell? ⟨gb223, 2, none⟩ = some (.int .i64 ((rd_T63 l0_0 x20_1).f2)) ∧ w'.cell? ⟨gb223, 3, none⟩ = some (.int .i64 ((rd_T63 l0_0 x20_1).f3)) ∧ w'.cell? ⟨gb223, 4, none⟩ = some (.slice A222_4 ((rd_T63 l0_0 x20_1).f4).length c222_4)) (ds := []) (tB 0 8) (by kernel_rfl) rfl rfl (cellc5 BK223.out) (fun hHeld => ?_); refine with_tabW catcode_Catalog.tab7 catcode_Catalog.bits7 (fun HT_ HW_ => ?_)
       generalize w25.drew = w26 at HO_4 BK214 BK223 HB hHeld ⊢
       refine yP HT_ 0 24 (tB 1 8) rfl rfl ?_
       refine yP HT_ 1 25 (tB 3 8) rfl rfl ?_
       refine yP HT_ 4 28 (tB 19 8) rfl rfl ?_
       refine yT HT_ HW_ 2 26 (tB 23 8) rfl rfl hHeld ?_
       refine yT HT_ HW_ 5 29 (tB 55 8) rfl rfl hHeld ?_
       refine yI HT_ 3 (tB 63 8) rfl rfl fun K hK => ?_
       refine yc Tryd.func47 #[.slice Ao27 x4_1.length co27, .int .i64 ((rd_T63 l0_0 x20_1).f0)] rfl rfl ?_
       with_reducible refine (catcode_number.calls k1 (fun k_ => some k_ = (.slice Ao27 x4_1.length co27 : Value).ownBlock) (.slice Ao27 x4_1.length co27) x4_1 ((rd_T63 l0_0 x20_1).f0) t224 w _ ?side1 ?side2 A17.out).mono ?_
       (case side1 => exact yG2 HB GE214.out GE223.out)
       (case side2 => exact Kd.R_tight rfl HO_4.out)
       rintro e w28 ⟨v225, rfl, ho0, hb, hkp⟩
       refine ⟨_, rfl, ?_⟩
       have n0_ := aM (blk_kept (yK BK214) hkp (fun hs_ => (fun e_ => (Kd.R_ne HO_4.out BK214.out (by decide)) e_) hs_))
       have n1_ := aM (blk_kept (yK BK223) hkp (fun hs_ => (fun e_ => (Kd.R_ne HO_4.out BK223.out (by decide)) e_) hs_))
       have n2_ := aM (Kd.R_mono (ok' := fun k_ => True) ho0 (fun k_ hk_ => trivial))
       have n3_ := aM (hb)
       clear BK214
       clear BK223
       clear HB
       clear HO_4
       have BK214 := n0_
       have BK223 := n1_
       have HO226 := n2_
       have HB := n3_
       clear n0_ n1_ n2_ n3_
       (try clear hb)
       (try clear hkp)
       (try clear ho0)
       obtain ⟨Ao29, co29, eo29⟩ := Kd.R_slice HO226.out
       (first | subst eo29 | (injection eo29 with f1_ f2_ f3_; have f4_ := f1_.symm; have f5_ := f3_.symm; clear f1_ f2_ f3_; subst f4_; subst f5_))
       refine hK.out _ _ (cellc5 BK223.out) (fun hHeld => ?_)
       clear hK K
       refine norm_ (a' := ?_) ?_ ?_
       rotate_left
       ·
        show Act.put _ (some 27) _ = _
        simp only [Act.put, s1_, s2_, s3_, i64_w, i32_w]
        rfl
       refine yI HT_ 6 (tB 127 8) rfl rfl fun K hK => ?_
       refine yc Tryd.func48 #[.slice Ao29 t224.length co29, .string ((rd_T63 l0_0 x20_1).f1)] rfl rfl ?_
       with_reducible refine (catcode_text.calls k1 (fun k_ => some k_ = (.slice Ao29 t224.length co29 : Value).ownBlock) (.slice Ao29 t224.length co29) t224 ((rd_T63 l0_0 x20_1).f1) t227 w _ ?side1 ?side2 A18.out).mono ?_
       (case side1 => exact yG2 HB GE214.out GE223.out)
       (case side2 => exact Kd.R_tight rfl HO226.out)
       rintro e w30 ⟨v228, rfl, ho0, hb, hkp⟩
       refine ⟨_, rfl, ?_⟩
       have n0_ := aM (blk_kept (yK BK214) hkp (fun hs_ => (fun e_ => (Kd.R_ne HO226.out BK214.out (by decide)) e_) hs_))
       have n1_ := aM (blk_kept (yK BK223) hkp (fun hs_ => (fun e_ => (Kd.R_ne HO226.out BK223.out (by decide)) e_) hs_))
       have n2_ := aM (Kd.R_mono (ok' := fun k_ => True) ho0 (fun k_ hk_ => trivial))
       have n3_ := aM (hb)
       clear BK214
       clear BK223
       clear HB
       clear HO226
       have BK214 := n0_
       have BK223 := n1_
       have HO229 := n2_
       have HB := n3_
       clear n0_ n1_ n2_ n3_
       (try clear hb)
       (try clear hkp)
       (try clear ho0)
       refine hK.out _ _ (cellc5 BK223.out) (fun hHeld => ?_)
       clear hK K
       refine norm_ (a' := ?_) ?_ ?_
       rotate_left
       ·
        show Act.put _ (some 30) _ = _
        simp only [Act.put, s1_, s2_, s3_, i64_w, i32_w]
        rfl
       refine yP HT_ 7 4 (tB 255 8) rfl rfl ?_
       refine done_ (done_of HT_.out (by kernel_rfl)) ?_
       try go_wp2
       have n0_ := aM (Kd.R_drew HO229.out)
       have n1_ := aM (kD BK214.out)
       have n2_ := aM (kD BK223.out)
       have n3_ := aM (b1 HB.out)
       clear HO229
       clear BK214
       clear BK223
       clear HB
       have HO229 := n0_
       have BK214 := n1_
       have BK223 := n2_
       have HB := n3_
       clear n0_ n1_ n2_ n3_
       obtain ⟨Ao32, co32, eo32⟩ := Kd.R_slice HO229.out
       (first | subst eo32 | (injection eo32 with f1_ f2_ f3_; have f4_ := f1_.symm; have f5_ := f3_.symm; clear f1_ f2_ f3_; subst f4_; subst f5_))
       refine start_ (n := 12) (S := fun w' => w'.cell? ⟨gb223, 0, none⟩ = some (.int .i64 ((rd_T63 l0_0 x20_1).f0)) ∧ w'.cell? ⟨gb223, 1, none⟩ = some (.string ((rd_T63 l0_0 x20_1).f1)) ∧ w'.cell? ⟨gb223, 2, none⟩ = some (.int .i64 ((rd_T63 l0_0 x20_1).f2)) ∧ w'.cell? ⟨gb223, 3, none⟩ = some (.int .i64 ((rd_T63 l0_0 x20_1).f3)) ∧ w'.cell? ⟨gb223, 4, none⟩ = some (.slice A222_4 ((rd_T63 l0_0 x20_1).f4).length c222_4)) (ds := []) (tB 0 12) (by kernel_rfl) rfl rfl (cellc5 BK223.out) (fun hHeld => ?_); refine with_tabW catcode_Catalog.tab8 catcode_Catalog.bits8 (fun HT_ HW_ => ?_)
       generalize w30.drew = w31 at HO229 BK214 BK223 HB hHeld ⊢
       refine yP HT_ 0 31 (tB 1 12) rfl rfl ?_
       refine yP HT_ 1 32 (tB 3 12) rfl rfl ?_
       refine yP HT_ 4 35 (tB 19 12) rfl rfl ?_
       refine yP HT_ 7 38 (tB 147 12) rfl rfl ?_
       refine yT HT_ HW_ 2 33 (tB 151 12) rfl rfl hHeld ?_
       refine yT HT_ HW_ 5 36 (tB 183 12) rfl rfl hHeld ?_
       refine yT HT_ HW_ 8 39 (tB 439 12) rfl rfl hHeld ?_
       refine yP HT_ 9 40 (tB 951 12) rfl rfl ?_
       refine yI HT_ 3 (tB 959 12) rfl rfl fun K hK => ?_
       refine yc Tryd.func47 #[.slice Ao32 t227.length co32, .int .i64 ((rd_T63 l0_0 x20_1).f2)] rfl rfl ?_
       with_reducible refine (catcode_number.calls k1 (fun k_ => some k_ = (.slice Ao32 t227.length co32 : Value).ownBlock) (.slice Ao32 t227.length co32) t227 ((rd_T63 l0_0 x20_1).f2) t230 w _ ?side1 ?side2 A19.out).mono ?_
       (case side1 => exact yG2 HB GE214.out GE223.out)
       (case side2 => exact Kd.R_tight rfl HO229.out)
       rintro e w33 ⟨v231, rfl, ho0, hb, hkp⟩
       refine ⟨_, rfl, ?_⟩
       have n0_ := aM (blk_kept (yK BK214) hkp (fun hs_ => (fun e_ => (Kd.R_ne HO229.out BK214.out (by decide)) e_) hs_))
       have n1_ := aM (blk_kept (yK BK223) hkp (fun hs_ => (fun e_ => (Kd.R_ne HO229.out BK223.out (by decide)) e_) hs_))
       have n2_ := aM (Kd.R_mono (ok' := fun k_ => True) ho0 (fun k_ hk_ => trivial))
       have n3_ := aM (hb)
       clear BK214
       clear BK223
       clear HB
       clear HO229
       have BK214 := n0_
       have BK223 := n1_
       have HO232 := n2_
       have HB := n3_
       clear n0_ n1_ n2_ n3_
       (try clear hb)
       (try clear hkp)
       (try clear ho0)
       obtain ⟨Ao34, co34, eo34⟩ := Kd.R_slice HO232.out
       (first | subst eo34 | (injection eo34 with f1_ f2_ f3_; have f4_ := f1_.symm; have f5_ := f3_.symm; clear f1_ f2_ f3_; subst f4_; subst f5_))
       refine hK.out _ _ (cellc5 BK223.out) (fun hHeld => ?_)
       clear hK K
       refine norm_ (a' := ?_) ?_ ?_
       rotate_left
       ·
        show Act.put _ (some 34) _ = _
        simp only [Act.put, s1_, s2_, s3_, i64_w, i32_w]
        rfl
       refine yI HT_ 6 (tB 1023 12) rfl rfl fun K hK => ?_
       refine yc Tryd.func47 #[.slice Ao34 t230.length co34, .int .i64 ((rd_T63 l0_0 x20_1).f3)] rfl rfl ?_
       with_reducible refine (catcode_number.calls k1 (fun k_ => some k_ = (.slice Ao34 t230.length co34 : Value).ownBlock) (.slice Ao34 t230.length co34) t230 ((rd_T63 l0_0 x20_1).f3) t233 w _ ?side1 ?side2 A20.out).mono ?_
       (case side1 => exact yG2 HB GE214.out GE223.out)
       (case side2 => exact Kd.R_tight rfl HO232.out)
       rintro e w35 ⟨v234, rfl, ho0, hb, hkp⟩
       refine ⟨_, rfl, ?_⟩
       have n0_ := aM (blk_kept (yK BK214) hkp (fun hs_ => (fun e_ => (Kd.R_ne HO232.out BK214.out (by decide)) e_) hs_))
       have n1_ := aM (blk_kept (yK BK223) hkp (fun hs_ => (fun e_ => (Kd.R_ne HO232.out BK223.out (by decide)) e_) hs_))
       have n2_ := aM (Kd.R_mono (ok' := fun k_ => True) ho0 (fun k_ hk_ => trivial))
       have n3_ := aM (hb)
       clear BK214
       clear BK223
       clear HB
       clear HO232
       have BK214 := n0_
       have BK223 := n1_
       have HO235 := n2_
       have HB := n3_
       clear n0_ n1_ n2_ n3_
       (try clear hb)
       (try clear hkp)
       (try clear ho0)
       obtain ⟨Ao36, co36, eo36⟩ := Kd.R_slice HO235.out
       (first | subst eo36 | (injection eo36 with f1_ f2_ f3_; have f4_ := f1_.symm; have f5_ := f3_.symm; clear f1_ f2_ f3_; subst f4_; subst f5_))
       refine hK.out _ _ (cellc5 BK223.out) (fun hHeld => ?_)
       clear hK K
       refine norm_ (a' := ?_) ?_ ?_
       rotate_left
       ·
        show Act.put _ (some 37) _ = _
        simp only [Act.put, s1_, s2_, s3_, i64_w, i32_w]
        rfl
       refine yI HT_ 10 (tB 2047 12) rfl rfl fun K hK => ?_
       refine yc Tryd.func47 #[.slice Ao36 t233.length co36, .int .i64 (((rd_T63 l0_0 x20_1).f4).length : Int)] rfl rfl ?_
       with_reducible refine (catcode_number.calls k1 (fun k_ => some k_ = (.slice Ao36 t233.length co36 : Value).ownBlock) (.slice Ao36 t233.length co36) t233 (((rd_T63 l0_0 x20_1).f4).length : Int) t236 w _ ?side1 ?side2 A21.out).mono ?_
       (case side1 => exact yG2 HB GE214.out GE223.out)
       (case side2 => exact Kd.R_tight rfl HO235.out)
       rintro e w37 ⟨v237, rfl, ho0, hb, hkp⟩
       refine ⟨_, rfl, ?_⟩
       have n0_ := aM (blk_kept (yK BK214) hkp (fun hs_ => (fun e_ => (Kd.R_ne HO235.out BK214.out (by decide)) e_) hs_))
       have n1_ := aM (blk_kept (yK BK223) hkp (fun hs_ => (fun e_ => (Kd.R_ne HO235.out BK223.out (by decide)) e_) hs_))
       have n2_ := aM (Kd.R_mono (ok' := fun k_ => True) ho0 (fun k_ hk_ => trivial))
       have n3_ := aM (hb)
       clear BK214
       clear BK223
       clear HB
       clear HO235
       have BK214 := n0_
       have BK223 := n1_
       have HO238 := n2_
       have HB := n3_
       clear n0_ n1_ n2_ n3_
       (try clear hb)
       (try clear hkp)
       (try clear ho0)
       refine hK.out _ _ (cellc5 BK223.out) (fun hHeld => ?_)
       clear hK K
       refine norm_ (a' := ?_) ?_ ?_
       rotate_left
       ·
        show Act.put _ (some 41) _ = _
        simp only [Act.put, s1_, s2_, s3_, i64_w, i32_w]
        rfl
       refine yP HT_ 11 4 (tB 4095 12) rfl rfl ?_
       refine done_ (done_of HT_.out (by kernel_rfl)) ?_
       obtain ⟨hcz38_0, hcz38_1, hcz38_2, hcz38_3, hcz38_4, hfz38_0, hfz38_1, hfz38_2, hfz38_3, hfz38_4⟩ := cells5 BK223.out
       try go_wp2
       go_loopg [4, 45] k1 (fun kq v4 v45 w' => ∃ (x4_2 : List Int) (x45_2 : Int), v45 = .int .i64 x45_2 ∧ Aside0 (catcode_Catalog.l1 kq x4_2 l0_0 (l0_0.length : Int) x20_1 ((rd_T63 l0_0 x20_1).f4) (((rd_T63 l0_0 x20_1).f4).length : Int) x45_2 = some (r1, r2)) ∧ Aside0 (kq ≤ k1) ∧ Aside0 (Kd.R (Kd.int .u8) 5 w' w.heap.size (fun _ => True) v4 x4_2) ∧ Aside0 (w'.heap[gb214]? = some (.cells #[(.slice (some ad222) l0_0.length c0_0)] 37 (0, 0))) ∧ Aside0 (w'.heap[gb223]? = some (.cells #[.int .i64 ((rd_T63 l0_0 x20_1).f0), .string ((rd_T63 l0_0 x20_1).f1), .int .i64 ((rd_T63 l0_0 x20_1).f2), .int .i64 ((rd_T63 l0_0 x20_1).f3), (.slice A222_4 ((rd_T63 l0_0 x20_1).f4).length c222_4)] 63 (0, 0))) ∧ Aside0 (Below w.heap.size w w'))
       case atStart => exact ⟨(t236), (0), yS, H', ⟨Nat.le_refl _⟩, ⟨yR HO238.out⟩, ⟨yK BK214⟩, ⟨yK BK223⟩, ⟨yG2 HB GE214.out GE223.out⟩⟩
       case round =>
        clear H'
        try clear c3
        try clear c14
        try clear c14b0
        try clear c15
        try clear c15b0
        try clear c16
        try clear c16b0
        try clear hcz10_0
        try clear hcz13_0
        try clear hcz24_0 hcz24_1 hcz24_2 hcz24_3 hcz24_4
        try clear hcz6_0
        try clear hfz10_0
        try clear hfz13_0
        try clear hfz24_0 hfz24_1 hfz24_2 hfz24_3 hfz24_4
        try clear hfz6_0
        try clear hx222_0 hx222_1 hx222_2 hx222_3 hx222_4
        try clear p222
        try clear q222
        obtain ⟨x4_2, x45_2, rfl, HA, HK2, HO_4, BK214, BK223, HB⟩ := hrel
        cases gk with
        | zero => exact absurd HA.out (by simp [catcode_Catalog.l1])
        | succ k2 =>
         have H := HA.out
         clear HA
         simp only [catcode_Catalog.l1] at H
         by_cases c39 : x45_2 < (((rd_T63 l0_0 x20_1).f4).length : Int)
         ·
          rw [if_pos c39] at H
          have c39b0 : decide (x45_2 < (((rd_T63 l0_0 x20_1).f4).length : Int)) = true := decide_eq_true c39
          clear c39
          by_cases c40 : 0 ≤ x45_2
          ·
           rw [if_pos c40] at H
           have c40b0 : decide (0 ≤ x45_2) = true := decide_eq_true c40
           clear c40
           by_cases c41 : x45_2 < (((rd_T63 l0_0 x20_1).f4).length : Int)
           ·
            rw [if_pos c41] at H
            have c41b0 : decide (x45_2 < (((rd_T63 l0_0 x20_1).f4).length : Int)) = true := decide_eq_true c41
            clear c41
            obtain ⟨t241, A42, H⟩ := yb H
            obtain ⟨t244, A43, H⟩ := yb H
            have H' := aM H
            clear H
            have p239 : 0 ≤ (x45_2 : Int) := oD yA
            have q239 : x45_2 < (((rd_T63 l0_0 x20_1).f4).length : Int) := oD yA
            obtain ⟨ad239, e239, hx239_0, hx239_1, hx239_2, hx239_3, hx239_4, hx239_5, hx239_6, hx239_7⟩ := at_T97 HR222_4.out x45_2 p239 q239
            cases e239
            replace hx239_0 := pw_cell_below HB.out hx239_0
            replace hx239_1 := pw_cell_below HB.out hx239_1
            replace hx239_2 := pw_cell_below HB.out hx239_2
            replace hx239_3 := pw_cell_below HB.out hx239_3
            replace hx239_4 := pw_cell_below HB.out hx239_4
            replace hx239_5 := pw_cell_below HB.out hx239_5
            replace hx239_6 := pw_cell_below HB.out hx239_6
            replace hx239_7 := pw_cell_below HB.out hx239_7
            replace p239 := eq_true p239
            replace q239 := eq_true q239
            try go_wp2_with (first | ((with_reducible refine gate_dst (N := 8) rfl ?_); refine yX (N := 8) (cs := #[.int .i64 0, .string (⟨#[]⟩ : ByteArray), .int .i64 0, .int .i64 0, .bool false, .int .i64 0, .int .i64 0, .string (⟨#[]⟩ : ByteArray)]) (t := 97) ?_; intro gb240 hg w44 hbox hb; replace HO_4 := aM (Kd.R_below (yR HO_4.out) hb); have BK240 := aM (hbox); have GW240 := yZ hg (yG2 HB GE214.out GE223.out); have GE240 := yZ hg (yG2 HB GE214.out GE223.out); replace HB := aM (bP (yG2 HB GE214.out GE223.out) hb); have NB214_240 := yN hg (yK BK214); have NB240_214 := yM hg (yK BK214); replace BK214 := aM (kB (yK BK214) hb); have NB223_240 := yN hg (yK BK223); have NB240_223 := yM hg (yK BK223); replace BK223 := aM (kB (yK BK223) hb); clear hb hbox hg; have hnb45 := NB240_214.out; have hnc45 := NB214_240.out; have hnb46 := NB240_223.out; have hnc46 := NB223_240.out; obtain ⟨hcz47_0, hcz47_1, hcz47_2, hcz47_3, hcz47_4, hcz47_5, hcz47_6, hcz47_7, hfz47_0, hfz47_1, hfz47_2, hfz47_3, hfz47_4, hfz47_5, hfz47_6, hfz47_7⟩ := cells8 BK240.out))
            have n0_ : Aside0 (Kd.R (Kd.int .u8) 5 ((((((((w44.setCell ⟨gb240, 0, none⟩ (.int .i64 ((rd_T97 ((rd_T63 l0_0 x20_1).f4) x45_2).f0))).setCell ⟨gb240, 1, none⟩ (.string ((rd_T97 ((rd_T63 l0_0 x20_1).f4) x45_2).f1))).setCell ⟨gb240, 2, none⟩ (.int .i64 ((rd_T97 ((rd_T63 l0_0 x20_1).f4) x45_2).f2.f0))).setCell ⟨gb240, 3, none⟩ (.int .i64 ((rd_T97 ((rd_T63 l0_0 x20_1).f4) x45_2).f2.f1))).setCell ⟨gb240, 4, none⟩ (.bool ((rd_T97 ((rd_T63 l0_0 x20_1).f4) x45_2).f3))).setCell ⟨gb240, 5, none⟩ (.int .i64 ((rd_T97 ((rd_T63 l0_0 x20_1).f4) x45_2).f4.f0))).setCell ⟨gb240, 6, none⟩ (.int .i64 ((rd_T97 ((rd_T63 l0_0 x20_1).f4) x45_2).f4.f1))).setCell ⟨gb240, 7, none⟩ (.string ((rd_T97 ((rd_T63 l0_0 x20_1).f4) x45_2).f4.f2))) w.heap.size (fun _ => True) u4 x4_2) := ⟨by (with_reducible repeat (first | apply Kd.R_alloc | apply Kd.R_drewN | apply Kd.R_drew)); exact Kd.R_mono (Kd.R_far (p := ⟨gb240, 7, none⟩) (Kd.R_far (p := ⟨gb240, 6, none⟩) (Kd.R_far (p := ⟨gb240, 5, none⟩) (Kd.R_far (p := ⟨gb240, 4, none⟩) (Kd.R_far (p := ⟨gb240, 3, none⟩) (Kd.R_far (p := ⟨gb240, 2, none⟩) (Kd.R_far (p := ⟨gb240, 1, none⟩) (Kd.R_far (p := ⟨gb240, 0, none⟩) (Kd.R_types HO_4.out BK240.out (by decide)) (fun _ hk => hk.2) (.int .i64 ((rd_T97 ((rd_T63 l0_0 x20_1).f4) x45_2).f0))) (fun _ hk => hk.2) (.string ((rd_T97 ((rd_T63 l0_0 x20_1).f4) x45_2).f1))) (fun _ hk => hk.2) (.int .i64 ((rd_T97 ((rd_T63 l0_0 x20_1).f4) x45_2).f2.f0))) (fun _ hk => hk.2) (.int .i64 ((rd_T97 ((rd_T63 l0_0 x20_1).f4) x45_2).f2.f1))) (fun _ hk => hk.2) (.bool ((rd_T97 ((rd_T63 l0_0 x20_1).f4) x45_2).f3))) (fun _ hk => hk.2) (.int .i64 ((rd_T97 ((rd_T63 l0_0 x20_1).f4) x45_2).f4.f0))) (fun _ hk => hk.2) (.int .i64 ((rd_T97 ((rd_T63 l0_0 x20_1).f4) x45_2).f4.f1))) (fun _ hk => hk.2) (.string ((rd_T97 ((rd_T63 l0_0 x20_1).f4) x45_2).f4.f2))) (fun _ hk => trivial)⟩
            have n1_ : Aside0 (((((((((w44.setCell ⟨gb240, 0, none⟩ (.int .i64 ((rd_T97 ((rd_T63 l0_0 x20_1).f4) x45_2).f0))).setCell ⟨gb240, 1, none⟩ (.string ((rd_T97 ((rd_T63 l0_0 x20_1).f4) x45_2).f1))).setCell ⟨gb240, 2, none⟩ (.int .i64 ((rd_T97 ((rd_T63 l0_0 x20_1).f4) x45_2).f2.f0))).setCell ⟨gb240, 3, none⟩ (.int .i64 ((rd_T97 ((rd_T63 l0_0 x20_1).f4) x45_2).f2.f1))).setCell ⟨gb240, 4, none⟩ (.bool ((rd_T97 ((rd_T63 l0_0 x20_1).f4) x45_2).f3))).setCell ⟨gb240, 5, none⟩ (.int .i64 ((rd_T97 ((rd_T63 l0_0 x20_1).f4) x45_2).f4.f0))).setCell ⟨gb240, 6, none⟩ (.int .i64 ((rd_T97 ((rd_T63 l0_0 x20_1).f4) x45_2).f4.f1))).setCell ⟨gb240, 7, none⟩ (.string ((rd_T97 ((rd_T63 l0_0 x20_1).f4) x45_2).f4.f2))).heap[gb214]? = some (.cells #[.slice (some ad222) l0_0.length c0_0] 37 (0, 0))) := ⟨yF1 BK214 NB214_240.out⟩
            have n2_ : Aside0 (((((((((w44.setCell ⟨gb240, 0, none⟩ (.int .i64 ((rd_T97 ((rd_T63 l0_0 x20_1).f4) x45_2).f0))).setCell ⟨gb240, 1, none⟩ (.string ((rd_T97 ((rd_T63 l0_0 x20_1).f4) x45_2).f1))).setCell ⟨gb240, 2, none⟩ (.int .i64 ((rd_T97 ((rd_T63 l0_0 x20_1).f4) x45_2).f2.f0))).setCell ⟨gb240, 3, none⟩ (.int .i64 ((rd_T97 ((rd_T63 l0_0 x20_1).f4) x45_2).f2.f1))).setCell ⟨gb240, 4, none⟩ (.bool ((rd_T97 ((rd_T63 l0_0 x20_1).f4) x45_2).f3))).setCell ⟨gb240, 5, none⟩ (.int .i64 ((rd_T97 ((rd_T63 l0_0 x20_1).f4) x45_2).f4.f0))).setCell ⟨gb240, 6, none⟩ (.int .i64 ((rd_T97 ((rd_T63 l0_0 x20_1).f4) x45_2).f4.f1))).setCell ⟨gb240, 7, none⟩ (.string ((rd_T97 ((rd_T63 l0_0 x20_1).f4) x45_2).f4.f2))).heap[gb223]? = some (.cells #[.int .i64 ((rd_T63 l0_0 x20_1).f0), .string ((rd_T63 l0_0 x20_1).f1), .int .i64 ((rd_T63 l0_0 x20_1).f2), .int .i64 ((rd_T63 l0_0 x20_1).f3), .slice (some ad239) ((rd_T63 l0_0 x20_1).f4).length c222_4] 63 (0, 0))) := ⟨yF1 BK223 NB223_240.out⟩
            have n3_ : Aside0 (((((((((w44.setCell ⟨gb240, 0, none⟩ (.int .i64 ((rd_T97 ((rd_T63 l0_0 x20_1).f4) x45_2).f0))).setCell ⟨gb240, 1, none⟩ (.string ((rd_T97 ((rd_T63 l0_0 x20_1).f4) x45_2).f1))).setCell ⟨gb240, 2, none⟩ (.int .i64 ((rd_T97 ((rd_T63 l0_0 x20_1).f4) x45_2).f2.f0))).setCell ⟨gb240, 3, none⟩ (.int .i64 ((rd_T97 ((rd_T63 l0_0 x20_1).f4) x45_2).f2.f1))).setCell ⟨gb240, 4, none⟩ (.bool ((rd_T97 ((rd_T63 l0_0 x20_1).f4) x45_2).f3))).setCell ⟨gb240, 5, none⟩ (.int .i64 ((rd_T97 ((rd_T63 l0_0 x20_1).f4) x45_2).f4.f0))).setCell ⟨gb240, 6, none⟩ (.int .i64 ((rd_T97 ((rd_T63 l0_0 x20_1).f4) x45_2).f4.f1))).setCell ⟨gb240, 7, none⟩ (.string ((rd_T97 ((rd_T63 l0_0 x20_1).f4) x45_2).f4.f2))).heap[gb240]? = some (.cells #[.int .i64 ((rd_T97 ((rd_T63 l0_0 x20_1).f4) x45_2).f0), .string ((rd_T97 ((rd_T63 l0_0 x20_1).f4) x45_2).f1), .int .i64 ((rd_T97 ((rd_T63 l0_0 x20_1).f4) x45_2).f2.f0), .int .i64 ((rd_T97 ((rd_T63 l0_0 x20_1).f4) x45_2).f2.f1), .bool ((rd_T97 ((rd_T63 l0_0 x20_1).f4) x45_2).f3), .int .i64 ((rd_T97 ((rd_T63 l0_0 x20_1).f4) x45_2).f4.f0), .int .i64 ((rd_T97 ((rd_T63 l0_0 x20_1).f4) x45_2).f4.f1), .string ((rd_T97 ((rd_T63 l0_0 x20_1).f4) x45_2).f4.f2)] 97 (0, 0))) := ⟨puts8 BK240.out⟩
            have n4_ : Aside0 (Below w.heap.size w ((((((((w44.setCell ⟨gb240, 0, none⟩ (.int .i64 ((rd_T97 ((rd_T63 l0_0 x20_1).f4) x45_2).f0))).setCell ⟨gb240, 1, none⟩ (.string ((rd_T97 ((rd_T63 l0_0 x20_1).f4) x45_2).f1))).setCell ⟨gb240, 2, none⟩ (.int .i64 ((rd_T97 ((rd_T63 l0_0 x20_1).f4) x45_2).f2.f0))).setCell ⟨gb240, 3, none⟩ (.int .i64 ((rd_T97 ((rd_T63 l0_0 x20_1).f4) x45_2).f2.f1))).setCell ⟨gb240, 4, none⟩ (.bool ((rd_T97 ((rd_T63 l0_0 x20_1).f4) x45_2).f3))).setCell ⟨gb240, 5, none⟩ (.int .i64 ((rd_T97 ((rd_T63 l0_0 x20_1).f4) x45_2).f4.f0))).setCell ⟨gb240, 6, none⟩ (.int .i64 ((rd_T97 ((rd_T63 l0_0 x20_1).f4) x45_2).f4.f1))).setCell ⟨gb240, 7, none⟩ (.string ((rd_T97 ((rd_T63 l0_0 x20_1).f4) x45_2).f4.f2)))) := ⟨yG3 HB GE214.out GE223.out GE240.out⟩
            (try clear HO_4)
            (try clear BK214)
            (try clear BK223)
            (try clear BK240)
            (try clear HB)
            generalize ((((((((w44.setCell ⟨gb240, 0, none⟩ (.int .i64 ((rd_T97 ((rd_T63 l0_0 x20_1).f4) x45_2).f0))).setCell ⟨gb240, 1, none⟩ (.string ((rd_T97 ((rd_T63 l0_0 x20_1).f4) x45_2).f1))).setCell ⟨gb240, 2, none⟩ (.int .i64 ((rd_T97 ((rd_T63 l0_0 x20_1).f4) x45_2).f2.f0))).setCell ⟨gb240, 3, none⟩ (.int .i64 ((rd_T97 ((rd_T63 l0_0 x20_1).f4) x45_2).f2.f1))).setCell ⟨gb240, 4, none⟩ (.bool ((rd_T97 ((rd_T63 l0_0 x20_1).f4) x45_2).f3))).setCell ⟨gb240, 5, none⟩ (.int .i64 ((rd_T97 ((rd_T63 l0_0 x20_1).f4) x45_2).f4.f0))).setCell ⟨gb240, 6, none⟩ (.int .i64 ((rd_T97 ((rd_T63 l0_0 x20_1).f4) x45_2).f4.f1))).setCell ⟨gb240, 7, none⟩ (.string ((rd_T97 ((rd_T63 l0_0 x20_1).f4) x45_2).f4.f2))) = w48 at n0_ n1_ n2_ n3_ n4_ ⊢
            have HO_4 := n0_
            have BK214 := n1_
            have BK223 := n2_
            have BK240 := n3_
            have HB := n4_
            clear n0_ n1_ n2_ n3_ n4_
            have n0_ := aM (Kd.R_drew HO_4.out)
            have n1_ := aM (kD BK214.out)
            have n2_ := aM (kD BK223.out)
            have n3_ := aM (kD BK240.out)
            have n4_ := aM (b1 HB.out)
            clear HO_4
            clear BK214
            clear BK223
            clear BK240
            clear HB
            have HO_4 := n0_
            have BK214 := n1_
            have BK223 := n2_
            have BK240 := n3_
            have HB := n4_
            clear n0_ n1_ n2_ n3_ n4_
            obtain ⟨Ao50, co50, eo50⟩ := Kd.R_slice HO_4.out
            (first | subst eo50 | (injection eo50 with f1_ f2_ f3_; have f4_ := f1_.symm; have f5_ := f3_.symm; clear f1_ f2_ f3_; subst f4_; subst f5_))
            refine start_ (n := 7) (S := fun w' => w'.cell? ⟨gb240, 0, none⟩ = some (.int .i64 ((rd_T97 ((rd_T63 l0_0 x20_1).f4) x45_2).f0)) ∧ w'.cell? ⟨gb240, 1, none⟩ = some (.string ((rd_T97 ((rd_T63 l0_0 x20_1).f4) x45_2).f1)) ∧ w'.cell? ⟨gb240, 2, none⟩ = some (.int .i64 ((rd_T97 ((rd_T63 l0_0 x20_1).f4) x45_2).f2.f0)) ∧ w'.cell? ⟨gb240, 3, none⟩ = some (.int .i64 ((rd_T97 ((rd_T63 l0_0 x20_1).f4) x45_2).f2.f1)) ∧ w'.cell? ⟨gb240, 4, none⟩ = some (.bool ((rd_T97 ((rd_T63 l0_0 x20_1).f4) x45_2).f3)) ∧ w'.cell? ⟨gb240, 5, none⟩ = some (.int .i64 ((rd_T97 ((rd_T63 l0_0 x20_1).f4) x45_2).f4.f0)) ∧ w'.cell? ⟨gb240, 6, none⟩ = some (.int .i64 ((rd_T97 ((rd_T63 l0_0 x20_1).f4) x45_2).f4.f1)) ∧ w'.cell? ⟨gb240, 7, none⟩ = some (.string ((rd_T97 ((rd_T63 l0_0 x20_1).f4) x45_2).f4.f2))) (ds := []) (tB 0 7) (by kernel_rfl) rfl rfl (cellc8 BK240.out) (fun hHeld => ?_)
            generalize w48.drew = w49 at HO_4 BK214 BK223 BK240 HB hHeld ⊢
            refine yP0 0 49 (tB 1 7) rfl rfl ?_
            refine yP0 1 50 (tB 3 7) rfl rfl ?_
            refine yT0 2 51 (tB 7 7) rfl rfl hHeld ?_
            refine yT0 4 53 (tB 23 7) rfl rfl hHeld ?_
            refine yI0 3 (tB 31 7) rfl rfl fun K hK => ?_
            refine yc Tryd.func47 #[.slice Ao50 x4_2.length co50, .int .i64 ((rd_T97 ((rd_T63 l0_0 x20_1).f4) x45_2).f0)] rfl rfl ?_
            with_reducible refine (catcode_number.calls k2 (fun k_ => some k_ = (.slice Ao50 x4_2.length co50 : Value).ownBlock) (.slice Ao50 x4_2.length co50) x4_2 ((rd_T97 ((rd_T63 l0_0 x20_1).f4) x45_2).f0) t241 w _ ?side1 ?side2 A42.out).mono ?_
            (case side1 => exact yG3 HB GE214.out GE223.out GE240.out)
            (case side2 => exact Kd.R_tight rfl HO_4.out)
            rintro e w51 ⟨v242, rfl, ho0, hb, hkp⟩
            refine ⟨_, rfl, ?_⟩
            have n0_ := aM (blk_kept (yK BK214) hkp (fun hs_ => (fun e_ => (Kd.R_ne HO_4.out BK214.out (by decide)) e_) hs_))
            have n1_ := aM (blk_kept (yK BK223) hkp (fun hs_ => (fun e_ => (Kd.R_ne HO_4.out BK223.out (by decide)) e_) hs_))
            have n2_ := aM (blk_kept (yK BK240) hkp (fun hs_ => (fun e_ => (Kd.R_ne HO_4.out BK240.out (by decide)) e_) hs_))
            have n3_ := aM (Kd.R_mono (ok' := fun k_ => True) ho0 (fun k_ hk_ => trivial))
            have n4_ := aM (hb)
            clear BK214
            clear BK223
            clear BK240
            clear HB
            clear HO_4
            have BK214 := n0_
            have BK223 := n1_
            have BK240 := n2_
            have HO243 := n3_
            have HB := n4_
            clear n0_ n1_ n2_ n3_ n4_
            (try clear hb)
            (try clear hkp)
            (try clear ho0)
            obtain ⟨Ao52, co52, eo52⟩ := Kd.R_slice HO243.out
            (first | subst eo52 | (injection eo52 with f1_ f2_ f3_; have f4_ := f1_.symm; have f5_ := f3_.symm; clear f1_ f2_ f3_; subst f4_; subst f5_))
            refine hK.out _ _ (cellc8 BK240.out) (fun hHeld => ?_)
            clear hK K
            refine norm_ (a' := ?_) ?_ ?_
            rotate_left
            ·
             show Act.put _ (some 52) _ = _
             simp only [Act.put, s1_, s2_, s3_, i64_w, i32_w]
             rfl
            refine yI0 5 (tB 63 7) rfl rfl fun K hK => ?_
            refine yc Tryd.func49 #[.slice Ao52 t241.length co52, .agg #[.int .i64 ((rd_T97 ((rd_T63 l0_0 x20_1).f4) x45_2).f0), .string ((rd_T97 ((rd_T63 l0_0 x20_1).f4) x45_2).f1), .int .i64 ((rd_T97 ((rd_T63 l0_0 x20_1).f4) x45_2).f2.f0), .int .i64 ((rd_T97 ((rd_T63 l0_0 x20_1).f4) x45_2).f2.f1), .bool ((rd_T97 ((rd_T63 l0_0 x20_1).f4) x45_2).f3), .int .i64 ((rd_T97 ((rd_T63 l0_0 x20_1).f4) x45_2).f4.f0), .int .i64 ((rd_T97 ((rd_T63 l0_0 x20_1).f4) x45_2).f4.f1), .string ((rd_T97 ((rd_T63 l0_0 x20_1).f4) x45_2).f4.f2)]] rfl rfl ?_
            with_reducible refine (catcode_body.calls k2 (fun k_ => some k_ = (.slice Ao52 t241.length co52 : Value).ownBlock) (.slice Ao52 t241.length co52) t241 ((rd_T97 ((rd_T63 l0_0 x20_1).f4) x45_2).f0) ((rd_T97 ((rd_T63 l0_0 x20_1).f4) x45_2).f1) ((rd_T97 ((rd_T63 l0_0 x20_1).f4) x45_2).f2.f0) ((rd_T97 ((rd_T63 l0_0 x20_1).f4) x45_2).f2.f1) ((rd_T97 ((rd_T63 l0_0 x20_1).f4) x45_2).f3) ((rd_T97 ((rd_T63 l0_0 x20_1).f4) x45_2).f4.f0) ((rd_T97 ((rd_T63 l0_0 x20_1).f4) x45_2).f4.f1) ((rd_T97 ((rd_T63 l0_0 x20_1).f4) x45_2).f4.f2) t244 w _ ?side1 ?side2 A43.out).mono ?_
            (case side1 => exact yG3 HB GE214.out GE223.out GE240.out)
            (case side2 => exact Kd.R_tight rfl HO243.out)
            rintro e w53 ⟨v245, rfl, ho0, hb, hkp⟩
            refine ⟨_, rfl, ?_⟩
            have n0_ := aM (blk_kept (yK BK214) hkp (fun hs_ => (fun e_ => (Kd.R_ne HO243.out BK214.out (by decide)) e_) hs_))
            have n1_ := aM (blk_kept (yK BK223) hkp (fun hs_ => (fun e_ => (Kd.R_ne HO243.out BK223.out (by decide)) e_) hs_))
            have n2_ := aM (blk_kept (yK BK240) hkp (fun hs_ => (fun e_ => (Kd.R_ne HO243.out BK240.out (by decide)) e_) hs_))
            have n3_ := aM (Kd.R_mono (ok' := fun k_ => True) ho0 (fun k_ hk_ => trivial))
            have n4_ := aM (hb)
            clear BK214
            clear BK223
            clear BK240
            clear HB
            clear HO243
            have BK214 := n0_
            have BK223 := n1_
            have BK240 := n2_
            have HO246 := n3_
            have HB := n4_
            clear n0_ n1_ n2_ n3_ n4_
            (try clear hb)
            (try clear hkp)
            (try clear ho0)
            refine hK.out _ _ (cellc8 BK240.out) (fun hHeld => ?_)
            clear hK K
            refine norm_ (a' := ?_) ?_ ?_
            rotate_left
            ·
             show Act.put _ (some 54) _ = _
             simp only [Act.put, s1_, s2_, s3_, i64_w, i32_w]
             rfl
            refine yP0 6 4 (tB 127 7) rfl rfl ?_
            refine done_ (by kernel_rfl) ?_
            try go_wp2
            go_roundg k2
            case measure => have := HK1.out; have := HK2.out; omega
            case rel => exact ⟨(t244), (wrap64 (x45_2 + 1)), yS, H', ⟨by have := HK1.out; have := HK2.out; omega⟩, ⟨yR HO246.out⟩, ⟨yK BK214⟩, ⟨yK BK223⟩, ⟨yG3 HB GE214.out GE223.out GE240.out⟩⟩
           ·
            rw [if_neg c41] at H
            exact absurd H (by simp)
          ·
           rw [if_neg c40] at H
           exact absurd H (by simp)
         ·
          rw [if_neg c39] at H
          have c39b0 : decide (x45_2 < (((rd_T63 l0_0 x20_1).f4).length : Int)) = false := decide_eq_false c39
          clear c39
          have H' := aM H
          clear H
          go_wp2
          go_roundg k2
          case measure => have := HK1.out; have := HK2.out; omega
          case rel => exact ⟨(x4_2), (wrap64 (x20_1 + 1)), yS, H', ⟨by have := HK1.out; have := HK2.out; omega⟩, ⟨yR HO_4.out⟩, ⟨yK BK214⟩, ⟨yG2 HB GE214.out GE223.out⟩⟩
      ·
       rw [if_neg c16] at H
       exact absurd H (by simp)
     ·
      rw [if_neg c15] at H
      exact absurd H (by simp)
    ·
     rw [if_neg c14] at H
     have c14b0 : decide (x20_1 < (l0_0.length : Int)) = false := decide_eq_false c14
     clear c14
     simp only [Option.some.injEq, Prod.mk.injEq] at H
     obtain ⟨rfl, rfl⟩ := H
     have hcv54 := own_string (P := Tryd.prog) Tryd.underlying78 Tryd.underlying5 Tryd.underlying9 (Kd.own_of_R HO_4.out)
     go_wp2
     go_ret2
     exact ⟨yE, yG1 HB GE214.out⟩
 ·
  replace c3 := Bool.eq_false_iff.mpr c3
  subst c3
  replace H := yf H
  simp only [Option.some.injEq, Prod.mk.injEq] at H
  obtain ⟨rfl, rfl⟩ := H
  go_enter Tryd.func15, Tryd.ntmps15
  go_wp2_with (first | ((with_reducible refine gate_dst (N := 1) rfl ?_); refine yX (N := 1) (cs := #[.slice A0_0 l0_0.length c0_0]) (t := 37) ?_; intro gb214 hg w55 hbox hb; have BK214 := aM (hbox); have GW214 := yZ hg (yB HB); have GE214 := yZ hg (yB HB); replace HB := aM (bP (yB HB) hb); clear hb hbox hg; obtain ⟨hcz56_0, hfz56_0⟩ := cells1 BK214.out) | ((with_reducible refine gate_callee (f := 46) rfl ?_); refine yC 10 Tryd.func46 #[.agg #[.slice A0_0 l0_0.length c0_0]] rfl ?_; (with_reducible refine (schema_Right.calls k _ _ l0_0 false _ ?side1 ?side2 ?side3 A2.out).mono ?_); (case side1 => exact yW (Kd.C_below HR0_0.out HB.out)); (case side2 => exact HC0_0.out); (case side3 => first | (with_reducible exact HG.out) | exact Glob.below HG.out (yG1 HB GE214.out)); rintro e w57 ⟨rfl, hb⟩; refine ⟨_, rfl, ?_⟩; replace BK214 := aM (kB (yK BK214) hb); replace HB := aM (bP (yG1 HB GE214.out) hb); (try clear hb)))
  go_ret2
  exact ⟨yE, yG1 HB GE214.out⟩
end Go.Proofs.YtgefikclhfjcgaaDoor.HCatcodeValues

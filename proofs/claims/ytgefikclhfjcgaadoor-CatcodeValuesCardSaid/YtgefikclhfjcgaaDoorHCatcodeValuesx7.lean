/- For Go functions that CatcodeValues reaches: Lean functions, and walks that show that each call comes to what its Lean function tells; no condition but those that each theorem states. (Made by a program of this session over the kit's print.py.) -/
import Derived.Test.YtgefikclhfjcgaaDoorHCatcodeValuesx0
import Derived.Test.YtgefikclhfjcgaaDoorHCatcodeValuesx3
import Derived.Test.YtgefikclhfjcgaaDoorHCatcodeValuesx6
namespace Go.Proofs.YtgefikclhfjcgaaDoor.HCatcodeValues
open Go.RowKit Go.Proofs.YtgefikclhfjcgaaDoorW.PrintWords Go.Proofs.YtgefikclhfjcgaaDoorW.PrintLast Go.Proofs.YtgefikclhfjcgaaDoorW.PrintMore
attribute [local go_sem] max2_int min2_int max_two min_two max_three min_three max_four min_four   -- for this text's walks alone
set_option linter.unusedVariables false
set_option linter.unusedSimpArgs false
attribute [local go_sem] hp_s8 hp_s16 hp_s32 hp_s64 hp_m8 hp_m16 hp_m32 hp_m64
/-! ### schema_Right: function 46 -/
mutual
def schema_Right.l0 : Nat → Int → List (S63) → Int → Int → List ByteArray → Option (Bool)
 | 0, _, _, _, _, _ => none
 | k + 1, x3, x13, x14, x15, x178000 => if x15 < x14 then (if 0 ≤ x15 then (if x15 < (x13.length : Int) then ((schema_RightTable.f k ((rd_T63 x13 x15).f0) ((rd_T63 x13 x15).f1) ((rd_T63 x13 x15).f2) ((rd_T63 x13 x15).f3) ((rd_T63 x13 x15).f4)).bind fun t180 => (if t180 = true then (if ((rd_T63 x13 x15).f0) ≤ x3 then (schema_Right.j1 k x13 x14 x15 true x178000 ((rd_T63 x13 x15).f0) ((rd_T63 x13 x15).f1) ((rd_T63 x13 x15).f2) ((rd_T63 x13 x15).f3) ((rd_T63 x13 x15).f4)) else ((hpmap_get.f x178000 ((rd_T63 x13 x15).f1)).bind fun bt181 => (schema_Right.j1 k x13 x14 x15 bt181.1 bt181.2 ((rd_T63 x13 x15).f0) ((rd_T63 x13 x15).f1) ((rd_T63 x13 x15).f2) ((rd_T63 x13 x15).f3) ((rd_T63 x13 x15).f4)))) else (schema_Right.j1 k x13 x14 x15 true x178000 ((rd_T63 x13 x15).f0) ((rd_T63 x13 x15).f1) ((rd_T63 x13 x15).f2) ((rd_T63 x13 x15).f3) ((rd_T63 x13 x15).f4)))) else (none)) else (none)) else (some true)
def schema_Right.j1 : Nat → List (S63) → Int → Int → Bool → List ByteArray → Int → ByteArray → Int → Int → List (S97) → Option (Bool)
 | 0, _, _, _, _, _, _, _, _, _, _ => none
 | k + 1, x13, x14, x15, x33, x178000, x180000, x180001, x180002, x180003, x180004 => if x33 = true then (some false) else ((hpmap_put.f x178000 x180001).bind fun t183 => (schema_Right.l0 k x180000 x13 x14 (wrap64 (x15 + 1)) t183))
end
def schema_Right.f (k : Nat) (l0_0 : List (S63)) : Option (Bool) := if (l0_0.length : Int) > 6 then (some false) else (schema_Right.l0 k (-1) l0_0 (l0_0.length : Int) 0 ([] : List ByteArray))
theorem schema_Right.mono_l : ∀ k, (∀ y0 y1 y2 y3 y4, LeO (schema_Right.l0 k y0 y1 y2 y3 y4) (schema_Right.l0 (k + 1) y0 y1 y2 y3 y4)) ∧ (∀ y0 y1 y2 y3 y4 y5 y6 y7 y8 y9, LeO (schema_Right.j1 k y0 y1 y2 y3 y4 y5 y6 y7 y8 y9) (schema_Right.j1 (k + 1) y0 y1 y2 y3 y4 y5 y6 y7 y8 y9))
 | 0 => by refine ⟨?_, ?_⟩ <;> intros <;> exact LeO.none _
 | k + 1 => by
  obtain ⟨ih0, ih1⟩ := schema_Right.mono_l k
  refine ⟨?_, ?_⟩ <;> intros <;> first | unfold schema_Right.l0 | unfold schema_Right.j1
  all_goals repeat' first | with_reducible (first | exact ih0 .. | exact ih1 .. | exact schema_RightTable.mono .. | exact LeO.refl .. | exact LeO.none .. | refine LeO.ite ?_ ?_ | refine LeO.bind ?_ (fun _ => ?_)) | exact ih0 .. | exact ih1 .. | exact schema_RightTable.mono .. | exact LeO.none .. | refine LeO.ite ?_ ?_ | refine LeO.bind ?_ (fun _ => ?_)
theorem schema_Right.mono : ∀ a0 k, LeO (schema_Right.f k a0) (schema_Right.f (k + 1) a0) := by
 intro a0 k
 obtain ⟨ih0, ih1⟩ := schema_Right.mono_l k
 unfold schema_Right.f
 repeat' first | with_reducible (first | exact ih0 .. | exact ih1 .. | exact schema_RightTable.mono .. | exact LeO.refl .. | exact LeO.none .. | refine LeO.ite ?_ ?_ | refine LeO.bind ?_ (fun _ => ?_)) | exact ih0 .. | exact ih1 .. | exact schema_RightTable.mono .. | exact LeO.none .. | refine LeO.ite ?_ ?_ | refine LeO.bind ?_ (fun _ => ?_)
set_option maxHeartbeats 8000000 in
set_option maxRecDepth 100000 in
theorem schema_Right.calls (k : Nat) (A0_0 : Option Addr) (c0_0 : Nat) (l0_0 : List (S63)) (r : Bool) (w : World) (hr0_0 : Kd.C k63 w A0_0 l0_0.length l0_0) (hc0_0 : l0_0.length ≤ c0_0) (hG : Glob w) (h : schema_Right.f k l0_0 = some r) :
  Calls Tryd.prog 46 #[.agg #[.slice A0_0 l0_0.length c0_0]] w fun e w' => e = .returned (.bool r) ∧ Below w.heap.size w w' := by
 have hu37 := Tryd.underlying37
 have hu63 := Tryd.underlying63
 have HR0_0 := aM hr0_0
 have HC0_0 := aM hc0_0
 clear hr0_0 hc0_0
 have HG := aM hG
 clear hG
 have HB := aM (Below.refl w.heap.size w)
 have H : (if (l0_0.length : Int) > 6 then (some false) else (schema_Right.l0 k (-1) l0_0 (l0_0.length : Int) 0 ([] : List ByteArray))) = some r := h
 clear h
 by_cases c2 : (l0_0.length : Int) > 6
 ·
  rw [if_pos c2] at H
  have c2b0 : decide (6 < (l0_0.length : Int)) = true := decide_eq_true c2
  have c2b1 : decide (6 < l0_0.length) = true := decide_eq_true (by omega)
  clear c2
  obtain rfl := Option.some.inj H
  go_enter Tryd.func46, Tryd.ntmps46
  go_wp2_with (first | ((with_reducible refine gate_dst (N := 1) rfl ?_); refine yX (N := 1) (cs := #[.slice A0_0 l0_0.length c0_0]) (t := 37) ?_; intro gb176 hg w3 hbox hb; have BK176 := aM (hbox); have GW176 := yZ hg (yB HB); have GE176 := yZ hg (yB HB); replace HB := aM (bP (yB HB) hb); clear hb hbox hg; obtain ⟨hcz4_0, hfz4_0⟩ := cells1 BK176.out))
  go_ret
  exact ⟨yE, yG1 HB GE176.out⟩
 ·
  rw [if_neg c2] at H
  have c2b0 : decide (6 < (l0_0.length : Int)) = false := decide_eq_false c2
  have c2b1 : decide (6 < l0_0.length) = false := decide_eq_false (by omega)
  clear c2
  have H' := aM H
  clear H
  go_enter Tryd.func46, Tryd.ntmps46
  go_wp2_with (first | ((with_reducible refine gate_dst (N := 1) rfl ?_); refine yX (N := 1) (cs := #[.slice A0_0 l0_0.length c0_0]) (t := 37) ?_; intro gb176 hg w5 hbox hb; have BK176 := aM (hbox); have GW176 := yZ hg (yB HB); have GE176 := yZ hg (yB HB); replace HB := aM (bP (yB HB) hb); clear hb hbox hg; obtain ⟨hcz6_0, hfz6_0⟩ := cells1 BK176.out) | ((with_reducible refine gate_dst (N := 11) rfl ?_); refine hpmap_new_event rfl (N := 11) rfl rfl ?_; intro gb177 hg w7 hbox hb; have HI177 := aM ((show IsS200 w w7 gb177 ([] : List ByteArray) from ⟨HpSet.made hbox, by rw [hg]; exact (bZ (yG1 HB GE176.out))⟩)); have GW177 := yZ hg (yG1 HB GE176.out); have GE177 := yZ hg (yG1 HB GE176.out); replace HB := aM (bP (yG1 HB GE176.out) hb); have NB176_177 := yN hg (yK BK176); have NB177_176 := yM hg (yK BK176); replace BK176 := aM (kB (yK BK176) hb); clear hb hbox hg; have hnb8 := NB176_177.out; have hnc8 := NB177_176.out; obtain ⟨hcz9_0, hfz9_0⟩ := cells1 BK176.out))
  go_loopg [3, 15] k (fun kq v3 v15 w' => ∃ (x3_1 : Int) (x15_1 : Int) (x178000_1 : List ByteArray), v3 = .int .i64 x3_1 ∧ v15 = .int .i64 x15_1 ∧ Aside0 (schema_Right.l0 kq x3_1 l0_0 (l0_0.length : Int) x15_1 x178000_1 = some r) ∧ Aside0 (kq ≤ k) ∧ Aside0 (w'.heap[gb176]? = some (.cells #[(.slice A0_0 l0_0.length c0_0)] 37 (0, 0))) ∧ Aside0 (IsS200 w w' gb177 x178000_1) ∧ Aside0 (Below w.heap.size w w'))
  case atStart => exact ⟨((-1)), (0), (([] : List ByteArray)), yS, yS, H', ⟨Nat.le_refl _⟩, ⟨yK BK176⟩, ⟨by repeat (first | (with_reducible first | exact HI177.out | apply IsS200.alloc | apply IsS200.drewN | apply IsS200.drew | apply IsS200.set_0 | apply IsS200.far (hne := NB177_176.out)) | exact HI177.out)⟩, ⟨yG2 HB (IsS200.ge HI177.out) GE176.out⟩⟩
  case round =>
   clear H'
   try clear c2
   try clear c2b0
   try clear c2b1
   try clear hcz6_0
   try clear hcz9_0
   try clear hfz6_0
   try clear hfz9_0
   obtain ⟨x3_1, x15_1, x178000_1, rfl, rfl, HA, HK1, BK176, HI177, HB⟩ := hrel
   cases gk with
   | zero => exact absurd HA.out (by simp [schema_Right.l0])
   | succ k1 =>
    have H := HA.out
    clear HA
    simp only [schema_Right.l0] at H
    by_cases c10 : x15_1 < (l0_0.length : Int)
    ·
     rw [if_pos c10] at H
     have c10b0 : decide (x15_1 < (l0_0.length : Int)) = true := decide_eq_true c10
     clear c10
     by_cases c11 : 0 ≤ x15_1
     ·
      rw [if_pos c11] at H
      have c11b0 : decide (0 ≤ x15_1) = true := decide_eq_true c11
      clear c11
      by_cases c12 : x15_1 < (l0_0.length : Int)
      ·
       rw [if_pos c12] at H
       have c12b0 : decide (x15_1 < (l0_0.length : Int)) = true := decide_eq_true c12
       clear c12
       have HC13 := aM H
       clear H
       have p178 : 0 ≤ (x15_1 : Int) := oD yA
       have q178 : x15_1 < (l0_0.length : Int) := oD yA
       obtain ⟨ad178, A178_4, c178_4, e178, hx178_0, hx178_1, hx178_2, hx178_3, hx178_4, hl178_4, hi178_4⟩ := at_T63 HR0_0.out x15_1 p178 q178
       cases e178
       replace hx178_0 := pw_cell_below HB.out hx178_0
       replace hx178_1 := pw_cell_below HB.out hx178_1
       replace hx178_2 := pw_cell_below HB.out hx178_2
       replace hx178_3 := pw_cell_below HB.out hx178_3
       replace hx178_4 := pw_cell_below HB.out hx178_4
       have HR178_4 := aM hi178_4
       have HC178_4 := aM hl178_4
       clear hi178_4 hl178_4
       replace p178 := eq_true p178
       replace q178 := eq_true q178
       go_upto_region 7 with (first | ((with_reducible refine gate_dst (N := 6) rfl ?_); refine yX (N := 6) (cs := #[.int .i64 0, .string (⟨#[]⟩ : ByteArray), .int .i64 0, .int .i64 0, .slice none 0 0]) (t := 63) ?_; intro gb179 hg w14 hbox hb; have BK179 := aM (hbox); have GW179 := yZ hg (yG2 HB (IsS200.ge HI177.out) GE176.out); have GE179 := yZ hg (yG2 HB (IsS200.ge HI177.out) GE176.out); replace HB := aM (bP (yG2 HB (IsS200.ge HI177.out) GE176.out) hb); have NB176_179 := yN hg (yK BK176); have NB179_176 := yM hg (yK BK176); replace BK176 := aM (kB (yK BK176) hb); have NB177_179 := aM ((by rw [hg]; exact Nat.ne_of_lt (IsS200.lt (show IsS200 w _ gb177 x178000_1 from by repeat (first | (with_reducible first | exact HI177.out | apply IsS200.alloc | apply IsS200.drewN | apply IsS200.drew | apply IsS200.set_0 | apply IsS200.far (hne := NB177_176.out)) | exact HI177.out))) : gb177 ≠ gb179)); have NB179_177 := aM ((by rw [hg]; exact Nat.ne_of_gt (IsS200.lt (show IsS200 w _ gb177 x178000_1 from by repeat (first | (with_reducible first | exact HI177.out | apply IsS200.alloc | apply IsS200.drewN | apply IsS200.drew | apply IsS200.set_0 | apply IsS200.far (hne := NB177_176.out)) | exact HI177.out))) : gb179 ≠ gb177)); replace HI177 := aM (IsS200.below (by repeat (first | (with_reducible first | exact HI177.out | apply IsS200.alloc | apply IsS200.drewN | apply IsS200.drew | apply IsS200.set_0 | apply IsS200.far (hne := NB177_176.out)) | exact HI177.out)) hb); clear hb hbox hg; have hnb15 := NB179_176.out; have hnc15 := NB176_179.out; have hnb16 := NB179_177.out; have hnc16 := NB177_179.out; obtain ⟨hcz17_0, hcz17_1, hcz17_2, hcz17_3, hcz17_4, hfz17_0, hfz17_1, hfz17_2, hfz17_3, hfz17_4⟩ := cells5 BK179.out))
       (try simp only [Act.put, s1_, s2_, s3_])
       go_cut [33] (fun v33 wc => ∃ (kq : Nat) (x33_12 : Bool) (x178000_12 : List ByteArray), v33 = .bool x33_12 ∧ Aside0 (schema_Right.j1 kq l0_0 (l0_0.length : Int) x15_1 x33_12 x178000_12 ((rd_T63 l0_0 x15_1).f0) ((rd_T63 l0_0 x15_1).f1) ((rd_T63 l0_0 x15_1).f2) ((rd_T63 l0_0 x15_1).f3) ((rd_T63 l0_0 x15_1).f4) = some r) ∧ Aside0 (kq ≤ k1) ∧ Aside0 (wc.heap[gb176]? = some (.cells #[(.slice (some ad178) l0_0.length c0_0)] 37 (0, 0))) ∧ Aside0 (wc.heap[gb179]? = some (.cells #[.int .i64 ((rd_T63 l0_0 x15_1).f0), .string ((rd_T63 l0_0 x15_1).f1), .int .i64 ((rd_T63 l0_0 x15_1).f2), .int .i64 ((rd_T63 l0_0 x15_1).f3), (.slice A178_4 ((rd_T63 l0_0 x15_1).f4).length c178_4)] 63 (0, 0))) ∧ Aside0 (IsS200 w wc gb177 x178000_12) ∧ Aside0 (Below w.heap.size w wc))
       case first =>
        have H := HC13.out
        clear HC13
        obtain ⟨t180, A18, H⟩ := yb H
        by_cases c19 : t180 = true
        ·
         subst c19
         replace H := yt H
         by_cases c20 : ((rd_T63 l0_0 x15_1).f0) ≤ x3_1
         ·
          rw [if_pos c20] at H
          have c20b0 : decide (((rd_T63 l0_0 x15_1).f0) ≤ x3_1) = true := decide_eq_true c20
          clear c20
          (first | rw [c20b0] | (simp only [i64_w, i32_w]; rw [c20b0]) | skip)
          have H' := aM H
          clear H
          have hnb21 := NB179_176.out
          have hnc21 := NB176_179.out
          have hnb22 := NB179_177.out
          have hnc22 := NB177_179.out
          obtain ⟨hcz23_0, hcz23_1, hcz23_2, hcz23_3, hcz23_4, hfz23_0, hfz23_1, hfz23_2, hfz23_3, hfz23_4⟩ := cells5 BK179.out
          go_wp2_with (first | ((with_reducible refine gate_callee (f := 83) rfl ?_); refine yC 20 Tryd.func83 #[.agg #[.int .i64 ((rd_T63 l0_0 x15_1).f0), .string ((rd_T63 l0_0 x15_1).f1), .int .i64 ((rd_T63 l0_0 x15_1).f2), .int .i64 ((rd_T63 l0_0 x15_1).f3), .slice A178_4 ((rd_T63 l0_0 x15_1).f4).length c178_4]] rfl ?_; (with_reducible refine (schema_RightTable.calls k1 ((rd_T63 l0_0 x15_1).f0) ((rd_T63 l0_0 x15_1).f1) ((rd_T63 l0_0 x15_1).f2) ((rd_T63 l0_0 x15_1).f3) _ _ ((rd_T63 l0_0 x15_1).f4) true _ ?side1 ?side2 ?side3 A18.out).mono ?_); (case side1 => exact Kd.C_below HR178_4.out (yG3 HB (IsS200.ge HI177.out) GE176.out GE179.out)); (case side2 => exact HC178_4.out); (case side3 => first | (with_reducible exact HG.out) | exact Glob.below HG.out (yG3 HB (IsS200.ge HI177.out) GE176.out GE179.out)); rintro e w24 ⟨rfl, hb⟩; refine ⟨_, rfl, ?_⟩; replace BK176 := aM (kB (yF1 BK176 NB176_179.out) hb); replace BK179 := aM (kB (puts5 BK179.out) hb); replace HB := aM (bP (yG3 HB (IsS200.ge HI177.out) GE176.out GE179.out) hb); replace HI177 := aM (IsS200.below (show IsS200 w (((((w14.setCell ⟨gb179, 0, none⟩ (.int .i64 ((rd_T63 l0_0 x15_1).f0))).setCell ⟨gb179, 1, none⟩ (.string ((rd_T63 l0_0 x15_1).f1))).setCell ⟨gb179, 2, none⟩ (.int .i64 ((rd_T63 l0_0 x15_1).f2))).setCell ⟨gb179, 3, none⟩ (.int .i64 ((rd_T63 l0_0 x15_1).f3))).setCell ⟨gb179, 4, none⟩ (.slice A178_4 ((rd_T63 l0_0 x15_1).f4).length c178_4)) gb177 x178000_1 from by repeat (first | (with_reducible first | exact HI177.out | apply IsS200.alloc | apply IsS200.drewN | apply IsS200.drew | apply IsS200.set_0 | apply IsS200.far (hne := NB177_176.out) | apply IsS200.far (hne := NB177_179.out)) | exact HI177.out)) hb); (try clear hb); obtain ⟨hcz25_0, hcz25_1, hcz25_2, hcz25_3, hcz25_4, hfz25_0, hfz25_1, hfz25_2, hfz25_3, hfz25_4⟩ := cells5 BK179.out))
          go_meet
          case rel => exact ⟨_, (true), (x178000_1), yS, H', ⟨by have := HK1.out; first | omega | exact Nat.le_refl _⟩, ⟨yK BK176⟩, ⟨yK BK179⟩, ⟨by repeat (first | (with_reducible first | exact HI177.out | apply IsS200.alloc | apply IsS200.drewN | apply IsS200.drew | apply IsS200.set_0 | apply IsS200.far (hne := NB177_176.out) | apply IsS200.far (hne := NB177_179.out)) | exact HI177.out)⟩, ⟨yG3 HB (IsS200.ge HI177.out) GE176.out GE179.out⟩⟩
         ·
          rw [if_neg c20] at H
          have c20b0 : decide (((rd_T63 l0_0 x15_1).f0) ≤ x3_1) = false := decide_eq_false c20
          clear c20
          (first | rw [c20b0] | (simp only [i64_w, i32_w]; rw [c20b0]) | skip)
          obtain ⟨⟨t181, t182⟩, A26, H⟩ := yb H
          try dsimp -simprocs only at H
          have H' := aM H
          clear H
          have hnb27 := NB179_176.out
          have hnc27 := NB176_179.out
          have hnb28 := NB179_177.out
          have hnc28 := NB177_179.out
          obtain ⟨hcz29_0, hcz29_1, hcz29_2, hcz29_3, hcz29_4, hfz29_0, hfz29_1, hfz29_2, hfz29_3, hfz29_4⟩ := cells5 BK179.out
          go_wp2_with (first | ((with_reducible refine gate_callee (f := 83) rfl ?_); refine yC 20 Tryd.func83 #[.agg #[.int .i64 ((rd_T63 l0_0 x15_1).f0), .string ((rd_T63 l0_0 x15_1).f1), .int .i64 ((rd_T63 l0_0 x15_1).f2), .int .i64 ((rd_T63 l0_0 x15_1).f3), .slice A178_4 ((rd_T63 l0_0 x15_1).f4).length c178_4]] rfl ?_; (with_reducible refine (schema_RightTable.calls k1 ((rd_T63 l0_0 x15_1).f0) ((rd_T63 l0_0 x15_1).f1) ((rd_T63 l0_0 x15_1).f2) ((rd_T63 l0_0 x15_1).f3) _ _ ((rd_T63 l0_0 x15_1).f4) true _ ?side1 ?side2 ?side3 A18.out).mono ?_); (case side1 => exact Kd.C_below HR178_4.out (yG3 HB (IsS200.ge HI177.out) GE176.out GE179.out)); (case side2 => exact HC178_4.out); (case side3 => first | (with_reducible exact HG.out) | exact Glob.below HG.out (yG3 HB (IsS200.ge HI177.out) GE176.out GE179.out)); rintro e w30 ⟨rfl, hb⟩; refine ⟨_, rfl, ?_⟩; replace BK176 := aM (kB (yF1 BK176 NB176_179.out) hb); replace BK179 := aM (kB (puts5 BK179.out) hb); replace HB := aM (bP (yG3 HB (IsS200.ge HI177.out) GE176.out GE179.out) hb); replace HI177 := aM (IsS200.below (show IsS200 w (((((w14.setCell ⟨gb179, 0, none⟩ (.int .i64 ((rd_T63 l0_0 x15_1).f0))).setCell ⟨gb179, 1, none⟩ (.string ((rd_T63 l0_0 x15_1).f1))).setCell ⟨gb179, 2, none⟩ (.int .i64 ((rd_T63 l0_0 x15_1).f2))).setCell ⟨gb179, 3, none⟩ (.int .i64 ((rd_T63 l0_0 x15_1).f3))).setCell ⟨gb179, 4, none⟩ (.slice A178_4 ((rd_T63 l0_0 x15_1).f4).length c178_4)) gb177 x178000_1 from by repeat (first | (with_reducible first | exact HI177.out | apply IsS200.alloc | apply IsS200.drewN | apply IsS200.drew | apply IsS200.set_0 | apply IsS200.far (hne := NB177_176.out) | apply IsS200.far (hne := NB177_179.out)) | exact HI177.out)) hb); (try clear hb); obtain ⟨hcz31_0, hcz31_1, hcz31_2, hcz31_3, hcz31_4, hfz31_0, hfz31_1, hfz31_2, hfz31_3, hfz31_4⟩ := cells5 BK179.out) | (at_lookup; (try (refine gate_guard (by rfl) ?_; dsimp only)); refine hpmap_get_op rfl rfl rfl rfl ?_; (with_reducible refine (hpmap_get.calls gb177 x178000_1 ((rd_T63 l0_0 x15_1).f1) t181 t182 w _ ?side1 ?side2 A26.out).mono ?_); (case side1 => repeat (first | (with_reducible first | exact HI177.out | apply IsS200.alloc | apply IsS200.drewN | apply IsS200.drew | apply IsS200.set_0 | apply IsS200.far (hne := NB177_176.out) | apply IsS200.far (hne := NB177_179.out)) | exact HI177.out)); (case side2 => exact yG3 HB (IsS200.ge HI177.out) GE176.out GE179.out); rintro e w32 ⟨rfl, hi, hb, hk⟩; refine ⟨_, rfl, ?_⟩; replace BK176 := aM (KeepBut.blk hk (g' := gb176) (o := .cells #[.slice (some ad178) l0_0.length c0_0] 37 (0, 0)) (yK BK176) NB176_177.out (by simp)); replace BK179 := aM (KeepBut.blk hk (g' := gb179) (o := .cells #[.int .i64 ((rd_T63 l0_0 x15_1).f0), .string ((rd_T63 l0_0 x15_1).f1), .int .i64 ((rd_T63 l0_0 x15_1).f2), .int .i64 ((rd_T63 l0_0 x15_1).f3), .slice A178_4 ((rd_T63 l0_0 x15_1).f4).length c178_4] 63 (0, 0)) (yK BK179) NB179_177.out (by simp)); replace HB := aM (hb); replace HI177 := aM (hi); (try clear hb); (try clear hk); (try clear hi)))
          go_meet
          case rel => exact ⟨_, (t181), (t182), yS, H', ⟨by have := HK1.out; first | omega | exact Nat.le_refl _⟩, ⟨yK BK176⟩, ⟨yK BK179⟩, ⟨by repeat (first | (with_reducible first | exact HI177.out | apply IsS200.alloc | apply IsS200.drewN | apply IsS200.drew | apply IsS200.set_0 | apply IsS200.far (hne := NB177_176.out) | apply IsS200.far (hne := NB177_179.out)) | exact HI177.out)⟩, ⟨yG3 HB (IsS200.ge HI177.out) GE176.out GE179.out⟩⟩
        ·
         replace c19 := Bool.eq_false_iff.mpr c19
         subst c19
         replace H := yf H
         have H' := aM H
         clear H
         have hnb33 := NB179_176.out
         have hnc33 := NB176_179.out
         have hnb34 := NB179_177.out
         have hnc34 := NB177_179.out
         obtain ⟨hcz35_0, hcz35_1, hcz35_2, hcz35_3, hcz35_4, hfz35_0, hfz35_1, hfz35_2, hfz35_3, hfz35_4⟩ := cells5 BK179.out
         go_wp2_with (first | ((with_reducible refine gate_callee (f := 83) rfl ?_); refine yC 20 Tryd.func83 #[.agg #[.int .i64 ((rd_T63 l0_0 x15_1).f0), .string ((rd_T63 l0_0 x15_1).f1), .int .i64 ((rd_T63 l0_0 x15_1).f2), .int .i64 ((rd_T63 l0_0 x15_1).f3), .slice A178_4 ((rd_T63 l0_0 x15_1).f4).length c178_4]] rfl ?_; (with_reducible refine (schema_RightTable.calls k1 ((rd_T63 l0_0 x15_1).f0) ((rd_T63 l0_0 x15_1).f1) ((rd_T63 l0_0 x15_1).f2) ((rd_T63 l0_0 x15_1).f3) _ _ ((rd_T63 l0_0 x15_1).f4) false _ ?side1 ?side2 ?side3 A18.out).mono ?_); (case side1 => exact Kd.C_below HR178_4.out (yG3 HB (IsS200.ge HI177.out) GE176.out GE179.out)); (case side2 => exact HC178_4.out); (case side3 => first | (with_reducible exact HG.out) | exact Glob.below HG.out (yG3 HB (IsS200.ge HI177.out) GE176.out GE179.out)); rintro e w36 ⟨rfl, hb⟩; refine ⟨_, rfl, ?_⟩; replace BK176 := aM (kB (yF1 BK176 NB176_179.out) hb); replace BK179 := aM (kB (puts5 BK179.out) hb); replace HB := aM (bP (yG3 HB (IsS200.ge HI177.out) GE176.out GE179.out) hb); replace HI177 := aM (IsS200.below (show IsS200 w (((((w14.setCell ⟨gb179, 0, none⟩ (.int .i64 ((rd_T63 l0_0 x15_1).f0))).setCell ⟨gb179, 1, none⟩ (.string ((rd_T63 l0_0 x15_1).f1))).setCell ⟨gb179, 2, none⟩ (.int .i64 ((rd_T63 l0_0 x15_1).f2))).setCell ⟨gb179, 3, none⟩ (.int .i64 ((rd_T63 l0_0 x15_1).f3))).setCell ⟨gb179, 4, none⟩ (.slice A178_4 ((rd_T63 l0_0 x15_1).f4).length c178_4)) gb177 x178000_1 from by repeat (first | (with_reducible first | exact HI177.out | apply IsS200.alloc | apply IsS200.drewN | apply IsS200.drew | apply IsS200.set_0 | apply IsS200.far (hne := NB177_176.out) | apply IsS200.far (hne := NB177_179.out)) | exact HI177.out)) hb); (try clear hb)))
         go_meet
         case rel => exact ⟨_, (true), (x178000_1), yS, H', ⟨by have := HK1.out; first | omega | exact Nat.le_refl _⟩, ⟨yK BK176⟩, ⟨yK BK179⟩, ⟨by repeat (first | (with_reducible first | exact HI177.out | apply IsS200.alloc | apply IsS200.drewN | apply IsS200.drew | apply IsS200.set_0 | apply IsS200.far (hne := NB177_176.out) | apply IsS200.far (hne := NB177_179.out)) | exact HI177.out)⟩, ⟨yG3 HB (IsS200.ge HI177.out) GE176.out GE179.out⟩⟩
       case rest =>
        clear HC13
        try clear c2
        try clear c2b0
        try clear c2b1
        try clear c10
        try clear c10b0
        try clear c11
        try clear c11b0
        try clear c12
        try clear c12b0
        try clear hcz17_0 hcz17_1 hcz17_2 hcz17_3 hcz17_4
        try clear hcz6_0
        try clear hcz9_0
        try clear hfz17_0 hfz17_1 hfz17_2 hfz17_3 hfz17_4
        try clear hfz6_0
        try clear hfz9_0
        try clear hx178_0 hx178_1 hx178_2 hx178_3 hx178_4
        try clear p178
        try clear q178
        obtain ⟨kq, x33_12, x178000_12, rfl, HA, HJ12, BK176, BK179, HI177, HB⟩ := hcut
        cases kq with
        | zero => exact absurd HA.out (by simp [schema_Right.j1])
        | succ kj12 =>
         have H := HA.out
         clear HA
         simp only [schema_Right.j1] at H
         by_cases c37 : x33_12 = true
         ·
          subst c37
          replace H := yt H
          obtain rfl := Option.some.inj H
          go_wp2
          go_ret
          exact ⟨yE, yG3 HB (IsS200.ge HI177.out) GE176.out GE179.out⟩
         ·
          replace c37 := Bool.eq_false_iff.mpr c37
          subst c37
          replace H := yf H
          obtain ⟨t183, A38, H⟩ := yb H
          have H' := aM H
          clear H
          try go_wp2
          have n0_ := aM (kD BK176.out)
          have n1_ := aM (kD BK179.out)
          have n2_ := aM (IsS200.drew HI177.out)
          have n3_ := aM (b1 HB.out)
          clear BK176
          clear BK179
          clear HI177
          clear HB
          have BK176 := n0_
          have BK179 := n1_
          have HI177 := n2_
          have HB := n3_
          clear n0_ n1_ n2_ n3_
          refine start_ (n := 7) (S := fun w' => w'.cell? ⟨gb179, 0, none⟩ = some (.int .i64 ((rd_T63 l0_0 x15_1).f0)) ∧ w'.cell? ⟨gb179, 1, none⟩ = some (.string ((rd_T63 l0_0 x15_1).f1)) ∧ w'.cell? ⟨gb179, 2, none⟩ = some (.int .i64 ((rd_T63 l0_0 x15_1).f2)) ∧ w'.cell? ⟨gb179, 3, none⟩ = some (.int .i64 ((rd_T63 l0_0 x15_1).f3)) ∧ w'.cell? ⟨gb179, 4, none⟩ = some (.slice A178_4 ((rd_T63 l0_0 x15_1).f4).length c178_4)) (ds := []) (tB 0 7) (by kernel_rfl) rfl rfl (cellc5 BK179.out) (fun hHeld => ?_)
          generalize wc.drew = w39 at BK176 BK179 HI177 HB hHeld ⊢
          refine yP0 0 34 (tB 1 7) rfl rfl ?_
          refine yP0 1 35 (tB 3 7) rfl rfl ?_
          refine yP0 3 37 (tB 11 7) rfl rfl ?_
          refine yT0 2 36 (tB 15 7) rfl rfl hHeld ?_
          refine yT0 4 38 (tB 31 7) rfl rfl hHeld ?_
          refine yP0 5 3 (tB 63 7) rfl rfl ?_
          refine yI0 6 (tB 127 7) rfl rfl fun K hK => ?_
          refine hpmap_goes_put (by rfl) rfl rfl (by rfl) (by rfl) ?_
          with_reducible refine (hpmap_put.calls gb177 x178000_12 ((rd_T63 l0_0 x15_1).f1) t183 w _ ?side1 ?side2 A38.out).mono ?_
          (case side1 => repeat (first | (with_reducible first | exact HI177.out | apply IsS200.alloc | apply IsS200.drewN | apply IsS200.drew | apply IsS200.set_0 | apply IsS200.far (hne := NB177_176.out) | apply IsS200.far (hne := NB177_179.out)) | exact HI177.out))
          (case side2 => exact yG3 HB (IsS200.ge HI177.out) GE176.out GE179.out)
          rintro e w40 ⟨rfl, hi, hb, hk⟩
          refine ⟨_, rfl, ?_⟩
          have n0_ := aM (KeepBut.blk hk (g' := gb176) (o := .cells #[.slice (some ad178) l0_0.length c0_0] 37 (0, 0)) (yK BK176) NB176_177.out (by simp))
          have n1_ := aM (KeepBut.blk hk (g' := gb179) (o := .cells #[.int .i64 ((rd_T63 l0_0 x15_1).f0), .string ((rd_T63 l0_0 x15_1).f1), .int .i64 ((rd_T63 l0_0 x15_1).f2), .int .i64 ((rd_T63 l0_0 x15_1).f3), .slice A178_4 ((rd_T63 l0_0 x15_1).f4).length c178_4] 63 (0, 0)) (yK BK179) NB179_177.out (by simp))
          have n2_ := aM (hb)
          have n3_ := aM (hi)
          clear BK176
          clear BK179
          clear HB
          clear HI177
          have BK176 := n0_
          have BK179 := n1_
          have HB := n2_
          have HI177 := n3_
          clear n0_ n1_ n2_ n3_
          (try clear hb)
          (try clear hb2)
          (try clear hk)
          (try clear hi)
          refine hK.out _ _ (cellc5 BK179.out) (fun hHeld => ?_)
          clear hK K
          refine done_ (by kernel_rfl) ?_
          try go_wp2
          go_roundg kj12
          case measure => have := HK1.out; have := HJ12.out; omega
          case rel => exact ⟨(((rd_T63 l0_0 x15_1).f0)), (wrap64 (x15_1 + 1)), (t183), yS, yS, H', ⟨by have := HK1.out; have := HJ12.out; omega⟩, ⟨yK BK176⟩, ⟨by repeat (first | (with_reducible first | exact HI177.out | apply IsS200.alloc | apply IsS200.drewN | apply IsS200.drew | apply IsS200.set_0 | apply IsS200.far (hne := NB177_176.out) | apply IsS200.far (hne := NB177_179.out)) | exact HI177.out)⟩, ⟨yG3 HB (IsS200.ge HI177.out) GE176.out GE179.out⟩⟩
      ·
       rw [if_neg c12] at H
       exact absurd H (by simp)
     ·
      rw [if_neg c11] at H
      exact absurd H (by simp)
    ·
     rw [if_neg c10] at H
     have c10b0 : decide (x15_1 < (l0_0.length : Int)) = false := decide_eq_false c10
     clear c10
     obtain rfl := Option.some.inj H
     go_wp2
     go_ret
     exact ⟨yE, yG2 HB (IsS200.ge HI177.out) GE176.out⟩
/-! ### catcode_number: function 47 -/
def catcode_number.f (k : Nat) (l0 : List Int) (a1 : Int) : Option (List Int) := (word_Short.f k (([IntKind.u64.wrap (a1)] : List Int))).bind fun t187 => (if l0.length + t187.size < 140737488355328 then (some (l0 ++ bytesOf t187)) else (none))
theorem catcode_number.mono : ∀ a0 a1 k, LeO (catcode_number.f k a0 a1) (catcode_number.f (k + 1) a0 a1) := by
 intro a0 a1 k
 unfold catcode_number.f
 repeat' first | with_reducible (first | exact word_Short.mono .. | exact LeO.refl .. | exact LeO.none .. | refine LeO.ite ?_ ?_ | refine LeO.bind ?_ (fun _ => ?_)) | exact word_Short.mono .. | exact LeO.none .. | refine LeO.ite ?_ ?_ | refine LeO.bind ?_ (fun _ => ?_)
set_option maxHeartbeats 8000000 in
set_option maxRecDepth 100000 in
theorem catcode_number.calls (k : Nat) (P0_ : Nat → Prop) (u9000_ : Value) (l0 : List Int) (a1 : Int) (r : List Int) (w0 w : World) (hB : Below w0.heap.size w0 w) (ho0 : Kd.R (Kd.int .u8) 5 w w0.heap.size P0_ u9000_ l0) (h : catcode_number.f k l0 a1 = some r) :
  Calls Tryd.prog 47 #[u9000_, .int .i64 a1] w fun e w' => ∃ v0_ : Value, e = .returned (v0_) ∧ Kd.R (Kd.int .u8) 5 w' w0.heap.size (fun k_ => (P0_ k_ ∨ w.heap.size ≤ k_)) v0_ r ∧ Below w0.heap.size w0 w' ∧ Kept w w' (fun k_ => P0_ k_) := by
 have HO0 := aM (show Kd.R (Kd.int .u8) 5 w w0.heap.size (fun k_ => (P0_ k_ ∨ w.heap.size ≤ k_)) u9000_ l0 from Kd.R_mono ho0 (fun k_ hk => (.inl hk)))
 have HK := aM (Kept.refl w (fun k_ => P0_ k_))
 have HW0 := aM hB.size
 have HB := aM hB
 clear hB
 have H : ((word_Short.f k (([IntKind.u64.wrap (a1)] : List Int))).bind fun t187 => (if l0.length + t187.size < 140737488355328 then (some (l0 ++ bytesOf t187)) else (none))) = some r := h
 clear h
 obtain ⟨y184, hy184⟩ : ∃ y_ : List Int, y_ = (([IntKind.u64.wrap (a1)] : List Int)) := ⟨_, rfl⟩
 replace H : ((word_Short.f k y184).bind fun t187 => (if l0.length + t187.size < 140737488355328 then (some (l0 ++ bytesOf t187)) else (none))) = some r := by first | (rw [hy184]; with_reducible exact H) | (have H2_ := (Option.bind_some _ _).symm.trans H; rw [hy184]; with_reducible exact H2_) | (have H2_ := (Option.bind_some _ _).symm.trans H; with_reducible exact H2_) | with_reducible exact H | (rw [hy184]; exact H) | exact H
 have Ny184 := aM hy184
 clear hy184
 obtain ⟨t187, A3, H⟩ := yb H
 by_cases c4 : l0.length + t187.size < 140737488355328
 ·
  rw [if_pos c4] at H
  have LMc4 := aM c4
  clear c4
  obtain ⟨y188, hy188⟩ : ∃ y_ : List Int, y_ = (l0 ++ bytesOf t187) := ⟨_, rfl⟩
  replace H : (some y188) = some r := by first | (rw [hy188]; with_reducible exact H) | (have H2_ := (Option.bind_some _ _).symm.trans H; rw [hy188]; with_reducible exact H2_) | (have H2_ := (Option.bind_some _ _).symm.trans H; with_reducible exact H2_) | with_reducible exact H | (rw [hy188]; exact H) | exact H
  have Ny188 := aM hy188
  clear hy188
  obtain rfl := Option.some.inj H
  go_enter Tryd.func47, Tryd.ntmps47
  go_wp2_with (first | ((with_reducible refine gate_dst (N := 8) rfl ?_); refine Kd.R_lit (Kd.int .u64) _ 91 ?hg (N := 8) ?hd (xs := ([IntKind.u64.wrap (a1)] : List Int)) (inner := [.int .u64 (IntKind.u64.wrap (a1))]) (ok := fun _ => True) (okp := fun _ => True) ?hr ?hp (fun _ hk => hk) trivial (Below.refl _ _) (Nat.le_refl _) (by simp) ?_; (case hd => rfl); (case hg => rfl); (case hr => first | (go_simp; done) | (go_simp; rfl)); (case hp => exact (Reps.one (show Kd.M (Kd.int .u64) _ _ _ (IntKind.u64.wrap (a1)) [.int .u64 (IntKind.u64.wrap (a1))] from rfl) (Reps.none _ _))); intro v185 w5 ho6 hb hg_ hnew_; clear hg_ hnew_; (first | rw [← Ny184.out] at ho6 | (simp only [Int.reduceToNat] at ho6; rw [← Ny184.out] at ho6)); replace HO0 := aM (Kd.R_below (yR HO0.out) hb); have HO186 := aM (Kd.R_lower (Kd.R_newM (M := fun k_ => (P0_ k_ ∨ w.heap.size ≤ k_)) ho6 (by first | exact HK.out.1 | exact (show Kept w _ (fun k_ => P0_ k_) from by repeat (first | (with_reducible first | exact HK.out | apply Kept.alloc | apply Kept.drewN | apply Kept.drew) | exact HK.out)).1) (fun k_ h_ => .inr h_)) (bZ (yB HB))); replace HK := aM (Kept.below (S := (fun k_ => P0_ k_)) (by repeat (first | (with_reducible first | exact HK.out | apply Kept.alloc | apply Kept.drewN | apply Kept.drew) | exact HK.out)) hb); replace HB := aM (bP (yB HB) hb); clear hb ho6; obtain ⟨Ao7, co7, eo7⟩ := Kd.R_slice HO186.out; subst eo7) | ((with_reducible refine gate_callee (f := 92) rfl ?_); refine yC 9 Tryd.func92 #[.slice Ao7 y184.length co7] rfl ?_; (with_reducible refine (word_Short.calls k _ _ y184 t187 _ ?side1 ?side2 A3.out).mono ?_); (case side1 => exact yW (Kd.R_reads' HO186.out).2.2); (case side2 => exact (Kd.R_reads' HO186.out).2.1); rintro e w8 ⟨rfl, hb⟩; refine ⟨_, rfl, ?_⟩; replace HO0 := aM (Kd.R_below (yR HO0.out) hb); replace HO186 := aM (Kd.R_below (yR HO186.out) hb); replace HK := aM (Kept.below (S := (fun k_ => P0_ k_)) (by repeat (first | (with_reducible first | exact HK.out | apply Kept.alloc | apply Kept.drewN | apply Kept.drew) | exact HK.out)) hb); replace HB := aM (bP (yB HB) hb); (try clear hb)) | (at_builtin; refine print_append_strM (w0 := w0) w0.heap.size rfl (.tmp 5) _ 78 9 5 rfl Tryd.underlying78 Tryd.underlying9 info5 u9000_ l0 t187 (fun k_ => (P0_ k_ ∨ w.heap.size ≤ k_)) rfl rfl ?aO ?aF ?aB ?aS ?aL ?_; (case aF => exact fun k_ hk => .inr (Nat.le_trans (by first | exact HK.out.1 | exact (show Kept w _ (fun k_ => P0_ k_) from by repeat (first | (with_reducible first | exact HK.out | apply Kept.alloc | apply Kept.drewN | apply Kept.drew) | exact HK.out)).1) hk)); (case aB => exact (yB HB)); (case aO => exact (yR HO0.out)); (case aS => exact (bZ (yB HB))); (case aL => have := LMc4.out; omega); intro v189 w9 ho hb hg; have hat := True.intro; rw [← Ny188.out] at ho; change Kd.R (Kd.int .u8) 5 w9 w0.heap.size (fun k_ => (P0_ k_ ∨ w.heap.size ≤ k_)) v189 y188 at ho; have n0_ := aM (Kd.R_over' (yR HO186.out) (Kd.R_typed (yR HO0.out)) (by decide) hg); have n1_ := aM (hb); have n2_ := aM (Kept.of_grown (S := (fun k_ => P0_ k_)) hg (by repeat (first | (with_reducible first | exact HK.out | apply Kept.alloc | apply Kept.drewN | apply Kept.drew) | exact HK.out)) (fun k_ e_ => (HO0.out.1 k_ e_))); have n3_ := aM (ho); clear HO186; clear HB; clear HK; clear HO0; have HO186 := n0_; have HB := n1_; have HK := n2_; have HO190 := n3_; clear n0_ n1_ n2_ n3_; clear ho hb hg hat))
  go_ret
  exact ⟨_, yE, yR HO190.out, yB HB, by repeat (first | (with_reducible first | exact HK.out | apply Kept.alloc | apply Kept.drewN | apply Kept.drew) | exact HK.out)⟩
 ·
  rw [if_neg c4] at H
  exact absurd H (by simp)
/-! ### catcode_kind: function 66 -/
def catcode_kind.f (k : Nat) (l0 : List Int) (a1_0 : Int) (a1_1 : Int) : Option (List Int) := if l0.length < 140737488355328 then ((catcode_number.f k (l0 ++ [(a1_0) % 256]) a1_1).bind fun t195 => (some t195)) else (none)
theorem catcode_kind.mono : ∀ a0 a1 a2 k, LeO (catcode_kind.f k a0 a1 a2) (catcode_kind.f (k + 1) a0 a1 a2) := by
 intro a0 a1 a2 k
 unfold catcode_kind.f
 repeat' first | with_reducible (first | exact catcode_number.mono .. | exact LeO.refl .. | exact LeO.none .. | refine LeO.ite ?_ ?_ | refine LeO.bind ?_ (fun _ => ?_)) | exact catcode_number.mono .. | exact LeO.none .. | refine LeO.ite ?_ ?_ | refine LeO.bind ?_ (fun _ => ?_)
def catcode_kind.T1 : Bool × List (List Nat × List Nat) := (true, [([], []), ([], []), ([1], [1]), ([2], [2]), ([3], [3]), ([0, 4], [0, 4]), ([], []), ([6], [6]), ([5, 7, 5], [5, 7]), ([8, 8, 0, 1, 2, 3, 4, 5, 6, 7, 8], [8])])
def catcode_kind.B1 : List Nat := [0, 0, 2, 6, 14, 31, 0, 64, 255, 511]
theorem catcode_kind.tab1 : rtab .any (opsOf Tryd.f66 1) = catcode_kind.T1 := by kernel_rfl
theorem catcode_kind.bits1 : waitsOk catcode_kind.T1.2 catcode_kind.B1 = true := by kernel_rfl
set_option maxHeartbeats 8000000 in
set_option maxRecDepth 100000 in
theorem catcode_kind.calls (k : Nat) (P0_ : Nat → Prop) (u9000_ : Value) (l0 : List Int) (a1_0 : Int) (a1_1 : Int) (r : List Int) (w0 w : World) (hB : Below w0.heap.size w0 w) (ho0 : Kd.R (Kd.int .u8) 5 w w0.heap.size P0_ u9000_ l0) (h : catcode_kind.f k l0 a1_0 a1_1 = some r) :
  Calls Tryd.prog 66 #[u9000_, .agg #[.int .i64 a1_0, .int .i64 a1_1]] w fun e w' => ∃ v0_ : Value, e = .returned (v0_) ∧ Kd.R (Kd.int .u8) 5 w' w0.heap.size (fun k_ => (P0_ k_ ∨ w.heap.size ≤ k_)) v0_ r ∧ Below w0.heap.size w0 w' ∧ Kept w w' (fun k_ => P0_ k_) := by
 have hu48 := Tryd.underlying48
 have HO0 := aM (show Kd.R (Kd.int .u8) 5 w w0.heap.size (fun k_ => (P0_ k_ ∨ w.heap.size ≤ k_)) u9000_ l0 from Kd.R_mono ho0 (fun k_ hk => (.inl hk)))
 have HK := aM (Kept.refl w (fun k_ => P0_ k_))
 have HW0 := aM hB.size
 have HB := aM hB
 clear hB
 have H : (if l0.length < 140737488355328 then ((catcode_number.f k (l0 ++ [(a1_0) % 256]) a1_1).bind fun t195 => (some t195)) else (none)) = some r := h
 clear h
 by_cases c3 : l0.length < 140737488355328
 ·
  rw [if_pos c3] at H
  have LMc3 := aM c3
  clear c3
  obtain ⟨y192, hy192⟩ : ∃ y_ : List Int, y_ = (l0 ++ [(a1_0) % 256]) := ⟨_, rfl⟩
  replace H : ((catcode_number.f k y192 a1_1).bind fun t195 => (some t195)) = some r := by first | (rw [hy192]; with_reducible exact H) | (have H2_ := (Option.bind_some _ _).symm.trans H; rw [hy192]; with_reducible exact H2_) | (have H2_ := (Option.bind_some _ _).symm.trans H; with_reducible exact H2_) | with_reducible exact H | (rw [hy192]; exact H) | exact H
  have Ny192 := aM hy192
  clear hy192
  obtain ⟨t195, A4, H⟩ := yb H
  obtain rfl := Option.some.inj H
  go_enter Tryd.func66, Tryd.ntmps66
  try go_wp2_with (first | ((with_reducible refine gate_dst (N := 3) rfl ?_); refine yX (N := 3) (cs := #[.int .i64 a1_0, .int .i64 a1_1]) (t := 48) ?_; intro gb191 hg w5 hbox hb; replace HO0 := aM (Kd.R_below (yR HO0.out) hb); have BK191 := aM (hbox); have GW191 := aM ((by rw [hg]; exact (by first | exact HK.out.1 | exact (show Kept w _ (fun k_ => P0_ k_) from by repeat (first | (with_reducible first | exact HK.out | apply Kept.alloc | apply Kept.drewN | apply Kept.drew) | exact HK.out)).1) : w.heap.size ≤ gb191)); replace HK := aM (Kept.below (S := (fun k_ => P0_ k_)) (by repeat (first | (with_reducible first | exact HK.out | apply Kept.alloc | apply Kept.drewN | apply Kept.drew) | exact HK.out)) hb); have GE191 := yZ hg (yB HB); replace HB := aM (bP (yB HB) hb); clear hb hbox hg))
  have n0_ := aM (Kd.R_drew HO0.out)
  have n1_ := aM (kD BK191.out)
  have n2_ := aM (Kept.drew HK.out)
  have n3_ := aM (b1 HB.out)
  clear HO0
  clear BK191
  clear HK
  clear HB
  have HO0 := n0_
  have BK191 := n1_
  have HK := n2_
  have HB := n3_
  clear n0_ n1_ n2_ n3_
  refine start_ (n := 10) (S := fun w' => w'.cell? ⟨gb191, 0, none⟩ = some (.int .i64 a1_0) ∧ w'.cell? ⟨gb191, 1, none⟩ = some (.int .i64 a1_1)) (ds := []) (tB 0 10) (by kernel_rfl) rfl rfl (cellc2 BK191.out) (fun hHeld => ?_); refine with_tabW catcode_kind.tab1 catcode_kind.bits1 (fun HT_ HW_ => ?_)
  generalize w5.drew = w6 at HO0 BK191 HK HB hHeld ⊢
  refine yP HT_ 0 5 (tB 1 10) rfl rfl ?_
  refine yP HT_ 1 6 (tB 3 10) rfl rfl ?_
  refine yP HT_ 6 11 (tB 67 10) rfl rfl ?_
  refine yT HT_ HW_ 2 7 (tB 71 10) rfl rfl hHeld ?_
  refine yP HT_ 3 8 (tB 79 10) rfl rfl ?_
  refine yT HT_ HW_ 7 12 (tB 207 10) rfl rfl hHeld ?_
  refine yI HT_ 4 (tB 223 10) rfl rfl fun K hK => ?_
  refine value_ (w1 := ?_) (v := ?_) (by rfl) rfl ?_ ?_
  rotate_left 2
  ·
   go_simp
   constructor
   ·
    rfl
   ·
    rfl
  refine hK.out _ _ ⟨(blk_cell (kA BK191.out _) 0).trans rfl, (blk_cell (kA BK191.out _) 1).trans rfl⟩ (fun hHeld => ?_)
  clear hK K
  refine norm_ (a' := ?_) ?_ ?_
  rotate_left
  ·
   show Act.put _ (some 9) _ = _
   simp only [Act.put, s1_, s2_, s3_, i64_w, i32_w]
   rfl
  refine yI HT_ 5 (tB 255 10) rfl rfl fun K hK => ?_
  refine Kd.R_append_step (Kd.int .u8) (w0 := w0) w0.heap.size (by rfl) (.tmp 5) (.tmp 9) 78 5 (.int .u8 0) 1 rfl Tryd.underlying78 info5 rfl (by decide) (by omega) u9000_ l0 ((a1_0) % 256) [.int .u8 ((a1_0) % 256)] (fun k_ => (P0_ k_ ∨ w.heap.size ≤ k_)) (fun _ => False) rfl rfl ?aP (fun _ hk => hk.elim) ?aF ?aO ?aB ?aS ?aL ?_
  (case aP => exact rfl)
  (case aB => exact (yG1 HB GE191.out))
  (case aF => exact (fun k_ hk => (.inr (Nat.le_trans (by first | exact HK.out.1 | exact (show Kept w _ (fun k_ => P0_ k_) from by repeat (first | (with_reducible first | exact HK.out | apply Kept.alloc | apply Kept.drewN | apply Kept.drew | refine Kept.setCell ?_ (.inr GW191.out) _) | exact HK.out)).1) hk))))
  (case aO => exact (yR HO0.out))
  (case aS => exact (bZ (yG1 HB GE191.out)))
  (case aL => have := LMc3.out; omega)
  intro v193 w7 ho hb hg hat
  rw [← Ny192.out] at ho
  have n0_ := aM (blk_grown (g := gb191) (o := .cells #[.int .i64 a1_0, .int .i64 a1_1] 48 (0, 0)) (yK BK191) hg (Kd.R_ne HO0.out BK191.out (by decide)))
  have n1_ := aM (hb)
  have n2_ := aM (Kept.of_grown (S := (fun k_ => P0_ k_)) hg (by repeat (first | (with_reducible first | exact HK.out | apply Kept.alloc | apply Kept.drewN | apply Kept.drew | refine Kept.setCell ?_ (.inr GW191.out) _) | exact HK.out)) (fun k_ e_ => (HO0.out.1 k_ e_)))
  have n3_ := aM (ho)
  clear BK191
  clear HB
  clear HK
  clear HO0
  have BK191 := n0_
  have HB := n1_
  have HK := n2_
  have HO194 := n3_
  clear n0_ n1_ n2_ n3_
  clear ho hb hg hat
  obtain ⟨Ao8, co8, eo8⟩ := Kd.R_slice HO194.out
  (first | subst eo8 | (injection eo8 with f1_ f2_ f3_; have f4_ := f1_.symm; have f5_ := f3_.symm; clear f1_ f2_ f3_; subst f4_; subst f5_))
  refine hK.out _ _ (cellc2 BK191.out) (fun hHeld => ?_)
  clear hK K
  refine norm_ (a' := ?_) ?_ ?_
  rotate_left
  ·
   show Act.put _ (some 10) _ = _
   simp only [Act.put, s1_, s2_, s3_, i64_w, i32_w]
   rfl
  refine yI HT_ 8 (tB 511 10) rfl rfl fun K hK => ?_
  refine yc Tryd.func47 #[.slice Ao8 y192.length co8, .int .i64 a1_1] rfl rfl ?_
  with_reducible refine (catcode_number.calls k (fun k_ => some k_ = (.slice Ao8 y192.length co8 : Value).ownBlock) (.slice Ao8 y192.length co8) y192 a1_1 t195 w0 _ ?side1 ?side2 A4.out).mono ?_
  (case side1 => exact yG1 HB GE191.out)
  (case side2 => exact Kd.R_tight rfl HO194.out)
  rintro e w9 ⟨v196, rfl, ho0, hb, hkp⟩
  refine ⟨_, rfl, ?_⟩
  have n0_ := aM (blk_kept (yK BK191) hkp (fun hs_ => (fun e_ => (Kd.R_ne HO194.out BK191.out (by decide)) e_) hs_))
  have n1_ := aM (Kd.R_mono (ok' := fun k_ => (P0_ k_ ∨ w.heap.size ≤ k_)) ho0 (fun k_ hk_ => Or.elim hk_ (fun hs_ => (HO194.out.1 k_ (hs_).symm)) (fun hn_ => (.inr (Nat.le_trans (by first | exact HK.out.1 | exact (show Kept w _ (fun k_ => P0_ k_) from by repeat (first | (with_reducible first | exact HK.out | apply Kept.alloc | apply Kept.drewN | apply Kept.drew | refine Kept.setCell ?_ (.inr GW191.out) _) | exact HK.out)).1) hn_)))))
  have n2_ := aM (Kept.then_ (S := (fun k_ => P0_ k_)) (by repeat (first | (with_reducible first | exact HK.out | apply Kept.alloc | apply Kept.drewN | apply Kept.drew | refine Kept.setCell ?_ (.inr GW191.out) _) | exact HK.out)) hkp (fun k_ hs_ => (fun e_ => (HO194.out.1 k_ e_.symm)) hs_))
  have n3_ := aM (hb)
  clear BK191
  clear HK
  clear HB
  clear HO194
  have BK191 := n0_
  have HO197 := n1_
  have HK := n2_
  have HB := n3_
  clear n0_ n1_ n2_ n3_
  (try clear hb)
  (try clear hkp)
  (try clear ho0)
  refine hK.out _ _ (cellc2 BK191.out) (fun hHeld => ?_)
  clear hK K
  refine norm_ (a' := ?_) ?_ ?_
  rotate_left
  ·
   show Act.put _ (some 13) _ = _
   simp only [Act.put, s1_, s2_, s3_, i64_w, i32_w]
   rfl
  refine yP HT_ 9 4 (tB 1023 10) rfl rfl ?_
  refine done_ (done_of HT_.out (by kernel_rfl)) ?_
  try go_wp2
  go_ret
  exact ⟨_, yE, yR HO197.out, yG1 HB GE191.out, by repeat (first | (with_reducible first | exact HK.out | apply Kept.alloc | apply Kept.drewN | apply Kept.drew | refine Kept.setCell ?_ (.inr GW191.out) _) | exact HK.out)⟩
 ·
  rw [if_neg c3] at H
  exact absurd H (by simp)
end Go.Proofs.YtgefikclhfjcgaaDoor.HCatcodeValues

/- For Go functions that SchemaRight reaches: Lean functions, and walks that show that each call comes to what its Lean function tells; no condition but those that each theorem states. (Made by a program of this session over the kit's print.py.) -/
import Derived.Test.YtdeophpjammbpaaDoorHSchemaRightx0
import Derived.Test.YtdeophpjammbpaaDoorHSchemaRightx6
namespace Go.Proofs.YtdeophpjammbpaaDoor.HSchemaRight
open Go.RowKit Go.Proofs.YtdeophpjammbpaaDoorW.PrintWords Go.Proofs.YtdeophpjammbpaaDoorW.PrintLast Go.Proofs.YtdeophpjammbpaaDoorW.PrintMore
attribute [local go_sem] max2_int min2_int max_two min_two max_three min_three max_four min_four   -- for this text's walks alone
set_option linter.unusedVariables false
set_option linter.unusedSimpArgs false
attribute [local go_sem] hp_s8 hp_s16 hp_s32 hp_s64 hp_m8 hp_m16 hp_m32 hp_m64
/-! ### schema_Right: function 30 -/
mutual
def schema_Right.l0 : Nat → Int → List (S24) → Int → Int → List ByteArray → Option (Bool)
 | 0, _, _, _, _, _ => none
 | k + 1, x3, x13, x14, x15, x276000 => if x15 < x14 then (if 0 ≤ x15 then (if x15 < (x13.length : Int) then ((schema_RightTable.f k ((rd_T24 x13 x15).f0) ((rd_T24 x13 x15).f1) ((rd_T24 x13 x15).f2) ((rd_T24 x13 x15).f3) ((rd_T24 x13 x15).f4)).bind fun t278 => (if t278 = true then (if ((rd_T24 x13 x15).f0) ≤ x3 then (schema_Right.j1 k x13 x14 x15 true x276000 ((rd_T24 x13 x15).f0) ((rd_T24 x13 x15).f1) ((rd_T24 x13 x15).f2) ((rd_T24 x13 x15).f3) ((rd_T24 x13 x15).f4)) else ((hpmap_get.f x276000 ((rd_T24 x13 x15).f1)).bind fun bt279 => (schema_Right.j1 k x13 x14 x15 bt279.1 bt279.2 ((rd_T24 x13 x15).f0) ((rd_T24 x13 x15).f1) ((rd_T24 x13 x15).f2) ((rd_T24 x13 x15).f3) ((rd_T24 x13 x15).f4)))) else (schema_Right.j1 k x13 x14 x15 true x276000 ((rd_T24 x13 x15).f0) ((rd_T24 x13 x15).f1) ((rd_T24 x13 x15).f2) ((rd_T24 x13 x15).f3) ((rd_T24 x13 x15).f4)))) else (none)) else (none)) else (some true)
def schema_Right.j1 : Nat → List (S24) → Int → Int → Bool → List ByteArray → Int → ByteArray → Int → Int → List (S54) → Option (Bool)
 | 0, _, _, _, _, _, _, _, _, _, _ => none
 | k + 1, x13, x14, x15, x33, x276000, x278000, x278001, x278002, x278003, x278004 => if x33 = true then (some false) else ((hpmap_put.f x276000 x278001).bind fun t281 => (schema_Right.l0 k x278000 x13 x14 (wrap64 (x15 + 1)) t281))
end
def schema_Right.f (k : Nat) (l0_0 : List (S24)) : Option (Bool) := if (l0_0.length : Int) > 6 then (some false) else (schema_Right.l0 k (-1) l0_0 (l0_0.length : Int) 0 ([] : List ByteArray))
theorem schema_Right.mono_l : ∀ k, (∀ y0 y1 y2 y3 y4, LeO (schema_Right.l0 k y0 y1 y2 y3 y4) (schema_Right.l0 (k + 1) y0 y1 y2 y3 y4)) ∧ (∀ y0 y1 y2 y3 y4 y5 y6 y7 y8 y9, LeO (schema_Right.j1 k y0 y1 y2 y3 y4 y5 y6 y7 y8 y9) (schema_Right.j1 (k + 1) y0 y1 y2 y3 y4 y5 y6 y7 y8 y9))
 | 0 => ⟨fun _ _ _ _ _ r h => by simp [schema_Right.l0] at h, fun _ _ _ _ _ _ _ _ _ _ r h => by simp [schema_Right.j1] at h⟩
 | k + 1 => by
  obtain ⟨ih0, ih1⟩ := schema_Right.mono_l k
  refine ⟨?_, ?_⟩
  ·
   intro y0 y1 y2 y3 y4
   unfold schema_Right.l0
   repeat' first
   | (with_reducible exact ih0 _ _ _ _ _)
   | (with_reducible exact ih1 _ _ _ _ _ _ _ _ _ _)
   | (with_reducible exact schema_RightTable.mono _ _ _ _ _ _)
   | (with_reducible exact LeO.refl _)
   | (with_reducible exact LeO.none _)
   | (with_reducible refine LeO.ite ?_ ?_)
   | (with_reducible refine LeO.bind ?_ (fun _ => ?_))
   | exact ih0 _ _ _ _ _
   | exact ih1 _ _ _ _ _ _ _ _ _ _
   | exact schema_RightTable.mono _ _ _ _ _ _
   | exact LeO.none _
   | refine LeO.ite ?_ ?_
   | refine LeO.bind ?_ (fun _ => ?_)
  ·
   intro y0 y1 y2 y3 y4 y5 y6 y7 y8 y9
   unfold schema_Right.j1
   repeat' first
   | (with_reducible exact ih0 _ _ _ _ _)
   | (with_reducible exact ih1 _ _ _ _ _ _ _ _ _ _)
   | (with_reducible exact schema_RightTable.mono _ _ _ _ _ _)
   | (with_reducible exact LeO.refl _)
   | (with_reducible exact LeO.none _)
   | (with_reducible refine LeO.ite ?_ ?_)
   | (with_reducible refine LeO.bind ?_ (fun _ => ?_))
   | exact ih0 _ _ _ _ _
   | exact ih1 _ _ _ _ _ _ _ _ _ _
   | exact schema_RightTable.mono _ _ _ _ _ _
   | exact LeO.none _
   | refine LeO.ite ?_ ?_
   | refine LeO.bind ?_ (fun _ => ?_)
theorem schema_Right.mono : ∀ a0 k, LeO (schema_Right.f k a0) (schema_Right.f (k + 1) a0) := by
 intro a0 k
 obtain ⟨ih0, ih1⟩ := schema_Right.mono_l k
 unfold schema_Right.f
 repeat' first
   | (with_reducible exact ih0 _ _ _ _ _)
   | (with_reducible exact ih1 _ _ _ _ _ _ _ _ _ _)
   | (with_reducible exact schema_RightTable.mono _ _ _ _ _ _)
   | (with_reducible exact LeO.refl _)
   | (with_reducible exact LeO.none _)
   | (with_reducible refine LeO.ite ?_ ?_)
   | (with_reducible refine LeO.bind ?_ (fun _ => ?_))
   | exact ih0 _ _ _ _ _
   | exact ih1 _ _ _ _ _ _ _ _ _ _
   | exact schema_RightTable.mono _ _ _ _ _ _
   | exact LeO.none _
   | refine LeO.ite ?_ ?_
   | refine LeO.bind ?_ (fun _ => ?_)
set_option maxHeartbeats 8000000 in
set_option maxRecDepth 100000 in
theorem schema_Right.calls (k : Nat) (A0_0 : Option Addr) (c0_0 : Nat) (l0_0 : List (S24)) (r : Bool) (w : World) (hr0_0 : Kd.C k24 w A0_0 l0_0.length l0_0) (hc0_0 : l0_0.length ≤ c0_0) (hG : Glob w) (h : schema_Right.f k l0_0 = some r) :
  Calls Tryd.prog 30 #[.agg #[.slice A0_0 l0_0.length c0_0]] w fun e w' => e = .returned (.bool r) ∧ Below w.heap.size w w' := by
 have hu46 := Tryd.underlying46
 have hu24 := Tryd.underlying24
 have HR0_0 := aM hr0_0
 have HC0_0 := aM hc0_0
 clear hr0_0 hc0_0
 have HG := aM hG
 clear hG
 have HB := aM (Below.refl w.heap.size w)
 have H : (if (l0_0.length : Int) > 6 then (some false) else (schema_Right.l0 k (-1) l0_0 (l0_0.length : Int) 0 ([] : List ByteArray))) = some r := h
 clear h
 by_cases c2 : (l0_0.length : Int) > 6
 ·
  rw [if_pos c2] at H
  have c2b0 : decide (6 < (l0_0.length : Int)) = true := decide_eq_true c2
  have c2b1 : decide (6 < l0_0.length) = true := decide_eq_true (by omega)
  clear c2
  obtain rfl := Option.some.inj H
  go_enter Tryd.func30, Tryd.ntmps30
  go_wp2_with (first | ((with_reducible refine gate_dst (N := 1) rfl ?_); refine yX (N := 1) (cs := #[.slice A0_0 l0_0.length c0_0]) (t := 46) ?_; intro gb274 hg w3 hbox hb; have BK274 := aM (hbox); have GW274 := yZ hg (yB HB); have GE274 := yZ hg (yB HB); replace HB := aM (bP (yB HB) hb); clear hb hbox hg; obtain ⟨hcz4_0, hfz4_0⟩ := cells1 BK274.out))
  go_ret
  exact ⟨yE, yG1 HB GE274.out⟩
 ·
  rw [if_neg c2] at H
  have c2b0 : decide (6 < (l0_0.length : Int)) = false := decide_eq_false c2
  have c2b1 : decide (6 < l0_0.length) = false := decide_eq_false (by omega)
  clear c2
  have H' := aM H
  clear H
  go_enter Tryd.func30, Tryd.ntmps30
  go_wp2_with (first | ((with_reducible refine gate_dst (N := 1) rfl ?_); refine yX (N := 1) (cs := #[.slice A0_0 l0_0.length c0_0]) (t := 46) ?_; intro gb274 hg w5 hbox hb; have BK274 := aM (hbox); have GW274 := yZ hg (yB HB); have GE274 := yZ hg (yB HB); replace HB := aM (bP (yB HB) hb); clear hb hbox hg; obtain ⟨hcz6_0, hfz6_0⟩ := cells1 BK274.out) | ((with_reducible refine gate_dst (N := 11) rfl ?_); refine hpmap_new_event rfl (N := 11) rfl rfl ?_; intro gb275 hg w7 hbox hb; have HI275 := aM ((show IsS170 w w7 gb275 ([] : List ByteArray) from ⟨HpSet.made hbox, by rw [hg]; exact (bZ (yG1 HB GE274.out))⟩)); have GW275 := yZ hg (yG1 HB GE274.out); have GE275 := yZ hg (yG1 HB GE274.out); replace HB := aM (bP (yG1 HB GE274.out) hb); have NB274_275 := yN hg (yK BK274); have NB275_274 := yM hg (yK BK274); replace BK274 := aM (kB (yK BK274) hb); clear hb hbox hg; have hnb8 := NB274_275.out; have hnc8 := NB275_274.out; obtain ⟨hcz9_0, hfz9_0⟩ := cells1 BK274.out))
  go_loopg [3, 15] k (fun kq v3 v15 w' => ∃ (x3_1 : Int) (x15_1 : Int) (x276000_1 : List ByteArray), v3 = .int .i64 x3_1 ∧ v15 = .int .i64 x15_1 ∧ Aside0 (schema_Right.l0 kq x3_1 l0_0 (l0_0.length : Int) x15_1 x276000_1 = some r) ∧ Aside0 (kq ≤ k) ∧ Aside0 (w'.heap[gb274]? = some (.cells #[(.slice A0_0 l0_0.length c0_0)] 46 (0, 0))) ∧ Aside0 (IsS170 w w' gb275 x276000_1) ∧ Aside0 (Below w.heap.size w w'))
  case atStart => exact ⟨((-1)), (0), (([] : List ByteArray)), yS, yS, H', ⟨Nat.le_refl _⟩, ⟨yK BK274⟩, ⟨by repeat (first | (with_reducible first | exact HI275.out | apply IsS170.alloc | apply IsS170.drewN | apply IsS170.drew | apply IsS170.set_0 | refine IsS170.far ?_ NB275_274.out _) | exact HI275.out)⟩, ⟨yG2 HB (IsS170.ge HI275.out) GE274.out⟩⟩
  case round =>
   clear H'
   try clear c2
   try clear c2b0
   try clear c2b1
   try clear p2
   try clear c3
   try clear c8
   try clear hcz4_0
   try clear hcz6_0
   try clear hcz9_0
   try clear hfz4_0
   try clear hfz6_0
   try clear hfz9_0
   obtain ⟨x3_1, x15_1, x276000_1, rfl, rfl, HA, HK1, BK274, HI275, HB⟩ := hrel
   cases gk with
   | zero => exact absurd HA.out (by simp [schema_Right.l0])
   | succ k1 =>
    have H := HA.out
    clear HA
    simp only [schema_Right.l0] at H
    by_cases c10 : x15_1 < (l0_0.length : Int)
    ·
     rw [if_pos c10] at H
     have c10b0 : decide (x15_1 < (l0_0.length : Int)) = true := decide_eq_true c10
     clear c10
     by_cases c11 : 0 ≤ x15_1
     ·
      rw [if_pos c11] at H
      have c11b0 : decide (0 ≤ x15_1) = true := decide_eq_true c11
      clear c11
      by_cases c12 : x15_1 < (l0_0.length : Int)
      ·
       rw [if_pos c12] at H
       have c12b0 : decide (x15_1 < (l0_0.length : Int)) = true := decide_eq_true c12
       clear c12
       have HC13 := aM H
       clear H
       have p276 : 0 ≤ (x15_1 : Int) := oD yA
       have q276 : x15_1 < (l0_0.length : Int) := oD yA
       obtain ⟨ad276, A276_4, c276_4, e276, hx276_0, hx276_1, hx276_2, hx276_3, hx276_4, hl276_4, hi276_4⟩ := at_T24 HR0_0.out x15_1 p276 q276
       cases e276
       replace hx276_0 := pw_cell_below HB.out hx276_0
       replace hx276_1 := pw_cell_below HB.out hx276_1
       replace hx276_2 := pw_cell_below HB.out hx276_2
       replace hx276_3 := pw_cell_below HB.out hx276_3
       replace hx276_4 := pw_cell_below HB.out hx276_4
       have HR276_4 := aM hi276_4
       have HC276_4 := aM hl276_4
       clear hi276_4 hl276_4
       replace p276 := eq_true p276
       replace q276 := eq_true q276
       go_upto_region 7 with (first | ((with_reducible refine gate_dst (N := 6) rfl ?_); refine yX (N := 6) (cs := #[.int .i64 0, .string (⟨#[]⟩ : ByteArray), .int .i64 0, .int .i64 0, .slice none 0 0]) (t := 24) ?_; intro gb277 hg w14 hbox hb; have BK277 := aM (hbox); have GW277 := yZ hg (yG2 HB (IsS170.ge HI275.out) GE274.out); have GE277 := yZ hg (yG2 HB (IsS170.ge HI275.out) GE274.out); replace HB := aM (bP (yG2 HB (IsS170.ge HI275.out) GE274.out) hb); have NB274_277 := yN hg (yK BK274); have NB277_274 := yM hg (yK BK274); replace BK274 := aM (kB (yK BK274) hb); have NB275_277 := aM ((by rw [hg]; exact Nat.ne_of_lt (IsS170.lt (show IsS170 w _ gb275 x276000_1 from by repeat (first | (with_reducible first | exact HI275.out | apply IsS170.alloc | apply IsS170.drewN | apply IsS170.drew | apply IsS170.set_0 | refine IsS170.far ?_ NB275_274.out _) | exact HI275.out))) : gb275 ≠ gb277)); have NB277_275 := aM ((by rw [hg]; exact Nat.ne_of_gt (IsS170.lt (show IsS170 w _ gb275 x276000_1 from by repeat (first | (with_reducible first | exact HI275.out | apply IsS170.alloc | apply IsS170.drewN | apply IsS170.drew | apply IsS170.set_0 | refine IsS170.far ?_ NB275_274.out _) | exact HI275.out))) : gb277 ≠ gb275)); replace HI275 := aM (IsS170.below (by repeat (first | (with_reducible first | exact HI275.out | apply IsS170.alloc | apply IsS170.drewN | apply IsS170.drew | apply IsS170.set_0 | refine IsS170.far ?_ NB275_274.out _) | exact HI275.out)) hb); clear hb hbox hg; have hnb15 := NB277_274.out; have hnc15 := NB274_277.out; have hnb16 := NB277_275.out; have hnc16 := NB275_277.out; obtain ⟨hcz17_0, hcz17_1, hcz17_2, hcz17_3, hcz17_4, hfz17_0, hfz17_1, hfz17_2, hfz17_3, hfz17_4⟩ := cells5 BK277.out))
       (try simp only [Act.put, s1_, s2_, s3_])
       go_cut [33] (fun v33 wc => ∃ (kq : Nat) (x33_12 : Bool) (x276000_12 : List ByteArray), v33 = .bool x33_12 ∧ Aside0 (schema_Right.j1 kq l0_0 (l0_0.length : Int) x15_1 x33_12 x276000_12 ((rd_T24 l0_0 x15_1).f0) ((rd_T24 l0_0 x15_1).f1) ((rd_T24 l0_0 x15_1).f2) ((rd_T24 l0_0 x15_1).f3) ((rd_T24 l0_0 x15_1).f4) = some r) ∧ Aside0 (kq ≤ k1) ∧ Aside0 (wc.heap[gb274]? = some (.cells #[(.slice (some ad276) l0_0.length c0_0)] 46 (0, 0))) ∧ Aside0 (wc.heap[gb277]? = some (.cells #[.int .i64 ((rd_T24 l0_0 x15_1).f0), .string ((rd_T24 l0_0 x15_1).f1), .int .i64 ((rd_T24 l0_0 x15_1).f2), .int .i64 ((rd_T24 l0_0 x15_1).f3), (.slice A276_4 ((rd_T24 l0_0 x15_1).f4).length c276_4)] 24 (0, 0))) ∧ Aside0 (IsS170 w wc gb275 x276000_12) ∧ Aside0 (Below w.heap.size w wc))
       case first =>
        have H := HC13.out
        clear HC13
        replace H := Option.bind_eq_some_iff.mp H
        obtain ⟨t278, A180, H⟩ := H
        replace H : (if t278 = true then (if ((rd_T24 l0_0 x15_1).f0) ≤ x3_1 then (schema_Right.j1 k1 l0_0 (l0_0.length : Int) x15_1 true x276000_1 ((rd_T24 l0_0 x15_1).f0) ((rd_T24 l0_0 x15_1).f1) ((rd_T24 l0_0 x15_1).f2) ((rd_T24 l0_0 x15_1).f3) ((rd_T24 l0_0 x15_1).f4)) else ((hpmap_get.f x276000_1 ((rd_T24 l0_0 x15_1).f1)).bind fun bt279 => (schema_Right.j1 k1 l0_0 (l0_0.length : Int) x15_1 bt279.1 bt279.2 ((rd_T24 l0_0 x15_1).f0) ((rd_T24 l0_0 x15_1).f1) ((rd_T24 l0_0 x15_1).f2) ((rd_T24 l0_0 x15_1).f3) ((rd_T24 l0_0 x15_1).f4)))) else (schema_Right.j1 k1 l0_0 (l0_0.length : Int) x15_1 true x276000_1 ((rd_T24 l0_0 x15_1).f0) ((rd_T24 l0_0 x15_1).f1) ((rd_T24 l0_0 x15_1).f2) ((rd_T24 l0_0 x15_1).f3) ((rd_T24 l0_0 x15_1).f4))) = some r := H
        have A18 := aM A180
        clear A180
        by_cases c19 : t278 = true
        ·
         subst c19
         have H1 : (if ((rd_T24 l0_0 x15_1).f0) ≤ x3_1 then (schema_Right.j1 k1 l0_0 (l0_0.length : Int) x15_1 true x276000_1 ((rd_T24 l0_0 x15_1).f0) ((rd_T24 l0_0 x15_1).f1) ((rd_T24 l0_0 x15_1).f2) ((rd_T24 l0_0 x15_1).f3) ((rd_T24 l0_0 x15_1).f4)) else ((hpmap_get.f x276000_1 ((rd_T24 l0_0 x15_1).f1)).bind fun bt279 => (schema_Right.j1 k1 l0_0 (l0_0.length : Int) x15_1 bt279.1 bt279.2 ((rd_T24 l0_0 x15_1).f0) ((rd_T24 l0_0 x15_1).f1) ((rd_T24 l0_0 x15_1).f2) ((rd_T24 l0_0 x15_1).f3) ((rd_T24 l0_0 x15_1).f4)))) = some r := by rw [if_pos rfl] at H; exact H
         clear H
         have H := H1
         clear H1
         by_cases c20 : ((rd_T24 l0_0 x15_1).f0) ≤ x3_1
         ·
          rw [if_pos c20] at H
          have c20b0 : decide (((rd_T24 l0_0 x15_1).f0) ≤ x3_1) = true := decide_eq_true c20
          clear c20
          (first | rw [c20b0] | (simp only [i64_w, i32_w]; rw [c20b0]) | skip)
          have H' := aM H
          clear H
          have hnb21 := NB277_274.out
          have hnc21 := NB274_277.out
          have hnb22 := NB277_275.out
          have hnc22 := NB275_277.out
          obtain ⟨hcz23_0, hcz23_1, hcz23_2, hcz23_3, hcz23_4, hfz23_0, hfz23_1, hfz23_2, hfz23_3, hfz23_4⟩ := cells5 BK277.out
          go_wp2_with (first | ((with_reducible refine gate_callee (f := 26) rfl ?_); refine yC 20 Tryd.func26 #[.agg #[.int .i64 ((rd_T24 l0_0 x15_1).f0), .string ((rd_T24 l0_0 x15_1).f1), .int .i64 ((rd_T24 l0_0 x15_1).f2), .int .i64 ((rd_T24 l0_0 x15_1).f3), .slice A276_4 ((rd_T24 l0_0 x15_1).f4).length c276_4]] rfl ?_; (with_reducible refine (schema_RightTable.calls k1 ((rd_T24 l0_0 x15_1).f0) ((rd_T24 l0_0 x15_1).f1) ((rd_T24 l0_0 x15_1).f2) ((rd_T24 l0_0 x15_1).f3) _ _ ((rd_T24 l0_0 x15_1).f4) true _ ?side1 ?side2 ?side3 A18.out).mono ?_); (case side1 => exact Kd.C_below HR276_4.out (yG3 HB (IsS170.ge HI275.out) GE274.out GE277.out)); (case side2 => exact HC276_4.out); (case side3 => first | (with_reducible exact HG.out) | exact Glob.below HG.out (yG3 HB (IsS170.ge HI275.out) GE274.out GE277.out)); rintro e w24 ⟨rfl, hb⟩; refine ⟨_, rfl, ?_⟩; replace BK274 := aM (kB (yF1 BK274 NB274_277.out) hb); replace BK277 := aM (kB (puts5 BK277.out) hb); replace HB := aM (bP (yG3 HB (IsS170.ge HI275.out) GE274.out GE277.out) hb); replace HI275 := aM (IsS170.below (show IsS170 w (((((w14.setCell ⟨gb277, 0, none⟩ (.int .i64 ((rd_T24 l0_0 x15_1).f0))).setCell ⟨gb277, 1, none⟩ (.string ((rd_T24 l0_0 x15_1).f1))).setCell ⟨gb277, 2, none⟩ (.int .i64 ((rd_T24 l0_0 x15_1).f2))).setCell ⟨gb277, 3, none⟩ (.int .i64 ((rd_T24 l0_0 x15_1).f3))).setCell ⟨gb277, 4, none⟩ (.slice A276_4 ((rd_T24 l0_0 x15_1).f4).length c276_4)) gb275 x276000_1 from by repeat (first | (with_reducible first | exact HI275.out | apply IsS170.alloc | apply IsS170.drewN | apply IsS170.drew | apply IsS170.set_0 | refine IsS170.far ?_ NB275_274.out _ | refine IsS170.far ?_ NB275_277.out _) | exact HI275.out)) hb); (try clear hb); obtain ⟨hcz25_0, hcz25_1, hcz25_2, hcz25_3, hcz25_4, hfz25_0, hfz25_1, hfz25_2, hfz25_3, hfz25_4⟩ := cells5 BK277.out))
          go_meet
          case rel => exact ⟨_, (true), (x276000_1), yS, H', ⟨by have := HK1.out; first | omega | exact Nat.le_refl _⟩, ⟨yK BK274⟩, ⟨yK BK277⟩, ⟨by repeat (first | (with_reducible first | exact HI275.out | apply IsS170.alloc | apply IsS170.drewN | apply IsS170.drew | apply IsS170.set_0 | refine IsS170.far ?_ NB275_274.out _ | refine IsS170.far ?_ NB275_277.out _) | exact HI275.out)⟩, ⟨yG3 HB (IsS170.ge HI275.out) GE274.out GE277.out⟩⟩
         ·
          rw [if_neg c20] at H
          have c20b0 : decide (((rd_T24 l0_0 x15_1).f0) ≤ x3_1) = false := decide_eq_false c20
          clear c20
          (first | rw [c20b0] | (simp only [i64_w, i32_w]; rw [c20b0]) | skip)
          replace H := Option.bind_eq_some_iff.mp H
          obtain ⟨⟨t279, t280⟩, A260, H⟩ := H
          replace H : (schema_Right.j1 k1 l0_0 (l0_0.length : Int) x15_1 t279 t280 ((rd_T24 l0_0 x15_1).f0) ((rd_T24 l0_0 x15_1).f1) ((rd_T24 l0_0 x15_1).f2) ((rd_T24 l0_0 x15_1).f3) ((rd_T24 l0_0 x15_1).f4)) = some r := H
          have A26 := aM A260
          clear A260
          have H' := aM H
          clear H
          have hnb27 := NB277_274.out
          have hnc27 := NB274_277.out
          have hnb28 := NB277_275.out
          have hnc28 := NB275_277.out
          obtain ⟨hcz29_0, hcz29_1, hcz29_2, hcz29_3, hcz29_4, hfz29_0, hfz29_1, hfz29_2, hfz29_3, hfz29_4⟩ := cells5 BK277.out
          go_wp2_with (first | ((with_reducible refine gate_callee (f := 26) rfl ?_); refine yC 20 Tryd.func26 #[.agg #[.int .i64 ((rd_T24 l0_0 x15_1).f0), .string ((rd_T24 l0_0 x15_1).f1), .int .i64 ((rd_T24 l0_0 x15_1).f2), .int .i64 ((rd_T24 l0_0 x15_1).f3), .slice A276_4 ((rd_T24 l0_0 x15_1).f4).length c276_4]] rfl ?_; (with_reducible refine (schema_RightTable.calls k1 ((rd_T24 l0_0 x15_1).f0) ((rd_T24 l0_0 x15_1).f1) ((rd_T24 l0_0 x15_1).f2) ((rd_T24 l0_0 x15_1).f3) _ _ ((rd_T24 l0_0 x15_1).f4) true _ ?side1 ?side2 ?side3 A18.out).mono ?_); (case side1 => exact Kd.C_below HR276_4.out (yG3 HB (IsS170.ge HI275.out) GE274.out GE277.out)); (case side2 => exact HC276_4.out); (case side3 => first | (with_reducible exact HG.out) | exact Glob.below HG.out (yG3 HB (IsS170.ge HI275.out) GE274.out GE277.out)); rintro e w30 ⟨rfl, hb⟩; refine ⟨_, rfl, ?_⟩; replace BK274 := aM (kB (yF1 BK274 NB274_277.out) hb); replace BK277 := aM (kB (puts5 BK277.out) hb); replace HB := aM (bP (yG3 HB (IsS170.ge HI275.out) GE274.out GE277.out) hb); replace HI275 := aM (IsS170.below (show IsS170 w (((((w14.setCell ⟨gb277, 0, none⟩ (.int .i64 ((rd_T24 l0_0 x15_1).f0))).setCell ⟨gb277, 1, none⟩ (.string ((rd_T24 l0_0 x15_1).f1))).setCell ⟨gb277, 2, none⟩ (.int .i64 ((rd_T24 l0_0 x15_1).f2))).setCell ⟨gb277, 3, none⟩ (.int .i64 ((rd_T24 l0_0 x15_1).f3))).setCell ⟨gb277, 4, none⟩ (.slice A276_4 ((rd_T24 l0_0 x15_1).f4).length c276_4)) gb275 x276000_1 from by repeat (first | (with_reducible first | exact HI275.out | apply IsS170.alloc | apply IsS170.drewN | apply IsS170.drew | apply IsS170.set_0 | refine IsS170.far ?_ NB275_274.out _ | refine IsS170.far ?_ NB275_277.out _) | exact HI275.out)) hb); (try clear hb); obtain ⟨hcz31_0, hcz31_1, hcz31_2, hcz31_3, hcz31_4, hfz31_0, hfz31_1, hfz31_2, hfz31_3, hfz31_4⟩ := cells5 BK277.out) | (at_lookup; (try (refine gate_guard (by rfl) ?_; dsimp only)); refine hpmap_get_op rfl rfl rfl rfl ?_; (with_reducible refine (hpmap_get.calls gb275 x276000_1 ((rd_T24 l0_0 x15_1).f1) t279 t280 w _ ?side1 ?side2 A26.out).mono ?_); (case side1 => repeat (first | (with_reducible first | exact HI275.out | apply IsS170.alloc | apply IsS170.drewN | apply IsS170.drew | apply IsS170.set_0 | refine IsS170.far ?_ NB275_274.out _ | refine IsS170.far ?_ NB275_277.out _) | exact HI275.out)); (case side2 => exact yG3 HB (IsS170.ge HI275.out) GE274.out GE277.out); rintro e w32 ⟨rfl, hi, hb, hk⟩; refine ⟨_, rfl, ?_⟩; replace BK274 := aM (KeepBut.blk hk (g' := gb274) (o := .cells #[.slice (some ad276) l0_0.length c0_0] 46 (0, 0)) (yK BK274) NB274_275.out (by simp)); replace BK277 := aM (KeepBut.blk hk (g' := gb277) (o := .cells #[.int .i64 ((rd_T24 l0_0 x15_1).f0), .string ((rd_T24 l0_0 x15_1).f1), .int .i64 ((rd_T24 l0_0 x15_1).f2), .int .i64 ((rd_T24 l0_0 x15_1).f3), .slice A276_4 ((rd_T24 l0_0 x15_1).f4).length c276_4] 24 (0, 0)) (yK BK277) NB277_275.out (by simp)); replace HB := aM (hb); replace HI275 := aM (hi); (try clear hb); (try clear hk); (try clear hi)))
          go_meet
          case rel => exact ⟨_, (t279), (t280), yS, H', ⟨by have := HK1.out; first | omega | exact Nat.le_refl _⟩, ⟨yK BK274⟩, ⟨yK BK277⟩, ⟨by repeat (first | (with_reducible first | exact HI275.out | apply IsS170.alloc | apply IsS170.drewN | apply IsS170.drew | apply IsS170.set_0 | refine IsS170.far ?_ NB275_274.out _ | refine IsS170.far ?_ NB275_277.out _) | exact HI275.out)⟩, ⟨yG3 HB (IsS170.ge HI275.out) GE274.out GE277.out⟩⟩
        ·
         replace c19 := Bool.eq_false_iff.mpr c19
         subst c19
         have H1 : (schema_Right.j1 k1 l0_0 (l0_0.length : Int) x15_1 true x276000_1 ((rd_T24 l0_0 x15_1).f0) ((rd_T24 l0_0 x15_1).f1) ((rd_T24 l0_0 x15_1).f2) ((rd_T24 l0_0 x15_1).f3) ((rd_T24 l0_0 x15_1).f4)) = some r := by rw [if_neg (show ¬ (false = true) by decide)] at H; exact H
         clear H
         have H := H1
         clear H1
         have H' := aM H
         clear H
         have hnb33 := NB277_274.out
         have hnc33 := NB274_277.out
         have hnb34 := NB277_275.out
         have hnc34 := NB275_277.out
         obtain ⟨hcz35_0, hcz35_1, hcz35_2, hcz35_3, hcz35_4, hfz35_0, hfz35_1, hfz35_2, hfz35_3, hfz35_4⟩ := cells5 BK277.out
         go_wp2_with (first | ((with_reducible refine gate_callee (f := 26) rfl ?_); refine yC 20 Tryd.func26 #[.agg #[.int .i64 ((rd_T24 l0_0 x15_1).f0), .string ((rd_T24 l0_0 x15_1).f1), .int .i64 ((rd_T24 l0_0 x15_1).f2), .int .i64 ((rd_T24 l0_0 x15_1).f3), .slice A276_4 ((rd_T24 l0_0 x15_1).f4).length c276_4]] rfl ?_; (with_reducible refine (schema_RightTable.calls k1 ((rd_T24 l0_0 x15_1).f0) ((rd_T24 l0_0 x15_1).f1) ((rd_T24 l0_0 x15_1).f2) ((rd_T24 l0_0 x15_1).f3) _ _ ((rd_T24 l0_0 x15_1).f4) false _ ?side1 ?side2 ?side3 A18.out).mono ?_); (case side1 => exact Kd.C_below HR276_4.out (yG3 HB (IsS170.ge HI275.out) GE274.out GE277.out)); (case side2 => exact HC276_4.out); (case side3 => first | (with_reducible exact HG.out) | exact Glob.below HG.out (yG3 HB (IsS170.ge HI275.out) GE274.out GE277.out)); rintro e w36 ⟨rfl, hb⟩; refine ⟨_, rfl, ?_⟩; replace BK274 := aM (kB (yF1 BK274 NB274_277.out) hb); replace BK277 := aM (kB (puts5 BK277.out) hb); replace HB := aM (bP (yG3 HB (IsS170.ge HI275.out) GE274.out GE277.out) hb); replace HI275 := aM (IsS170.below (show IsS170 w (((((w14.setCell ⟨gb277, 0, none⟩ (.int .i64 ((rd_T24 l0_0 x15_1).f0))).setCell ⟨gb277, 1, none⟩ (.string ((rd_T24 l0_0 x15_1).f1))).setCell ⟨gb277, 2, none⟩ (.int .i64 ((rd_T24 l0_0 x15_1).f2))).setCell ⟨gb277, 3, none⟩ (.int .i64 ((rd_T24 l0_0 x15_1).f3))).setCell ⟨gb277, 4, none⟩ (.slice A276_4 ((rd_T24 l0_0 x15_1).f4).length c276_4)) gb275 x276000_1 from by repeat (first | (with_reducible first | exact HI275.out | apply IsS170.alloc | apply IsS170.drewN | apply IsS170.drew | apply IsS170.set_0 | refine IsS170.far ?_ NB275_274.out _ | refine IsS170.far ?_ NB275_277.out _) | exact HI275.out)) hb); (try clear hb)))
         go_meet
         case rel => exact ⟨_, (true), (x276000_1), yS, H', ⟨by have := HK1.out; first | omega | exact Nat.le_refl _⟩, ⟨yK BK274⟩, ⟨yK BK277⟩, ⟨by repeat (first | (with_reducible first | exact HI275.out | apply IsS170.alloc | apply IsS170.drewN | apply IsS170.drew | apply IsS170.set_0 | refine IsS170.far ?_ NB275_274.out _ | refine IsS170.far ?_ NB275_277.out _) | exact HI275.out)⟩, ⟨yG3 HB (IsS170.ge HI275.out) GE274.out GE277.out⟩⟩
       case rest =>
        clear HC13
        try clear c1
        try clear c2
        try clear c2b0
        try clear c2b1
        try clear p2
        try clear q2
        try clear hx2
        try clear c3
        try clear c8
        try clear c10
        try clear c10b0
        try clear c11
        try clear c11b0
        try clear c12
        try clear c12b0
        try clear c15
        try clear c16
        try clear c19
        try clear c20
        try clear c20b0
        try clear c21
        try clear c22
        try clear c26
        try clear c27
        try clear p27
        try clear q27
        try clear hx27
        try clear c28
        try clear c30
        try clear c33
        try clear c34
        try clear hcz17_0 hcz17_1 hcz17_2 hcz17_3 hcz17_4
        try clear hcz23_0 hcz23_1 hcz23_2 hcz23_3 hcz23_4
        try clear hcz25_0 hcz25_1 hcz25_2 hcz25_3 hcz25_4
        try clear hcz29_0 hcz29_1 hcz29_2 hcz29_3 hcz29_4
        try clear hcz31_0 hcz31_1 hcz31_2 hcz31_3 hcz31_4
        try clear hcz35_0 hcz35_1 hcz35_2 hcz35_3 hcz35_4
        try clear hcz4_0
        try clear hcz6_0
        try clear hcz9_0
        try clear hfz17_0 hfz17_1 hfz17_2 hfz17_3 hfz17_4
        try clear hfz23_0 hfz23_1 hfz23_2 hfz23_3 hfz23_4
        try clear hfz25_0 hfz25_1 hfz25_2 hfz25_3 hfz25_4
        try clear hfz29_0 hfz29_1 hfz29_2 hfz29_3 hfz29_4
        try clear hfz31_0 hfz31_1 hfz31_2 hfz31_3 hfz31_4
        try clear hfz35_0 hfz35_1 hfz35_2 hfz35_3 hfz35_4
        try clear hfz4_0
        try clear hfz6_0
        try clear hfz9_0
        try clear hx276_0 hx276_1 hx276_2 hx276_3 hx276_4
        try clear p2
        try clear p276
        try clear q276
        obtain ⟨kq, x33_12, x276000_12, rfl, HA, HJ12, BK274, BK277, HI275, HB⟩ := hcut
        cases kq with
        | zero => exact absurd HA.out (by simp [schema_Right.j1])
        | succ kj12 =>
         have H := HA.out
         clear HA
         simp only [schema_Right.j1] at H
         by_cases c37 : x33_12 = true
         ·
          subst c37
          have H1 : (some false) = some r := by rw [if_pos rfl] at H; exact H
          clear H
          have H := H1
          clear H1
          obtain rfl := Option.some.inj H
          go_wp2
          go_ret
          exact ⟨yE, yG3 HB (IsS170.ge HI275.out) GE274.out GE277.out⟩
         ·
          replace c37 := Bool.eq_false_iff.mpr c37
          subst c37
          have H1 : ((hpmap_put.f x276000_12 ((rd_T24 l0_0 x15_1).f1)).bind fun t281 => (schema_Right.l0 kj12 ((rd_T24 l0_0 x15_1).f0) l0_0 (l0_0.length : Int) (wrap64 (x15_1 + 1)) t281)) = some r := by rw [if_neg (show ¬ (false = true) by decide)] at H; exact H
          clear H
          have H := H1
          clear H1
          replace H := Option.bind_eq_some_iff.mp H
          obtain ⟨t281, A380, H⟩ := H
          replace H : (schema_Right.l0 kj12 ((rd_T24 l0_0 x15_1).f0) l0_0 (l0_0.length : Int) (wrap64 (x15_1 + 1)) t281) = some r := H
          have A38 := aM A380
          clear A380
          have H' := aM H
          clear H
          try go_wp2
          have n0_ := aM (kD BK274.out)
          have n1_ := aM (kD BK277.out)
          have n2_ := aM (IsS170.drew HI275.out)
          have n3_ := aM (b1 HB.out)
          clear BK274
          clear BK277
          clear HI275
          clear HB
          have BK274 := n0_
          have BK277 := n1_
          have HI275 := n2_
          have HB := n3_
          clear n0_ n1_ n2_ n3_
          refine start_ (n := 7) (S := fun w' => w'.cell? ⟨gb277, 0, none⟩ = some (.int .i64 ((rd_T24 l0_0 x15_1).f0)) ∧ w'.cell? ⟨gb277, 1, none⟩ = some (.string ((rd_T24 l0_0 x15_1).f1)) ∧ w'.cell? ⟨gb277, 2, none⟩ = some (.int .i64 ((rd_T24 l0_0 x15_1).f2)) ∧ w'.cell? ⟨gb277, 3, none⟩ = some (.int .i64 ((rd_T24 l0_0 x15_1).f3)) ∧ w'.cell? ⟨gb277, 4, none⟩ = some (.slice A276_4 ((rd_T24 l0_0 x15_1).f4).length c276_4)) (ds := []) (tB 0 7) (by kernel_rfl) rfl rfl (cellc5 BK277.out) (fun hHeld => ?_)
          generalize wc.drew = w39 at BK274 BK277 HI275 HB hHeld ⊢
          refine yP0 0 34 (tB 1 7) rfl rfl ?_
          refine yP0 1 35 (tB 3 7) rfl rfl ?_
          refine yP0 3 37 (tB 11 7) rfl rfl ?_
          refine yT0 2 36 (tB 15 7) rfl rfl hHeld ?_
          refine yT0 4 38 (tB 31 7) rfl rfl hHeld ?_
          refine yP0 5 3 (tB 63 7) rfl rfl ?_
          refine yI0 6 (tB 127 7) rfl rfl fun K hK => ?_
          refine hpmap_goes_put (by rfl) rfl rfl (by rfl) (by rfl) ?_
          with_reducible refine (hpmap_put.calls gb275 x276000_12 ((rd_T24 l0_0 x15_1).f1) t281 w _ ?side1 ?side2 A38.out).mono ?_
          (case side1 => repeat (first | (with_reducible first | exact HI275.out | apply IsS170.alloc | apply IsS170.drewN | apply IsS170.drew | apply IsS170.set_0 | refine IsS170.far ?_ NB275_274.out _ | refine IsS170.far ?_ NB275_277.out _) | exact HI275.out))
          (case side2 => exact yG3 HB (IsS170.ge HI275.out) GE274.out GE277.out)
          rintro e w40 ⟨rfl, hi, hb, hk⟩
          refine ⟨_, rfl, ?_⟩
          have n0_ := aM (KeepBut.blk hk (g' := gb274) (o := .cells #[.slice (some ad276) l0_0.length c0_0] 46 (0, 0)) (yK BK274) NB274_275.out (by simp))
          have n1_ := aM (KeepBut.blk hk (g' := gb277) (o := .cells #[.int .i64 ((rd_T24 l0_0 x15_1).f0), .string ((rd_T24 l0_0 x15_1).f1), .int .i64 ((rd_T24 l0_0 x15_1).f2), .int .i64 ((rd_T24 l0_0 x15_1).f3), .slice A276_4 ((rd_T24 l0_0 x15_1).f4).length c276_4] 24 (0, 0)) (yK BK277) NB277_275.out (by simp))
          have n2_ := aM (hb)
          have n3_ := aM (hi)
          clear BK274
          clear BK277
          clear HB
          clear HI275
          have BK274 := n0_
          have BK277 := n1_
          have HB := n2_
          have HI275 := n3_
          clear n0_ n1_ n2_ n3_
          (try clear hb)
          (try clear hb2)
          (try clear hk)
          (try clear hi)
          refine hK.out _ _ (cellc5 BK277.out) (fun hHeld => ?_)
          clear hK K
          refine done_ (by kernel_rfl) ?_
          try go_wp2
          go_roundg kj12
          case measure => have := HK1.out; have := HJ12.out; omega
          case rel => exact ⟨(((rd_T24 l0_0 x15_1).f0)), (wrap64 (x15_1 + 1)), (t281), yS, yS, H', ⟨by have := HK1.out; have := HJ12.out; omega⟩, ⟨yK BK274⟩, ⟨by repeat (first | (with_reducible first | exact HI275.out | apply IsS170.alloc | apply IsS170.drewN | apply IsS170.drew | apply IsS170.set_0 | refine IsS170.far ?_ NB275_274.out _ | refine IsS170.far ?_ NB275_277.out _) | exact HI275.out)⟩, ⟨yG3 HB (IsS170.ge HI275.out) GE274.out GE277.out⟩⟩
      ·
       rw [if_neg c12] at H
       exact absurd H (by simp)
     ·
      rw [if_neg c11] at H
      exact absurd H (by simp)
    ·
     rw [if_neg c10] at H
     have c10b0 : decide (x15_1 < (l0_0.length : Int)) = false := decide_eq_false c10
     clear c10
     obtain rfl := Option.some.inj H
     go_wp2
     go_ret
     exact ⟨yE, yG2 HB (IsS170.ge HI275.out) GE274.out⟩
/-! ### haulageref08_Find: function 42 -/
def haulageref08_Find.l0 : Nat → ByteArray → Int → List (S24) → Option (Int)
 | 0, _, _, _ => none
 | k + 1, x1, x5, x283000 => if x5 < (x283000.length : Int) then (if 0 ≤ x5 then (if ((rd_T24 x283000 x5).f1).toList = x1.toList then (some x5) else (haulageref08_Find.l0 k x1 (wrap64 (x5 + 1)) x283000)) else (none)) else (some (-1))
def haulageref08_Find.f (k : Nat) (l0_0 : List (S24)) (a1 : ByteArray) : Option (Int) := haulageref08_Find.l0 k a1 0 l0_0
theorem haulageref08_Find.mono_l : ∀ k, (∀ y0 y1 y2, LeO (haulageref08_Find.l0 k y0 y1 y2) (haulageref08_Find.l0 (k + 1) y0 y1 y2))
 | 0 => fun _ _ _ r h => by simp [haulageref08_Find.l0] at h
 | k + 1 => by
  have ih0 := haulageref08_Find.mono_l k
  ·
   intro y0 y1 y2
   unfold haulageref08_Find.l0
   repeat' first
   | (with_reducible exact ih0 _ _ _)
   | (with_reducible exact LeO.refl _)
   | (with_reducible exact LeO.none _)
   | (with_reducible refine LeO.ite ?_ ?_)
   | (with_reducible refine LeO.bind ?_ (fun _ => ?_))
   | exact ih0 _ _ _
   | exact LeO.none _
   | refine LeO.ite ?_ ?_
   | refine LeO.bind ?_ (fun _ => ?_)
theorem haulageref08_Find.mono : ∀ a0 a1 k, LeO (haulageref08_Find.f k a0 a1) (haulageref08_Find.f (k + 1) a0 a1) := by
 intro a0 a1 k
 have ih0 := haulageref08_Find.mono_l k
 unfold haulageref08_Find.f
 repeat' first
   | (with_reducible exact ih0 _ _ _)
   | (with_reducible exact LeO.refl _)
   | (with_reducible exact LeO.none _)
   | (with_reducible refine LeO.ite ?_ ?_)
   | (with_reducible refine LeO.bind ?_ (fun _ => ?_))
   | exact ih0 _ _ _
   | exact LeO.none _
   | refine LeO.ite ?_ ?_
   | refine LeO.bind ?_ (fun _ => ?_)
set_option maxHeartbeats 8000000 in
set_option maxRecDepth 100000 in
theorem haulageref08_Find.calls (k : Nat) (A0_0 : Option Addr) (c0_0 : Nat) (l0_0 : List (S24)) (a1 : ByteArray) (r : Int) (w : World) (hr0_0 : Kd.C k24 w A0_0 l0_0.length l0_0) (hc0_0 : l0_0.length ≤ c0_0) (h : haulageref08_Find.f k l0_0 a1 = some r) :
  Calls Tryd.prog 42 #[.agg #[.slice A0_0 l0_0.length c0_0], .string a1] w fun e w' => e = .returned (.int .i64 r) ∧ Below w.heap.size w w' := by
 have hu46 := Tryd.underlying46
 have HR0_0 := aM hr0_0
 have HC0_0 := aM hc0_0
 clear hr0_0 hc0_0
 have HB := aM (Below.refl w.heap.size w)
 have H : (haulageref08_Find.l0 k a1 0 l0_0) = some r := h
 clear h
 have H' := aM H
 clear H
 go_enter Tryd.func42, Tryd.ntmps42
 go_wp2_with (first | ((with_reducible refine gate_dst (N := 2) rfl ?_); refine yX (N := 2) (cs := #[.slice A0_0 l0_0.length c0_0]) (t := 46) ?_; intro gb282 hg w3 hbox hb; have BK282 := aM (hbox); have GW282 := yZ hg (yB HB); have GE282 := yZ hg (yB HB); replace HB := aM (bP (yB HB) hb); clear hb hbox hg))
 go_loopg [5] k (fun kq v5 w' => ∃ (x5_1 : Int), v5 = .int .i64 x5_1 ∧ Aside0 (haulageref08_Find.l0 kq a1 x5_1 l0_0 = some r) ∧ Aside0 (kq ≤ k) ∧ Aside0 (w'.heap[gb282]? = some (.cells #[(.slice A0_0 l0_0.length c0_0)] 46 (0, 0))) ∧ Aside0 (Below w.heap.size w w'))
 case atStart => exact ⟨(0), yS, H', ⟨Nat.le_refl _⟩, ⟨yK BK282⟩, ⟨yG1 HB GE282.out⟩⟩
 case round =>
  clear H'
  try clear p2
  obtain ⟨x5_1, rfl, HA, HK1, BK282, HB⟩ := hrel
  cases gk with
  | zero => exact absurd HA.out (by simp [haulageref08_Find.l0])
  | succ k1 =>
   have H := HA.out
   clear HA
   simp only [haulageref08_Find.l0] at H
   by_cases c4 : x5_1 < (l0_0.length : Int)
   ·
    rw [if_pos c4] at H
    have c4b0 : decide (x5_1 < (l0_0.length : Int)) = true := decide_eq_true c4
    clear c4
    by_cases c5 : 0 ≤ x5_1
    ·
     rw [if_pos c5] at H
     have c5b0 : decide (0 ≤ x5_1) = true := decide_eq_true c5
     clear c5
     by_cases c6 : ((rd_T24 l0_0 x5_1).f1).toList = a1.toList
     ·
      rw [if_pos c6] at H
      have c6b0 : (((rd_T24 l0_0 x5_1).f1).toList == a1.toList) = true := beq_iff_eq.mpr c6
      have c6b1 : (((rd_T24 l0_0 x5_1).f1).toList != a1.toList) = false := bne_eq_false_iff_eq.mpr c6
      clear c6
      obtain rfl := Option.some.inj H
      obtain ⟨hcz7_0, hfz7_0⟩ := cells1 BK282.out
      have p283 : 0 ≤ (x5_1 : Int) := oD yA
      have q283 : x5_1 < (l0_0.length : Int) := oD yA
      obtain ⟨ad283, A283_4, c283_4, e283, hx283_0, hx283_1, hx283_2, hx283_3, hx283_4, hl283_4, hi283_4⟩ := at_T24 HR0_0.out x5_1 p283 q283
      cases e283
      replace hx283_0 := pw_cell_below HB.out hx283_0
      replace hx283_1 := pw_cell_below HB.out hx283_1
      replace hx283_2 := pw_cell_below HB.out hx283_2
      replace hx283_3 := pw_cell_below HB.out hx283_3
      replace hx283_4 := pw_cell_below HB.out hx283_4
      have HR283_4 := aM hi283_4
      have HC283_4 := aM hl283_4
      clear hi283_4 hl283_4
      replace p283 := eq_true p283
      replace q283 := eq_true q283
      go_wp2
      go_ret
      exact ⟨yE, yG1 HB GE282.out⟩
     ·
      rw [if_neg c6] at H
      have c6b0 : (((rd_T24 l0_0 x5_1).f1).toList == a1.toList) = false := beq_eq_false_iff_ne.mpr c6
      have c6b1 : (((rd_T24 l0_0 x5_1).f1).toList != a1.toList) = true := bne_iff_ne.mpr c6
      have H' := aM H
      clear H
      obtain ⟨hcz8_0, hfz8_0⟩ := cells1 BK282.out
      have p283 : 0 ≤ (x5_1 : Int) := oD yA
      have q283 : x5_1 < (l0_0.length : Int) := oD yA
      obtain ⟨ad283, A283_4, c283_4, e283, hx283_0, hx283_1, hx283_2, hx283_3, hx283_4, hl283_4, hi283_4⟩ := at_T24 HR0_0.out x5_1 p283 q283
      cases e283
      replace hx283_0 := pw_cell_below HB.out hx283_0
      replace hx283_1 := pw_cell_below HB.out hx283_1
      replace hx283_2 := pw_cell_below HB.out hx283_2
      replace hx283_3 := pw_cell_below HB.out hx283_3
      replace hx283_4 := pw_cell_below HB.out hx283_4
      have HR283_4 := aM hi283_4
      have HC283_4 := aM hl283_4
      clear hi283_4 hl283_4
      replace p283 := eq_true p283
      replace q283 := eq_true q283
      go_wp2
      go_roundg k1
      case measure => have := HK1.out; omega
      case rel => exact ⟨(wrap64 (x5_1 + 1)), yS, H', ⟨by have := HK1.out; omega⟩, ⟨yK BK282⟩, ⟨yG1 HB GE282.out⟩⟩
    ·
     rw [if_neg c5] at H
     exact absurd H (by simp)
   ·
    rw [if_neg c4] at H
    have c4b0 : decide (x5_1 < (l0_0.length : Int)) = false := decide_eq_false c4
    clear c4
    obtain rfl := Option.some.inj H
    obtain ⟨hcz9_0, hfz9_0⟩ := cells1 BK282.out
    go_wp2
    go_ret
    exact ⟨yE, yG1 HB GE282.out⟩
end Go.Proofs.YtdeophpjammbpaaDoor.HSchemaRight

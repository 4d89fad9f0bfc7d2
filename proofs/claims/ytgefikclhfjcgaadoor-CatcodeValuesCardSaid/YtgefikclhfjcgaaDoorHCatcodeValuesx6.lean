/- For Go functions that CatcodeValues reaches: Lean functions, and walks that show that each call comes to what its Lean function tells; no condition but those that each theorem states. (Made by a program of this session over the kit's print.py.) -/
import Derived.Test.YtgefikclhfjcgaaDoorHCatcodeValuesx0
import Derived.Test.YtgefikclhfjcgaaDoorHCatcodeValuesx4
import Derived.Test.YtgefikclhfjcgaaDoorHCatcodeValuesx5
namespace Go.Proofs.YtgefikclhfjcgaaDoor.HCatcodeValues
open Go.RowKit Go.Proofs.YtgefikclhfjcgaaDoorW.PrintWords Go.Proofs.YtgefikclhfjcgaaDoorW.PrintLast Go.Proofs.YtgefikclhfjcgaaDoorW.PrintMore
attribute [local go_sem] max2_int min2_int max_two min_two max_three min_three max_four min_four   -- for this text's walks alone
set_option linter.unusedVariables false
set_option linter.unusedSimpArgs false
attribute [local go_sem] hp_s8 hp_s16 hp_s32 hp_s64 hp_m8 hp_m16 hp_m32 hp_m64
/-! ### schema_RightTable: function 83 -/
mutual
def schema_RightTable.j0 : Nat → Bool → Int → ByteArray → Int → Int → List (S97) → Option (Bool)
 | 0, _, _, _, _, _, _ => none
 | k + 1, x33, x168000, x168001, x168002, x168003, x168004 => if x33 = true then (some false) else (schema_RightTable.l0 k (-1) false x168004 (x168004.length : Int) 0 x168000 x168001 x168002 x168003 x168004 ([] : List ByteArray))
def schema_RightTable.l0 : Nat → Int → Bool → List (S97) → Int → Int → Int → ByteArray → Int → Int → List (S97) → List ByteArray → Option (Bool)
 | 0, _, _, _, _, _, _, _, _, _, _, _ => none
 | k + 1, x3, x4, x36, x37, x38, x168000, x168001, x168002, x168003, x168004, x170000 => if x38 < x37 then (if 0 ≤ x38 then (if x38 < (x36.length : Int) then ((schema_RightColumn.f k ((rd_T97 x36 x38).f0) ((rd_T97 x36 x38).f1) ((rd_T97 x36 x38).f2.f0) ((rd_T97 x36 x38).f2.f1) ((rd_T97 x36 x38).f3) ((rd_T97 x36 x38).f4.f0) ((rd_T97 x36 x38).f4.f1) ((rd_T97 x36 x38).f4.f2)).bind fun t172 => (if t172 = true then (if ((rd_T97 x36 x38).f0) ≤ x3 then (schema_RightTable.j2 k x4 x36 x37 x38 true x168000 x168001 x168002 x168003 x168004 x170000 ((rd_T97 x36 x38).f0) ((rd_T97 x36 x38).f1) ((rd_T97 x36 x38).f2.f0) ((rd_T97 x36 x38).f2.f1) ((rd_T97 x36 x38).f3) ((rd_T97 x36 x38).f4.f0) ((rd_T97 x36 x38).f4.f1) ((rd_T97 x36 x38).f4.f2)) else (if ((rd_T97 x36 x38).f0) ≥ x168003 then (schema_RightTable.j2 k x4 x36 x37 x38 true x168000 x168001 x168002 x168003 x168004 x170000 ((rd_T97 x36 x38).f0) ((rd_T97 x36 x38).f1) ((rd_T97 x36 x38).f2.f0) ((rd_T97 x36 x38).f2.f1) ((rd_T97 x36 x38).f3) ((rd_T97 x36 x38).f4.f0) ((rd_T97 x36 x38).f4.f1) ((rd_T97 x36 x38).f4.f2)) else ((hpmap_get.f x170000 ((rd_T97 x36 x38).f1)).bind fun bt173 => (schema_RightTable.j2 k x4 x36 x37 x38 bt173.1 x168000 x168001 x168002 x168003 x168004 bt173.2 ((rd_T97 x36 x38).f0) ((rd_T97 x36 x38).f1) ((rd_T97 x36 x38).f2.f0) ((rd_T97 x36 x38).f2.f1) ((rd_T97 x36 x38).f3) ((rd_T97 x36 x38).f4.f0) ((rd_T97 x36 x38).f4.f1) ((rd_T97 x36 x38).f4.f2))))) else (schema_RightTable.j2 k x4 x36 x37 x38 true x168000 x168001 x168002 x168003 x168004 x170000 ((rd_T97 x36 x38).f0) ((rd_T97 x36 x38).f1) ((rd_T97 x36 x38).f2.f0) ((rd_T97 x36 x38).f2.f1) ((rd_T97 x36 x38).f3) ((rd_T97 x36 x38).f4.f0) ((rd_T97 x36 x38).f4.f1) ((rd_T97 x36 x38).f4.f2)))) else (none)) else (none)) else (some x4)
def schema_RightTable.j2 : Nat → Bool → List (S97) → Int → Int → Bool → Int → ByteArray → Int → Int → List (S97) → List ByteArray → Int → ByteArray → Int → Int → Bool → Int → Int → ByteArray → Option (Bool)
 | 0, _, _, _, _, _, _, _, _, _, _, _, _, _, _, _, _, _, _, _ => none
 | k + 1, x4, x36, x37, x38, x63, x168000, x168001, x168002, x168003, x168004, x170000, x172000, x172001, x172002, x172003, x172004, x172005, x172006, x172007 => if x63 = true then (some false) else (if x172000 = x168002 then (schema_RightTable.j3 k (!x172004) x36 x37 x38 x168000 x168001 x168002 x168003 x168004 x170000 x172000 x172001 x172002 x172003 x172004 x172005 x172006 x172007) else (schema_RightTable.j3 k x4 x36 x37 x38 x168000 x168001 x168002 x168003 x168004 x170000 x172000 x172001 x172002 x172003 x172004 x172005 x172006 x172007))
def schema_RightTable.j3 : Nat → Bool → List (S97) → Int → Int → Int → ByteArray → Int → Int → List (S97) → List ByteArray → Int → ByteArray → Int → Int → Bool → Int → Int → ByteArray → Option (Bool)
 | 0, _, _, _, _, _, _, _, _, _, _, _, _, _, _, _, _, _, _ => none
 | k + 1, x4, x36, x37, x38, x168000, x168001, x168002, x168003, x168004, x170000, x172000, x172001, x172002, x172003, x172004, x172005, x172006, x172007 => (hpmap_put.f x170000 x172001).bind fun t175 => (schema_RightTable.l0 k x172000 x4 x36 x37 (wrap64 (x38 + 1)) x168000 x168001 x168002 x168003 x168004 t175)
end
def schema_RightTable.f (k : Nat) (a0_0 : Int) (a0_1 : ByteArray) (a0_2 : Int) (a0_3 : Int) (l0_4 : List (S97)) : Option (Bool) := if a0_0 < 0 then (schema_RightTable.j0 k true a0_0 a0_1 a0_2 a0_3 l0_4) else (if a0_3 > 200 then (schema_RightTable.j0 k true a0_0 a0_1 a0_2 a0_3 l0_4) else (if (l0_4.length : Int) = 0 then (schema_RightTable.j0 k true a0_0 a0_1 a0_2 a0_3 l0_4) else (if (l0_4.length : Int) > 10 then (schema_RightTable.j0 k true a0_0 a0_1 a0_2 a0_3 l0_4) else ((name_Right.f k a0_1).bind fun t168 => (schema_RightTable.j0 k (!t168) a0_0 a0_1 a0_2 a0_3 l0_4)))))
theorem schema_RightTable.mono_l : ∀ k, (∀ y0 y1 y2 y3 y4 y5, LeO (schema_RightTable.j0 k y0 y1 y2 y3 y4 y5) (schema_RightTable.j0 (k + 1) y0 y1 y2 y3 y4 y5)) ∧ (∀ y0 y1 y2 y3 y4 y5 y6 y7 y8 y9 y10, LeO (schema_RightTable.l0 k y0 y1 y2 y3 y4 y5 y6 y7 y8 y9 y10) (schema_RightTable.l0 (k + 1) y0 y1 y2 y3 y4 y5 y6 y7 y8 y9 y10)) ∧ (∀ y0 y1 y2 y3 y4 y5 y6 y7 y8 y9 y10 y11 y12 y13 y14 y15 y16 y17 y18, LeO (schema_RightTable.j2 k y0 y1 y2 y3 y4 y5 y6 y7 y8 y9 y10 y11 y12 y13 y14 y15 y16 y17 y18) (schema_RightTable.j2 (k + 1) y0 y1 y2 y3 y4 y5 y6 y7 y8 y9 y10 y11 y12 y13 y14 y15 y16 y17 y18)) ∧ (∀ y0 y1 y2 y3 y4 y5 y6 y7 y8 y9 y10 y11 y12 y13 y14 y15 y16 y17, LeO (schema_RightTable.j3 k y0 y1 y2 y3 y4 y5 y6 y7 y8 y9 y10 y11 y12 y13 y14 y15 y16 y17) (schema_RightTable.j3 (k + 1) y0 y1 y2 y3 y4 y5 y6 y7 y8 y9 y10 y11 y12 y13 y14 y15 y16 y17))
 | 0 => by refine ⟨?_, ?_, ?_, ?_⟩ <;> intros <;> exact LeO.none _
 | k + 1 => by
  obtain ⟨ih0, ih1, ih2, ih3⟩ := schema_RightTable.mono_l k
  refine ⟨?_, ?_, ?_, ?_⟩ <;> intros <;> first | unfold schema_RightTable.j0 | unfold schema_RightTable.l0 | unfold schema_RightTable.j2 | unfold schema_RightTable.j3
  all_goals repeat' first | with_reducible (first | exact ih0 .. | exact ih1 .. | exact ih2 .. | exact ih3 .. | exact name_Right.mono .. | exact schema_RightColumn.mono .. | exact LeO.refl .. | exact LeO.none .. | refine LeO.ite ?_ ?_ | refine LeO.bind ?_ (fun _ => ?_)) | exact ih0 .. | exact ih1 .. | exact ih2 .. | exact ih3 .. | exact name_Right.mono .. | exact schema_RightColumn.mono .. | exact LeO.none .. | refine LeO.ite ?_ ?_ | refine LeO.bind ?_ (fun _ => ?_)
theorem schema_RightTable.mono : ∀ a0 a1 a2 a3 a4 k, LeO (schema_RightTable.f k a0 a1 a2 a3 a4) (schema_RightTable.f (k + 1) a0 a1 a2 a3 a4) := by
 intro a0 a1 a2 a3 a4 k
 obtain ⟨ih0, ih1, ih2, ih3⟩ := schema_RightTable.mono_l k
 unfold schema_RightTable.f
 repeat' first | with_reducible (first | exact ih0 .. | exact ih1 .. | exact ih2 .. | exact ih3 .. | exact name_Right.mono .. | exact schema_RightColumn.mono .. | exact LeO.refl .. | exact LeO.none .. | refine LeO.ite ?_ ?_ | refine LeO.bind ?_ (fun _ => ?_)) | exact ih0 .. | exact ih1 .. | exact ih2 .. | exact ih3 .. | exact name_Right.mono .. | exact schema_RightColumn.mono .. | exact LeO.none .. | refine LeO.ite ?_ ?_ | refine LeO.bind ?_ (fun _ => ?_)
set_option maxHeartbeats 8000000 in
set_option maxRecDepth 100000 in
theorem schema_RightTable.calls (k : Nat) (a0_0 : Int) (a0_1 : ByteArray) (a0_2 : Int) (a0_3 : Int) (A0_4 : Option Addr) (c0_4 : Nat) (l0_4 : List (S97)) (r : Bool) (w : World) (hr0_4 : Kd.C k97 w A0_4 l0_4.length l0_4) (hc0_4 : l0_4.length ≤ c0_4) (hG : Glob w) (h : schema_RightTable.f k a0_0 a0_1 a0_2 a0_3 l0_4 = some r) :
  Calls Tryd.prog 83 #[.agg #[.int .i64 a0_0, .string a0_1, .int .i64 a0_2, .int .i64 a0_3, .slice A0_4 l0_4.length c0_4]] w fun e w' => e = .returned (.bool r) ∧ Below w.heap.size w w' := by
 have hu63 := Tryd.underlying63
 have hu97 := Tryd.underlying97
 have HR0_4 := aM hr0_4
 have HC0_4 := aM hc0_4
 clear hr0_4 hc0_4
 have HG := aM hG
 clear hG
 have HB := aM (Below.refl w.heap.size w)
 have H : (if a0_0 < 0 then (schema_RightTable.j0 k true a0_0 a0_1 a0_2 a0_3 l0_4) else (if a0_3 > 200 then (schema_RightTable.j0 k true a0_0 a0_1 a0_2 a0_3 l0_4) else (if (l0_4.length : Int) = 0 then (schema_RightTable.j0 k true a0_0 a0_1 a0_2 a0_3 l0_4) else (if (l0_4.length : Int) > 10 then (schema_RightTable.j0 k true a0_0 a0_1 a0_2 a0_3 l0_4) else ((name_Right.f k a0_1).bind fun t168 => (schema_RightTable.j0 k (!t168) a0_0 a0_1 a0_2 a0_3 l0_4)))))) = some r := h
 clear h
 have HC2 := aM H
 clear H
 go_enter Tryd.func83, Tryd.ntmps83
 go_upto_region 1 with (first | ((with_reducible refine gate_dst (N := 1) rfl ?_); (try (refine gate_guard (by rfl) ?_; dsimp only)); refine yX (N := 1) (cs := #[.int .i64 a0_0, .string a0_1, .int .i64 a0_2, .int .i64 a0_3, .slice A0_4 l0_4.length c0_4]) (t := 63) ?_; intro gb167 hg w3 hbox hb; have BK167 := aM (hbox); have GW167 := yZ hg (yB HB); have GE167 := yZ hg (yB HB); replace HB := aM (bP (yB HB) hb); clear hb hbox hg))
 (try simp only [Act.put, s1_, s2_, s3_])
 go_cut [33] (fun v33 wc => ∃ (kq : Nat) (x33_1 : Bool), v33 = .bool x33_1 ∧ Aside0 (schema_RightTable.j0 kq x33_1 a0_0 a0_1 a0_2 a0_3 l0_4 = some r) ∧ Aside0 (kq ≤ k) ∧ Aside0 (wc.heap[gb167]? = some (.cells #[.int .i64 a0_0, .string a0_1, .int .i64 a0_2, .int .i64 a0_3, (.slice A0_4 l0_4.length c0_4)] 63 (0, 0))) ∧ Aside0 (Below w.heap.size w wc))
 case first =>
  have H := HC2.out
  clear HC2
  by_cases c4 : a0_0 < 0
  ·
   rw [if_pos c4] at H
   have c4b0 : decide (a0_0 < 0) = true := decide_eq_true c4
   clear c4
   (first | rw [c4b0] | (simp only [i64_w, i32_w]; rw [c4b0]) | skip)
   have H' := aM H
   clear H
   obtain ⟨hcz5_0, hcz5_1, hcz5_2, hcz5_3, hcz5_4, hfz5_0, hfz5_1, hfz5_2, hfz5_3, hfz5_4⟩ := cells5 BK167.out
   go_wp2
   go_meet
   case rel => exact ⟨_, (true), yS, H', ⟨yO⟩, ⟨yK BK167⟩, ⟨yG1 HB GE167.out⟩⟩
  ·
   rw [if_neg c4] at H
   have c4b0 : decide (a0_0 < 0) = false := decide_eq_false c4
   clear c4
   (first | rw [c4b0] | (simp only [i64_w, i32_w]; rw [c4b0]) | skip)
   by_cases c6 : a0_3 > 200
   ·
    rw [if_pos c6] at H
    have c6b0 : decide (200 < a0_3) = true := decide_eq_true c6
    clear c6
    have H' := aM H
    clear H
    obtain ⟨hcz7_0, hcz7_1, hcz7_2, hcz7_3, hcz7_4, hfz7_0, hfz7_1, hfz7_2, hfz7_3, hfz7_4⟩ := cells5 BK167.out
    go_wp2
    go_meet
    case rel => exact ⟨_, (true), yS, H', ⟨yO⟩, ⟨yK BK167⟩, ⟨yG1 HB GE167.out⟩⟩
   ·
    rw [if_neg c6] at H
    have c6b0 : decide (200 < a0_3) = false := decide_eq_false c6
    clear c6
    by_cases c8 : (l0_4.length : Int) = 0
    ·
     rw [if_pos c8] at H
     have c8b0 : ((l0_4.length : Int) == 0) = true := beq_iff_eq.mpr c8
     have c8b1 : ((l0_4.length : Int) != 0) = false := bne_eq_false_iff_eq.mpr c8
     clear c8
     have H' := aM H
     clear H
     obtain ⟨hcz9_0, hcz9_1, hcz9_2, hcz9_3, hcz9_4, hfz9_0, hfz9_1, hfz9_2, hfz9_3, hfz9_4⟩ := cells5 BK167.out
     go_wp2
     go_meet
     case rel => exact ⟨_, (true), yS, H', ⟨yO⟩, ⟨yK BK167⟩, ⟨yG1 HB GE167.out⟩⟩
    ·
     rw [if_neg c8] at H
     have c8b0 : ((l0_4.length : Int) == 0) = false := beq_eq_false_iff_ne.mpr c8
     have c8b1 : ((l0_4.length : Int) != 0) = true := bne_iff_ne.mpr c8
     have c8b2 : ¬ (l0_4 = []) := fun h_ => c8 (by rw [h_]; rfl)
     by_cases c10 : (l0_4.length : Int) > 10
     ·
      rw [if_pos c10] at H
      have c10b0 : decide (10 < (l0_4.length : Int)) = true := decide_eq_true c10
      have c10b1 : decide (10 < l0_4.length) = true := decide_eq_true (by omega)
      clear c10
      have H' := aM H
      clear H
      obtain ⟨hcz11_0, hcz11_1, hcz11_2, hcz11_3, hcz11_4, hfz11_0, hfz11_1, hfz11_2, hfz11_3, hfz11_4⟩ := cells5 BK167.out
      go_wp2
      go_meet
      case rel => exact ⟨_, (true), yS, H', ⟨yO⟩, ⟨yK BK167⟩, ⟨yG1 HB GE167.out⟩⟩
     ·
      rw [if_neg c10] at H
      have c10b0 : decide (10 < (l0_4.length : Int)) = false := decide_eq_false c10
      have c10b1 : decide (10 < l0_4.length) = false := decide_eq_false (by omega)
      clear c10
      obtain ⟨t168, A12, H⟩ := yb H
      have H' := aM H
      clear H
      obtain ⟨hcz13_0, hcz13_1, hcz13_2, hcz13_3, hcz13_4, hfz13_0, hfz13_1, hfz13_2, hfz13_3, hfz13_4⟩ := cells5 BK167.out
      go_wp2_with (first | (go_at_call 111; (with_reducible refine (name_Right.calls k a0_1 t168 _ A12.out).mono ?_); rintro e w' ⟨rfl, ⟨nd, rfl⟩⟩))
      go_meet
      case rel => exact ⟨_, (!t168), yS, H', ⟨yO⟩, ⟨yK BK167⟩, ⟨yG1 HB GE167.out⟩⟩
 case rest =>
  clear HC2
  obtain ⟨kq, x33_1, rfl, HA, HJ1, BK167, HB⟩ := hcut
  cases kq with
  | zero => exact absurd HA.out (by simp [schema_RightTable.j0])
  | succ kj1 =>
   have H := HA.out
   clear HA
   simp only [schema_RightTable.j0] at H
   by_cases c14 : x33_1 = true
   ·
    subst c14
    replace H := yt H
    obtain rfl := Option.some.inj H
    go_wp2
    go_ret
    exact ⟨yE, yG1 HB GE167.out⟩
   ·
    replace c14 := Bool.eq_false_iff.mpr c14
    subst c14
    replace H := yf H
    have H' := aM H
    clear H
    go_wp2_with (first | ((with_reducible refine gate_dst (N := 34) rfl ?_); (try (refine gate_guard (by rfl) ?_; dsimp only)); refine hpmap_new_event rfl (N := 34) rfl rfl ?_; intro gb169 hg w15 hbox hb; have HI169 := aM ((show IsS200 w w15 gb169 ([] : List ByteArray) from ⟨HpSet.made hbox, by rw [hg]; exact (bZ (yG1 HB GE167.out))⟩)); have GW169 := yZ hg (yG1 HB GE167.out); have GE169 := yZ hg (yG1 HB GE167.out); replace HB := aM (bP (yG1 HB GE167.out) hb); have NB167_169 := yN hg (yK BK167); have NB169_167 := yM hg (yK BK167); replace BK167 := aM (kB (yK BK167) hb); clear hb hbox hg; have hnb16 := NB167_169.out; have hnc16 := NB169_167.out; obtain ⟨hcz17_0, hcz17_1, hcz17_2, hcz17_3, hcz17_4, hfz17_0, hfz17_1, hfz17_2, hfz17_3, hfz17_4⟩ := cells5 BK167.out))
    go_loopg [3, 4, 38] kj1 (fun kq v3 v4 v38 w' => ∃ (x3_2 : Int) (x4_2 : Bool) (x38_2 : Int) (x170000_2 : List ByteArray), v3 = .int .i64 x3_2 ∧ v4 = .bool x4_2 ∧ v38 = .int .i64 x38_2 ∧ Aside0 (schema_RightTable.l0 kq x3_2 x4_2 l0_4 (l0_4.length : Int) x38_2 a0_0 a0_1 a0_2 a0_3 l0_4 x170000_2 = some r) ∧ Aside0 (kq ≤ kj1) ∧ Aside0 (w'.heap[gb167]? = some (.cells #[.int .i64 a0_0, .string a0_1, .int .i64 a0_2, .int .i64 a0_3, (.slice A0_4 l0_4.length c0_4)] 63 (0, 0))) ∧ Aside0 (IsS200 w w' gb169 x170000_2) ∧ Aside0 (Below w.heap.size w w'))
    case atStart => exact ⟨((-1)), (false), (0), (([] : List ByteArray)), yS, yS, yS, H', ⟨Nat.le_refl _⟩, ⟨yK BK167⟩, ⟨by repeat (first | (with_reducible first | exact HI169.out | apply IsS200.alloc | apply IsS200.drewN | apply IsS200.drew | apply IsS200.set_0 | apply IsS200.far (hne := NB169_167.out)) | exact HI169.out)⟩, ⟨yG2 HB (IsS200.ge HI169.out) GE167.out⟩⟩
    case round =>
     clear H'
     try clear c14
     try clear hcz17_0 hcz17_1 hcz17_2 hcz17_3 hcz17_4
     try clear hfz17_0 hfz17_1 hfz17_2 hfz17_3 hfz17_4
     obtain ⟨x3_2, x4_2, x38_2, x170000_2, rfl, rfl, rfl, HA, HK2, BK167, HI169, HB⟩ := hrel
     cases gk with
     | zero => exact absurd HA.out (by simp [schema_RightTable.l0])
     | succ k2 =>
      have H := HA.out
      clear HA
      simp only [schema_RightTable.l0] at H
      by_cases c18 : x38_2 < (l0_4.length : Int)
      ·
       rw [if_pos c18] at H
       have c18b0 : decide (x38_2 < (l0_4.length : Int)) = true := decide_eq_true c18
       clear c18
       by_cases c19 : 0 ≤ x38_2
       ·
        rw [if_pos c19] at H
        have c19b0 : decide (0 ≤ x38_2) = true := decide_eq_true c19
        clear c19
        by_cases c20 : x38_2 < (l0_4.length : Int)
        ·
         rw [if_pos c20] at H
         have c20b0 : decide (x38_2 < (l0_4.length : Int)) = true := decide_eq_true c20
         clear c20
         have HC21 := aM H
         clear H
         have p170 : 0 ≤ (x38_2 : Int) := oD yA
         have q170 : x38_2 < (l0_4.length : Int) := oD yA
         obtain ⟨ad170, e170, hx170_0, hx170_1, hx170_2, hx170_3, hx170_4, hx170_5, hx170_6, hx170_7⟩ := at_T97 HR0_4.out x38_2 p170 q170
         cases e170
         replace hx170_0 := pw_cell_below HB.out hx170_0
         replace hx170_1 := pw_cell_below HB.out hx170_1
         replace hx170_2 := pw_cell_below HB.out hx170_2
         replace hx170_3 := pw_cell_below HB.out hx170_3
         replace hx170_4 := pw_cell_below HB.out hx170_4
         replace hx170_5 := pw_cell_below HB.out hx170_5
         replace hx170_6 := pw_cell_below HB.out hx170_6
         replace hx170_7 := pw_cell_below HB.out hx170_7
         replace p170 := eq_true p170
         replace q170 := eq_true q170
         go_upto_region 7 with (first | ((with_reducible refine gate_dst (N := 7) rfl ?_); (try (refine gate_guard (by rfl) ?_; dsimp only)); refine yX (N := 7) (cs := #[.int .i64 0, .string (⟨#[]⟩ : ByteArray), .int .i64 0, .int .i64 0, .bool false, .int .i64 0, .int .i64 0, .string (⟨#[]⟩ : ByteArray)]) (t := 97) ?_; intro gb171 hg w22 hbox hb; have BK171 := aM (hbox); have GW171 := yZ hg (yG2 HB (IsS200.ge HI169.out) GE167.out); have GE171 := yZ hg (yG2 HB (IsS200.ge HI169.out) GE167.out); replace HB := aM (bP (yG2 HB (IsS200.ge HI169.out) GE167.out) hb); have NB167_171 := yN hg (yK BK167); have NB171_167 := yM hg (yK BK167); replace BK167 := aM (kB (yK BK167) hb); have NB169_171 := aM ((by rw [hg]; exact Nat.ne_of_lt (IsS200.lt (show IsS200 w _ gb169 x170000_2 from by repeat (first | (with_reducible first | exact HI169.out | apply IsS200.alloc | apply IsS200.drewN | apply IsS200.drew | apply IsS200.set_0 | apply IsS200.far (hne := NB169_167.out)) | exact HI169.out))) : gb169 ≠ gb171)); have NB171_169 := aM ((by rw [hg]; exact Nat.ne_of_gt (IsS200.lt (show IsS200 w _ gb169 x170000_2 from by repeat (first | (with_reducible first | exact HI169.out | apply IsS200.alloc | apply IsS200.drewN | apply IsS200.drew | apply IsS200.set_0 | apply IsS200.far (hne := NB169_167.out)) | exact HI169.out))) : gb171 ≠ gb169)); replace HI169 := aM (IsS200.below (by repeat (first | (with_reducible first | exact HI169.out | apply IsS200.alloc | apply IsS200.drewN | apply IsS200.drew | apply IsS200.set_0 | apply IsS200.far (hne := NB169_167.out)) | exact HI169.out)) hb); clear hb hbox hg; have hnb23 := NB171_167.out; have hnc23 := NB167_171.out; have hnb24 := NB171_169.out; have hnc24 := NB169_171.out; obtain ⟨hcz25_0, hcz25_1, hcz25_2, hcz25_3, hcz25_4, hcz25_5, hcz25_6, hcz25_7, hfz25_0, hfz25_1, hfz25_2, hfz25_3, hfz25_4, hfz25_5, hfz25_6, hfz25_7⟩ := cells8 BK171.out))
         (try simp only [Act.put, s1_, s2_, s3_])
         go_cut [63] (fun v63 wc => ∃ (kq : Nat) (x63_20 : Bool) (x170000_20 : List ByteArray), v63 = .bool x63_20 ∧ Aside0 (schema_RightTable.j2 kq x4_2 l0_4 (l0_4.length : Int) x38_2 x63_20 a0_0 a0_1 a0_2 a0_3 l0_4 x170000_20 ((rd_T97 l0_4 x38_2).f0) ((rd_T97 l0_4 x38_2).f1) ((rd_T97 l0_4 x38_2).f2.f0) ((rd_T97 l0_4 x38_2).f2.f1) ((rd_T97 l0_4 x38_2).f3) ((rd_T97 l0_4 x38_2).f4.f0) ((rd_T97 l0_4 x38_2).f4.f1) ((rd_T97 l0_4 x38_2).f4.f2) = some r) ∧ Aside0 (kq ≤ k2) ∧ Aside0 (wc.heap[gb167]? = some (.cells #[.int .i64 a0_0, .string a0_1, .int .i64 a0_2, .int .i64 a0_3, (.slice (some ad170) l0_4.length c0_4)] 63 (0, 0))) ∧ Aside0 (wc.heap[gb171]? = some (.cells #[.int .i64 ((rd_T97 l0_4 x38_2).f0), .string ((rd_T97 l0_4 x38_2).f1), .int .i64 ((rd_T97 l0_4 x38_2).f2.f0), .int .i64 ((rd_T97 l0_4 x38_2).f2.f1), .bool ((rd_T97 l0_4 x38_2).f3), .int .i64 ((rd_T97 l0_4 x38_2).f4.f0), .int .i64 ((rd_T97 l0_4 x38_2).f4.f1), .string ((rd_T97 l0_4 x38_2).f4.f2)] 97 (0, 0))) ∧ Aside0 (IsS200 w wc gb169 x170000_20) ∧ Aside0 (Below w.heap.size w wc))
         case first =>
          have H := HC21.out
          clear HC21
          obtain ⟨t172, A26, H⟩ := yb H
          by_cases c27 : t172 = true
          ·
           subst c27
           replace H := yt H
           by_cases c28 : ((rd_T97 l0_4 x38_2).f0) ≤ x3_2
           ·
            rw [if_pos c28] at H
            have c28b0 : decide (((rd_T97 l0_4 x38_2).f0) ≤ x3_2) = true := decide_eq_true c28
            clear c28
            (first | rw [c28b0] | (simp only [i64_w, i32_w]; rw [c28b0]) | skip)
            have H' := aM H
            clear H
            have hnb29 := NB171_167.out
            have hnc29 := NB167_171.out
            have hnb30 := NB171_169.out
            have hnc30 := NB169_171.out
            obtain ⟨hcz31_0, hcz31_1, hcz31_2, hcz31_3, hcz31_4, hcz31_5, hcz31_6, hcz31_7, hfz31_0, hfz31_1, hfz31_2, hfz31_3, hfz31_4, hfz31_5, hfz31_6, hfz31_7⟩ := cells8 BK171.out
            go_wp2_with (first | ((with_reducible refine gate_callee (f := 112) rfl ?_); refine yC 43 Tryd.func112 #[.agg #[.int .i64 ((rd_T97 l0_4 x38_2).f0), .string ((rd_T97 l0_4 x38_2).f1), .int .i64 ((rd_T97 l0_4 x38_2).f2.f0), .int .i64 ((rd_T97 l0_4 x38_2).f2.f1), .bool ((rd_T97 l0_4 x38_2).f3), .int .i64 ((rd_T97 l0_4 x38_2).f4.f0), .int .i64 ((rd_T97 l0_4 x38_2).f4.f1), .string ((rd_T97 l0_4 x38_2).f4.f2)]] rfl ?_; (with_reducible refine (schema_RightColumn.calls k2 ((rd_T97 l0_4 x38_2).f0) ((rd_T97 l0_4 x38_2).f1) ((rd_T97 l0_4 x38_2).f2.f0) ((rd_T97 l0_4 x38_2).f2.f1) ((rd_T97 l0_4 x38_2).f3) ((rd_T97 l0_4 x38_2).f4.f0) ((rd_T97 l0_4 x38_2).f4.f1) ((rd_T97 l0_4 x38_2).f4.f2) true _ ?side1 A26.out).mono ?_); (case side1 => first | (with_reducible exact HG.out) | exact Glob.below HG.out (yG3 HB (IsS200.ge HI169.out) GE167.out GE171.out)); rintro e w32 ⟨rfl, hb⟩; refine ⟨_, rfl, ?_⟩; replace BK167 := aM (kB (yF1 BK167 NB167_171.out) hb); replace BK171 := aM (kB (puts8 BK171.out) hb); replace HB := aM (bP (yG3 HB (IsS200.ge HI169.out) GE167.out GE171.out) hb); replace HI169 := aM (IsS200.below (show IsS200 w ((((((((w22.setCell ⟨gb171, 0, none⟩ (.int .i64 ((rd_T97 l0_4 x38_2).f0))).setCell ⟨gb171, 1, none⟩ (.string ((rd_T97 l0_4 x38_2).f1))).setCell ⟨gb171, 2, none⟩ (.int .i64 ((rd_T97 l0_4 x38_2).f2.f0))).setCell ⟨gb171, 3, none⟩ (.int .i64 ((rd_T97 l0_4 x38_2).f2.f1))).setCell ⟨gb171, 4, none⟩ (.bool ((rd_T97 l0_4 x38_2).f3))).setCell ⟨gb171, 5, none⟩ (.int .i64 ((rd_T97 l0_4 x38_2).f4.f0))).setCell ⟨gb171, 6, none⟩ (.int .i64 ((rd_T97 l0_4 x38_2).f4.f1))).setCell ⟨gb171, 7, none⟩ (.string ((rd_T97 l0_4 x38_2).f4.f2))) gb169 x170000_2 from by repeat (first | (with_reducible first | exact HI169.out | apply IsS200.alloc | apply IsS200.drewN | apply IsS200.drew | apply IsS200.set_0 | apply IsS200.far (hne := NB169_167.out) | apply IsS200.far (hne := NB169_171.out)) | exact HI169.out)) hb); (try clear hb); obtain ⟨hcz33_0, hcz33_1, hcz33_2, hcz33_3, hcz33_4, hcz33_5, hcz33_6, hcz33_7, hfz33_0, hfz33_1, hfz33_2, hfz33_3, hfz33_4, hfz33_5, hfz33_6, hfz33_7⟩ := cells8 BK171.out))
            go_meet
            case rel => exact ⟨_, (true), (x170000_2), yS, H', ⟨by have := HJ1.out; have := HK2.out; first | omega | exact Nat.le_refl _⟩, ⟨yK BK167⟩, ⟨yK BK171⟩, ⟨by repeat (first | (with_reducible first | exact HI169.out | apply IsS200.alloc | apply IsS200.drewN | apply IsS200.drew | apply IsS200.set_0 | apply IsS200.far (hne := NB169_167.out) | apply IsS200.far (hne := NB169_171.out)) | exact HI169.out)⟩, ⟨yG3 HB (IsS200.ge HI169.out) GE167.out GE171.out⟩⟩
           ·
            rw [if_neg c28] at H
            have c28b0 : decide (((rd_T97 l0_4 x38_2).f0) ≤ x3_2) = false := decide_eq_false c28
            clear c28
            (first | rw [c28b0] | (simp only [i64_w, i32_w]; rw [c28b0]) | skip)
            by_cases c34 : ((rd_T97 l0_4 x38_2).f0) ≥ a0_3
            ·
             rw [if_pos c34] at H
             have c34b0 : decide (a0_3 ≤ ((rd_T97 l0_4 x38_2).f0)) = true := decide_eq_true c34
             clear c34
             have H' := aM H
             clear H
             have hnb35 := NB171_167.out
             have hnc35 := NB167_171.out
             have hnb36 := NB171_169.out
             have hnc36 := NB169_171.out
             obtain ⟨hcz37_0, hcz37_1, hcz37_2, hcz37_3, hcz37_4, hcz37_5, hcz37_6, hcz37_7, hfz37_0, hfz37_1, hfz37_2, hfz37_3, hfz37_4, hfz37_5, hfz37_6, hfz37_7⟩ := cells8 BK171.out
             go_wp2_with (first | ((with_reducible refine gate_callee (f := 112) rfl ?_); refine yC 43 Tryd.func112 #[.agg #[.int .i64 ((rd_T97 l0_4 x38_2).f0), .string ((rd_T97 l0_4 x38_2).f1), .int .i64 ((rd_T97 l0_4 x38_2).f2.f0), .int .i64 ((rd_T97 l0_4 x38_2).f2.f1), .bool ((rd_T97 l0_4 x38_2).f3), .int .i64 ((rd_T97 l0_4 x38_2).f4.f0), .int .i64 ((rd_T97 l0_4 x38_2).f4.f1), .string ((rd_T97 l0_4 x38_2).f4.f2)]] rfl ?_; (with_reducible refine (schema_RightColumn.calls k2 ((rd_T97 l0_4 x38_2).f0) ((rd_T97 l0_4 x38_2).f1) ((rd_T97 l0_4 x38_2).f2.f0) ((rd_T97 l0_4 x38_2).f2.f1) ((rd_T97 l0_4 x38_2).f3) ((rd_T97 l0_4 x38_2).f4.f0) ((rd_T97 l0_4 x38_2).f4.f1) ((rd_T97 l0_4 x38_2).f4.f2) true _ ?side1 A26.out).mono ?_); (case side1 => first | (with_reducible exact HG.out) | exact Glob.below HG.out (yG3 HB (IsS200.ge HI169.out) GE167.out GE171.out)); rintro e w38 ⟨rfl, hb⟩; refine ⟨_, rfl, ?_⟩; replace BK167 := aM (kB (yF1 BK167 NB167_171.out) hb); replace BK171 := aM (kB (puts8 BK171.out) hb); replace HB := aM (bP (yG3 HB (IsS200.ge HI169.out) GE167.out GE171.out) hb); replace HI169 := aM (IsS200.below (show IsS200 w ((((((((w22.setCell ⟨gb171, 0, none⟩ (.int .i64 ((rd_T97 l0_4 x38_2).f0))).setCell ⟨gb171, 1, none⟩ (.string ((rd_T97 l0_4 x38_2).f1))).setCell ⟨gb171, 2, none⟩ (.int .i64 ((rd_T97 l0_4 x38_2).f2.f0))).setCell ⟨gb171, 3, none⟩ (.int .i64 ((rd_T97 l0_4 x38_2).f2.f1))).setCell ⟨gb171, 4, none⟩ (.bool ((rd_T97 l0_4 x38_2).f3))).setCell ⟨gb171, 5, none⟩ (.int .i64 ((rd_T97 l0_4 x38_2).f4.f0))).setCell ⟨gb171, 6, none⟩ (.int .i64 ((rd_T97 l0_4 x38_2).f4.f1))).setCell ⟨gb171, 7, none⟩ (.string ((rd_T97 l0_4 x38_2).f4.f2))) gb169 x170000_2 from by repeat (first | (with_reducible first | exact HI169.out | apply IsS200.alloc | apply IsS200.drewN | apply IsS200.drew | apply IsS200.set_0 | apply IsS200.far (hne := NB169_167.out) | apply IsS200.far (hne := NB169_171.out)) | exact HI169.out)) hb); (try clear hb); obtain ⟨hcz39_0, hcz39_1, hcz39_2, hcz39_3, hcz39_4, hcz39_5, hcz39_6, hcz39_7, hfz39_0, hfz39_1, hfz39_2, hfz39_3, hfz39_4, hfz39_5, hfz39_6, hfz39_7⟩ := cells8 BK171.out; have hnb40 := NB167_169.out; have hnc40 := NB169_167.out; obtain ⟨hcz41_0, hcz41_1, hcz41_2, hcz41_3, hcz41_4, hfz41_0, hfz41_1, hfz41_2, hfz41_3, hfz41_4⟩ := cells5 BK167.out))
             go_meet
             case rel => exact ⟨_, (true), (x170000_2), yS, H', ⟨by have := HJ1.out; have := HK2.out; first | omega | exact Nat.le_refl _⟩, ⟨yK BK167⟩, ⟨yK BK171⟩, ⟨by repeat (first | (with_reducible first | exact HI169.out | apply IsS200.alloc | apply IsS200.drewN | apply IsS200.drew | apply IsS200.set_0 | apply IsS200.far (hne := NB169_167.out) | apply IsS200.far (hne := NB169_171.out)) | exact HI169.out)⟩, ⟨yG3 HB (IsS200.ge HI169.out) GE167.out GE171.out⟩⟩
            ·
             rw [if_neg c34] at H
             have c34b0 : decide (a0_3 ≤ ((rd_T97 l0_4 x38_2).f0)) = false := decide_eq_false c34
             clear c34
             obtain ⟨⟨t173, t174⟩, A42, H⟩ := yb H
             try dsimp -simprocs only at H
             have H' := aM H
             clear H
             have hnb43 := NB171_167.out
             have hnc43 := NB167_171.out
             have hnb44 := NB171_169.out
             have hnc44 := NB169_171.out
             obtain ⟨hcz45_0, hcz45_1, hcz45_2, hcz45_3, hcz45_4, hcz45_5, hcz45_6, hcz45_7, hfz45_0, hfz45_1, hfz45_2, hfz45_3, hfz45_4, hfz45_5, hfz45_6, hfz45_7⟩ := cells8 BK171.out
             go_wp2_with (first | ((with_reducible refine gate_callee (f := 112) rfl ?_); refine yC 43 Tryd.func112 #[.agg #[.int .i64 ((rd_T97 l0_4 x38_2).f0), .string ((rd_T97 l0_4 x38_2).f1), .int .i64 ((rd_T97 l0_4 x38_2).f2.f0), .int .i64 ((rd_T97 l0_4 x38_2).f2.f1), .bool ((rd_T97 l0_4 x38_2).f3), .int .i64 ((rd_T97 l0_4 x38_2).f4.f0), .int .i64 ((rd_T97 l0_4 x38_2).f4.f1), .string ((rd_T97 l0_4 x38_2).f4.f2)]] rfl ?_; (with_reducible refine (schema_RightColumn.calls k2 ((rd_T97 l0_4 x38_2).f0) ((rd_T97 l0_4 x38_2).f1) ((rd_T97 l0_4 x38_2).f2.f0) ((rd_T97 l0_4 x38_2).f2.f1) ((rd_T97 l0_4 x38_2).f3) ((rd_T97 l0_4 x38_2).f4.f0) ((rd_T97 l0_4 x38_2).f4.f1) ((rd_T97 l0_4 x38_2).f4.f2) true _ ?side1 A26.out).mono ?_); (case side1 => first | (with_reducible exact HG.out) | exact Glob.below HG.out (yG3 HB (IsS200.ge HI169.out) GE167.out GE171.out)); rintro e w46 ⟨rfl, hb⟩; refine ⟨_, rfl, ?_⟩; replace BK167 := aM (kB (yF1 BK167 NB167_171.out) hb); replace BK171 := aM (kB (puts8 BK171.out) hb); replace HB := aM (bP (yG3 HB (IsS200.ge HI169.out) GE167.out GE171.out) hb); replace HI169 := aM (IsS200.below (show IsS200 w ((((((((w22.setCell ⟨gb171, 0, none⟩ (.int .i64 ((rd_T97 l0_4 x38_2).f0))).setCell ⟨gb171, 1, none⟩ (.string ((rd_T97 l0_4 x38_2).f1))).setCell ⟨gb171, 2, none⟩ (.int .i64 ((rd_T97 l0_4 x38_2).f2.f0))).setCell ⟨gb171, 3, none⟩ (.int .i64 ((rd_T97 l0_4 x38_2).f2.f1))).setCell ⟨gb171, 4, none⟩ (.bool ((rd_T97 l0_4 x38_2).f3))).setCell ⟨gb171, 5, none⟩ (.int .i64 ((rd_T97 l0_4 x38_2).f4.f0))).setCell ⟨gb171, 6, none⟩ (.int .i64 ((rd_T97 l0_4 x38_2).f4.f1))).setCell ⟨gb171, 7, none⟩ (.string ((rd_T97 l0_4 x38_2).f4.f2))) gb169 x170000_2 from by repeat (first | (with_reducible first | exact HI169.out | apply IsS200.alloc | apply IsS200.drewN | apply IsS200.drew | apply IsS200.set_0 | apply IsS200.far (hne := NB169_167.out) | apply IsS200.far (hne := NB169_171.out)) | exact HI169.out)) hb); (try clear hb); obtain ⟨hcz47_0, hcz47_1, hcz47_2, hcz47_3, hcz47_4, hcz47_5, hcz47_6, hcz47_7, hfz47_0, hfz47_1, hfz47_2, hfz47_3, hfz47_4, hfz47_5, hfz47_6, hfz47_7⟩ := cells8 BK171.out; have hnb48 := NB167_169.out; have hnc48 := NB169_167.out; obtain ⟨hcz49_0, hcz49_1, hcz49_2, hcz49_3, hcz49_4, hfz49_0, hfz49_1, hfz49_2, hfz49_3, hfz49_4⟩ := cells5 BK167.out) | (at_lookup; (try (refine gate_guard (by rfl) ?_; dsimp only)); refine hpmap_get_op rfl rfl rfl rfl ?_; (with_reducible refine (hpmap_get.calls gb169 x170000_2 ((rd_T97 l0_4 x38_2).f1) t173 t174 w _ ?side1 ?side2 A42.out).mono ?_); (case side1 => repeat (first | (with_reducible first | exact HI169.out | apply IsS200.alloc | apply IsS200.drewN | apply IsS200.drew | apply IsS200.set_0 | apply IsS200.far (hne := NB169_167.out) | apply IsS200.far (hne := NB169_171.out)) | exact HI169.out)); (case side2 => exact yG3 HB (IsS200.ge HI169.out) GE167.out GE171.out); rintro e w50 ⟨rfl, hi, hb, hk⟩; refine ⟨_, rfl, ?_⟩; replace BK167 := aM (KeepBut.blk hk (g' := gb167) (o := .cells #[.int .i64 a0_0, .string a0_1, .int .i64 a0_2, .int .i64 a0_3, .slice (some ad170) l0_4.length c0_4] 63 (0, 0)) (yK BK167) NB167_169.out (by simp)); replace BK171 := aM (KeepBut.blk hk (g' := gb171) (o := .cells #[.int .i64 ((rd_T97 l0_4 x38_2).f0), .string ((rd_T97 l0_4 x38_2).f1), .int .i64 ((rd_T97 l0_4 x38_2).f2.f0), .int .i64 ((rd_T97 l0_4 x38_2).f2.f1), .bool ((rd_T97 l0_4 x38_2).f3), .int .i64 ((rd_T97 l0_4 x38_2).f4.f0), .int .i64 ((rd_T97 l0_4 x38_2).f4.f1), .string ((rd_T97 l0_4 x38_2).f4.f2)] 97 (0, 0)) (yK BK171) NB171_169.out (by simp)); replace HB := aM (hb); replace HI169 := aM (hi); (try clear hb); (try clear hk); (try clear hi)))
             go_meet
             case rel => exact ⟨_, (t173), (t174), yS, H', ⟨by have := HJ1.out; have := HK2.out; first | omega | exact Nat.le_refl _⟩, ⟨yK BK167⟩, ⟨yK BK171⟩, ⟨by repeat (first | (with_reducible first | exact HI169.out | apply IsS200.alloc | apply IsS200.drewN | apply IsS200.drew | apply IsS200.set_0 | apply IsS200.far (hne := NB169_167.out) | apply IsS200.far (hne := NB169_171.out)) | exact HI169.out)⟩, ⟨yG3 HB (IsS200.ge HI169.out) GE167.out GE171.out⟩⟩
          ·
           replace c27 := Bool.eq_false_iff.mpr c27
           subst c27
           replace H := yf H
           have H' := aM H
           clear H
           have hnb51 := NB171_167.out
           have hnc51 := NB167_171.out
           have hnb52 := NB171_169.out
           have hnc52 := NB169_171.out
           obtain ⟨hcz53_0, hcz53_1, hcz53_2, hcz53_3, hcz53_4, hcz53_5, hcz53_6, hcz53_7, hfz53_0, hfz53_1, hfz53_2, hfz53_3, hfz53_4, hfz53_5, hfz53_6, hfz53_7⟩ := cells8 BK171.out
           go_wp2_with (first | ((with_reducible refine gate_callee (f := 112) rfl ?_); refine yC 43 Tryd.func112 #[.agg #[.int .i64 ((rd_T97 l0_4 x38_2).f0), .string ((rd_T97 l0_4 x38_2).f1), .int .i64 ((rd_T97 l0_4 x38_2).f2.f0), .int .i64 ((rd_T97 l0_4 x38_2).f2.f1), .bool ((rd_T97 l0_4 x38_2).f3), .int .i64 ((rd_T97 l0_4 x38_2).f4.f0), .int .i64 ((rd_T97 l0_4 x38_2).f4.f1), .string ((rd_T97 l0_4 x38_2).f4.f2)]] rfl ?_; (with_reducible refine (schema_RightColumn.calls k2 ((rd_T97 l0_4 x38_2).f0) ((rd_T97 l0_4 x38_2).f1) ((rd_T97 l0_4 x38_2).f2.f0) ((rd_T97 l0_4 x38_2).f2.f1) ((rd_T97 l0_4 x38_2).f3) ((rd_T97 l0_4 x38_2).f4.f0) ((rd_T97 l0_4 x38_2).f4.f1) ((rd_T97 l0_4 x38_2).f4.f2) false _ ?side1 A26.out).mono ?_); (case side1 => first | (with_reducible exact HG.out) | exact Glob.below HG.out (yG3 HB (IsS200.ge HI169.out) GE167.out GE171.out)); rintro e w54 ⟨rfl, hb⟩; refine ⟨_, rfl, ?_⟩; replace BK167 := aM (kB (yF1 BK167 NB167_171.out) hb); replace BK171 := aM (kB (puts8 BK171.out) hb); replace HB := aM (bP (yG3 HB (IsS200.ge HI169.out) GE167.out GE171.out) hb); replace HI169 := aM (IsS200.below (show IsS200 w ((((((((w22.setCell ⟨gb171, 0, none⟩ (.int .i64 ((rd_T97 l0_4 x38_2).f0))).setCell ⟨gb171, 1, none⟩ (.string ((rd_T97 l0_4 x38_2).f1))).setCell ⟨gb171, 2, none⟩ (.int .i64 ((rd_T97 l0_4 x38_2).f2.f0))).setCell ⟨gb171, 3, none⟩ (.int .i64 ((rd_T97 l0_4 x38_2).f2.f1))).setCell ⟨gb171, 4, none⟩ (.bool ((rd_T97 l0_4 x38_2).f3))).setCell ⟨gb171, 5, none⟩ (.int .i64 ((rd_T97 l0_4 x38_2).f4.f0))).setCell ⟨gb171, 6, none⟩ (.int .i64 ((rd_T97 l0_4 x38_2).f4.f1))).setCell ⟨gb171, 7, none⟩ (.string ((rd_T97 l0_4 x38_2).f4.f2))) gb169 x170000_2 from by repeat (first | (with_reducible first | exact HI169.out | apply IsS200.alloc | apply IsS200.drewN | apply IsS200.drew | apply IsS200.set_0 | apply IsS200.far (hne := NB169_167.out) | apply IsS200.far (hne := NB169_171.out)) | exact HI169.out)) hb); (try clear hb)))
           go_meet
           case rel => exact ⟨_, (true), (x170000_2), yS, H', ⟨by have := HJ1.out; have := HK2.out; first | omega | exact Nat.le_refl _⟩, ⟨yK BK167⟩, ⟨yK BK171⟩, ⟨by repeat (first | (with_reducible first | exact HI169.out | apply IsS200.alloc | apply IsS200.drewN | apply IsS200.drew | apply IsS200.set_0 | apply IsS200.far (hne := NB169_167.out) | apply IsS200.far (hne := NB169_171.out)) | exact HI169.out)⟩, ⟨yG3 HB (IsS200.ge HI169.out) GE167.out GE171.out⟩⟩
         case rest =>
          clear HC21
          try clear c14
          try clear c18
          try clear c18b0
          try clear c19
          try clear c19b0
          try clear c20
          try clear c20b0
          try clear hcz17_0 hcz17_1 hcz17_2 hcz17_3 hcz17_4
          try clear hcz25_0 hcz25_1 hcz25_2 hcz25_3 hcz25_4 hcz25_5 hcz25_6 hcz25_7
          try clear hfz17_0 hfz17_1 hfz17_2 hfz17_3 hfz17_4
          try clear hfz25_0 hfz25_1 hfz25_2 hfz25_3 hfz25_4 hfz25_5 hfz25_6 hfz25_7
          try clear hx170_0 hx170_1 hx170_2 hx170_3 hx170_4 hx170_5 hx170_6 hx170_7
          try clear p170
          try clear q170
          obtain ⟨kq, x63_20, x170000_20, rfl, HA, HJ20, BK167, BK171, HI169, HB⟩ := hcut
          cases kq with
          | zero => exact absurd HA.out (by simp [schema_RightTable.j2])
          | succ kj20 =>
           have H := HA.out
           clear HA
           simp only [schema_RightTable.j2] at H
           by_cases c55 : x63_20 = true
           ·
            subst c55
            replace H := yt H
            obtain rfl := Option.some.inj H
            go_wp2
            go_ret
            exact ⟨yE, yG3 HB (IsS200.ge HI169.out) GE167.out GE171.out⟩
           ·
            replace c55 := Bool.eq_false_iff.mpr c55
            subst c55
            replace H := yf H
            have HC56 := aM H
            clear H
            have hnb57 := NB171_167.out
            have hnc57 := NB167_171.out
            have hnb58 := NB171_169.out
            have hnc58 := NB169_171.out
            obtain ⟨hcz59_0, hcz59_1, hcz59_2, hcz59_3, hcz59_4, hcz59_5, hcz59_6, hcz59_7, hfz59_0, hfz59_1, hfz59_2, hfz59_3, hfz59_4, hfz59_5, hfz59_6, hfz59_7⟩ := cells8 BK171.out
            have hnb60 := NB167_169.out
            have hnc60 := NB169_167.out
            obtain ⟨hcz61_0, hcz61_1, hcz61_2, hcz61_3, hcz61_4, hfz61_0, hfz61_1, hfz61_2, hfz61_3, hfz61_4⟩ := cells5 BK167.out
            go_upto_if 68 with (fail)
            go_cut [4] (fun v4 wc => ∃ (kq : Nat) (x4_55 : Bool), v4 = .bool x4_55 ∧ Aside0 (schema_RightTable.j3 kq x4_55 l0_4 (l0_4.length : Int) x38_2 a0_0 a0_1 a0_2 a0_3 l0_4 x170000_20 ((rd_T97 l0_4 x38_2).f0) ((rd_T97 l0_4 x38_2).f1) ((rd_T97 l0_4 x38_2).f2.f0) ((rd_T97 l0_4 x38_2).f2.f1) ((rd_T97 l0_4 x38_2).f3) ((rd_T97 l0_4 x38_2).f4.f0) ((rd_T97 l0_4 x38_2).f4.f1) ((rd_T97 l0_4 x38_2).f4.f2) = some r) ∧ Aside0 (kq ≤ kj20) ∧ Aside0 (wc.heap[gb167]? = some (.cells #[.int .i64 a0_0, .string a0_1, .int .i64 a0_2, .int .i64 a0_3, (.slice (some ad170) l0_4.length c0_4)] 63 (0, 0))) ∧ Aside0 (wc.heap[gb171]? = some (.cells #[.int .i64 ((rd_T97 l0_4 x38_2).f0), .string ((rd_T97 l0_4 x38_2).f1), .int .i64 ((rd_T97 l0_4 x38_2).f2.f0), .int .i64 ((rd_T97 l0_4 x38_2).f2.f1), .bool ((rd_T97 l0_4 x38_2).f3), .int .i64 ((rd_T97 l0_4 x38_2).f4.f0), .int .i64 ((rd_T97 l0_4 x38_2).f4.f1), .string ((rd_T97 l0_4 x38_2).f4.f2)] 97 (0, 0))) ∧ Aside0 (IsS200 w wc gb169 x170000_20) ∧ Aside0 (Below w.heap.size w wc))
            case first =>
             have H := HC56.out
             clear HC56
             by_cases c62 : ((rd_T97 l0_4 x38_2).f0) = a0_2
             ·
              rw [if_pos c62] at H
              have c62b0 : (((rd_T97 l0_4 x38_2).f0) == a0_2) = true := beq_iff_eq.mpr c62
              have c62b1 : (((rd_T97 l0_4 x38_2).f0) != a0_2) = false := bne_eq_false_iff_eq.mpr c62
              clear c62
              (first | rw [c62b0] | (simp only [i64_w, i32_w]; rw [c62b0]) | skip)
              have H' := aM H
              clear H
              have hnb63 := NB171_167.out
              have hnc63 := NB167_171.out
              have hnb64 := NB171_169.out
              have hnc64 := NB169_171.out
              obtain ⟨hcz65_0, hcz65_1, hcz65_2, hcz65_3, hcz65_4, hcz65_5, hcz65_6, hcz65_7, hfz65_0, hfz65_1, hfz65_2, hfz65_3, hfz65_4, hfz65_5, hfz65_6, hfz65_7⟩ := cells8 BK171.out
              go_wp2
              go_meet
              case rel => exact ⟨_, (!((rd_T97 l0_4 x38_2).f3)), yS, H', ⟨by have := HJ1.out; have := HK2.out; have := HJ20.out; first | omega | exact Nat.le_refl _⟩, ⟨yK BK167⟩, ⟨yK BK171⟩, ⟨by repeat (first | (with_reducible first | exact HI169.out | apply IsS200.alloc | apply IsS200.drewN | apply IsS200.drew | apply IsS200.set_0 | apply IsS200.far (hne := NB169_167.out) | apply IsS200.far (hne := NB169_171.out)) | exact HI169.out)⟩, ⟨yG3 HB (IsS200.ge HI169.out) GE167.out GE171.out⟩⟩
             ·
              rw [if_neg c62] at H
              have c62b0 : (((rd_T97 l0_4 x38_2).f0) == a0_2) = false := beq_eq_false_iff_ne.mpr c62
              have c62b1 : (((rd_T97 l0_4 x38_2).f0) != a0_2) = true := bne_iff_ne.mpr c62
              (first | rw [c62b0] | (simp only [i64_w, i32_w]; rw [c62b0]) | skip)
              have H' := aM H
              clear H
              go_wp2
              go_meet
              case rel => exact ⟨_, (x4_2), yS, H', ⟨by have := HJ1.out; have := HK2.out; have := HJ20.out; first | omega | exact Nat.le_refl _⟩, ⟨yK BK167⟩, ⟨yK BK171⟩, ⟨by repeat (first | (with_reducible first | exact HI169.out | apply IsS200.alloc | apply IsS200.drewN | apply IsS200.drew | apply IsS200.set_0 | apply IsS200.far (hne := NB169_167.out) | apply IsS200.far (hne := NB169_171.out)) | exact HI169.out)⟩, ⟨yG3 HB (IsS200.ge HI169.out) GE167.out GE171.out⟩⟩
            case rest =>
             clear HC56
             try clear c14
             try clear c18
             try clear c18b0
             try clear c19
             try clear c19b0
             try clear c20
             try clear c20b0
             try clear c55
             try clear hcz17_0 hcz17_1 hcz17_2 hcz17_3 hcz17_4
             try clear hcz25_0 hcz25_1 hcz25_2 hcz25_3 hcz25_4 hcz25_5 hcz25_6 hcz25_7
             try clear hcz59_0 hcz59_1 hcz59_2 hcz59_3 hcz59_4 hcz59_5 hcz59_6 hcz59_7
             try clear hcz61_0 hcz61_1 hcz61_2 hcz61_3 hcz61_4
             try clear hfz17_0 hfz17_1 hfz17_2 hfz17_3 hfz17_4
             try clear hfz25_0 hfz25_1 hfz25_2 hfz25_3 hfz25_4 hfz25_5 hfz25_6 hfz25_7
             try clear hfz59_0 hfz59_1 hfz59_2 hfz59_3 hfz59_4 hfz59_5 hfz59_6 hfz59_7
             try clear hfz61_0 hfz61_1 hfz61_2 hfz61_3 hfz61_4
             try clear hx170_0 hx170_1 hx170_2 hx170_3 hx170_4 hx170_5 hx170_6 hx170_7
             try clear p170
             try clear q170
             obtain ⟨kq, x4_55, rfl, HA, HJ55, BK167, BK171, HI169, HB⟩ := hcut
             cases kq with
             | zero => exact absurd HA.out (by simp [schema_RightTable.j3])
             | succ kj55 =>
              have H := HA.out
              clear HA
              simp only [schema_RightTable.j3] at H
              obtain ⟨t175, A66, H⟩ := yb H
              have H' := aM H
              clear H
              try go_wp2
              have n0_ := aM (kD BK167.out)
              have n1_ := aM (kD BK171.out)
              have n2_ := aM (IsS200.drew HI169.out)
              have n3_ := aM (b1 HB.out)
              clear BK167
              clear BK171
              clear HI169
              clear HB
              have BK167 := n0_
              have BK171 := n1_
              have HI169 := n2_
              have HB := n3_
              clear n0_ n1_ n2_ n3_
              refine start_ (n := 7) (S := fun w' => w'.cell? ⟨gb171, 0, none⟩ = some (.int .i64 ((rd_T97 l0_4 x38_2).f0)) ∧ w'.cell? ⟨gb171, 1, none⟩ = some (.string ((rd_T97 l0_4 x38_2).f1)) ∧ w'.cell? ⟨gb171, 2, none⟩ = some (.int .i64 ((rd_T97 l0_4 x38_2).f2.f0)) ∧ w'.cell? ⟨gb171, 3, none⟩ = some (.int .i64 ((rd_T97 l0_4 x38_2).f2.f1)) ∧ w'.cell? ⟨gb171, 4, none⟩ = some (.bool ((rd_T97 l0_4 x38_2).f3)) ∧ w'.cell? ⟨gb171, 5, none⟩ = some (.int .i64 ((rd_T97 l0_4 x38_2).f4.f0)) ∧ w'.cell? ⟨gb171, 6, none⟩ = some (.int .i64 ((rd_T97 l0_4 x38_2).f4.f1)) ∧ w'.cell? ⟨gb171, 7, none⟩ = some (.string ((rd_T97 l0_4 x38_2).f4.f2))) (ds := []) (tB 0 7) (by kernel_rfl) rfl rfl (cellc8 BK171.out) (fun hHeld => ?_)
              generalize wc.drew = w67 at BK167 BK171 HI169 HB hHeld ⊢
              refine yP0 0 72 (tB 1 7) rfl rfl ?_
              refine yP0 1 73 (tB 3 7) rfl rfl ?_
              refine yP0 3 75 (tB 11 7) rfl rfl ?_
              refine yT0 2 74 (tB 15 7) rfl rfl hHeld ?_
              refine yT0 4 76 (tB 31 7) rfl rfl hHeld ?_
              refine yP0 5 3 (tB 63 7) rfl rfl ?_
              refine yI0 6 (tB 127 7) rfl rfl fun K hK => ?_
              refine hpmap_goes_put (by rfl) rfl rfl (by rfl) (by rfl) ?_
              with_reducible refine (hpmap_put.calls gb169 x170000_20 ((rd_T97 l0_4 x38_2).f1) t175 w _ ?side1 ?side2 A66.out).mono ?_
              (case side1 => repeat (first | (with_reducible first | exact HI169.out | apply IsS200.alloc | apply IsS200.drewN | apply IsS200.drew | apply IsS200.set_0 | apply IsS200.far (hne := NB169_167.out) | apply IsS200.far (hne := NB169_171.out)) | exact HI169.out))
              (case side2 => exact yG3 HB (IsS200.ge HI169.out) GE167.out GE171.out)
              rintro e w68 ⟨rfl, hi, hb, hk⟩
              refine ⟨_, rfl, ?_⟩
              have n0_ := aM (KeepBut.blk hk (g' := gb167) (o := .cells #[.int .i64 a0_0, .string a0_1, .int .i64 a0_2, .int .i64 a0_3, .slice (some ad170) l0_4.length c0_4] 63 (0, 0)) (yK BK167) NB167_169.out (by simp))
              have n1_ := aM (KeepBut.blk hk (g' := gb171) (o := .cells #[.int .i64 ((rd_T97 l0_4 x38_2).f0), .string ((rd_T97 l0_4 x38_2).f1), .int .i64 ((rd_T97 l0_4 x38_2).f2.f0), .int .i64 ((rd_T97 l0_4 x38_2).f2.f1), .bool ((rd_T97 l0_4 x38_2).f3), .int .i64 ((rd_T97 l0_4 x38_2).f4.f0), .int .i64 ((rd_T97 l0_4 x38_2).f4.f1), .string ((rd_T97 l0_4 x38_2).f4.f2)] 97 (0, 0)) (yK BK171) NB171_169.out (by simp))
              have n2_ := aM (hb)
              have n3_ := aM (hi)
              clear BK167
              clear BK171
              clear HB
              clear HI169
              have BK167 := n0_
              have BK171 := n1_
              have HB := n2_
              have HI169 := n3_
              clear n0_ n1_ n2_ n3_
              (try clear hb)
              (try clear hb2)
              (try clear hk)
              (try clear hi)
              refine hK.out _ _ (cellc8 BK171.out) (fun hHeld => ?_)
              clear hK K
              refine done_ (by kernel_rfl) ?_
              try go_wp2
              go_roundg kj55
              case measure => have := HJ1.out; have := HK2.out; have := HJ20.out; have := HJ55.out; omega
              case rel => exact ⟨(((rd_T97 l0_4 x38_2).f0)), (x4_55), (wrap64 (x38_2 + 1)), (t175), yS, yS, yS, H', ⟨by have := HJ1.out; have := HK2.out; have := HJ20.out; have := HJ55.out; omega⟩, ⟨yK BK167⟩, ⟨by repeat (first | (with_reducible first | exact HI169.out | apply IsS200.alloc | apply IsS200.drewN | apply IsS200.drew | apply IsS200.set_0 | apply IsS200.far (hne := NB169_167.out) | apply IsS200.far (hne := NB169_171.out)) | exact HI169.out)⟩, ⟨yG3 HB (IsS200.ge HI169.out) GE167.out GE171.out⟩⟩
        ·
         rw [if_neg c20] at H
         exact absurd H (by simp)
       ·
        rw [if_neg c19] at H
        exact absurd H (by simp)
      ·
       rw [if_neg c18] at H
       have c18b0 : decide (x38_2 < (l0_4.length : Int)) = false := decide_eq_false c18
       clear c18
       obtain rfl := Option.some.inj H
       go_wp2
       go_ret
       exact ⟨yE, yG2 HB (IsS200.ge HI169.out) GE167.out⟩
end Go.Proofs.YtgefikclhfjcgaaDoor.HCatcodeValues

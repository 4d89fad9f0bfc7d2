/- For Go functions that SchemaRight reaches: Lean functions, and walks that show that each call comes to what its Lean function tells; no condition but those that each theorem states. (Made by a program of this session over the kit's print.py.) -/
import Derived.Test.YtdeophpjammbpaaDoorHSchemaRightx0
import Derived.Test.YtdeophpjammbpaaDoorHSchemaRightx5
import Derived.Test.YtdeophpjammbpaaDoorHSchemaRightx6
import Derived.Test.YtdeophpjammbpaaDoorHSchemaRightx9
import Derived.Test.YtdeophpjammbpaaDoorHSchemaRightx10
import Derived.Test.YtdeophpjammbpaaDoorHSchemaRightx13
import Derived.Test.YtdeophpjammbpaaDoorHSchemaRightx14
import Derived.Test.YtdeophpjammbpaaDoorHSchemaRightx15
import Derived.Test.YtdeophpjammbpaaDoorHSchemaRightx16
namespace Go.Proofs.YtdeophpjammbpaaDoor.HSchemaRight
open Go.RowKit Go.Proofs.YtdeophpjammbpaaDoorW.PrintWords Go.Proofs.YtdeophpjammbpaaDoorW.PrintLast Go.Proofs.YtdeophpjammbpaaDoorW.PrintMore
attribute [local go_sem] max2_int min2_int max_two min_two max_three min_three max_four min_four   -- for this text's walks alone
set_option linter.unusedVariables false
set_option linter.unusedSimpArgs false
attribute [local go_sem] hp_s8 hp_s16 hp_s32 hp_s64 hp_m8 hp_m16 hp_m32 hp_m64
/-! ### haulagelaw08_SchemaRight: function 5 -/
mutual
def haulagelaw08_SchemaRight.l0 : Nat → Int → List (S24) → Option (Bool)
 | 0, _, _ => none
 | k + 1, x3, x292000 => if x3 < (x292000.length : Int) then (if 0 ≤ x3 then ((schema_RightTable.f k ((rd_T24 x292000 x3).f0) ((rd_T24 x292000 x3).f1) ((rd_T24 x292000 x3).f2) ((rd_T24 x292000 x3).f3) ((rd_T24 x292000 x3).f4)).bind fun t296 => ((haulageref08_Table.f k ((rd_T24 x292000 x3).f0) ((rd_T24 x292000 x3).f1) ((rd_T24 x292000 x3).f2) ((rd_T24 x292000 x3).f3) ((rd_T24 x292000 x3).f4)).bind fun t297 => (if (t296 != t297) = true then (some false) else (haulagelaw08_SchemaRight.l1 k x3 0 x292000 ((rd_T24 x292000 x3).f0) ((rd_T24 x292000 x3).f1) ((rd_T24 x292000 x3).f2) ((rd_T24 x292000 x3).f3) ((rd_T24 x292000 x3).f4))))) else (none)) else ((schema_Right.f k x292000).bind fun t302 => ((haulageref08_Right.f k x292000).bind fun t303 => (some (t302 == t303))))
def haulagelaw08_SchemaRight.l1 : Nat → Int → Int → List (S24) → Int → ByteArray → Int → Int → List (S54) → Option (Bool)
 | 0, _, _, _, _, _, _, _, _ => none
 | k + 1, x3, x5, x292000, x296000, x296001, x296002, x296003, x296004 => if x5 < (x296004.length : Int) then (if 0 ≤ x5 then ((schema_RightColumn.f k ((rd_T54 x296004 x5).f0) ((rd_T54 x296004 x5).f1) ((rd_T54 x296004 x5).f2.f0) ((rd_T54 x296004 x5).f2.f1) ((rd_T54 x296004 x5).f3) ((rd_T54 x296004 x5).f4.f0) ((rd_T54 x296004 x5).f4.f1) ((rd_T54 x296004 x5).f4.f2)).bind fun t299 => ((haulageref08_Column.f k ((rd_T54 x296004 x5).f0) ((rd_T54 x296004 x5).f1) ((rd_T54 x296004 x5).f2.f0) ((rd_T54 x296004 x5).f2.f1) ((rd_T54 x296004 x5).f3) ((rd_T54 x296004 x5).f4.f0) ((rd_T54 x296004 x5).f4.f1) ((rd_T54 x296004 x5).f4.f2)).bind fun t301 => (if (t299 != t301) = true then (some false) else (haulagelaw08_SchemaRight.l1 k x3 (wrap64 (x5 + 1)) x292000 x296000 x296001 x296002 x296003 x296004)))) else (none)) else (haulagelaw08_SchemaRight.l0 k (wrap64 (x3 + 1)) x292000)
end
def haulagelaw08_SchemaRight.f (k : Nat) (l0_0 : List (S24)) : Option (Bool) := (haulagelaw08_lives.f k).bind fun t292 => (if t292 = true then ((haulagelaw08_FewAll.f k l0_0).bind fun t293 => (if t293 = true then (haulagelaw08_SchemaRight.l0 k 0 l0_0) else (some true))) else (some false))
theorem haulagelaw08_SchemaRight.mono_l : ∀ k, (∀ y0 y1, LeO (haulagelaw08_SchemaRight.l0 k y0 y1) (haulagelaw08_SchemaRight.l0 (k + 1) y0 y1)) ∧ (∀ y0 y1 y2 y3 y4 y5 y6 y7, LeO (haulagelaw08_SchemaRight.l1 k y0 y1 y2 y3 y4 y5 y6 y7) (haulagelaw08_SchemaRight.l1 (k + 1) y0 y1 y2 y3 y4 y5 y6 y7))
 | 0 => ⟨fun _ _ r h => by simp [haulagelaw08_SchemaRight.l0] at h, fun _ _ _ _ _ _ _ _ r h => by simp [haulagelaw08_SchemaRight.l1] at h⟩
 | k + 1 => by
  obtain ⟨ih0, ih1⟩ := haulagelaw08_SchemaRight.mono_l k
  refine ⟨?_, ?_⟩
  ·
   intro y0 y1
   unfold haulagelaw08_SchemaRight.l0
   repeat' first
   | (with_reducible exact ih0 _ _)
   | (with_reducible exact ih1 _ _ _ _ _ _ _ _)
   | (with_reducible exact haulagelaw08_FewAll.mono _ _)
   | (with_reducible exact haulagelaw08_lives.mono _)
   | (with_reducible exact haulageref08_Column.mono _ _ _ _ _ _ _ _ _)
   | (with_reducible exact haulageref08_Right.mono _ _)
   | (with_reducible exact haulageref08_Table.mono _ _ _ _ _ _)
   | (with_reducible exact schema_Right.mono _ _)
   | (with_reducible exact schema_RightColumn.mono _ _ _ _ _ _ _ _ _)
   | (with_reducible exact schema_RightTable.mono _ _ _ _ _ _)
   | (with_reducible exact LeO.refl _)
   | (with_reducible exact LeO.none _)
   | (with_reducible refine LeO.ite ?_ ?_)
   | (with_reducible refine LeO.bind ?_ (fun _ => ?_))
   | exact ih0 _ _
   | exact ih1 _ _ _ _ _ _ _ _
   | exact haulagelaw08_FewAll.mono _ _
   | exact haulagelaw08_lives.mono _
   | exact haulageref08_Column.mono _ _ _ _ _ _ _ _ _
   | exact haulageref08_Right.mono _ _
   | exact haulageref08_Table.mono _ _ _ _ _ _
   | exact schema_Right.mono _ _
   | exact schema_RightColumn.mono _ _ _ _ _ _ _ _ _
   | exact schema_RightTable.mono _ _ _ _ _ _
   | exact LeO.none _
   | refine LeO.ite ?_ ?_
   | refine LeO.bind ?_ (fun _ => ?_)
  ·
   intro y0 y1 y2 y3 y4 y5 y6 y7
   unfold haulagelaw08_SchemaRight.l1
   repeat' first
   | (with_reducible exact ih0 _ _)
   | (with_reducible exact ih1 _ _ _ _ _ _ _ _)
   | (with_reducible exact haulagelaw08_FewAll.mono _ _)
   | (with_reducible exact haulagelaw08_lives.mono _)
   | (with_reducible exact haulageref08_Column.mono _ _ _ _ _ _ _ _ _)
   | (with_reducible exact haulageref08_Right.mono _ _)
   | (with_reducible exact haulageref08_Table.mono _ _ _ _ _ _)
   | (with_reducible exact schema_Right.mono _ _)
   | (with_reducible exact schema_RightColumn.mono _ _ _ _ _ _ _ _ _)
   | (with_reducible exact schema_RightTable.mono _ _ _ _ _ _)
   | (with_reducible exact LeO.refl _)
   | (with_reducible exact LeO.none _)
   | (with_reducible refine LeO.ite ?_ ?_)
   | (with_reducible refine LeO.bind ?_ (fun _ => ?_))
   | exact ih0 _ _
   | exact ih1 _ _ _ _ _ _ _ _
   | exact haulagelaw08_FewAll.mono _ _
   | exact haulagelaw08_lives.mono _
   | exact haulageref08_Column.mono _ _ _ _ _ _ _ _ _
   | exact haulageref08_Right.mono _ _
   | exact haulageref08_Table.mono _ _ _ _ _ _
   | exact schema_Right.mono _ _
   | exact schema_RightColumn.mono _ _ _ _ _ _ _ _ _
   | exact schema_RightTable.mono _ _ _ _ _ _
   | exact LeO.none _
   | refine LeO.ite ?_ ?_
   | refine LeO.bind ?_ (fun _ => ?_)
theorem haulagelaw08_SchemaRight.mono : ∀ a0 k, LeO (haulagelaw08_SchemaRight.f k a0) (haulagelaw08_SchemaRight.f (k + 1) a0) := by
 intro a0 k
 obtain ⟨ih0, ih1⟩ := haulagelaw08_SchemaRight.mono_l k
 unfold haulagelaw08_SchemaRight.f
 repeat' first
   | (with_reducible exact ih0 _ _)
   | (with_reducible exact ih1 _ _ _ _ _ _ _ _)
   | (with_reducible exact haulagelaw08_FewAll.mono _ _)
   | (with_reducible exact haulagelaw08_lives.mono _)
   | (with_reducible exact haulageref08_Column.mono _ _ _ _ _ _ _ _ _)
   | (with_reducible exact haulageref08_Right.mono _ _)
   | (with_reducible exact haulageref08_Table.mono _ _ _ _ _ _)
   | (with_reducible exact schema_Right.mono _ _)
   | (with_reducible exact schema_RightColumn.mono _ _ _ _ _ _ _ _ _)
   | (with_reducible exact schema_RightTable.mono _ _ _ _ _ _)
   | (with_reducible exact LeO.refl _)
   | (with_reducible exact LeO.none _)
   | (with_reducible refine LeO.ite ?_ ?_)
   | (with_reducible refine LeO.bind ?_ (fun _ => ?_))
   | exact ih0 _ _
   | exact ih1 _ _ _ _ _ _ _ _
   | exact haulagelaw08_FewAll.mono _ _
   | exact haulagelaw08_lives.mono _
   | exact haulageref08_Column.mono _ _ _ _ _ _ _ _ _
   | exact haulageref08_Right.mono _ _
   | exact haulageref08_Table.mono _ _ _ _ _ _
   | exact schema_Right.mono _ _
   | exact schema_RightColumn.mono _ _ _ _ _ _ _ _ _
   | exact schema_RightTable.mono _ _ _ _ _ _
   | exact LeO.none _
   | refine LeO.ite ?_ ?_
   | refine LeO.bind ?_ (fun _ => ?_)
def haulagelaw08_SchemaRight.T14 : Bool × List (List Nat × List Nat) := (true, [([], []), ([0], [0]), ([], []), ([1, 2], [1, 2]), ([3], [3]), ([4], [4]), ([], []), ([6], [6]), ([], []), ([7, 8], [7, 8]), ([9], [9]), ([10, 5], [10]), ([5, 11], [5, 11])])
def haulagelaw08_SchemaRight.B14 : List Nat := [0, 1, 0, 7, 15, 31, 0, 64, 0, 448, 960, 2047, 4095]
theorem haulagelaw08_SchemaRight.tab14 : rtab .any (opsOf Tryd.f5 14) = haulagelaw08_SchemaRight.T14 := by kernel_rfl
theorem haulagelaw08_SchemaRight.bits14 : waitsOk haulagelaw08_SchemaRight.T14.2 haulagelaw08_SchemaRight.B14 = true := by kernel_rfl
set_option maxHeartbeats 8000000 in
set_option maxRecDepth 100000 in
theorem haulagelaw08_SchemaRight.calls (k : Nat) (A0_0 : Option Addr) (c0_0 : Nat) (l0_0 : List (S24)) (r : Bool) (w : World) (hr0_0 : Kd.C k24 w A0_0 l0_0.length l0_0) (hc0_0 : l0_0.length ≤ c0_0) (hG : Glob w) (h : haulagelaw08_SchemaRight.f k l0_0 = some r) :
  Calls Tryd.prog 5 #[.agg #[.slice A0_0 l0_0.length c0_0]] w fun e w' => e = .returned (.bool r) ∧ Below w.heap.size w w' := by
 have hu46 := Tryd.underlying46
 have hu24 := Tryd.underlying24
 have hu54 := Tryd.underlying54
 have HR0_0 := aM hr0_0
 have HC0_0 := aM hc0_0
 clear hr0_0 hc0_0
 have HG := aM hG
 clear hG
 have HB := aM (Below.refl w.heap.size w)
 have H : ((haulagelaw08_lives.f k).bind fun t292 => (if t292 = true then ((haulagelaw08_FewAll.f k l0_0).bind fun t293 => (if t293 = true then (haulagelaw08_SchemaRight.l0 k 0 l0_0) else (some true))) else (some false))) = some r := h
 clear h
 replace H := Option.bind_eq_some_iff.mp H
 obtain ⟨t292, A20, H⟩ := H
 replace H : (if t292 = true then ((haulagelaw08_FewAll.f k l0_0).bind fun t293 => (if t293 = true then (haulagelaw08_SchemaRight.l0 k 0 l0_0) else (some true))) else (some false)) = some r := H
 have A2 := aM A20
 clear A20
 by_cases c3 : t292 = true
 ·
  subst c3
  have H1 : ((haulagelaw08_FewAll.f k l0_0).bind fun t293 => (if t293 = true then (haulagelaw08_SchemaRight.l0 k 0 l0_0) else (some true))) = some r := by rw [if_pos rfl] at H; exact H
  clear H
  have H := H1
  clear H1
  replace H := Option.bind_eq_some_iff.mp H
  obtain ⟨t293, A40, H⟩ := H
  replace H : (if t293 = true then (haulagelaw08_SchemaRight.l0 k 0 l0_0) else (some true)) = some r := H
  have A4 := aM A40
  clear A40
  by_cases c5 : t293 = true
  ·
   subst c5
   have H1 : (haulagelaw08_SchemaRight.l0 k 0 l0_0) = some r := by rw [if_pos rfl] at H; exact H
   clear H
   have H := H1
   clear H1
   have H' := aM H
   clear H
   go_enter Tryd.func5, Tryd.ntmps5
   go_wp2_with (first | ((with_reducible refine gate_dst (N := 1) rfl ?_); refine yX (N := 1) (cs := #[.slice A0_0 l0_0.length c0_0]) (t := 46) ?_; intro gb291 hg w6 hbox hb; have BK291 := aM (hbox); have GW291 := yZ hg (yB HB); have GE291 := yZ hg (yB HB); replace HB := aM (bP (yB HB) hb); clear hb hbox hg) | ((with_reducible refine gate_callee (f := 19) rfl ?_); refine yC 6 Tryd.func19 #[] rfl ?_; (with_reducible refine (haulagelaw08_lives.calls k  true _ ?side1 A2.out).mono ?_); (case side1 => first | (with_reducible exact HG.out) | exact Glob.below HG.out (yG1 HB GE291.out)); rintro e w7 ⟨rfl, hb⟩; refine ⟨_, rfl, ?_⟩; replace BK291 := aM (kB (yK BK291) hb); replace HB := aM (bP (yG1 HB GE291.out) hb); (try clear hb); obtain ⟨hcz8_0, hfz8_0⟩ := cells1 BK291.out) | ((with_reducible refine gate_callee (f := 25) rfl ?_); refine yC 9 Tryd.func25 #[.agg #[.slice A0_0 l0_0.length c0_0]] rfl ?_; (with_reducible refine (haulagelaw08_FewAll.calls k _ _ l0_0 true _ ?side1 ?side2 A4.out).mono ?_); (case side1 => exact yW (Kd.C_below HR0_0.out HB.out)); (case side2 => exact HC0_0.out); rintro e w9 ⟨rfl, hb⟩; refine ⟨_, rfl, ?_⟩; replace BK291 := aM (kB (yK BK291) hb); replace HB := aM (bP (yG1 HB GE291.out) hb); (try clear hb)))
   go_loopg [3] k (fun kq v3 w' => ∃ (x3_1 : Int), v3 = .int .i64 x3_1 ∧ Aside0 (haulagelaw08_SchemaRight.l0 kq x3_1 l0_0 = some r) ∧ Aside0 (kq ≤ k) ∧ Aside0 (w'.heap[gb291]? = some (.cells #[(.slice A0_0 l0_0.length c0_0)] 46 (0, 0))) ∧ Aside0 (Below w.heap.size w w'))
   case atStart => exact ⟨(0), yS, H', ⟨Nat.le_refl _⟩, ⟨yK BK291⟩, ⟨yG1 HB GE291.out⟩⟩
   case round =>
    clear H'
    try clear c1
    try clear c2
    try clear p2
    try clear c3
    try clear c5
    try clear hcz8_0
    try clear hfz8_0
    obtain ⟨x3_1, rfl, HA, HK1, BK291, HB⟩ := hrel
    cases gk with
    | zero => exact absurd HA.out (by simp [haulagelaw08_SchemaRight.l0])
    | succ k1 =>
     have H := HA.out
     clear HA
     simp only [haulagelaw08_SchemaRight.l0] at H
     by_cases c10 : x3_1 < (l0_0.length : Int)
     ·
      rw [if_pos c10] at H
      have c10b0 : decide (x3_1 < (l0_0.length : Int)) = true := decide_eq_true c10
      clear c10
      by_cases c11 : 0 ≤ x3_1
      ·
       rw [if_pos c11] at H
       have c11b0 : decide (0 ≤ x3_1) = true := decide_eq_true c11
       clear c11
       replace H := Option.bind_eq_some_iff.mp H
       obtain ⟨t296, A120, H⟩ := H
       replace H : ((haulageref08_Table.f k1 ((rd_T24 l0_0 x3_1).f0) ((rd_T24 l0_0 x3_1).f1) ((rd_T24 l0_0 x3_1).f2) ((rd_T24 l0_0 x3_1).f3) ((rd_T24 l0_0 x3_1).f4)).bind fun t297 => (if (t296 != t297) = true then (some false) else (haulagelaw08_SchemaRight.l1 k1 x3_1 0 l0_0 ((rd_T24 l0_0 x3_1).f0) ((rd_T24 l0_0 x3_1).f1) ((rd_T24 l0_0 x3_1).f2) ((rd_T24 l0_0 x3_1).f3) ((rd_T24 l0_0 x3_1).f4)))) = some r := H
       have A12 := aM A120
       clear A120
       replace H := Option.bind_eq_some_iff.mp H
       obtain ⟨t297, A130, H⟩ := H
       replace H : (if (t296 != t297) = true then (some false) else (haulagelaw08_SchemaRight.l1 k1 x3_1 0 l0_0 ((rd_T24 l0_0 x3_1).f0) ((rd_T24 l0_0 x3_1).f1) ((rd_T24 l0_0 x3_1).f2) ((rd_T24 l0_0 x3_1).f3) ((rd_T24 l0_0 x3_1).f4))) = some r := H
       have A13 := aM A130
       clear A130
       by_cases c14 : (t296 != t297) = true
       ·
        rw [if_pos c14] at H
        have c14b0 : (t296 != t297) = true := c14
        (try (have c14b1 : decide (t296 = t297) = false := by simpa using c14))
        (try (have c14b2 : (t296 == t297) = false := by simpa using c14))
        (try (have c14b3 : ¬ (t296 = t297) := by simpa using c14))
        clear c14
        obtain rfl := Option.some.inj H
        obtain ⟨hcz15_0, hfz15_0⟩ := cells1 BK291.out
        have p294 : 0 ≤ (x3_1 : Int) := oD yA
        have q294 : x3_1 < (l0_0.length : Int) := oD yA
        obtain ⟨ad294, A294_4, c294_4, e294, hx294_0, hx294_1, hx294_2, hx294_3, hx294_4, hl294_4, hi294_4⟩ := at_T24 HR0_0.out x3_1 p294 q294
        cases e294
        replace hx294_0 := pw_cell_below HB.out hx294_0
        replace hx294_1 := pw_cell_below HB.out hx294_1
        replace hx294_2 := pw_cell_below HB.out hx294_2
        replace hx294_3 := pw_cell_below HB.out hx294_3
        replace hx294_4 := pw_cell_below HB.out hx294_4
        have HR294_4 := aM hi294_4
        have HC294_4 := aM hl294_4
        clear hi294_4 hl294_4
        replace p294 := eq_true p294
        replace q294 := eq_true q294
        try go_wp2_with (first | ((with_reducible refine gate_dst (N := 4) rfl ?_); refine yX (N := 4) (cs := #[.int .i64 0, .string (⟨#[]⟩ : ByteArray), .int .i64 0, .int .i64 0, .slice none 0 0]) (t := 24) ?_; intro gb295 hg w16 hbox hb; have BK295 := aM (hbox); have GW295 := yZ hg (yG1 HB GE291.out); have GE295 := yZ hg (yG1 HB GE291.out); replace HB := aM (bP (yG1 HB GE291.out) hb); have NB291_295 := yN hg (yK BK291); have NB295_291 := yM hg (yK BK291); replace BK291 := aM (kB (yK BK291) hb); clear hb hbox hg; have hnb17 := NB295_291.out; have hnc17 := NB291_295.out; obtain ⟨hcz18_0, hcz18_1, hcz18_2, hcz18_3, hcz18_4, hfz18_0, hfz18_1, hfz18_2, hfz18_3, hfz18_4⟩ := cells5 BK295.out))
        have n0_ : Aside0 ((((((w16.setCell ⟨gb295, 0, none⟩ (.int .i64 ((rd_T24 l0_0 x3_1).f0))).setCell ⟨gb295, 1, none⟩ (.string ((rd_T24 l0_0 x3_1).f1))).setCell ⟨gb295, 2, none⟩ (.int .i64 ((rd_T24 l0_0 x3_1).f2))).setCell ⟨gb295, 3, none⟩ (.int .i64 ((rd_T24 l0_0 x3_1).f3))).setCell ⟨gb295, 4, none⟩ (.slice A294_4 ((rd_T24 l0_0 x3_1).f4).length c294_4)).heap[gb291]? = some (.cells #[.slice (some ad294) l0_0.length c0_0] 46 (0, 0))) := ⟨yF1 BK291 NB291_295.out⟩
        have n1_ : Aside0 ((((((w16.setCell ⟨gb295, 0, none⟩ (.int .i64 ((rd_T24 l0_0 x3_1).f0))).setCell ⟨gb295, 1, none⟩ (.string ((rd_T24 l0_0 x3_1).f1))).setCell ⟨gb295, 2, none⟩ (.int .i64 ((rd_T24 l0_0 x3_1).f2))).setCell ⟨gb295, 3, none⟩ (.int .i64 ((rd_T24 l0_0 x3_1).f3))).setCell ⟨gb295, 4, none⟩ (.slice A294_4 ((rd_T24 l0_0 x3_1).f4).length c294_4)).heap[gb295]? = some (.cells #[.int .i64 ((rd_T24 l0_0 x3_1).f0), .string ((rd_T24 l0_0 x3_1).f1), .int .i64 ((rd_T24 l0_0 x3_1).f2), .int .i64 ((rd_T24 l0_0 x3_1).f3), .slice A294_4 ((rd_T24 l0_0 x3_1).f4).length c294_4] 24 (0, 0))) := ⟨puts5 BK295.out⟩
        have n2_ : Aside0 (Below w.heap.size w (((((w16.setCell ⟨gb295, 0, none⟩ (.int .i64 ((rd_T24 l0_0 x3_1).f0))).setCell ⟨gb295, 1, none⟩ (.string ((rd_T24 l0_0 x3_1).f1))).setCell ⟨gb295, 2, none⟩ (.int .i64 ((rd_T24 l0_0 x3_1).f2))).setCell ⟨gb295, 3, none⟩ (.int .i64 ((rd_T24 l0_0 x3_1).f3))).setCell ⟨gb295, 4, none⟩ (.slice A294_4 ((rd_T24 l0_0 x3_1).f4).length c294_4))) := ⟨yG2 HB GE291.out GE295.out⟩
        (try clear BK291)
        (try clear BK295)
        (try clear HB)
        generalize (((((w16.setCell ⟨gb295, 0, none⟩ (.int .i64 ((rd_T24 l0_0 x3_1).f0))).setCell ⟨gb295, 1, none⟩ (.string ((rd_T24 l0_0 x3_1).f1))).setCell ⟨gb295, 2, none⟩ (.int .i64 ((rd_T24 l0_0 x3_1).f2))).setCell ⟨gb295, 3, none⟩ (.int .i64 ((rd_T24 l0_0 x3_1).f3))).setCell ⟨gb295, 4, none⟩ (.slice A294_4 ((rd_T24 l0_0 x3_1).f4).length c294_4)) = w19 at n0_ n1_ n2_ ⊢
        have BK291 := n0_
        have BK295 := n1_
        have HB := n2_
        clear n0_ n1_ n2_
        have n0_ := aM (kD BK291.out)
        have n1_ := aM (kD BK295.out)
        have n2_ := aM (b1 HB.out)
        clear BK291
        clear BK295
        clear HB
        have BK291 := n0_
        have BK295 := n1_
        have HB := n2_
        clear n0_ n1_ n2_
        refine start_ (n := 5) (S := fun w' => w'.cell? ⟨gb295, 0, none⟩ = some (.int .i64 ((rd_T24 l0_0 x3_1).f0)) ∧ w'.cell? ⟨gb295, 1, none⟩ = some (.string ((rd_T24 l0_0 x3_1).f1)) ∧ w'.cell? ⟨gb295, 2, none⟩ = some (.int .i64 ((rd_T24 l0_0 x3_1).f2)) ∧ w'.cell? ⟨gb295, 3, none⟩ = some (.int .i64 ((rd_T24 l0_0 x3_1).f3)) ∧ w'.cell? ⟨gb295, 4, none⟩ = some (.slice A294_4 ((rd_T24 l0_0 x3_1).f4).length c294_4)) (ds := []) #[false, false, false, false, false] (by kernel_rfl) rfl rfl (cellc5 BK295.out) (fun hHeld => ?_)
        generalize w19.drew = w20 at BK291 BK295 HB hHeld ⊢
        refine yT0 0 23 #[true, false, false, false, false] rfl rfl hHeld ?_
        refine yT0 2 25 #[true, false, true, false, false] rfl rfl hHeld ?_
        refine yI0 1 #[true, true, true, false, false] rfl rfl fun K hK => ?_
        refine yc Tryd.func26 #[.agg #[.int .i64 ((rd_T24 l0_0 x3_1).f0), .string ((rd_T24 l0_0 x3_1).f1), .int .i64 ((rd_T24 l0_0 x3_1).f2), .int .i64 ((rd_T24 l0_0 x3_1).f3), .slice A294_4 ((rd_T24 l0_0 x3_1).f4).length c294_4]] rfl rfl ?_
        with_reducible refine (schema_RightTable.calls k1 ((rd_T24 l0_0 x3_1).f0) ((rd_T24 l0_0 x3_1).f1) ((rd_T24 l0_0 x3_1).f2) ((rd_T24 l0_0 x3_1).f3) _ _ ((rd_T24 l0_0 x3_1).f4) t296 _ ?side1 ?side2 ?side3 A12.out).mono ?_
        (case side1 => exact yW (Kd.C_below HR294_4.out HB.out))
        (case side2 => exact HC294_4.out)
        (case side3 => first | (with_reducible exact HG.out) | exact Glob.below HG.out (yG2 HB GE291.out GE295.out))
        rintro e w21 ⟨rfl, hb⟩
        refine ⟨_, rfl, ?_⟩
        have n0_ := aM (kB (yK BK291) hb)
        have n1_ := aM (kB (yK BK295) hb)
        have n2_ := aM (bP (yG2 HB GE291.out GE295.out) hb)
        clear BK291
        clear BK295
        clear HB
        have BK291 := n0_
        have BK295 := n1_
        have HB := n2_
        clear n0_ n1_ n2_
        (try clear hb)
        (try clear hb2)
        (try clear hk)
        (try clear hi)
        refine hK.out _ _ (cellc5 BK295.out) (fun hHeld => ?_)
        clear hK K
        refine norm_ (a' := ?_) ?_ ?_
        rotate_left
        ·
         show Act.put _ (some 24) _ = _
         simp only [Act.put, s1_, s2_, s3_, i64_w, i32_w]
         rfl
        refine yI0 3 #[true, true, true, true, false] rfl rfl fun K hK => ?_
        refine yc Tryd.func27 #[.agg #[.int .i64 ((rd_T24 l0_0 x3_1).f0), .string ((rd_T24 l0_0 x3_1).f1), .int .i64 ((rd_T24 l0_0 x3_1).f2), .int .i64 ((rd_T24 l0_0 x3_1).f3), .slice A294_4 ((rd_T24 l0_0 x3_1).f4).length c294_4]] rfl rfl ?_
        with_reducible refine (haulageref08_Table.calls k1 ((rd_T24 l0_0 x3_1).f0) ((rd_T24 l0_0 x3_1).f1) ((rd_T24 l0_0 x3_1).f2) ((rd_T24 l0_0 x3_1).f3) _ _ ((rd_T24 l0_0 x3_1).f4) t297 _ ?side1 ?side2 A13.out).mono ?_
        (case side1 => exact yW (Kd.C_below HR294_4.out HB.out))
        (case side2 => exact HC294_4.out)
        rintro e w22 ⟨rfl, hb⟩
        refine ⟨_, rfl, ?_⟩
        have n0_ := aM (kB (yK BK291) hb)
        have n1_ := aM (kB (yK BK295) hb)
        have n2_ := aM (bP (yG2 HB GE291.out GE295.out) hb)
        clear BK291
        clear BK295
        clear HB
        have BK291 := n0_
        have BK295 := n1_
        have HB := n2_
        clear n0_ n1_ n2_
        (try clear hb)
        (try clear hb2)
        (try clear hk)
        (try clear hi)
        refine hK.out _ _ (cellc5 BK295.out) (fun hHeld => ?_)
        clear hK K
        refine norm_ (a' := ?_) ?_ ?_
        rotate_left
        ·
         show Act.put _ (some 26) _ = _
         simp only [Act.put, s1_, s2_, s3_, i64_w, i32_w]
         rfl
        refine yP0 4 27 #[true, true, true, true, true] rfl rfl ?_
        refine done_ (by kernel_rfl) ?_
        try go_wp2
        go_ret
        exact ⟨yE, yG2 HB GE291.out GE295.out⟩
       ·
        rw [if_neg c14] at H
        have c14b0 : (t296 != t297) = false := by simpa using c14
        (try (have c14b1 : decide (t296 = t297) = true := by simpa using c14))
        (try (have c14b2 : (t296 == t297) = true := by simpa using c14))
        clear c14
        have H' := aM H
        clear H
        obtain ⟨hcz23_0, hfz23_0⟩ := cells1 BK291.out
        have p294 : 0 ≤ (x3_1 : Int) := oD yA
        have q294 : x3_1 < (l0_0.length : Int) := oD yA
        obtain ⟨ad294, A294_4, c294_4, e294, hx294_0, hx294_1, hx294_2, hx294_3, hx294_4, hl294_4, hi294_4⟩ := at_T24 HR0_0.out x3_1 p294 q294
        cases e294
        replace hx294_0 := pw_cell_below HB.out hx294_0
        replace hx294_1 := pw_cell_below HB.out hx294_1
        replace hx294_2 := pw_cell_below HB.out hx294_2
        replace hx294_3 := pw_cell_below HB.out hx294_3
        replace hx294_4 := pw_cell_below HB.out hx294_4
        have HR294_4 := aM hi294_4
        have HC294_4 := aM hl294_4
        clear hi294_4 hl294_4
        replace p294 := eq_true p294
        replace q294 := eq_true q294
        try go_wp2_with (first | ((with_reducible refine gate_dst (N := 4) rfl ?_); refine yX (N := 4) (cs := #[.int .i64 0, .string (⟨#[]⟩ : ByteArray), .int .i64 0, .int .i64 0, .slice none 0 0]) (t := 24) ?_; intro gb295 hg w24 hbox hb; have BK295 := aM (hbox); have GW295 := yZ hg (yG1 HB GE291.out); have GE295 := yZ hg (yG1 HB GE291.out); replace HB := aM (bP (yG1 HB GE291.out) hb); have NB291_295 := yN hg (yK BK291); have NB295_291 := yM hg (yK BK291); replace BK291 := aM (kB (yK BK291) hb); clear hb hbox hg; have hnb25 := NB295_291.out; have hnc25 := NB291_295.out; obtain ⟨hcz26_0, hcz26_1, hcz26_2, hcz26_3, hcz26_4, hfz26_0, hfz26_1, hfz26_2, hfz26_3, hfz26_4⟩ := cells5 BK295.out))
        have n0_ : Aside0 ((((((w24.setCell ⟨gb295, 0, none⟩ (.int .i64 ((rd_T24 l0_0 x3_1).f0))).setCell ⟨gb295, 1, none⟩ (.string ((rd_T24 l0_0 x3_1).f1))).setCell ⟨gb295, 2, none⟩ (.int .i64 ((rd_T24 l0_0 x3_1).f2))).setCell ⟨gb295, 3, none⟩ (.int .i64 ((rd_T24 l0_0 x3_1).f3))).setCell ⟨gb295, 4, none⟩ (.slice A294_4 ((rd_T24 l0_0 x3_1).f4).length c294_4)).heap[gb291]? = some (.cells #[.slice (some ad294) l0_0.length c0_0] 46 (0, 0))) := ⟨yF1 BK291 NB291_295.out⟩
        have n1_ : Aside0 ((((((w24.setCell ⟨gb295, 0, none⟩ (.int .i64 ((rd_T24 l0_0 x3_1).f0))).setCell ⟨gb295, 1, none⟩ (.string ((rd_T24 l0_0 x3_1).f1))).setCell ⟨gb295, 2, none⟩ (.int .i64 ((rd_T24 l0_0 x3_1).f2))).setCell ⟨gb295, 3, none⟩ (.int .i64 ((rd_T24 l0_0 x3_1).f3))).setCell ⟨gb295, 4, none⟩ (.slice A294_4 ((rd_T24 l0_0 x3_1).f4).length c294_4)).heap[gb295]? = some (.cells #[.int .i64 ((rd_T24 l0_0 x3_1).f0), .string ((rd_T24 l0_0 x3_1).f1), .int .i64 ((rd_T24 l0_0 x3_1).f2), .int .i64 ((rd_T24 l0_0 x3_1).f3), .slice A294_4 ((rd_T24 l0_0 x3_1).f4).length c294_4] 24 (0, 0))) := ⟨puts5 BK295.out⟩
        have n2_ : Aside0 (Below w.heap.size w (((((w24.setCell ⟨gb295, 0, none⟩ (.int .i64 ((rd_T24 l0_0 x3_1).f0))).setCell ⟨gb295, 1, none⟩ (.string ((rd_T24 l0_0 x3_1).f1))).setCell ⟨gb295, 2, none⟩ (.int .i64 ((rd_T24 l0_0 x3_1).f2))).setCell ⟨gb295, 3, none⟩ (.int .i64 ((rd_T24 l0_0 x3_1).f3))).setCell ⟨gb295, 4, none⟩ (.slice A294_4 ((rd_T24 l0_0 x3_1).f4).length c294_4))) := ⟨yG2 HB GE291.out GE295.out⟩
        (try clear BK291)
        (try clear BK295)
        (try clear HB)
        generalize (((((w24.setCell ⟨gb295, 0, none⟩ (.int .i64 ((rd_T24 l0_0 x3_1).f0))).setCell ⟨gb295, 1, none⟩ (.string ((rd_T24 l0_0 x3_1).f1))).setCell ⟨gb295, 2, none⟩ (.int .i64 ((rd_T24 l0_0 x3_1).f2))).setCell ⟨gb295, 3, none⟩ (.int .i64 ((rd_T24 l0_0 x3_1).f3))).setCell ⟨gb295, 4, none⟩ (.slice A294_4 ((rd_T24 l0_0 x3_1).f4).length c294_4)) = w27 at n0_ n1_ n2_ ⊢
        have BK291 := n0_
        have BK295 := n1_
        have HB := n2_
        clear n0_ n1_ n2_
        have n0_ := aM (kD BK291.out)
        have n1_ := aM (kD BK295.out)
        have n2_ := aM (b1 HB.out)
        clear BK291
        clear BK295
        clear HB
        have BK291 := n0_
        have BK295 := n1_
        have HB := n2_
        clear n0_ n1_ n2_
        refine start_ (n := 5) (S := fun w' => w'.cell? ⟨gb295, 0, none⟩ = some (.int .i64 ((rd_T24 l0_0 x3_1).f0)) ∧ w'.cell? ⟨gb295, 1, none⟩ = some (.string ((rd_T24 l0_0 x3_1).f1)) ∧ w'.cell? ⟨gb295, 2, none⟩ = some (.int .i64 ((rd_T24 l0_0 x3_1).f2)) ∧ w'.cell? ⟨gb295, 3, none⟩ = some (.int .i64 ((rd_T24 l0_0 x3_1).f3)) ∧ w'.cell? ⟨gb295, 4, none⟩ = some (.slice A294_4 ((rd_T24 l0_0 x3_1).f4).length c294_4)) (ds := []) #[false, false, false, false, false] (by kernel_rfl) rfl rfl (cellc5 BK295.out) (fun hHeld => ?_)
        generalize w27.drew = w28 at BK291 BK295 HB hHeld ⊢
        refine yT0 0 23 #[true, false, false, false, false] rfl rfl hHeld ?_
        refine yT0 2 25 #[true, false, true, false, false] rfl rfl hHeld ?_
        refine yI0 1 #[true, true, true, false, false] rfl rfl fun K hK => ?_
        refine yc Tryd.func26 #[.agg #[.int .i64 ((rd_T24 l0_0 x3_1).f0), .string ((rd_T24 l0_0 x3_1).f1), .int .i64 ((rd_T24 l0_0 x3_1).f2), .int .i64 ((rd_T24 l0_0 x3_1).f3), .slice A294_4 ((rd_T24 l0_0 x3_1).f4).length c294_4]] rfl rfl ?_
        with_reducible refine (schema_RightTable.calls k1 ((rd_T24 l0_0 x3_1).f0) ((rd_T24 l0_0 x3_1).f1) ((rd_T24 l0_0 x3_1).f2) ((rd_T24 l0_0 x3_1).f3) _ _ ((rd_T24 l0_0 x3_1).f4) t296 _ ?side1 ?side2 ?side3 A12.out).mono ?_
        (case side1 => exact yW (Kd.C_below HR294_4.out HB.out))
        (case side2 => exact HC294_4.out)
        (case side3 => first | (with_reducible exact HG.out) | exact Glob.below HG.out (yG2 HB GE291.out GE295.out))
        rintro e w29 ⟨rfl, hb⟩
        refine ⟨_, rfl, ?_⟩
        have n0_ := aM (kB (yK BK291) hb)
        have n1_ := aM (kB (yK BK295) hb)
        have n2_ := aM (bP (yG2 HB GE291.out GE295.out) hb)
        clear BK291
        clear BK295
        clear HB
        have BK291 := n0_
        have BK295 := n1_
        have HB := n2_
        clear n0_ n1_ n2_
        (try clear hb)
        (try clear hb2)
        (try clear hk)
        (try clear hi)
        refine hK.out _ _ (cellc5 BK295.out) (fun hHeld => ?_)
        clear hK K
        refine norm_ (a' := ?_) ?_ ?_
        rotate_left
        ·
         show Act.put _ (some 24) _ = _
         simp only [Act.put, s1_, s2_, s3_, i64_w, i32_w]
         rfl
        refine yI0 3 #[true, true, true, true, false] rfl rfl fun K hK => ?_
        refine yc Tryd.func27 #[.agg #[.int .i64 ((rd_T24 l0_0 x3_1).f0), .string ((rd_T24 l0_0 x3_1).f1), .int .i64 ((rd_T24 l0_0 x3_1).f2), .int .i64 ((rd_T24 l0_0 x3_1).f3), .slice A294_4 ((rd_T24 l0_0 x3_1).f4).length c294_4]] rfl rfl ?_
        with_reducible refine (haulageref08_Table.calls k1 ((rd_T24 l0_0 x3_1).f0) ((rd_T24 l0_0 x3_1).f1) ((rd_T24 l0_0 x3_1).f2) ((rd_T24 l0_0 x3_1).f3) _ _ ((rd_T24 l0_0 x3_1).f4) t297 _ ?side1 ?side2 A13.out).mono ?_
        (case side1 => exact yW (Kd.C_below HR294_4.out HB.out))
        (case side2 => exact HC294_4.out)
        rintro e w30 ⟨rfl, hb⟩
        refine ⟨_, rfl, ?_⟩
        have n0_ := aM (kB (yK BK291) hb)
        have n1_ := aM (kB (yK BK295) hb)
        have n2_ := aM (bP (yG2 HB GE291.out GE295.out) hb)
        clear BK291
        clear BK295
        clear HB
        have BK291 := n0_
        have BK295 := n1_
        have HB := n2_
        clear n0_ n1_ n2_
        (try clear hb)
        (try clear hb2)
        (try clear hk)
        (try clear hi)
        refine hK.out _ _ (cellc5 BK295.out) (fun hHeld => ?_)
        clear hK K
        refine norm_ (a' := ?_) ?_ ?_
        rotate_left
        ·
         show Act.put _ (some 26) _ = _
         simp only [Act.put, s1_, s2_, s3_, i64_w, i32_w]
         rfl
        refine yP0 4 27 #[true, true, true, true, true] rfl rfl ?_
        refine done_ (by kernel_rfl) ?_
        try go_wp2
        go_loopg [5] k1 (fun kq v5 w' => ∃ (x5_2 : Int), v5 = .int .i64 x5_2 ∧ Aside0 (haulagelaw08_SchemaRight.l1 kq x3_1 x5_2 l0_0 ((rd_T24 l0_0 x3_1).f0) ((rd_T24 l0_0 x3_1).f1) ((rd_T24 l0_0 x3_1).f2) ((rd_T24 l0_0 x3_1).f3) ((rd_T24 l0_0 x3_1).f4) = some r) ∧ Aside0 (kq ≤ k1) ∧ Aside0 (w'.heap[gb291]? = some (.cells #[(.slice (some ad294) l0_0.length c0_0)] 46 (0, 0))) ∧ Aside0 (w'.heap[gb295]? = some (.cells #[.int .i64 ((rd_T24 l0_0 x3_1).f0), .string ((rd_T24 l0_0 x3_1).f1), .int .i64 ((rd_T24 l0_0 x3_1).f2), .int .i64 ((rd_T24 l0_0 x3_1).f3), (.slice A294_4 ((rd_T24 l0_0 x3_1).f4).length c294_4)] 24 (0, 0))) ∧ Aside0 (Below w.heap.size w w'))
        case atStart => exact ⟨(0), yS, H', ⟨Nat.le_refl _⟩, ⟨yK BK291⟩, ⟨yK BK295⟩, ⟨yG2 HB GE291.out GE295.out⟩⟩
        case round =>
         clear H'
         try clear c1
         try clear c2
         try clear p2
         try clear q2
         try clear hx2
         try clear c3
         try clear c5
         try clear c10
         try clear c10b0
         try clear c11
         try clear c11b0
         try clear c14
         try clear c14b0
         try clear c14b1
         try clear c14b2
         try clear c17
         try clear c19
         try clear c25
         try clear c26
         try clear c27
         try clear c29
         try clear p29
         try clear q29
         try clear hx29
         try clear hcz15_0
         try clear hcz18_0 hcz18_1 hcz18_2 hcz18_3 hcz18_4
         try clear hcz23_0
         try clear hcz26_0 hcz26_1 hcz26_2 hcz26_3 hcz26_4
         try clear hcz8_0
         try clear hfz15_0
         try clear hfz18_0 hfz18_1 hfz18_2 hfz18_3 hfz18_4
         try clear hfz23_0
         try clear hfz26_0 hfz26_1 hfz26_2 hfz26_3 hfz26_4
         try clear hfz8_0
         try clear hx294_0 hx294_1 hx294_2 hx294_3 hx294_4
         try clear p2
         try clear p294
         try clear q294
         obtain ⟨x5_2, rfl, HA, HK2, BK291, BK295, HB⟩ := hrel
         cases gk with
         | zero => exact absurd HA.out (by simp [haulagelaw08_SchemaRight.l1])
         | succ k2 =>
          have H := HA.out
          clear HA
          simp only [haulagelaw08_SchemaRight.l1] at H
          by_cases c31 : x5_2 < (((rd_T24 l0_0 x3_1).f4).length : Int)
          ·
           rw [if_pos c31] at H
           have c31b0 : decide (x5_2 < (((rd_T24 l0_0 x3_1).f4).length : Int)) = true := decide_eq_true c31
           clear c31
           by_cases c32 : 0 ≤ x5_2
           ·
            rw [if_pos c32] at H
            have c32b0 : decide (0 ≤ x5_2) = true := decide_eq_true c32
            clear c32
            replace H := Option.bind_eq_some_iff.mp H
            obtain ⟨t299, A330, H⟩ := H
            replace H : ((haulageref08_Column.f k2 ((rd_T54 ((rd_T24 l0_0 x3_1).f4) x5_2).f0) ((rd_T54 ((rd_T24 l0_0 x3_1).f4) x5_2).f1) ((rd_T54 ((rd_T24 l0_0 x3_1).f4) x5_2).f2.f0) ((rd_T54 ((rd_T24 l0_0 x3_1).f4) x5_2).f2.f1) ((rd_T54 ((rd_T24 l0_0 x3_1).f4) x5_2).f3) ((rd_T54 ((rd_T24 l0_0 x3_1).f4) x5_2).f4.f0) ((rd_T54 ((rd_T24 l0_0 x3_1).f4) x5_2).f4.f1) ((rd_T54 ((rd_T24 l0_0 x3_1).f4) x5_2).f4.f2)).bind fun t301 => (if (t299 != t301) = true then (some false) else (haulagelaw08_SchemaRight.l1 k2 x3_1 (wrap64 (x5_2 + 1)) l0_0 ((rd_T24 l0_0 x3_1).f0) ((rd_T24 l0_0 x3_1).f1) ((rd_T24 l0_0 x3_1).f2) ((rd_T24 l0_0 x3_1).f3) ((rd_T24 l0_0 x3_1).f4)))) = some r := H
            have A33 := aM A330
            clear A330
            replace H := Option.bind_eq_some_iff.mp H
            obtain ⟨t301, A340, H⟩ := H
            replace H : (if (t299 != t301) = true then (some false) else (haulagelaw08_SchemaRight.l1 k2 x3_1 (wrap64 (x5_2 + 1)) l0_0 ((rd_T24 l0_0 x3_1).f0) ((rd_T24 l0_0 x3_1).f1) ((rd_T24 l0_0 x3_1).f2) ((rd_T24 l0_0 x3_1).f3) ((rd_T24 l0_0 x3_1).f4))) = some r := H
            have A34 := aM A340
            clear A340
            by_cases c35 : (t299 != t301) = true
            ·
             rw [if_pos c35] at H
             have c35b0 : (t299 != t301) = true := c35
             (try (have c35b1 : decide (t299 = t301) = false := by simpa using c35))
             (try (have c35b2 : (t299 == t301) = false := by simpa using c35))
             (try (have c35b3 : ¬ (t299 = t301) := by simpa using c35))
             clear c35
             obtain rfl := Option.some.inj H
             have hnb36 := NB295_291.out
             have hnc36 := NB291_295.out
             obtain ⟨hcz37_0, hcz37_1, hcz37_2, hcz37_3, hcz37_4, hfz37_0, hfz37_1, hfz37_2, hfz37_3, hfz37_4⟩ := cells5 BK295.out
             try go_wp2
             have n0_ := aM (kD BK291.out)
             have n1_ := aM (kD BK295.out)
             have n2_ := aM (b1 HB.out)
             clear BK291
             clear BK295
             clear HB
             have BK291 := n0_
             have BK295 := n1_
             have HB := n2_
             clear n0_ n1_ n2_
             have p298 : 0 ≤ (x5_2 : Int) := oD yA
             have q298 : x5_2 < (((rd_T24 l0_0 x3_1).f4).length : Int) := oD yA
             obtain ⟨ad298, e298, hx298_0, hx298_1, hx298_2, hx298_3, hx298_4, hx298_5, hx298_6, hx298_7⟩ := at_T54 HR294_4.out x5_2 p298 q298
             have hw298_7 := hx298_7
             have hw298_6 := hx298_6
             have hw298_5 := hx298_5
             have hw298_4 := hx298_4
             have hw298_3 := hx298_3
             have hw298_2 := hx298_2
             have hw298_1 := hx298_1
             have hw298_0 := hx298_0
             cases e298
             replace hx298_0 := pw_cell_below HB.out hx298_0
             replace hx298_1 := pw_cell_below HB.out hx298_1
             replace hx298_2 := pw_cell_below HB.out hx298_2
             replace hx298_3 := pw_cell_below HB.out hx298_3
             replace hx298_4 := pw_cell_below HB.out hx298_4
             replace hx298_5 := pw_cell_below HB.out hx298_5
             replace hx298_6 := pw_cell_below HB.out hx298_6
             replace hx298_7 := pw_cell_below HB.out hx298_7
             replace p298 := eq_true p298
             replace q298 := eq_true q298
             have p300 : 0 ≤ (x5_2 : Int) := oD yA
             have q300 : x5_2 < (((rd_T24 l0_0 x3_1).f4).length : Int) := oD yA
             obtain ⟨ad300, e300, hx300_0, hx300_1, hx300_2, hx300_3, hx300_4, hx300_5, hx300_6, hx300_7⟩ := at_T54 HR294_4.out x5_2 p300 q300
             have hw300_7 := hx300_7
             have hw300_6 := hx300_6
             have hw300_5 := hx300_5
             have hw300_4 := hx300_4
             have hw300_3 := hx300_3
             have hw300_2 := hx300_2
             have hw300_1 := hx300_1
             have hw300_0 := hx300_0
             obtain rfl : ad298 = ad300 := (by injection e300)
             replace hx300_0 := pw_cell_below HB.out hx300_0
             replace hx300_1 := pw_cell_below HB.out hx300_1
             replace hx300_2 := pw_cell_below HB.out hx300_2
             replace hx300_3 := pw_cell_below HB.out hx300_3
             replace hx300_4 := pw_cell_below HB.out hx300_4
             replace hx300_5 := pw_cell_below HB.out hx300_5
             replace hx300_6 := pw_cell_below HB.out hx300_6
             replace hx300_7 := pw_cell_below HB.out hx300_7
             replace p300 := eq_true p300
             replace q300 := eq_true q300
             refine start_ (n := 13) (S := fun w' => w'.cell? ⟨gb295, 0, none⟩ = some (.int .i64 ((rd_T24 l0_0 x3_1).f0)) ∧ w'.cell? ⟨gb295, 1, none⟩ = some (.string ((rd_T24 l0_0 x3_1).f1)) ∧ w'.cell? ⟨gb295, 2, none⟩ = some (.int .i64 ((rd_T24 l0_0 x3_1).f2)) ∧ w'.cell? ⟨gb295, 3, none⟩ = some (.int .i64 ((rd_T24 l0_0 x3_1).f3)) ∧ w'.cell? ⟨gb295, 4, none⟩ = some (.slice (some ad298) ((rd_T24 l0_0 x3_1).f4).length c294_4) ∧ w'.cell? (ad298.add ((x5_2).toNat * 8)) = some (.int .i64 ((rd_T54 ((rd_T24 l0_0 x3_1).f4) x5_2).f0)) ∧ w'.cell? ⟨(ad298.add ((x5_2).toNat * 8)).block, (ad298.add ((x5_2).toNat * 8)).off + 1, none⟩ = some (.string ((rd_T54 ((rd_T24 l0_0 x3_1).f4) x5_2).f1)) ∧ w'.cell? ⟨(ad298.add ((x5_2).toNat * 8)).block, (ad298.add ((x5_2).toNat * 8)).off + 2, none⟩ = some (.int .i64 ((rd_T54 ((rd_T24 l0_0 x3_1).f4) x5_2).f2.f0)) ∧ w'.cell? ⟨(ad298.add ((x5_2).toNat * 8)).block, (ad298.add ((x5_2).toNat * 8)).off + 3, none⟩ = some (.int .i64 ((rd_T54 ((rd_T24 l0_0 x3_1).f4) x5_2).f2.f1)) ∧ w'.cell? ⟨(ad298.add ((x5_2).toNat * 8)).block, (ad298.add ((x5_2).toNat * 8)).off + 4, none⟩ = some (.bool ((rd_T54 ((rd_T24 l0_0 x3_1).f4) x5_2).f3)) ∧ w'.cell? ⟨(ad298.add ((x5_2).toNat * 8)).block, (ad298.add ((x5_2).toNat * 8)).off + 5, none⟩ = some (.int .i64 ((rd_T54 ((rd_T24 l0_0 x3_1).f4) x5_2).f4.f0)) ∧ w'.cell? ⟨(ad298.add ((x5_2).toNat * 8)).block, (ad298.add ((x5_2).toNat * 8)).off + 6, none⟩ = some (.int .i64 ((rd_T54 ((rd_T24 l0_0 x3_1).f4) x5_2).f4.f1)) ∧ w'.cell? ⟨(ad298.add ((x5_2).toNat * 8)).block, (ad298.add ((x5_2).toNat * 8)).off + 7, none⟩ = some (.string ((rd_T54 ((rd_T24 l0_0 x3_1).f4) x5_2).f4.f2)) ∧ w'.cell? (ad298.add ((x5_2).toNat * 8)) = some (.int .i64 ((rd_T54 ((rd_T24 l0_0 x3_1).f4) x5_2).f0)) ∧ w'.cell? ⟨(ad298.add ((x5_2).toNat * 8)).block, (ad298.add ((x5_2).toNat * 8)).off + 1, none⟩ = some (.string ((rd_T54 ((rd_T24 l0_0 x3_1).f4) x5_2).f1)) ∧ w'.cell? ⟨(ad298.add ((x5_2).toNat * 8)).block, (ad298.add ((x5_2).toNat * 8)).off + 2, none⟩ = some (.int .i64 ((rd_T54 ((rd_T24 l0_0 x3_1).f4) x5_2).f2.f0)) ∧ w'.cell? ⟨(ad298.add ((x5_2).toNat * 8)).block, (ad298.add ((x5_2).toNat * 8)).off + 3, none⟩ = some (.int .i64 ((rd_T54 ((rd_T24 l0_0 x3_1).f4) x5_2).f2.f1)) ∧ w'.cell? ⟨(ad298.add ((x5_2).toNat * 8)).block, (ad298.add ((x5_2).toNat * 8)).off + 4, none⟩ = some (.bool ((rd_T54 ((rd_T24 l0_0 x3_1).f4) x5_2).f3)) ∧ w'.cell? ⟨(ad298.add ((x5_2).toNat * 8)).block, (ad298.add ((x5_2).toNat * 8)).off + 5, none⟩ = some (.int .i64 ((rd_T54 ((rd_T24 l0_0 x3_1).f4) x5_2).f4.f0)) ∧ w'.cell? ⟨(ad298.add ((x5_2).toNat * 8)).block, (ad298.add ((x5_2).toNat * 8)).off + 6, none⟩ = some (.int .i64 ((rd_T54 ((rd_T24 l0_0 x3_1).f4) x5_2).f4.f1)) ∧ w'.cell? ⟨(ad298.add ((x5_2).toNat * 8)).block, (ad298.add ((x5_2).toNat * 8)).off + 7, none⟩ = some (.string ((rd_T54 ((rd_T24 l0_0 x3_1).f4) x5_2).f4.f2))) (ds := []) (tB 0 13) (by kernel_rfl) rfl rfl ⟨yV BK295 0, yV BK295 1, yV BK295 2, yV BK295 3, yV BK295 4, (pw_cell_below HB.out hw298_0), (pw_cell_below HB.out hw298_1), (pw_cell_below HB.out hw298_2), (pw_cell_below HB.out hw298_3), (pw_cell_below HB.out hw298_4), (pw_cell_below HB.out hw298_5), (pw_cell_below HB.out hw298_6), (pw_cell_below HB.out hw298_7), (pw_cell_below HB.out hw300_0), (pw_cell_below HB.out hw300_1), (pw_cell_below HB.out hw300_2), (pw_cell_below HB.out hw300_3), (pw_cell_below HB.out hw300_4), (pw_cell_below HB.out hw300_5), (pw_cell_below HB.out hw300_6), (pw_cell_below HB.out hw300_7)⟩ (fun hHeld => ?_); refine with_tabW haulagelaw08_SchemaRight.tab14 haulagelaw08_SchemaRight.bits14 (fun HT_ HW_ => ?_)
             generalize wr.drew = w38 at BK291 BK295 HB hx298_0 hx298_1 hx298_2 hx298_3 hx298_4 hx298_5 hx298_6 hx298_7 hx300_0 hx300_1 hx300_2 hx300_3 hx300_4 hx300_5 hx300_6 hx300_7 hHeld ⊢
             refine yP HT_ 0 35 (tB 1 13) rfl rfl ?_
             refine yP HT_ 2 37 (tB 5 13) rfl rfl ?_
             refine yP HT_ 6 41 (tB 69 13) rfl rfl ?_
             refine yP HT_ 8 43 (tB 325 13) rfl rfl ?_
             refine yT HT_ HW_ 1 36 (tB 327 13) rfl rfl hHeld ?_
             refine yP HT_ 3 38 (tB 335 13) rfl rfl ?_
             refine yT HT_ HW_ 4 39 (tB 351 13) rfl rfl hHeld ?_
             refine yT HT_ HW_ 7 42 (tB 479 13) rfl rfl hHeld ?_
             refine yP HT_ 9 44 (tB 991 13) rfl rfl ?_
             refine yT HT_ HW_ 10 45 (tB 2015 13) rfl rfl hHeld ?_
             refine yI HT_ 5 (tB 2047 13) rfl rfl fun K hK => ?_
             refine yc Tryd.func28 #[.agg #[.int .i64 ((rd_T54 ((rd_T24 l0_0 x3_1).f4) x5_2).f0), .string ((rd_T54 ((rd_T24 l0_0 x3_1).f4) x5_2).f1), .int .i64 ((rd_T54 ((rd_T24 l0_0 x3_1).f4) x5_2).f2.f0), .int .i64 ((rd_T54 ((rd_T24 l0_0 x3_1).f4) x5_2).f2.f1), .bool ((rd_T54 ((rd_T24 l0_0 x3_1).f4) x5_2).f3), .int .i64 ((rd_T54 ((rd_T24 l0_0 x3_1).f4) x5_2).f4.f0), .int .i64 ((rd_T54 ((rd_T24 l0_0 x3_1).f4) x5_2).f4.f1), .string ((rd_T54 ((rd_T24 l0_0 x3_1).f4) x5_2).f4.f2)]] rfl rfl ?_
             with_reducible refine (schema_RightColumn.calls k2 ((rd_T54 ((rd_T24 l0_0 x3_1).f4) x5_2).f0) ((rd_T54 ((rd_T24 l0_0 x3_1).f4) x5_2).f1) ((rd_T54 ((rd_T24 l0_0 x3_1).f4) x5_2).f2.f0) ((rd_T54 ((rd_T24 l0_0 x3_1).f4) x5_2).f2.f1) ((rd_T54 ((rd_T24 l0_0 x3_1).f4) x5_2).f3) ((rd_T54 ((rd_T24 l0_0 x3_1).f4) x5_2).f4.f0) ((rd_T54 ((rd_T24 l0_0 x3_1).f4) x5_2).f4.f1) ((rd_T54 ((rd_T24 l0_0 x3_1).f4) x5_2).f4.f2) t299 _ ?side1 A33.out).mono ?_
             (case side1 => first | (with_reducible exact HG.out) | exact Glob.below HG.out (yG2 HB GE291.out GE295.out))
             rintro e w39 ⟨rfl, hb⟩
             refine ⟨_, rfl, ?_⟩
             have n0_ := aM (kB (yK BK291) hb)
             have n1_ := aM (kB (yK BK295) hb)
             have n2_ := aM (bP (yG2 HB GE291.out GE295.out) hb)
             clear BK291
             clear BK295
             clear HB
             have BK291 := n0_
             have BK295 := n1_
             have HB := n2_
             clear n0_ n1_ n2_
             (try clear hb)
             (try clear hb2)
             (try clear hk)
             (try clear hi)
             refine hK.out _ _ ⟨yV BK295 0, yV BK295 1, yV BK295 2, yV BK295 3, yV BK295 4, (pw_cell_below HB.out hw298_0), (pw_cell_below HB.out hw298_1), (pw_cell_below HB.out hw298_2), (pw_cell_below HB.out hw298_3), (pw_cell_below HB.out hw298_4), (pw_cell_below HB.out hw298_5), (pw_cell_below HB.out hw298_6), (pw_cell_below HB.out hw298_7), (pw_cell_below HB.out hw300_0), (pw_cell_below HB.out hw300_1), (pw_cell_below HB.out hw300_2), (pw_cell_below HB.out hw300_3), (pw_cell_below HB.out hw300_4), (pw_cell_below HB.out hw300_5), (pw_cell_below HB.out hw300_6), (pw_cell_below HB.out hw300_7)⟩ (fun hHeld => ?_)
             clear hK K
             refine norm_ (a' := ?_) ?_ ?_
             rotate_left
             ·
              show Act.put _ (some 40) _ = _
              simp only [Act.put, s1_, s2_, s3_, i64_w, i32_w]
              rfl
             refine yI HT_ 11 (tB 4095 13) rfl rfl fun K hK => ?_
             refine yc Tryd.func29 #[.agg #[.int .i64 ((rd_T54 ((rd_T24 l0_0 x3_1).f4) x5_2).f0), .string ((rd_T54 ((rd_T24 l0_0 x3_1).f4) x5_2).f1), .int .i64 ((rd_T54 ((rd_T24 l0_0 x3_1).f4) x5_2).f2.f0), .int .i64 ((rd_T54 ((rd_T24 l0_0 x3_1).f4) x5_2).f2.f1), .bool ((rd_T54 ((rd_T24 l0_0 x3_1).f4) x5_2).f3), .int .i64 ((rd_T54 ((rd_T24 l0_0 x3_1).f4) x5_2).f4.f0), .int .i64 ((rd_T54 ((rd_T24 l0_0 x3_1).f4) x5_2).f4.f1), .string ((rd_T54 ((rd_T24 l0_0 x3_1).f4) x5_2).f4.f2)]] rfl rfl ?_
             with_reducible refine (haulageref08_Column.calls k2 ((rd_T54 ((rd_T24 l0_0 x3_1).f4) x5_2).f0) ((rd_T54 ((rd_T24 l0_0 x3_1).f4) x5_2).f1) ((rd_T54 ((rd_T24 l0_0 x3_1).f4) x5_2).f2.f0) ((rd_T54 ((rd_T24 l0_0 x3_1).f4) x5_2).f2.f1) ((rd_T54 ((rd_T24 l0_0 x3_1).f4) x5_2).f3) ((rd_T54 ((rd_T24 l0_0 x3_1).f4) x5_2).f4.f0) ((rd_T54 ((rd_T24 l0_0 x3_1).f4) x5_2).f4.f1) ((rd_T54 ((rd_T24 l0_0 x3_1).f4) x5_2).f4.f2) t301 _ A34.out).mono ?_
             rintro e w40 ⟨rfl, hb⟩
             refine ⟨_, rfl, ?_⟩
             have n0_ := aM (kB (yK BK291) hb)
             have n1_ := aM (kB (yK BK295) hb)
             have n2_ := aM (bP (yG2 HB GE291.out GE295.out) hb)
             clear BK291
             clear BK295
             clear HB
             have BK291 := n0_
             have BK295 := n1_
             have HB := n2_
             clear n0_ n1_ n2_
             (try clear hb)
             (try clear hb2)
             (try clear hk)
             (try clear hi)
             refine hK.out _ _ ⟨yV BK295 0, yV BK295 1, yV BK295 2, yV BK295 3, yV BK295 4, (pw_cell_below HB.out hw298_0), (pw_cell_below HB.out hw298_1), (pw_cell_below HB.out hw298_2), (pw_cell_below HB.out hw298_3), (pw_cell_below HB.out hw298_4), (pw_cell_below HB.out hw298_5), (pw_cell_below HB.out hw298_6), (pw_cell_below HB.out hw298_7), (pw_cell_below HB.out hw300_0), (pw_cell_below HB.out hw300_1), (pw_cell_below HB.out hw300_2), (pw_cell_below HB.out hw300_3), (pw_cell_below HB.out hw300_4), (pw_cell_below HB.out hw300_5), (pw_cell_below HB.out hw300_6), (pw_cell_below HB.out hw300_7)⟩ (fun hHeld => ?_)
             clear hK K
             refine norm_ (a' := ?_) ?_ ?_
             rotate_left
             ·
              show Act.put _ (some 46) _ = _
              simp only [Act.put, s1_, s2_, s3_, i64_w, i32_w]
              rfl
             refine yP HT_ 12 47 (tB 8191 13) rfl rfl ?_
             refine done_ (done_of HT_.out (by kernel_rfl)) ?_
             try go_wp2
             go_ret
             exact ⟨yE, yG2 HB GE291.out GE295.out⟩
            ·
             rw [if_neg c35] at H
             have c35b0 : (t299 != t301) = false := by simpa using c35
             (try (have c35b1 : decide (t299 = t301) = true := by simpa using c35))
             (try (have c35b2 : (t299 == t301) = true := by simpa using c35))
             clear c35
             have H' := aM H
             clear H
             have hnb41 := NB295_291.out
             have hnc41 := NB291_295.out
             obtain ⟨hcz42_0, hcz42_1, hcz42_2, hcz42_3, hcz42_4, hfz42_0, hfz42_1, hfz42_2, hfz42_3, hfz42_4⟩ := cells5 BK295.out
             try go_wp2
             have n0_ := aM (kD BK291.out)
             have n1_ := aM (kD BK295.out)
             have n2_ := aM (b1 HB.out)
             clear BK291
             clear BK295
             clear HB
             have BK291 := n0_
             have BK295 := n1_
             have HB := n2_
             clear n0_ n1_ n2_
             have p298 : 0 ≤ (x5_2 : Int) := oD yA
             have q298 : x5_2 < (((rd_T24 l0_0 x3_1).f4).length : Int) := oD yA
             obtain ⟨ad298, e298, hx298_0, hx298_1, hx298_2, hx298_3, hx298_4, hx298_5, hx298_6, hx298_7⟩ := at_T54 HR294_4.out x5_2 p298 q298
             have hw298_7 := hx298_7
             have hw298_6 := hx298_6
             have hw298_5 := hx298_5
             have hw298_4 := hx298_4
             have hw298_3 := hx298_3
             have hw298_2 := hx298_2
             have hw298_1 := hx298_1
             have hw298_0 := hx298_0
             cases e298
             replace hx298_0 := pw_cell_below HB.out hx298_0
             replace hx298_1 := pw_cell_below HB.out hx298_1
             replace hx298_2 := pw_cell_below HB.out hx298_2
             replace hx298_3 := pw_cell_below HB.out hx298_3
             replace hx298_4 := pw_cell_below HB.out hx298_4
             replace hx298_5 := pw_cell_below HB.out hx298_5
             replace hx298_6 := pw_cell_below HB.out hx298_6
             replace hx298_7 := pw_cell_below HB.out hx298_7
             replace p298 := eq_true p298
             replace q298 := eq_true q298
             have p300 : 0 ≤ (x5_2 : Int) := oD yA
             have q300 : x5_2 < (((rd_T24 l0_0 x3_1).f4).length : Int) := oD yA
             obtain ⟨ad300, e300, hx300_0, hx300_1, hx300_2, hx300_3, hx300_4, hx300_5, hx300_6, hx300_7⟩ := at_T54 HR294_4.out x5_2 p300 q300
             have hw300_7 := hx300_7
             have hw300_6 := hx300_6
             have hw300_5 := hx300_5
             have hw300_4 := hx300_4
             have hw300_3 := hx300_3
             have hw300_2 := hx300_2
             have hw300_1 := hx300_1
             have hw300_0 := hx300_0
             obtain rfl : ad298 = ad300 := (by injection e300)
             replace hx300_0 := pw_cell_below HB.out hx300_0
             replace hx300_1 := pw_cell_below HB.out hx300_1
             replace hx300_2 := pw_cell_below HB.out hx300_2
             replace hx300_3 := pw_cell_below HB.out hx300_3
             replace hx300_4 := pw_cell_below HB.out hx300_4
             replace hx300_5 := pw_cell_below HB.out hx300_5
             replace hx300_6 := pw_cell_below HB.out hx300_6
             replace hx300_7 := pw_cell_below HB.out hx300_7
             replace p300 := eq_true p300
             replace q300 := eq_true q300
             refine start_ (n := 13) (S := fun w' => w'.cell? ⟨gb295, 0, none⟩ = some (.int .i64 ((rd_T24 l0_0 x3_1).f0)) ∧ w'.cell? ⟨gb295, 1, none⟩ = some (.string ((rd_T24 l0_0 x3_1).f1)) ∧ w'.cell? ⟨gb295, 2, none⟩ = some (.int .i64 ((rd_T24 l0_0 x3_1).f2)) ∧ w'.cell? ⟨gb295, 3, none⟩ = some (.int .i64 ((rd_T24 l0_0 x3_1).f3)) ∧ w'.cell? ⟨gb295, 4, none⟩ = some (.slice (some ad298) ((rd_T24 l0_0 x3_1).f4).length c294_4) ∧ w'.cell? (ad298.add ((x5_2).toNat * 8)) = some (.int .i64 ((rd_T54 ((rd_T24 l0_0 x3_1).f4) x5_2).f0)) ∧ w'.cell? ⟨(ad298.add ((x5_2).toNat * 8)).block, (ad298.add ((x5_2).toNat * 8)).off + 1, none⟩ = some (.string ((rd_T54 ((rd_T24 l0_0 x3_1).f4) x5_2).f1)) ∧ w'.cell? ⟨(ad298.add ((x5_2).toNat * 8)).block, (ad298.add ((x5_2).toNat * 8)).off + 2, none⟩ = some (.int .i64 ((rd_T54 ((rd_T24 l0_0 x3_1).f4) x5_2).f2.f0)) ∧ w'.cell? ⟨(ad298.add ((x5_2).toNat * 8)).block, (ad298.add ((x5_2).toNat * 8)).off + 3, none⟩ = some (.int .i64 ((rd_T54 ((rd_T24 l0_0 x3_1).f4) x5_2).f2.f1)) ∧ w'.cell? ⟨(ad298.add ((x5_2).toNat * 8)).block, (ad298.add ((x5_2).toNat * 8)).off + 4, none⟩ = some (.bool ((rd_T54 ((rd_T24 l0_0 x3_1).f4) x5_2).f3)) ∧ w'.cell? ⟨(ad298.add ((x5_2).toNat * 8)).block, (ad298.add ((x5_2).toNat * 8)).off + 5, none⟩ = some (.int .i64 ((rd_T54 ((rd_T24 l0_0 x3_1).f4) x5_2).f4.f0)) ∧ w'.cell? ⟨(ad298.add ((x5_2).toNat * 8)).block, (ad298.add ((x5_2).toNat * 8)).off + 6, none⟩ = some (.int .i64 ((rd_T54 ((rd_T24 l0_0 x3_1).f4) x5_2).f4.f1)) ∧ w'.cell? ⟨(ad298.add ((x5_2).toNat * 8)).block, (ad298.add ((x5_2).toNat * 8)).off + 7, none⟩ = some (.string ((rd_T54 ((rd_T24 l0_0 x3_1).f4) x5_2).f4.f2)) ∧ w'.cell? (ad298.add ((x5_2).toNat * 8)) = some (.int .i64 ((rd_T54 ((rd_T24 l0_0 x3_1).f4) x5_2).f0)) ∧ w'.cell? ⟨(ad298.add ((x5_2).toNat * 8)).block, (ad298.add ((x5_2).toNat * 8)).off + 1, none⟩ = some (.string ((rd_T54 ((rd_T24 l0_0 x3_1).f4) x5_2).f1)) ∧ w'.cell? ⟨(ad298.add ((x5_2).toNat * 8)).block, (ad298.add ((x5_2).toNat * 8)).off + 2, none⟩ = some (.int .i64 ((rd_T54 ((rd_T24 l0_0 x3_1).f4) x5_2).f2.f0)) ∧ w'.cell? ⟨(ad298.add ((x5_2).toNat * 8)).block, (ad298.add ((x5_2).toNat * 8)).off + 3, none⟩ = some (.int .i64 ((rd_T54 ((rd_T24 l0_0 x3_1).f4) x5_2).f2.f1)) ∧ w'.cell? ⟨(ad298.add ((x5_2).toNat * 8)).block, (ad298.add ((x5_2).toNat * 8)).off + 4, none⟩ = some (.bool ((rd_T54 ((rd_T24 l0_0 x3_1).f4) x5_2).f3)) ∧ w'.cell? ⟨(ad298.add ((x5_2).toNat * 8)).block, (ad298.add ((x5_2).toNat * 8)).off + 5, none⟩ = some (.int .i64 ((rd_T54 ((rd_T24 l0_0 x3_1).f4) x5_2).f4.f0)) ∧ w'.cell? ⟨(ad298.add ((x5_2).toNat * 8)).block, (ad298.add ((x5_2).toNat * 8)).off + 6, none⟩ = some (.int .i64 ((rd_T54 ((rd_T24 l0_0 x3_1).f4) x5_2).f4.f1)) ∧ w'.cell? ⟨(ad298.add ((x5_2).toNat * 8)).block, (ad298.add ((x5_2).toNat * 8)).off + 7, none⟩ = some (.string ((rd_T54 ((rd_T24 l0_0 x3_1).f4) x5_2).f4.f2))) (ds := []) (tB 0 13) (by kernel_rfl) rfl rfl ⟨yV BK295 0, yV BK295 1, yV BK295 2, yV BK295 3, yV BK295 4, (pw_cell_below HB.out hw298_0), (pw_cell_below HB.out hw298_1), (pw_cell_below HB.out hw298_2), (pw_cell_below HB.out hw298_3), (pw_cell_below HB.out hw298_4), (pw_cell_below HB.out hw298_5), (pw_cell_below HB.out hw298_6), (pw_cell_below HB.out hw298_7), (pw_cell_below HB.out hw300_0), (pw_cell_below HB.out hw300_1), (pw_cell_below HB.out hw300_2), (pw_cell_below HB.out hw300_3), (pw_cell_below HB.out hw300_4), (pw_cell_below HB.out hw300_5), (pw_cell_below HB.out hw300_6), (pw_cell_below HB.out hw300_7)⟩ (fun hHeld => ?_); refine with_tabW haulagelaw08_SchemaRight.tab14 haulagelaw08_SchemaRight.bits14 (fun HT_ HW_ => ?_)
             generalize wr.drew = w43 at BK291 BK295 HB hx298_0 hx298_1 hx298_2 hx298_3 hx298_4 hx298_5 hx298_6 hx298_7 hx300_0 hx300_1 hx300_2 hx300_3 hx300_4 hx300_5 hx300_6 hx300_7 hHeld ⊢
             refine yP HT_ 0 35 (tB 1 13) rfl rfl ?_
             refine yP HT_ 2 37 (tB 5 13) rfl rfl ?_
             refine yP HT_ 6 41 (tB 69 13) rfl rfl ?_
             refine yP HT_ 8 43 (tB 325 13) rfl rfl ?_
             refine yT HT_ HW_ 1 36 (tB 327 13) rfl rfl hHeld ?_
             refine yP HT_ 3 38 (tB 335 13) rfl rfl ?_
             refine yT HT_ HW_ 4 39 (tB 351 13) rfl rfl hHeld ?_
             refine yT HT_ HW_ 7 42 (tB 479 13) rfl rfl hHeld ?_
             refine yP HT_ 9 44 (tB 991 13) rfl rfl ?_
             refine yT HT_ HW_ 10 45 (tB 2015 13) rfl rfl hHeld ?_
             refine yI HT_ 5 (tB 2047 13) rfl rfl fun K hK => ?_
             refine yc Tryd.func28 #[.agg #[.int .i64 ((rd_T54 ((rd_T24 l0_0 x3_1).f4) x5_2).f0), .string ((rd_T54 ((rd_T24 l0_0 x3_1).f4) x5_2).f1), .int .i64 ((rd_T54 ((rd_T24 l0_0 x3_1).f4) x5_2).f2.f0), .int .i64 ((rd_T54 ((rd_T24 l0_0 x3_1).f4) x5_2).f2.f1), .bool ((rd_T54 ((rd_T24 l0_0 x3_1).f4) x5_2).f3), .int .i64 ((rd_T54 ((rd_T24 l0_0 x3_1).f4) x5_2).f4.f0), .int .i64 ((rd_T54 ((rd_T24 l0_0 x3_1).f4) x5_2).f4.f1), .string ((rd_T54 ((rd_T24 l0_0 x3_1).f4) x5_2).f4.f2)]] rfl rfl ?_
             with_reducible refine (schema_RightColumn.calls k2 ((rd_T54 ((rd_T24 l0_0 x3_1).f4) x5_2).f0) ((rd_T54 ((rd_T24 l0_0 x3_1).f4) x5_2).f1) ((rd_T54 ((rd_T24 l0_0 x3_1).f4) x5_2).f2.f0) ((rd_T54 ((rd_T24 l0_0 x3_1).f4) x5_2).f2.f1) ((rd_T54 ((rd_T24 l0_0 x3_1).f4) x5_2).f3) ((rd_T54 ((rd_T24 l0_0 x3_1).f4) x5_2).f4.f0) ((rd_T54 ((rd_T24 l0_0 x3_1).f4) x5_2).f4.f1) ((rd_T54 ((rd_T24 l0_0 x3_1).f4) x5_2).f4.f2) t299 _ ?side1 A33.out).mono ?_
             (case side1 => first | (with_reducible exact HG.out) | exact Glob.below HG.out (yG2 HB GE291.out GE295.out))
             rintro e w44 ⟨rfl, hb⟩
             refine ⟨_, rfl, ?_⟩
             have n0_ := aM (kB (yK BK291) hb)
             have n1_ := aM (kB (yK BK295) hb)
             have n2_ := aM (bP (yG2 HB GE291.out GE295.out) hb)
             clear BK291
             clear BK295
             clear HB
             have BK291 := n0_
             have BK295 := n1_
             have HB := n2_
             clear n0_ n1_ n2_
             (try clear hb)
             (try clear hb2)
             (try clear hk)
             (try clear hi)
             refine hK.out _ _ ⟨yV BK295 0, yV BK295 1, yV BK295 2, yV BK295 3, yV BK295 4, (pw_cell_below HB.out hw298_0), (pw_cell_below HB.out hw298_1), (pw_cell_below HB.out hw298_2), (pw_cell_below HB.out hw298_3), (pw_cell_below HB.out hw298_4), (pw_cell_below HB.out hw298_5), (pw_cell_below HB.out hw298_6), (pw_cell_below HB.out hw298_7), (pw_cell_below HB.out hw300_0), (pw_cell_below HB.out hw300_1), (pw_cell_below HB.out hw300_2), (pw_cell_below HB.out hw300_3), (pw_cell_below HB.out hw300_4), (pw_cell_below HB.out hw300_5), (pw_cell_below HB.out hw300_6), (pw_cell_below HB.out hw300_7)⟩ (fun hHeld => ?_)
             clear hK K
             refine norm_ (a' := ?_) ?_ ?_
             rotate_left
             ·
              show Act.put _ (some 40) _ = _
              simp only [Act.put, s1_, s2_, s3_, i64_w, i32_w]
              rfl
             refine yI HT_ 11 (tB 4095 13) rfl rfl fun K hK => ?_
             refine yc Tryd.func29 #[.agg #[.int .i64 ((rd_T54 ((rd_T24 l0_0 x3_1).f4) x5_2).f0), .string ((rd_T54 ((rd_T24 l0_0 x3_1).f4) x5_2).f1), .int .i64 ((rd_T54 ((rd_T24 l0_0 x3_1).f4) x5_2).f2.f0), .int .i64 ((rd_T54 ((rd_T24 l0_0 x3_1).f4) x5_2).f2.f1), .bool ((rd_T54 ((rd_T24 l0_0 x3_1).f4) x5_2).f3), .int .i64 ((rd_T54 ((rd_T24 l0_0 x3_1).f4) x5_2).f4.f0), .int .i64 ((rd_T54 ((rd_T24 l0_0 x3_1).f4) x5_2).f4.f1), .string ((rd_T54 ((rd_T24 l0_0 x3_1).f4) x5_2).f4.f2)]] rfl rfl ?_
             with_reducible refine (haulageref08_Column.calls k2 ((rd_T54 ((rd_T24 l0_0 x3_1).f4) x5_2).f0) ((rd_T54 ((rd_T24 l0_0 x3_1).f4) x5_2).f1) ((rd_T54 ((rd_T24 l0_0 x3_1).f4) x5_2).f2.f0) ((rd_T54 ((rd_T24 l0_0 x3_1).f4) x5_2).f2.f1) ((rd_T54 ((rd_T24 l0_0 x3_1).f4) x5_2).f3) ((rd_T54 ((rd_T24 l0_0 x3_1).f4) x5_2).f4.f0) ((rd_T54 ((rd_T24 l0_0 x3_1).f4) x5_2).f4.f1) ((rd_T54 ((rd_T24 l0_0 x3_1).f4) x5_2).f4.f2) t301 _ A34.out).mono ?_
             rintro e w45 ⟨rfl, hb⟩
             refine ⟨_, rfl, ?_⟩
             have n0_ := aM (kB (yK BK291) hb)
             have n1_ := aM (kB (yK BK295) hb)
             have n2_ := aM (bP (yG2 HB GE291.out GE295.out) hb)
             clear BK291
             clear BK295
             clear HB
             have BK291 := n0_
             have BK295 := n1_
             have HB := n2_
             clear n0_ n1_ n2_
             (try clear hb)
             (try clear hb2)
             (try clear hk)
             (try clear hi)
             refine hK.out _ _ ⟨yV BK295 0, yV BK295 1, yV BK295 2, yV BK295 3, yV BK295 4, (pw_cell_below HB.out hw298_0), (pw_cell_below HB.out hw298_1), (pw_cell_below HB.out hw298_2), (pw_cell_below HB.out hw298_3), (pw_cell_below HB.out hw298_4), (pw_cell_below HB.out hw298_5), (pw_cell_below HB.out hw298_6), (pw_cell_below HB.out hw298_7), (pw_cell_below HB.out hw300_0), (pw_cell_below HB.out hw300_1), (pw_cell_below HB.out hw300_2), (pw_cell_below HB.out hw300_3), (pw_cell_below HB.out hw300_4), (pw_cell_below HB.out hw300_5), (pw_cell_below HB.out hw300_6), (pw_cell_below HB.out hw300_7)⟩ (fun hHeld => ?_)
             clear hK K
             refine norm_ (a' := ?_) ?_ ?_
             rotate_left
             ·
              show Act.put _ (some 46) _ = _
              simp only [Act.put, s1_, s2_, s3_, i64_w, i32_w]
              rfl
             refine yP HT_ 12 47 (tB 8191 13) rfl rfl ?_
             refine done_ (done_of HT_.out (by kernel_rfl)) ?_
             try go_wp2
             go_roundg k2
             case measure => have := HK1.out; have := HK2.out; omega
             case rel => exact ⟨(wrap64 (x5_2 + 1)), yS, H', ⟨by have := HK1.out; have := HK2.out; omega⟩, ⟨yK BK291⟩, ⟨yK BK295⟩, ⟨yG2 HB GE291.out GE295.out⟩⟩
           ·
            rw [if_neg c32] at H
            exact absurd H (by simp)
          ·
           rw [if_neg c31] at H
           have c31b0 : decide (x5_2 < (((rd_T24 l0_0 x3_1).f4).length : Int)) = false := decide_eq_false c31
           clear c31
           have H' := aM H
           clear H
           have hnb46 := NB295_291.out
           have hnc46 := NB291_295.out
           obtain ⟨hcz47_0, hcz47_1, hcz47_2, hcz47_3, hcz47_4, hfz47_0, hfz47_1, hfz47_2, hfz47_3, hfz47_4⟩ := cells5 BK295.out
           go_wp2
           go_roundg k2
           case measure => have := HK1.out; have := HK2.out; omega
           case rel => exact ⟨(wrap64 (x3_1 + 1)), yS, H', ⟨by have := HK1.out; have := HK2.out; omega⟩, ⟨yK BK291⟩, ⟨yG2 HB GE291.out GE295.out⟩⟩
      ·
       rw [if_neg c11] at H
       exact absurd H (by simp)
     ·
      rw [if_neg c10] at H
      have c10b0 : decide (x3_1 < (l0_0.length : Int)) = false := decide_eq_false c10
      clear c10
      replace H := Option.bind_eq_some_iff.mp H
      obtain ⟨t302, A480, H⟩ := H
      replace H : ((haulageref08_Right.f k1 l0_0).bind fun t303 => (some (t302 == t303))) = some r := H
      have A48 := aM A480
      clear A480
      replace H := Option.bind_eq_some_iff.mp H
      obtain ⟨t303, A490, H⟩ := H
      replace H : (some (t302 == t303)) = some r := H
      have A49 := aM A490
      clear A490
      obtain rfl := Option.some.inj H
      obtain ⟨hcz50_0, hfz50_0⟩ := cells1 BK291.out
      try go_wp2
      have n0_ := aM (kD BK291.out)
      have n1_ := aM (b1 HB.out)
      clear BK291
      clear HB
      have BK291 := n0_
      have HB := n1_
      clear n0_ n1_
      refine start_ (n := 6) (S := fun w' => w'.cell? ⟨gb291, 0, none⟩ = some (.slice A0_0 l0_0.length c0_0)) (ds := []) (tB 0 6) (by kernel_rfl) rfl rfl ((blk_cell BK291.out 0).trans rfl) (fun hHeld => ?_)
      generalize wr.drew = w51 at BK291 HB hHeld ⊢
      refine yT0 0 48 (tB 1 6) rfl rfl hHeld ?_
      refine yT0 2 50 (tB 5 6) rfl rfl hHeld ?_
      refine yI0 1 (tB 7 6) rfl rfl fun K hK => ?_
      refine yc Tryd.func30 #[.agg #[.slice A0_0 l0_0.length c0_0]] rfl rfl ?_
      with_reducible refine (schema_Right.calls k1 _ _ l0_0 t302 _ ?side1 ?side2 ?side3 A48.out).mono ?_
      (case side1 => exact yW (Kd.C_below HR0_0.out HB.out))
      (case side2 => exact HC0_0.out)
      (case side3 => first | (with_reducible exact HG.out) | exact Glob.below HG.out (yG1 HB GE291.out))
      rintro e w52 ⟨rfl, hb⟩
      refine ⟨_, rfl, ?_⟩
      have n0_ := aM (kB (yK BK291) hb)
      have n1_ := aM (bP (yG1 HB GE291.out) hb)
      clear BK291
      clear HB
      have BK291 := n0_
      have HB := n1_
      clear n0_ n1_
      (try clear hb)
      (try clear hb2)
      (try clear hk)
      (try clear hi)
      refine hK.out _ _ ((blk_cell BK291.out 0).trans rfl) (fun hHeld => ?_)
      clear hK K
      refine norm_ (a' := ?_) ?_ ?_
      rotate_left
      ·
       show Act.put _ (some 49) _ = _
       simp only [Act.put, s1_, s2_, s3_, i64_w, i32_w]
       rfl
      refine yI0 3 (tB 15 6) rfl rfl fun K hK => ?_
      refine yc Tryd.func31 #[.agg #[.slice A0_0 l0_0.length c0_0]] rfl rfl ?_
      with_reducible refine (haulageref08_Right.calls k1 _ _ l0_0 t303 _ ?side1 ?side2 A49.out).mono ?_
      (case side1 => exact yW (Kd.C_below HR0_0.out HB.out))
      (case side2 => exact HC0_0.out)
      rintro e w53 ⟨rfl, hb⟩
      refine ⟨_, rfl, ?_⟩
      have n0_ := aM (kB (yK BK291) hb)
      have n1_ := aM (bP (yG1 HB GE291.out) hb)
      clear BK291
      clear HB
      have BK291 := n0_
      have HB := n1_
      clear n0_ n1_
      (try clear hb)
      (try clear hb2)
      (try clear hk)
      (try clear hi)
      refine hK.out _ _ ((blk_cell BK291.out 0).trans rfl) (fun hHeld => ?_)
      clear hK K
      refine norm_ (a' := ?_) ?_ ?_
      rotate_left
      ·
       show Act.put _ (some 51) _ = _
       simp only [Act.put, s1_, s2_, s3_, i64_w, i32_w]
       rfl
      refine yP0 4 52 (tB 31 6) rfl rfl ?_
      refine yP0 5 2 (tB 63 6) rfl rfl ?_
      refine done_ (by kernel_rfl) ?_
      try go_wp2
      go_ret
      exact ⟨yE, yG1 HB GE291.out⟩
  ·
   replace c5 := Bool.eq_false_iff.mpr c5
   subst c5
   have H1 : (some true) = some r := by rw [if_neg (show ¬ (false = true) by decide)] at H; exact H
   clear H
   have H := H1
   clear H1
   obtain rfl := Option.some.inj H
   go_enter Tryd.func5, Tryd.ntmps5
   go_wp2_with (first | ((with_reducible refine gate_dst (N := 1) rfl ?_); refine yX (N := 1) (cs := #[.slice A0_0 l0_0.length c0_0]) (t := 46) ?_; intro gb291 hg w54 hbox hb; have BK291 := aM (hbox); have GW291 := yZ hg (yB HB); have GE291 := yZ hg (yB HB); replace HB := aM (bP (yB HB) hb); clear hb hbox hg) | ((with_reducible refine gate_callee (f := 19) rfl ?_); refine yC 6 Tryd.func19 #[] rfl ?_; (with_reducible refine (haulagelaw08_lives.calls k  true _ ?side1 A2.out).mono ?_); (case side1 => first | (with_reducible exact HG.out) | exact Glob.below HG.out (yG1 HB GE291.out)); rintro e w55 ⟨rfl, hb⟩; refine ⟨_, rfl, ?_⟩; replace BK291 := aM (kB (yK BK291) hb); replace HB := aM (bP (yG1 HB GE291.out) hb); (try clear hb); obtain ⟨hcz56_0, hfz56_0⟩ := cells1 BK291.out) | ((with_reducible refine gate_callee (f := 25) rfl ?_); refine yC 9 Tryd.func25 #[.agg #[.slice A0_0 l0_0.length c0_0]] rfl ?_; (with_reducible refine (haulagelaw08_FewAll.calls k _ _ l0_0 false _ ?side1 ?side2 A4.out).mono ?_); (case side1 => exact yW (Kd.C_below HR0_0.out HB.out)); (case side2 => exact HC0_0.out); rintro e w57 ⟨rfl, hb⟩; refine ⟨_, rfl, ?_⟩; replace BK291 := aM (kB (yK BK291) hb); replace HB := aM (bP (yG1 HB GE291.out) hb); (try clear hb)))
   go_ret
   exact ⟨yE, yG1 HB GE291.out⟩
 ·
  replace c3 := Bool.eq_false_iff.mpr c3
  subst c3
  have H1 : (some false) = some r := by rw [if_neg (show ¬ (false = true) by decide)] at H; exact H
  clear H
  have H := H1
  clear H1
  obtain rfl := Option.some.inj H
  go_enter Tryd.func5, Tryd.ntmps5
  go_wp2_with (first | ((with_reducible refine gate_dst (N := 1) rfl ?_); refine yX (N := 1) (cs := #[.slice A0_0 l0_0.length c0_0]) (t := 46) ?_; intro gb291 hg w58 hbox hb; have BK291 := aM (hbox); have GW291 := yZ hg (yB HB); have GE291 := yZ hg (yB HB); replace HB := aM (bP (yB HB) hb); clear hb hbox hg) | ((with_reducible refine gate_callee (f := 19) rfl ?_); refine yC 6 Tryd.func19 #[] rfl ?_; (with_reducible refine (haulagelaw08_lives.calls k  false _ ?side1 A2.out).mono ?_); (case side1 => first | (with_reducible exact HG.out) | exact Glob.below HG.out (yG1 HB GE291.out)); rintro e w59 ⟨rfl, hb⟩; refine ⟨_, rfl, ?_⟩; replace BK291 := aM (kB (yK BK291) hb); replace HB := aM (bP (yG1 HB GE291.out) hb); (try clear hb)))
  go_ret
  exact ⟨yE, yG1 HB GE291.out⟩
end Go.Proofs.YtdeophpjammbpaaDoor.HSchemaRight

/- For Go functions that SchemaSets reaches: Lean functions, and walks that show that each call comes to what its Lean function tells; no condition but those that each theorem states. (Made by a program of this session over the kit's print.py.) -/
import Derived.Test.YtdeophpjammbpaaDoorHSchemaSetsx0
import Derived.Test.YtdeophpjammbpaaDoorHSchemaSetsx1
import Derived.Test.YtdeophpjammbpaaDoorHSchemaSetsx2
import Derived.Test.YtdeophpjammbpaaDoorHSchemaSetsx10
import Derived.Test.YtdeophpjammbpaaDoorHSchemaSetsx11
import Derived.Test.YtdeophpjammbpaaDoorHSchemaSetsx19
namespace Go.Proofs.YtdeophpjammbpaaDoor.HSchemaSets
open Go.RowKit Go.Proofs.YtdeophpjammbpaaDoorW.PrintWords Go.Proofs.YtdeophpjammbpaaDoorW.PrintLast Go.Proofs.YtdeophpjammbpaaDoorW.PrintMore
attribute [local go_sem] max2_int min2_int max_two min_two max_three min_three max_four min_four   -- for this text's walks alone
set_option linter.unusedVariables false
set_option linter.unusedSimpArgs false
attribute [local go_sem] hp_s8 hp_s16 hp_s32 hp_s64 hp_m8 hp_m16 hp_m32 hp_m64
attribute [local go_sem high] eqA52
/-! ### haulagelaw08_SchemaSets: function 7 -/
mutual
def haulagelaw08_SchemaSets.j0 : Nat → List (S52) → List (S96) → Bool → Int → ByteArray → Int → Int → List (S54) → Option (Bool)
 | 0, _, _, _, _, _, _, _, _ => none
 | k + 1, x1, x2, x28, x350000, x350001, x350002, x350003, x350004 => if x28 = true then (some true) else ((some (([] : List (S52)) : List (S52))).bind fun y354 => (if y354.length + x1.length < 4398046511104 then ((schema_Set.f k x350000 x350001 x350002 x350003 x350004 x1 x2).bind fun bt360 => ((haulageref08_Set.f k x350000 x350001 x350002 x350003 x350004 x1 x2).bind fun bt364 => ((haulageref08_SameRow.f k bt360.1 bt364.1).bind fun t368 => (if t368 = true then (if bt360.2 = bt364.2 then ((haulageref08_SameRow.f k (y354 ++ x1) x1).bind fun t369 => (haulagelaw08_SchemaSets.j1 k x1 bt360.1 bt360.2 (!t369) x350000 x350001 x350002 x350003 x350004)) else (haulagelaw08_SchemaSets.j1 k x1 bt360.1 bt360.2 true x350000 x350001 x350002 x350003 x350004)) else (haulagelaw08_SchemaSets.j1 k x1 bt360.1 bt360.2 true x350000 x350001 x350002 x350003 x350004))))) else (none)))
def haulagelaw08_SchemaSets.j1 : Nat → List (S52) → List (S52) → Int → Bool → Int → ByteArray → Int → Int → List (S54) → Option (Bool)
 | 0, _, _, _, _, _, _, _, _, _ => none
 | k + 1, x1, x8, x9, x60, x350000, x350001, x350002, x350003, x350004 => if x60 = true then (some false) else (if x9 = 0 then ((schema_Key.f k x350000 x350001 x350002 x350003 x350004).bind fun bt370 => (if bt370.2 = true then (if bt370.1 < (x8.length : Int) then (if 0 ≤ bt370.1 then (if bt370.1 < (x1.length : Int) then (some (((rd_T52 x8 bt370.1).f0) == ((rd_T52 x1 bt370.1).f0) && (((rd_T52 x8 bt370.1).f1) == ((rd_T52 x1 bt370.1).f1) && ((((rd_T52 x8 bt370.1).f2).toList) == (((rd_T52 x1 bt370.1).f2).toList))))) else (none)) else (none)) else (some false)) else (some false))) else (some ((x8.length : Int) == 0)))
end
def haulagelaw08_SchemaSets.f (k : Nat) (a0_0 : Int) (a0_1 : ByteArray) (a0_2 : Int) (a0_3 : Int) (l0_4 : List (S54)) (l1 : List (S52)) (l2 : List (S96)) : Option (Bool) := (haulagelaw08_lives.f k).bind fun t350 => (if t350 = true then ((haulagelaw08_Few.f k a0_0 a0_1 a0_2 a0_3 l0_4).bind fun t351 => (if t351 = true then ((haulagelaw08_FewValues.f k l1).bind fun t352 => (if t352 = true then ((haulagelaw08_FewFields.f k l2).bind fun t353 => (haulagelaw08_SchemaSets.j0 k l1 l2 (!t353) a0_0 a0_1 a0_2 a0_3 l0_4)) else (haulagelaw08_SchemaSets.j0 k l1 l2 true a0_0 a0_1 a0_2 a0_3 l0_4))) else (haulagelaw08_SchemaSets.j0 k l1 l2 true a0_0 a0_1 a0_2 a0_3 l0_4))) else (some false))
theorem haulagelaw08_SchemaSets.mono_l : ∀ k, (∀ y0 y1 y2 y3 y4 y5 y6 y7, LeO (haulagelaw08_SchemaSets.j0 k y0 y1 y2 y3 y4 y5 y6 y7) (haulagelaw08_SchemaSets.j0 (k + 1) y0 y1 y2 y3 y4 y5 y6 y7)) ∧ (∀ y0 y1 y2 y3 y4 y5 y6 y7 y8, LeO (haulagelaw08_SchemaSets.j1 k y0 y1 y2 y3 y4 y5 y6 y7 y8) (haulagelaw08_SchemaSets.j1 (k + 1) y0 y1 y2 y3 y4 y5 y6 y7 y8))
 | 0 => ⟨fun _ _ _ _ _ _ _ _ r h => by simp [haulagelaw08_SchemaSets.j0] at h, fun _ _ _ _ _ _ _ _ _ r h => by simp [haulagelaw08_SchemaSets.j1] at h⟩
 | k + 1 => by
  obtain ⟨ih0, ih1⟩ := haulagelaw08_SchemaSets.mono_l k
  refine ⟨?_, ?_⟩
  ·
   intro y0 y1 y2 y3 y4 y5 y6 y7
   unfold haulagelaw08_SchemaSets.j0
   repeat' first
   | (with_reducible exact ih0 _ _ _ _ _ _ _ _)
   | (with_reducible exact ih1 _ _ _ _ _ _ _ _ _)
   | (with_reducible exact haulagelaw08_Few.mono _ _ _ _ _ _)
   | (with_reducible exact haulagelaw08_FewFields.mono _ _)
   | (with_reducible exact haulagelaw08_FewValues.mono _ _)
   | (with_reducible exact haulagelaw08_lives.mono _)
   | (with_reducible exact haulageref08_SameRow.mono _ _ _)
   | (with_reducible exact haulageref08_Set.mono _ _ _ _ _ _ _ _)
   | (with_reducible exact schema_Key.mono _ _ _ _ _ _)
   | (with_reducible exact schema_Set.mono _ _ _ _ _ _ _ _)
   | (with_reducible exact LeO.refl _)
   | (with_reducible exact LeO.none _)
   | (with_reducible refine LeO.ite ?_ ?_)
   | (with_reducible refine LeO.bind ?_ (fun _ => ?_))
   | exact ih0 _ _ _ _ _ _ _ _
   | exact ih1 _ _ _ _ _ _ _ _ _
   | exact haulagelaw08_Few.mono _ _ _ _ _ _
   | exact haulagelaw08_FewFields.mono _ _
   | exact haulagelaw08_FewValues.mono _ _
   | exact haulagelaw08_lives.mono _
   | exact haulageref08_SameRow.mono _ _ _
   | exact haulageref08_Set.mono _ _ _ _ _ _ _ _
   | exact schema_Key.mono _ _ _ _ _ _
   | exact schema_Set.mono _ _ _ _ _ _ _ _
   | exact LeO.none _
   | refine LeO.ite ?_ ?_
   | refine LeO.bind ?_ (fun _ => ?_)
  ·
   intro y0 y1 y2 y3 y4 y5 y6 y7 y8
   unfold haulagelaw08_SchemaSets.j1
   repeat' first
   | (with_reducible exact ih0 _ _ _ _ _ _ _ _)
   | (with_reducible exact ih1 _ _ _ _ _ _ _ _ _)
   | (with_reducible exact haulagelaw08_Few.mono _ _ _ _ _ _)
   | (with_reducible exact haulagelaw08_FewFields.mono _ _)
   | (with_reducible exact haulagelaw08_FewValues.mono _ _)
   | (with_reducible exact haulagelaw08_lives.mono _)
   | (with_reducible exact haulageref08_SameRow.mono _ _ _)
   | (with_reducible exact haulageref08_Set.mono _ _ _ _ _ _ _ _)
   | (with_reducible exact schema_Key.mono _ _ _ _ _ _)
   | (with_reducible exact schema_Set.mono _ _ _ _ _ _ _ _)
   | (with_reducible exact LeO.refl _)
   | (with_reducible exact LeO.none _)
   | (with_reducible refine LeO.ite ?_ ?_)
   | (with_reducible refine LeO.bind ?_ (fun _ => ?_))
   | exact ih0 _ _ _ _ _ _ _ _
   | exact ih1 _ _ _ _ _ _ _ _ _
   | exact haulagelaw08_Few.mono _ _ _ _ _ _
   | exact haulagelaw08_FewFields.mono _ _
   | exact haulagelaw08_FewValues.mono _ _
   | exact haulagelaw08_lives.mono _
   | exact haulageref08_SameRow.mono _ _ _
   | exact haulageref08_Set.mono _ _ _ _ _ _ _ _
   | exact schema_Key.mono _ _ _ _ _ _
   | exact schema_Set.mono _ _ _ _ _ _ _ _
   | exact LeO.none _
   | refine LeO.ite ?_ ?_
   | refine LeO.bind ?_ (fun _ => ?_)
theorem haulagelaw08_SchemaSets.mono : ∀ a0 a1 a2 a3 a4 a5 a6 k, LeO (haulagelaw08_SchemaSets.f k a0 a1 a2 a3 a4 a5 a6) (haulagelaw08_SchemaSets.f (k + 1) a0 a1 a2 a3 a4 a5 a6) := by
 intro a0 a1 a2 a3 a4 a5 a6 k
 obtain ⟨ih0, ih1⟩ := haulagelaw08_SchemaSets.mono_l k
 unfold haulagelaw08_SchemaSets.f
 repeat' first
   | (with_reducible exact ih0 _ _ _ _ _ _ _ _)
   | (with_reducible exact ih1 _ _ _ _ _ _ _ _ _)
   | (with_reducible exact haulagelaw08_Few.mono _ _ _ _ _ _)
   | (with_reducible exact haulagelaw08_FewFields.mono _ _)
   | (with_reducible exact haulagelaw08_FewValues.mono _ _)
   | (with_reducible exact haulagelaw08_lives.mono _)
   | (with_reducible exact haulageref08_SameRow.mono _ _ _)
   | (with_reducible exact haulageref08_Set.mono _ _ _ _ _ _ _ _)
   | (with_reducible exact schema_Key.mono _ _ _ _ _ _)
   | (with_reducible exact schema_Set.mono _ _ _ _ _ _ _ _)
   | (with_reducible exact LeO.refl _)
   | (with_reducible exact LeO.none _)
   | (with_reducible refine LeO.ite ?_ ?_)
   | (with_reducible refine LeO.bind ?_ (fun _ => ?_))
   | exact ih0 _ _ _ _ _ _ _ _
   | exact ih1 _ _ _ _ _ _ _ _ _
   | exact haulagelaw08_Few.mono _ _ _ _ _ _
   | exact haulagelaw08_FewFields.mono _ _
   | exact haulagelaw08_FewValues.mono _ _
   | exact haulagelaw08_lives.mono _
   | exact haulageref08_SameRow.mono _ _ _
   | exact haulageref08_Set.mono _ _ _ _ _ _ _ _
   | exact schema_Key.mono _ _ _ _ _ _
   | exact schema_Set.mono _ _ _ _ _ _ _ _
   | exact LeO.none _
   | refine LeO.ite ?_ ?_
   | refine LeO.bind ?_ (fun _ => ?_)
set_option maxHeartbeats 8000000 in
set_option maxRecDepth 100000 in
theorem haulagelaw08_SchemaSets.calls (k : Nat) (a0_0 : Int) (a0_1 : ByteArray) (a0_2 : Int) (a0_3 : Int) (A0_4 : Option Addr) (c0_4 : Nat) (l0_4 : List (S54)) (A1 : Option Addr) (c1 : Nat) (l1 : List (S52)) (A2 : Option Addr) (c2 : Nat) (l2 : List (S96)) (r : Bool) (w : World) (hr0_4 : Kd.C k54 w A0_4 l0_4.length l0_4) (hc0_4 : l0_4.length ≤ c0_4) (hr1 : Kd.C k52 w A1 l1.length l1) (hc1 : l1.length ≤ c1) (hr2 : Kd.C k96 w A2 l2.length l2) (hc2 : l2.length ≤ c2) (hG : Glob w) (h : haulagelaw08_SchemaSets.f k a0_0 a0_1 a0_2 a0_3 l0_4 l1 l2 = some r) :
  Calls Tryd.prog 7 #[.agg #[.int .i64 a0_0, .string a0_1, .int .i64 a0_2, .int .i64 a0_3, .slice A0_4 l0_4.length c0_4], .slice A1 l1.length c1, .slice A2 l2.length c2] w fun e w' => e = .returned (.bool r) ∧ Below w.heap.size w w' := by
 have hu24 := Tryd.underlying24
 have hu52 := Tryd.underlying52
 have HR0_4 := aM hr0_4
 have HC0_4 := aM hc0_4
 clear hr0_4 hc0_4
 have HR1 := aM hr1
 have HC1 := aM hc1
 clear hr1 hc1
 have HR2 := aM hr2
 have HC2 := aM hc2
 clear hr2 hc2
 have HG := aM hG
 clear hG
 have HB := aM (Below.refl w.heap.size w)
 have H : ((haulagelaw08_lives.f k).bind fun t350 => (if t350 = true then ((haulagelaw08_Few.f k a0_0 a0_1 a0_2 a0_3 l0_4).bind fun t351 => (if t351 = true then ((haulagelaw08_FewValues.f k l1).bind fun t352 => (if t352 = true then ((haulagelaw08_FewFields.f k l2).bind fun t353 => (haulagelaw08_SchemaSets.j0 k l1 l2 (!t353) a0_0 a0_1 a0_2 a0_3 l0_4)) else (haulagelaw08_SchemaSets.j0 k l1 l2 true a0_0 a0_1 a0_2 a0_3 l0_4))) else (haulagelaw08_SchemaSets.j0 k l1 l2 true a0_0 a0_1 a0_2 a0_3 l0_4))) else (some false))) = some r := h
 clear h
 replace H := Option.bind_eq_some_iff.mp H
 obtain ⟨t350, A40, H⟩ := H
 replace H : (if t350 = true then ((haulagelaw08_Few.f k a0_0 a0_1 a0_2 a0_3 l0_4).bind fun t351 => (if t351 = true then ((haulagelaw08_FewValues.f k l1).bind fun t352 => (if t352 = true then ((haulagelaw08_FewFields.f k l2).bind fun t353 => (haulagelaw08_SchemaSets.j0 k l1 l2 (!t353) a0_0 a0_1 a0_2 a0_3 l0_4)) else (haulagelaw08_SchemaSets.j0 k l1 l2 true a0_0 a0_1 a0_2 a0_3 l0_4))) else (haulagelaw08_SchemaSets.j0 k l1 l2 true a0_0 a0_1 a0_2 a0_3 l0_4))) else (some false)) = some r := H
 have A4 := aM A40
 clear A40
 by_cases c5 : t350 = true
 ·
  subst c5
  have H1 : ((haulagelaw08_Few.f k a0_0 a0_1 a0_2 a0_3 l0_4).bind fun t351 => (if t351 = true then ((haulagelaw08_FewValues.f k l1).bind fun t352 => (if t352 = true then ((haulagelaw08_FewFields.f k l2).bind fun t353 => (haulagelaw08_SchemaSets.j0 k l1 l2 (!t353) a0_0 a0_1 a0_2 a0_3 l0_4)) else (haulagelaw08_SchemaSets.j0 k l1 l2 true a0_0 a0_1 a0_2 a0_3 l0_4))) else (haulagelaw08_SchemaSets.j0 k l1 l2 true a0_0 a0_1 a0_2 a0_3 l0_4))) = some r := by rw [if_pos rfl] at H; exact H
  clear H
  have H := H1
  clear H1
  have HC6 := aM H
  clear H
  go_enter Tryd.func7, Tryd.ntmps7
  go_upto_region 3 with (first | ((with_reducible refine gate_dst (N := 3) rfl ?_); (try (refine gate_guard (by rfl) ?_; dsimp only)); refine yX (N := 3) (cs := #[.int .i64 a0_0, .string a0_1, .int .i64 a0_2, .int .i64 a0_3, .slice A0_4 l0_4.length c0_4]) (t := 24) ?_; intro gb349 hg w7 hbox hb; have BK349 := aM (hbox); have GW349 := yZ hg (yB HB); have GE349 := yZ hg (yB HB); replace HB := aM (bP (yB HB) hb); clear hb hbox hg) | (go_at_call 19; (with_reducible refine (haulagelaw08_lives.calls k  true _ ?side1 A4.out).mono ?_); (case side1 => first | (with_reducible exact HG.out) | exact Glob.below HG.out (yG1 HB GE349.out)); rintro e w8 ⟨rfl, hb⟩; replace BK349 := aM (kB (yK BK349) hb); replace HB := aM (bP (yG1 HB GE349.out) hb); (try clear hb)))
  repeat (go_quiet (first | ((with_reducible refine gate_dst (N := 3) rfl ?_); (try (refine gate_guard (by rfl) ?_; dsimp only)); refine yX (N := 3) (cs := #[.int .i64 a0_0, .string a0_1, .int .i64 a0_2, .int .i64 a0_3, .slice A0_4 l0_4.length c0_4]) (t := 24) ?_; intro gb349 hg w7 hbox hb; have BK349 := aM (hbox); have GW349 := yZ hg (yB HB); have GE349 := yZ hg (yB HB); replace HB := aM (bP (yB HB) hb); clear hb hbox hg) | (go_at_call 19; (with_reducible refine (haulagelaw08_lives.calls k  true _ ?side1 A4.out).mono ?_); (case side1 => first | (with_reducible exact HG.out) | exact Glob.below HG.out (yG1 HB GE349.out)); rintro e w8 ⟨rfl, hb⟩; replace BK349 := aM (kB (yK BK349) hb); replace HB := aM (bP (yG1 HB GE349.out) hb); (try clear hb))); go_upto_region 3 with (first | ((with_reducible refine gate_dst (N := 3) rfl ?_); (try (refine gate_guard (by rfl) ?_; dsimp only)); refine yX (N := 3) (cs := #[.int .i64 a0_0, .string a0_1, .int .i64 a0_2, .int .i64 a0_3, .slice A0_4 l0_4.length c0_4]) (t := 24) ?_; intro gb349 hg w7 hbox hb; have BK349 := aM (hbox); have GW349 := yZ hg (yB HB); have GE349 := yZ hg (yB HB); replace HB := aM (bP (yB HB) hb); clear hb hbox hg) | (go_at_call 19; (with_reducible refine (haulagelaw08_lives.calls k  true _ ?side1 A4.out).mono ?_); (case side1 => first | (with_reducible exact HG.out) | exact Glob.below HG.out (yG1 HB GE349.out)); rintro e w8 ⟨rfl, hb⟩; replace BK349 := aM (kB (yK BK349) hb); replace HB := aM (bP (yG1 HB GE349.out) hb); (try clear hb))))
  (try simp only [Act.put, s1_, s2_, s3_])
  go_cut [28] (fun v28 wc => ∃ (kq : Nat) (x28_5 : Bool), v28 = .bool x28_5 ∧ Aside0 (haulagelaw08_SchemaSets.j0 kq l1 l2 x28_5 a0_0 a0_1 a0_2 a0_3 l0_4 = some r) ∧ Aside0 (kq ≤ k) ∧ Aside0 (wc.heap[gb349]? = some (.cells #[.int .i64 a0_0, .string a0_1, .int .i64 a0_2, .int .i64 a0_3, (.slice A0_4 l0_4.length c0_4)] 24 (0, 0))) ∧ Aside0 (Below w.heap.size w wc))
  case first =>
   have H := HC6.out
   clear HC6
   replace H := Option.bind_eq_some_iff.mp H
   obtain ⟨t351, A90, H⟩ := H
   replace H : (if t351 = true then ((haulagelaw08_FewValues.f k l1).bind fun t352 => (if t352 = true then ((haulagelaw08_FewFields.f k l2).bind fun t353 => (haulagelaw08_SchemaSets.j0 k l1 l2 (!t353) a0_0 a0_1 a0_2 a0_3 l0_4)) else (haulagelaw08_SchemaSets.j0 k l1 l2 true a0_0 a0_1 a0_2 a0_3 l0_4))) else (haulagelaw08_SchemaSets.j0 k l1 l2 true a0_0 a0_1 a0_2 a0_3 l0_4)) = some r := H
   have A9 := aM A90
   clear A90
   by_cases c10 : t351 = true
   ·
    subst c10
    have H1 : ((haulagelaw08_FewValues.f k l1).bind fun t352 => (if t352 = true then ((haulagelaw08_FewFields.f k l2).bind fun t353 => (haulagelaw08_SchemaSets.j0 k l1 l2 (!t353) a0_0 a0_1 a0_2 a0_3 l0_4)) else (haulagelaw08_SchemaSets.j0 k l1 l2 true a0_0 a0_1 a0_2 a0_3 l0_4))) = some r := by rw [if_pos rfl] at H; exact H
    clear H
    have H := H1
    clear H1
    replace H := Option.bind_eq_some_iff.mp H
    obtain ⟨t352, A110, H⟩ := H
    replace H : (if t352 = true then ((haulagelaw08_FewFields.f k l2).bind fun t353 => (haulagelaw08_SchemaSets.j0 k l1 l2 (!t353) a0_0 a0_1 a0_2 a0_3 l0_4)) else (haulagelaw08_SchemaSets.j0 k l1 l2 true a0_0 a0_1 a0_2 a0_3 l0_4)) = some r := H
    have A11 := aM A110
    clear A110
    by_cases c12 : t352 = true
    ·
     subst c12
     have H1 : ((haulagelaw08_FewFields.f k l2).bind fun t353 => (haulagelaw08_SchemaSets.j0 k l1 l2 (!t353) a0_0 a0_1 a0_2 a0_3 l0_4)) = some r := by rw [if_pos rfl] at H; exact H
     clear H
     have H := H1
     clear H1
     replace H := Option.bind_eq_some_iff.mp H
     obtain ⟨t353, A130, H⟩ := H
     replace H : (haulagelaw08_SchemaSets.j0 k l1 l2 (!t353) a0_0 a0_1 a0_2 a0_3 l0_4) = some r := H
     have A13 := aM A130
     clear A130
     have H' := aM H
     clear H
     obtain ⟨hcz14_0, hcz14_1, hcz14_2, hcz14_3, hcz14_4, hfz14_0, hfz14_1, hfz14_2, hfz14_3, hfz14_4⟩ := cells5 BK349.out
     go_wp2_with (first | (go_at_call 14; (with_reducible refine (haulagelaw08_Few.calls k a0_0 a0_1 a0_2 a0_3 _ _ l0_4 true _ ?side1 ?side2 A9.out).mono ?_); (case side1 => exact yW (Kd.C_below HR0_4.out HB.out)); (case side2 => exact HC0_4.out); rintro e w15 ⟨rfl, hb⟩; replace BK349 := aM (kB (yK BK349) hb); replace HB := aM (bP (yG1 HB GE349.out) hb); (try clear hb); (try clear hb2); (try clear hk); (try clear hi)) | (go_at_call 15; (with_reducible refine (haulagelaw08_FewValues.calls k _ _ l1 true _ ?side1 ?side2 A11.out).mono ?_); (case side1 => exact yW (Kd.C_below HR1.out HB.out)); (case side2 => exact HC1.out); rintro e w' ⟨rfl, ⟨nd, rfl⟩⟩; (try first | exact ⟨rfl, _, World.drewN_drewN _ _ _⟩ | exact ⟨rfl, _, Eq.trans (World.drewN_drewN _ _ _) (congrArg (World.drewN _) (Nat.add_assoc _ _ _))⟩)) | (go_at_call 20; (with_reducible refine (haulagelaw08_FewFields.calls k _ _ l2 t353 _ ?side1 ?side2 A13.out).mono ?_); (case side1 => repeat (first | exact (Kd.C_below HR2.out (yG1 HB GE349.out)) | (with_reducible refine Kd.C_alloc ?_ _) | (with_reducible refine Kd.C_drewN ?_ _) | (with_reducible refine Kd.C_drew ?_))); (case side2 => exact HC2.out); rintro e w' ⟨rfl, ⟨nd, rfl⟩⟩; (try first | exact ⟨rfl, _, World.drewN_drewN _ _ _⟩ | exact ⟨rfl, _, Eq.trans (World.drewN_drewN _ _ _) (congrArg (World.drewN _) (Nat.add_assoc _ _ _))⟩)))
     repeat (go_quiet (first | (go_at_call 14; (with_reducible refine (haulagelaw08_Few.calls k a0_0 a0_1 a0_2 a0_3 _ _ l0_4 true _ ?side1 ?side2 A9.out).mono ?_); (case side1 => exact yW (Kd.C_below HR0_4.out HB.out)); (case side2 => exact HC0_4.out); rintro e w15 ⟨rfl, hb⟩; replace BK349 := aM (kB (yK BK349) hb); replace HB := aM (bP (yG1 HB GE349.out) hb); (try clear hb); (try clear hb2); (try clear hk); (try clear hi)) | (go_at_call 15; (with_reducible refine (haulagelaw08_FewValues.calls k _ _ l1 true _ ?side1 ?side2 A11.out).mono ?_); (case side1 => exact yW (Kd.C_below HR1.out HB.out)); (case side2 => exact HC1.out); rintro e w' ⟨rfl, ⟨nd, rfl⟩⟩; (try first | exact ⟨rfl, _, World.drewN_drewN _ _ _⟩ | exact ⟨rfl, _, Eq.trans (World.drewN_drewN _ _ _) (congrArg (World.drewN _) (Nat.add_assoc _ _ _))⟩)) | (go_at_call 20; (with_reducible refine (haulagelaw08_FewFields.calls k _ _ l2 t353 _ ?side1 ?side2 A13.out).mono ?_); (case side1 => repeat (first | exact (Kd.C_below HR2.out (yG1 HB GE349.out)) | (with_reducible refine Kd.C_alloc ?_ _) | (with_reducible refine Kd.C_drewN ?_ _) | (with_reducible refine Kd.C_drew ?_))); (case side2 => exact HC2.out); rintro e w' ⟨rfl, ⟨nd, rfl⟩⟩; (try first | exact ⟨rfl, _, World.drewN_drewN _ _ _⟩ | exact ⟨rfl, _, Eq.trans (World.drewN_drewN _ _ _) (congrArg (World.drewN _) (Nat.add_assoc _ _ _))⟩))); try go_wp2_with (first | (go_at_call 14; (with_reducible refine (haulagelaw08_Few.calls k a0_0 a0_1 a0_2 a0_3 _ _ l0_4 true _ ?side1 ?side2 A9.out).mono ?_); (case side1 => exact yW (Kd.C_below HR0_4.out HB.out)); (case side2 => exact HC0_4.out); rintro e w15 ⟨rfl, hb⟩; replace BK349 := aM (kB (yK BK349) hb); replace HB := aM (bP (yG1 HB GE349.out) hb); (try clear hb); (try clear hb2); (try clear hk); (try clear hi)) | (go_at_call 15; (with_reducible refine (haulagelaw08_FewValues.calls k _ _ l1 true _ ?side1 ?side2 A11.out).mono ?_); (case side1 => exact yW (Kd.C_below HR1.out HB.out)); (case side2 => exact HC1.out); rintro e w' ⟨rfl, ⟨nd, rfl⟩⟩; (try first | exact ⟨rfl, _, World.drewN_drewN _ _ _⟩ | exact ⟨rfl, _, Eq.trans (World.drewN_drewN _ _ _) (congrArg (World.drewN _) (Nat.add_assoc _ _ _))⟩)) | (go_at_call 20; (with_reducible refine (haulagelaw08_FewFields.calls k _ _ l2 t353 _ ?side1 ?side2 A13.out).mono ?_); (case side1 => repeat (first | exact (Kd.C_below HR2.out (yG1 HB GE349.out)) | (with_reducible refine Kd.C_alloc ?_ _) | (with_reducible refine Kd.C_drewN ?_ _) | (with_reducible refine Kd.C_drew ?_))); (case side2 => exact HC2.out); rintro e w' ⟨rfl, ⟨nd, rfl⟩⟩; (try first | exact ⟨rfl, _, World.drewN_drewN _ _ _⟩ | exact ⟨rfl, _, Eq.trans (World.drewN_drewN _ _ _) (congrArg (World.drewN _) (Nat.add_assoc _ _ _))⟩))))
     go_meet
     case rel => exact ⟨_, (!t353), yS, H', ⟨yO⟩, ⟨yK BK349⟩, ⟨yG1 HB GE349.out⟩⟩
    ·
     replace c12 := Bool.eq_false_iff.mpr c12
     subst c12
     have H1 : (haulagelaw08_SchemaSets.j0 k l1 l2 true a0_0 a0_1 a0_2 a0_3 l0_4) = some r := by rw [if_neg (show ¬ (false = true) by decide)] at H; exact H
     clear H
     have H := H1
     clear H1
     have H' := aM H
     clear H
     obtain ⟨hcz16_0, hcz16_1, hcz16_2, hcz16_3, hcz16_4, hfz16_0, hfz16_1, hfz16_2, hfz16_3, hfz16_4⟩ := cells5 BK349.out
     go_wp2_with (first | (go_at_call 14; (with_reducible refine (haulagelaw08_Few.calls k a0_0 a0_1 a0_2 a0_3 _ _ l0_4 true _ ?side1 ?side2 A9.out).mono ?_); (case side1 => exact yW (Kd.C_below HR0_4.out HB.out)); (case side2 => exact HC0_4.out); rintro e w17 ⟨rfl, hb⟩; replace BK349 := aM (kB (yK BK349) hb); replace HB := aM (bP (yG1 HB GE349.out) hb); (try clear hb); (try clear hb2); (try clear hk); (try clear hi)) | (go_at_call 15; (with_reducible refine (haulagelaw08_FewValues.calls k _ _ l1 false _ ?side1 ?side2 A11.out).mono ?_); (case side1 => exact yW (Kd.C_below HR1.out HB.out)); (case side2 => exact HC1.out); rintro e w' ⟨rfl, ⟨nd, rfl⟩⟩; (try first | exact ⟨rfl, _, World.drewN_drewN _ _ _⟩ | exact ⟨rfl, _, Eq.trans (World.drewN_drewN _ _ _) (congrArg (World.drewN _) (Nat.add_assoc _ _ _))⟩)))
     repeat (go_quiet (first | (go_at_call 14; (with_reducible refine (haulagelaw08_Few.calls k a0_0 a0_1 a0_2 a0_3 _ _ l0_4 true _ ?side1 ?side2 A9.out).mono ?_); (case side1 => exact yW (Kd.C_below HR0_4.out HB.out)); (case side2 => exact HC0_4.out); rintro e w17 ⟨rfl, hb⟩; replace BK349 := aM (kB (yK BK349) hb); replace HB := aM (bP (yG1 HB GE349.out) hb); (try clear hb); (try clear hb2); (try clear hk); (try clear hi)) | (go_at_call 15; (with_reducible refine (haulagelaw08_FewValues.calls k _ _ l1 false _ ?side1 ?side2 A11.out).mono ?_); (case side1 => exact yW (Kd.C_below HR1.out HB.out)); (case side2 => exact HC1.out); rintro e w' ⟨rfl, ⟨nd, rfl⟩⟩; (try first | exact ⟨rfl, _, World.drewN_drewN _ _ _⟩ | exact ⟨rfl, _, Eq.trans (World.drewN_drewN _ _ _) (congrArg (World.drewN _) (Nat.add_assoc _ _ _))⟩))); try go_wp2_with (first | (go_at_call 14; (with_reducible refine (haulagelaw08_Few.calls k a0_0 a0_1 a0_2 a0_3 _ _ l0_4 true _ ?side1 ?side2 A9.out).mono ?_); (case side1 => exact yW (Kd.C_below HR0_4.out HB.out)); (case side2 => exact HC0_4.out); rintro e w17 ⟨rfl, hb⟩; replace BK349 := aM (kB (yK BK349) hb); replace HB := aM (bP (yG1 HB GE349.out) hb); (try clear hb); (try clear hb2); (try clear hk); (try clear hi)) | (go_at_call 15; (with_reducible refine (haulagelaw08_FewValues.calls k _ _ l1 false _ ?side1 ?side2 A11.out).mono ?_); (case side1 => exact yW (Kd.C_below HR1.out HB.out)); (case side2 => exact HC1.out); rintro e w' ⟨rfl, ⟨nd, rfl⟩⟩; (try first | exact ⟨rfl, _, World.drewN_drewN _ _ _⟩ | exact ⟨rfl, _, Eq.trans (World.drewN_drewN _ _ _) (congrArg (World.drewN _) (Nat.add_assoc _ _ _))⟩))))
     go_meet
     case rel => exact ⟨_, (true), yS, H', ⟨yO⟩, ⟨yK BK349⟩, ⟨yG1 HB GE349.out⟩⟩
   ·
    replace c10 := Bool.eq_false_iff.mpr c10
    subst c10
    have H1 : (haulagelaw08_SchemaSets.j0 k l1 l2 true a0_0 a0_1 a0_2 a0_3 l0_4) = some r := by rw [if_neg (show ¬ (false = true) by decide)] at H; exact H
    clear H
    have H := H1
    clear H1
    have H' := aM H
    clear H
    obtain ⟨hcz18_0, hcz18_1, hcz18_2, hcz18_3, hcz18_4, hfz18_0, hfz18_1, hfz18_2, hfz18_3, hfz18_4⟩ := cells5 BK349.out
    go_wp2_with (first | (go_at_call 14; (with_reducible refine (haulagelaw08_Few.calls k a0_0 a0_1 a0_2 a0_3 _ _ l0_4 false _ ?side1 ?side2 A9.out).mono ?_); (case side1 => exact yW (Kd.C_below HR0_4.out HB.out)); (case side2 => exact HC0_4.out); rintro e w19 ⟨rfl, hb⟩; replace BK349 := aM (kB (yK BK349) hb); replace HB := aM (bP (yG1 HB GE349.out) hb); (try clear hb); (try clear hb2); (try clear hk); (try clear hi)))
    repeat (go_quiet (first | (go_at_call 14; (with_reducible refine (haulagelaw08_Few.calls k a0_0 a0_1 a0_2 a0_3 _ _ l0_4 false _ ?side1 ?side2 A9.out).mono ?_); (case side1 => exact yW (Kd.C_below HR0_4.out HB.out)); (case side2 => exact HC0_4.out); rintro e w19 ⟨rfl, hb⟩; replace BK349 := aM (kB (yK BK349) hb); replace HB := aM (bP (yG1 HB GE349.out) hb); (try clear hb); (try clear hb2); (try clear hk); (try clear hi))); try go_wp2_with (first | (go_at_call 14; (with_reducible refine (haulagelaw08_Few.calls k a0_0 a0_1 a0_2 a0_3 _ _ l0_4 false _ ?side1 ?side2 A9.out).mono ?_); (case side1 => exact yW (Kd.C_below HR0_4.out HB.out)); (case side2 => exact HC0_4.out); rintro e w19 ⟨rfl, hb⟩; replace BK349 := aM (kB (yK BK349) hb); replace HB := aM (bP (yG1 HB GE349.out) hb); (try clear hb); (try clear hb2); (try clear hk); (try clear hi))))
    go_meet
    case rel => exact ⟨_, (true), yS, H', ⟨yO⟩, ⟨yK BK349⟩, ⟨yG1 HB GE349.out⟩⟩
  case rest =>
   clear HC6
   try clear c1
   try clear c2
   try clear p2
   try clear c5
   try clear c7
   try clear c10
   try clear c12
   try clear hcz14_0 hcz14_1 hcz14_2 hcz14_3 hcz14_4
   try clear hcz16_0 hcz16_1 hcz16_2 hcz16_3 hcz16_4
   try clear hcz18_0 hcz18_1 hcz18_2 hcz18_3 hcz18_4
   try clear hfz14_0 hfz14_1 hfz14_2 hfz14_3 hfz14_4
   try clear hfz16_0 hfz16_1 hfz16_2 hfz16_3 hfz16_4
   try clear hfz18_0 hfz18_1 hfz18_2 hfz18_3 hfz18_4
   obtain ⟨kq, x28_5, rfl, HA, HJ5, BK349, HB⟩ := hcut
   cases kq with
   | zero => exact absurd HA.out (by simp [haulagelaw08_SchemaSets.j0])
   | succ kj5 =>
    have H := HA.out
    clear HA
    simp only [haulagelaw08_SchemaSets.j0] at H
    by_cases c20 : x28_5 = true
    ·
     subst c20
     have H1 : (some true) = some r := by rw [if_pos rfl] at H; exact H
     clear H
     have H := H1
     clear H1
     obtain rfl := Option.some.inj H
     go_wp2
     repeat (go_quiet (fail); try go_wp2)
     go_ret
     exact ⟨yE, yG1 HB GE349.out⟩
    ·
     replace c20 := Bool.eq_false_iff.mpr c20
     subst c20
     have H1 : ((some (([] : List (S52)) : List (S52))).bind fun y354 => (if y354.length + l1.length < 4398046511104 then ((schema_Set.f kj5 a0_0 a0_1 a0_2 a0_3 l0_4 l1 l2).bind fun bt360 => ((haulageref08_Set.f kj5 a0_0 a0_1 a0_2 a0_3 l0_4 l1 l2).bind fun bt364 => ((haulageref08_SameRow.f kj5 bt360.1 bt364.1).bind fun t368 => (if t368 = true then (if bt360.2 = bt364.2 then ((haulageref08_SameRow.f kj5 (y354 ++ l1) l1).bind fun t369 => (haulagelaw08_SchemaSets.j1 kj5 l1 bt360.1 bt360.2 (!t369) a0_0 a0_1 a0_2 a0_3 l0_4)) else (haulagelaw08_SchemaSets.j1 kj5 l1 bt360.1 bt360.2 true a0_0 a0_1 a0_2 a0_3 l0_4)) else (haulagelaw08_SchemaSets.j1 kj5 l1 bt360.1 bt360.2 true a0_0 a0_1 a0_2 a0_3 l0_4))))) else (none))) = some r := by rw [if_neg (show ¬ (false = true) by decide)] at H; exact H
     clear H
     have H := H1
     clear H1
     obtain ⟨y354, hy354⟩ : ∃ y_ : List (S52), y_ = (([] : List (S52))) := ⟨_, rfl⟩
     replace H : (if y354.length + l1.length < 4398046511104 then ((schema_Set.f kj5 a0_0 a0_1 a0_2 a0_3 l0_4 l1 l2).bind fun bt360 => ((haulageref08_Set.f kj5 a0_0 a0_1 a0_2 a0_3 l0_4 l1 l2).bind fun bt364 => ((haulageref08_SameRow.f kj5 bt360.1 bt364.1).bind fun t368 => (if t368 = true then (if bt360.2 = bt364.2 then ((haulageref08_SameRow.f kj5 (y354 ++ l1) l1).bind fun t369 => (haulagelaw08_SchemaSets.j1 kj5 l1 bt360.1 bt360.2 (!t369) a0_0 a0_1 a0_2 a0_3 l0_4)) else (haulagelaw08_SchemaSets.j1 kj5 l1 bt360.1 bt360.2 true a0_0 a0_1 a0_2 a0_3 l0_4)) else (haulagelaw08_SchemaSets.j1 kj5 l1 bt360.1 bt360.2 true a0_0 a0_1 a0_2 a0_3 l0_4))))) else (none)) = some r := by first | (rw [hy354]; with_reducible exact H) | (have H2_ := (Option.bind_some _ _).symm.trans H; rw [hy354]; with_reducible exact H2_) | (have H2_ := (Option.bind_some _ _).symm.trans H; with_reducible exact H2_) | with_reducible exact H | (rw [hy354]; exact H) | exact H
     have Ny354 := aM hy354
     clear hy354
     by_cases c21 : y354.length + l1.length < 4398046511104
     ·
      rw [if_pos c21] at H
      have LMc21 := aM c21
      clear c21
      obtain ⟨y357, hy357⟩ : ∃ y_ : List (S52), y_ = (y354 ++ l1) := ⟨_, rfl⟩
      replace H : ((schema_Set.f kj5 a0_0 a0_1 a0_2 a0_3 l0_4 l1 l2).bind fun bt360 => ((haulageref08_Set.f kj5 a0_0 a0_1 a0_2 a0_3 l0_4 l1 l2).bind fun bt364 => ((haulageref08_SameRow.f kj5 bt360.1 bt364.1).bind fun t368 => (if t368 = true then (if bt360.2 = bt364.2 then ((haulageref08_SameRow.f kj5 y357 l1).bind fun t369 => (haulagelaw08_SchemaSets.j1 kj5 l1 bt360.1 bt360.2 (!t369) a0_0 a0_1 a0_2 a0_3 l0_4)) else (haulagelaw08_SchemaSets.j1 kj5 l1 bt360.1 bt360.2 true a0_0 a0_1 a0_2 a0_3 l0_4)) else (haulagelaw08_SchemaSets.j1 kj5 l1 bt360.1 bt360.2 true a0_0 a0_1 a0_2 a0_3 l0_4))))) = some r := by first | (rw [hy357]; with_reducible exact H) | (have H2_ := (Option.bind_some _ _).symm.trans H; rw [hy357]; with_reducible exact H2_) | (have H2_ := (Option.bind_some _ _).symm.trans H; with_reducible exact H2_) | with_reducible exact H | (rw [hy357]; exact H) | exact H
      have Ny357 := aM hy357
      clear hy357
      replace H := Option.bind_eq_some_iff.mp H
      obtain ⟨⟨t360, t363⟩, A220, H⟩ := H
      replace H : ((haulageref08_Set.f kj5 a0_0 a0_1 a0_2 a0_3 l0_4 l1 l2).bind fun bt364 => ((haulageref08_SameRow.f kj5 t360 bt364.1).bind fun t368 => (if t368 = true then (if t363 = bt364.2 then ((haulageref08_SameRow.f kj5 y357 l1).bind fun t369 => (haulagelaw08_SchemaSets.j1 kj5 l1 t360 t363 (!t369) a0_0 a0_1 a0_2 a0_3 l0_4)) else (haulagelaw08_SchemaSets.j1 kj5 l1 t360 t363 true a0_0 a0_1 a0_2 a0_3 l0_4)) else (haulagelaw08_SchemaSets.j1 kj5 l1 t360 t363 true a0_0 a0_1 a0_2 a0_3 l0_4)))) = some r := H
      have A22 := aM A220
      clear A220
      replace H := Option.bind_eq_some_iff.mp H
      obtain ⟨⟨t364, t367⟩, A230, H⟩ := H
      replace H : ((haulageref08_SameRow.f kj5 t360 t364).bind fun t368 => (if t368 = true then (if t363 = t367 then ((haulageref08_SameRow.f kj5 y357 l1).bind fun t369 => (haulagelaw08_SchemaSets.j1 kj5 l1 t360 t363 (!t369) a0_0 a0_1 a0_2 a0_3 l0_4)) else (haulagelaw08_SchemaSets.j1 kj5 l1 t360 t363 true a0_0 a0_1 a0_2 a0_3 l0_4)) else (haulagelaw08_SchemaSets.j1 kj5 l1 t360 t363 true a0_0 a0_1 a0_2 a0_3 l0_4))) = some r := H
      have A23 := aM A230
      clear A230
      have HC24 := aM H
      clear H
      go_upto_region 8 with (first | ((with_reducible refine gate_dst (N := 29) rfl ?_); (try (refine gate_guard (by rfl) ?_; dsimp only)); refine Kd.R_lit k52 _ 52 ?hg (N := 29) ?hd (xs := ([] : List (S52))) (inner := []) (ok := fun _ => True) (okp := fun _ => True) ?hr ?hp (fun _ hk => hk) trivial (Below.refl _ _) (Nat.le_refl _) (by simp) ?_; (case hd => rfl); (case hg => rfl); (case hr => first | (go_simp; done) | (go_simp; rfl)); (case hp => exact (Reps.none _ _)); intro v355 w25 ho26 hb hg_ hnew_; clear hg_ hnew_; (first | rw [← Ny354.out] at ho26 | (simp only [Int.reduceToNat] at ho26; rw [← Ny354.out] at ho26)); have HO356 := aM (Kd.R_lower ho26 (bZ (yG1 HB GE349.out))); replace BK349 := aM (kB (yK BK349) hb); replace HB := aM (bP (yG1 HB GE349.out) hb); clear hb ho26) | ((with_reducible refine gate_builtin (b := .append) (xs := #[.tmp 29, .tmp 30]) rfl ?_); (try (refine gate_guard (by rfl) ?_; dsimp only)); at_builtin; refine Kd.R_append_rows k52 (w0 := w) w.heap.size rfl (.tmp 29) (.tmp 30) 25 52 (.agg #[(.int .i64 0), (.int .i64 0), (.string ⟨#[]⟩)]) 32 rfl Tryd.underlying25 info52 rfl (by decide) (by omega) v355 y354 l1 _ _ _ (fun _ => True) (fun _ => False) rfl rfl ?aO ?aR (fun _ _ h => h) (fun _ h => h.elim) ?aF ?aB ?aS ?aL ?_; (case aR => exact yW (Kd.C_below HR1.out HB.out)); (case aB => exact (yG1 HB GE349.out)); (case aF => exact (fun _ _ => trivial)); (case aO => exact (yR HO356.out)); (case aS => exact (bZ (yG1 HB GE349.out))); (case aL => have := LMc21.out; omega); intro v358 w27 ho hb hg hat; rw [← Ny357.out] at ho; have n0_ := aM (blk_grown (g := gb349) (o := .cells #[.int .i64 a0_0, .string a0_1, .int .i64 a0_2, .int .i64 a0_3, .slice A0_4 l0_4.length c0_4] 24 (0, 0)) (yK BK349) hg (Kd.R_ne HO356.out BK349.out (by decide))); have n1_ := aM (hb); have n2_ := aM (ho); clear BK349; clear HB; clear HO356; have BK349 := n0_; have HB := n1_; have HO359 := n2_; clear n0_ n1_ n2_; clear ho hb hg hat; obtain ⟨hcz28_0, hcz28_1, hcz28_2, hcz28_3, hcz28_4, hfz28_0, hfz28_1, hfz28_2, hfz28_3, hfz28_4⟩ := cells5 BK349.out) | (go_at_call 35; (with_reducible refine (schema_Set.calls kj5 a0_0 a0_1 a0_2 a0_3 _ _ l0_4 _ _ l1 _ _ l2 t360 t363 _ ?side1 ?side2 ?side3 ?side4 ?side5 ?side6 ?side7 A22.out).mono ?_); (case side1 => exact yW (Kd.C_below HR0_4.out HB.out)); (case side2 => exact HC0_4.out); (case side3 => exact yW (Kd.C_below HR1.out HB.out)); (case side4 => exact HC1.out); (case side5 => exact yW (Kd.C_below HR2.out HB.out)); (case side6 => exact HC2.out); (case side7 => first | (with_reducible exact HG.out) | exact Glob.below HG.out (yG1 HB GE349.out)); rintro e w29 ⟨v361, rfl, ho0, hb⟩; have HO362 := aM (Kd.R_lower (Kd.R_new' ho0 (Kd.R_lt (yR HO359.out))) (bZ (yG1 HB GE349.out))); replace HO359 := aM (Kd.R_elder' (yR HO359.out) (Kd.R_base ho0) hb); replace BK349 := aM (kB (yK BK349) hb); replace HB := aM (bP (yG1 HB GE349.out) hb); (try clear hb); (try clear ho0); obtain ⟨hcz30_0, hcz30_1, hcz30_2, hcz30_3, hcz30_4, hfz30_0, hfz30_1, hfz30_2, hfz30_3, hfz30_4⟩ := cells5 BK349.out) | (go_at_call 36; (with_reducible refine (haulageref08_Set.calls kj5 a0_0 a0_1 a0_2 a0_3 _ _ l0_4 _ _ l1 _ _ l2 t364 t367 _ ?side1 ?side2 ?side3 ?side4 ?side5 ?side6 A23.out).mono ?_); (case side1 => exact yW (Kd.C_below HR0_4.out HB.out)); (case side2 => exact HC0_4.out); (case side3 => exact yW (Kd.C_below HR1.out HB.out)); (case side4 => exact HC1.out); (case side5 => exact yW (Kd.C_below HR2.out HB.out)); (case side6 => exact HC2.out); rintro e w31 ⟨v365, rfl, ho0, hb⟩; have HO366 := aM (Kd.R_lower (Kd.R_new' (Kd.R_new' ho0 (Kd.R_lt (yR HO359.out))) (Kd.R_lt (yR HO362.out))) (bZ (yG1 HB GE349.out))); replace HO359 := aM (Kd.R_elder' (yR HO359.out) (Kd.R_base ho0) hb); replace HO362 := aM (Kd.R_elder' (yR HO362.out) (Kd.R_base ho0) hb); replace BK349 := aM (kB (yK BK349) hb); replace HB := aM (bP (yG1 HB GE349.out) hb); (try clear hb); (try clear ho0)))
      repeat (go_quiet (first | ((with_reducible refine gate_dst (N := 29) rfl ?_); (try (refine gate_guard (by rfl) ?_; dsimp only)); refine Kd.R_lit k52 _ 52 ?hg (N := 29) ?hd (xs := ([] : List (S52))) (inner := []) (ok := fun _ => True) (okp := fun _ => True) ?hr ?hp (fun _ hk => hk) trivial (Below.refl _ _) (Nat.le_refl _) (by simp) ?_; (case hd => rfl); (case hg => rfl); (case hr => first | (go_simp; done) | (go_simp; rfl)); (case hp => exact (Reps.none _ _)); intro v355 w25 ho26 hb hg_ hnew_; clear hg_ hnew_; (first | rw [← Ny354.out] at ho26 | (simp only [Int.reduceToNat] at ho26; rw [← Ny354.out] at ho26)); have HO356 := aM (Kd.R_lower ho26 (bZ (yG1 HB GE349.out))); replace BK349 := aM (kB (yK BK349) hb); replace HB := aM (bP (yG1 HB GE349.out) hb); clear hb ho26) | ((with_reducible refine gate_builtin (b := .append) (xs := #[.tmp 29, .tmp 30]) rfl ?_); (try (refine gate_guard (by rfl) ?_; dsimp only)); at_builtin; refine Kd.R_append_rows k52 (w0 := w) w.heap.size rfl (.tmp 29) (.tmp 30) 25 52 (.agg #[(.int .i64 0), (.int .i64 0), (.string ⟨#[]⟩)]) 32 rfl Tryd.underlying25 info52 rfl (by decide) (by omega) v355 y354 l1 _ _ _ (fun _ => True) (fun _ => False) rfl rfl ?aO ?aR (fun _ _ h => h) (fun _ h => h.elim) ?aF ?aB ?aS ?aL ?_; (case aR => exact yW (Kd.C_below HR1.out HB.out)); (case aB => exact (yG1 HB GE349.out)); (case aF => exact (fun _ _ => trivial)); (case aO => exact (yR HO356.out)); (case aS => exact (bZ (yG1 HB GE349.out))); (case aL => have := LMc21.out; omega); intro v358 w27 ho hb hg hat; rw [← Ny357.out] at ho; have n0_ := aM (blk_grown (g := gb349) (o := .cells #[.int .i64 a0_0, .string a0_1, .int .i64 a0_2, .int .i64 a0_3, .slice A0_4 l0_4.length c0_4] 24 (0, 0)) (yK BK349) hg (Kd.R_ne HO356.out BK349.out (by decide))); have n1_ := aM (hb); have n2_ := aM (ho); clear BK349; clear HB; clear HO356; have BK349 := n0_; have HB := n1_; have HO359 := n2_; clear n0_ n1_ n2_; clear ho hb hg hat; obtain ⟨hcz28_0, hcz28_1, hcz28_2, hcz28_3, hcz28_4, hfz28_0, hfz28_1, hfz28_2, hfz28_3, hfz28_4⟩ := cells5 BK349.out) | (go_at_call 35; (with_reducible refine (schema_Set.calls kj5 a0_0 a0_1 a0_2 a0_3 _ _ l0_4 _ _ l1 _ _ l2 t360 t363 _ ?side1 ?side2 ?side3 ?side4 ?side5 ?side6 ?side7 A22.out).mono ?_); (case side1 => exact yW (Kd.C_below HR0_4.out HB.out)); (case side2 => exact HC0_4.out); (case side3 => exact yW (Kd.C_below HR1.out HB.out)); (case side4 => exact HC1.out); (case side5 => exact yW (Kd.C_below HR2.out HB.out)); (case side6 => exact HC2.out); (case side7 => first | (with_reducible exact HG.out) | exact Glob.below HG.out (yG1 HB GE349.out)); rintro e w29 ⟨v361, rfl, ho0, hb⟩; have HO362 := aM (Kd.R_lower (Kd.R_new' ho0 (Kd.R_lt (yR HO359.out))) (bZ (yG1 HB GE349.out))); replace HO359 := aM (Kd.R_elder' (yR HO359.out) (Kd.R_base ho0) hb); replace BK349 := aM (kB (yK BK349) hb); replace HB := aM (bP (yG1 HB GE349.out) hb); (try clear hb); (try clear ho0); obtain ⟨hcz30_0, hcz30_1, hcz30_2, hcz30_3, hcz30_4, hfz30_0, hfz30_1, hfz30_2, hfz30_3, hfz30_4⟩ := cells5 BK349.out) | (go_at_call 36; (with_reducible refine (haulageref08_Set.calls kj5 a0_0 a0_1 a0_2 a0_3 _ _ l0_4 _ _ l1 _ _ l2 t364 t367 _ ?side1 ?side2 ?side3 ?side4 ?side5 ?side6 A23.out).mono ?_); (case side1 => exact yW (Kd.C_below HR0_4.out HB.out)); (case side2 => exact HC0_4.out); (case side3 => exact yW (Kd.C_below HR1.out HB.out)); (case side4 => exact HC1.out); (case side5 => exact yW (Kd.C_below HR2.out HB.out)); (case side6 => exact HC2.out); rintro e w31 ⟨v365, rfl, ho0, hb⟩; have HO366 := aM (Kd.R_lower (Kd.R_new' (Kd.R_new' ho0 (Kd.R_lt (yR HO359.out))) (Kd.R_lt (yR HO362.out))) (bZ (yG1 HB GE349.out))); replace HO359 := aM (Kd.R_elder' (yR HO359.out) (Kd.R_base ho0) hb); replace HO362 := aM (Kd.R_elder' (yR HO362.out) (Kd.R_base ho0) hb); replace BK349 := aM (kB (yK BK349) hb); replace HB := aM (bP (yG1 HB GE349.out) hb); (try clear hb); (try clear ho0))); go_upto_region 8 with (first | ((with_reducible refine gate_dst (N := 29) rfl ?_); (try (refine gate_guard (by rfl) ?_; dsimp only)); refine Kd.R_lit k52 _ 52 ?hg (N := 29) ?hd (xs := ([] : List (S52))) (inner := []) (ok := fun _ => True) (okp := fun _ => True) ?hr ?hp (fun _ hk => hk) trivial (Below.refl _ _) (Nat.le_refl _) (by simp) ?_; (case hd => rfl); (case hg => rfl); (case hr => first | (go_simp; done) | (go_simp; rfl)); (case hp => exact (Reps.none _ _)); intro v355 w25 ho26 hb hg_ hnew_; clear hg_ hnew_; (first | rw [← Ny354.out] at ho26 | (simp only [Int.reduceToNat] at ho26; rw [← Ny354.out] at ho26)); have HO356 := aM (Kd.R_lower ho26 (bZ (yG1 HB GE349.out))); replace BK349 := aM (kB (yK BK349) hb); replace HB := aM (bP (yG1 HB GE349.out) hb); clear hb ho26) | ((with_reducible refine gate_builtin (b := .append) (xs := #[.tmp 29, .tmp 30]) rfl ?_); (try (refine gate_guard (by rfl) ?_; dsimp only)); at_builtin; refine Kd.R_append_rows k52 (w0 := w) w.heap.size rfl (.tmp 29) (.tmp 30) 25 52 (.agg #[(.int .i64 0), (.int .i64 0), (.string ⟨#[]⟩)]) 32 rfl Tryd.underlying25 info52 rfl (by decide) (by omega) v355 y354 l1 _ _ _ (fun _ => True) (fun _ => False) rfl rfl ?aO ?aR (fun _ _ h => h) (fun _ h => h.elim) ?aF ?aB ?aS ?aL ?_; (case aR => exact yW (Kd.C_below HR1.out HB.out)); (case aB => exact (yG1 HB GE349.out)); (case aF => exact (fun _ _ => trivial)); (case aO => exact (yR HO356.out)); (case aS => exact (bZ (yG1 HB GE349.out))); (case aL => have := LMc21.out; omega); intro v358 w27 ho hb hg hat; rw [← Ny357.out] at ho; have n0_ := aM (blk_grown (g := gb349) (o := .cells #[.int .i64 a0_0, .string a0_1, .int .i64 a0_2, .int .i64 a0_3, .slice A0_4 l0_4.length c0_4] 24 (0, 0)) (yK BK349) hg (Kd.R_ne HO356.out BK349.out (by decide))); have n1_ := aM (hb); have n2_ := aM (ho); clear BK349; clear HB; clear HO356; have BK349 := n0_; have HB := n1_; have HO359 := n2_; clear n0_ n1_ n2_; clear ho hb hg hat; obtain ⟨hcz28_0, hcz28_1, hcz28_2, hcz28_3, hcz28_4, hfz28_0, hfz28_1, hfz28_2, hfz28_3, hfz28_4⟩ := cells5 BK349.out) | (go_at_call 35; (with_reducible refine (schema_Set.calls kj5 a0_0 a0_1 a0_2 a0_3 _ _ l0_4 _ _ l1 _ _ l2 t360 t363 _ ?side1 ?side2 ?side3 ?side4 ?side5 ?side6 ?side7 A22.out).mono ?_); (case side1 => exact yW (Kd.C_below HR0_4.out HB.out)); (case side2 => exact HC0_4.out); (case side3 => exact yW (Kd.C_below HR1.out HB.out)); (case side4 => exact HC1.out); (case side5 => exact yW (Kd.C_below HR2.out HB.out)); (case side6 => exact HC2.out); (case side7 => first | (with_reducible exact HG.out) | exact Glob.below HG.out (yG1 HB GE349.out)); rintro e w29 ⟨v361, rfl, ho0, hb⟩; have HO362 := aM (Kd.R_lower (Kd.R_new' ho0 (Kd.R_lt (yR HO359.out))) (bZ (yG1 HB GE349.out))); replace HO359 := aM (Kd.R_elder' (yR HO359.out) (Kd.R_base ho0) hb); replace BK349 := aM (kB (yK BK349) hb); replace HB := aM (bP (yG1 HB GE349.out) hb); (try clear hb); (try clear ho0); obtain ⟨hcz30_0, hcz30_1, hcz30_2, hcz30_3, hcz30_4, hfz30_0, hfz30_1, hfz30_2, hfz30_3, hfz30_4⟩ := cells5 BK349.out) | (go_at_call 36; (with_reducible refine (haulageref08_Set.calls kj5 a0_0 a0_1 a0_2 a0_3 _ _ l0_4 _ _ l1 _ _ l2 t364 t367 _ ?side1 ?side2 ?side3 ?side4 ?side5 ?side6 A23.out).mono ?_); (case side1 => exact yW (Kd.C_below HR0_4.out HB.out)); (case side2 => exact HC0_4.out); (case side3 => exact yW (Kd.C_below HR1.out HB.out)); (case side4 => exact HC1.out); (case side5 => exact yW (Kd.C_below HR2.out HB.out)); (case side6 => exact HC2.out); rintro e w31 ⟨v365, rfl, ho0, hb⟩; have HO366 := aM (Kd.R_lower (Kd.R_new' (Kd.R_new' ho0 (Kd.R_lt (yR HO359.out))) (Kd.R_lt (yR HO362.out))) (bZ (yG1 HB GE349.out))); replace HO359 := aM (Kd.R_elder' (yR HO359.out) (Kd.R_base ho0) hb); replace HO362 := aM (Kd.R_elder' (yR HO362.out) (Kd.R_base ho0) hb); replace BK349 := aM (kB (yK BK349) hb); replace HB := aM (bP (yG1 HB GE349.out) hb); (try clear hb); (try clear ho0))))
      (try simp only [Act.put, s1_, s2_, s3_])
      go_cut [60] (fun v60 wc => ∃ (kq : Nat) (x60_23 : Bool), v60 = .bool x60_23 ∧ Aside0 (haulagelaw08_SchemaSets.j1 kq l1 t360 t363 x60_23 a0_0 a0_1 a0_2 a0_3 l0_4 = some r) ∧ Aside0 (kq ≤ kj5) ∧ Aside0 (Kd.R k52 52 wc w.heap.size (fun _ => True) v361 t360) ∧ Aside0 (wc.heap[gb349]? = some (.cells #[.int .i64 a0_0, .string a0_1, .int .i64 a0_2, .int .i64 a0_3, (.slice A0_4 l0_4.length c0_4)] 24 (0, 0))) ∧ Aside0 (Below w.heap.size w wc))
      case first =>
       have H := HC24.out
       clear HC24
       replace H := Option.bind_eq_some_iff.mp H
       obtain ⟨t368, A320, H⟩ := H
       replace H : (if t368 = true then (if t363 = t367 then ((haulageref08_SameRow.f kj5 y357 l1).bind fun t369 => (haulagelaw08_SchemaSets.j1 kj5 l1 t360 t363 (!t369) a0_0 a0_1 a0_2 a0_3 l0_4)) else (haulagelaw08_SchemaSets.j1 kj5 l1 t360 t363 true a0_0 a0_1 a0_2 a0_3 l0_4)) else (haulagelaw08_SchemaSets.j1 kj5 l1 t360 t363 true a0_0 a0_1 a0_2 a0_3 l0_4)) = some r := H
       have A32 := aM A320
       clear A320
       by_cases c33 : t368 = true
       ·
        subst c33
        have H1 : (if t363 = t367 then ((haulageref08_SameRow.f kj5 y357 l1).bind fun t369 => (haulagelaw08_SchemaSets.j1 kj5 l1 t360 t363 (!t369) a0_0 a0_1 a0_2 a0_3 l0_4)) else (haulagelaw08_SchemaSets.j1 kj5 l1 t360 t363 true a0_0 a0_1 a0_2 a0_3 l0_4)) = some r := by rw [if_pos rfl] at H; exact H
        clear H
        have H := H1
        clear H1
        by_cases c34 : t363 = t367
        ·
         rw [if_pos c34] at H
         have c34b0 : (t363 == t367) = true := beq_iff_eq.mpr c34
         have c34b1 : (t363 != t367) = false := bne_eq_false_iff_eq.mpr c34
         clear c34
         (first | rw [c34b0] | (simp only [i64_w, i32_w]; rw [c34b0]) | skip)
         replace H := Option.bind_eq_some_iff.mp H
         obtain ⟨t369, A350, H⟩ := H
         replace H : (haulagelaw08_SchemaSets.j1 kj5 l1 t360 t363 (!t369) a0_0 a0_1 a0_2 a0_3 l0_4) = some r := H
         have A35 := aM A350
         clear A350
         have H' := aM H
         clear H
         obtain ⟨Ao36, co36, eo36⟩ := Kd.R_slice HO362.out
         subst eo36
         obtain ⟨Ao37, co37, eo37⟩ := Kd.R_slice HO366.out
         subst eo37
         go_wp2_with (first | (go_at_call 23; (with_reducible refine (haulageref08_SameRow.calls kj5 _ _ t360 _ _ t364 true _ ?side1 ?side2 ?side3 ?side4 A32.out).mono ?_); (case side1 => exact yW (Kd.R_reads' HO362.out).2.2); (case side2 => exact (Kd.R_reads' HO362.out).2.1); (case side3 => exact yW (Kd.R_reads' HO366.out).2.2); (case side4 => exact (Kd.R_reads' HO366.out).2.1); rintro e w' ⟨rfl, ⟨nd, rfl⟩⟩; (try first | exact ⟨rfl, _, World.drewN_drewN _ _ _⟩ | exact ⟨rfl, _, Eq.trans (World.drewN_drewN _ _ _) (congrArg (World.drewN _) (Nat.add_assoc _ _ _))⟩); obtain ⟨Ao38, co38, eo38⟩ := Kd.R_slice HO359.out; subst eo38) | (go_at_call 23; (with_reducible refine (haulageref08_SameRow.calls kj5 _ _ y357 _ _ l1 t369 _ ?side1 ?side2 ?side3 ?side4 A35.out).mono ?_); (case side1 => exact yW (Kd.R_reads' HO359.out).2.2); (case side2 => exact (Kd.R_reads' HO359.out).2.1); (case side3 => repeat (first | exact (Kd.C_below HR1.out (yG1 HB GE349.out)) | (with_reducible refine Kd.C_alloc ?_ _) | (with_reducible refine Kd.C_drewN ?_ _) | (with_reducible refine Kd.C_drew ?_))); (case side4 => exact HC1.out); rintro e w' ⟨rfl, ⟨nd, rfl⟩⟩; (try first | exact ⟨rfl, _, World.drewN_drewN _ _ _⟩ | exact ⟨rfl, _, Eq.trans (World.drewN_drewN _ _ _) (congrArg (World.drewN _) (Nat.add_assoc _ _ _))⟩)))
         repeat (go_quiet (first | (go_at_call 23; (with_reducible refine (haulageref08_SameRow.calls kj5 _ _ t360 _ _ t364 true _ ?side1 ?side2 ?side3 ?side4 A32.out).mono ?_); (case side1 => exact yW (Kd.R_reads' HO362.out).2.2); (case side2 => exact (Kd.R_reads' HO362.out).2.1); (case side3 => exact yW (Kd.R_reads' HO366.out).2.2); (case side4 => exact (Kd.R_reads' HO366.out).2.1); rintro e w' ⟨rfl, ⟨nd, rfl⟩⟩; (try first | exact ⟨rfl, _, World.drewN_drewN _ _ _⟩ | exact ⟨rfl, _, Eq.trans (World.drewN_drewN _ _ _) (congrArg (World.drewN _) (Nat.add_assoc _ _ _))⟩); obtain ⟨Ao38, co38, eo38⟩ := Kd.R_slice HO359.out; subst eo38) | (go_at_call 23; (with_reducible refine (haulageref08_SameRow.calls kj5 _ _ y357 _ _ l1 t369 _ ?side1 ?side2 ?side3 ?side4 A35.out).mono ?_); (case side1 => exact yW (Kd.R_reads' HO359.out).2.2); (case side2 => exact (Kd.R_reads' HO359.out).2.1); (case side3 => repeat (first | exact (Kd.C_below HR1.out (yG1 HB GE349.out)) | (with_reducible refine Kd.C_alloc ?_ _) | (with_reducible refine Kd.C_drewN ?_ _) | (with_reducible refine Kd.C_drew ?_))); (case side4 => exact HC1.out); rintro e w' ⟨rfl, ⟨nd, rfl⟩⟩; (try first | exact ⟨rfl, _, World.drewN_drewN _ _ _⟩ | exact ⟨rfl, _, Eq.trans (World.drewN_drewN _ _ _) (congrArg (World.drewN _) (Nat.add_assoc _ _ _))⟩))); try go_wp2_with (first | (go_at_call 23; (with_reducible refine (haulageref08_SameRow.calls kj5 _ _ t360 _ _ t364 true _ ?side1 ?side2 ?side3 ?side4 A32.out).mono ?_); (case side1 => exact yW (Kd.R_reads' HO362.out).2.2); (case side2 => exact (Kd.R_reads' HO362.out).2.1); (case side3 => exact yW (Kd.R_reads' HO366.out).2.2); (case side4 => exact (Kd.R_reads' HO366.out).2.1); rintro e w' ⟨rfl, ⟨nd, rfl⟩⟩; (try first | exact ⟨rfl, _, World.drewN_drewN _ _ _⟩ | exact ⟨rfl, _, Eq.trans (World.drewN_drewN _ _ _) (congrArg (World.drewN _) (Nat.add_assoc _ _ _))⟩); obtain ⟨Ao38, co38, eo38⟩ := Kd.R_slice HO359.out; subst eo38) | (go_at_call 23; (with_reducible refine (haulageref08_SameRow.calls kj5 _ _ y357 _ _ l1 t369 _ ?side1 ?side2 ?side3 ?side4 A35.out).mono ?_); (case side1 => exact yW (Kd.R_reads' HO359.out).2.2); (case side2 => exact (Kd.R_reads' HO359.out).2.1); (case side3 => repeat (first | exact (Kd.C_below HR1.out (yG1 HB GE349.out)) | (with_reducible refine Kd.C_alloc ?_ _) | (with_reducible refine Kd.C_drewN ?_ _) | (with_reducible refine Kd.C_drew ?_))); (case side4 => exact HC1.out); rintro e w' ⟨rfl, ⟨nd, rfl⟩⟩; (try first | exact ⟨rfl, _, World.drewN_drewN _ _ _⟩ | exact ⟨rfl, _, Eq.trans (World.drewN_drewN _ _ _) (congrArg (World.drewN _) (Nat.add_assoc _ _ _))⟩))))
         go_meet
         case rel => exact ⟨_, (!t369), yS, H', ⟨by have := HJ5.out; first | omega | exact Nat.le_refl _⟩, ⟨by (with_reducible repeat (first | apply Kd.R_alloc | apply Kd.R_drewN | apply Kd.R_drew)); exact Kd.R_mono HO362.out (fun _ hk => trivial)⟩, ⟨yK BK349⟩, ⟨yG1 HB GE349.out⟩⟩
        ·
         rw [if_neg c34] at H
         have c34b0 : (t363 == t367) = false := beq_eq_false_iff_ne.mpr c34
         have c34b1 : (t363 != t367) = true := bne_iff_ne.mpr c34
         (first | rw [c34b0] | (simp only [i64_w, i32_w]; rw [c34b0]) | skip)
         have H' := aM H
         clear H
         obtain ⟨Ao39, co39, eo39⟩ := Kd.R_slice HO362.out
         subst eo39
         obtain ⟨Ao40, co40, eo40⟩ := Kd.R_slice HO366.out
         subst eo40
         go_wp2_with (first | (go_at_call 23; (with_reducible refine (haulageref08_SameRow.calls kj5 _ _ t360 _ _ t364 true _ ?side1 ?side2 ?side3 ?side4 A32.out).mono ?_); (case side1 => exact yW (Kd.R_reads' HO362.out).2.2); (case side2 => exact (Kd.R_reads' HO362.out).2.1); (case side3 => exact yW (Kd.R_reads' HO366.out).2.2); (case side4 => exact (Kd.R_reads' HO366.out).2.1); rintro e w' ⟨rfl, ⟨nd, rfl⟩⟩; (try first | exact ⟨rfl, _, World.drewN_drewN _ _ _⟩ | exact ⟨rfl, _, Eq.trans (World.drewN_drewN _ _ _) (congrArg (World.drewN _) (Nat.add_assoc _ _ _))⟩)))
         repeat (go_quiet (first | (go_at_call 23; (with_reducible refine (haulageref08_SameRow.calls kj5 _ _ t360 _ _ t364 true _ ?side1 ?side2 ?side3 ?side4 A32.out).mono ?_); (case side1 => exact yW (Kd.R_reads' HO362.out).2.2); (case side2 => exact (Kd.R_reads' HO362.out).2.1); (case side3 => exact yW (Kd.R_reads' HO366.out).2.2); (case side4 => exact (Kd.R_reads' HO366.out).2.1); rintro e w' ⟨rfl, ⟨nd, rfl⟩⟩; (try first | exact ⟨rfl, _, World.drewN_drewN _ _ _⟩ | exact ⟨rfl, _, Eq.trans (World.drewN_drewN _ _ _) (congrArg (World.drewN _) (Nat.add_assoc _ _ _))⟩))); try go_wp2_with (first | (go_at_call 23; (with_reducible refine (haulageref08_SameRow.calls kj5 _ _ t360 _ _ t364 true _ ?side1 ?side2 ?side3 ?side4 A32.out).mono ?_); (case side1 => exact yW (Kd.R_reads' HO362.out).2.2); (case side2 => exact (Kd.R_reads' HO362.out).2.1); (case side3 => exact yW (Kd.R_reads' HO366.out).2.2); (case side4 => exact (Kd.R_reads' HO366.out).2.1); rintro e w' ⟨rfl, ⟨nd, rfl⟩⟩; (try first | exact ⟨rfl, _, World.drewN_drewN _ _ _⟩ | exact ⟨rfl, _, Eq.trans (World.drewN_drewN _ _ _) (congrArg (World.drewN _) (Nat.add_assoc _ _ _))⟩))))
         go_meet
         case rel => exact ⟨_, (true), yS, H', ⟨by have := HJ5.out; first | omega | exact Nat.le_refl _⟩, ⟨by (with_reducible repeat (first | apply Kd.R_alloc | apply Kd.R_drewN | apply Kd.R_drew)); exact Kd.R_mono HO362.out (fun _ hk => trivial)⟩, ⟨yK BK349⟩, ⟨yG1 HB GE349.out⟩⟩
       ·
        replace c33 := Bool.eq_false_iff.mpr c33
        subst c33
        have H1 : (haulagelaw08_SchemaSets.j1 kj5 l1 t360 t363 true a0_0 a0_1 a0_2 a0_3 l0_4) = some r := by rw [if_neg (show ¬ (false = true) by decide)] at H; exact H
        clear H
        have H := H1
        clear H1
        have H' := aM H
        clear H
        obtain ⟨Ao41, co41, eo41⟩ := Kd.R_slice HO362.out
        subst eo41
        obtain ⟨Ao42, co42, eo42⟩ := Kd.R_slice HO366.out
        subst eo42
        go_wp2_with (first | (go_at_call 23; (with_reducible refine (haulageref08_SameRow.calls kj5 _ _ t360 _ _ t364 false _ ?side1 ?side2 ?side3 ?side4 A32.out).mono ?_); (case side1 => exact yW (Kd.R_reads' HO362.out).2.2); (case side2 => exact (Kd.R_reads' HO362.out).2.1); (case side3 => exact yW (Kd.R_reads' HO366.out).2.2); (case side4 => exact (Kd.R_reads' HO366.out).2.1); rintro e w' ⟨rfl, ⟨nd, rfl⟩⟩; (try first | exact ⟨rfl, _, World.drewN_drewN _ _ _⟩ | exact ⟨rfl, _, Eq.trans (World.drewN_drewN _ _ _) (congrArg (World.drewN _) (Nat.add_assoc _ _ _))⟩)))
        repeat (go_quiet (first | (go_at_call 23; (with_reducible refine (haulageref08_SameRow.calls kj5 _ _ t360 _ _ t364 false _ ?side1 ?side2 ?side3 ?side4 A32.out).mono ?_); (case side1 => exact yW (Kd.R_reads' HO362.out).2.2); (case side2 => exact (Kd.R_reads' HO362.out).2.1); (case side3 => exact yW (Kd.R_reads' HO366.out).2.2); (case side4 => exact (Kd.R_reads' HO366.out).2.1); rintro e w' ⟨rfl, ⟨nd, rfl⟩⟩; (try first | exact ⟨rfl, _, World.drewN_drewN _ _ _⟩ | exact ⟨rfl, _, Eq.trans (World.drewN_drewN _ _ _) (congrArg (World.drewN _) (Nat.add_assoc _ _ _))⟩))); try go_wp2_with (first | (go_at_call 23; (with_reducible refine (haulageref08_SameRow.calls kj5 _ _ t360 _ _ t364 false _ ?side1 ?side2 ?side3 ?side4 A32.out).mono ?_); (case side1 => exact yW (Kd.R_reads' HO362.out).2.2); (case side2 => exact (Kd.R_reads' HO362.out).2.1); (case side3 => exact yW (Kd.R_reads' HO366.out).2.2); (case side4 => exact (Kd.R_reads' HO366.out).2.1); rintro e w' ⟨rfl, ⟨nd, rfl⟩⟩; (try first | exact ⟨rfl, _, World.drewN_drewN _ _ _⟩ | exact ⟨rfl, _, Eq.trans (World.drewN_drewN _ _ _) (congrArg (World.drewN _) (Nat.add_assoc _ _ _))⟩))))
        go_meet
        case rel => exact ⟨_, (true), yS, H', ⟨by have := HJ5.out; first | omega | exact Nat.le_refl _⟩, ⟨by (with_reducible repeat (first | apply Kd.R_alloc | apply Kd.R_drewN | apply Kd.R_drew)); exact Kd.R_mono HO362.out (fun _ hk => trivial)⟩, ⟨yK BK349⟩, ⟨yG1 HB GE349.out⟩⟩
      case rest =>
       clear HC24
       try clear c1
       try clear c2
       try clear p2
       try clear c3
       try clear c5
       try clear c7
       try clear c10
       try clear c12
       try clear c20
       try clear c21
       try clear c33
       try clear c34
       try clear c34b0
       try clear c34b1
       try clear hcz14_0 hcz14_1 hcz14_2 hcz14_3 hcz14_4
       try clear hcz16_0 hcz16_1 hcz16_2 hcz16_3 hcz16_4
       try clear hcz18_0 hcz18_1 hcz18_2 hcz18_3 hcz18_4
       try clear hcz28_0 hcz28_1 hcz28_2 hcz28_3 hcz28_4
       try clear hcz30_0 hcz30_1 hcz30_2 hcz30_3 hcz30_4
       try clear hfz14_0 hfz14_1 hfz14_2 hfz14_3 hfz14_4
       try clear hfz16_0 hfz16_1 hfz16_2 hfz16_3 hfz16_4
       try clear hfz18_0 hfz18_1 hfz18_2 hfz18_3 hfz18_4
       try clear hfz28_0 hfz28_1 hfz28_2 hfz28_3 hfz28_4
       try clear hfz30_0 hfz30_1 hfz30_2 hfz30_3 hfz30_4
       try clear p2
       obtain ⟨kq, x60_23, rfl, HA, HJ23, HO_8, BK349, HB⟩ := hcut
       cases kq with
       | zero => exact absurd HA.out (by simp [haulagelaw08_SchemaSets.j1])
       | succ kj23 =>
        have H := HA.out
        clear HA
        simp only [haulagelaw08_SchemaSets.j1] at H
        by_cases c43 : x60_23 = true
        ·
         subst c43
         have H1 : (some false) = some r := by rw [if_pos rfl] at H; exact H
         clear H
         have H := H1
         clear H1
         obtain rfl := Option.some.inj H
         go_wp2
         repeat (go_quiet (fail); try go_wp2)
         go_ret
         exact ⟨yE, yG1 HB GE349.out⟩
        ·
         replace c43 := Bool.eq_false_iff.mpr c43
         subst c43
         have H1 : (if t363 = 0 then ((schema_Key.f kj23 a0_0 a0_1 a0_2 a0_3 l0_4).bind fun bt370 => (if bt370.2 = true then (if bt370.1 < (t360.length : Int) then (if 0 ≤ bt370.1 then (if bt370.1 < (l1.length : Int) then (some (((rd_T52 t360 bt370.1).f0) == ((rd_T52 l1 bt370.1).f0) && (((rd_T52 t360 bt370.1).f1) == ((rd_T52 l1 bt370.1).f1) && ((((rd_T52 t360 bt370.1).f2).toList) == (((rd_T52 l1 bt370.1).f2).toList))))) else (none)) else (none)) else (some false)) else (some false))) else (some ((t360.length : Int) == 0))) = some r := by rw [if_neg (show ¬ (false = true) by decide)] at H; exact H
         clear H
         have H := H1
         clear H1
         by_cases c44 : t363 = 0
         ·
          rw [if_pos c44] at H
          have c44b0 : (t363 == 0) = true := beq_iff_eq.mpr c44
          have c44b1 : (t363 != 0) = false := bne_eq_false_iff_eq.mpr c44
          clear c44
          replace H := Option.bind_eq_some_iff.mp H
          obtain ⟨⟨t370, t371⟩, A450, H⟩ := H
          replace H : (if t371 = true then (if t370 < (t360.length : Int) then (if 0 ≤ t370 then (if t370 < (l1.length : Int) then (some (((rd_T52 t360 t370).f0) == ((rd_T52 l1 t370).f0) && (((rd_T52 t360 t370).f1) == ((rd_T52 l1 t370).f1) && ((((rd_T52 t360 t370).f2).toList) == (((rd_T52 l1 t370).f2).toList))))) else (none)) else (none)) else (some false)) else (some false)) = some r := H
          have A45 := aM A450
          clear A450
          by_cases c46 : t371 = true
          ·
           subst c46
           have H1 : (if t370 < (t360.length : Int) then (if 0 ≤ t370 then (if t370 < (l1.length : Int) then (some (((rd_T52 t360 t370).f0) == ((rd_T52 l1 t370).f0) && (((rd_T52 t360 t370).f1) == ((rd_T52 l1 t370).f1) && ((((rd_T52 t360 t370).f2).toList) == (((rd_T52 l1 t370).f2).toList))))) else (none)) else (none)) else (some false)) = some r := by rw [if_pos rfl] at H; exact H
           clear H
           have H := H1
           clear H1
           by_cases c47 : t370 < (t360.length : Int)
           ·
            rw [if_pos c47] at H
            have c47b0 : decide (t370 < (t360.length : Int)) = true := decide_eq_true c47
            clear c47
            by_cases c48 : 0 ≤ t370
            ·
             rw [if_pos c48] at H
             have c48b0 : decide (0 ≤ t370) = true := decide_eq_true c48
             clear c48
             by_cases c49 : t370 < (l1.length : Int)
             ·
              rw [if_pos c49] at H
              have c49b0 : decide (t370 < (l1.length : Int)) = true := decide_eq_true c49
              clear c49
              obtain rfl := Option.some.inj H
              obtain ⟨hcz50_0, hcz50_1, hcz50_2, hcz50_3, hcz50_4, hfz50_0, hfz50_1, hfz50_2, hfz50_3, hfz50_4⟩ := cells5 BK349.out
              go_wp2_with (first | (go_at_call 37; (with_reducible refine (schema_Key.calls kj23 a0_0 a0_1 a0_2 a0_3 _ _ l0_4 t370 true _ ?side1 ?side2 A45.out).mono ?_); (case side1 => exact yW (Kd.C_below HR0_4.out HB.out)); (case side2 => exact HC0_4.out); rintro e w51 ⟨rfl, hb⟩; replace HO_8 := aM (Kd.R_below (yR HO_8.out) hb); replace BK349 := aM (kB (yK BK349) hb); replace HB := aM (bP (yG1 HB GE349.out) hb); (try clear hb); (try clear hb2); (try clear hk); (try clear hi); obtain ⟨Ao52, co52, eo52⟩ := Kd.R_slice HO_8.out; subst eo52; have p372 : 0 ≤ (t370 : Int) := oD yA; have q372 : t370 < (t360.length : Int) := oD yA; obtain ⟨ad372, e372, hx372_0, hx372_1, hx372_2⟩ := at_T52 (Kd.R_reads' HO_8.out).2.2 t370 p372 q372; cases e372; replace p372 := eq_true p372; replace q372 := eq_true q372; have p373 : 0 ≤ (t370 : Int) := oD yA; have q373 : t370 < (l1.length : Int) := oD yA; obtain ⟨ad373, e373, hx373_0, hx373_1, hx373_2⟩ := at_T52 HR1.out t370 p373 q373; cases e373; replace hx373_0 := pw_cell_below HB.out hx373_0; replace hx373_1 := pw_cell_below HB.out hx373_1; replace hx373_2 := pw_cell_below HB.out hx373_2; replace p373 := eq_true p373; replace q373 := eq_true q373))
              repeat (go_quiet (first | (go_at_call 37; (with_reducible refine (schema_Key.calls kj23 a0_0 a0_1 a0_2 a0_3 _ _ l0_4 t370 true _ ?side1 ?side2 A45.out).mono ?_); (case side1 => exact yW (Kd.C_below HR0_4.out HB.out)); (case side2 => exact HC0_4.out); rintro e w51 ⟨rfl, hb⟩; replace HO_8 := aM (Kd.R_below (yR HO_8.out) hb); replace BK349 := aM (kB (yK BK349) hb); replace HB := aM (bP (yG1 HB GE349.out) hb); (try clear hb); (try clear hb2); (try clear hk); (try clear hi); obtain ⟨Ao52, co52, eo52⟩ := Kd.R_slice HO_8.out; subst eo52; have p372 : 0 ≤ (t370 : Int) := oD yA; have q372 : t370 < (t360.length : Int) := oD yA; obtain ⟨ad372, e372, hx372_0, hx372_1, hx372_2⟩ := at_T52 (Kd.R_reads' HO_8.out).2.2 t370 p372 q372; cases e372; replace p372 := eq_true p372; replace q372 := eq_true q372; have p373 : 0 ≤ (t370 : Int) := oD yA; have q373 : t370 < (l1.length : Int) := oD yA; obtain ⟨ad373, e373, hx373_0, hx373_1, hx373_2⟩ := at_T52 HR1.out t370 p373 q373; cases e373; replace hx373_0 := pw_cell_below HB.out hx373_0; replace hx373_1 := pw_cell_below HB.out hx373_1; replace hx373_2 := pw_cell_below HB.out hx373_2; replace p373 := eq_true p373; replace q373 := eq_true q373)); try go_wp2_with (first | (go_at_call 37; (with_reducible refine (schema_Key.calls kj23 a0_0 a0_1 a0_2 a0_3 _ _ l0_4 t370 true _ ?side1 ?side2 A45.out).mono ?_); (case side1 => exact yW (Kd.C_below HR0_4.out HB.out)); (case side2 => exact HC0_4.out); rintro e w51 ⟨rfl, hb⟩; replace HO_8 := aM (Kd.R_below (yR HO_8.out) hb); replace BK349 := aM (kB (yK BK349) hb); replace HB := aM (bP (yG1 HB GE349.out) hb); (try clear hb); (try clear hb2); (try clear hk); (try clear hi); obtain ⟨Ao52, co52, eo52⟩ := Kd.R_slice HO_8.out; subst eo52; have p372 : 0 ≤ (t370 : Int) := oD yA; have q372 : t370 < (t360.length : Int) := oD yA; obtain ⟨ad372, e372, hx372_0, hx372_1, hx372_2⟩ := at_T52 (Kd.R_reads' HO_8.out).2.2 t370 p372 q372; cases e372; replace p372 := eq_true p372; replace q372 := eq_true q372; have p373 : 0 ≤ (t370 : Int) := oD yA; have q373 : t370 < (l1.length : Int) := oD yA; obtain ⟨ad373, e373, hx373_0, hx373_1, hx373_2⟩ := at_T52 HR1.out t370 p373 q373; cases e373; replace hx373_0 := pw_cell_below HB.out hx373_0; replace hx373_1 := pw_cell_below HB.out hx373_1; replace hx373_2 := pw_cell_below HB.out hx373_2; replace p373 := eq_true p373; replace q373 := eq_true q373)))
              go_ret
              exact ⟨yE, yG1 HB GE349.out⟩
             ·
              rw [if_neg c49] at H
              exact absurd H (by simp)
            ·
             rw [if_neg c48] at H
             exact absurd H (by simp)
           ·
            rw [if_neg c47] at H
            have c47b0 : decide (t370 < (t360.length : Int)) = false := decide_eq_false c47
            clear c47
            obtain rfl := Option.some.inj H
            obtain ⟨hcz53_0, hcz53_1, hcz53_2, hcz53_3, hcz53_4, hfz53_0, hfz53_1, hfz53_2, hfz53_3, hfz53_4⟩ := cells5 BK349.out
            go_wp2_with (first | (go_at_call 37; (with_reducible refine (schema_Key.calls kj23 a0_0 a0_1 a0_2 a0_3 _ _ l0_4 t370 true _ ?side1 ?side2 A45.out).mono ?_); (case side1 => exact yW (Kd.C_below HR0_4.out HB.out)); (case side2 => exact HC0_4.out); rintro e w54 ⟨rfl, hb⟩; replace HO_8 := aM (Kd.R_below (yR HO_8.out) hb); replace BK349 := aM (kB (yK BK349) hb); replace HB := aM (bP (yG1 HB GE349.out) hb); (try clear hb); (try clear hb2); (try clear hk); (try clear hi); obtain ⟨Ao55, co55, eo55⟩ := Kd.R_slice HO_8.out; subst eo55))
            repeat (go_quiet (first | (go_at_call 37; (with_reducible refine (schema_Key.calls kj23 a0_0 a0_1 a0_2 a0_3 _ _ l0_4 t370 true _ ?side1 ?side2 A45.out).mono ?_); (case side1 => exact yW (Kd.C_below HR0_4.out HB.out)); (case side2 => exact HC0_4.out); rintro e w54 ⟨rfl, hb⟩; replace HO_8 := aM (Kd.R_below (yR HO_8.out) hb); replace BK349 := aM (kB (yK BK349) hb); replace HB := aM (bP (yG1 HB GE349.out) hb); (try clear hb); (try clear hb2); (try clear hk); (try clear hi); obtain ⟨Ao55, co55, eo55⟩ := Kd.R_slice HO_8.out; subst eo55)); try go_wp2_with (first | (go_at_call 37; (with_reducible refine (schema_Key.calls kj23 a0_0 a0_1 a0_2 a0_3 _ _ l0_4 t370 true _ ?side1 ?side2 A45.out).mono ?_); (case side1 => exact yW (Kd.C_below HR0_4.out HB.out)); (case side2 => exact HC0_4.out); rintro e w54 ⟨rfl, hb⟩; replace HO_8 := aM (Kd.R_below (yR HO_8.out) hb); replace BK349 := aM (kB (yK BK349) hb); replace HB := aM (bP (yG1 HB GE349.out) hb); (try clear hb); (try clear hb2); (try clear hk); (try clear hi); obtain ⟨Ao55, co55, eo55⟩ := Kd.R_slice HO_8.out; subst eo55)))
            go_ret
            exact ⟨yE, yG1 HB GE349.out⟩
          ·
           replace c46 := Bool.eq_false_iff.mpr c46
           subst c46
           have H1 : (some false) = some r := by rw [if_neg (show ¬ (false = true) by decide)] at H; exact H
           clear H
           have H := H1
           clear H1
           obtain rfl := Option.some.inj H
           obtain ⟨hcz56_0, hcz56_1, hcz56_2, hcz56_3, hcz56_4, hfz56_0, hfz56_1, hfz56_2, hfz56_3, hfz56_4⟩ := cells5 BK349.out
           go_wp2_with (first | (go_at_call 37; (with_reducible refine (schema_Key.calls kj23 a0_0 a0_1 a0_2 a0_3 _ _ l0_4 t370 false _ ?side1 ?side2 A45.out).mono ?_); (case side1 => exact yW (Kd.C_below HR0_4.out HB.out)); (case side2 => exact HC0_4.out); rintro e w57 ⟨rfl, hb⟩; replace HO_8 := aM (Kd.R_below (yR HO_8.out) hb); replace BK349 := aM (kB (yK BK349) hb); replace HB := aM (bP (yG1 HB GE349.out) hb); (try clear hb); (try clear hb2); (try clear hk); (try clear hi)))
           repeat (go_quiet (first | (go_at_call 37; (with_reducible refine (schema_Key.calls kj23 a0_0 a0_1 a0_2 a0_3 _ _ l0_4 t370 false _ ?side1 ?side2 A45.out).mono ?_); (case side1 => exact yW (Kd.C_below HR0_4.out HB.out)); (case side2 => exact HC0_4.out); rintro e w57 ⟨rfl, hb⟩; replace HO_8 := aM (Kd.R_below (yR HO_8.out) hb); replace BK349 := aM (kB (yK BK349) hb); replace HB := aM (bP (yG1 HB GE349.out) hb); (try clear hb); (try clear hb2); (try clear hk); (try clear hi))); try go_wp2_with (first | (go_at_call 37; (with_reducible refine (schema_Key.calls kj23 a0_0 a0_1 a0_2 a0_3 _ _ l0_4 t370 false _ ?side1 ?side2 A45.out).mono ?_); (case side1 => exact yW (Kd.C_below HR0_4.out HB.out)); (case side2 => exact HC0_4.out); rintro e w57 ⟨rfl, hb⟩; replace HO_8 := aM (Kd.R_below (yR HO_8.out) hb); replace BK349 := aM (kB (yK BK349) hb); replace HB := aM (bP (yG1 HB GE349.out) hb); (try clear hb); (try clear hb2); (try clear hk); (try clear hi))))
           go_ret
           exact ⟨yE, yG1 HB GE349.out⟩
         ·
          rw [if_neg c44] at H
          have c44b0 : (t363 == 0) = false := beq_eq_false_iff_ne.mpr c44
          have c44b1 : (t363 != 0) = true := bne_iff_ne.mpr c44
          obtain rfl := Option.some.inj H
          obtain ⟨Ao58, co58, eo58⟩ := Kd.R_slice HO_8.out
          subst eo58
          go_wp2
          repeat (go_quiet (fail); try go_wp2)
          go_ret
          exact ⟨yE, yG1 HB GE349.out⟩
     ·
      rw [if_neg c21] at H
      exact absurd H (by simp)
 ·
  replace c5 := Bool.eq_false_iff.mpr c5
  subst c5
  have H1 : (some false) = some r := by rw [if_neg (show ¬ (false = true) by decide)] at H; exact H
  clear H
  have H := H1
  clear H1
  obtain rfl := Option.some.inj H
  go_enter Tryd.func7, Tryd.ntmps7
  go_wp2_with (first | ((with_reducible refine gate_dst (N := 3) rfl ?_); (try (refine gate_guard (by rfl) ?_; dsimp only)); refine yX (N := 3) (cs := #[.int .i64 a0_0, .string a0_1, .int .i64 a0_2, .int .i64 a0_3, .slice A0_4 l0_4.length c0_4]) (t := 24) ?_; intro gb349 hg w59 hbox hb; have BK349 := aM (hbox); have GW349 := yZ hg (yB HB); have GE349 := yZ hg (yB HB); replace HB := aM (bP (yB HB) hb); clear hb hbox hg) | (go_at_call 19; (with_reducible refine (haulagelaw08_lives.calls k  false _ ?side1 A4.out).mono ?_); (case side1 => first | (with_reducible exact HG.out) | exact Glob.below HG.out (yG1 HB GE349.out)); rintro e w60 ⟨rfl, hb⟩; replace BK349 := aM (kB (yK BK349) hb); replace HB := aM (bP (yG1 HB GE349.out) hb); (try clear hb)))
  repeat (go_quiet (first | ((with_reducible refine gate_dst (N := 3) rfl ?_); (try (refine gate_guard (by rfl) ?_; dsimp only)); refine yX (N := 3) (cs := #[.int .i64 a0_0, .string a0_1, .int .i64 a0_2, .int .i64 a0_3, .slice A0_4 l0_4.length c0_4]) (t := 24) ?_; intro gb349 hg w59 hbox hb; have BK349 := aM (hbox); have GW349 := yZ hg (yB HB); have GE349 := yZ hg (yB HB); replace HB := aM (bP (yB HB) hb); clear hb hbox hg) | (go_at_call 19; (with_reducible refine (haulagelaw08_lives.calls k  false _ ?side1 A4.out).mono ?_); (case side1 => first | (with_reducible exact HG.out) | exact Glob.below HG.out (yG1 HB GE349.out)); rintro e w60 ⟨rfl, hb⟩; replace BK349 := aM (kB (yK BK349) hb); replace HB := aM (bP (yG1 HB GE349.out) hb); (try clear hb))); try go_wp2_with (first | ((with_reducible refine gate_dst (N := 3) rfl ?_); (try (refine gate_guard (by rfl) ?_; dsimp only)); refine yX (N := 3) (cs := #[.int .i64 a0_0, .string a0_1, .int .i64 a0_2, .int .i64 a0_3, .slice A0_4 l0_4.length c0_4]) (t := 24) ?_; intro gb349 hg w59 hbox hb; have BK349 := aM (hbox); have GW349 := yZ hg (yB HB); have GE349 := yZ hg (yB HB); replace HB := aM (bP (yB HB) hb); clear hb hbox hg) | (go_at_call 19; (with_reducible refine (haulagelaw08_lives.calls k  false _ ?side1 A4.out).mono ?_); (case side1 => first | (with_reducible exact HG.out) | exact Glob.below HG.out (yG1 HB GE349.out)); rintro e w60 ⟨rfl, hb⟩; replace BK349 := aM (kB (yK BK349) hb); replace HB := aM (bP (yG1 HB GE349.out) hb); (try clear hb))))
  go_ret
  exact ⟨yE, yG1 HB GE349.out⟩
end Go.Proofs.YtdeophpjammbpaaDoor.HSchemaSets

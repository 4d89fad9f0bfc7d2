/- For Go functions that SchemaFinds reaches: Lean functions, and walks that show that each call comes to what its Lean function tells; no condition but those that each theorem states. (Made by a program of this session over the kit's print.py.) -/
import Derived.Test.YtdeophpjammbpaaDoorHSchemaFindsx0
import Derived.Test.YtdeophpjammbpaaDoorHSchemaFindsx8
import Derived.Test.YtdeophpjammbpaaDoorHSchemaFindsx10
import Derived.Test.YtdeophpjammbpaaDoorHSchemaFindsx11
import Derived.Test.YtdeophpjammbpaaDoorHSchemaFindsx12
import Derived.Test.YtdeophpjammbpaaDoorHSchemaFindsx13
import Derived.Test.YtdeophpjammbpaaDoorHSchemaFindsx14
import Derived.Test.YtdeophpjammbpaaDoorHSchemaFindsx15
namespace Go.Proofs.YtdeophpjammbpaaDoor.HSchemaFinds
open Go.RowKit Go.Proofs.YtdeophpjammbpaaDoorW.PrintWords Go.Proofs.YtdeophpjammbpaaDoorW.PrintLast Go.Proofs.YtdeophpjammbpaaDoorW.PrintMore
attribute [local go_sem] max2_int min2_int max_two min_two max_three min_three max_four min_four   -- for this text's walks alone
set_option linter.unusedVariables false
set_option linter.unusedSimpArgs false
attribute [local go_sem] hp_s8 hp_s16 hp_s32 hp_s64 hp_m8 hp_m16 hp_m32 hp_m64
/-! ### haulagelaw08_SchemaFinds: function 8 -/
mutual
def haulagelaw08_SchemaFinds.j0 : Nat → ByteArray → Int → Bool → List (S24) → List (S24) → Option (Bool)
 | 0, _, _, _, _, _ => none
 | k + 1, x2, x3, x33, x280000, x281000 => if x33 = true then (some true) else ((schema_Find.f k x280000 x2).bind fun bt285 => ((schema_ById.f k x280000 x3).bind fun bt287 => ((haulageref08_Find.f k x280000 x2).bind fun t289 => ((haulagelaw08_found.f bt285.1 bt285.2 t289).bind fun t290 => (if t290 = true then ((haulageref08_ById.f k x280000 x3).bind fun t291 => ((haulagelaw08_found.f bt287.1 bt287.2 t291).bind fun t292 => (if t292 = true then ((schema_Same.f k x280000 x281000).bind fun t293 => ((haulageref08_Same.f k x280000 x281000).bind fun t294 => (if (t293 != t294) = true then (haulagelaw08_SchemaFinds.j1 k x2 true x280000 x281000) else ((schema_Same.f k x280000 x280000).bind fun t295 => (haulagelaw08_SchemaFinds.j1 k x2 (!t295) x280000 x281000))))) else (haulagelaw08_SchemaFinds.j1 k x2 true x280000 x281000)))) else (haulagelaw08_SchemaFinds.j1 k x2 true x280000 x281000))))))
def haulagelaw08_SchemaFinds.j1 : Nat → ByteArray → Bool → List (S24) → List (S24) → Option (Bool)
 | 0, _, _, _, _ => none
 | k + 1, x2, x76, x280000, x281000 => if x76 = true then (some false) else (haulagelaw08_SchemaFinds.l0 k x2 0 x280000 x281000)
def haulagelaw08_SchemaFinds.l0 : Nat → ByteArray → Int → List (S24) → List (S24) → Option (Bool)
 | 0, _, _, _, _ => none
 | k + 1, x2, x13, x280000, x281000 => if x13 < (x280000.length : Int) then (if 0 ≤ x13 then ((schema_Col.f k ((rd_T24 x280000 x13).f0) ((rd_T24 x280000 x13).f1) ((rd_T24 x280000 x13).f2) ((rd_T24 x280000 x13).f3) ((rd_T24 x280000 x13).f4) x2).bind fun bt298 => ((schema_Key.f k ((rd_T24 x280000 x13).f0) ((rd_T24 x280000 x13).f1) ((rd_T24 x280000 x13).f2) ((rd_T24 x280000 x13).f3) ((rd_T24 x280000 x13).f4)).bind fun bt300 => ((haulageref08_Col.f k ((rd_T24 x280000 x13).f0) ((rd_T24 x280000 x13).f1) ((rd_T24 x280000 x13).f2) ((rd_T24 x280000 x13).f3) ((rd_T24 x280000 x13).f4) x2).bind fun t302 => ((haulagelaw08_found.f bt298.1 bt298.2 t302).bind fun t303 => (if t303 = true then ((haulageref08_Key.f k ((rd_T24 x280000 x13).f0) ((rd_T24 x280000 x13).f1) ((rd_T24 x280000 x13).f2) ((rd_T24 x280000 x13).f3) ((rd_T24 x280000 x13).f4)).bind fun t304 => ((haulagelaw08_found.f bt300.1 bt300.2 t304).bind fun t305 => (haulagelaw08_SchemaFinds.j3 k x2 x13 (!t305) x280000 x281000 ((rd_T24 x280000 x13).f0) ((rd_T24 x280000 x13).f1) ((rd_T24 x280000 x13).f2) ((rd_T24 x280000 x13).f3) ((rd_T24 x280000 x13).f4)))) else (haulagelaw08_SchemaFinds.j3 k x2 x13 true x280000 x281000 ((rd_T24 x280000 x13).f0) ((rd_T24 x280000 x13).f1) ((rd_T24 x280000 x13).f2) ((rd_T24 x280000 x13).f3) ((rd_T24 x280000 x13).f4))))))) else (none)) else (some true)
def haulagelaw08_SchemaFinds.j3 : Nat → ByteArray → Int → Bool → List (S24) → List (S24) → Int → ByteArray → Int → Int → List (S54) → Option (Bool)
 | 0, _, _, _, _, _, _, _, _, _, _ => none
 | k + 1, x2, x13, x114, x280000, x281000, x298000, x298001, x298002, x298003, x298004 => if x114 = true then (some false) else (if x13 < (x281000.length : Int) then (if 0 ≤ x13 then ((schema_SameTable.f k x298000 x298001 x298002 x298003 x298004 ((rd_T24 x281000 x13).f0) ((rd_T24 x281000 x13).f1) ((rd_T24 x281000 x13).f2) ((rd_T24 x281000 x13).f3) ((rd_T24 x281000 x13).f4)).bind fun t307 => ((haulageref08_SameTable.f k x298000 x298001 x298002 x298003 x298004 ((rd_T24 x281000 x13).f0) ((rd_T24 x281000 x13).f1) ((rd_T24 x281000 x13).f2) ((rd_T24 x281000 x13).f3) ((rd_T24 x281000 x13).f4)).bind fun t309 => (if (t307 != t309) = true then (some false) else (haulagelaw08_SchemaFinds.l0 k x2 (wrap64 (x13 + 1)) x280000 x281000)))) else (none)) else (haulagelaw08_SchemaFinds.l0 k x2 (wrap64 (x13 + 1)) x280000 x281000))
end
def haulagelaw08_SchemaFinds.f (k : Nat) (l0_0 : List (S24)) (l1_0 : List (S24)) (a2 : ByteArray) (a3 : Int) : Option (Bool) := (haulagelaw08_lives.f k).bind fun t281 => (if t281 = true then ((haulagelaw08_FewAll.f k l0_0).bind fun t282 => (if t282 = true then ((haulagelaw08_FewAll.f k l1_0).bind fun t283 => (if t283 = true then ((haulagelaw08_short.f a2).bind fun t284 => (haulagelaw08_SchemaFinds.j0 k a2 a3 (!t284) l0_0 l1_0)) else (haulagelaw08_SchemaFinds.j0 k a2 a3 true l0_0 l1_0))) else (haulagelaw08_SchemaFinds.j0 k a2 a3 true l0_0 l1_0))) else (some false))
theorem haulagelaw08_SchemaFinds.mono_l : ∀ k, (∀ y0 y1 y2 y3 y4, LeO (haulagelaw08_SchemaFinds.j0 k y0 y1 y2 y3 y4) (haulagelaw08_SchemaFinds.j0 (k + 1) y0 y1 y2 y3 y4)) ∧ (∀ y0 y1 y2 y3, LeO (haulagelaw08_SchemaFinds.j1 k y0 y1 y2 y3) (haulagelaw08_SchemaFinds.j1 (k + 1) y0 y1 y2 y3)) ∧ (∀ y0 y1 y2 y3, LeO (haulagelaw08_SchemaFinds.l0 k y0 y1 y2 y3) (haulagelaw08_SchemaFinds.l0 (k + 1) y0 y1 y2 y3)) ∧ (∀ y0 y1 y2 y3 y4 y5 y6 y7 y8 y9, LeO (haulagelaw08_SchemaFinds.j3 k y0 y1 y2 y3 y4 y5 y6 y7 y8 y9) (haulagelaw08_SchemaFinds.j3 (k + 1) y0 y1 y2 y3 y4 y5 y6 y7 y8 y9))
 | 0 => ⟨fun _ _ _ _ _ r h => by simp [haulagelaw08_SchemaFinds.j0] at h, fun _ _ _ _ r h => by simp [haulagelaw08_SchemaFinds.j1] at h, fun _ _ _ _ r h => by simp [haulagelaw08_SchemaFinds.l0] at h, fun _ _ _ _ _ _ _ _ _ _ r h => by simp [haulagelaw08_SchemaFinds.j3] at h⟩
 | k + 1 => by
  obtain ⟨ih0, ih1, ih2, ih3⟩ := haulagelaw08_SchemaFinds.mono_l k
  refine ⟨?_, ?_, ?_, ?_⟩
  ·
   intro y0 y1 y2 y3 y4
   unfold haulagelaw08_SchemaFinds.j0
   repeat' first
   | (with_reducible exact ih0 _ _ _ _ _)
   | (with_reducible exact ih1 _ _ _ _)
   | (with_reducible exact ih2 _ _ _ _)
   | (with_reducible exact ih3 _ _ _ _ _ _ _ _ _ _)
   | (with_reducible exact haulagelaw08_FewAll.mono _ _)
   | (with_reducible exact haulagelaw08_lives.mono _)
   | (with_reducible exact haulageref08_ById.mono _ _ _)
   | (with_reducible exact haulageref08_Col.mono _ _ _ _ _ _ _)
   | (with_reducible exact haulageref08_Find.mono _ _ _)
   | (with_reducible exact haulageref08_Key.mono _ _ _ _ _ _)
   | (with_reducible exact haulageref08_Same.mono _ _ _)
   | (with_reducible exact haulageref08_SameTable.mono _ _ _ _ _ _ _ _ _ _ _)
   | (with_reducible exact schema_ById.mono _ _ _)
   | (with_reducible exact schema_Col.mono _ _ _ _ _ _ _)
   | (with_reducible exact schema_Find.mono _ _ _)
   | (with_reducible exact schema_Key.mono _ _ _ _ _ _)
   | (with_reducible exact schema_Same.mono _ _ _)
   | (with_reducible exact schema_SameTable.mono _ _ _ _ _ _ _ _ _ _ _)
   | (with_reducible exact LeO.refl _)
   | (with_reducible exact LeO.none _)
   | (with_reducible refine LeO.ite ?_ ?_)
   | (with_reducible refine LeO.bind ?_ (fun _ => ?_))
   | exact ih0 _ _ _ _ _
   | exact ih1 _ _ _ _
   | exact ih2 _ _ _ _
   | exact ih3 _ _ _ _ _ _ _ _ _ _
   | exact haulagelaw08_FewAll.mono _ _
   | exact haulagelaw08_lives.mono _
   | exact haulageref08_ById.mono _ _ _
   | exact haulageref08_Col.mono _ _ _ _ _ _ _
   | exact haulageref08_Find.mono _ _ _
   | exact haulageref08_Key.mono _ _ _ _ _ _
   | exact haulageref08_Same.mono _ _ _
   | exact haulageref08_SameTable.mono _ _ _ _ _ _ _ _ _ _ _
   | exact schema_ById.mono _ _ _
   | exact schema_Col.mono _ _ _ _ _ _ _
   | exact schema_Find.mono _ _ _
   | exact schema_Key.mono _ _ _ _ _ _
   | exact schema_Same.mono _ _ _
   | exact schema_SameTable.mono _ _ _ _ _ _ _ _ _ _ _
   | exact LeO.none _
   | refine LeO.ite ?_ ?_
   | refine LeO.bind ?_ (fun _ => ?_)
  ·
   intro y0 y1 y2 y3
   unfold haulagelaw08_SchemaFinds.j1
   repeat' first
   | (with_reducible exact ih0 _ _ _ _ _)
   | (with_reducible exact ih1 _ _ _ _)
   | (with_reducible exact ih2 _ _ _ _)
   | (with_reducible exact ih3 _ _ _ _ _ _ _ _ _ _)
   | (with_reducible exact haulagelaw08_FewAll.mono _ _)
   | (with_reducible exact haulagelaw08_lives.mono _)
   | (with_reducible exact haulageref08_ById.mono _ _ _)
   | (with_reducible exact haulageref08_Col.mono _ _ _ _ _ _ _)
   | (with_reducible exact haulageref08_Find.mono _ _ _)
   | (with_reducible exact haulageref08_Key.mono _ _ _ _ _ _)
   | (with_reducible exact haulageref08_Same.mono _ _ _)
   | (with_reducible exact haulageref08_SameTable.mono _ _ _ _ _ _ _ _ _ _ _)
   | (with_reducible exact schema_ById.mono _ _ _)
   | (with_reducible exact schema_Col.mono _ _ _ _ _ _ _)
   | (with_reducible exact schema_Find.mono _ _ _)
   | (with_reducible exact schema_Key.mono _ _ _ _ _ _)
   | (with_reducible exact schema_Same.mono _ _ _)
   | (with_reducible exact schema_SameTable.mono _ _ _ _ _ _ _ _ _ _ _)
   | (with_reducible exact LeO.refl _)
   | (with_reducible exact LeO.none _)
   | (with_reducible refine LeO.ite ?_ ?_)
   | (with_reducible refine LeO.bind ?_ (fun _ => ?_))
   | exact ih0 _ _ _ _ _
   | exact ih1 _ _ _ _
   | exact ih2 _ _ _ _
   | exact ih3 _ _ _ _ _ _ _ _ _ _
   | exact haulagelaw08_FewAll.mono _ _
   | exact haulagelaw08_lives.mono _
   | exact haulageref08_ById.mono _ _ _
   | exact haulageref08_Col.mono _ _ _ _ _ _ _
   | exact haulageref08_Find.mono _ _ _
   | exact haulageref08_Key.mono _ _ _ _ _ _
   | exact haulageref08_Same.mono _ _ _
   | exact haulageref08_SameTable.mono _ _ _ _ _ _ _ _ _ _ _
   | exact schema_ById.mono _ _ _
   | exact schema_Col.mono _ _ _ _ _ _ _
   | exact schema_Find.mono _ _ _
   | exact schema_Key.mono _ _ _ _ _ _
   | exact schema_Same.mono _ _ _
   | exact schema_SameTable.mono _ _ _ _ _ _ _ _ _ _ _
   | exact LeO.none _
   | refine LeO.ite ?_ ?_
   | refine LeO.bind ?_ (fun _ => ?_)
  ·
   intro y0 y1 y2 y3
   unfold haulagelaw08_SchemaFinds.l0
   repeat' first
   | (with_reducible exact ih0 _ _ _ _ _)
   | (with_reducible exact ih1 _ _ _ _)
   | (with_reducible exact ih2 _ _ _ _)
   | (with_reducible exact ih3 _ _ _ _ _ _ _ _ _ _)
   | (with_reducible exact haulagelaw08_FewAll.mono _ _)
   | (with_reducible exact haulagelaw08_lives.mono _)
   | (with_reducible exact haulageref08_ById.mono _ _ _)
   | (with_reducible exact haulageref08_Col.mono _ _ _ _ _ _ _)
   | (with_reducible exact haulageref08_Find.mono _ _ _)
   | (with_reducible exact haulageref08_Key.mono _ _ _ _ _ _)
   | (with_reducible exact haulageref08_Same.mono _ _ _)
   | (with_reducible exact haulageref08_SameTable.mono _ _ _ _ _ _ _ _ _ _ _)
   | (with_reducible exact schema_ById.mono _ _ _)
   | (with_reducible exact schema_Col.mono _ _ _ _ _ _ _)
   | (with_reducible exact schema_Find.mono _ _ _)
   | (with_reducible exact schema_Key.mono _ _ _ _ _ _)
   | (with_reducible exact schema_Same.mono _ _ _)
   | (with_reducible exact schema_SameTable.mono _ _ _ _ _ _ _ _ _ _ _)
   | (with_reducible exact LeO.refl _)
   | (with_reducible exact LeO.none _)
   | (with_reducible refine LeO.ite ?_ ?_)
   | (with_reducible refine LeO.bind ?_ (fun _ => ?_))
   | exact ih0 _ _ _ _ _
   | exact ih1 _ _ _ _
   | exact ih2 _ _ _ _
   | exact ih3 _ _ _ _ _ _ _ _ _ _
   | exact haulagelaw08_FewAll.mono _ _
   | exact haulagelaw08_lives.mono _
   | exact haulageref08_ById.mono _ _ _
   | exact haulageref08_Col.mono _ _ _ _ _ _ _
   | exact haulageref08_Find.mono _ _ _
   | exact haulageref08_Key.mono _ _ _ _ _ _
   | exact haulageref08_Same.mono _ _ _
   | exact haulageref08_SameTable.mono _ _ _ _ _ _ _ _ _ _ _
   | exact schema_ById.mono _ _ _
   | exact schema_Col.mono _ _ _ _ _ _ _
   | exact schema_Find.mono _ _ _
   | exact schema_Key.mono _ _ _ _ _ _
   | exact schema_Same.mono _ _ _
   | exact schema_SameTable.mono _ _ _ _ _ _ _ _ _ _ _
   | exact LeO.none _
   | refine LeO.ite ?_ ?_
   | refine LeO.bind ?_ (fun _ => ?_)
  ·
   intro y0 y1 y2 y3 y4 y5 y6 y7 y8 y9
   unfold haulagelaw08_SchemaFinds.j3
   repeat' first
   | (with_reducible exact ih0 _ _ _ _ _)
   | (with_reducible exact ih1 _ _ _ _)
   | (with_reducible exact ih2 _ _ _ _)
   | (with_reducible exact ih3 _ _ _ _ _ _ _ _ _ _)
   | (with_reducible exact haulagelaw08_FewAll.mono _ _)
   | (with_reducible exact haulagelaw08_lives.mono _)
   | (with_reducible exact haulageref08_ById.mono _ _ _)
   | (with_reducible exact haulageref08_Col.mono _ _ _ _ _ _ _)
   | (with_reducible exact haulageref08_Find.mono _ _ _)
   | (with_reducible exact haulageref08_Key.mono _ _ _ _ _ _)
   | (with_reducible exact haulageref08_Same.mono _ _ _)
   | (with_reducible exact haulageref08_SameTable.mono _ _ _ _ _ _ _ _ _ _ _)
   | (with_reducible exact schema_ById.mono _ _ _)
   | (with_reducible exact schema_Col.mono _ _ _ _ _ _ _)
   | (with_reducible exact schema_Find.mono _ _ _)
   | (with_reducible exact schema_Key.mono _ _ _ _ _ _)
   | (with_reducible exact schema_Same.mono _ _ _)
   | (with_reducible exact schema_SameTable.mono _ _ _ _ _ _ _ _ _ _ _)
   | (with_reducible exact LeO.refl _)
   | (with_reducible exact LeO.none _)
   | (with_reducible refine LeO.ite ?_ ?_)
   | (with_reducible refine LeO.bind ?_ (fun _ => ?_))
   | exact ih0 _ _ _ _ _
   | exact ih1 _ _ _ _
   | exact ih2 _ _ _ _
   | exact ih3 _ _ _ _ _ _ _ _ _ _
   | exact haulagelaw08_FewAll.mono _ _
   | exact haulagelaw08_lives.mono _
   | exact haulageref08_ById.mono _ _ _
   | exact haulageref08_Col.mono _ _ _ _ _ _ _
   | exact haulageref08_Find.mono _ _ _
   | exact haulageref08_Key.mono _ _ _ _ _ _
   | exact haulageref08_Same.mono _ _ _
   | exact haulageref08_SameTable.mono _ _ _ _ _ _ _ _ _ _ _
   | exact schema_ById.mono _ _ _
   | exact schema_Col.mono _ _ _ _ _ _ _
   | exact schema_Find.mono _ _ _
   | exact schema_Key.mono _ _ _ _ _ _
   | exact schema_Same.mono _ _ _
   | exact schema_SameTable.mono _ _ _ _ _ _ _ _ _ _ _
   | exact LeO.none _
   | refine LeO.ite ?_ ?_
   | refine LeO.bind ?_ (fun _ => ?_)
theorem haulagelaw08_SchemaFinds.mono : ∀ a0 a1 a2 a3 k, LeO (haulagelaw08_SchemaFinds.f k a0 a1 a2 a3) (haulagelaw08_SchemaFinds.f (k + 1) a0 a1 a2 a3) := by
 intro a0 a1 a2 a3 k
 obtain ⟨ih0, ih1, ih2, ih3⟩ := haulagelaw08_SchemaFinds.mono_l k
 unfold haulagelaw08_SchemaFinds.f
 repeat' first
   | (with_reducible exact ih0 _ _ _ _ _)
   | (with_reducible exact ih1 _ _ _ _)
   | (with_reducible exact ih2 _ _ _ _)
   | (with_reducible exact ih3 _ _ _ _ _ _ _ _ _ _)
   | (with_reducible exact haulagelaw08_FewAll.mono _ _)
   | (with_reducible exact haulagelaw08_lives.mono _)
   | (with_reducible exact haulageref08_ById.mono _ _ _)
   | (with_reducible exact haulageref08_Col.mono _ _ _ _ _ _ _)
   | (with_reducible exact haulageref08_Find.mono _ _ _)
   | (with_reducible exact haulageref08_Key.mono _ _ _ _ _ _)
   | (with_reducible exact haulageref08_Same.mono _ _ _)
   | (with_reducible exact haulageref08_SameTable.mono _ _ _ _ _ _ _ _ _ _ _)
   | (with_reducible exact schema_ById.mono _ _ _)
   | (with_reducible exact schema_Col.mono _ _ _ _ _ _ _)
   | (with_reducible exact schema_Find.mono _ _ _)
   | (with_reducible exact schema_Key.mono _ _ _ _ _ _)
   | (with_reducible exact schema_Same.mono _ _ _)
   | (with_reducible exact schema_SameTable.mono _ _ _ _ _ _ _ _ _ _ _)
   | (with_reducible exact LeO.refl _)
   | (with_reducible exact LeO.none _)
   | (with_reducible refine LeO.ite ?_ ?_)
   | (with_reducible refine LeO.bind ?_ (fun _ => ?_))
   | exact ih0 _ _ _ _ _
   | exact ih1 _ _ _ _
   | exact ih2 _ _ _ _
   | exact ih3 _ _ _ _ _ _ _ _ _ _
   | exact haulagelaw08_FewAll.mono _ _
   | exact haulagelaw08_lives.mono _
   | exact haulageref08_ById.mono _ _ _
   | exact haulageref08_Col.mono _ _ _ _ _ _ _
   | exact haulageref08_Find.mono _ _ _
   | exact haulageref08_Key.mono _ _ _ _ _ _
   | exact haulageref08_Same.mono _ _ _
   | exact haulageref08_SameTable.mono _ _ _ _ _ _ _ _ _ _ _
   | exact schema_ById.mono _ _ _
   | exact schema_Col.mono _ _ _ _ _ _ _
   | exact schema_Find.mono _ _ _
   | exact schema_Key.mono _ _ _ _ _ _
   | exact schema_Same.mono _ _ _
   | exact schema_SameTable.mono _ _ _ _ _ _ _ _ _ _ _
   | exact LeO.none _
   | refine LeO.ite ?_ ?_
   | refine LeO.bind ?_ (fun _ => ?_)
def haulagelaw08_SchemaFinds.T7 : Bool × List (List Nat × List Nat) := (true, [([], []), ([], []), ([], []), ([], []), ([2, 3], [2, 3]), ([0, 1, 4, 4], [0, 1, 4]), ([5], [5]), ([6, 5], [6]), ([7], [7]), ([7], [7]), ([7], [7]), ([7], [7]), ([10, 11, 7, 7], [7, 10, 11]), ([8, 9, 12, 12, 7], [7, 8, 9, 12]), ([13, 7], [7, 13]), ([7, 14], [7, 14]), ([15, 13], [15]), ([16], [16]), ([16], [16]), ([17, 18, 16, 16], [16, 17, 18]), ([16], [16]), ([16], [16]), ([20, 21, 19, 16], [16, 20, 21]), ([19, 22, 16], [16, 19, 22]), ([16, 23], [16, 23]), ([24, 22], [24]), ([25], [25]), ([25], [25]), ([26, 27, 25, 25], [25, 26, 27]), ([28, 25], [25, 28]), ([25, 29], [25, 29])])
def haulagelaw08_SchemaFinds.B7 : List Nat := [0, 0, 0, 0, 12, 31, 63, 127, 255, 255, 255, 255, 3327, 8191, 16383, 32767, 65535, 131071, 131071, 524287, 131071, 131071, 4194303, 8388607, 16777215, 33554431, 67108863, 67108863, 268435455, 536870911, 1073741823]
theorem haulagelaw08_SchemaFinds.tab7 : rtab .any (opsOf Tryd.f8 7) = haulagelaw08_SchemaFinds.T7 := by kernel_rfl
theorem haulagelaw08_SchemaFinds.bits7 : waitsOk haulagelaw08_SchemaFinds.T7.2 haulagelaw08_SchemaFinds.B7 = true := by kernel_rfl
def haulagelaw08_SchemaFinds.T17 : Bool × List (List Nat × List Nat) := (true, [([], []), ([], []), ([1], [1]), ([2], [2]), ([0, 3], [0, 3]), ([4], [4]), ([5], [5]), ([5], [5]), ([7, 5], [5, 7]), ([5], [5]), ([8, 9, 5], [5, 8, 9]), ([10, 5], [5, 10]), ([6, 11, 5, 5], [5, 6, 11]), ([5], [5]), ([5], [5]), ([14, 5], [5, 14]), ([5], [5]), ([15, 16, 5], [5, 15, 16]), ([17, 5], [5, 17]), ([13, 18, 12, 5], [5, 13, 18]), ([12, 19, 5], [5, 12, 19]), ([5, 20], [5, 20])])
def haulagelaw08_SchemaFinds.B17 : List Nat := [0, 0, 2, 6, 15, 31, 63, 63, 191, 63, 959, 1983, 4095, 63, 63, 16447, 63, 114751, 245823, 524287, 1048575, 2097151]
theorem haulagelaw08_SchemaFinds.tab17 : rtab .any (opsOf Tryd.f8 17) = haulagelaw08_SchemaFinds.T17 := by kernel_rfl
theorem haulagelaw08_SchemaFinds.bits17 : waitsOk haulagelaw08_SchemaFinds.T17.2 haulagelaw08_SchemaFinds.B17 = true := by kernel_rfl
set_option maxHeartbeats 8000000 in
set_option maxRecDepth 100000 in
theorem haulagelaw08_SchemaFinds.calls (k : Nat) (A0_0 : Option Addr) (c0_0 : Nat) (l0_0 : List (S24)) (A1_0 : Option Addr) (c1_0 : Nat) (l1_0 : List (S24)) (a2 : ByteArray) (a3 : Int) (r : Bool) (w : World) (hr0_0 : Kd.C k24 w A0_0 l0_0.length l0_0) (hc0_0 : l0_0.length ≤ c0_0) (hr1_0 : Kd.C k24 w A1_0 l1_0.length l1_0) (hc1_0 : l1_0.length ≤ c1_0) (hG : Glob w) (h : haulagelaw08_SchemaFinds.f k l0_0 l1_0 a2 a3 = some r) :
  Calls Tryd.prog 8 #[.agg #[.slice A0_0 l0_0.length c0_0], .agg #[.slice A1_0 l1_0.length c1_0], .string a2, .int .i64 a3] w fun e w' => e = .returned (.bool r) ∧ Below w.heap.size w w' := by
 have hu46 := Tryd.underlying46
 have hu24 := Tryd.underlying24
 have HR0_0 := aM hr0_0
 have HC0_0 := aM hc0_0
 clear hr0_0 hc0_0
 have HR1_0 := aM hr1_0
 have HC1_0 := aM hc1_0
 clear hr1_0 hc1_0
 have HG := aM hG
 clear hG
 have HB := aM (Below.refl w.heap.size w)
 have H : ((haulagelaw08_lives.f k).bind fun t281 => (if t281 = true then ((haulagelaw08_FewAll.f k l0_0).bind fun t282 => (if t282 = true then ((haulagelaw08_FewAll.f k l1_0).bind fun t283 => (if t283 = true then ((haulagelaw08_short.f a2).bind fun t284 => (haulagelaw08_SchemaFinds.j0 k a2 a3 (!t284) l0_0 l1_0)) else (haulagelaw08_SchemaFinds.j0 k a2 a3 true l0_0 l1_0))) else (haulagelaw08_SchemaFinds.j0 k a2 a3 true l0_0 l1_0))) else (some false))) = some r := h
 clear h
 replace H := Option.bind_eq_some_iff.mp H
 obtain ⟨t281, A50, H⟩ := H
 replace H : (if t281 = true then ((haulagelaw08_FewAll.f k l0_0).bind fun t282 => (if t282 = true then ((haulagelaw08_FewAll.f k l1_0).bind fun t283 => (if t283 = true then ((haulagelaw08_short.f a2).bind fun t284 => (haulagelaw08_SchemaFinds.j0 k a2 a3 (!t284) l0_0 l1_0)) else (haulagelaw08_SchemaFinds.j0 k a2 a3 true l0_0 l1_0))) else (haulagelaw08_SchemaFinds.j0 k a2 a3 true l0_0 l1_0))) else (some false)) = some r := H
 have A5 := aM A50
 clear A50
 by_cases c6 : t281 = true
 ·
  subst c6
  have H1 : ((haulagelaw08_FewAll.f k l0_0).bind fun t282 => (if t282 = true then ((haulagelaw08_FewAll.f k l1_0).bind fun t283 => (if t283 = true then ((haulagelaw08_short.f a2).bind fun t284 => (haulagelaw08_SchemaFinds.j0 k a2 a3 (!t284) l0_0 l1_0)) else (haulagelaw08_SchemaFinds.j0 k a2 a3 true l0_0 l1_0))) else (haulagelaw08_SchemaFinds.j0 k a2 a3 true l0_0 l1_0))) = some r := by rw [if_pos rfl] at H; exact H
  clear H
  have H := H1
  clear H1
  have HC7 := aM H
  clear H
  go_enter Tryd.func8, Tryd.ntmps8
  go_upto_region 3 with (first | ((with_reducible refine gate_dst (N := 4) rfl ?_); refine box_event ?hg (N := 4) ?hd (cs := #[.slice A0_0 l0_0.length c0_0]) (t := 46) ?hr ?_; (case hd => rfl); (case hg => rfl); (case hr => first | (go_simp; done) | (go_simp; rfl)); intro gb279 hg w8 hbox hb; have n0_ := aM (bP (by repeat (first | (with_reducible first | exact HB.out | apply bA | apply bN | apply b1) | exact HB.out)) hb); have n1_ := aM (hbox); have n2_ := aM ((by rw [hg]; exact (bZ (by repeat (first | (with_reducible first | exact HB.out | apply bA | apply bN | apply b1) | exact HB.out))) : w.heap.size ≤ gb279)); have n3_ := aM ((by rw [hg]; exact (bZ (by repeat (first | (with_reducible first | exact HB.out | apply bA | apply bN | apply b1) | exact HB.out))) : w.heap.size ≤ gb279)); clear HB; have HB := n0_; have BK279 := n1_; have GW279 := n2_; have GE279 := n3_; clear n0_ n1_ n2_ n3_; clear hb hbox hg) | ((with_reducible refine gate_dst (N := 5) rfl ?_); refine box_event ?hg (N := 5) ?hd (cs := #[.slice A1_0 l1_0.length c1_0]) (t := 46) ?hr ?_; (case hd => rfl); (case hg => rfl); (case hr => first | (go_simp; done) | (go_simp; rfl)); intro gb280 hg w9 hbox hb; have n0_ := aM (kB (g := gb279) (o := .cells #[.slice A0_0 l0_0.length c0_0] 46 (0, 0)) (by (with_reducible repeat (first | refine kN ?_ _ | refine kD ?_ | refine kA ?_ _)); exact BK279.out) hb); have n1_ := aM (bP (by repeat (first | (with_reducible first | exact HB.out | apply bA | apply bN | apply b1 | refine bS ?_ GE279.out) | exact HB.out)) hb); have n2_ := aM (hbox); have n3_ := aM ((by rw [hg]; exact (bZ (by repeat (first | (with_reducible first | exact HB.out | apply bA | apply bN | apply b1 | refine bS ?_ GE279.out) | exact HB.out))) : w.heap.size ≤ gb280)); have n4_ := aM ((by rw [hg]; exact (bZ (by repeat (first | (with_reducible first | exact HB.out | apply bA | apply bN | apply b1 | refine bS ?_ GE279.out) | exact HB.out))) : w.heap.size ≤ gb280)); have n5_ := aM ((by rw [hg]; exact Nat.ne_of_lt (blk_lt (g := gb279) (o := .cells #[.slice A0_0 l0_0.length c0_0] 46 (0, 0)) (by (with_reducible repeat (first | refine kN ?_ _ | refine kD ?_ | refine kA ?_ _)); exact BK279.out)) : gb279 ≠ gb280)); have n6_ := aM ((by rw [hg]; exact Nat.ne_of_gt (blk_lt (g := gb279) (o := .cells #[.slice A0_0 l0_0.length c0_0] 46 (0, 0)) (by (with_reducible repeat (first | refine kN ?_ _ | refine kD ?_ | refine kA ?_ _)); exact BK279.out)) : gb280 ≠ gb279)); clear BK279; clear HB; have BK279 := n0_; have HB := n1_; have BK280 := n2_; have GW280 := n3_; have GE280 := n4_; have NB279_280 := n5_; have NB280_279 := n6_; clear n0_ n1_ n2_ n3_ n4_ n5_ n6_; clear hb hbox hg) | ((with_reducible refine gate_callee (f := 19) rfl ?_); refine goesL_ (some 19) rfl rfl Tryd.func19 (by kernel_rfl) rfl #[] rfl (by (try simp only [List.map_toArray, List.map_cons, List.map_nil]); first | done | rfl | (simp only [List.length_drop, List.length_take]; rfl)) ?_; (with_reducible refine (haulagelaw08_lives.calls k  true _ ?side1 A5.out).mono ?_); (case side1 => first | (with_reducible exact HG.out) | exact Glob.below HG.out (by repeat (first | (with_reducible first | exact HB.out | apply bA | apply bN | apply b1 | refine bS ?_ GE279.out | refine bS ?_ GE280.out) | exact HB.out))); rintro e w10 ⟨rfl, hb⟩; refine ⟨_, rfl, ?_⟩; have n0_ := aM (kB (g := gb279) (o := .cells #[.slice A0_0 l0_0.length c0_0] 46 (0, 0)) (by (with_reducible repeat (first | refine kN ?_ _ | refine kD ?_ | refine kA ?_ _)); exact BK279.out) hb); have n1_ := aM (kB (g := gb280) (o := .cells #[.slice A1_0 l1_0.length c1_0] 46 (0, 0)) (by (with_reducible repeat (first | refine kN ?_ _ | refine kD ?_ | refine kA ?_ _)); exact BK280.out) hb); have n2_ := aM (bP (by repeat (first | (with_reducible first | exact HB.out | apply bA | apply bN | apply b1 | refine bS ?_ GE279.out | refine bS ?_ GE280.out) | exact HB.out)) hb); clear BK279; clear BK280; clear HB; have BK279 := n0_; have BK280 := n1_; have HB := n2_; clear n0_ n1_ n2_; (try clear hb); (try clear hb2); (try clear hk); (try clear hi)))
  (try simp only [Act.put, s1_, s2_, s3_])
  go_cut [33] (fun v33 wc => ∃ (kq : Nat) (x33_6 : Bool), v33 = .bool x33_6 ∧ Aside0 (haulagelaw08_SchemaFinds.j0 kq a2 a3 x33_6 l0_0 l1_0 = some r) ∧ Aside0 (kq ≤ k) ∧ Aside0 (wc.heap[gb279]? = some (.cells #[(.slice A0_0 l0_0.length c0_0)] 46 (0, 0))) ∧ Aside0 (wc.heap[gb280]? = some (.cells #[(.slice A1_0 l1_0.length c1_0)] 46 (0, 0))) ∧ Aside0 (Below w.heap.size w wc))
  case first =>
   have H := HC7.out
   clear HC7
   replace H := Option.bind_eq_some_iff.mp H
   obtain ⟨t282, A110, H⟩ := H
   replace H : (if t282 = true then ((haulagelaw08_FewAll.f k l1_0).bind fun t283 => (if t283 = true then ((haulagelaw08_short.f a2).bind fun t284 => (haulagelaw08_SchemaFinds.j0 k a2 a3 (!t284) l0_0 l1_0)) else (haulagelaw08_SchemaFinds.j0 k a2 a3 true l0_0 l1_0))) else (haulagelaw08_SchemaFinds.j0 k a2 a3 true l0_0 l1_0)) = some r := H
   have A11 := aM A110
   clear A110
   by_cases c12 : t282 = true
   ·
    subst c12
    have H1 : ((haulagelaw08_FewAll.f k l1_0).bind fun t283 => (if t283 = true then ((haulagelaw08_short.f a2).bind fun t284 => (haulagelaw08_SchemaFinds.j0 k a2 a3 (!t284) l0_0 l1_0)) else (haulagelaw08_SchemaFinds.j0 k a2 a3 true l0_0 l1_0))) = some r := by rw [if_pos rfl] at H; exact H
    clear H
    have H := H1
    clear H1
    replace H := Option.bind_eq_some_iff.mp H
    obtain ⟨t283, A130, H⟩ := H
    replace H : (if t283 = true then ((haulagelaw08_short.f a2).bind fun t284 => (haulagelaw08_SchemaFinds.j0 k a2 a3 (!t284) l0_0 l1_0)) else (haulagelaw08_SchemaFinds.j0 k a2 a3 true l0_0 l1_0)) = some r := H
    have A13 := aM A130
    clear A130
    by_cases c14 : t283 = true
    ·
     subst c14
     have H1 : ((haulagelaw08_short.f a2).bind fun t284 => (haulagelaw08_SchemaFinds.j0 k a2 a3 (!t284) l0_0 l1_0)) = some r := by rw [if_pos rfl] at H; exact H
     clear H
     have H := H1
     clear H1
     replace H := Option.bind_eq_some_iff.mp H
     obtain ⟨t284, A150, H⟩ := H
     replace H : (haulagelaw08_SchemaFinds.j0 k a2 a3 (!t284) l0_0 l1_0) = some r := H
     have A15 := aM A150
     clear A150
     have H' := aM H
     clear H
     have hnb16 := NB279_280.out
     have hnc16 := NB280_279.out
     obtain ⟨hcz17_0, hfz17_0⟩ := cells1 BK279.out
     go_wp2_with (first | ((with_reducible refine gate_callee (f := 25) rfl ?_); refine goesL_ (some 22) rfl rfl Tryd.func25 (by kernel_rfl) rfl #[.agg #[.slice A0_0 l0_0.length c0_0]] rfl (by (try simp only [List.map_toArray, List.map_cons, List.map_nil]); first | done | rfl | (simp only [List.length_drop, List.length_take]; rfl)) ?_; (with_reducible refine (haulagelaw08_FewAll.calls k _ _ l0_0 true _ ?side1 ?side2 A11.out).mono ?_); (case side1 => repeat (first | exact (Kd.C_below HR0_0.out HB.out) | (with_reducible refine Kd.C_alloc ?_ _) | (with_reducible refine Kd.C_drewN ?_ _) | (with_reducible refine Kd.C_drew ?_))); (case side2 => exact HC0_0.out); rintro e w18 ⟨rfl, hb⟩; refine ⟨_, rfl, ?_⟩; have n0_ := aM (kB (g := gb279) (o := .cells #[.slice A0_0 l0_0.length c0_0] 46 (0, 0)) (by (with_reducible repeat (first | refine kN ?_ _ | refine kD ?_ | refine kA ?_ _)); exact BK279.out) hb); have n1_ := aM (kB (g := gb280) (o := .cells #[.slice A1_0 l1_0.length c1_0] 46 (0, 0)) (by (with_reducible repeat (first | refine kN ?_ _ | refine kD ?_ | refine kA ?_ _)); exact BK280.out) hb); have n2_ := aM (bP (by repeat (first | (with_reducible first | exact HB.out | apply bA | apply bN | apply b1 | refine bS ?_ GE279.out | refine bS ?_ GE280.out) | exact HB.out)) hb); clear BK279; clear BK280; clear HB; have BK279 := n0_; have BK280 := n1_; have HB := n2_; clear n0_ n1_ n2_; (try clear hb); (try clear hb2); (try clear hk); (try clear hi); obtain ⟨hcz19_0, hfz19_0⟩ := cells1 BK280.out) | (go_at_call 25; (with_reducible refine (haulagelaw08_FewAll.calls k _ _ l1_0 true _ ?side1 ?side2 A13.out).mono ?_); (case side1 => repeat (first | exact (Kd.C_below HR1_0.out HB.out) | (with_reducible refine Kd.C_alloc ?_ _) | (with_reducible refine Kd.C_drewN ?_ _) | (with_reducible refine Kd.C_drew ?_))); (case side2 => exact HC1_0.out); rintro e w20 ⟨rfl, hb⟩; have n0_ := aM (kB (g := gb279) (o := .cells #[.slice A0_0 l0_0.length c0_0] 46 (0, 0)) (by (with_reducible repeat (first | refine kN ?_ _ | refine kD ?_ | refine kA ?_ _)); exact BK279.out) hb); have n1_ := aM (kB (g := gb280) (o := .cells #[.slice A1_0 l1_0.length c1_0] 46 (0, 0)) (by (with_reducible repeat (first | refine kN ?_ _ | refine kD ?_ | refine kA ?_ _)); exact BK280.out) hb); have n2_ := aM (bP (by repeat (first | (with_reducible first | exact HB.out | apply bA | apply bN | apply b1 | refine bS ?_ GE279.out | refine bS ?_ GE280.out) | exact HB.out)) hb); clear BK279; clear BK280; clear HB; have BK279 := n0_; have BK280 := n1_; have HB := n2_; clear n0_ n1_ n2_; (try clear hb); (try clear hb2); (try clear hk); (try clear hi)) | (go_at_call 38; (with_reducible refine (haulagelaw08_short.calls a2 t284 _ A15.out).mono ?_); rintro e w' ⟨rfl, ⟨nd, rfl⟩⟩))
     go_meet
     case rel => exact ⟨_, (!t284), (by first | rfl | (simp; done) | (simp [*]; done)), H', ⟨by first | omega | exact Nat.le_refl _⟩, ⟨by (with_reducible repeat (first | refine kN ?_ _ | refine kD ?_ | refine kA ?_ _)); exact BK279.out⟩, ⟨by (with_reducible repeat (first | refine kN ?_ _ | refine kD ?_ | refine kA ?_ _)); exact BK280.out⟩, ⟨by repeat (first | (with_reducible first | exact HB.out | apply bA | apply bN | apply b1 | refine bS ?_ GE279.out | refine bS ?_ GE280.out) | exact HB.out)⟩⟩
    ·
     replace c14 := Bool.eq_false_iff.mpr c14
     subst c14
     have H1 : (haulagelaw08_SchemaFinds.j0 k a2 a3 true l0_0 l1_0) = some r := by rw [if_neg (show ¬ (false = true) by decide)] at H; exact H
     clear H
     have H := H1
     clear H1
     have H' := aM H
     clear H
     have hnb21 := NB279_280.out
     have hnc21 := NB280_279.out
     obtain ⟨hcz22_0, hfz22_0⟩ := cells1 BK279.out
     go_wp2_with (first | ((with_reducible refine gate_callee (f := 25) rfl ?_); refine goesL_ (some 22) rfl rfl Tryd.func25 (by kernel_rfl) rfl #[.agg #[.slice A0_0 l0_0.length c0_0]] rfl (by (try simp only [List.map_toArray, List.map_cons, List.map_nil]); first | done | rfl | (simp only [List.length_drop, List.length_take]; rfl)) ?_; (with_reducible refine (haulagelaw08_FewAll.calls k _ _ l0_0 true _ ?side1 ?side2 A11.out).mono ?_); (case side1 => repeat (first | exact (Kd.C_below HR0_0.out HB.out) | (with_reducible refine Kd.C_alloc ?_ _) | (with_reducible refine Kd.C_drewN ?_ _) | (with_reducible refine Kd.C_drew ?_))); (case side2 => exact HC0_0.out); rintro e w23 ⟨rfl, hb⟩; refine ⟨_, rfl, ?_⟩; have n0_ := aM (kB (g := gb279) (o := .cells #[.slice A0_0 l0_0.length c0_0] 46 (0, 0)) (by (with_reducible repeat (first | refine kN ?_ _ | refine kD ?_ | refine kA ?_ _)); exact BK279.out) hb); have n1_ := aM (kB (g := gb280) (o := .cells #[.slice A1_0 l1_0.length c1_0] 46 (0, 0)) (by (with_reducible repeat (first | refine kN ?_ _ | refine kD ?_ | refine kA ?_ _)); exact BK280.out) hb); have n2_ := aM (bP (by repeat (first | (with_reducible first | exact HB.out | apply bA | apply bN | apply b1 | refine bS ?_ GE279.out | refine bS ?_ GE280.out) | exact HB.out)) hb); clear BK279; clear BK280; clear HB; have BK279 := n0_; have BK280 := n1_; have HB := n2_; clear n0_ n1_ n2_; (try clear hb); (try clear hb2); (try clear hk); (try clear hi); obtain ⟨hcz24_0, hfz24_0⟩ := cells1 BK280.out) | (go_at_call 25; (with_reducible refine (haulagelaw08_FewAll.calls k _ _ l1_0 false _ ?side1 ?side2 A13.out).mono ?_); (case side1 => repeat (first | exact (Kd.C_below HR1_0.out HB.out) | (with_reducible refine Kd.C_alloc ?_ _) | (with_reducible refine Kd.C_drewN ?_ _) | (with_reducible refine Kd.C_drew ?_))); (case side2 => exact HC1_0.out); rintro e w25 ⟨rfl, hb⟩; have n0_ := aM (kB (g := gb279) (o := .cells #[.slice A0_0 l0_0.length c0_0] 46 (0, 0)) (by (with_reducible repeat (first | refine kN ?_ _ | refine kD ?_ | refine kA ?_ _)); exact BK279.out) hb); have n1_ := aM (kB (g := gb280) (o := .cells #[.slice A1_0 l1_0.length c1_0] 46 (0, 0)) (by (with_reducible repeat (first | refine kN ?_ _ | refine kD ?_ | refine kA ?_ _)); exact BK280.out) hb); have n2_ := aM (bP (by repeat (first | (with_reducible first | exact HB.out | apply bA | apply bN | apply b1 | refine bS ?_ GE279.out | refine bS ?_ GE280.out) | exact HB.out)) hb); clear BK279; clear BK280; clear HB; have BK279 := n0_; have BK280 := n1_; have HB := n2_; clear n0_ n1_ n2_; (try clear hb); (try clear hb2); (try clear hk); (try clear hi)))
     go_meet
     case rel => exact ⟨_, (true), (by first | rfl | (simp; done) | (simp [*]; done)), H', ⟨by first | omega | exact Nat.le_refl _⟩, ⟨by (with_reducible repeat (first | refine kN ?_ _ | refine kD ?_ | refine kA ?_ _)); exact BK279.out⟩, ⟨by (with_reducible repeat (first | refine kN ?_ _ | refine kD ?_ | refine kA ?_ _)); exact BK280.out⟩, ⟨by repeat (first | (with_reducible first | exact HB.out | apply bA | apply bN | apply b1 | refine bS ?_ GE279.out | refine bS ?_ GE280.out) | exact HB.out)⟩⟩
   ·
    replace c12 := Bool.eq_false_iff.mpr c12
    subst c12
    have H1 : (haulagelaw08_SchemaFinds.j0 k a2 a3 true l0_0 l1_0) = some r := by rw [if_neg (show ¬ (false = true) by decide)] at H; exact H
    clear H
    have H := H1
    clear H1
    have H' := aM H
    clear H
    have hnb26 := NB279_280.out
    have hnc26 := NB280_279.out
    obtain ⟨hcz27_0, hfz27_0⟩ := cells1 BK279.out
    go_wp2_with (first | ((with_reducible refine gate_callee (f := 25) rfl ?_); refine goesL_ (some 22) rfl rfl Tryd.func25 (by kernel_rfl) rfl #[.agg #[.slice A0_0 l0_0.length c0_0]] rfl (by (try simp only [List.map_toArray, List.map_cons, List.map_nil]); first | done | rfl | (simp only [List.length_drop, List.length_take]; rfl)) ?_; (with_reducible refine (haulagelaw08_FewAll.calls k _ _ l0_0 false _ ?side1 ?side2 A11.out).mono ?_); (case side1 => repeat (first | exact (Kd.C_below HR0_0.out HB.out) | (with_reducible refine Kd.C_alloc ?_ _) | (with_reducible refine Kd.C_drewN ?_ _) | (with_reducible refine Kd.C_drew ?_))); (case side2 => exact HC0_0.out); rintro e w28 ⟨rfl, hb⟩; refine ⟨_, rfl, ?_⟩; have n0_ := aM (kB (g := gb279) (o := .cells #[.slice A0_0 l0_0.length c0_0] 46 (0, 0)) (by (with_reducible repeat (first | refine kN ?_ _ | refine kD ?_ | refine kA ?_ _)); exact BK279.out) hb); have n1_ := aM (kB (g := gb280) (o := .cells #[.slice A1_0 l1_0.length c1_0] 46 (0, 0)) (by (with_reducible repeat (first | refine kN ?_ _ | refine kD ?_ | refine kA ?_ _)); exact BK280.out) hb); have n2_ := aM (bP (by repeat (first | (with_reducible first | exact HB.out | apply bA | apply bN | apply b1 | refine bS ?_ GE279.out | refine bS ?_ GE280.out) | exact HB.out)) hb); clear BK279; clear BK280; clear HB; have BK279 := n0_; have BK280 := n1_; have HB := n2_; clear n0_ n1_ n2_; (try clear hb); (try clear hb2); (try clear hk); (try clear hi)))
    go_meet
    case rel => exact ⟨_, (true), (by first | rfl | (simp; done) | (simp [*]; done)), H', ⟨by first | omega | exact Nat.le_refl _⟩, ⟨by (with_reducible repeat (first | refine kN ?_ _ | refine kD ?_ | refine kA ?_ _)); exact BK279.out⟩, ⟨by (with_reducible repeat (first | refine kN ?_ _ | refine kD ?_ | refine kA ?_ _)); exact BK280.out⟩, ⟨by repeat (first | (with_reducible first | exact HB.out | apply bA | apply bN | apply b1 | refine bS ?_ GE279.out | refine bS ?_ GE280.out) | exact HB.out)⟩⟩
  case rest =>
   clear HC7
   try clear c1
   try clear c2
   try clear p2
   try clear c6
   try clear c8
   try clear c12
   try clear c14
   try clear c16
   try clear c19
   try clear c21
   try clear c25
   try clear c26
   try clear hcz17_0
   try clear hcz19_0
   try clear hcz22_0
   try clear hcz24_0
   try clear hcz27_0
   try clear hfz17_0
   try clear hfz19_0
   try clear hfz22_0
   try clear hfz24_0
   try clear hfz27_0
   obtain ⟨kq, x33_6, rfl, HA, HJ6, BK279, BK280, HB⟩ := hcut
   cases kq with
   | zero => exact absurd HA.out (by simp [haulagelaw08_SchemaFinds.j0])
   | succ kj6 =>
    have H := HA.out
    clear HA
    simp only [haulagelaw08_SchemaFinds.j0] at H
    by_cases c29 : x33_6 = true
    ·
     subst c29
     have H1 : (some true) = some r := by rw [if_pos rfl] at H; exact H
     clear H
     have H := H1
     clear H1
     obtain rfl := Option.some.inj H
     go_wp2
     go_ret
     exact ⟨by first | rfl | (simp [errW_none, errW_some] <;> rfl) | (simp [*, errW_none, errW_some] <;> rfl), by repeat (first | (with_reducible first | exact HB.out | apply bA | apply bN | apply b1 | refine bS ?_ GE279.out | refine bS ?_ GE280.out) | exact HB.out)⟩
    ·
     replace c29 := Bool.eq_false_iff.mpr c29
     subst c29
     have H1 : ((schema_Find.f kj6 l0_0 a2).bind fun bt285 => ((schema_ById.f kj6 l0_0 a3).bind fun bt287 => ((haulageref08_Find.f kj6 l0_0 a2).bind fun t289 => ((haulagelaw08_found.f bt285.1 bt285.2 t289).bind fun t290 => (if t290 = true then ((haulageref08_ById.f kj6 l0_0 a3).bind fun t291 => ((haulagelaw08_found.f bt287.1 bt287.2 t291).bind fun t292 => (if t292 = true then ((schema_Same.f kj6 l0_0 l1_0).bind fun t293 => ((haulageref08_Same.f kj6 l0_0 l1_0).bind fun t294 => (if (t293 != t294) = true then (haulagelaw08_SchemaFinds.j1 kj6 a2 true l0_0 l1_0) else ((schema_Same.f kj6 l0_0 l0_0).bind fun t295 => (haulagelaw08_SchemaFinds.j1 kj6 a2 (!t295) l0_0 l1_0))))) else (haulagelaw08_SchemaFinds.j1 kj6 a2 true l0_0 l1_0)))) else (haulagelaw08_SchemaFinds.j1 kj6 a2 true l0_0 l1_0)))))) = some r := by rw [if_neg (show ¬ (false = true) by decide)] at H; exact H
     clear H
     have H := H1
     clear H1
     replace H := Option.bind_eq_some_iff.mp H
     obtain ⟨⟨t285, t286⟩, A300, H⟩ := H
     replace H : ((schema_ById.f kj6 l0_0 a3).bind fun bt287 => ((haulageref08_Find.f kj6 l0_0 a2).bind fun t289 => ((haulagelaw08_found.f t285 t286 t289).bind fun t290 => (if t290 = true then ((haulageref08_ById.f kj6 l0_0 a3).bind fun t291 => ((haulagelaw08_found.f bt287.1 bt287.2 t291).bind fun t292 => (if t292 = true then ((schema_Same.f kj6 l0_0 l1_0).bind fun t293 => ((haulageref08_Same.f kj6 l0_0 l1_0).bind fun t294 => (if (t293 != t294) = true then (haulagelaw08_SchemaFinds.j1 kj6 a2 true l0_0 l1_0) else ((schema_Same.f kj6 l0_0 l0_0).bind fun t295 => (haulagelaw08_SchemaFinds.j1 kj6 a2 (!t295) l0_0 l1_0))))) else (haulagelaw08_SchemaFinds.j1 kj6 a2 true l0_0 l1_0)))) else (haulagelaw08_SchemaFinds.j1 kj6 a2 true l0_0 l1_0))))) = some r := H
     have A30 := aM A300
     clear A300
     replace H := Option.bind_eq_some_iff.mp H
     obtain ⟨⟨t287, t288⟩, A310, H⟩ := H
     replace H : ((haulageref08_Find.f kj6 l0_0 a2).bind fun t289 => ((haulagelaw08_found.f t285 t286 t289).bind fun t290 => (if t290 = true then ((haulageref08_ById.f kj6 l0_0 a3).bind fun t291 => ((haulagelaw08_found.f t287 t288 t291).bind fun t292 => (if t292 = true then ((schema_Same.f kj6 l0_0 l1_0).bind fun t293 => ((haulageref08_Same.f kj6 l0_0 l1_0).bind fun t294 => (if (t293 != t294) = true then (haulagelaw08_SchemaFinds.j1 kj6 a2 true l0_0 l1_0) else ((schema_Same.f kj6 l0_0 l0_0).bind fun t295 => (haulagelaw08_SchemaFinds.j1 kj6 a2 (!t295) l0_0 l1_0))))) else (haulagelaw08_SchemaFinds.j1 kj6 a2 true l0_0 l1_0)))) else (haulagelaw08_SchemaFinds.j1 kj6 a2 true l0_0 l1_0)))) = some r := H
     have A31 := aM A310
     clear A310
     have HC32 := aM H
     clear H
     have hnb33 := NB279_280.out
     have hnc33 := NB280_279.out
     obtain ⟨hcz34_0, hfz34_0⟩ := cells1 BK279.out
     go_upto_region 7 with (first | ((with_reducible refine gate_callee (f := 39) rfl ?_); refine goesL_ (some 37) rfl rfl Tryd.func39 (by kernel_rfl) rfl #[.agg #[.slice A0_0 l0_0.length c0_0], .string a2] rfl (by (try simp only [List.map_toArray, List.map_cons, List.map_nil]); first | done | rfl | (simp only [List.length_drop, List.length_take]; rfl)) ?_; (with_reducible refine (schema_Find.calls kj6 _ _ l0_0 a2 t285 t286 _ ?side1 ?side2 A30.out).mono ?_); (case side1 => repeat (first | exact (Kd.C_below HR0_0.out HB.out) | (with_reducible refine Kd.C_alloc ?_ _) | (with_reducible refine Kd.C_drewN ?_ _) | (with_reducible refine Kd.C_drew ?_))); (case side2 => exact HC0_0.out); rintro e w35 ⟨rfl, hb⟩; refine ⟨_, rfl, ?_⟩; have n0_ := aM (kB (g := gb279) (o := .cells #[.slice A0_0 l0_0.length c0_0] 46 (0, 0)) (by (with_reducible repeat (first | refine kN ?_ _ | refine kD ?_ | refine kA ?_ _)); exact BK279.out) hb); have n1_ := aM (kB (g := gb280) (o := .cells #[.slice A1_0 l1_0.length c1_0] 46 (0, 0)) (by (with_reducible repeat (first | refine kN ?_ _ | refine kD ?_ | refine kA ?_ _)); exact BK280.out) hb); have n2_ := aM (bP (by repeat (first | (with_reducible first | exact HB.out | apply bA | apply bN | apply b1 | refine bS ?_ GE279.out | refine bS ?_ GE280.out) | exact HB.out)) hb); clear BK279; clear BK280; clear HB; have BK279 := n0_; have BK280 := n1_; have HB := n2_; clear n0_ n1_ n2_; (try clear hb); (try clear hb2); (try clear hk); (try clear hi); obtain ⟨hcz36_0, hfz36_0⟩ := cells1 BK279.out) | ((with_reducible refine gate_callee (f := 40) rfl ?_); refine goesL_ (some 43) rfl rfl Tryd.func40 (by kernel_rfl) rfl #[.agg #[.slice A0_0 l0_0.length c0_0], .int .i64 a3] rfl (by (try simp only [List.map_toArray, List.map_cons, List.map_nil]); first | done | rfl | (simp only [List.length_drop, List.length_take]; rfl)) ?_; (with_reducible refine (schema_ById.calls kj6 _ _ l0_0 a3 t287 t288 _ ?side1 ?side2 A31.out).mono ?_); (case side1 => repeat (first | exact (Kd.C_below HR0_0.out HB.out) | (with_reducible refine Kd.C_alloc ?_ _) | (with_reducible refine Kd.C_drewN ?_ _) | (with_reducible refine Kd.C_drew ?_))); (case side2 => exact HC0_0.out); rintro e w37 ⟨rfl, hb⟩; refine ⟨_, rfl, ?_⟩; have n0_ := aM (kB (g := gb279) (o := .cells #[.slice A0_0 l0_0.length c0_0] 46 (0, 0)) (by (with_reducible repeat (first | refine kN ?_ _ | refine kD ?_ | refine kA ?_ _)); exact BK279.out) hb); have n1_ := aM (kB (g := gb280) (o := .cells #[.slice A1_0 l1_0.length c1_0] 46 (0, 0)) (by (with_reducible repeat (first | refine kN ?_ _ | refine kD ?_ | refine kA ?_ _)); exact BK280.out) hb); have n2_ := aM (bP (by repeat (first | (with_reducible first | exact HB.out | apply bA | apply bN | apply b1 | refine bS ?_ GE279.out | refine bS ?_ GE280.out) | exact HB.out)) hb); clear BK279; clear BK280; clear HB; have BK279 := n0_; have BK280 := n1_; have HB := n2_; clear n0_ n1_ n2_; (try clear hb); (try clear hb2); (try clear hk); (try clear hi)))
     (try simp only [Act.put, s1_, s2_, s3_])
     go_cut [76] (fun v76 wc => ∃ (kq : Nat) (x76_31 : Bool), v76 = .bool x76_31 ∧ Aside0 (haulagelaw08_SchemaFinds.j1 kq a2 x76_31 l0_0 l1_0 = some r) ∧ Aside0 (kq ≤ kj6) ∧ Aside0 (wc.heap[gb279]? = some (.cells #[(.slice A0_0 l0_0.length c0_0)] 46 (0, 0))) ∧ Aside0 (wc.heap[gb280]? = some (.cells #[(.slice A1_0 l1_0.length c1_0)] 46 (0, 0))) ∧ Aside0 (Below w.heap.size w wc))
     case first =>
      have H := HC32.out
      clear HC32
      replace H := Option.bind_eq_some_iff.mp H
      obtain ⟨t289, A380, H⟩ := H
      replace H : ((haulagelaw08_found.f t285 t286 t289).bind fun t290 => (if t290 = true then ((haulageref08_ById.f kj6 l0_0 a3).bind fun t291 => ((haulagelaw08_found.f t287 t288 t291).bind fun t292 => (if t292 = true then ((schema_Same.f kj6 l0_0 l1_0).bind fun t293 => ((haulageref08_Same.f kj6 l0_0 l1_0).bind fun t294 => (if (t293 != t294) = true then (haulagelaw08_SchemaFinds.j1 kj6 a2 true l0_0 l1_0) else ((schema_Same.f kj6 l0_0 l0_0).bind fun t295 => (haulagelaw08_SchemaFinds.j1 kj6 a2 (!t295) l0_0 l1_0))))) else (haulagelaw08_SchemaFinds.j1 kj6 a2 true l0_0 l1_0)))) else (haulagelaw08_SchemaFinds.j1 kj6 a2 true l0_0 l1_0))) = some r := H
      have A38 := aM A380
      clear A380
      replace H := Option.bind_eq_some_iff.mp H
      obtain ⟨t290, A390, H⟩ := H
      replace H : (if t290 = true then ((haulageref08_ById.f kj6 l0_0 a3).bind fun t291 => ((haulagelaw08_found.f t287 t288 t291).bind fun t292 => (if t292 = true then ((schema_Same.f kj6 l0_0 l1_0).bind fun t293 => ((haulageref08_Same.f kj6 l0_0 l1_0).bind fun t294 => (if (t293 != t294) = true then (haulagelaw08_SchemaFinds.j1 kj6 a2 true l0_0 l1_0) else ((schema_Same.f kj6 l0_0 l0_0).bind fun t295 => (haulagelaw08_SchemaFinds.j1 kj6 a2 (!t295) l0_0 l1_0))))) else (haulagelaw08_SchemaFinds.j1 kj6 a2 true l0_0 l1_0)))) else (haulagelaw08_SchemaFinds.j1 kj6 a2 true l0_0 l1_0)) = some r := H
      have A39 := aM A390
      clear A390
      by_cases c40 : t290 = true
      ·
       subst c40
       have H1 : ((haulageref08_ById.f kj6 l0_0 a3).bind fun t291 => ((haulagelaw08_found.f t287 t288 t291).bind fun t292 => (if t292 = true then ((schema_Same.f kj6 l0_0 l1_0).bind fun t293 => ((haulageref08_Same.f kj6 l0_0 l1_0).bind fun t294 => (if (t293 != t294) = true then (haulagelaw08_SchemaFinds.j1 kj6 a2 true l0_0 l1_0) else ((schema_Same.f kj6 l0_0 l0_0).bind fun t295 => (haulagelaw08_SchemaFinds.j1 kj6 a2 (!t295) l0_0 l1_0))))) else (haulagelaw08_SchemaFinds.j1 kj6 a2 true l0_0 l1_0)))) = some r := by rw [if_pos rfl] at H; exact H
       clear H
       have H := H1
       clear H1
       replace H := Option.bind_eq_some_iff.mp H
       obtain ⟨t291, A410, H⟩ := H
       replace H : ((haulagelaw08_found.f t287 t288 t291).bind fun t292 => (if t292 = true then ((schema_Same.f kj6 l0_0 l1_0).bind fun t293 => ((haulageref08_Same.f kj6 l0_0 l1_0).bind fun t294 => (if (t293 != t294) = true then (haulagelaw08_SchemaFinds.j1 kj6 a2 true l0_0 l1_0) else ((schema_Same.f kj6 l0_0 l0_0).bind fun t295 => (haulagelaw08_SchemaFinds.j1 kj6 a2 (!t295) l0_0 l1_0))))) else (haulagelaw08_SchemaFinds.j1 kj6 a2 true l0_0 l1_0))) = some r := H
       have A41 := aM A410
       clear A410
       replace H := Option.bind_eq_some_iff.mp H
       obtain ⟨t292, A420, H⟩ := H
       replace H : (if t292 = true then ((schema_Same.f kj6 l0_0 l1_0).bind fun t293 => ((haulageref08_Same.f kj6 l0_0 l1_0).bind fun t294 => (if (t293 != t294) = true then (haulagelaw08_SchemaFinds.j1 kj6 a2 true l0_0 l1_0) else ((schema_Same.f kj6 l0_0 l0_0).bind fun t295 => (haulagelaw08_SchemaFinds.j1 kj6 a2 (!t295) l0_0 l1_0))))) else (haulagelaw08_SchemaFinds.j1 kj6 a2 true l0_0 l1_0)) = some r := H
       have A42 := aM A420
       clear A420
       by_cases c43 : t292 = true
       ·
        subst c43
        have H1 : ((schema_Same.f kj6 l0_0 l1_0).bind fun t293 => ((haulageref08_Same.f kj6 l0_0 l1_0).bind fun t294 => (if (t293 != t294) = true then (haulagelaw08_SchemaFinds.j1 kj6 a2 true l0_0 l1_0) else ((schema_Same.f kj6 l0_0 l0_0).bind fun t295 => (haulagelaw08_SchemaFinds.j1 kj6 a2 (!t295) l0_0 l1_0))))) = some r := by rw [if_pos rfl] at H; exact H
        clear H
        have H := H1
        clear H1
        replace H := Option.bind_eq_some_iff.mp H
        obtain ⟨t293, A440, H⟩ := H
        replace H : ((haulageref08_Same.f kj6 l0_0 l1_0).bind fun t294 => (if (t293 != t294) = true then (haulagelaw08_SchemaFinds.j1 kj6 a2 true l0_0 l1_0) else ((schema_Same.f kj6 l0_0 l0_0).bind fun t295 => (haulagelaw08_SchemaFinds.j1 kj6 a2 (!t295) l0_0 l1_0)))) = some r := H
        have A44 := aM A440
        clear A440
        replace H := Option.bind_eq_some_iff.mp H
        obtain ⟨t294, A450, H⟩ := H
        replace H : (if (t293 != t294) = true then (haulagelaw08_SchemaFinds.j1 kj6 a2 true l0_0 l1_0) else ((schema_Same.f kj6 l0_0 l0_0).bind fun t295 => (haulagelaw08_SchemaFinds.j1 kj6 a2 (!t295) l0_0 l1_0))) = some r := H
        have A45 := aM A450
        clear A450
        by_cases c46 : (t293 != t294) = true
        ·
         rw [if_pos c46] at H
         have c46b0 : (t293 != t294) = true := c46
         (try (have c46b1 : decide (t293 = t294) = false := by simpa using c46))
         (try (have c46b2 : (t293 == t294) = false := by simpa using c46))
         (try (have c46b3 : ¬ (t293 = t294) := by simpa using c46))
         clear c46
         (first | rw [c46b0] | (simp only [i64_w, i32_w]; rw [c46b0]) | skip)
         have H' := aM H
         clear H
         try go_wp2
         have n0_ := aM (kD BK279.out)
         have n1_ := aM (kD BK280.out)
         have n2_ := aM (b1 HB.out)
         clear BK279
         clear BK280
         clear HB
         have BK279 := n0_
         have BK280 := n1_
         have HB := n2_
         clear n0_ n1_ n2_
         refine start_ (n := 31) (S := fun w' => w'.cell? ⟨gb279, 0, none⟩ = some (.slice A0_0 l0_0.length c0_0) ∧ w'.cell? ⟨gb280, 0, none⟩ = some (.slice A1_0 l1_0.length c1_0)) (ds := []) (tB 0 31) (by kernel_rfl) rfl rfl ⟨(blk_cell BK279.out 0).trans rfl, (blk_cell BK280.out 0).trans rfl⟩ (fun hHeld => ?_); refine with_tabW haulagelaw08_SchemaFinds.tab7 haulagelaw08_SchemaFinds.bits7 (fun HT_ HW_ => ?_)
         generalize w37.drew = w47 at BK279 BK280 HB hHeld ⊢
         refine pure_ (i := 0) (N := some 46) (v := ?_) (a' := ?_) (tB 1 31) rfl rfl (any_of HT_.out (by kernel_rfl)) (fun _ _ _ h => h) (Or.inl ⟨by rfl, ?_⟩) ?_ ?_
         rotate_left
         ·
          intro w'
          go_simp
          with_reducible rfl
         rotate_left
         ·
          simp only [Act.put, s1_, s2_, s3_, i64_w, i32_w]
          rfl
         refine pure_ (i := 1) (N := some 47) (v := ?_) (a' := ?_) (tB 3 31) rfl rfl (any_of HT_.out (by kernel_rfl)) (fun _ _ _ h => h) (Or.inl ⟨by rfl, ?_⟩) ?_ ?_
         rotate_left
         ·
          intro w'
          go_simp
          with_reducible rfl
         rotate_left
         ·
          simp only [Act.put, s1_, s2_, s3_, i64_w, i32_w]
          rfl
         refine pure_ (i := 3) (N := some 49) (v := ?_) (a' := ?_) (tB 11 31) rfl rfl (any_of HT_.out (by kernel_rfl)) (fun _ _ _ h => h) (Or.inl ⟨by rfl, ?_⟩) ?_ ?_
         rotate_left
         ·
          intro w'
          go_simp
          with_reducible rfl
         rotate_left
         ·
          simp only [Act.put, s1_, s2_, s3_, i64_w, i32_w]
          rfl
         refine take_ (i := 2) (N := some 48) (v := ?_) (a' := ?_) (tB 15 31) rfl rfl (take_ofW HT_.out HW_.out (by kernel_rfl)) (fun _ _ _ h => h) (Or.inl ⟨by rfl, ?_⟩) hHeld ?_ ?_
         rotate_left
         ·
          rintro w' ⟨s0, s1⟩
          go_simp
          with_reducible rfl
         rotate_left
         ·
          simp only [Act.put, s1_, s2_, s3_, i64_w, i32_w]
          rfl
         refine one_ (i := 4) (N := some 50) (tB 31 31) rfl rfl (one_of HT_.out (by kernel_rfl)) (by decide) (fun K hK => ?_)
         refine goes_ Tryd.func42 (by kernel_rfl) rfl #[.agg #[.slice A0_0 l0_0.length c0_0], .string a2] (by rfl) rfl rfl (by (try simp only [List.map_toArray, List.map_cons, List.map_nil]); first | done | rfl | (simp only [List.length_drop, List.length_take]; rfl)) ?_
         with_reducible refine (haulageref08_Find.calls kj6 _ _ l0_0 a2 t289 _ ?side1 ?side2 A38.out).mono ?_
         (case side1 => repeat (first | exact (Kd.C_below HR0_0.out HB.out) | (with_reducible refine Kd.C_alloc ?_ _) | (with_reducible refine Kd.C_drewN ?_ _) | (with_reducible refine Kd.C_drew ?_)))
         (case side2 => exact HC0_0.out)
         rintro e w48 ⟨rfl, hb⟩
         refine ⟨_, rfl, ?_⟩
         have n0_ := aM (kB (g := gb279) (o := .cells #[.slice A0_0 l0_0.length c0_0] 46 (0, 0)) (by (with_reducible repeat (first | refine kN ?_ _ | refine kD ?_ | refine kA ?_ _)); exact BK279.out) hb)
         have n1_ := aM (kB (g := gb280) (o := .cells #[.slice A1_0 l1_0.length c1_0] 46 (0, 0)) (by (with_reducible repeat (first | refine kN ?_ _ | refine kD ?_ | refine kA ?_ _)); exact BK280.out) hb)
         have n2_ := aM (bP (by repeat (first | (with_reducible first | exact HB.out | apply bA | apply bN | apply b1 | refine bS ?_ GE279.out | refine bS ?_ GE280.out) | exact HB.out)) hb)
         clear BK279
         clear BK280
         clear HB
         have BK279 := n0_
         have BK280 := n1_
         have HB := n2_
         clear n0_ n1_ n2_
         (try clear hb)
         (try clear hb2)
         (try clear hk)
         (try clear hi)
         refine hK.out _ _ ⟨(blk_cell BK279.out 0).trans rfl, (blk_cell BK280.out 0).trans rfl⟩ (fun hHeld => ?_)
         clear hK K
         refine norm_ (a' := ?_) ?_ ?_
         rotate_left
         ·
          show Act.put _ (some 50) _ = _
          simp only [Act.put, s1_, s2_, s3_, i64_w, i32_w]
          rfl
         refine one_ (i := 5) (N := some 51) (tB 63 31) rfl rfl (one_of HT_.out (by kernel_rfl)) (by decide) (fun K hK => ?_)
         refine goes_ Tryd.func41 (by kernel_rfl) rfl #[.int .i64 t285, .bool t286, .int .i64 t289] (by rfl) rfl rfl (by (try simp only [List.map_toArray, List.map_cons, List.map_nil]); first | done | rfl | (simp only [List.length_drop, List.length_take]; rfl)) ?_
         with_reducible refine (haulagelaw08_found.calls t285 t286 t289 true _ A39.out).mono ?_
         rintro e w' ⟨rfl, ⟨nd, rfl⟩⟩
         refine ⟨_, rfl, ?_⟩
         refine hK.out _ _ ⟨(blk_cell BK279.out 0).trans rfl, (blk_cell BK280.out 0).trans rfl⟩ (fun hHeld => ?_)
         clear hK K
         refine norm_ (a' := ?_) ?_ ?_
         rotate_left
         ·
          show Act.put _ (some 51) _ = _
          simp only [Act.put, s1_, s2_, s3_, i64_w, i32_w]
          rfl
         refine pure_ (i := 6) (N := some 52) (v := ?_) (a' := ?_) (tB 127 31) rfl rfl (any_of HT_.out (by kernel_rfl)) (fun _ _ _ h => h) (Or.inl ⟨by rfl, ?_⟩) ?_ ?_
         rotate_left
         ·
          intro w'
          go_simp
          with_reducible rfl
         rotate_left
         ·
          simp only [Act.put, s1_, s2_, s3_, i64_w, i32_w]
          rfl
         refine pure_ (i := 7) (N := some 53) (v := ?_) (a' := ?_) (tB 255 31) rfl rfl (any_of HT_.out (by kernel_rfl)) (fun _ _ _ h => h) (Or.inl ⟨by rfl, ?_⟩) ?_ ?_
         rotate_left
         ·
          intro w'
          go_simp
          with_reducible rfl
         rotate_left
         ·
          simp only [Act.put, s1_, s2_, s3_, i64_w, i32_w]
          rfl
         refine pure_ (i := 8) (N := some 54) (v := ?_) (a' := ?_) (tB 511 31) rfl rfl (any_of HT_.out (by kernel_rfl)) (fun _ _ _ h => h) (Or.inl ⟨by rfl, ?_⟩) ?_ ?_
         rotate_left
         ·
          intro w'
          go_simp
          with_reducible rfl
         rotate_left
         ·
          simp only [Act.put, s1_, s2_, s3_, i64_w, i32_w]
          rfl
         refine pure_ (i := 9) (N := some 55) (v := ?_) (a' := ?_) (tB 1023 31) rfl rfl (any_of HT_.out (by kernel_rfl)) (fun _ _ _ h => h) (Or.inl ⟨by rfl, ?_⟩) ?_ ?_
         rotate_left
         ·
          intro w'
          go_simp
          with_reducible rfl
         rotate_left
         ·
          simp only [Act.put, s1_, s2_, s3_, i64_w, i32_w]
          rfl
         refine pure_ (i := 11) (N := some 57) (v := ?_) (a' := ?_) (tB 3071 31) rfl rfl (any_of HT_.out (by kernel_rfl)) (fun _ _ _ h => h) (Or.inl ⟨by rfl, ?_⟩) ?_ ?_
         rotate_left
         ·
          intro w'
          go_simp
          with_reducible rfl
         rotate_left
         ·
          simp only [Act.put, s1_, s2_, s3_, i64_w, i32_w]
          rfl
         refine take_ (i := 10) (N := some 56) (v := ?_) (a' := ?_) (tB 4095 31) rfl rfl (take_ofW HT_.out HW_.out (by kernel_rfl)) (fun _ _ _ h => h) (Or.inl ⟨by rfl, ?_⟩) hHeld ?_ ?_
         rotate_left
         ·
          rintro w' ⟨s0, s1⟩
          go_simp
          with_reducible rfl
         rotate_left
         ·
          simp only [Act.put, s1_, s2_, s3_, i64_w, i32_w]
          rfl
         refine one_ (i := 12) (N := some 58) (tB 8191 31) rfl rfl (one_of HT_.out (by kernel_rfl)) (by decide) (fun K hK => ?_)
         refine goes_ Tryd.func43 (by kernel_rfl) rfl #[.agg #[.slice A0_0 l0_0.length c0_0], .int .i64 a3] (by rfl) rfl rfl (by (try simp only [List.map_toArray, List.map_cons, List.map_nil]); first | done | rfl | (simp only [List.length_drop, List.length_take]; rfl)) ?_
         with_reducible refine (haulageref08_ById.calls kj6 _ _ l0_0 a3 t291 _ ?side1 ?side2 A41.out).mono ?_
         (case side1 => repeat (first | exact (Kd.C_below HR0_0.out (by repeat (first | (with_reducible first | exact HB.out | apply bA | apply bN | apply b1 | refine bS ?_ GE279.out | refine bS ?_ GE280.out) | exact HB.out))) | (with_reducible refine Kd.C_alloc ?_ _) | (with_reducible refine Kd.C_drewN ?_ _) | (with_reducible refine Kd.C_drew ?_)))
         (case side2 => exact HC0_0.out)
         rintro e w49 ⟨rfl, hb⟩
         refine ⟨_, rfl, ?_⟩
         have n0_ := aM (kB (g := gb279) (o := .cells #[.slice A0_0 l0_0.length c0_0] 46 (0, 0)) (by (with_reducible repeat (first | refine kN ?_ _ | refine kD ?_ | refine kA ?_ _)); exact BK279.out) hb)
         have n1_ := aM (kB (g := gb280) (o := .cells #[.slice A1_0 l1_0.length c1_0] 46 (0, 0)) (by (with_reducible repeat (first | refine kN ?_ _ | refine kD ?_ | refine kA ?_ _)); exact BK280.out) hb)
         have n2_ := aM (bP (by repeat (first | (with_reducible first | exact HB.out | apply bA | apply bN | apply b1 | refine bS ?_ GE279.out | refine bS ?_ GE280.out) | exact HB.out)) hb)
         clear BK279
         clear BK280
         clear HB
         have BK279 := n0_
         have BK280 := n1_
         have HB := n2_
         clear n0_ n1_ n2_
         (try clear hb)
         (try clear hb2)
         (try clear hk)
         (try clear hi)
         refine hK.out _ _ ⟨(blk_cell BK279.out 0).trans rfl, (blk_cell BK280.out 0).trans rfl⟩ (fun hHeld => ?_)
         clear hK K
         refine norm_ (a' := ?_) ?_ ?_
         rotate_left
         ·
          show Act.put _ (some 58) _ = _
          simp only [Act.put, s1_, s2_, s3_, i64_w, i32_w]
          rfl
         refine one_ (i := 13) (N := some 59) (tB 16383 31) rfl rfl (one_of HT_.out (by kernel_rfl)) (by decide) (fun K hK => ?_)
         refine goes_ Tryd.func41 (by kernel_rfl) rfl #[.int .i64 t287, .bool t288, .int .i64 t291] (by rfl) rfl rfl (by (try simp only [List.map_toArray, List.map_cons, List.map_nil]); first | done | rfl | (simp only [List.length_drop, List.length_take]; rfl)) ?_
         with_reducible refine (haulagelaw08_found.calls t287 t288 t291 true _ A42.out).mono ?_
         rintro e w' ⟨rfl, ⟨nd, rfl⟩⟩
         refine ⟨_, rfl, ?_⟩
         refine hK.out _ _ ⟨(blk_cell BK279.out 0).trans rfl, (blk_cell BK280.out 0).trans rfl⟩ (fun hHeld => ?_)
         clear hK K
         refine norm_ (a' := ?_) ?_ ?_
         rotate_left
         ·
          show Act.put _ (some 59) _ = _
          simp only [Act.put, s1_, s2_, s3_, i64_w, i32_w]
          rfl
         refine pure_ (i := 14) (N := some 60) (v := ?_) (a' := ?_) (tB 32767 31) rfl rfl (any_of HT_.out (by kernel_rfl)) (fun _ _ _ h => h) (Or.inl ⟨by rfl, ?_⟩) ?_ ?_
         rotate_left
         ·
          intro w'
          go_simp
          with_reducible rfl
         rotate_left
         ·
          simp only [Act.put, s1_, s2_, s3_, i64_w, i32_w]
          rfl
         refine pure_ (i := 15) (N := some 61) (v := ?_) (a' := ?_) (tB 65535 31) rfl rfl (any_of HT_.out (by kernel_rfl)) (fun _ _ _ h => h) (Or.inl ⟨by rfl, ?_⟩) ?_ ?_
         rotate_left
         ·
          intro w'
          go_simp
          with_reducible rfl
         rotate_left
         ·
          simp only [Act.put, s1_, s2_, s3_, i64_w, i32_w]
          rfl
         refine pure_ (i := 16) (N := some 62) (v := ?_) (a' := ?_) (tB 131071 31) rfl rfl (any_of HT_.out (by kernel_rfl)) (fun _ _ _ h => h) (Or.inl ⟨by rfl, ?_⟩) ?_ ?_
         rotate_left
         ·
          intro w'
          go_simp
          with_reducible rfl
         rotate_left
         ·
          simp only [Act.put, s1_, s2_, s3_, i64_w, i32_w]
          rfl
         refine take_ (i := 17) (N := some 63) (v := ?_) (a' := ?_) (tB 262143 31) rfl rfl (take_ofW HT_.out HW_.out (by kernel_rfl)) (fun _ _ _ h => h) (Or.inl ⟨by rfl, ?_⟩) hHeld ?_ ?_
         rotate_left
         ·
          rintro w' ⟨s0, s1⟩
          go_simp
          with_reducible rfl
         rotate_left
         ·
          simp only [Act.put, s1_, s2_, s3_, i64_w, i32_w]
          rfl
         refine take_ (i := 18) (N := some 64) (v := ?_) (a' := ?_) (tB 524287 31) rfl rfl (take_ofW HT_.out HW_.out (by kernel_rfl)) (fun _ _ _ h => h) (Or.inl ⟨by rfl, ?_⟩) hHeld ?_ ?_
         rotate_left
         ·
          rintro w' ⟨s0, s1⟩
          go_simp
          with_reducible rfl
         rotate_left
         ·
          simp only [Act.put, s1_, s2_, s3_, i64_w, i32_w]
          rfl
         refine take_ (i := 20) (N := some 66) (v := ?_) (a' := ?_) (tB 1572863 31) rfl rfl (take_ofW HT_.out HW_.out (by kernel_rfl)) (fun _ _ _ h => h) (Or.inl ⟨by rfl, ?_⟩) hHeld ?_ ?_
         rotate_left
         ·
          rintro w' ⟨s0, s1⟩
          go_simp
          with_reducible rfl
         rotate_left
         ·
          simp only [Act.put, s1_, s2_, s3_, i64_w, i32_w]
          rfl
         refine take_ (i := 21) (N := some 67) (v := ?_) (a' := ?_) (tB 3670015 31) rfl rfl (take_ofW HT_.out HW_.out (by kernel_rfl)) (fun _ _ _ h => h) (Or.inl ⟨by rfl, ?_⟩) hHeld ?_ ?_
         rotate_left
         ·
          rintro w' ⟨s0, s1⟩
          go_simp
          with_reducible rfl
         rotate_left
         ·
          simp only [Act.put, s1_, s2_, s3_, i64_w, i32_w]
          rfl
         refine one_ (i := 19) (N := some 65) (tB 4194303 31) rfl rfl (one_of HT_.out (by kernel_rfl)) (by decide) (fun K hK => ?_)
         refine goes_ Tryd.func44 (by kernel_rfl) rfl #[.agg #[.slice A0_0 l0_0.length c0_0], .agg #[.slice A1_0 l1_0.length c1_0]] (by rfl) rfl rfl (by (try simp only [List.map_toArray, List.map_cons, List.map_nil]); first | done | rfl | (simp only [List.length_drop, List.length_take]; rfl)) ?_
         with_reducible refine (schema_Same.calls kj6 _ _ l0_0 _ _ l1_0 t293 _ ?side1 ?side2 ?side3 ?side4 A44.out).mono ?_
         (case side1 => repeat (first | exact (Kd.C_below HR0_0.out (by repeat (first | (with_reducible first | exact HB.out | apply bA | apply bN | apply b1 | refine bS ?_ GE279.out | refine bS ?_ GE280.out) | exact HB.out))) | (with_reducible refine Kd.C_alloc ?_ _) | (with_reducible refine Kd.C_drewN ?_ _) | (with_reducible refine Kd.C_drew ?_)))
         (case side2 => exact HC0_0.out)
         (case side3 => repeat (first | exact (Kd.C_below HR1_0.out (by repeat (first | (with_reducible first | exact HB.out | apply bA | apply bN | apply b1 | refine bS ?_ GE279.out | refine bS ?_ GE280.out) | exact HB.out))) | (with_reducible refine Kd.C_alloc ?_ _) | (with_reducible refine Kd.C_drewN ?_ _) | (with_reducible refine Kd.C_drew ?_)))
         (case side4 => exact HC1_0.out)
         rintro e w50 ⟨rfl, hb⟩
         refine ⟨_, rfl, ?_⟩
         have n0_ := aM (kB (g := gb279) (o := .cells #[.slice A0_0 l0_0.length c0_0] 46 (0, 0)) (by (with_reducible repeat (first | refine kN ?_ _ | refine kD ?_ | refine kA ?_ _)); exact BK279.out) hb)
         have n1_ := aM (kB (g := gb280) (o := .cells #[.slice A1_0 l1_0.length c1_0] 46 (0, 0)) (by (with_reducible repeat (first | refine kN ?_ _ | refine kD ?_ | refine kA ?_ _)); exact BK280.out) hb)
         have n2_ := aM (bP (by repeat (first | (with_reducible first | exact HB.out | apply bA | apply bN | apply b1 | refine bS ?_ GE279.out | refine bS ?_ GE280.out) | exact HB.out)) hb)
         clear BK279
         clear BK280
         clear HB
         have BK279 := n0_
         have BK280 := n1_
         have HB := n2_
         clear n0_ n1_ n2_
         (try clear hb)
         (try clear hb2)
         (try clear hk)
         (try clear hi)
         refine hK.out _ _ ⟨(blk_cell BK279.out 0).trans rfl, (blk_cell BK280.out 0).trans rfl⟩ (fun hHeld => ?_)
         clear hK K
         refine norm_ (a' := ?_) ?_ ?_
         rotate_left
         ·
          show Act.put _ (some 65) _ = _
          simp only [Act.put, s1_, s2_, s3_, i64_w, i32_w]
          rfl
         refine one_ (i := 22) (N := some 68) (tB 8388607 31) rfl rfl (one_of HT_.out (by kernel_rfl)) (by decide) (fun K hK => ?_)
         refine goes_ Tryd.func45 (by kernel_rfl) rfl #[.agg #[.slice A0_0 l0_0.length c0_0], .agg #[.slice A1_0 l1_0.length c1_0]] (by rfl) rfl rfl (by (try simp only [List.map_toArray, List.map_cons, List.map_nil]); first | done | rfl | (simp only [List.length_drop, List.length_take]; rfl)) ?_
         with_reducible refine (haulageref08_Same.calls kj6 _ _ l0_0 _ _ l1_0 t294 _ ?side1 ?side2 ?side3 ?side4 A45.out).mono ?_
         (case side1 => repeat (first | exact (Kd.C_below HR0_0.out HB.out) | (with_reducible refine Kd.C_alloc ?_ _) | (with_reducible refine Kd.C_drewN ?_ _) | (with_reducible refine Kd.C_drew ?_)))
         (case side2 => exact HC0_0.out)
         (case side3 => repeat (first | exact (Kd.C_below HR1_0.out HB.out) | (with_reducible refine Kd.C_alloc ?_ _) | (with_reducible refine Kd.C_drewN ?_ _) | (with_reducible refine Kd.C_drew ?_)))
         (case side4 => exact HC1_0.out)
         rintro e w51 ⟨rfl, hb⟩
         refine ⟨_, rfl, ?_⟩
         have n0_ := aM (kB (g := gb279) (o := .cells #[.slice A0_0 l0_0.length c0_0] 46 (0, 0)) (by (with_reducible repeat (first | refine kN ?_ _ | refine kD ?_ | refine kA ?_ _)); exact BK279.out) hb)
         have n1_ := aM (kB (g := gb280) (o := .cells #[.slice A1_0 l1_0.length c1_0] 46 (0, 0)) (by (with_reducible repeat (first | refine kN ?_ _ | refine kD ?_ | refine kA ?_ _)); exact BK280.out) hb)
         have n2_ := aM (bP (by repeat (first | (with_reducible first | exact HB.out | apply bA | apply bN | apply b1 | refine bS ?_ GE279.out | refine bS ?_ GE280.out) | exact HB.out)) hb)
         clear BK279
         clear BK280
         clear HB
         have BK279 := n0_
         have BK280 := n1_
         have HB := n2_
         clear n0_ n1_ n2_
         (try clear hb)
         (try clear hb2)
         (try clear hk)
         (try clear hi)
         refine hK.out _ _ ⟨(blk_cell BK279.out 0).trans rfl, (blk_cell BK280.out 0).trans rfl⟩ (fun hHeld => ?_)
         clear hK K
         refine norm_ (a' := ?_) ?_ ?_
         rotate_left
         ·
          show Act.put _ (some 68) _ = _
          simp only [Act.put, s1_, s2_, s3_, i64_w, i32_w]
          rfl
         refine pure_ (i := 23) (N := some 69) (v := ?_) (a' := ?_) (tB 16777215 31) rfl rfl (any_of HT_.out (by kernel_rfl)) (fun _ _ _ h => h) (Or.inl ⟨by rfl, ?_⟩) ?_ ?_
         rotate_left
         ·
          intro w'
          go_simp
          with_reducible rfl
         rotate_left
         ·
          simp only [Act.put, s1_, s2_, s3_, i64_w, i32_w]
          rfl
         refine pure_ (i := 24) (N := some 70) (v := ?_) (a' := ?_) (tB 33554431 31) rfl rfl (any_of HT_.out (by kernel_rfl)) (fun _ _ _ h => h) (Or.inl ⟨by rfl, ?_⟩) ?_ ?_
         rotate_left
         ·
          intro w'
          go_simp
          with_reducible rfl
         rotate_left
         ·
          simp only [Act.put, s1_, s2_, s3_, i64_w, i32_w]
          rfl
         refine pure_ (i := 25) (N := some 71) (v := ?_) (a' := ?_) (tB 67108863 31) rfl rfl (any_of HT_.out (by kernel_rfl)) (fun _ _ _ h => h) (Or.inl ⟨by rfl, ?_⟩) ?_ ?_
         rotate_left
         ·
          intro w'
          go_simp
          with_reducible rfl
         rotate_left
         ·
          simp only [Act.put, s1_, s2_, s3_, i64_w, i32_w]
          rfl
         refine pure_ (i := 26) (N := some 72) (v := undef) (a' := ?_) (tB 134217727 31) rfl rfl (any_of HT_.out (by kernel_rfl)) (fun _ _ _ h => h) (Or.inr ⟨by rfl, rfl⟩) ?_ ?_
         rotate_left
         ·
          simp only [Act.put, s1_, s2_, s3_, i64_w, i32_w]
          rfl
         refine pure_ (i := 27) (N := some 73) (v := undef) (a' := ?_) (tB 268435455 31) rfl rfl (any_of HT_.out (by kernel_rfl)) (fun _ _ _ h => h) (Or.inr ⟨by rfl, rfl⟩) ?_ ?_
         rotate_left
         ·
          simp only [Act.put, s1_, s2_, s3_, i64_w, i32_w]
          rfl
         refine pure_ (i := 28) (N := some 74) (v := undef) (a' := ?_) (tB 536870911 31) rfl rfl (any_of HT_.out (by kernel_rfl)) (fun _ _ _ h => h) (Or.inr ⟨by rfl, rfl⟩) ?_ ?_
         rotate_left
         ·
          simp only [Act.put, s1_, s2_, s3_, i64_w, i32_w]
          rfl
         refine pure_ (i := 29) (N := some 75) (v := undef) (a' := ?_) (tB 1073741823 31) rfl rfl (any_of HT_.out (by kernel_rfl)) (fun _ _ _ h => h) (Or.inr ⟨by rfl, rfl⟩) ?_ ?_
         rotate_left
         ·
          simp only [Act.put, s1_, s2_, s3_, i64_w, i32_w]
          rfl
         refine pure_ (i := 30) (N := some 76) (v := ?_) (a' := ?_) (tB 2147483647 31) rfl rfl (any_of HT_.out (by kernel_rfl)) (fun _ _ _ h => h) (Or.inl ⟨by rfl, ?_⟩) ?_ ?_
         rotate_left
         ·
          intro w'
          go_simp
          with_reducible rfl
         rotate_left
         ·
          simp only [Act.put, s1_, s2_, s3_, i64_w, i32_w]
          rfl
         refine done_ (done_of HT_.out (by kernel_rfl)) ?_
         try go_wp2
         go_meet
         case rel => exact ⟨_, (true), (by first | rfl | (simp; done) | (simp [*]; done)), H', ⟨by have := HJ6.out; first | omega | exact Nat.le_refl _⟩, ⟨by (with_reducible repeat (first | refine kN ?_ _ | refine kD ?_ | refine kA ?_ _)); exact BK279.out⟩, ⟨by (with_reducible repeat (first | refine kN ?_ _ | refine kD ?_ | refine kA ?_ _)); exact BK280.out⟩, ⟨by repeat (first | (with_reducible first | exact HB.out | apply bA | apply bN | apply b1 | refine bS ?_ GE279.out | refine bS ?_ GE280.out) | exact HB.out)⟩⟩
        ·
         rw [if_neg c46] at H
         have c46b0 : (t293 != t294) = false := by simpa using c46
         (try (have c46b1 : decide (t293 = t294) = true := by simpa using c46))
         (try (have c46b2 : (t293 == t294) = true := by simpa using c46))
         clear c46
         (first | rw [c46b0] | (simp only [i64_w, i32_w]; rw [c46b0]) | skip)
         replace H := Option.bind_eq_some_iff.mp H
         obtain ⟨t295, A520, H⟩ := H
         replace H : (haulagelaw08_SchemaFinds.j1 kj6 a2 (!t295) l0_0 l1_0) = some r := H
         have A52 := aM A520
         clear A520
         have H' := aM H
         clear H
         try go_wp2
         have n0_ := aM (kD BK279.out)
         have n1_ := aM (kD BK280.out)
         have n2_ := aM (b1 HB.out)
         clear BK279
         clear BK280
         clear HB
         have BK279 := n0_
         have BK280 := n1_
         have HB := n2_
         clear n0_ n1_ n2_
         refine start_ (n := 31) (S := fun w' => w'.cell? ⟨gb279, 0, none⟩ = some (.slice A0_0 l0_0.length c0_0) ∧ w'.cell? ⟨gb280, 0, none⟩ = some (.slice A1_0 l1_0.length c1_0)) (ds := []) (tB 0 31) (by kernel_rfl) rfl rfl ⟨(blk_cell BK279.out 0).trans rfl, (blk_cell BK280.out 0).trans rfl⟩ (fun hHeld => ?_); refine with_tabW haulagelaw08_SchemaFinds.tab7 haulagelaw08_SchemaFinds.bits7 (fun HT_ HW_ => ?_)
         generalize w37.drew = w53 at BK279 BK280 HB hHeld ⊢
         refine pure_ (i := 0) (N := some 46) (v := ?_) (a' := ?_) (tB 1 31) rfl rfl (any_of HT_.out (by kernel_rfl)) (fun _ _ _ h => h) (Or.inl ⟨by rfl, ?_⟩) ?_ ?_
         rotate_left
         ·
          intro w'
          go_simp
          with_reducible rfl
         rotate_left
         ·
          simp only [Act.put, s1_, s2_, s3_, i64_w, i32_w]
          rfl
         refine pure_ (i := 1) (N := some 47) (v := ?_) (a' := ?_) (tB 3 31) rfl rfl (any_of HT_.out (by kernel_rfl)) (fun _ _ _ h => h) (Or.inl ⟨by rfl, ?_⟩) ?_ ?_
         rotate_left
         ·
          intro w'
          go_simp
          with_reducible rfl
         rotate_left
         ·
          simp only [Act.put, s1_, s2_, s3_, i64_w, i32_w]
          rfl
         refine pure_ (i := 3) (N := some 49) (v := ?_) (a' := ?_) (tB 11 31) rfl rfl (any_of HT_.out (by kernel_rfl)) (fun _ _ _ h => h) (Or.inl ⟨by rfl, ?_⟩) ?_ ?_
         rotate_left
         ·
          intro w'
          go_simp
          with_reducible rfl
         rotate_left
         ·
          simp only [Act.put, s1_, s2_, s3_, i64_w, i32_w]
          rfl
         refine take_ (i := 2) (N := some 48) (v := ?_) (a' := ?_) (tB 15 31) rfl rfl (take_ofW HT_.out HW_.out (by kernel_rfl)) (fun _ _ _ h => h) (Or.inl ⟨by rfl, ?_⟩) hHeld ?_ ?_
         rotate_left
         ·
          rintro w' ⟨s0, s1⟩
          go_simp
          with_reducible rfl
         rotate_left
         ·
          simp only [Act.put, s1_, s2_, s3_, i64_w, i32_w]
          rfl
         refine one_ (i := 4) (N := some 50) (tB 31 31) rfl rfl (one_of HT_.out (by kernel_rfl)) (by decide) (fun K hK => ?_)
         refine goes_ Tryd.func42 (by kernel_rfl) rfl #[.agg #[.slice A0_0 l0_0.length c0_0], .string a2] (by rfl) rfl rfl (by (try simp only [List.map_toArray, List.map_cons, List.map_nil]); first | done | rfl | (simp only [List.length_drop, List.length_take]; rfl)) ?_
         with_reducible refine (haulageref08_Find.calls kj6 _ _ l0_0 a2 t289 _ ?side1 ?side2 A38.out).mono ?_
         (case side1 => repeat (first | exact (Kd.C_below HR0_0.out HB.out) | (with_reducible refine Kd.C_alloc ?_ _) | (with_reducible refine Kd.C_drewN ?_ _) | (with_reducible refine Kd.C_drew ?_)))
         (case side2 => exact HC0_0.out)
         rintro e w54 ⟨rfl, hb⟩
         refine ⟨_, rfl, ?_⟩
         have n0_ := aM (kB (g := gb279) (o := .cells #[.slice A0_0 l0_0.length c0_0] 46 (0, 0)) (by (with_reducible repeat (first | refine kN ?_ _ | refine kD ?_ | refine kA ?_ _)); exact BK279.out) hb)
         have n1_ := aM (kB (g := gb280) (o := .cells #[.slice A1_0 l1_0.length c1_0] 46 (0, 0)) (by (with_reducible repeat (first | refine kN ?_ _ | refine kD ?_ | refine kA ?_ _)); exact BK280.out) hb)
         have n2_ := aM (bP (by repeat (first | (with_reducible first | exact HB.out | apply bA | apply bN | apply b1 | refine bS ?_ GE279.out | refine bS ?_ GE280.out) | exact HB.out)) hb)
         clear BK279
         clear BK280
         clear HB
         have BK279 := n0_
         have BK280 := n1_
         have HB := n2_
         clear n0_ n1_ n2_
         (try clear hb)
         (try clear hb2)
         (try clear hk)
         (try clear hi)
         refine hK.out _ _ ⟨(blk_cell BK279.out 0).trans rfl, (blk_cell BK280.out 0).trans rfl⟩ (fun hHeld => ?_)
         clear hK K
         refine norm_ (a' := ?_) ?_ ?_
         rotate_left
         ·
          show Act.put _ (some 50) _ = _
          simp only [Act.put, s1_, s2_, s3_, i64_w, i32_w]
          rfl
         refine one_ (i := 5) (N := some 51) (tB 63 31) rfl rfl (one_of HT_.out (by kernel_rfl)) (by decide) (fun K hK => ?_)
         refine goes_ Tryd.func41 (by kernel_rfl) rfl #[.int .i64 t285, .bool t286, .int .i64 t289] (by rfl) rfl rfl (by (try simp only [List.map_toArray, List.map_cons, List.map_nil]); first | done | rfl | (simp only [List.length_drop, List.length_take]; rfl)) ?_
         with_reducible refine (haulagelaw08_found.calls t285 t286 t289 true _ A39.out).mono ?_
         rintro e w' ⟨rfl, ⟨nd, rfl⟩⟩
         refine ⟨_, rfl, ?_⟩
         refine hK.out _ _ ⟨(blk_cell BK279.out 0).trans rfl, (blk_cell BK280.out 0).trans rfl⟩ (fun hHeld => ?_)
         clear hK K
         refine norm_ (a' := ?_) ?_ ?_
         rotate_left
         ·
          show Act.put _ (some 51) _ = _
          simp only [Act.put, s1_, s2_, s3_, i64_w, i32_w]
          rfl
         refine pure_ (i := 6) (N := some 52) (v := ?_) (a' := ?_) (tB 127 31) rfl rfl (any_of HT_.out (by kernel_rfl)) (fun _ _ _ h => h) (Or.inl ⟨by rfl, ?_⟩) ?_ ?_
         rotate_left
         ·
          intro w'
          go_simp
          with_reducible rfl
         rotate_left
         ·
          simp only [Act.put, s1_, s2_, s3_, i64_w, i32_w]
          rfl
         refine pure_ (i := 7) (N := some 53) (v := ?_) (a' := ?_) (tB 255 31) rfl rfl (any_of HT_.out (by kernel_rfl)) (fun _ _ _ h => h) (Or.inl ⟨by rfl, ?_⟩) ?_ ?_
         rotate_left
         ·
          intro w'
          go_simp
          with_reducible rfl
         rotate_left
         ·
          simp only [Act.put, s1_, s2_, s3_, i64_w, i32_w]
          rfl
         refine pure_ (i := 8) (N := some 54) (v := ?_) (a' := ?_) (tB 511 31) rfl rfl (any_of HT_.out (by kernel_rfl)) (fun _ _ _ h => h) (Or.inl ⟨by rfl, ?_⟩) ?_ ?_
         rotate_left
         ·
          intro w'
          go_simp
          with_reducible rfl
         rotate_left
         ·
          simp only [Act.put, s1_, s2_, s3_, i64_w, i32_w]
          rfl
         refine pure_ (i := 9) (N := some 55) (v := ?_) (a' := ?_) (tB 1023 31) rfl rfl (any_of HT_.out (by kernel_rfl)) (fun _ _ _ h => h) (Or.inl ⟨by rfl, ?_⟩) ?_ ?_
         rotate_left
         ·
          intro w'
          go_simp
          with_reducible rfl
         rotate_left
         ·
          simp only [Act.put, s1_, s2_, s3_, i64_w, i32_w]
          rfl
         refine pure_ (i := 11) (N := some 57) (v := ?_) (a' := ?_) (tB 3071 31) rfl rfl (any_of HT_.out (by kernel_rfl)) (fun _ _ _ h => h) (Or.inl ⟨by rfl, ?_⟩) ?_ ?_
         rotate_left
         ·
          intro w'
          go_simp
          with_reducible rfl
         rotate_left
         ·
          simp only [Act.put, s1_, s2_, s3_, i64_w, i32_w]
          rfl
         refine take_ (i := 10) (N := some 56) (v := ?_) (a' := ?_) (tB 4095 31) rfl rfl (take_ofW HT_.out HW_.out (by kernel_rfl)) (fun _ _ _ h => h) (Or.inl ⟨by rfl, ?_⟩) hHeld ?_ ?_
         rotate_left
         ·
          rintro w' ⟨s0, s1⟩
          go_simp
          with_reducible rfl
         rotate_left
         ·
          simp only [Act.put, s1_, s2_, s3_, i64_w, i32_w]
          rfl
         refine one_ (i := 12) (N := some 58) (tB 8191 31) rfl rfl (one_of HT_.out (by kernel_rfl)) (by decide) (fun K hK => ?_)
         refine goes_ Tryd.func43 (by kernel_rfl) rfl #[.agg #[.slice A0_0 l0_0.length c0_0], .int .i64 a3] (by rfl) rfl rfl (by (try simp only [List.map_toArray, List.map_cons, List.map_nil]); first | done | rfl | (simp only [List.length_drop, List.length_take]; rfl)) ?_
         with_reducible refine (haulageref08_ById.calls kj6 _ _ l0_0 a3 t291 _ ?side1 ?side2 A41.out).mono ?_
         (case side1 => repeat (first | exact (Kd.C_below HR0_0.out (by repeat (first | (with_reducible first | exact HB.out | apply bA | apply bN | apply b1 | refine bS ?_ GE279.out | refine bS ?_ GE280.out) | exact HB.out))) | (with_reducible refine Kd.C_alloc ?_ _) | (with_reducible refine Kd.C_drewN ?_ _) | (with_reducible refine Kd.C_drew ?_)))
         (case side2 => exact HC0_0.out)
         rintro e w55 ⟨rfl, hb⟩
         refine ⟨_, rfl, ?_⟩
         have n0_ := aM (kB (g := gb279) (o := .cells #[.slice A0_0 l0_0.length c0_0] 46 (0, 0)) (by (with_reducible repeat (first | refine kN ?_ _ | refine kD ?_ | refine kA ?_ _)); exact BK279.out) hb)
         have n1_ := aM (kB (g := gb280) (o := .cells #[.slice A1_0 l1_0.length c1_0] 46 (0, 0)) (by (with_reducible repeat (first | refine kN ?_ _ | refine kD ?_ | refine kA ?_ _)); exact BK280.out) hb)
         have n2_ := aM (bP (by repeat (first | (with_reducible first | exact HB.out | apply bA | apply bN | apply b1 | refine bS ?_ GE279.out | refine bS ?_ GE280.out) | exact HB.out)) hb)
         clear BK279
         clear BK280
         clear HB
         have BK279 := n0_
         have BK280 := n1_
         have HB := n2_
         clear n0_ n1_ n2_
         (try clear hb)
         (try clear hb2)
         (try clear hk)
         (try clear hi)
         refine hK.out _ _ ⟨(blk_cell BK279.out 0).trans rfl, (blk_cell BK280.out 0).trans rfl⟩ (fun hHeld => ?_)
         clear hK K
         refine norm_ (a' := ?_) ?_ ?_
         rotate_left
         ·
          show Act.put _ (some 58) _ = _
          simp only [Act.put, s1_, s2_, s3_, i64_w, i32_w]
          rfl
         refine one_ (i := 13) (N := some 59) (tB 16383 31) rfl rfl (one_of HT_.out (by kernel_rfl)) (by decide) (fun K hK => ?_)
         refine goes_ Tryd.func41 (by kernel_rfl) rfl #[.int .i64 t287, .bool t288, .int .i64 t291] (by rfl) rfl rfl (by (try simp only [List.map_toArray, List.map_cons, List.map_nil]); first | done | rfl | (simp only [List.length_drop, List.length_take]; rfl)) ?_
         with_reducible refine (haulagelaw08_found.calls t287 t288 t291 true _ A42.out).mono ?_
         rintro e w' ⟨rfl, ⟨nd, rfl⟩⟩
         refine ⟨_, rfl, ?_⟩
         refine hK.out _ _ ⟨(blk_cell BK279.out 0).trans rfl, (blk_cell BK280.out 0).trans rfl⟩ (fun hHeld => ?_)
         clear hK K
         refine norm_ (a' := ?_) ?_ ?_
         rotate_left
         ·
          show Act.put _ (some 59) _ = _
          simp only [Act.put, s1_, s2_, s3_, i64_w, i32_w]
          rfl
         refine pure_ (i := 14) (N := some 60) (v := ?_) (a' := ?_) (tB 32767 31) rfl rfl (any_of HT_.out (by kernel_rfl)) (fun _ _ _ h => h) (Or.inl ⟨by rfl, ?_⟩) ?_ ?_
         rotate_left
         ·
          intro w'
          go_simp
          with_reducible rfl
         rotate_left
         ·
          simp only [Act.put, s1_, s2_, s3_, i64_w, i32_w]
          rfl
         refine pure_ (i := 15) (N := some 61) (v := ?_) (a' := ?_) (tB 65535 31) rfl rfl (any_of HT_.out (by kernel_rfl)) (fun _ _ _ h => h) (Or.inl ⟨by rfl, ?_⟩) ?_ ?_
         rotate_left
         ·
          intro w'
          go_simp
          with_reducible rfl
         rotate_left
         ·
          simp only [Act.put, s1_, s2_, s3_, i64_w, i32_w]
          rfl
         refine pure_ (i := 16) (N := some 62) (v := ?_) (a' := ?_) (tB 131071 31) rfl rfl (any_of HT_.out (by kernel_rfl)) (fun _ _ _ h => h) (Or.inl ⟨by rfl, ?_⟩) ?_ ?_
         rotate_left
         ·
          intro w'
          go_simp
          with_reducible rfl
         rotate_left
         ·
          simp only [Act.put, s1_, s2_, s3_, i64_w, i32_w]
          rfl
         refine take_ (i := 17) (N := some 63) (v := ?_) (a' := ?_) (tB 262143 31) rfl rfl (take_ofW HT_.out HW_.out (by kernel_rfl)) (fun _ _ _ h => h) (Or.inl ⟨by rfl, ?_⟩) hHeld ?_ ?_
         rotate_left
         ·
          rintro w' ⟨s0, s1⟩
          go_simp
          with_reducible rfl
         rotate_left
         ·
          simp only [Act.put, s1_, s2_, s3_, i64_w, i32_w]
          rfl
         refine take_ (i := 18) (N := some 64) (v := ?_) (a' := ?_) (tB 524287 31) rfl rfl (take_ofW HT_.out HW_.out (by kernel_rfl)) (fun _ _ _ h => h) (Or.inl ⟨by rfl, ?_⟩) hHeld ?_ ?_
         rotate_left
         ·
          rintro w' ⟨s0, s1⟩
          go_simp
          with_reducible rfl
         rotate_left
         ·
          simp only [Act.put, s1_, s2_, s3_, i64_w, i32_w]
          rfl
         refine take_ (i := 20) (N := some 66) (v := ?_) (a' := ?_) (tB 1572863 31) rfl rfl (take_ofW HT_.out HW_.out (by kernel_rfl)) (fun _ _ _ h => h) (Or.inl ⟨by rfl, ?_⟩) hHeld ?_ ?_
         rotate_left
         ·
          rintro w' ⟨s0, s1⟩
          go_simp
          with_reducible rfl
         rotate_left
         ·
          simp only [Act.put, s1_, s2_, s3_, i64_w, i32_w]
          rfl
         refine take_ (i := 21) (N := some 67) (v := ?_) (a' := ?_) (tB 3670015 31) rfl rfl (take_ofW HT_.out HW_.out (by kernel_rfl)) (fun _ _ _ h => h) (Or.inl ⟨by rfl, ?_⟩) hHeld ?_ ?_
         rotate_left
         ·
          rintro w' ⟨s0, s1⟩
          go_simp
          with_reducible rfl
         rotate_left
         ·
          simp only [Act.put, s1_, s2_, s3_, i64_w, i32_w]
          rfl
         refine one_ (i := 19) (N := some 65) (tB 4194303 31) rfl rfl (one_of HT_.out (by kernel_rfl)) (by decide) (fun K hK => ?_)
         refine goes_ Tryd.func44 (by kernel_rfl) rfl #[.agg #[.slice A0_0 l0_0.length c0_0], .agg #[.slice A1_0 l1_0.length c1_0]] (by rfl) rfl rfl (by (try simp only [List.map_toArray, List.map_cons, List.map_nil]); first | done | rfl | (simp only [List.length_drop, List.length_take]; rfl)) ?_
         with_reducible refine (schema_Same.calls kj6 _ _ l0_0 _ _ l1_0 t293 _ ?side1 ?side2 ?side3 ?side4 A44.out).mono ?_
         (case side1 => repeat (first | exact (Kd.C_below HR0_0.out (by repeat (first | (with_reducible first | exact HB.out | apply bA | apply bN | apply b1 | refine bS ?_ GE279.out | refine bS ?_ GE280.out) | exact HB.out))) | (with_reducible refine Kd.C_alloc ?_ _) | (with_reducible refine Kd.C_drewN ?_ _) | (with_reducible refine Kd.C_drew ?_)))
         (case side2 => exact HC0_0.out)
         (case side3 => repeat (first | exact (Kd.C_below HR1_0.out (by repeat (first | (with_reducible first | exact HB.out | apply bA | apply bN | apply b1 | refine bS ?_ GE279.out | refine bS ?_ GE280.out) | exact HB.out))) | (with_reducible refine Kd.C_alloc ?_ _) | (with_reducible refine Kd.C_drewN ?_ _) | (with_reducible refine Kd.C_drew ?_)))
         (case side4 => exact HC1_0.out)
         rintro e w56 ⟨rfl, hb⟩
         refine ⟨_, rfl, ?_⟩
         have n0_ := aM (kB (g := gb279) (o := .cells #[.slice A0_0 l0_0.length c0_0] 46 (0, 0)) (by (with_reducible repeat (first | refine kN ?_ _ | refine kD ?_ | refine kA ?_ _)); exact BK279.out) hb)
         have n1_ := aM (kB (g := gb280) (o := .cells #[.slice A1_0 l1_0.length c1_0] 46 (0, 0)) (by (with_reducible repeat (first | refine kN ?_ _ | refine kD ?_ | refine kA ?_ _)); exact BK280.out) hb)
         have n2_ := aM (bP (by repeat (first | (with_reducible first | exact HB.out | apply bA | apply bN | apply b1 | refine bS ?_ GE279.out | refine bS ?_ GE280.out) | exact HB.out)) hb)
         clear BK279
         clear BK280
         clear HB
         have BK279 := n0_
         have BK280 := n1_
         have HB := n2_
         clear n0_ n1_ n2_
         (try clear hb)
         (try clear hb2)
         (try clear hk)
         (try clear hi)
         refine hK.out _ _ ⟨(blk_cell BK279.out 0).trans rfl, (blk_cell BK280.out 0).trans rfl⟩ (fun hHeld => ?_)
         clear hK K
         refine norm_ (a' := ?_) ?_ ?_
         rotate_left
         ·
          show Act.put _ (some 65) _ = _
          simp only [Act.put, s1_, s2_, s3_, i64_w, i32_w]
          rfl
         refine one_ (i := 22) (N := some 68) (tB 8388607 31) rfl rfl (one_of HT_.out (by kernel_rfl)) (by decide) (fun K hK => ?_)
         refine goes_ Tryd.func45 (by kernel_rfl) rfl #[.agg #[.slice A0_0 l0_0.length c0_0], .agg #[.slice A1_0 l1_0.length c1_0]] (by rfl) rfl rfl (by (try simp only [List.map_toArray, List.map_cons, List.map_nil]); first | done | rfl | (simp only [List.length_drop, List.length_take]; rfl)) ?_
         with_reducible refine (haulageref08_Same.calls kj6 _ _ l0_0 _ _ l1_0 t294 _ ?side1 ?side2 ?side3 ?side4 A45.out).mono ?_
         (case side1 => repeat (first | exact (Kd.C_below HR0_0.out HB.out) | (with_reducible refine Kd.C_alloc ?_ _) | (with_reducible refine Kd.C_drewN ?_ _) | (with_reducible refine Kd.C_drew ?_)))
         (case side2 => exact HC0_0.out)
         (case side3 => repeat (first | exact (Kd.C_below HR1_0.out HB.out) | (with_reducible refine Kd.C_alloc ?_ _) | (with_reducible refine Kd.C_drewN ?_ _) | (with_reducible refine Kd.C_drew ?_)))
         (case side4 => exact HC1_0.out)
         rintro e w57 ⟨rfl, hb⟩
         refine ⟨_, rfl, ?_⟩
         have n0_ := aM (kB (g := gb279) (o := .cells #[.slice A0_0 l0_0.length c0_0] 46 (0, 0)) (by (with_reducible repeat (first | refine kN ?_ _ | refine kD ?_ | refine kA ?_ _)); exact BK279.out) hb)
         have n1_ := aM (kB (g := gb280) (o := .cells #[.slice A1_0 l1_0.length c1_0] 46 (0, 0)) (by (with_reducible repeat (first | refine kN ?_ _ | refine kD ?_ | refine kA ?_ _)); exact BK280.out) hb)
         have n2_ := aM (bP (by repeat (first | (with_reducible first | exact HB.out | apply bA | apply bN | apply b1 | refine bS ?_ GE279.out | refine bS ?_ GE280.out) | exact HB.out)) hb)
         clear BK279
         clear BK280
         clear HB
         have BK279 := n0_
         have BK280 := n1_
         have HB := n2_
         clear n0_ n1_ n2_
         (try clear hb)
         (try clear hb2)
         (try clear hk)
         (try clear hi)
         refine hK.out _ _ ⟨(blk_cell BK279.out 0).trans rfl, (blk_cell BK280.out 0).trans rfl⟩ (fun hHeld => ?_)
         clear hK K
         refine norm_ (a' := ?_) ?_ ?_
         rotate_left
         ·
          show Act.put _ (some 68) _ = _
          simp only [Act.put, s1_, s2_, s3_, i64_w, i32_w]
          rfl
         refine pure_ (i := 23) (N := some 69) (v := ?_) (a' := ?_) (tB 16777215 31) rfl rfl (any_of HT_.out (by kernel_rfl)) (fun _ _ _ h => h) (Or.inl ⟨by rfl, ?_⟩) ?_ ?_
         rotate_left
         ·
          intro w'
          go_simp
          with_reducible rfl
         rotate_left
         ·
          simp only [Act.put, s1_, s2_, s3_, i64_w, i32_w]
          rfl
         refine pure_ (i := 24) (N := some 70) (v := ?_) (a' := ?_) (tB 33554431 31) rfl rfl (any_of HT_.out (by kernel_rfl)) (fun _ _ _ h => h) (Or.inl ⟨by rfl, ?_⟩) ?_ ?_
         rotate_left
         ·
          intro w'
          go_simp
          with_reducible rfl
         rotate_left
         ·
          simp only [Act.put, s1_, s2_, s3_, i64_w, i32_w]
          rfl
         refine pure_ (i := 25) (N := some 71) (v := ?_) (a' := ?_) (tB 67108863 31) rfl rfl (any_of HT_.out (by kernel_rfl)) (fun _ _ _ h => h) (Or.inl ⟨by rfl, ?_⟩) ?_ ?_
         rotate_left
         ·
          intro w'
          go_simp
          with_reducible rfl
         rotate_left
         ·
          simp only [Act.put, s1_, s2_, s3_, i64_w, i32_w]
          rfl
         refine take_ (i := 26) (N := some 72) (v := ?_) (a' := ?_) (tB 134217727 31) rfl rfl (take_ofW HT_.out HW_.out (by kernel_rfl)) (fun _ _ _ h => h) (Or.inl ⟨by rfl, ?_⟩) hHeld ?_ ?_
         rotate_left
         ·
          rintro w' ⟨s0, s1⟩
          go_simp
          with_reducible rfl
         rotate_left
         ·
          simp only [Act.put, s1_, s2_, s3_, i64_w, i32_w]
          rfl
         refine take_ (i := 27) (N := some 73) (v := ?_) (a' := ?_) (tB 268435455 31) rfl rfl (take_ofW HT_.out HW_.out (by kernel_rfl)) (fun _ _ _ h => h) (Or.inl ⟨by rfl, ?_⟩) hHeld ?_ ?_
         rotate_left
         ·
          rintro w' ⟨s0, s1⟩
          go_simp
          with_reducible rfl
         rotate_left
         ·
          simp only [Act.put, s1_, s2_, s3_, i64_w, i32_w]
          rfl
         refine one_ (i := 28) (N := some 74) (tB 536870911 31) rfl rfl (one_of HT_.out (by kernel_rfl)) (by decide) (fun K hK => ?_)
         refine goes_ Tryd.func44 (by kernel_rfl) rfl #[.agg #[.slice A0_0 l0_0.length c0_0], .agg #[.slice A0_0 l0_0.length c0_0]] (by rfl) rfl rfl (by (try simp only [List.map_toArray, List.map_cons, List.map_nil]); first | done | rfl | (simp only [List.length_drop, List.length_take]; rfl)) ?_
         with_reducible refine (schema_Same.calls kj6 _ _ l0_0 _ _ l0_0 t295 _ ?side1 ?side2 ?side3 ?side4 A52.out).mono ?_
         (case side1 => repeat (first | exact (Kd.C_below HR0_0.out HB.out) | (with_reducible refine Kd.C_alloc ?_ _) | (with_reducible refine Kd.C_drewN ?_ _) | (with_reducible refine Kd.C_drew ?_)))
         (case side2 => exact HC0_0.out)
         (case side3 => repeat (first | exact (Kd.C_below HR0_0.out HB.out) | (with_reducible refine Kd.C_alloc ?_ _) | (with_reducible refine Kd.C_drewN ?_ _) | (with_reducible refine Kd.C_drew ?_)))
         (case side4 => exact HC0_0.out)
         rintro e w58 ⟨rfl, hb⟩
         refine ⟨_, rfl, ?_⟩
         have n0_ := aM (kB (g := gb279) (o := .cells #[.slice A0_0 l0_0.length c0_0] 46 (0, 0)) (by (with_reducible repeat (first | refine kN ?_ _ | refine kD ?_ | refine kA ?_ _)); exact BK279.out) hb)
         have n1_ := aM (kB (g := gb280) (o := .cells #[.slice A1_0 l1_0.length c1_0] 46 (0, 0)) (by (with_reducible repeat (first | refine kN ?_ _ | refine kD ?_ | refine kA ?_ _)); exact BK280.out) hb)
         have n2_ := aM (bP (by repeat (first | (with_reducible first | exact HB.out | apply bA | apply bN | apply b1 | refine bS ?_ GE279.out | refine bS ?_ GE280.out) | exact HB.out)) hb)
         clear BK279
         clear BK280
         clear HB
         have BK279 := n0_
         have BK280 := n1_
         have HB := n2_
         clear n0_ n1_ n2_
         (try clear hb)
         (try clear hb2)
         (try clear hk)
         (try clear hi)
         refine hK.out _ _ ⟨(blk_cell BK279.out 0).trans rfl, (blk_cell BK280.out 0).trans rfl⟩ (fun hHeld => ?_)
         clear hK K
         refine norm_ (a' := ?_) ?_ ?_
         rotate_left
         ·
          show Act.put _ (some 74) _ = _
          simp only [Act.put, s1_, s2_, s3_, i64_w, i32_w]
          rfl
         refine pure_ (i := 29) (N := some 75) (v := ?_) (a' := ?_) (tB 1073741823 31) rfl rfl (any_of HT_.out (by kernel_rfl)) (fun _ _ _ h => h) (Or.inl ⟨by rfl, ?_⟩) ?_ ?_
         rotate_left
         ·
          intro w'
          go_simp
          with_reducible rfl
         rotate_left
         ·
          simp only [Act.put, s1_, s2_, s3_, i64_w, i32_w]
          rfl
         refine pure_ (i := 30) (N := some 76) (v := ?_) (a' := ?_) (tB 2147483647 31) rfl rfl (any_of HT_.out (by kernel_rfl)) (fun _ _ _ h => h) (Or.inl ⟨by rfl, ?_⟩) ?_ ?_
         rotate_left
         ·
          intro w'
          go_simp
          with_reducible rfl
         rotate_left
         ·
          simp only [Act.put, s1_, s2_, s3_, i64_w, i32_w]
          rfl
         refine done_ (done_of HT_.out (by kernel_rfl)) ?_
         try go_wp2
         go_meet
         case rel => exact ⟨_, (!t295), (by first | rfl | (simp; done) | (simp [*]; done)), H', ⟨by have := HJ6.out; first | omega | exact Nat.le_refl _⟩, ⟨by (with_reducible repeat (first | refine kN ?_ _ | refine kD ?_ | refine kA ?_ _)); exact BK279.out⟩, ⟨by (with_reducible repeat (first | refine kN ?_ _ | refine kD ?_ | refine kA ?_ _)); exact BK280.out⟩, ⟨by repeat (first | (with_reducible first | exact HB.out | apply bA | apply bN | apply b1 | refine bS ?_ GE279.out | refine bS ?_ GE280.out) | exact HB.out)⟩⟩
       ·
        replace c43 := Bool.eq_false_iff.mpr c43
        subst c43
        have H1 : (haulagelaw08_SchemaFinds.j1 kj6 a2 true l0_0 l1_0) = some r := by rw [if_neg (show ¬ (false = true) by decide)] at H; exact H
        clear H
        have H := H1
        clear H1
        have H' := aM H
        clear H
        try go_wp2
        have n0_ := aM (kD BK279.out)
        have n1_ := aM (kD BK280.out)
        have n2_ := aM (b1 HB.out)
        clear BK279
        clear BK280
        clear HB
        have BK279 := n0_
        have BK280 := n1_
        have HB := n2_
        clear n0_ n1_ n2_
        refine start_ (n := 31) (S := fun w' => w'.cell? ⟨gb279, 0, none⟩ = some (.slice A0_0 l0_0.length c0_0)) (ds := []) (tB 0 31) (by kernel_rfl) rfl rfl ((blk_cell BK279.out 0).trans rfl) (fun hHeld => ?_); refine with_tabW haulagelaw08_SchemaFinds.tab7 haulagelaw08_SchemaFinds.bits7 (fun HT_ HW_ => ?_)
        generalize w37.drew = w59 at BK279 BK280 HB hHeld ⊢
        refine pure_ (i := 0) (N := some 46) (v := ?_) (a' := ?_) (tB 1 31) rfl rfl (any_of HT_.out (by kernel_rfl)) (fun _ _ _ h => h) (Or.inl ⟨by rfl, ?_⟩) ?_ ?_
        rotate_left
        ·
         intro w'
         go_simp
         with_reducible rfl
        rotate_left
        ·
         simp only [Act.put, s1_, s2_, s3_, i64_w, i32_w]
         rfl
        refine pure_ (i := 1) (N := some 47) (v := ?_) (a' := ?_) (tB 3 31) rfl rfl (any_of HT_.out (by kernel_rfl)) (fun _ _ _ h => h) (Or.inl ⟨by rfl, ?_⟩) ?_ ?_
        rotate_left
        ·
         intro w'
         go_simp
         with_reducible rfl
        rotate_left
        ·
         simp only [Act.put, s1_, s2_, s3_, i64_w, i32_w]
         rfl
        refine pure_ (i := 3) (N := some 49) (v := ?_) (a' := ?_) (tB 11 31) rfl rfl (any_of HT_.out (by kernel_rfl)) (fun _ _ _ h => h) (Or.inl ⟨by rfl, ?_⟩) ?_ ?_
        rotate_left
        ·
         intro w'
         go_simp
         with_reducible rfl
        rotate_left
        ·
         simp only [Act.put, s1_, s2_, s3_, i64_w, i32_w]
         rfl
        refine take_ (i := 2) (N := some 48) (v := ?_) (a' := ?_) (tB 15 31) rfl rfl (take_ofW HT_.out HW_.out (by kernel_rfl)) (fun _ _ _ h => h) (Or.inl ⟨by rfl, ?_⟩) hHeld ?_ ?_
        rotate_left
        ·
         intro w' s0
         go_simp
         with_reducible rfl
        rotate_left
        ·
         simp only [Act.put, s1_, s2_, s3_, i64_w, i32_w]
         rfl
        refine one_ (i := 4) (N := some 50) (tB 31 31) rfl rfl (one_of HT_.out (by kernel_rfl)) (by decide) (fun K hK => ?_)
        refine goes_ Tryd.func42 (by kernel_rfl) rfl #[.agg #[.slice A0_0 l0_0.length c0_0], .string a2] (by rfl) rfl rfl (by (try simp only [List.map_toArray, List.map_cons, List.map_nil]); first | done | rfl | (simp only [List.length_drop, List.length_take]; rfl)) ?_
        with_reducible refine (haulageref08_Find.calls kj6 _ _ l0_0 a2 t289 _ ?side1 ?side2 A38.out).mono ?_
        (case side1 => repeat (first | exact (Kd.C_below HR0_0.out HB.out) | (with_reducible refine Kd.C_alloc ?_ _) | (with_reducible refine Kd.C_drewN ?_ _) | (with_reducible refine Kd.C_drew ?_)))
        (case side2 => exact HC0_0.out)
        rintro e w60 ⟨rfl, hb⟩
        refine ⟨_, rfl, ?_⟩
        have n0_ := aM (kB (g := gb279) (o := .cells #[.slice A0_0 l0_0.length c0_0] 46 (0, 0)) (by (with_reducible repeat (first | refine kN ?_ _ | refine kD ?_ | refine kA ?_ _)); exact BK279.out) hb)
        have n1_ := aM (kB (g := gb280) (o := .cells #[.slice A1_0 l1_0.length c1_0] 46 (0, 0)) (by (with_reducible repeat (first | refine kN ?_ _ | refine kD ?_ | refine kA ?_ _)); exact BK280.out) hb)
        have n2_ := aM (bP (by repeat (first | (with_reducible first | exact HB.out | apply bA | apply bN | apply b1 | refine bS ?_ GE279.out | refine bS ?_ GE280.out) | exact HB.out)) hb)
        clear BK279
        clear BK280
        clear HB
        have BK279 := n0_
        have BK280 := n1_
        have HB := n2_
        clear n0_ n1_ n2_
        (try clear hb)
        (try clear hb2)
        (try clear hk)
        (try clear hi)
        refine hK.out _ _ ((blk_cell BK279.out 0).trans rfl) (fun hHeld => ?_)
        clear hK K
        refine norm_ (a' := ?_) ?_ ?_
        rotate_left
        ·
         show Act.put _ (some 50) _ = _
         simp only [Act.put, s1_, s2_, s3_, i64_w, i32_w]
         rfl
        refine one_ (i := 5) (N := some 51) (tB 63 31) rfl rfl (one_of HT_.out (by kernel_rfl)) (by decide) (fun K hK => ?_)
        refine goes_ Tryd.func41 (by kernel_rfl) rfl #[.int .i64 t285, .bool t286, .int .i64 t289] (by rfl) rfl rfl (by (try simp only [List.map_toArray, List.map_cons, List.map_nil]); first | done | rfl | (simp only [List.length_drop, List.length_take]; rfl)) ?_
        with_reducible refine (haulagelaw08_found.calls t285 t286 t289 true _ A39.out).mono ?_
        rintro e w' ⟨rfl, ⟨nd, rfl⟩⟩
        refine ⟨_, rfl, ?_⟩
        refine hK.out _ _ ((blk_cell BK279.out 0).trans rfl) (fun hHeld => ?_)
        clear hK K
        refine norm_ (a' := ?_) ?_ ?_
        rotate_left
        ·
         show Act.put _ (some 51) _ = _
         simp only [Act.put, s1_, s2_, s3_, i64_w, i32_w]
         rfl
        refine pure_ (i := 6) (N := some 52) (v := ?_) (a' := ?_) (tB 127 31) rfl rfl (any_of HT_.out (by kernel_rfl)) (fun _ _ _ h => h) (Or.inl ⟨by rfl, ?_⟩) ?_ ?_
        rotate_left
        ·
         intro w'
         go_simp
         with_reducible rfl
        rotate_left
        ·
         simp only [Act.put, s1_, s2_, s3_, i64_w, i32_w]
         rfl
        refine pure_ (i := 7) (N := some 53) (v := ?_) (a' := ?_) (tB 255 31) rfl rfl (any_of HT_.out (by kernel_rfl)) (fun _ _ _ h => h) (Or.inl ⟨by rfl, ?_⟩) ?_ ?_
        rotate_left
        ·
         intro w'
         go_simp
         with_reducible rfl
        rotate_left
        ·
         simp only [Act.put, s1_, s2_, s3_, i64_w, i32_w]
         rfl
        refine pure_ (i := 8) (N := some 54) (v := ?_) (a' := ?_) (tB 511 31) rfl rfl (any_of HT_.out (by kernel_rfl)) (fun _ _ _ h => h) (Or.inl ⟨by rfl, ?_⟩) ?_ ?_
        rotate_left
        ·
         intro w'
         go_simp
         with_reducible rfl
        rotate_left
        ·
         simp only [Act.put, s1_, s2_, s3_, i64_w, i32_w]
         rfl
        refine pure_ (i := 9) (N := some 55) (v := ?_) (a' := ?_) (tB 1023 31) rfl rfl (any_of HT_.out (by kernel_rfl)) (fun _ _ _ h => h) (Or.inl ⟨by rfl, ?_⟩) ?_ ?_
        rotate_left
        ·
         intro w'
         go_simp
         with_reducible rfl
        rotate_left
        ·
         simp only [Act.put, s1_, s2_, s3_, i64_w, i32_w]
         rfl
        refine pure_ (i := 11) (N := some 57) (v := ?_) (a' := ?_) (tB 3071 31) rfl rfl (any_of HT_.out (by kernel_rfl)) (fun _ _ _ h => h) (Or.inl ⟨by rfl, ?_⟩) ?_ ?_
        rotate_left
        ·
         intro w'
         go_simp
         with_reducible rfl
        rotate_left
        ·
         simp only [Act.put, s1_, s2_, s3_, i64_w, i32_w]
         rfl
        refine take_ (i := 10) (N := some 56) (v := ?_) (a' := ?_) (tB 4095 31) rfl rfl (take_ofW HT_.out HW_.out (by kernel_rfl)) (fun _ _ _ h => h) (Or.inl ⟨by rfl, ?_⟩) hHeld ?_ ?_
        rotate_left
        ·
         intro w' s0
         go_simp
         with_reducible rfl
        rotate_left
        ·
         simp only [Act.put, s1_, s2_, s3_, i64_w, i32_w]
         rfl
        refine one_ (i := 12) (N := some 58) (tB 8191 31) rfl rfl (one_of HT_.out (by kernel_rfl)) (by decide) (fun K hK => ?_)
        refine goes_ Tryd.func43 (by kernel_rfl) rfl #[.agg #[.slice A0_0 l0_0.length c0_0], .int .i64 a3] (by rfl) rfl rfl (by (try simp only [List.map_toArray, List.map_cons, List.map_nil]); first | done | rfl | (simp only [List.length_drop, List.length_take]; rfl)) ?_
        with_reducible refine (haulageref08_ById.calls kj6 _ _ l0_0 a3 t291 _ ?side1 ?side2 A41.out).mono ?_
        (case side1 => repeat (first | exact (Kd.C_below HR0_0.out (by repeat (first | (with_reducible first | exact HB.out | apply bA | apply bN | apply b1 | refine bS ?_ GE279.out | refine bS ?_ GE280.out) | exact HB.out))) | (with_reducible refine Kd.C_alloc ?_ _) | (with_reducible refine Kd.C_drewN ?_ _) | (with_reducible refine Kd.C_drew ?_)))
        (case side2 => exact HC0_0.out)
        rintro e w61 ⟨rfl, hb⟩
        refine ⟨_, rfl, ?_⟩
        have n0_ := aM (kB (g := gb279) (o := .cells #[.slice A0_0 l0_0.length c0_0] 46 (0, 0)) (by (with_reducible repeat (first | refine kN ?_ _ | refine kD ?_ | refine kA ?_ _)); exact BK279.out) hb)
        have n1_ := aM (kB (g := gb280) (o := .cells #[.slice A1_0 l1_0.length c1_0] 46 (0, 0)) (by (with_reducible repeat (first | refine kN ?_ _ | refine kD ?_ | refine kA ?_ _)); exact BK280.out) hb)
        have n2_ := aM (bP (by repeat (first | (with_reducible first | exact HB.out | apply bA | apply bN | apply b1 | refine bS ?_ GE279.out | refine bS ?_ GE280.out) | exact HB.out)) hb)
        clear BK279
        clear BK280
        clear HB
        have BK279 := n0_
        have BK280 := n1_
        have HB := n2_
        clear n0_ n1_ n2_
        (try clear hb)
        (try clear hb2)
        (try clear hk)
        (try clear hi)
        refine hK.out _ _ ((blk_cell BK279.out 0).trans rfl) (fun hHeld => ?_)
        clear hK K
        refine norm_ (a' := ?_) ?_ ?_
        rotate_left
        ·
         show Act.put _ (some 58) _ = _
         simp only [Act.put, s1_, s2_, s3_, i64_w, i32_w]
         rfl
        refine one_ (i := 13) (N := some 59) (tB 16383 31) rfl rfl (one_of HT_.out (by kernel_rfl)) (by decide) (fun K hK => ?_)
        refine goes_ Tryd.func41 (by kernel_rfl) rfl #[.int .i64 t287, .bool t288, .int .i64 t291] (by rfl) rfl rfl (by (try simp only [List.map_toArray, List.map_cons, List.map_nil]); first | done | rfl | (simp only [List.length_drop, List.length_take]; rfl)) ?_
        with_reducible refine (haulagelaw08_found.calls t287 t288 t291 false _ A42.out).mono ?_
        rintro e w' ⟨rfl, ⟨nd, rfl⟩⟩
        refine ⟨_, rfl, ?_⟩
        refine hK.out _ _ ((blk_cell BK279.out 0).trans rfl) (fun hHeld => ?_)
        clear hK K
        refine norm_ (a' := ?_) ?_ ?_
        rotate_left
        ·
         show Act.put _ (some 59) _ = _
         simp only [Act.put, s1_, s2_, s3_, i64_w, i32_w]
         rfl
        refine pure_ (i := 14) (N := some 60) (v := ?_) (a' := ?_) (tB 32767 31) rfl rfl (any_of HT_.out (by kernel_rfl)) (fun _ _ _ h => h) (Or.inl ⟨by rfl, ?_⟩) ?_ ?_
        rotate_left
        ·
         intro w'
         go_simp
         with_reducible rfl
        rotate_left
        ·
         simp only [Act.put, s1_, s2_, s3_, i64_w, i32_w]
         rfl
        refine pure_ (i := 15) (N := some 61) (v := ?_) (a' := ?_) (tB 65535 31) rfl rfl (any_of HT_.out (by kernel_rfl)) (fun _ _ _ h => h) (Or.inl ⟨by rfl, ?_⟩) ?_ ?_
        rotate_left
        ·
         intro w'
         go_simp
         with_reducible rfl
        rotate_left
        ·
         simp only [Act.put, s1_, s2_, s3_, i64_w, i32_w]
         rfl
        refine pure_ (i := 16) (N := some 62) (v := ?_) (a' := ?_) (tB 131071 31) rfl rfl (any_of HT_.out (by kernel_rfl)) (fun _ _ _ h => h) (Or.inl ⟨by rfl, ?_⟩) ?_ ?_
        rotate_left
        ·
         intro w'
         go_simp
         with_reducible rfl
        rotate_left
        ·
         simp only [Act.put, s1_, s2_, s3_, i64_w, i32_w]
         rfl
        refine pure_ (i := 17) (N := some 63) (v := undef) (a' := ?_) (tB 262143 31) rfl rfl (any_of HT_.out (by kernel_rfl)) (fun _ _ _ h => h) (Or.inr ⟨by rfl, rfl⟩) ?_ ?_
        rotate_left
        ·
         simp only [Act.put, s1_, s2_, s3_, i64_w, i32_w]
         rfl
        refine pure_ (i := 18) (N := some 64) (v := undef) (a' := ?_) (tB 524287 31) rfl rfl (any_of HT_.out (by kernel_rfl)) (fun _ _ _ h => h) (Or.inr ⟨by rfl, rfl⟩) ?_ ?_
        rotate_left
        ·
         simp only [Act.put, s1_, s2_, s3_, i64_w, i32_w]
         rfl
        refine pure_ (i := 19) (N := some 65) (v := undef) (a' := ?_) (tB 1048575 31) rfl rfl (any_of HT_.out (by kernel_rfl)) (fun _ _ _ h => h) (Or.inr ⟨by rfl, rfl⟩) ?_ ?_
        rotate_left
        ·
         simp only [Act.put, s1_, s2_, s3_, i64_w, i32_w]
         rfl
        refine pure_ (i := 20) (N := some 66) (v := undef) (a' := ?_) (tB 2097151 31) rfl rfl (any_of HT_.out (by kernel_rfl)) (fun _ _ _ h => h) (Or.inr ⟨by rfl, rfl⟩) ?_ ?_
        rotate_left
        ·
         simp only [Act.put, s1_, s2_, s3_, i64_w, i32_w]
         rfl
        refine pure_ (i := 21) (N := some 67) (v := undef) (a' := ?_) (tB 4194303 31) rfl rfl (any_of HT_.out (by kernel_rfl)) (fun _ _ _ h => h) (Or.inr ⟨by rfl, rfl⟩) ?_ ?_
        rotate_left
        ·
         simp only [Act.put, s1_, s2_, s3_, i64_w, i32_w]
         rfl
        refine pure_ (i := 22) (N := some 68) (v := undef) (a' := ?_) (tB 8388607 31) rfl rfl (any_of HT_.out (by kernel_rfl)) (fun _ _ _ h => h) (Or.inr ⟨by rfl, rfl⟩) ?_ ?_
        rotate_left
        ·
         simp only [Act.put, s1_, s2_, s3_, i64_w, i32_w]
         rfl
        refine pure_ (i := 23) (N := some 69) (v := undef) (a' := ?_) (tB 16777215 31) rfl rfl (any_of HT_.out (by kernel_rfl)) (fun _ _ _ h => h) (Or.inr ⟨by rfl, rfl⟩) ?_ ?_
        rotate_left
        ·
         simp only [Act.put, s1_, s2_, s3_, i64_w, i32_w]
         rfl
        refine pure_ (i := 24) (N := some 70) (v := ?_) (a' := ?_) (tB 33554431 31) rfl rfl (any_of HT_.out (by kernel_rfl)) (fun _ _ _ h => h) (Or.inl ⟨by rfl, ?_⟩) ?_ ?_
        rotate_left
        ·
         intro w'
         go_simp
         with_reducible rfl
        rotate_left
        ·
         simp only [Act.put, s1_, s2_, s3_, i64_w, i32_w]
         rfl
        refine pure_ (i := 25) (N := some 71) (v := ?_) (a' := ?_) (tB 67108863 31) rfl rfl (any_of HT_.out (by kernel_rfl)) (fun _ _ _ h => h) (Or.inl ⟨by rfl, ?_⟩) ?_ ?_
        rotate_left
        ·
         intro w'
         go_simp
         with_reducible rfl
        rotate_left
        ·
         simp only [Act.put, s1_, s2_, s3_, i64_w, i32_w]
         rfl
        refine pure_ (i := 26) (N := some 72) (v := undef) (a' := ?_) (tB 134217727 31) rfl rfl (any_of HT_.out (by kernel_rfl)) (fun _ _ _ h => h) (Or.inr ⟨by rfl, rfl⟩) ?_ ?_
        rotate_left
        ·
         simp only [Act.put, s1_, s2_, s3_, i64_w, i32_w]
         rfl
        refine pure_ (i := 27) (N := some 73) (v := undef) (a' := ?_) (tB 268435455 31) rfl rfl (any_of HT_.out (by kernel_rfl)) (fun _ _ _ h => h) (Or.inr ⟨by rfl, rfl⟩) ?_ ?_
        rotate_left
        ·
         simp only [Act.put, s1_, s2_, s3_, i64_w, i32_w]
         rfl
        refine pure_ (i := 28) (N := some 74) (v := undef) (a' := ?_) (tB 536870911 31) rfl rfl (any_of HT_.out (by kernel_rfl)) (fun _ _ _ h => h) (Or.inr ⟨by rfl, rfl⟩) ?_ ?_
        rotate_left
        ·
         simp only [Act.put, s1_, s2_, s3_, i64_w, i32_w]
         rfl
        refine pure_ (i := 29) (N := some 75) (v := undef) (a' := ?_) (tB 1073741823 31) rfl rfl (any_of HT_.out (by kernel_rfl)) (fun _ _ _ h => h) (Or.inr ⟨by rfl, rfl⟩) ?_ ?_
        rotate_left
        ·
         simp only [Act.put, s1_, s2_, s3_, i64_w, i32_w]
         rfl
        refine pure_ (i := 30) (N := some 76) (v := ?_) (a' := ?_) (tB 2147483647 31) rfl rfl (any_of HT_.out (by kernel_rfl)) (fun _ _ _ h => h) (Or.inl ⟨by rfl, ?_⟩) ?_ ?_
        rotate_left
        ·
         intro w'
         go_simp
         with_reducible rfl
        rotate_left
        ·
         simp only [Act.put, s1_, s2_, s3_, i64_w, i32_w]
         rfl
        refine done_ (done_of HT_.out (by kernel_rfl)) ?_
        try go_wp2
        go_meet
        case rel => exact ⟨_, (true), (by first | rfl | (simp; done) | (simp [*]; done)), H', ⟨by have := HJ6.out; first | omega | exact Nat.le_refl _⟩, ⟨by (with_reducible repeat (first | refine kN ?_ _ | refine kD ?_ | refine kA ?_ _)); exact BK279.out⟩, ⟨by (with_reducible repeat (first | refine kN ?_ _ | refine kD ?_ | refine kA ?_ _)); exact BK280.out⟩, ⟨by repeat (first | (with_reducible first | exact HB.out | apply bA | apply bN | apply b1 | refine bS ?_ GE279.out | refine bS ?_ GE280.out) | exact HB.out)⟩⟩
      ·
       replace c40 := Bool.eq_false_iff.mpr c40
       subst c40
       have H1 : (haulagelaw08_SchemaFinds.j1 kj6 a2 true l0_0 l1_0) = some r := by rw [if_neg (show ¬ (false = true) by decide)] at H; exact H
       clear H
       have H := H1
       clear H1
       have H' := aM H
       clear H
       try go_wp2
       have n0_ := aM (kD BK279.out)
       have n1_ := aM (kD BK280.out)
       have n2_ := aM (b1 HB.out)
       clear BK279
       clear BK280
       clear HB
       have BK279 := n0_
       have BK280 := n1_
       have HB := n2_
       clear n0_ n1_ n2_
       refine start_ (n := 31) (S := fun w' => w'.cell? ⟨gb279, 0, none⟩ = some (.slice A0_0 l0_0.length c0_0)) (ds := []) (tB 0 31) (by kernel_rfl) rfl rfl ((blk_cell BK279.out 0).trans rfl) (fun hHeld => ?_); refine with_tabW haulagelaw08_SchemaFinds.tab7 haulagelaw08_SchemaFinds.bits7 (fun HT_ HW_ => ?_)
       generalize w37.drew = w62 at BK279 BK280 HB hHeld ⊢
       refine pure_ (i := 0) (N := some 46) (v := ?_) (a' := ?_) (tB 1 31) rfl rfl (any_of HT_.out (by kernel_rfl)) (fun _ _ _ h => h) (Or.inl ⟨by rfl, ?_⟩) ?_ ?_
       rotate_left
       ·
        intro w'
        go_simp
        with_reducible rfl
       rotate_left
       ·
        simp only [Act.put, s1_, s2_, s3_, i64_w, i32_w]
        rfl
       refine pure_ (i := 1) (N := some 47) (v := ?_) (a' := ?_) (tB 3 31) rfl rfl (any_of HT_.out (by kernel_rfl)) (fun _ _ _ h => h) (Or.inl ⟨by rfl, ?_⟩) ?_ ?_
       rotate_left
       ·
        intro w'
        go_simp
        with_reducible rfl
       rotate_left
       ·
        simp only [Act.put, s1_, s2_, s3_, i64_w, i32_w]
        rfl
       refine pure_ (i := 3) (N := some 49) (v := ?_) (a' := ?_) (tB 11 31) rfl rfl (any_of HT_.out (by kernel_rfl)) (fun _ _ _ h => h) (Or.inl ⟨by rfl, ?_⟩) ?_ ?_
       rotate_left
       ·
        intro w'
        go_simp
        with_reducible rfl
       rotate_left
       ·
        simp only [Act.put, s1_, s2_, s3_, i64_w, i32_w]
        rfl
       refine take_ (i := 2) (N := some 48) (v := ?_) (a' := ?_) (tB 15 31) rfl rfl (take_ofW HT_.out HW_.out (by kernel_rfl)) (fun _ _ _ h => h) (Or.inl ⟨by rfl, ?_⟩) hHeld ?_ ?_
       rotate_left
       ·
        intro w' s0
        go_simp
        with_reducible rfl
       rotate_left
       ·
        simp only [Act.put, s1_, s2_, s3_, i64_w, i32_w]
        rfl
       refine one_ (i := 4) (N := some 50) (tB 31 31) rfl rfl (one_of HT_.out (by kernel_rfl)) (by decide) (fun K hK => ?_)
       refine goes_ Tryd.func42 (by kernel_rfl) rfl #[.agg #[.slice A0_0 l0_0.length c0_0], .string a2] (by rfl) rfl rfl (by (try simp only [List.map_toArray, List.map_cons, List.map_nil]); first | done | rfl | (simp only [List.length_drop, List.length_take]; rfl)) ?_
       with_reducible refine (haulageref08_Find.calls kj6 _ _ l0_0 a2 t289 _ ?side1 ?side2 A38.out).mono ?_
       (case side1 => repeat (first | exact (Kd.C_below HR0_0.out HB.out) | (with_reducible refine Kd.C_alloc ?_ _) | (with_reducible refine Kd.C_drewN ?_ _) | (with_reducible refine Kd.C_drew ?_)))
       (case side2 => exact HC0_0.out)
       rintro e w63 ⟨rfl, hb⟩
       refine ⟨_, rfl, ?_⟩
       have n0_ := aM (kB (g := gb279) (o := .cells #[.slice A0_0 l0_0.length c0_0] 46 (0, 0)) (by (with_reducible repeat (first | refine kN ?_ _ | refine kD ?_ | refine kA ?_ _)); exact BK279.out) hb)
       have n1_ := aM (kB (g := gb280) (o := .cells #[.slice A1_0 l1_0.length c1_0] 46 (0, 0)) (by (with_reducible repeat (first | refine kN ?_ _ | refine kD ?_ | refine kA ?_ _)); exact BK280.out) hb)
       have n2_ := aM (bP (by repeat (first | (with_reducible first | exact HB.out | apply bA | apply bN | apply b1 | refine bS ?_ GE279.out | refine bS ?_ GE280.out) | exact HB.out)) hb)
       clear BK279
       clear BK280
       clear HB
       have BK279 := n0_
       have BK280 := n1_
       have HB := n2_
       clear n0_ n1_ n2_
       (try clear hb)
       (try clear hb2)
       (try clear hk)
       (try clear hi)
       refine hK.out _ _ ((blk_cell BK279.out 0).trans rfl) (fun hHeld => ?_)
       clear hK K
       refine norm_ (a' := ?_) ?_ ?_
       rotate_left
       ·
        show Act.put _ (some 50) _ = _
        simp only [Act.put, s1_, s2_, s3_, i64_w, i32_w]
        rfl
       refine one_ (i := 5) (N := some 51) (tB 63 31) rfl rfl (one_of HT_.out (by kernel_rfl)) (by decide) (fun K hK => ?_)
       refine goes_ Tryd.func41 (by kernel_rfl) rfl #[.int .i64 t285, .bool t286, .int .i64 t289] (by rfl) rfl rfl (by (try simp only [List.map_toArray, List.map_cons, List.map_nil]); first | done | rfl | (simp only [List.length_drop, List.length_take]; rfl)) ?_
       with_reducible refine (haulagelaw08_found.calls t285 t286 t289 false _ A39.out).mono ?_
       rintro e w' ⟨rfl, ⟨nd, rfl⟩⟩
       refine ⟨_, rfl, ?_⟩
       refine hK.out _ _ ((blk_cell BK279.out 0).trans rfl) (fun hHeld => ?_)
       clear hK K
       refine norm_ (a' := ?_) ?_ ?_
       rotate_left
       ·
        show Act.put _ (some 51) _ = _
        simp only [Act.put, s1_, s2_, s3_, i64_w, i32_w]
        rfl
       refine pure_ (i := 6) (N := some 52) (v := ?_) (a' := ?_) (tB 127 31) rfl rfl (any_of HT_.out (by kernel_rfl)) (fun _ _ _ h => h) (Or.inl ⟨by rfl, ?_⟩) ?_ ?_
       rotate_left
       ·
        intro w'
        go_simp
        with_reducible rfl
       rotate_left
       ·
        simp only [Act.put, s1_, s2_, s3_, i64_w, i32_w]
        rfl
       refine pure_ (i := 7) (N := some 53) (v := ?_) (a' := ?_) (tB 255 31) rfl rfl (any_of HT_.out (by kernel_rfl)) (fun _ _ _ h => h) (Or.inl ⟨by rfl, ?_⟩) ?_ ?_
       rotate_left
       ·
        intro w'
        go_simp
        with_reducible rfl
       rotate_left
       ·
        simp only [Act.put, s1_, s2_, s3_, i64_w, i32_w]
        rfl
       refine pure_ (i := 8) (N := some 54) (v := undef) (a' := ?_) (tB 511 31) rfl rfl (any_of HT_.out (by kernel_rfl)) (fun _ _ _ h => h) (Or.inr ⟨by rfl, rfl⟩) ?_ ?_
       rotate_left
       ·
        simp only [Act.put, s1_, s2_, s3_, i64_w, i32_w]
        rfl
       refine pure_ (i := 9) (N := some 55) (v := undef) (a' := ?_) (tB 1023 31) rfl rfl (any_of HT_.out (by kernel_rfl)) (fun _ _ _ h => h) (Or.inr ⟨by rfl, rfl⟩) ?_ ?_
       rotate_left
       ·
        simp only [Act.put, s1_, s2_, s3_, i64_w, i32_w]
        rfl
       refine pure_ (i := 10) (N := some 56) (v := undef) (a' := ?_) (tB 2047 31) rfl rfl (any_of HT_.out (by kernel_rfl)) (fun _ _ _ h => h) (Or.inr ⟨by rfl, rfl⟩) ?_ ?_
       rotate_left
       ·
        simp only [Act.put, s1_, s2_, s3_, i64_w, i32_w]
        rfl
       refine pure_ (i := 11) (N := some 57) (v := undef) (a' := ?_) (tB 4095 31) rfl rfl (any_of HT_.out (by kernel_rfl)) (fun _ _ _ h => h) (Or.inr ⟨by rfl, rfl⟩) ?_ ?_
       rotate_left
       ·
        simp only [Act.put, s1_, s2_, s3_, i64_w, i32_w]
        rfl
       refine pure_ (i := 12) (N := some 58) (v := undef) (a' := ?_) (tB 8191 31) rfl rfl (any_of HT_.out (by kernel_rfl)) (fun _ _ _ h => h) (Or.inr ⟨by rfl, rfl⟩) ?_ ?_
       rotate_left
       ·
        simp only [Act.put, s1_, s2_, s3_, i64_w, i32_w]
        rfl
       refine pure_ (i := 13) (N := some 59) (v := undef) (a' := ?_) (tB 16383 31) rfl rfl (any_of HT_.out (by kernel_rfl)) (fun _ _ _ h => h) (Or.inr ⟨by rfl, rfl⟩) ?_ ?_
       rotate_left
       ·
        simp only [Act.put, s1_, s2_, s3_, i64_w, i32_w]
        rfl
       refine pure_ (i := 14) (N := some 60) (v := undef) (a' := ?_) (tB 32767 31) rfl rfl (any_of HT_.out (by kernel_rfl)) (fun _ _ _ h => h) (Or.inr ⟨by rfl, rfl⟩) ?_ ?_
       rotate_left
       ·
        simp only [Act.put, s1_, s2_, s3_, i64_w, i32_w]
        rfl
       refine pure_ (i := 15) (N := some 61) (v := ?_) (a' := ?_) (tB 65535 31) rfl rfl (any_of HT_.out (by kernel_rfl)) (fun _ _ _ h => h) (Or.inl ⟨by rfl, ?_⟩) ?_ ?_
       rotate_left
       ·
        intro w'
        go_simp
        with_reducible rfl
       rotate_left
       ·
        simp only [Act.put, s1_, s2_, s3_, i64_w, i32_w]
        rfl
       refine pure_ (i := 16) (N := some 62) (v := ?_) (a' := ?_) (tB 131071 31) rfl rfl (any_of HT_.out (by kernel_rfl)) (fun _ _ _ h => h) (Or.inl ⟨by rfl, ?_⟩) ?_ ?_
       rotate_left
       ·
        intro w'
        go_simp
        with_reducible rfl
       rotate_left
       ·
        simp only [Act.put, s1_, s2_, s3_, i64_w, i32_w]
        rfl
       refine pure_ (i := 17) (N := some 63) (v := undef) (a' := ?_) (tB 262143 31) rfl rfl (any_of HT_.out (by kernel_rfl)) (fun _ _ _ h => h) (Or.inr ⟨by rfl, rfl⟩) ?_ ?_
       rotate_left
       ·
        simp only [Act.put, s1_, s2_, s3_, i64_w, i32_w]
        rfl
       refine pure_ (i := 18) (N := some 64) (v := undef) (a' := ?_) (tB 524287 31) rfl rfl (any_of HT_.out (by kernel_rfl)) (fun _ _ _ h => h) (Or.inr ⟨by rfl, rfl⟩) ?_ ?_
       rotate_left
       ·
        simp only [Act.put, s1_, s2_, s3_, i64_w, i32_w]
        rfl
       refine pure_ (i := 19) (N := some 65) (v := undef) (a' := ?_) (tB 1048575 31) rfl rfl (any_of HT_.out (by kernel_rfl)) (fun _ _ _ h => h) (Or.inr ⟨by rfl, rfl⟩) ?_ ?_
       rotate_left
       ·
        simp only [Act.put, s1_, s2_, s3_, i64_w, i32_w]
        rfl
       refine pure_ (i := 20) (N := some 66) (v := undef) (a' := ?_) (tB 2097151 31) rfl rfl (any_of HT_.out (by kernel_rfl)) (fun _ _ _ h => h) (Or.inr ⟨by rfl, rfl⟩) ?_ ?_
       rotate_left
       ·
        simp only [Act.put, s1_, s2_, s3_, i64_w, i32_w]
        rfl
       refine pure_ (i := 21) (N := some 67) (v := undef) (a' := ?_) (tB 4194303 31) rfl rfl (any_of HT_.out (by kernel_rfl)) (fun _ _ _ h => h) (Or.inr ⟨by rfl, rfl⟩) ?_ ?_
       rotate_left
       ·
        simp only [Act.put, s1_, s2_, s3_, i64_w, i32_w]
        rfl
       refine pure_ (i := 22) (N := some 68) (v := undef) (a' := ?_) (tB 8388607 31) rfl rfl (any_of HT_.out (by kernel_rfl)) (fun _ _ _ h => h) (Or.inr ⟨by rfl, rfl⟩) ?_ ?_
       rotate_left
       ·
        simp only [Act.put, s1_, s2_, s3_, i64_w, i32_w]
        rfl
       refine pure_ (i := 23) (N := some 69) (v := undef) (a' := ?_) (tB 16777215 31) rfl rfl (any_of HT_.out (by kernel_rfl)) (fun _ _ _ h => h) (Or.inr ⟨by rfl, rfl⟩) ?_ ?_
       rotate_left
       ·
        simp only [Act.put, s1_, s2_, s3_, i64_w, i32_w]
        rfl
       refine pure_ (i := 24) (N := some 70) (v := ?_) (a' := ?_) (tB 33554431 31) rfl rfl (any_of HT_.out (by kernel_rfl)) (fun _ _ _ h => h) (Or.inl ⟨by rfl, ?_⟩) ?_ ?_
       rotate_left
       ·
        intro w'
        go_simp
        with_reducible rfl
       rotate_left
       ·
        simp only [Act.put, s1_, s2_, s3_, i64_w, i32_w]
        rfl
       refine pure_ (i := 25) (N := some 71) (v := ?_) (a' := ?_) (tB 67108863 31) rfl rfl (any_of HT_.out (by kernel_rfl)) (fun _ _ _ h => h) (Or.inl ⟨by rfl, ?_⟩) ?_ ?_
       rotate_left
       ·
        intro w'
        go_simp
        with_reducible rfl
       rotate_left
       ·
        simp only [Act.put, s1_, s2_, s3_, i64_w, i32_w]
        rfl
       refine pure_ (i := 26) (N := some 72) (v := undef) (a' := ?_) (tB 134217727 31) rfl rfl (any_of HT_.out (by kernel_rfl)) (fun _ _ _ h => h) (Or.inr ⟨by rfl, rfl⟩) ?_ ?_
       rotate_left
       ·
        simp only [Act.put, s1_, s2_, s3_, i64_w, i32_w]
        rfl
       refine pure_ (i := 27) (N := some 73) (v := undef) (a' := ?_) (tB 268435455 31) rfl rfl (any_of HT_.out (by kernel_rfl)) (fun _ _ _ h => h) (Or.inr ⟨by rfl, rfl⟩) ?_ ?_
       rotate_left
       ·
        simp only [Act.put, s1_, s2_, s3_, i64_w, i32_w]
        rfl
       refine pure_ (i := 28) (N := some 74) (v := undef) (a' := ?_) (tB 536870911 31) rfl rfl (any_of HT_.out (by kernel_rfl)) (fun _ _ _ h => h) (Or.inr ⟨by rfl, rfl⟩) ?_ ?_
       rotate_left
       ·
        simp only [Act.put, s1_, s2_, s3_, i64_w, i32_w]
        rfl
       refine pure_ (i := 29) (N := some 75) (v := undef) (a' := ?_) (tB 1073741823 31) rfl rfl (any_of HT_.out (by kernel_rfl)) (fun _ _ _ h => h) (Or.inr ⟨by rfl, rfl⟩) ?_ ?_
       rotate_left
       ·
        simp only [Act.put, s1_, s2_, s3_, i64_w, i32_w]
        rfl
       refine pure_ (i := 30) (N := some 76) (v := ?_) (a' := ?_) (tB 2147483647 31) rfl rfl (any_of HT_.out (by kernel_rfl)) (fun _ _ _ h => h) (Or.inl ⟨by rfl, ?_⟩) ?_ ?_
       rotate_left
       ·
        intro w'
        go_simp
        with_reducible rfl
       rotate_left
       ·
        simp only [Act.put, s1_, s2_, s3_, i64_w, i32_w]
        rfl
       refine done_ (done_of HT_.out (by kernel_rfl)) ?_
       try go_wp2
       go_meet
       case rel => exact ⟨_, (true), (by first | rfl | (simp; done) | (simp [*]; done)), H', ⟨by have := HJ6.out; first | omega | exact Nat.le_refl _⟩, ⟨by (with_reducible repeat (first | refine kN ?_ _ | refine kD ?_ | refine kA ?_ _)); exact BK279.out⟩, ⟨by (with_reducible repeat (first | refine kN ?_ _ | refine kD ?_ | refine kA ?_ _)); exact BK280.out⟩, ⟨by repeat (first | (with_reducible first | exact HB.out | apply bA | apply bN | apply b1 | refine bS ?_ GE279.out | refine bS ?_ GE280.out) | exact HB.out)⟩⟩
     case rest =>
      clear HC32
      try clear c1
      try clear p2
      try clear c4
      try clear c40
      try clear c41
      try clear c42
      try clear c43
      try clear c44
      obtain ⟨kq, x76_31, rfl, HA, HJ31, BK279, BK280, HB⟩ := hcut
      cases kq with
      | zero => exact absurd HA.out (by simp [haulagelaw08_SchemaFinds.j1])
      | succ kj31 =>
       have H := HA.out
       clear HA
       simp only [haulagelaw08_SchemaFinds.j1] at H
       by_cases c64 : x76_31 = true
       ·
        subst c64
        have H1 : (some false) = some r := by rw [if_pos rfl] at H; exact H
        clear H
        have H := H1
        clear H1
        obtain rfl := Option.some.inj H
        go_wp2
        go_ret
        exact ⟨by first | rfl | (simp [errW_none, errW_some] <;> rfl) | (simp [*, errW_none, errW_some] <;> rfl), by repeat (first | (with_reducible first | exact HB.out | apply bA | apply bN | apply b1 | refine bS ?_ GE279.out | refine bS ?_ GE280.out) | exact HB.out)⟩
       ·
        replace c64 := Bool.eq_false_iff.mpr c64
        subst c64
        have H1 : (haulagelaw08_SchemaFinds.l0 kj31 a2 0 l0_0 l1_0) = some r := by rw [if_neg (show ¬ (false = true) by decide)] at H; exact H
        clear H
        have H := H1
        clear H1
        have H' := aM H
        clear H
        go_wp2
        go_loopg [13] kj31 (fun kq v13 w' => ∃ (x13_3 : Int), v13 = .int .i64 x13_3 ∧ Aside0 (haulagelaw08_SchemaFinds.l0 kq a2 x13_3 l0_0 l1_0 = some r) ∧ Aside0 (kq ≤ kj31) ∧ Aside0 (w'.heap[gb279]? = some (.cells #[(.slice A0_0 l0_0.length c0_0)] 46 (0, 0))) ∧ Aside0 (w'.heap[gb280]? = some (.cells #[(.slice A1_0 l1_0.length c1_0)] 46 (0, 0))) ∧ Aside0 (Below w.heap.size w w'))
        case atStart => exact ⟨(0), (by first | rfl | (simp; done) | (simp [*]; done)), H', ⟨Nat.le_refl _⟩, ⟨by (with_reducible repeat (first | refine kN ?_ _ | refine kD ?_ | refine kA ?_ _)); exact BK279.out⟩, ⟨by (with_reducible repeat (first | refine kN ?_ _ | refine kD ?_ | refine kA ?_ _)); exact BK280.out⟩, ⟨by repeat (first | (with_reducible first | exact HB.out | apply bA | apply bN | apply b1 | refine bS ?_ GE279.out | refine bS ?_ GE280.out) | exact HB.out)⟩⟩
        case round =>
         clear H'
         try clear c1
         try clear p2
         try clear c4
         try clear c6
         try clear c40
         try clear c41
         try clear c42
         try clear c43
         try clear c44
         try clear c64
         try clear p2
         obtain ⟨x13_3, rfl, HA, HK3, BK279, BK280, HB⟩ := hrel
         cases gk with
         | zero => exact absurd HA.out (by simp [haulagelaw08_SchemaFinds.l0])
         | succ k3 =>
          have H := HA.out
          clear HA
          simp only [haulagelaw08_SchemaFinds.l0] at H
          by_cases c65 : x13_3 < (l0_0.length : Int)
          ·
           rw [if_pos c65] at H
           have c65b0 : decide (x13_3 < (l0_0.length : Int)) = true := decide_eq_true c65
           clear c65
           by_cases c66 : 0 ≤ x13_3
           ·
            rw [if_pos c66] at H
            have c66b0 : decide (0 ≤ x13_3) = true := decide_eq_true c66
            clear c66
            replace H := Option.bind_eq_some_iff.mp H
            obtain ⟨⟨t298, t299⟩, A670, H⟩ := H
            replace H : ((schema_Key.f k3 ((rd_T24 l0_0 x13_3).f0) ((rd_T24 l0_0 x13_3).f1) ((rd_T24 l0_0 x13_3).f2) ((rd_T24 l0_0 x13_3).f3) ((rd_T24 l0_0 x13_3).f4)).bind fun bt300 => ((haulageref08_Col.f k3 ((rd_T24 l0_0 x13_3).f0) ((rd_T24 l0_0 x13_3).f1) ((rd_T24 l0_0 x13_3).f2) ((rd_T24 l0_0 x13_3).f3) ((rd_T24 l0_0 x13_3).f4) a2).bind fun t302 => ((haulagelaw08_found.f t298 t299 t302).bind fun t303 => (if t303 = true then ((haulageref08_Key.f k3 ((rd_T24 l0_0 x13_3).f0) ((rd_T24 l0_0 x13_3).f1) ((rd_T24 l0_0 x13_3).f2) ((rd_T24 l0_0 x13_3).f3) ((rd_T24 l0_0 x13_3).f4)).bind fun t304 => ((haulagelaw08_found.f bt300.1 bt300.2 t304).bind fun t305 => (haulagelaw08_SchemaFinds.j3 k3 a2 x13_3 (!t305) l0_0 l1_0 ((rd_T24 l0_0 x13_3).f0) ((rd_T24 l0_0 x13_3).f1) ((rd_T24 l0_0 x13_3).f2) ((rd_T24 l0_0 x13_3).f3) ((rd_T24 l0_0 x13_3).f4)))) else (haulagelaw08_SchemaFinds.j3 k3 a2 x13_3 true l0_0 l1_0 ((rd_T24 l0_0 x13_3).f0) ((rd_T24 l0_0 x13_3).f1) ((rd_T24 l0_0 x13_3).f2) ((rd_T24 l0_0 x13_3).f3) ((rd_T24 l0_0 x13_3).f4)))))) = some r := H
            have A67 := aM A670
            clear A670
            replace H := Option.bind_eq_some_iff.mp H
            obtain ⟨⟨t300, t301⟩, A680, H⟩ := H
            replace H : ((haulageref08_Col.f k3 ((rd_T24 l0_0 x13_3).f0) ((rd_T24 l0_0 x13_3).f1) ((rd_T24 l0_0 x13_3).f2) ((rd_T24 l0_0 x13_3).f3) ((rd_T24 l0_0 x13_3).f4) a2).bind fun t302 => ((haulagelaw08_found.f t298 t299 t302).bind fun t303 => (if t303 = true then ((haulageref08_Key.f k3 ((rd_T24 l0_0 x13_3).f0) ((rd_T24 l0_0 x13_3).f1) ((rd_T24 l0_0 x13_3).f2) ((rd_T24 l0_0 x13_3).f3) ((rd_T24 l0_0 x13_3).f4)).bind fun t304 => ((haulagelaw08_found.f t300 t301 t304).bind fun t305 => (haulagelaw08_SchemaFinds.j3 k3 a2 x13_3 (!t305) l0_0 l1_0 ((rd_T24 l0_0 x13_3).f0) ((rd_T24 l0_0 x13_3).f1) ((rd_T24 l0_0 x13_3).f2) ((rd_T24 l0_0 x13_3).f3) ((rd_T24 l0_0 x13_3).f4)))) else (haulagelaw08_SchemaFinds.j3 k3 a2 x13_3 true l0_0 l1_0 ((rd_T24 l0_0 x13_3).f0) ((rd_T24 l0_0 x13_3).f1) ((rd_T24 l0_0 x13_3).f2) ((rd_T24 l0_0 x13_3).f3) ((rd_T24 l0_0 x13_3).f4))))) = some r := H
            have A68 := aM A680
            clear A680
            have HC69 := aM H
            clear H
            have hnb70 := NB279_280.out
            have hnc70 := NB280_279.out
            obtain ⟨hcz71_0, hfz71_0⟩ := cells1 BK279.out
            have p296 : 0 ≤ (x13_3 : Int) := oD (by first | (with_reducible assumption) | assumption)
            have q296 : x13_3 < (l0_0.length : Int) := oD (by first | (with_reducible assumption) | assumption)
            obtain ⟨ad296, A296_4, c296_4, e296, hx296_0, hx296_1, hx296_2, hx296_3, hx296_4, hl296_4, hi296_4⟩ := at_T24 HR0_0.out x13_3 p296 q296
            cases e296
            replace hx296_0 := pw_cell_below HB.out hx296_0
            replace hx296_1 := pw_cell_below HB.out hx296_1
            replace hx296_2 := pw_cell_below HB.out hx296_2
            replace hx296_3 := pw_cell_below HB.out hx296_3
            replace hx296_4 := pw_cell_below HB.out hx296_4
            have HR296_4 := aM hi296_4
            have HC296_4 := aM hl296_4
            clear hi296_4 hl296_4
            replace p296 := eq_true p296
            replace q296 := eq_true q296
            go_upto_region 15 with (first | ((with_reducible refine gate_dst (N := 14) rfl ?_); refine box_event ?hg (N := 14) ?hd (cs := #[.int .i64 0, .string (⟨#[]⟩ : ByteArray), .int .i64 0, .int .i64 0, .slice none 0 0]) (t := 24) ?hr ?_; (case hd => rfl); (case hg => rfl); (case hr => first | (go_simp; done) | (go_simp; rfl)); intro gb297 hg w72 hbox hb; have n0_ := aM (kB (g := gb279) (o := .cells #[.slice (some ad296) l0_0.length c0_0] 46 (0, 0)) (by (with_reducible repeat (first | refine kN ?_ _ | refine kD ?_ | refine kA ?_ _)); exact BK279.out) hb); have n1_ := aM (kB (g := gb280) (o := .cells #[.slice A1_0 l1_0.length c1_0] 46 (0, 0)) (by (with_reducible repeat (first | refine kN ?_ _ | refine kD ?_ | refine kA ?_ _)); exact BK280.out) hb); have n2_ := aM (bP (by repeat (first | (with_reducible first | exact HB.out | apply bA | apply bN | apply b1 | refine bS ?_ GE279.out | refine bS ?_ GE280.out) | exact HB.out)) hb); have n3_ := aM (hbox); have n4_ := aM ((by rw [hg]; exact (bZ (by repeat (first | (with_reducible first | exact HB.out | apply bA | apply bN | apply b1 | refine bS ?_ GE279.out | refine bS ?_ GE280.out) | exact HB.out))) : w.heap.size ≤ gb297)); have n5_ := aM ((by rw [hg]; exact (bZ (by repeat (first | (with_reducible first | exact HB.out | apply bA | apply bN | apply b1 | refine bS ?_ GE279.out | refine bS ?_ GE280.out) | exact HB.out))) : w.heap.size ≤ gb297)); have n6_ := aM ((by rw [hg]; exact Nat.ne_of_lt (blk_lt (g := gb279) (o := .cells #[.slice (some ad296) l0_0.length c0_0] 46 (0, 0)) (by (with_reducible repeat (first | refine kN ?_ _ | refine kD ?_ | refine kA ?_ _)); exact BK279.out)) : gb279 ≠ gb297)); have n7_ := aM ((by rw [hg]; exact Nat.ne_of_gt (blk_lt (g := gb279) (o := .cells #[.slice (some ad296) l0_0.length c0_0] 46 (0, 0)) (by (with_reducible repeat (first | refine kN ?_ _ | refine kD ?_ | refine kA ?_ _)); exact BK279.out)) : gb297 ≠ gb279)); have n8_ := aM ((by rw [hg]; exact Nat.ne_of_lt (blk_lt (g := gb280) (o := .cells #[.slice A1_0 l1_0.length c1_0] 46 (0, 0)) (by (with_reducible repeat (first | refine kN ?_ _ | refine kD ?_ | refine kA ?_ _)); exact BK280.out)) : gb280 ≠ gb297)); have n9_ := aM ((by rw [hg]; exact Nat.ne_of_gt (blk_lt (g := gb280) (o := .cells #[.slice A1_0 l1_0.length c1_0] 46 (0, 0)) (by (with_reducible repeat (first | refine kN ?_ _ | refine kD ?_ | refine kA ?_ _)); exact BK280.out)) : gb297 ≠ gb280)); clear BK279; clear BK280; clear HB; have BK279 := n0_; have BK280 := n1_; have HB := n2_; have BK297 := n3_; have GW297 := n4_; have GE297 := n5_; have NB279_297 := n6_; have NB297_279 := n7_; have NB280_297 := n8_; have NB297_280 := n9_; clear n0_ n1_ n2_ n3_ n4_ n5_ n6_ n7_ n8_ n9_; clear hb hbox hg; have hnb73 := NB297_279.out; have hnc73 := NB279_297.out; have hnb74 := NB297_280.out; have hnc74 := NB280_297.out; obtain ⟨hcz75_0, hcz75_1, hcz75_2, hcz75_3, hcz75_4, hfz75_0, hfz75_1, hfz75_2, hfz75_3, hfz75_4⟩ := cells5 BK297.out) | ((with_reducible refine gate_callee (f := 46) rfl ?_); refine goesL_ (some 92) rfl rfl Tryd.func46 (by kernel_rfl) rfl #[.agg #[.int .i64 ((rd_T24 l0_0 x13_3).f0), .string ((rd_T24 l0_0 x13_3).f1), .int .i64 ((rd_T24 l0_0 x13_3).f2), .int .i64 ((rd_T24 l0_0 x13_3).f3), .slice A296_4 ((rd_T24 l0_0 x13_3).f4).length c296_4], .string a2] rfl (by (try simp only [List.map_toArray, List.map_cons, List.map_nil]); first | done | rfl | (simp only [List.length_drop, List.length_take]; rfl)) ?_; (with_reducible refine (schema_Col.calls k3 ((rd_T24 l0_0 x13_3).f0) ((rd_T24 l0_0 x13_3).f1) ((rd_T24 l0_0 x13_3).f2) ((rd_T24 l0_0 x13_3).f3) _ _ ((rd_T24 l0_0 x13_3).f4) a2 t298 t299 _ ?side1 ?side2 A67.out).mono ?_); (case side1 => exact Kd.C_below HR296_4.out (by repeat (first | (with_reducible first | exact HB.out | apply bA | apply bN | apply b1 | refine bS ?_ GE279.out | refine bS ?_ GE280.out | refine bS ?_ GE297.out) | exact HB.out))); (case side2 => exact HC296_4.out); rintro e w76 ⟨rfl, hb⟩; refine ⟨_, rfl, ?_⟩; have n0_ := aM (kB (g := gb279) (o := .cells #[.slice (some ad296) l0_0.length c0_0] 46 (0, 0)) (by (repeat ((with_reducible repeat (first | refine kN ?_ _ | refine kD ?_ | refine kA ?_ _)); refine kF ?_ NB279_297.out _)); (with_reducible repeat (first | refine kN ?_ _ | refine kD ?_ | refine kA ?_ _)); exact BK279.out) hb); have n1_ := aM (kB (g := gb280) (o := .cells #[.slice A1_0 l1_0.length c1_0] 46 (0, 0)) (by (repeat ((with_reducible repeat (first | refine kN ?_ _ | refine kD ?_ | refine kA ?_ _)); refine kF ?_ NB280_297.out _)); (with_reducible repeat (first | refine kN ?_ _ | refine kD ?_ | refine kA ?_ _)); exact BK280.out) hb); have n2_ := aM (kB (g := gb297) (o := .cells #[.int .i64 ((rd_T24 l0_0 x13_3).f0), .string ((rd_T24 l0_0 x13_3).f1), .int .i64 ((rd_T24 l0_0 x13_3).f2), .int .i64 ((rd_T24 l0_0 x13_3).f3), .slice A296_4 ((rd_T24 l0_0 x13_3).f4).length c296_4] 24 (0, 0)) (by exact puts5 BK297.out) hb); have n3_ := aM (bP (by repeat (first | (with_reducible first | exact HB.out | apply bA | apply bN | apply b1 | refine bS ?_ GE279.out | refine bS ?_ GE280.out | refine bS ?_ GE297.out) | exact HB.out)) hb); clear BK279; clear BK280; clear BK297; clear HB; have BK279 := n0_; have BK280 := n1_; have BK297 := n2_; have HB := n3_; clear n0_ n1_ n2_ n3_; (try clear hb); (try clear hb2); (try clear hk); (try clear hi); obtain ⟨hcz77_0, hcz77_1, hcz77_2, hcz77_3, hcz77_4, hfz77_0, hfz77_1, hfz77_2, hfz77_3, hfz77_4⟩ := cells5 BK297.out) | ((with_reducible refine gate_callee (f := 37) rfl ?_); refine goesL_ (some 97) rfl rfl Tryd.func37 (by kernel_rfl) rfl #[.agg #[.int .i64 ((rd_T24 l0_0 x13_3).f0), .string ((rd_T24 l0_0 x13_3).f1), .int .i64 ((rd_T24 l0_0 x13_3).f2), .int .i64 ((rd_T24 l0_0 x13_3).f3), .slice A296_4 ((rd_T24 l0_0 x13_3).f4).length c296_4]] rfl (by (try simp only [List.map_toArray, List.map_cons, List.map_nil]); first | done | rfl | (simp only [List.length_drop, List.length_take]; rfl)) ?_; (with_reducible refine (schema_Key.calls k3 ((rd_T24 l0_0 x13_3).f0) ((rd_T24 l0_0 x13_3).f1) ((rd_T24 l0_0 x13_3).f2) ((rd_T24 l0_0 x13_3).f3) _ _ ((rd_T24 l0_0 x13_3).f4) t300 t301 _ ?side1 ?side2 A68.out).mono ?_); (case side1 => repeat (first | exact (Kd.C_below HR296_4.out HB.out) | (with_reducible refine Kd.C_alloc ?_ _) | (with_reducible refine Kd.C_drewN ?_ _) | (with_reducible refine Kd.C_drew ?_))); (case side2 => exact HC296_4.out); rintro e w78 ⟨rfl, hb⟩; refine ⟨_, rfl, ?_⟩; have n0_ := aM (kB (g := gb279) (o := .cells #[.slice (some ad296) l0_0.length c0_0] 46 (0, 0)) (by (with_reducible repeat (first | refine kN ?_ _ | refine kD ?_ | refine kA ?_ _)); exact BK279.out) hb); have n1_ := aM (kB (g := gb280) (o := .cells #[.slice A1_0 l1_0.length c1_0] 46 (0, 0)) (by (with_reducible repeat (first | refine kN ?_ _ | refine kD ?_ | refine kA ?_ _)); exact BK280.out) hb); have n2_ := aM (kB (g := gb297) (o := .cells #[.int .i64 ((rd_T24 l0_0 x13_3).f0), .string ((rd_T24 l0_0 x13_3).f1), .int .i64 ((rd_T24 l0_0 x13_3).f2), .int .i64 ((rd_T24 l0_0 x13_3).f3), .slice A296_4 ((rd_T24 l0_0 x13_3).f4).length c296_4] 24 (0, 0)) (by (with_reducible repeat (first | refine kN ?_ _ | refine kD ?_ | refine kA ?_ _)); exact BK297.out) hb); have n3_ := aM (bP (by repeat (first | (with_reducible first | exact HB.out | apply bA | apply bN | apply b1 | refine bS ?_ GE279.out | refine bS ?_ GE280.out | refine bS ?_ GE297.out) | exact HB.out)) hb); clear BK279; clear BK280; clear BK297; clear HB; have BK279 := n0_; have BK280 := n1_; have BK297 := n2_; have HB := n3_; clear n0_ n1_ n2_ n3_; (try clear hb); (try clear hb2); (try clear hk); (try clear hi)))
            (try simp only [Act.put, s1_, s2_, s3_])
            go_cut [114] (fun v114 wc => ∃ (kq : Nat) (x114_68 : Bool), v114 = .bool x114_68 ∧ Aside0 (haulagelaw08_SchemaFinds.j3 kq a2 x13_3 x114_68 l0_0 l1_0 ((rd_T24 l0_0 x13_3).f0) ((rd_T24 l0_0 x13_3).f1) ((rd_T24 l0_0 x13_3).f2) ((rd_T24 l0_0 x13_3).f3) ((rd_T24 l0_0 x13_3).f4) = some r) ∧ Aside0 (kq ≤ k3) ∧ Aside0 (wc.heap[gb279]? = some (.cells #[(.slice (some ad296) l0_0.length c0_0)] 46 (0, 0))) ∧ Aside0 (wc.heap[gb280]? = some (.cells #[(.slice A1_0 l1_0.length c1_0)] 46 (0, 0))) ∧ Aside0 (wc.heap[gb297]? = some (.cells #[.int .i64 ((rd_T24 l0_0 x13_3).f0), .string ((rd_T24 l0_0 x13_3).f1), .int .i64 ((rd_T24 l0_0 x13_3).f2), .int .i64 ((rd_T24 l0_0 x13_3).f3), (.slice A296_4 ((rd_T24 l0_0 x13_3).f4).length c296_4)] 24 (0, 0))) ∧ Aside0 (Below w.heap.size w wc))
            case first =>
             have H := HC69.out
             clear HC69
             replace H := Option.bind_eq_some_iff.mp H
             obtain ⟨t302, A790, H⟩ := H
             replace H : ((haulagelaw08_found.f t298 t299 t302).bind fun t303 => (if t303 = true then ((haulageref08_Key.f k3 ((rd_T24 l0_0 x13_3).f0) ((rd_T24 l0_0 x13_3).f1) ((rd_T24 l0_0 x13_3).f2) ((rd_T24 l0_0 x13_3).f3) ((rd_T24 l0_0 x13_3).f4)).bind fun t304 => ((haulagelaw08_found.f t300 t301 t304).bind fun t305 => (haulagelaw08_SchemaFinds.j3 k3 a2 x13_3 (!t305) l0_0 l1_0 ((rd_T24 l0_0 x13_3).f0) ((rd_T24 l0_0 x13_3).f1) ((rd_T24 l0_0 x13_3).f2) ((rd_T24 l0_0 x13_3).f3) ((rd_T24 l0_0 x13_3).f4)))) else (haulagelaw08_SchemaFinds.j3 k3 a2 x13_3 true l0_0 l1_0 ((rd_T24 l0_0 x13_3).f0) ((rd_T24 l0_0 x13_3).f1) ((rd_T24 l0_0 x13_3).f2) ((rd_T24 l0_0 x13_3).f3) ((rd_T24 l0_0 x13_3).f4)))) = some r := H
             have A79 := aM A790
             clear A790
             replace H := Option.bind_eq_some_iff.mp H
             obtain ⟨t303, A800, H⟩ := H
             replace H : (if t303 = true then ((haulageref08_Key.f k3 ((rd_T24 l0_0 x13_3).f0) ((rd_T24 l0_0 x13_3).f1) ((rd_T24 l0_0 x13_3).f2) ((rd_T24 l0_0 x13_3).f3) ((rd_T24 l0_0 x13_3).f4)).bind fun t304 => ((haulagelaw08_found.f t300 t301 t304).bind fun t305 => (haulagelaw08_SchemaFinds.j3 k3 a2 x13_3 (!t305) l0_0 l1_0 ((rd_T24 l0_0 x13_3).f0) ((rd_T24 l0_0 x13_3).f1) ((rd_T24 l0_0 x13_3).f2) ((rd_T24 l0_0 x13_3).f3) ((rd_T24 l0_0 x13_3).f4)))) else (haulagelaw08_SchemaFinds.j3 k3 a2 x13_3 true l0_0 l1_0 ((rd_T24 l0_0 x13_3).f0) ((rd_T24 l0_0 x13_3).f1) ((rd_T24 l0_0 x13_3).f2) ((rd_T24 l0_0 x13_3).f3) ((rd_T24 l0_0 x13_3).f4))) = some r := H
             have A80 := aM A800
             clear A800
             by_cases c81 : t303 = true
             ·
              subst c81
              have H1 : ((haulageref08_Key.f k3 ((rd_T24 l0_0 x13_3).f0) ((rd_T24 l0_0 x13_3).f1) ((rd_T24 l0_0 x13_3).f2) ((rd_T24 l0_0 x13_3).f3) ((rd_T24 l0_0 x13_3).f4)).bind fun t304 => ((haulagelaw08_found.f t300 t301 t304).bind fun t305 => (haulagelaw08_SchemaFinds.j3 k3 a2 x13_3 (!t305) l0_0 l1_0 ((rd_T24 l0_0 x13_3).f0) ((rd_T24 l0_0 x13_3).f1) ((rd_T24 l0_0 x13_3).f2) ((rd_T24 l0_0 x13_3).f3) ((rd_T24 l0_0 x13_3).f4)))) = some r := by rw [if_pos rfl] at H; exact H
              clear H
              have H := H1
              clear H1
              replace H := Option.bind_eq_some_iff.mp H
              obtain ⟨t304, A820, H⟩ := H
              replace H : ((haulagelaw08_found.f t300 t301 t304).bind fun t305 => (haulagelaw08_SchemaFinds.j3 k3 a2 x13_3 (!t305) l0_0 l1_0 ((rd_T24 l0_0 x13_3).f0) ((rd_T24 l0_0 x13_3).f1) ((rd_T24 l0_0 x13_3).f2) ((rd_T24 l0_0 x13_3).f3) ((rd_T24 l0_0 x13_3).f4))) = some r := H
              have A82 := aM A820
              clear A820
              replace H := Option.bind_eq_some_iff.mp H
              obtain ⟨t305, A830, H⟩ := H
              replace H : (haulagelaw08_SchemaFinds.j3 k3 a2 x13_3 (!t305) l0_0 l1_0 ((rd_T24 l0_0 x13_3).f0) ((rd_T24 l0_0 x13_3).f1) ((rd_T24 l0_0 x13_3).f2) ((rd_T24 l0_0 x13_3).f3) ((rd_T24 l0_0 x13_3).f4)) = some r := H
              have A83 := aM A830
              clear A830
              have H' := aM H
              clear H
              have hnb84 := NB297_279.out
              have hnc84 := NB279_297.out
              have hnb85 := NB297_280.out
              have hnc85 := NB280_297.out
              obtain ⟨hcz86_0, hcz86_1, hcz86_2, hcz86_3, hcz86_4, hfz86_0, hfz86_1, hfz86_2, hfz86_3, hfz86_4⟩ := cells5 BK297.out
              go_wp2_with (first | ((with_reducible refine gate_callee (f := 47) rfl ?_); refine goesL_ (some 104) rfl rfl Tryd.func47 (by kernel_rfl) rfl #[.agg #[.int .i64 ((rd_T24 l0_0 x13_3).f0), .string ((rd_T24 l0_0 x13_3).f1), .int .i64 ((rd_T24 l0_0 x13_3).f2), .int .i64 ((rd_T24 l0_0 x13_3).f3), .slice A296_4 ((rd_T24 l0_0 x13_3).f4).length c296_4], .string a2] rfl (by (try simp only [List.map_toArray, List.map_cons, List.map_nil]); first | done | rfl | (simp only [List.length_drop, List.length_take]; rfl)) ?_; (with_reducible refine (haulageref08_Col.calls k3 ((rd_T24 l0_0 x13_3).f0) ((rd_T24 l0_0 x13_3).f1) ((rd_T24 l0_0 x13_3).f2) ((rd_T24 l0_0 x13_3).f3) _ _ ((rd_T24 l0_0 x13_3).f4) a2 t302 _ ?side1 ?side2 A79.out).mono ?_); (case side1 => repeat (first | exact (Kd.C_below HR296_4.out HB.out) | (with_reducible refine Kd.C_alloc ?_ _) | (with_reducible refine Kd.C_drewN ?_ _) | (with_reducible refine Kd.C_drew ?_))); (case side2 => exact HC296_4.out); rintro e w87 ⟨rfl, hb⟩; refine ⟨_, rfl, ?_⟩; have n0_ := aM (kB (g := gb279) (o := .cells #[.slice (some ad296) l0_0.length c0_0] 46 (0, 0)) (by (with_reducible repeat (first | refine kN ?_ _ | refine kD ?_ | refine kA ?_ _)); exact BK279.out) hb); have n1_ := aM (kB (g := gb280) (o := .cells #[.slice A1_0 l1_0.length c1_0] 46 (0, 0)) (by (with_reducible repeat (first | refine kN ?_ _ | refine kD ?_ | refine kA ?_ _)); exact BK280.out) hb); have n2_ := aM (kB (g := gb297) (o := .cells #[.int .i64 ((rd_T24 l0_0 x13_3).f0), .string ((rd_T24 l0_0 x13_3).f1), .int .i64 ((rd_T24 l0_0 x13_3).f2), .int .i64 ((rd_T24 l0_0 x13_3).f3), .slice A296_4 ((rd_T24 l0_0 x13_3).f4).length c296_4] 24 (0, 0)) (by (with_reducible repeat (first | refine kN ?_ _ | refine kD ?_ | refine kA ?_ _)); exact BK297.out) hb); have n3_ := aM (bP (by repeat (first | (with_reducible first | exact HB.out | apply bA | apply bN | apply b1 | refine bS ?_ GE279.out | refine bS ?_ GE280.out | refine bS ?_ GE297.out) | exact HB.out)) hb); clear BK279; clear BK280; clear BK297; clear HB; have BK279 := n0_; have BK280 := n1_; have BK297 := n2_; have HB := n3_; clear n0_ n1_ n2_ n3_; (try clear hb); (try clear hb2); (try clear hk); (try clear hi)) | ((with_reducible refine gate_callee (f := 41) rfl ?_); refine goesL_ (some 105) rfl rfl Tryd.func41 (by kernel_rfl) rfl #[.int .i64 t298, .bool t299, .int .i64 t302] rfl (by (try simp only [List.map_toArray, List.map_cons, List.map_nil]); first | done | rfl | (simp only [List.length_drop, List.length_take]; rfl)) ?_; (with_reducible refine (haulagelaw08_found.calls t298 t299 t302 true _ A80.out).mono ?_); rintro e w' ⟨rfl, ⟨nd, rfl⟩⟩; refine ⟨_, rfl, ?_⟩; obtain ⟨hcz88_0, hcz88_1, hcz88_2, hcz88_3, hcz88_4, hfz88_0, hfz88_1, hfz88_2, hfz88_3, hfz88_4⟩ := cells5 BK297.out) | (go_at_call 48; (with_reducible refine (haulageref08_Key.calls k3 ((rd_T24 l0_0 x13_3).f0) ((rd_T24 l0_0 x13_3).f1) ((rd_T24 l0_0 x13_3).f2) ((rd_T24 l0_0 x13_3).f3) _ _ ((rd_T24 l0_0 x13_3).f4) t304 _ ?side1 ?side2 A82.out).mono ?_); (case side1 => repeat (first | exact (Kd.C_below HR296_4.out (by repeat (first | (with_reducible first | exact HB.out | apply bA | apply bN | apply b1 | refine bS ?_ GE279.out | refine bS ?_ GE280.out | refine bS ?_ GE297.out) | exact HB.out))) | (with_reducible refine Kd.C_alloc ?_ _) | (with_reducible refine Kd.C_drewN ?_ _) | (with_reducible refine Kd.C_drew ?_))); (case side2 => exact HC296_4.out); rintro e w89 ⟨rfl, hb⟩; have n0_ := aM (kB (g := gb279) (o := .cells #[.slice (some ad296) l0_0.length c0_0] 46 (0, 0)) (by (with_reducible repeat (first | refine kN ?_ _ | refine kD ?_ | refine kA ?_ _)); exact BK279.out) hb); have n1_ := aM (kB (g := gb280) (o := .cells #[.slice A1_0 l1_0.length c1_0] 46 (0, 0)) (by (with_reducible repeat (first | refine kN ?_ _ | refine kD ?_ | refine kA ?_ _)); exact BK280.out) hb); have n2_ := aM (kB (g := gb297) (o := .cells #[.int .i64 ((rd_T24 l0_0 x13_3).f0), .string ((rd_T24 l0_0 x13_3).f1), .int .i64 ((rd_T24 l0_0 x13_3).f2), .int .i64 ((rd_T24 l0_0 x13_3).f3), .slice A296_4 ((rd_T24 l0_0 x13_3).f4).length c296_4] 24 (0, 0)) (by (with_reducible repeat (first | refine kN ?_ _ | refine kD ?_ | refine kA ?_ _)); exact BK297.out) hb); have n3_ := aM (bP (by repeat (first | (with_reducible first | exact HB.out | apply bA | apply bN | apply b1 | refine bS ?_ GE279.out | refine bS ?_ GE280.out | refine bS ?_ GE297.out) | exact HB.out)) hb); clear BK279; clear BK280; clear BK297; clear HB; have BK279 := n0_; have BK280 := n1_; have BK297 := n2_; have HB := n3_; clear n0_ n1_ n2_ n3_; (try clear hb); (try clear hb2); (try clear hk); (try clear hi)) | (go_at_call 41; (with_reducible refine (haulagelaw08_found.calls t300 t301 t304 t305 _ A83.out).mono ?_); rintro e w' ⟨rfl, ⟨nd, rfl⟩⟩))
              go_meet
              case rel => exact ⟨_, (!t305), (by first | rfl | (simp; done) | (simp [*]; done)), H', ⟨by have := HJ6.out; have := HJ31.out; have := HK3.out; first | omega | exact Nat.le_refl _⟩, ⟨by (with_reducible repeat (first | refine kN ?_ _ | refine kD ?_ | refine kA ?_ _)); exact BK279.out⟩, ⟨by (with_reducible repeat (first | refine kN ?_ _ | refine kD ?_ | refine kA ?_ _)); exact BK280.out⟩, ⟨by (with_reducible repeat (first | refine kN ?_ _ | refine kD ?_ | refine kA ?_ _)); exact BK297.out⟩, ⟨by repeat (first | (with_reducible first | exact HB.out | apply bA | apply bN | apply b1 | refine bS ?_ GE279.out | refine bS ?_ GE280.out | refine bS ?_ GE297.out) | exact HB.out)⟩⟩
             ·
              replace c81 := Bool.eq_false_iff.mpr c81
              subst c81
              have H1 : (haulagelaw08_SchemaFinds.j3 k3 a2 x13_3 true l0_0 l1_0 ((rd_T24 l0_0 x13_3).f0) ((rd_T24 l0_0 x13_3).f1) ((rd_T24 l0_0 x13_3).f2) ((rd_T24 l0_0 x13_3).f3) ((rd_T24 l0_0 x13_3).f4)) = some r := by rw [if_neg (show ¬ (false = true) by decide)] at H; exact H
              clear H
              have H := H1
              clear H1
              have H' := aM H
              clear H
              have hnb90 := NB297_279.out
              have hnc90 := NB279_297.out
              have hnb91 := NB297_280.out
              have hnc91 := NB280_297.out
              obtain ⟨hcz92_0, hcz92_1, hcz92_2, hcz92_3, hcz92_4, hfz92_0, hfz92_1, hfz92_2, hfz92_3, hfz92_4⟩ := cells5 BK297.out
              go_wp2_with (first | ((with_reducible refine gate_callee (f := 47) rfl ?_); refine goesL_ (some 104) rfl rfl Tryd.func47 (by kernel_rfl) rfl #[.agg #[.int .i64 ((rd_T24 l0_0 x13_3).f0), .string ((rd_T24 l0_0 x13_3).f1), .int .i64 ((rd_T24 l0_0 x13_3).f2), .int .i64 ((rd_T24 l0_0 x13_3).f3), .slice A296_4 ((rd_T24 l0_0 x13_3).f4).length c296_4], .string a2] rfl (by (try simp only [List.map_toArray, List.map_cons, List.map_nil]); first | done | rfl | (simp only [List.length_drop, List.length_take]; rfl)) ?_; (with_reducible refine (haulageref08_Col.calls k3 ((rd_T24 l0_0 x13_3).f0) ((rd_T24 l0_0 x13_3).f1) ((rd_T24 l0_0 x13_3).f2) ((rd_T24 l0_0 x13_3).f3) _ _ ((rd_T24 l0_0 x13_3).f4) a2 t302 _ ?side1 ?side2 A79.out).mono ?_); (case side1 => repeat (first | exact (Kd.C_below HR296_4.out HB.out) | (with_reducible refine Kd.C_alloc ?_ _) | (with_reducible refine Kd.C_drewN ?_ _) | (with_reducible refine Kd.C_drew ?_))); (case side2 => exact HC296_4.out); rintro e w93 ⟨rfl, hb⟩; refine ⟨_, rfl, ?_⟩; have n0_ := aM (kB (g := gb279) (o := .cells #[.slice (some ad296) l0_0.length c0_0] 46 (0, 0)) (by (with_reducible repeat (first | refine kN ?_ _ | refine kD ?_ | refine kA ?_ _)); exact BK279.out) hb); have n1_ := aM (kB (g := gb280) (o := .cells #[.slice A1_0 l1_0.length c1_0] 46 (0, 0)) (by (with_reducible repeat (first | refine kN ?_ _ | refine kD ?_ | refine kA ?_ _)); exact BK280.out) hb); have n2_ := aM (kB (g := gb297) (o := .cells #[.int .i64 ((rd_T24 l0_0 x13_3).f0), .string ((rd_T24 l0_0 x13_3).f1), .int .i64 ((rd_T24 l0_0 x13_3).f2), .int .i64 ((rd_T24 l0_0 x13_3).f3), .slice A296_4 ((rd_T24 l0_0 x13_3).f4).length c296_4] 24 (0, 0)) (by (with_reducible repeat (first | refine kN ?_ _ | refine kD ?_ | refine kA ?_ _)); exact BK297.out) hb); have n3_ := aM (bP (by repeat (first | (with_reducible first | exact HB.out | apply bA | apply bN | apply b1 | refine bS ?_ GE279.out | refine bS ?_ GE280.out | refine bS ?_ GE297.out) | exact HB.out)) hb); clear BK279; clear BK280; clear BK297; clear HB; have BK279 := n0_; have BK280 := n1_; have BK297 := n2_; have HB := n3_; clear n0_ n1_ n2_ n3_; (try clear hb); (try clear hb2); (try clear hk); (try clear hi)) | ((with_reducible refine gate_callee (f := 41) rfl ?_); refine goesL_ (some 105) rfl rfl Tryd.func41 (by kernel_rfl) rfl #[.int .i64 t298, .bool t299, .int .i64 t302] rfl (by (try simp only [List.map_toArray, List.map_cons, List.map_nil]); first | done | rfl | (simp only [List.length_drop, List.length_take]; rfl)) ?_; (with_reducible refine (haulagelaw08_found.calls t298 t299 t302 false _ A80.out).mono ?_); rintro e w' ⟨rfl, ⟨nd, rfl⟩⟩; refine ⟨_, rfl, ?_⟩))
              go_meet
              case rel => exact ⟨_, (true), (by first | rfl | (simp; done) | (simp [*]; done)), H', ⟨by have := HJ6.out; have := HJ31.out; have := HK3.out; first | omega | exact Nat.le_refl _⟩, ⟨by (with_reducible repeat (first | refine kN ?_ _ | refine kD ?_ | refine kA ?_ _)); exact BK279.out⟩, ⟨by (with_reducible repeat (first | refine kN ?_ _ | refine kD ?_ | refine kA ?_ _)); exact BK280.out⟩, ⟨by (with_reducible repeat (first | refine kN ?_ _ | refine kD ?_ | refine kA ?_ _)); exact BK297.out⟩, ⟨by repeat (first | (with_reducible first | exact HB.out | apply bA | apply bN | apply b1 | refine bS ?_ GE279.out | refine bS ?_ GE280.out | refine bS ?_ GE297.out) | exact HB.out)⟩⟩
            case rest =>
             clear HC69
             try clear c1
             try clear c2
             try clear p2
             try clear q2
             try clear hx2
             try clear c3
             try clear c4
             try clear c6
             try clear c7
             try clear c8
             try clear c9
             try clear c29
             try clear p29
             try clear q29
             try clear hx29
             try clear c37
             try clear c40
             try clear c41
             try clear c42
             try clear c43
             try clear c44
             try clear c46
             try clear c47
             try clear c64
             try clear c65
             try clear c65b0
             try clear c66
             try clear c66b0
             try clear c70
             try clear c73
             try clear c74
             try clear c81
             try clear c84
             try clear c85
             try clear c90
             try clear c91
             try clear hcz71_0
             try clear hcz75_0 hcz75_1 hcz75_2 hcz75_3 hcz75_4
             try clear hcz77_0 hcz77_1 hcz77_2 hcz77_3 hcz77_4
             try clear hcz86_0 hcz86_1 hcz86_2 hcz86_3 hcz86_4
             try clear hcz88_0 hcz88_1 hcz88_2 hcz88_3 hcz88_4
             try clear hcz92_0 hcz92_1 hcz92_2 hcz92_3 hcz92_4
             try clear hfz71_0
             try clear hfz75_0 hfz75_1 hfz75_2 hfz75_3 hfz75_4
             try clear hfz77_0 hfz77_1 hfz77_2 hfz77_3 hfz77_4
             try clear hfz86_0 hfz86_1 hfz86_2 hfz86_3 hfz86_4
             try clear hfz88_0 hfz88_1 hfz88_2 hfz88_3 hfz88_4
             try clear hfz92_0 hfz92_1 hfz92_2 hfz92_3 hfz92_4
             try clear hx296_0 hx296_1 hx296_2 hx296_3 hx296_4
             try clear p2
             try clear p296
             try clear q296
             obtain ⟨kq, x114_68, rfl, HA, HJ68, BK279, BK280, BK297, HB⟩ := hcut
             cases kq with
             | zero => exact absurd HA.out (by simp [haulagelaw08_SchemaFinds.j3])
             | succ kj68 =>
              have H := HA.out
              clear HA
              simp only [haulagelaw08_SchemaFinds.j3] at H
              by_cases c94 : x114_68 = true
              ·
               subst c94
               have H1 : (some false) = some r := by rw [if_pos rfl] at H; exact H
               clear H
               have H := H1
               clear H1
               obtain rfl := Option.some.inj H
               go_wp2
               go_ret
               exact ⟨by first | rfl | (simp [errW_none, errW_some] <;> rfl) | (simp [*, errW_none, errW_some] <;> rfl), by repeat (first | (with_reducible first | exact HB.out | apply bA | apply bN | apply b1 | refine bS ?_ GE279.out | refine bS ?_ GE280.out | refine bS ?_ GE297.out) | exact HB.out)⟩
              ·
               replace c94 := Bool.eq_false_iff.mpr c94
               subst c94
               have H1 : (if x13_3 < (l1_0.length : Int) then (if 0 ≤ x13_3 then ((schema_SameTable.f kj68 ((rd_T24 l0_0 x13_3).f0) ((rd_T24 l0_0 x13_3).f1) ((rd_T24 l0_0 x13_3).f2) ((rd_T24 l0_0 x13_3).f3) ((rd_T24 l0_0 x13_3).f4) ((rd_T24 l1_0 x13_3).f0) ((rd_T24 l1_0 x13_3).f1) ((rd_T24 l1_0 x13_3).f2) ((rd_T24 l1_0 x13_3).f3) ((rd_T24 l1_0 x13_3).f4)).bind fun t307 => ((haulageref08_SameTable.f kj68 ((rd_T24 l0_0 x13_3).f0) ((rd_T24 l0_0 x13_3).f1) ((rd_T24 l0_0 x13_3).f2) ((rd_T24 l0_0 x13_3).f3) ((rd_T24 l0_0 x13_3).f4) ((rd_T24 l1_0 x13_3).f0) ((rd_T24 l1_0 x13_3).f1) ((rd_T24 l1_0 x13_3).f2) ((rd_T24 l1_0 x13_3).f3) ((rd_T24 l1_0 x13_3).f4)).bind fun t309 => (if (t307 != t309) = true then (some false) else (haulagelaw08_SchemaFinds.l0 kj68 a2 (wrap64 (x13_3 + 1)) l0_0 l1_0)))) else (none)) else (haulagelaw08_SchemaFinds.l0 kj68 a2 (wrap64 (x13_3 + 1)) l0_0 l1_0)) = some r := by rw [if_neg (show ¬ (false = true) by decide)] at H; exact H
               clear H
               have H := H1
               clear H1
               by_cases c95 : x13_3 < (l1_0.length : Int)
               ·
                rw [if_pos c95] at H
                have c95b0 : decide (x13_3 < (l1_0.length : Int)) = true := decide_eq_true c95
                clear c95
                by_cases c96 : 0 ≤ x13_3
                ·
                 rw [if_pos c96] at H
                 have c96b0 : decide (0 ≤ x13_3) = true := decide_eq_true c96
                 clear c96
                 replace H := Option.bind_eq_some_iff.mp H
                 obtain ⟨t307, A970, H⟩ := H
                 replace H : ((haulageref08_SameTable.f kj68 ((rd_T24 l0_0 x13_3).f0) ((rd_T24 l0_0 x13_3).f1) ((rd_T24 l0_0 x13_3).f2) ((rd_T24 l0_0 x13_3).f3) ((rd_T24 l0_0 x13_3).f4) ((rd_T24 l1_0 x13_3).f0) ((rd_T24 l1_0 x13_3).f1) ((rd_T24 l1_0 x13_3).f2) ((rd_T24 l1_0 x13_3).f3) ((rd_T24 l1_0 x13_3).f4)).bind fun t309 => (if (t307 != t309) = true then (some false) else (haulagelaw08_SchemaFinds.l0 kj68 a2 (wrap64 (x13_3 + 1)) l0_0 l1_0))) = some r := H
                 have A97 := aM A970
                 clear A970
                 replace H := Option.bind_eq_some_iff.mp H
                 obtain ⟨t309, A980, H⟩ := H
                 replace H : (if (t307 != t309) = true then (some false) else (haulagelaw08_SchemaFinds.l0 kj68 a2 (wrap64 (x13_3 + 1)) l0_0 l1_0)) = some r := H
                 have A98 := aM A980
                 clear A980
                 by_cases c99 : (t307 != t309) = true
                 ·
                  rw [if_pos c99] at H
                  have c99b0 : (t307 != t309) = true := c99
                  (try (have c99b1 : decide (t307 = t309) = false := by simpa using c99))
                  (try (have c99b2 : (t307 == t309) = false := by simpa using c99))
                  (try (have c99b3 : ¬ (t307 = t309) := by simpa using c99))
                  clear c99
                  obtain rfl := Option.some.inj H
                  try go_wp2
                  have n0_ := aM (kD BK279.out)
                  have n1_ := aM (kD BK280.out)
                  have n2_ := aM (kD BK297.out)
                  have n3_ := aM (b1 HB.out)
                  clear BK279
                  clear BK280
                  clear BK297
                  clear HB
                  have BK279 := n0_
                  have BK280 := n1_
                  have BK297 := n2_
                  have HB := n3_
                  clear n0_ n1_ n2_ n3_
                  have p306 : 0 ≤ (x13_3 : Int) := oD (by first | (with_reducible assumption) | assumption)
                  have q306 : x13_3 < (l1_0.length : Int) := oD (by first | (with_reducible assumption) | assumption)
                  obtain ⟨ad306, A306_4, c306_4, e306, hx306_0, hx306_1, hx306_2, hx306_3, hx306_4, hl306_4, hi306_4⟩ := at_T24 HR1_0.out x13_3 p306 q306
                  have hw306_4 := hx306_4
                  have hw306_3 := hx306_3
                  have hw306_2 := hx306_2
                  have hw306_1 := hx306_1
                  have hw306_0 := hx306_0
                  cases e306
                  replace hx306_0 := pw_cell_below HB.out hx306_0
                  replace hx306_1 := pw_cell_below HB.out hx306_1
                  replace hx306_2 := pw_cell_below HB.out hx306_2
                  replace hx306_3 := pw_cell_below HB.out hx306_3
                  replace hx306_4 := pw_cell_below HB.out hx306_4
                  have HR306_4 := aM hi306_4
                  have HC306_4 := aM hl306_4
                  clear hi306_4 hl306_4
                  replace p306 := eq_true p306
                  replace q306 := eq_true q306
                  have p308 : 0 ≤ (x13_3 : Int) := oD (by first | (with_reducible assumption) | assumption)
                  have q308 : x13_3 < (l1_0.length : Int) := oD (by first | (with_reducible assumption) | assumption)
                  obtain ⟨ad308, A308_4, c308_4, e308, hx308_0, hx308_1, hx308_2, hx308_3, hx308_4, hl308_4, hi308_4⟩ := at_T24 HR1_0.out x13_3 p308 q308
                  have hw308_4 := hx308_4
                  have hw308_3 := hx308_3
                  have hw308_2 := hx308_2
                  have hw308_1 := hx308_1
                  have hw308_0 := hx308_0
                  obtain rfl : ad306 = ad308 := (by injection e308)
                  replace hx308_0 := pw_cell_below HB.out hx308_0
                  replace hx308_1 := pw_cell_below HB.out hx308_1
                  replace hx308_2 := pw_cell_below HB.out hx308_2
                  replace hx308_3 := pw_cell_below HB.out hx308_3
                  replace hx308_4 := pw_cell_below HB.out hx308_4
                  have HR308_4 := aM hi308_4
                  have HC308_4 := aM hl308_4
                  clear hi308_4 hl308_4
                  replace p308 := eq_true p308
                  replace q308 := eq_true q308
                  have ea_ := Option.some.inj (hx306_4.symm.trans hx308_4)
                  injection ea_ with ea_ en_ ec_
                  subst ea_
                  subst ec_
                  clear en_
                  refine start_ (n := 22) (S := fun w' => w'.cell? ⟨gb280, 0, none⟩ = some (.slice (some ad306) l1_0.length c1_0) ∧ w'.cell? ⟨gb297, 0, none⟩ = some (.int .i64 ((rd_T24 l0_0 x13_3).f0)) ∧ w'.cell? ⟨gb297, 1, none⟩ = some (.string ((rd_T24 l0_0 x13_3).f1)) ∧ w'.cell? ⟨gb297, 2, none⟩ = some (.int .i64 ((rd_T24 l0_0 x13_3).f2)) ∧ w'.cell? ⟨gb297, 3, none⟩ = some (.int .i64 ((rd_T24 l0_0 x13_3).f3)) ∧ w'.cell? ⟨gb297, 4, none⟩ = some (.slice A296_4 ((rd_T24 l0_0 x13_3).f4).length c296_4) ∧ w'.cell? (ad306.add ((x13_3).toNat * 5)) = some (.int .i64 ((rd_T24 l1_0 x13_3).f0)) ∧ w'.cell? ⟨(ad306.add ((x13_3).toNat * 5)).block, (ad306.add ((x13_3).toNat * 5)).off + 1, none⟩ = some (.string ((rd_T24 l1_0 x13_3).f1)) ∧ w'.cell? ⟨(ad306.add ((x13_3).toNat * 5)).block, (ad306.add ((x13_3).toNat * 5)).off + 2, none⟩ = some (.int .i64 ((rd_T24 l1_0 x13_3).f2)) ∧ w'.cell? ⟨(ad306.add ((x13_3).toNat * 5)).block, (ad306.add ((x13_3).toNat * 5)).off + 3, none⟩ = some (.int .i64 ((rd_T24 l1_0 x13_3).f3)) ∧ w'.cell? ⟨(ad306.add ((x13_3).toNat * 5)).block, (ad306.add ((x13_3).toNat * 5)).off + 4, none⟩ = some (.slice A306_4 ((rd_T24 l1_0 x13_3).f4).length c306_4) ∧ w'.cell? (ad306.add ((x13_3).toNat * 5)) = some (.int .i64 ((rd_T24 l1_0 x13_3).f0)) ∧ w'.cell? ⟨(ad306.add ((x13_3).toNat * 5)).block, (ad306.add ((x13_3).toNat * 5)).off + 1, none⟩ = some (.string ((rd_T24 l1_0 x13_3).f1)) ∧ w'.cell? ⟨(ad306.add ((x13_3).toNat * 5)).block, (ad306.add ((x13_3).toNat * 5)).off + 2, none⟩ = some (.int .i64 ((rd_T24 l1_0 x13_3).f2)) ∧ w'.cell? ⟨(ad306.add ((x13_3).toNat * 5)).block, (ad306.add ((x13_3).toNat * 5)).off + 3, none⟩ = some (.int .i64 ((rd_T24 l1_0 x13_3).f3)) ∧ w'.cell? ⟨(ad306.add ((x13_3).toNat * 5)).block, (ad306.add ((x13_3).toNat * 5)).off + 4, none⟩ = some (.slice A306_4 ((rd_T24 l1_0 x13_3).f4).length c306_4)) (ds := []) (tB 0 22) (by kernel_rfl) rfl rfl ⟨(blk_cell BK280.out 0).trans rfl, (blk_cell BK297.out 0).trans rfl, (blk_cell BK297.out 1).trans rfl, (blk_cell BK297.out 2).trans rfl, (blk_cell BK297.out 3).trans rfl, (blk_cell BK297.out 4).trans rfl, ((HB.out.cell (World.block_lt_of_cell? w _ hw306_0)).trans hw306_0), ((HB.out.cell (World.block_lt_of_cell? w _ hw306_1)).trans hw306_1), ((HB.out.cell (World.block_lt_of_cell? w _ hw306_2)).trans hw306_2), ((HB.out.cell (World.block_lt_of_cell? w _ hw306_3)).trans hw306_3), ((HB.out.cell (World.block_lt_of_cell? w _ hw306_4)).trans hw306_4), ((HB.out.cell (World.block_lt_of_cell? w _ hw308_0)).trans hw308_0), ((HB.out.cell (World.block_lt_of_cell? w _ hw308_1)).trans hw308_1), ((HB.out.cell (World.block_lt_of_cell? w _ hw308_2)).trans hw308_2), ((HB.out.cell (World.block_lt_of_cell? w _ hw308_3)).trans hw308_3), ((HB.out.cell (World.block_lt_of_cell? w _ hw308_4)).trans hw308_4)⟩ (fun hHeld => ?_); refine with_tabW haulagelaw08_SchemaFinds.tab17 haulagelaw08_SchemaFinds.bits17 (fun HT_ HW_ => ?_)
                  generalize wc.drew = w100 at BK279 BK280 BK297 HB HR306_4 HR308_4 hx306_0 hx306_1 hx306_2 hx306_3 hx306_4 hx308_0 hx308_1 hx308_2 hx308_3 hx308_4 hHeld ⊢
                  refine pure_ (i := 0) (N := some 115) (v := ?_) (a' := ?_) (tB 1 22) rfl rfl (any_of HT_.out (by kernel_rfl)) (fun _ _ _ h => h) (Or.inl ⟨by rfl, ?_⟩) ?_ ?_
                  rotate_left
                  ·
                   intro w'
                   go_simp
                   with_reducible rfl
                  rotate_left
                  ·
                   simp only [Act.put, s1_, s2_, s3_, i64_w, i32_w]
                   rfl
                  refine pure_ (i := 1) (N := some 116) (v := ?_) (a' := ?_) (tB 3 22) rfl rfl (any_of HT_.out (by kernel_rfl)) (fun _ _ _ h => h) (Or.inl ⟨by rfl, ?_⟩) ?_ ?_
                  rotate_left
                  ·
                   intro w'
                   go_simp
                   with_reducible rfl
                  rotate_left
                  ·
                   simp only [Act.put, s1_, s2_, s3_, i64_w, i32_w]
                   rfl
                  refine take_ (i := 2) (N := some 117) (v := ?_) (a' := ?_) (tB 7 22) rfl rfl (take_ofW HT_.out HW_.out (by kernel_rfl)) (fun _ _ _ h => h) (Or.inl ⟨by rfl, ?_⟩) hHeld ?_ ?_
                  rotate_left
                  ·
                   rintro w' ⟨s0, s1, s2, s3, s4, s5, s6, s7, s8, s9, s10, s11, s12, s13, s14, s15⟩
                   go_simp
                   with_reducible rfl
                  rotate_left
                  ·
                   simp only [Act.put, s1_, s2_, s3_, i64_w, i32_w]
                   rfl
                  refine pure_ (i := 3) (N := some 118) (v := ?_) (a' := ?_) (tB 15 22) rfl rfl (any_of HT_.out (by kernel_rfl)) (fun _ _ _ h => h) (Or.inl ⟨by rfl, ?_⟩) ?_ ?_
                  rotate_left
                  ·
                   intro w'
                   go_simp
                   with_reducible rfl
                  rotate_left
                  ·
                   simp only [Act.put, s1_, s2_, s3_, i64_w, i32_w]
                   rfl
                  refine pure_ (i := 4) (N := some 119) (v := ?_) (a' := ?_) (tB 31 22) rfl rfl (any_of HT_.out (by kernel_rfl)) (fun _ _ _ h => h) (Or.inl ⟨by rfl, ?_⟩) ?_ ?_
                  rotate_left
                  ·
                   intro w'
                   go_simp
                   with_reducible rfl
                  rotate_left
                  ·
                   simp only [Act.put, s1_, s2_, s3_, i64_w, i32_w]
                   rfl
                  refine pure_ (i := 5) (N := some 120) (v := ?_) (a' := ?_) (tB 63 22) rfl rfl (any_of HT_.out (by kernel_rfl)) (fun _ _ _ h => h) (Or.inl ⟨by rfl, ?_⟩) ?_ ?_
                  rotate_left
                  ·
                   intro w'
                   go_simp
                   with_reducible rfl
                  rotate_left
                  ·
                   simp only [Act.put, s1_, s2_, s3_, i64_w, i32_w]
                   rfl
                  refine pure_ (i := 7) (N := some 122) (v := ?_) (a' := ?_) (tB 191 22) rfl rfl (any_of HT_.out (by kernel_rfl)) (fun _ _ _ h => h) (Or.inl ⟨by rfl, ?_⟩) ?_ ?_
                  rotate_left
                  ·
                   intro w'
                   go_simp
                   with_reducible rfl
                  rotate_left
                  ·
                   simp only [Act.put, s1_, s2_, s3_, i64_w, i32_w]
                   rfl
                  refine pure_ (i := 9) (N := some 124) (v := ?_) (a' := ?_) (tB 703 22) rfl rfl (any_of HT_.out (by kernel_rfl)) (fun _ _ _ h => h) (Or.inl ⟨by rfl, ?_⟩) ?_ ?_
                  rotate_left
                  ·
                   intro w'
                   go_simp
                   with_reducible rfl
                  rotate_left
                  ·
                   simp only [Act.put, s1_, s2_, s3_, i64_w, i32_w]
                   rfl
                  refine pure_ (i := 14) (N := some 129) (v := ?_) (a' := ?_) (tB 17087 22) rfl rfl (any_of HT_.out (by kernel_rfl)) (fun _ _ _ h => h) (Or.inl ⟨by rfl, ?_⟩) ?_ ?_
                  rotate_left
                  ·
                   intro w'
                   go_simp
                   with_reducible rfl
                  rotate_left
                  ·
                   simp only [Act.put, s1_, s2_, s3_, i64_w, i32_w]
                   rfl
                  refine pure_ (i := 16) (N := some 131) (v := ?_) (a' := ?_) (tB 82623 22) rfl rfl (any_of HT_.out (by kernel_rfl)) (fun _ _ _ h => h) (Or.inl ⟨by rfl, ?_⟩) ?_ ?_
                  rotate_left
                  ·
                   intro w'
                   go_simp
                   with_reducible rfl
                  rotate_left
                  ·
                   simp only [Act.put, s1_, s2_, s3_, i64_w, i32_w]
                   rfl
                  refine take_ (i := 6) (N := some 121) (v := ?_) (a' := ?_) (tB 82687 22) rfl rfl (take_ofW HT_.out HW_.out (by kernel_rfl)) (fun _ _ _ h => h) (Or.inl ⟨by rfl, ?_⟩) hHeld ?_ ?_
                  rotate_left
                  ·
                   rintro w' ⟨s0, s1, s2, s3, s4, s5, s6, s7, s8, s9, s10, s11, s12, s13, s14, s15⟩
                   go_simp
                   with_reducible rfl
                  rotate_left
                  ·
                   simp only [Act.put, s1_, s2_, s3_, i64_w, i32_w]
                   rfl
                  refine take_ (i := 8) (N := some 123) (v := ?_) (a' := ?_) (tB 82943 22) rfl rfl (take_ofW HT_.out HW_.out (by kernel_rfl)) (fun _ _ _ h => h) (Or.inl ⟨by rfl, ?_⟩) hHeld ?_ ?_
                  rotate_left
                  ·
                   rintro w' ⟨s0, s1, s2, s3, s4, s5, s6, s7, s8, s9, s10, s11, s12, s13, s14, s15⟩
                   go_simp
                   with_reducible rfl
                  rotate_left
                  ·
                   simp only [Act.put, s1_, s2_, s3_, i64_w, i32_w]
                   rfl
                  refine pure_ (i := 10) (N := some 125) (v := ?_) (a' := ?_) (tB 83967 22) rfl rfl (any_of HT_.out (by kernel_rfl)) (fun _ _ _ h => h) (Or.inl ⟨by rfl, ?_⟩) ?_ ?_
                  rotate_left
                  ·
                   intro w'
                   go_simp
                   with_reducible rfl
                  rotate_left
                  ·
                   simp only [Act.put, s1_, s2_, s3_, i64_w, i32_w]
                   rfl
                  refine take_ (i := 11) (N := some 126) (v := ?_) (a' := ?_) (tB 86015 22) rfl rfl (take_ofW HT_.out HW_.out (by kernel_rfl)) (fun _ _ _ h => h) (Or.inl ⟨by rfl, ?_⟩) hHeld ?_ ?_
                  rotate_left
                  ·
                   rintro w' ⟨s0, s1, s2, s3, s4, s5, s6, s7, s8, s9, s10, s11, s12, s13, s14, s15⟩
                   go_simp
                   with_reducible rfl
                  rotate_left
                  ·
                   simp only [Act.put, s1_, s2_, s3_, i64_w, i32_w]
                   rfl
                  refine take_ (i := 13) (N := some 128) (v := ?_) (a' := ?_) (tB 94207 22) rfl rfl (take_ofW HT_.out HW_.out (by kernel_rfl)) (fun _ _ _ h => h) (Or.inl ⟨by rfl, ?_⟩) hHeld ?_ ?_
                  rotate_left
                  ·
                   rintro w' ⟨s0, s1, s2, s3, s4, s5, s6, s7, s8, s9, s10, s11, s12, s13, s14, s15⟩
                   go_simp
                   with_reducible rfl
                  rotate_left
                  ·
                   simp only [Act.put, s1_, s2_, s3_, i64_w, i32_w]
                   rfl
                  refine take_ (i := 15) (N := some 130) (v := ?_) (a' := ?_) (tB 126975 22) rfl rfl (take_ofW HT_.out HW_.out (by kernel_rfl)) (fun _ _ _ h => h) (Or.inl ⟨by rfl, ?_⟩) hHeld ?_ ?_
                  rotate_left
                  ·
                   rintro w' ⟨s0, s1, s2, s3, s4, s5, s6, s7, s8, s9, s10, s11, s12, s13, s14, s15⟩
                   go_simp
                   with_reducible rfl
                  rotate_left
                  ·
                   simp only [Act.put, s1_, s2_, s3_, i64_w, i32_w]
                   rfl
                  refine pure_ (i := 17) (N := some 132) (v := ?_) (a' := ?_) (tB 258047 22) rfl rfl (any_of HT_.out (by kernel_rfl)) (fun _ _ _ h => h) (Or.inl ⟨by rfl, ?_⟩) ?_ ?_
                  rotate_left
                  ·
                   intro w'
                   go_simp
                   with_reducible rfl
                  rotate_left
                  ·
                   simp only [Act.put, s1_, s2_, s3_, i64_w, i32_w]
                   rfl
                  refine take_ (i := 18) (N := some 133) (v := ?_) (a' := ?_) (tB 520191 22) rfl rfl (take_ofW HT_.out HW_.out (by kernel_rfl)) (fun _ _ _ h => h) (Or.inl ⟨by rfl, ?_⟩) hHeld ?_ ?_
                  rotate_left
                  ·
                   rintro w' ⟨s0, s1, s2, s3, s4, s5, s6, s7, s8, s9, s10, s11, s12, s13, s14, s15⟩
                   go_simp
                   with_reducible rfl
                  rotate_left
                  ·
                   simp only [Act.put, s1_, s2_, s3_, i64_w, i32_w]
                   rfl
                  refine one_ (i := 12) (N := some 127) (tB 524287 22) rfl rfl (one_of HT_.out (by kernel_rfl)) (by decide) (fun K hK => ?_)
                  refine goes_ Tryd.func49 (by kernel_rfl) rfl #[.agg #[.int .i64 ((rd_T24 l0_0 x13_3).f0), .string ((rd_T24 l0_0 x13_3).f1), .int .i64 ((rd_T24 l0_0 x13_3).f2), .int .i64 ((rd_T24 l0_0 x13_3).f3), .slice A296_4 ((rd_T24 l0_0 x13_3).f4).length c296_4], .agg #[.int .i64 ((rd_T24 l1_0 x13_3).f0), .string ((rd_T24 l1_0 x13_3).f1), .int .i64 ((rd_T24 l1_0 x13_3).f2), .int .i64 ((rd_T24 l1_0 x13_3).f3), .slice A306_4 ((rd_T24 l1_0 x13_3).f4).length c306_4]] (by rfl) rfl rfl (by (try simp only [List.map_toArray, List.map_cons, List.map_nil]); first | done | rfl | (simp only [List.length_drop, List.length_take]; rfl)) ?_
                  with_reducible refine (schema_SameTable.calls kj68 ((rd_T24 l0_0 x13_3).f0) ((rd_T24 l0_0 x13_3).f1) ((rd_T24 l0_0 x13_3).f2) ((rd_T24 l0_0 x13_3).f3) _ _ ((rd_T24 l0_0 x13_3).f4) ((rd_T24 l1_0 x13_3).f0) ((rd_T24 l1_0 x13_3).f1) ((rd_T24 l1_0 x13_3).f2) ((rd_T24 l1_0 x13_3).f3) _ _ ((rd_T24 l1_0 x13_3).f4) t307 _ ?side1 ?side2 ?side3 ?side4 A97.out).mono ?_
                  (case side1 => repeat (first | exact (Kd.C_below HR296_4.out HB.out) | (with_reducible refine Kd.C_alloc ?_ _) | (with_reducible refine Kd.C_drewN ?_ _) | (with_reducible refine Kd.C_drew ?_)))
                  (case side2 => exact HC296_4.out)
                  (case side3 => repeat (first | exact (Kd.C_below HR306_4.out HB.out) | (with_reducible refine Kd.C_alloc ?_ _) | (with_reducible refine Kd.C_drewN ?_ _) | (with_reducible refine Kd.C_drew ?_)))
                  (case side4 => exact HC306_4.out)
                  rintro e w101 ⟨rfl, hb⟩
                  refine ⟨_, rfl, ?_⟩
                  have n0_ := aM (kB (g := gb279) (o := .cells #[.slice (some ad296) l0_0.length c0_0] 46 (0, 0)) (by (with_reducible repeat (first | refine kN ?_ _ | refine kD ?_ | refine kA ?_ _)); exact BK279.out) hb)
                  have n1_ := aM (kB (g := gb280) (o := .cells #[.slice (some ad306) l1_0.length c1_0] 46 (0, 0)) (by (with_reducible repeat (first | refine kN ?_ _ | refine kD ?_ | refine kA ?_ _)); exact BK280.out) hb)
                  have n2_ := aM (kB (g := gb297) (o := .cells #[.int .i64 ((rd_T24 l0_0 x13_3).f0), .string ((rd_T24 l0_0 x13_3).f1), .int .i64 ((rd_T24 l0_0 x13_3).f2), .int .i64 ((rd_T24 l0_0 x13_3).f3), .slice A296_4 ((rd_T24 l0_0 x13_3).f4).length c296_4] 24 (0, 0)) (by (with_reducible repeat (first | refine kN ?_ _ | refine kD ?_ | refine kA ?_ _)); exact BK297.out) hb)
                  have n3_ := aM (bP (by repeat (first | (with_reducible first | exact HB.out | apply bA | apply bN | apply b1 | refine bS ?_ GE279.out | refine bS ?_ GE280.out | refine bS ?_ GE297.out) | exact HB.out)) hb)
                  clear BK279
                  clear BK280
                  clear BK297
                  clear HB
                  have BK279 := n0_
                  have BK280 := n1_
                  have BK297 := n2_
                  have HB := n3_
                  clear n0_ n1_ n2_ n3_
                  (try clear hb)
                  (try clear hb2)
                  (try clear hk)
                  (try clear hi)
                  refine hK.out _ _ ⟨(blk_cell BK280.out 0).trans rfl, (blk_cell BK297.out 0).trans rfl, (blk_cell BK297.out 1).trans rfl, (blk_cell BK297.out 2).trans rfl, (blk_cell BK297.out 3).trans rfl, (blk_cell BK297.out 4).trans rfl, ((HB.out.cell (World.block_lt_of_cell? w _ hw306_0)).trans hw306_0), ((HB.out.cell (World.block_lt_of_cell? w _ hw306_1)).trans hw306_1), ((HB.out.cell (World.block_lt_of_cell? w _ hw306_2)).trans hw306_2), ((HB.out.cell (World.block_lt_of_cell? w _ hw306_3)).trans hw306_3), ((HB.out.cell (World.block_lt_of_cell? w _ hw306_4)).trans hw306_4), ((HB.out.cell (World.block_lt_of_cell? w _ hw308_0)).trans hw308_0), ((HB.out.cell (World.block_lt_of_cell? w _ hw308_1)).trans hw308_1), ((HB.out.cell (World.block_lt_of_cell? w _ hw308_2)).trans hw308_2), ((HB.out.cell (World.block_lt_of_cell? w _ hw308_3)).trans hw308_3), ((HB.out.cell (World.block_lt_of_cell? w _ hw308_4)).trans hw308_4)⟩ (fun hHeld => ?_)
                  clear hK K
                  refine norm_ (a' := ?_) ?_ ?_
                  rotate_left
                  ·
                   show Act.put _ (some 127) _ = _
                   simp only [Act.put, s1_, s2_, s3_, i64_w, i32_w]
                   rfl
                  refine one_ (i := 19) (N := some 134) (tB 1048575 22) rfl rfl (one_of HT_.out (by kernel_rfl)) (by decide) (fun K hK => ?_)
                  refine goes_ Tryd.func50 (by kernel_rfl) rfl #[.agg #[.int .i64 ((rd_T24 l0_0 x13_3).f0), .string ((rd_T24 l0_0 x13_3).f1), .int .i64 ((rd_T24 l0_0 x13_3).f2), .int .i64 ((rd_T24 l0_0 x13_3).f3), .slice A296_4 ((rd_T24 l0_0 x13_3).f4).length c296_4], .agg #[.int .i64 ((rd_T24 l1_0 x13_3).f0), .string ((rd_T24 l1_0 x13_3).f1), .int .i64 ((rd_T24 l1_0 x13_3).f2), .int .i64 ((rd_T24 l1_0 x13_3).f3), .slice A306_4 ((rd_T24 l1_0 x13_3).f4).length c306_4]] (by rfl) rfl rfl (by (try simp only [List.map_toArray, List.map_cons, List.map_nil]); first | done | rfl | (simp only [List.length_drop, List.length_take]; rfl)) ?_
                  with_reducible refine (haulageref08_SameTable.calls kj68 ((rd_T24 l0_0 x13_3).f0) ((rd_T24 l0_0 x13_3).f1) ((rd_T24 l0_0 x13_3).f2) ((rd_T24 l0_0 x13_3).f3) _ _ ((rd_T24 l0_0 x13_3).f4) ((rd_T24 l1_0 x13_3).f0) ((rd_T24 l1_0 x13_3).f1) ((rd_T24 l1_0 x13_3).f2) ((rd_T24 l1_0 x13_3).f3) _ _ ((rd_T24 l1_0 x13_3).f4) t309 _ ?side1 ?side2 ?side3 ?side4 A98.out).mono ?_
                  (case side1 => repeat (first | exact (Kd.C_below HR296_4.out HB.out) | (with_reducible refine Kd.C_alloc ?_ _) | (with_reducible refine Kd.C_drewN ?_ _) | (with_reducible refine Kd.C_drew ?_)))
                  (case side2 => exact HC296_4.out)
                  (case side3 => repeat (first | exact (Kd.C_below HR308_4.out HB.out) | (with_reducible refine Kd.C_alloc ?_ _) | (with_reducible refine Kd.C_drewN ?_ _) | (with_reducible refine Kd.C_drew ?_)))
                  (case side4 => exact HC308_4.out)
                  rintro e w102 ⟨rfl, hb⟩
                  refine ⟨_, rfl, ?_⟩
                  have n0_ := aM (kB (g := gb279) (o := .cells #[.slice (some ad296) l0_0.length c0_0] 46 (0, 0)) (by (with_reducible repeat (first | refine kN ?_ _ | refine kD ?_ | refine kA ?_ _)); exact BK279.out) hb)
                  have n1_ := aM (kB (g := gb280) (o := .cells #[.slice (some ad306) l1_0.length c1_0] 46 (0, 0)) (by (with_reducible repeat (first | refine kN ?_ _ | refine kD ?_ | refine kA ?_ _)); exact BK280.out) hb)
                  have n2_ := aM (kB (g := gb297) (o := .cells #[.int .i64 ((rd_T24 l0_0 x13_3).f0), .string ((rd_T24 l0_0 x13_3).f1), .int .i64 ((rd_T24 l0_0 x13_3).f2), .int .i64 ((rd_T24 l0_0 x13_3).f3), .slice A296_4 ((rd_T24 l0_0 x13_3).f4).length c296_4] 24 (0, 0)) (by (with_reducible repeat (first | refine kN ?_ _ | refine kD ?_ | refine kA ?_ _)); exact BK297.out) hb)
                  have n3_ := aM (bP (by repeat (first | (with_reducible first | exact HB.out | apply bA | apply bN | apply b1 | refine bS ?_ GE279.out | refine bS ?_ GE280.out | refine bS ?_ GE297.out) | exact HB.out)) hb)
                  clear BK279
                  clear BK280
                  clear BK297
                  clear HB
                  have BK279 := n0_
                  have BK280 := n1_
                  have BK297 := n2_
                  have HB := n3_
                  clear n0_ n1_ n2_ n3_
                  (try clear hb)
                  (try clear hb2)
                  (try clear hk)
                  (try clear hi)
                  refine hK.out _ _ ⟨(blk_cell BK280.out 0).trans rfl, (blk_cell BK297.out 0).trans rfl, (blk_cell BK297.out 1).trans rfl, (blk_cell BK297.out 2).trans rfl, (blk_cell BK297.out 3).trans rfl, (blk_cell BK297.out 4).trans rfl, ((HB.out.cell (World.block_lt_of_cell? w _ hw306_0)).trans hw306_0), ((HB.out.cell (World.block_lt_of_cell? w _ hw306_1)).trans hw306_1), ((HB.out.cell (World.block_lt_of_cell? w _ hw306_2)).trans hw306_2), ((HB.out.cell (World.block_lt_of_cell? w _ hw306_3)).trans hw306_3), ((HB.out.cell (World.block_lt_of_cell? w _ hw306_4)).trans hw306_4), ((HB.out.cell (World.block_lt_of_cell? w _ hw308_0)).trans hw308_0), ((HB.out.cell (World.block_lt_of_cell? w _ hw308_1)).trans hw308_1), ((HB.out.cell (World.block_lt_of_cell? w _ hw308_2)).trans hw308_2), ((HB.out.cell (World.block_lt_of_cell? w _ hw308_3)).trans hw308_3), ((HB.out.cell (World.block_lt_of_cell? w _ hw308_4)).trans hw308_4)⟩ (fun hHeld => ?_)
                  clear hK K
                  refine norm_ (a' := ?_) ?_ ?_
                  rotate_left
                  ·
                   show Act.put _ (some 134) _ = _
                   simp only [Act.put, s1_, s2_, s3_, i64_w, i32_w]
                   rfl
                  refine pure_ (i := 20) (N := some 135) (v := ?_) (a' := ?_) (tB 2097151 22) rfl rfl (any_of HT_.out (by kernel_rfl)) (fun _ _ _ h => h) (Or.inl ⟨by rfl, ?_⟩) ?_ ?_
                  rotate_left
                  ·
                   intro w'
                   go_simp
                   with_reducible rfl
                  rotate_left
                  ·
                   simp only [Act.put, s1_, s2_, s3_, i64_w, i32_w]
                   rfl
                  refine pure_ (i := 21) (N := some 136) (v := ?_) (a' := ?_) (tB 4194303 22) rfl rfl (any_of HT_.out (by kernel_rfl)) (fun _ _ _ h => h) (Or.inl ⟨by rfl, ?_⟩) ?_ ?_
                  rotate_left
                  ·
                   intro w'
                   go_simp
                   with_reducible rfl
                  rotate_left
                  ·
                   simp only [Act.put, s1_, s2_, s3_, i64_w, i32_w]
                   rfl
                  refine done_ (done_of HT_.out (by kernel_rfl)) ?_
                  try go_wp2
                  go_ret
                  exact ⟨by first | rfl | (simp [errW_none, errW_some] <;> rfl) | (simp [*, errW_none, errW_some] <;> rfl), by repeat (first | (with_reducible first | exact HB.out | apply bA | apply bN | apply b1 | refine bS ?_ GE279.out | refine bS ?_ GE280.out | refine bS ?_ GE297.out) | exact HB.out)⟩
                 ·
                  rw [if_neg c99] at H
                  have c99b0 : (t307 != t309) = false := by simpa using c99
                  (try (have c99b1 : decide (t307 = t309) = true := by simpa using c99))
                  (try (have c99b2 : (t307 == t309) = true := by simpa using c99))
                  clear c99
                  have H' := aM H
                  clear H
                  try go_wp2
                  have n0_ := aM (kD BK279.out)
                  have n1_ := aM (kD BK280.out)
                  have n2_ := aM (kD BK297.out)
                  have n3_ := aM (b1 HB.out)
                  clear BK279
                  clear BK280
                  clear BK297
                  clear HB
                  have BK279 := n0_
                  have BK280 := n1_
                  have BK297 := n2_
                  have HB := n3_
                  clear n0_ n1_ n2_ n3_
                  have p306 : 0 ≤ (x13_3 : Int) := oD (by first | (with_reducible assumption) | assumption)
                  have q306 : x13_3 < (l1_0.length : Int) := oD (by first | (with_reducible assumption) | assumption)
                  obtain ⟨ad306, A306_4, c306_4, e306, hx306_0, hx306_1, hx306_2, hx306_3, hx306_4, hl306_4, hi306_4⟩ := at_T24 HR1_0.out x13_3 p306 q306
                  have hw306_4 := hx306_4
                  have hw306_3 := hx306_3
                  have hw306_2 := hx306_2
                  have hw306_1 := hx306_1
                  have hw306_0 := hx306_0
                  cases e306
                  replace hx306_0 := pw_cell_below HB.out hx306_0
                  replace hx306_1 := pw_cell_below HB.out hx306_1
                  replace hx306_2 := pw_cell_below HB.out hx306_2
                  replace hx306_3 := pw_cell_below HB.out hx306_3
                  replace hx306_4 := pw_cell_below HB.out hx306_4
                  have HR306_4 := aM hi306_4
                  have HC306_4 := aM hl306_4
                  clear hi306_4 hl306_4
                  replace p306 := eq_true p306
                  replace q306 := eq_true q306
                  have p308 : 0 ≤ (x13_3 : Int) := oD (by first | (with_reducible assumption) | assumption)
                  have q308 : x13_3 < (l1_0.length : Int) := oD (by first | (with_reducible assumption) | assumption)
                  obtain ⟨ad308, A308_4, c308_4, e308, hx308_0, hx308_1, hx308_2, hx308_3, hx308_4, hl308_4, hi308_4⟩ := at_T24 HR1_0.out x13_3 p308 q308
                  have hw308_4 := hx308_4
                  have hw308_3 := hx308_3
                  have hw308_2 := hx308_2
                  have hw308_1 := hx308_1
                  have hw308_0 := hx308_0
                  obtain rfl : ad306 = ad308 := (by injection e308)
                  replace hx308_0 := pw_cell_below HB.out hx308_0
                  replace hx308_1 := pw_cell_below HB.out hx308_1
                  replace hx308_2 := pw_cell_below HB.out hx308_2
                  replace hx308_3 := pw_cell_below HB.out hx308_3
                  replace hx308_4 := pw_cell_below HB.out hx308_4
                  have HR308_4 := aM hi308_4
                  have HC308_4 := aM hl308_4
                  clear hi308_4 hl308_4
                  replace p308 := eq_true p308
                  replace q308 := eq_true q308
                  have ea_ := Option.some.inj (hx306_4.symm.trans hx308_4)
                  injection ea_ with ea_ en_ ec_
                  subst ea_
                  subst ec_
                  clear en_
                  refine start_ (n := 22) (S := fun w' => w'.cell? ⟨gb280, 0, none⟩ = some (.slice (some ad306) l1_0.length c1_0) ∧ w'.cell? ⟨gb297, 0, none⟩ = some (.int .i64 ((rd_T24 l0_0 x13_3).f0)) ∧ w'.cell? ⟨gb297, 1, none⟩ = some (.string ((rd_T24 l0_0 x13_3).f1)) ∧ w'.cell? ⟨gb297, 2, none⟩ = some (.int .i64 ((rd_T24 l0_0 x13_3).f2)) ∧ w'.cell? ⟨gb297, 3, none⟩ = some (.int .i64 ((rd_T24 l0_0 x13_3).f3)) ∧ w'.cell? ⟨gb297, 4, none⟩ = some (.slice A296_4 ((rd_T24 l0_0 x13_3).f4).length c296_4) ∧ w'.cell? (ad306.add ((x13_3).toNat * 5)) = some (.int .i64 ((rd_T24 l1_0 x13_3).f0)) ∧ w'.cell? ⟨(ad306.add ((x13_3).toNat * 5)).block, (ad306.add ((x13_3).toNat * 5)).off + 1, none⟩ = some (.string ((rd_T24 l1_0 x13_3).f1)) ∧ w'.cell? ⟨(ad306.add ((x13_3).toNat * 5)).block, (ad306.add ((x13_3).toNat * 5)).off + 2, none⟩ = some (.int .i64 ((rd_T24 l1_0 x13_3).f2)) ∧ w'.cell? ⟨(ad306.add ((x13_3).toNat * 5)).block, (ad306.add ((x13_3).toNat * 5)).off + 3, none⟩ = some (.int .i64 ((rd_T24 l1_0 x13_3).f3)) ∧ w'.cell? ⟨(ad306.add ((x13_3).toNat * 5)).block, (ad306.add ((x13_3).toNat * 5)).off + 4, none⟩ = some (.slice A306_4 ((rd_T24 l1_0 x13_3).f4).length c306_4) ∧ w'.cell? (ad306.add ((x13_3).toNat * 5)) = some (.int .i64 ((rd_T24 l1_0 x13_3).f0)) ∧ w'.cell? ⟨(ad306.add ((x13_3).toNat * 5)).block, (ad306.add ((x13_3).toNat * 5)).off + 1, none⟩ = some (.string ((rd_T24 l1_0 x13_3).f1)) ∧ w'.cell? ⟨(ad306.add ((x13_3).toNat * 5)).block, (ad306.add ((x13_3).toNat * 5)).off + 2, none⟩ = some (.int .i64 ((rd_T24 l1_0 x13_3).f2)) ∧ w'.cell? ⟨(ad306.add ((x13_3).toNat * 5)).block, (ad306.add ((x13_3).toNat * 5)).off + 3, none⟩ = some (.int .i64 ((rd_T24 l1_0 x13_3).f3)) ∧ w'.cell? ⟨(ad306.add ((x13_3).toNat * 5)).block, (ad306.add ((x13_3).toNat * 5)).off + 4, none⟩ = some (.slice A306_4 ((rd_T24 l1_0 x13_3).f4).length c306_4)) (ds := []) (tB 0 22) (by kernel_rfl) rfl rfl ⟨(blk_cell BK280.out 0).trans rfl, (blk_cell BK297.out 0).trans rfl, (blk_cell BK297.out 1).trans rfl, (blk_cell BK297.out 2).trans rfl, (blk_cell BK297.out 3).trans rfl, (blk_cell BK297.out 4).trans rfl, ((HB.out.cell (World.block_lt_of_cell? w _ hw306_0)).trans hw306_0), ((HB.out.cell (World.block_lt_of_cell? w _ hw306_1)).trans hw306_1), ((HB.out.cell (World.block_lt_of_cell? w _ hw306_2)).trans hw306_2), ((HB.out.cell (World.block_lt_of_cell? w _ hw306_3)).trans hw306_3), ((HB.out.cell (World.block_lt_of_cell? w _ hw306_4)).trans hw306_4), ((HB.out.cell (World.block_lt_of_cell? w _ hw308_0)).trans hw308_0), ((HB.out.cell (World.block_lt_of_cell? w _ hw308_1)).trans hw308_1), ((HB.out.cell (World.block_lt_of_cell? w _ hw308_2)).trans hw308_2), ((HB.out.cell (World.block_lt_of_cell? w _ hw308_3)).trans hw308_3), ((HB.out.cell (World.block_lt_of_cell? w _ hw308_4)).trans hw308_4)⟩ (fun hHeld => ?_); refine with_tabW haulagelaw08_SchemaFinds.tab17 haulagelaw08_SchemaFinds.bits17 (fun HT_ HW_ => ?_)
                  generalize wc.drew = w103 at BK279 BK280 BK297 HB HR306_4 HR308_4 hx306_0 hx306_1 hx306_2 hx306_3 hx306_4 hx308_0 hx308_1 hx308_2 hx308_3 hx308_4 hHeld ⊢
                  refine pure_ (i := 0) (N := some 115) (v := ?_) (a' := ?_) (tB 1 22) rfl rfl (any_of HT_.out (by kernel_rfl)) (fun _ _ _ h => h) (Or.inl ⟨by rfl, ?_⟩) ?_ ?_
                  rotate_left
                  ·
                   intro w'
                   go_simp
                   with_reducible rfl
                  rotate_left
                  ·
                   simp only [Act.put, s1_, s2_, s3_, i64_w, i32_w]
                   rfl
                  refine pure_ (i := 1) (N := some 116) (v := ?_) (a' := ?_) (tB 3 22) rfl rfl (any_of HT_.out (by kernel_rfl)) (fun _ _ _ h => h) (Or.inl ⟨by rfl, ?_⟩) ?_ ?_
                  rotate_left
                  ·
                   intro w'
                   go_simp
                   with_reducible rfl
                  rotate_left
                  ·
                   simp only [Act.put, s1_, s2_, s3_, i64_w, i32_w]
                   rfl
                  refine take_ (i := 2) (N := some 117) (v := ?_) (a' := ?_) (tB 7 22) rfl rfl (take_ofW HT_.out HW_.out (by kernel_rfl)) (fun _ _ _ h => h) (Or.inl ⟨by rfl, ?_⟩) hHeld ?_ ?_
                  rotate_left
                  ·
                   rintro w' ⟨s0, s1, s2, s3, s4, s5, s6, s7, s8, s9, s10, s11, s12, s13, s14, s15⟩
                   go_simp
                   with_reducible rfl
                  rotate_left
                  ·
                   simp only [Act.put, s1_, s2_, s3_, i64_w, i32_w]
                   rfl
                  refine pure_ (i := 3) (N := some 118) (v := ?_) (a' := ?_) (tB 15 22) rfl rfl (any_of HT_.out (by kernel_rfl)) (fun _ _ _ h => h) (Or.inl ⟨by rfl, ?_⟩) ?_ ?_
                  rotate_left
                  ·
                   intro w'
                   go_simp
                   with_reducible rfl
                  rotate_left
                  ·
                   simp only [Act.put, s1_, s2_, s3_, i64_w, i32_w]
                   rfl
                  refine pure_ (i := 4) (N := some 119) (v := ?_) (a' := ?_) (tB 31 22) rfl rfl (any_of HT_.out (by kernel_rfl)) (fun _ _ _ h => h) (Or.inl ⟨by rfl, ?_⟩) ?_ ?_
                  rotate_left
                  ·
                   intro w'
                   go_simp
                   with_reducible rfl
                  rotate_left
                  ·
                   simp only [Act.put, s1_, s2_, s3_, i64_w, i32_w]
                   rfl
                  refine pure_ (i := 5) (N := some 120) (v := ?_) (a' := ?_) (tB 63 22) rfl rfl (any_of HT_.out (by kernel_rfl)) (fun _ _ _ h => h) (Or.inl ⟨by rfl, ?_⟩) ?_ ?_
                  rotate_left
                  ·
                   intro w'
                   go_simp
                   with_reducible rfl
                  rotate_left
                  ·
                   simp only [Act.put, s1_, s2_, s3_, i64_w, i32_w]
                   rfl
                  refine pure_ (i := 7) (N := some 122) (v := ?_) (a' := ?_) (tB 191 22) rfl rfl (any_of HT_.out (by kernel_rfl)) (fun _ _ _ h => h) (Or.inl ⟨by rfl, ?_⟩) ?_ ?_
                  rotate_left
                  ·
                   intro w'
                   go_simp
                   with_reducible rfl
                  rotate_left
                  ·
                   simp only [Act.put, s1_, s2_, s3_, i64_w, i32_w]
                   rfl
                  refine pure_ (i := 9) (N := some 124) (v := ?_) (a' := ?_) (tB 703 22) rfl rfl (any_of HT_.out (by kernel_rfl)) (fun _ _ _ h => h) (Or.inl ⟨by rfl, ?_⟩) ?_ ?_
                  rotate_left
                  ·
                   intro w'
                   go_simp
                   with_reducible rfl
                  rotate_left
                  ·
                   simp only [Act.put, s1_, s2_, s3_, i64_w, i32_w]
                   rfl
                  refine pure_ (i := 14) (N := some 129) (v := ?_) (a' := ?_) (tB 17087 22) rfl rfl (any_of HT_.out (by kernel_rfl)) (fun _ _ _ h => h) (Or.inl ⟨by rfl, ?_⟩) ?_ ?_
                  rotate_left
                  ·
                   intro w'
                   go_simp
                   with_reducible rfl
                  rotate_left
                  ·
                   simp only [Act.put, s1_, s2_, s3_, i64_w, i32_w]
                   rfl
                  refine pure_ (i := 16) (N := some 131) (v := ?_) (a' := ?_) (tB 82623 22) rfl rfl (any_of HT_.out (by kernel_rfl)) (fun _ _ _ h => h) (Or.inl ⟨by rfl, ?_⟩) ?_ ?_
                  rotate_left
                  ·
                   intro w'
                   go_simp
                   with_reducible rfl
                  rotate_left
                  ·
                   simp only [Act.put, s1_, s2_, s3_, i64_w, i32_w]
                   rfl
                  refine take_ (i := 6) (N := some 121) (v := ?_) (a' := ?_) (tB 82687 22) rfl rfl (take_ofW HT_.out HW_.out (by kernel_rfl)) (fun _ _ _ h => h) (Or.inl ⟨by rfl, ?_⟩) hHeld ?_ ?_
                  rotate_left
                  ·
                   rintro w' ⟨s0, s1, s2, s3, s4, s5, s6, s7, s8, s9, s10, s11, s12, s13, s14, s15⟩
                   go_simp
                   with_reducible rfl
                  rotate_left
                  ·
                   simp only [Act.put, s1_, s2_, s3_, i64_w, i32_w]
                   rfl
                  refine take_ (i := 8) (N := some 123) (v := ?_) (a' := ?_) (tB 82943 22) rfl rfl (take_ofW HT_.out HW_.out (by kernel_rfl)) (fun _ _ _ h => h) (Or.inl ⟨by rfl, ?_⟩) hHeld ?_ ?_
                  rotate_left
                  ·
                   rintro w' ⟨s0, s1, s2, s3, s4, s5, s6, s7, s8, s9, s10, s11, s12, s13, s14, s15⟩
                   go_simp
                   with_reducible rfl
                  rotate_left
                  ·
                   simp only [Act.put, s1_, s2_, s3_, i64_w, i32_w]
                   rfl
                  refine pure_ (i := 10) (N := some 125) (v := ?_) (a' := ?_) (tB 83967 22) rfl rfl (any_of HT_.out (by kernel_rfl)) (fun _ _ _ h => h) (Or.inl ⟨by rfl, ?_⟩) ?_ ?_
                  rotate_left
                  ·
                   intro w'
                   go_simp
                   with_reducible rfl
                  rotate_left
                  ·
                   simp only [Act.put, s1_, s2_, s3_, i64_w, i32_w]
                   rfl
                  refine take_ (i := 11) (N := some 126) (v := ?_) (a' := ?_) (tB 86015 22) rfl rfl (take_ofW HT_.out HW_.out (by kernel_rfl)) (fun _ _ _ h => h) (Or.inl ⟨by rfl, ?_⟩) hHeld ?_ ?_
                  rotate_left
                  ·
                   rintro w' ⟨s0, s1, s2, s3, s4, s5, s6, s7, s8, s9, s10, s11, s12, s13, s14, s15⟩
                   go_simp
                   with_reducible rfl
                  rotate_left
                  ·
                   simp only [Act.put, s1_, s2_, s3_, i64_w, i32_w]
                   rfl
                  refine take_ (i := 13) (N := some 128) (v := ?_) (a' := ?_) (tB 94207 22) rfl rfl (take_ofW HT_.out HW_.out (by kernel_rfl)) (fun _ _ _ h => h) (Or.inl ⟨by rfl, ?_⟩) hHeld ?_ ?_
                  rotate_left
                  ·
                   rintro w' ⟨s0, s1, s2, s3, s4, s5, s6, s7, s8, s9, s10, s11, s12, s13, s14, s15⟩
                   go_simp
                   with_reducible rfl
                  rotate_left
                  ·
                   simp only [Act.put, s1_, s2_, s3_, i64_w, i32_w]
                   rfl
                  refine take_ (i := 15) (N := some 130) (v := ?_) (a' := ?_) (tB 126975 22) rfl rfl (take_ofW HT_.out HW_.out (by kernel_rfl)) (fun _ _ _ h => h) (Or.inl ⟨by rfl, ?_⟩) hHeld ?_ ?_
                  rotate_left
                  ·
                   rintro w' ⟨s0, s1, s2, s3, s4, s5, s6, s7, s8, s9, s10, s11, s12, s13, s14, s15⟩
                   go_simp
                   with_reducible rfl
                  rotate_left
                  ·
                   simp only [Act.put, s1_, s2_, s3_, i64_w, i32_w]
                   rfl
                  refine pure_ (i := 17) (N := some 132) (v := ?_) (a' := ?_) (tB 258047 22) rfl rfl (any_of HT_.out (by kernel_rfl)) (fun _ _ _ h => h) (Or.inl ⟨by rfl, ?_⟩) ?_ ?_
                  rotate_left
                  ·
                   intro w'
                   go_simp
                   with_reducible rfl
                  rotate_left
                  ·
                   simp only [Act.put, s1_, s2_, s3_, i64_w, i32_w]
                   rfl
                  refine take_ (i := 18) (N := some 133) (v := ?_) (a' := ?_) (tB 520191 22) rfl rfl (take_ofW HT_.out HW_.out (by kernel_rfl)) (fun _ _ _ h => h) (Or.inl ⟨by rfl, ?_⟩) hHeld ?_ ?_
                  rotate_left
                  ·
                   rintro w' ⟨s0, s1, s2, s3, s4, s5, s6, s7, s8, s9, s10, s11, s12, s13, s14, s15⟩
                   go_simp
                   with_reducible rfl
                  rotate_left
                  ·
                   simp only [Act.put, s1_, s2_, s3_, i64_w, i32_w]
                   rfl
                  refine one_ (i := 12) (N := some 127) (tB 524287 22) rfl rfl (one_of HT_.out (by kernel_rfl)) (by decide) (fun K hK => ?_)
                  refine goes_ Tryd.func49 (by kernel_rfl) rfl #[.agg #[.int .i64 ((rd_T24 l0_0 x13_3).f0), .string ((rd_T24 l0_0 x13_3).f1), .int .i64 ((rd_T24 l0_0 x13_3).f2), .int .i64 ((rd_T24 l0_0 x13_3).f3), .slice A296_4 ((rd_T24 l0_0 x13_3).f4).length c296_4], .agg #[.int .i64 ((rd_T24 l1_0 x13_3).f0), .string ((rd_T24 l1_0 x13_3).f1), .int .i64 ((rd_T24 l1_0 x13_3).f2), .int .i64 ((rd_T24 l1_0 x13_3).f3), .slice A306_4 ((rd_T24 l1_0 x13_3).f4).length c306_4]] (by rfl) rfl rfl (by (try simp only [List.map_toArray, List.map_cons, List.map_nil]); first | done | rfl | (simp only [List.length_drop, List.length_take]; rfl)) ?_
                  with_reducible refine (schema_SameTable.calls kj68 ((rd_T24 l0_0 x13_3).f0) ((rd_T24 l0_0 x13_3).f1) ((rd_T24 l0_0 x13_3).f2) ((rd_T24 l0_0 x13_3).f3) _ _ ((rd_T24 l0_0 x13_3).f4) ((rd_T24 l1_0 x13_3).f0) ((rd_T24 l1_0 x13_3).f1) ((rd_T24 l1_0 x13_3).f2) ((rd_T24 l1_0 x13_3).f3) _ _ ((rd_T24 l1_0 x13_3).f4) t307 _ ?side1 ?side2 ?side3 ?side4 A97.out).mono ?_
                  (case side1 => repeat (first | exact (Kd.C_below HR296_4.out HB.out) | (with_reducible refine Kd.C_alloc ?_ _) | (with_reducible refine Kd.C_drewN ?_ _) | (with_reducible refine Kd.C_drew ?_)))
                  (case side2 => exact HC296_4.out)
                  (case side3 => repeat (first | exact (Kd.C_below HR306_4.out HB.out) | (with_reducible refine Kd.C_alloc ?_ _) | (with_reducible refine Kd.C_drewN ?_ _) | (with_reducible refine Kd.C_drew ?_)))
                  (case side4 => exact HC306_4.out)
                  rintro e w104 ⟨rfl, hb⟩
                  refine ⟨_, rfl, ?_⟩
                  have n0_ := aM (kB (g := gb279) (o := .cells #[.slice (some ad296) l0_0.length c0_0] 46 (0, 0)) (by (with_reducible repeat (first | refine kN ?_ _ | refine kD ?_ | refine kA ?_ _)); exact BK279.out) hb)
                  have n1_ := aM (kB (g := gb280) (o := .cells #[.slice (some ad306) l1_0.length c1_0] 46 (0, 0)) (by (with_reducible repeat (first | refine kN ?_ _ | refine kD ?_ | refine kA ?_ _)); exact BK280.out) hb)
                  have n2_ := aM (kB (g := gb297) (o := .cells #[.int .i64 ((rd_T24 l0_0 x13_3).f0), .string ((rd_T24 l0_0 x13_3).f1), .int .i64 ((rd_T24 l0_0 x13_3).f2), .int .i64 ((rd_T24 l0_0 x13_3).f3), .slice A296_4 ((rd_T24 l0_0 x13_3).f4).length c296_4] 24 (0, 0)) (by (with_reducible repeat (first | refine kN ?_ _ | refine kD ?_ | refine kA ?_ _)); exact BK297.out) hb)
                  have n3_ := aM (bP (by repeat (first | (with_reducible first | exact HB.out | apply bA | apply bN | apply b1 | refine bS ?_ GE279.out | refine bS ?_ GE280.out | refine bS ?_ GE297.out) | exact HB.out)) hb)
                  clear BK279
                  clear BK280
                  clear BK297
                  clear HB
                  have BK279 := n0_
                  have BK280 := n1_
                  have BK297 := n2_
                  have HB := n3_
                  clear n0_ n1_ n2_ n3_
                  (try clear hb)
                  (try clear hb2)
                  (try clear hk)
                  (try clear hi)
                  refine hK.out _ _ ⟨(blk_cell BK280.out 0).trans rfl, (blk_cell BK297.out 0).trans rfl, (blk_cell BK297.out 1).trans rfl, (blk_cell BK297.out 2).trans rfl, (blk_cell BK297.out 3).trans rfl, (blk_cell BK297.out 4).trans rfl, ((HB.out.cell (World.block_lt_of_cell? w _ hw306_0)).trans hw306_0), ((HB.out.cell (World.block_lt_of_cell? w _ hw306_1)).trans hw306_1), ((HB.out.cell (World.block_lt_of_cell? w _ hw306_2)).trans hw306_2), ((HB.out.cell (World.block_lt_of_cell? w _ hw306_3)).trans hw306_3), ((HB.out.cell (World.block_lt_of_cell? w _ hw306_4)).trans hw306_4), ((HB.out.cell (World.block_lt_of_cell? w _ hw308_0)).trans hw308_0), ((HB.out.cell (World.block_lt_of_cell? w _ hw308_1)).trans hw308_1), ((HB.out.cell (World.block_lt_of_cell? w _ hw308_2)).trans hw308_2), ((HB.out.cell (World.block_lt_of_cell? w _ hw308_3)).trans hw308_3), ((HB.out.cell (World.block_lt_of_cell? w _ hw308_4)).trans hw308_4)⟩ (fun hHeld => ?_)
                  clear hK K
                  refine norm_ (a' := ?_) ?_ ?_
                  rotate_left
                  ·
                   show Act.put _ (some 127) _ = _
                   simp only [Act.put, s1_, s2_, s3_, i64_w, i32_w]
                   rfl
                  refine one_ (i := 19) (N := some 134) (tB 1048575 22) rfl rfl (one_of HT_.out (by kernel_rfl)) (by decide) (fun K hK => ?_)
                  refine goes_ Tryd.func50 (by kernel_rfl) rfl #[.agg #[.int .i64 ((rd_T24 l0_0 x13_3).f0), .string ((rd_T24 l0_0 x13_3).f1), .int .i64 ((rd_T24 l0_0 x13_3).f2), .int .i64 ((rd_T24 l0_0 x13_3).f3), .slice A296_4 ((rd_T24 l0_0 x13_3).f4).length c296_4], .agg #[.int .i64 ((rd_T24 l1_0 x13_3).f0), .string ((rd_T24 l1_0 x13_3).f1), .int .i64 ((rd_T24 l1_0 x13_3).f2), .int .i64 ((rd_T24 l1_0 x13_3).f3), .slice A306_4 ((rd_T24 l1_0 x13_3).f4).length c306_4]] (by rfl) rfl rfl (by (try simp only [List.map_toArray, List.map_cons, List.map_nil]); first | done | rfl | (simp only [List.length_drop, List.length_take]; rfl)) ?_
                  with_reducible refine (haulageref08_SameTable.calls kj68 ((rd_T24 l0_0 x13_3).f0) ((rd_T24 l0_0 x13_3).f1) ((rd_T24 l0_0 x13_3).f2) ((rd_T24 l0_0 x13_3).f3) _ _ ((rd_T24 l0_0 x13_3).f4) ((rd_T24 l1_0 x13_3).f0) ((rd_T24 l1_0 x13_3).f1) ((rd_T24 l1_0 x13_3).f2) ((rd_T24 l1_0 x13_3).f3) _ _ ((rd_T24 l1_0 x13_3).f4) t309 _ ?side1 ?side2 ?side3 ?side4 A98.out).mono ?_
                  (case side1 => repeat (first | exact (Kd.C_below HR296_4.out HB.out) | (with_reducible refine Kd.C_alloc ?_ _) | (with_reducible refine Kd.C_drewN ?_ _) | (with_reducible refine Kd.C_drew ?_)))
                  (case side2 => exact HC296_4.out)
                  (case side3 => repeat (first | exact (Kd.C_below HR308_4.out HB.out) | (with_reducible refine Kd.C_alloc ?_ _) | (with_reducible refine Kd.C_drewN ?_ _) | (with_reducible refine Kd.C_drew ?_)))
                  (case side4 => exact HC308_4.out)
                  rintro e w105 ⟨rfl, hb⟩
                  refine ⟨_, rfl, ?_⟩
                  have n0_ := aM (kB (g := gb279) (o := .cells #[.slice (some ad296) l0_0.length c0_0] 46 (0, 0)) (by (with_reducible repeat (first | refine kN ?_ _ | refine kD ?_ | refine kA ?_ _)); exact BK279.out) hb)
                  have n1_ := aM (kB (g := gb280) (o := .cells #[.slice (some ad306) l1_0.length c1_0] 46 (0, 0)) (by (with_reducible repeat (first | refine kN ?_ _ | refine kD ?_ | refine kA ?_ _)); exact BK280.out) hb)
                  have n2_ := aM (kB (g := gb297) (o := .cells #[.int .i64 ((rd_T24 l0_0 x13_3).f0), .string ((rd_T24 l0_0 x13_3).f1), .int .i64 ((rd_T24 l0_0 x13_3).f2), .int .i64 ((rd_T24 l0_0 x13_3).f3), .slice A296_4 ((rd_T24 l0_0 x13_3).f4).length c296_4] 24 (0, 0)) (by (with_reducible repeat (first | refine kN ?_ _ | refine kD ?_ | refine kA ?_ _)); exact BK297.out) hb)
                  have n3_ := aM (bP (by repeat (first | (with_reducible first | exact HB.out | apply bA | apply bN | apply b1 | refine bS ?_ GE279.out | refine bS ?_ GE280.out | refine bS ?_ GE297.out) | exact HB.out)) hb)
                  clear BK279
                  clear BK280
                  clear BK297
                  clear HB
                  have BK279 := n0_
                  have BK280 := n1_
                  have BK297 := n2_
                  have HB := n3_
                  clear n0_ n1_ n2_ n3_
                  (try clear hb)
                  (try clear hb2)
                  (try clear hk)
                  (try clear hi)
                  refine hK.out _ _ ⟨(blk_cell BK280.out 0).trans rfl, (blk_cell BK297.out 0).trans rfl, (blk_cell BK297.out 1).trans rfl, (blk_cell BK297.out 2).trans rfl, (blk_cell BK297.out 3).trans rfl, (blk_cell BK297.out 4).trans rfl, ((HB.out.cell (World.block_lt_of_cell? w _ hw306_0)).trans hw306_0), ((HB.out.cell (World.block_lt_of_cell? w _ hw306_1)).trans hw306_1), ((HB.out.cell (World.block_lt_of_cell? w _ hw306_2)).trans hw306_2), ((HB.out.cell (World.block_lt_of_cell? w _ hw306_3)).trans hw306_3), ((HB.out.cell (World.block_lt_of_cell? w _ hw306_4)).trans hw306_4), ((HB.out.cell (World.block_lt_of_cell? w _ hw308_0)).trans hw308_0), ((HB.out.cell (World.block_lt_of_cell? w _ hw308_1)).trans hw308_1), ((HB.out.cell (World.block_lt_of_cell? w _ hw308_2)).trans hw308_2), ((HB.out.cell (World.block_lt_of_cell? w _ hw308_3)).trans hw308_3), ((HB.out.cell (World.block_lt_of_cell? w _ hw308_4)).trans hw308_4)⟩ (fun hHeld => ?_)
                  clear hK K
                  refine norm_ (a' := ?_) ?_ ?_
                  rotate_left
                  ·
                   show Act.put _ (some 134) _ = _
                   simp only [Act.put, s1_, s2_, s3_, i64_w, i32_w]
                   rfl
                  refine pure_ (i := 20) (N := some 135) (v := ?_) (a' := ?_) (tB 2097151 22) rfl rfl (any_of HT_.out (by kernel_rfl)) (fun _ _ _ h => h) (Or.inl ⟨by rfl, ?_⟩) ?_ ?_
                  rotate_left
                  ·
                   intro w'
                   go_simp
                   with_reducible rfl
                  rotate_left
                  ·
                   simp only [Act.put, s1_, s2_, s3_, i64_w, i32_w]
                   rfl
                  refine pure_ (i := 21) (N := some 136) (v := ?_) (a' := ?_) (tB 4194303 22) rfl rfl (any_of HT_.out (by kernel_rfl)) (fun _ _ _ h => h) (Or.inl ⟨by rfl, ?_⟩) ?_ ?_
                  rotate_left
                  ·
                   intro w'
                   go_simp
                   with_reducible rfl
                  rotate_left
                  ·
                   simp only [Act.put, s1_, s2_, s3_, i64_w, i32_w]
                   rfl
                  refine done_ (done_of HT_.out (by kernel_rfl)) ?_
                  try go_wp2
                  go_roundg kj68
                  case measure => have := HJ6.out; have := HJ31.out; have := HK3.out; have := HJ68.out; omega
                  case rel => exact ⟨(wrap64 (x13_3 + 1)), (by first | rfl | (simp; done) | (simp [*]; done)), H', ⟨by have := HJ6.out; have := HJ31.out; have := HK3.out; have := HJ68.out; omega⟩, ⟨by (with_reducible repeat (first | refine kN ?_ _ | refine kD ?_ | refine kA ?_ _)); exact BK279.out⟩, ⟨by (with_reducible repeat (first | refine kN ?_ _ | refine kD ?_ | refine kA ?_ _)); exact BK280.out⟩, ⟨by repeat (first | (with_reducible first | exact HB.out | apply bA | apply bN | apply b1 | refine bS ?_ GE279.out | refine bS ?_ GE280.out | refine bS ?_ GE297.out) | exact HB.out)⟩⟩
                ·
                 rw [if_neg c96] at H
                 exact absurd H (by simp)
               ·
                rw [if_neg c95] at H
                have c95b0 : decide (x13_3 < (l1_0.length : Int)) = false := decide_eq_false c95
                clear c95
                have H' := aM H
                clear H
                try go_wp2
                have n0_ := aM (kD BK279.out)
                have n1_ := aM (kD BK280.out)
                have n2_ := aM (kD BK297.out)
                have n3_ := aM (b1 HB.out)
                clear BK279
                clear BK280
                clear BK297
                clear HB
                have BK279 := n0_
                have BK280 := n1_
                have BK297 := n2_
                have HB := n3_
                clear n0_ n1_ n2_ n3_
                refine start_ (n := 22) (S := fun w' => w'.cell? ⟨gb280, 0, none⟩ = some (.slice A1_0 l1_0.length c1_0)) (ds := []) (tB 0 22) (by kernel_rfl) rfl rfl ((blk_cell BK280.out 0).trans rfl) (fun hHeld => ?_); refine with_tabW haulagelaw08_SchemaFinds.tab17 haulagelaw08_SchemaFinds.bits17 (fun HT_ HW_ => ?_)
                generalize wc.drew = w106 at BK279 BK280 BK297 HB hHeld ⊢
                refine pure_ (i := 0) (N := some 115) (v := ?_) (a' := ?_) (tB 1 22) rfl rfl (any_of HT_.out (by kernel_rfl)) (fun _ _ _ h => h) (Or.inl ⟨by rfl, ?_⟩) ?_ ?_
                rotate_left
                ·
                 intro w'
                 go_simp
                 with_reducible rfl
                rotate_left
                ·
                 simp only [Act.put, s1_, s2_, s3_, i64_w, i32_w]
                 rfl
                refine pure_ (i := 1) (N := some 116) (v := ?_) (a' := ?_) (tB 3 22) rfl rfl (any_of HT_.out (by kernel_rfl)) (fun _ _ _ h => h) (Or.inl ⟨by rfl, ?_⟩) ?_ ?_
                rotate_left
                ·
                 intro w'
                 go_simp
                 with_reducible rfl
                rotate_left
                ·
                 simp only [Act.put, s1_, s2_, s3_, i64_w, i32_w]
                 rfl
                refine take_ (i := 2) (N := some 117) (v := ?_) (a' := ?_) (tB 7 22) rfl rfl (take_ofW HT_.out HW_.out (by kernel_rfl)) (fun _ _ _ h => h) (Or.inl ⟨by rfl, ?_⟩) hHeld ?_ ?_
                rotate_left
                ·
                 intro w' s0
                 go_simp
                 with_reducible rfl
                rotate_left
                ·
                 simp only [Act.put, s1_, s2_, s3_, i64_w, i32_w]
                 rfl
                refine pure_ (i := 3) (N := some 118) (v := ?_) (a' := ?_) (tB 15 22) rfl rfl (any_of HT_.out (by kernel_rfl)) (fun _ _ _ h => h) (Or.inl ⟨by rfl, ?_⟩) ?_ ?_
                rotate_left
                ·
                 intro w'
                 go_simp
                 with_reducible rfl
                rotate_left
                ·
                 simp only [Act.put, s1_, s2_, s3_, i64_w, i32_w]
                 rfl
                refine pure_ (i := 4) (N := some 119) (v := ?_) (a' := ?_) (tB 31 22) rfl rfl (any_of HT_.out (by kernel_rfl)) (fun _ _ _ h => h) (Or.inl ⟨by rfl, ?_⟩) ?_ ?_
                rotate_left
                ·
                 intro w'
                 go_simp
                 with_reducible rfl
                rotate_left
                ·
                 simp only [Act.put, s1_, s2_, s3_, i64_w, i32_w]
                 rfl
                refine pure_ (i := 5) (N := some 120) (v := ?_) (a' := ?_) (tB 63 22) rfl rfl (any_of HT_.out (by kernel_rfl)) (fun _ _ _ h => h) (Or.inl ⟨by rfl, ?_⟩) ?_ ?_
                rotate_left
                ·
                 intro w'
                 go_simp
                 with_reducible rfl
                rotate_left
                ·
                 simp only [Act.put, s1_, s2_, s3_, i64_w, i32_w]
                 rfl
                refine pure_ (i := 6) (N := some 121) (v := undef) (a' := ?_) (tB 127 22) rfl rfl (any_of HT_.out (by kernel_rfl)) (fun _ _ _ h => h) (Or.inr ⟨by rfl, rfl⟩) ?_ ?_
                rotate_left
                ·
                 simp only [Act.put, s1_, s2_, s3_, i64_w, i32_w]
                 rfl
                refine pure_ (i := 7) (N := some 122) (v := undef) (a' := ?_) (tB 255 22) rfl rfl (any_of HT_.out (by kernel_rfl)) (fun _ _ _ h => h) (Or.inr ⟨by rfl, rfl⟩) ?_ ?_
                rotate_left
                ·
                 simp only [Act.put, s1_, s2_, s3_, i64_w, i32_w]
                 rfl
                refine pure_ (i := 8) (N := some 123) (v := undef) (a' := ?_) (tB 511 22) rfl rfl (any_of HT_.out (by kernel_rfl)) (fun _ _ _ h => h) (Or.inr ⟨by rfl, rfl⟩) ?_ ?_
                rotate_left
                ·
                 simp only [Act.put, s1_, s2_, s3_, i64_w, i32_w]
                 rfl
                refine pure_ (i := 9) (N := some 124) (v := undef) (a' := ?_) (tB 1023 22) rfl rfl (any_of HT_.out (by kernel_rfl)) (fun _ _ _ h => h) (Or.inr ⟨by rfl, rfl⟩) ?_ ?_
                rotate_left
                ·
                 simp only [Act.put, s1_, s2_, s3_, i64_w, i32_w]
                 rfl
                refine pure_ (i := 10) (N := some 125) (v := undef) (a' := ?_) (tB 2047 22) rfl rfl (any_of HT_.out (by kernel_rfl)) (fun _ _ _ h => h) (Or.inr ⟨by rfl, rfl⟩) ?_ ?_
                rotate_left
                ·
                 simp only [Act.put, s1_, s2_, s3_, i64_w, i32_w]
                 rfl
                refine pure_ (i := 11) (N := some 126) (v := undef) (a' := ?_) (tB 4095 22) rfl rfl (any_of HT_.out (by kernel_rfl)) (fun _ _ _ h => h) (Or.inr ⟨by rfl, rfl⟩) ?_ ?_
                rotate_left
                ·
                 simp only [Act.put, s1_, s2_, s3_, i64_w, i32_w]
                 rfl
                refine pure_ (i := 12) (N := some 127) (v := undef) (a' := ?_) (tB 8191 22) rfl rfl (any_of HT_.out (by kernel_rfl)) (fun _ _ _ h => h) (Or.inr ⟨by rfl, rfl⟩) ?_ ?_
                rotate_left
                ·
                 simp only [Act.put, s1_, s2_, s3_, i64_w, i32_w]
                 rfl
                refine pure_ (i := 13) (N := some 128) (v := undef) (a' := ?_) (tB 16383 22) rfl rfl (any_of HT_.out (by kernel_rfl)) (fun _ _ _ h => h) (Or.inr ⟨by rfl, rfl⟩) ?_ ?_
                rotate_left
                ·
                 simp only [Act.put, s1_, s2_, s3_, i64_w, i32_w]
                 rfl
                refine pure_ (i := 14) (N := some 129) (v := undef) (a' := ?_) (tB 32767 22) rfl rfl (any_of HT_.out (by kernel_rfl)) (fun _ _ _ h => h) (Or.inr ⟨by rfl, rfl⟩) ?_ ?_
                rotate_left
                ·
                 simp only [Act.put, s1_, s2_, s3_, i64_w, i32_w]
                 rfl
                refine pure_ (i := 15) (N := some 130) (v := undef) (a' := ?_) (tB 65535 22) rfl rfl (any_of HT_.out (by kernel_rfl)) (fun _ _ _ h => h) (Or.inr ⟨by rfl, rfl⟩) ?_ ?_
                rotate_left
                ·
                 simp only [Act.put, s1_, s2_, s3_, i64_w, i32_w]
                 rfl
                refine pure_ (i := 16) (N := some 131) (v := undef) (a' := ?_) (tB 131071 22) rfl rfl (any_of HT_.out (by kernel_rfl)) (fun _ _ _ h => h) (Or.inr ⟨by rfl, rfl⟩) ?_ ?_
                rotate_left
                ·
                 simp only [Act.put, s1_, s2_, s3_, i64_w, i32_w]
                 rfl
                refine pure_ (i := 17) (N := some 132) (v := undef) (a' := ?_) (tB 262143 22) rfl rfl (any_of HT_.out (by kernel_rfl)) (fun _ _ _ h => h) (Or.inr ⟨by rfl, rfl⟩) ?_ ?_
                rotate_left
                ·
                 simp only [Act.put, s1_, s2_, s3_, i64_w, i32_w]
                 rfl
                refine pure_ (i := 18) (N := some 133) (v := undef) (a' := ?_) (tB 524287 22) rfl rfl (any_of HT_.out (by kernel_rfl)) (fun _ _ _ h => h) (Or.inr ⟨by rfl, rfl⟩) ?_ ?_
                rotate_left
                ·
                 simp only [Act.put, s1_, s2_, s3_, i64_w, i32_w]
                 rfl
                refine pure_ (i := 19) (N := some 134) (v := undef) (a' := ?_) (tB 1048575 22) rfl rfl (any_of HT_.out (by kernel_rfl)) (fun _ _ _ h => h) (Or.inr ⟨by rfl, rfl⟩) ?_ ?_
                rotate_left
                ·
                 simp only [Act.put, s1_, s2_, s3_, i64_w, i32_w]
                 rfl
                refine pure_ (i := 20) (N := some 135) (v := undef) (a' := ?_) (tB 2097151 22) rfl rfl (any_of HT_.out (by kernel_rfl)) (fun _ _ _ h => h) (Or.inr ⟨by rfl, rfl⟩) ?_ ?_
                rotate_left
                ·
                 simp only [Act.put, s1_, s2_, s3_, i64_w, i32_w]
                 rfl
                refine pure_ (i := 21) (N := some 136) (v := ?_) (a' := ?_) (tB 4194303 22) rfl rfl (any_of HT_.out (by kernel_rfl)) (fun _ _ _ h => h) (Or.inl ⟨by rfl, ?_⟩) ?_ ?_
                rotate_left
                ·
                 intro w'
                 go_simp
                 with_reducible rfl
                rotate_left
                ·
                 simp only [Act.put, s1_, s2_, s3_, i64_w, i32_w]
                 rfl
                refine done_ (done_of HT_.out (by kernel_rfl)) ?_
                try go_wp2
                go_roundg kj68
                case measure => have := HJ6.out; have := HJ31.out; have := HK3.out; have := HJ68.out; omega
                case rel => exact ⟨(wrap64 (x13_3 + 1)), (by first | rfl | (simp; done) | (simp [*]; done)), H', ⟨by have := HJ6.out; have := HJ31.out; have := HK3.out; have := HJ68.out; omega⟩, ⟨by (with_reducible repeat (first | refine kN ?_ _ | refine kD ?_ | refine kA ?_ _)); exact BK279.out⟩, ⟨by (with_reducible repeat (first | refine kN ?_ _ | refine kD ?_ | refine kA ?_ _)); exact BK280.out⟩, ⟨by repeat (first | (with_reducible first | exact HB.out | apply bA | apply bN | apply b1 | refine bS ?_ GE279.out | refine bS ?_ GE280.out | refine bS ?_ GE297.out) | exact HB.out)⟩⟩
           ·
            rw [if_neg c66] at H
            exact absurd H (by simp)
          ·
           rw [if_neg c65] at H
           have c65b0 : decide (x13_3 < (l0_0.length : Int)) = false := decide_eq_false c65
           clear c65
           obtain rfl := Option.some.inj H
           have hnb107 := NB279_280.out
           have hnc107 := NB280_279.out
           obtain ⟨hcz108_0, hfz108_0⟩ := cells1 BK279.out
           go_wp2
           go_ret
           exact ⟨by first | rfl | (simp [errW_none, errW_some] <;> rfl) | (simp [*, errW_none, errW_some] <;> rfl), by repeat (first | (with_reducible first | exact HB.out | apply bA | apply bN | apply b1 | refine bS ?_ GE279.out | refine bS ?_ GE280.out) | exact HB.out)⟩
 ·
  replace c6 := Bool.eq_false_iff.mpr c6
  subst c6
  have H1 : (some false) = some r := by rw [if_neg (show ¬ (false = true) by decide)] at H; exact H
  clear H
  have H := H1
  clear H1
  obtain rfl := Option.some.inj H
  go_enter Tryd.func8, Tryd.ntmps8
  go_wp2_with (first | ((with_reducible refine gate_dst (N := 4) rfl ?_); refine box_event ?hg (N := 4) ?hd (cs := #[.slice A0_0 l0_0.length c0_0]) (t := 46) ?hr ?_; (case hd => rfl); (case hg => rfl); (case hr => first | (go_simp; done) | (go_simp; rfl)); intro gb279 hg w109 hbox hb; have n0_ := aM (bP (by repeat (first | (with_reducible first | exact HB.out | apply bA | apply bN | apply b1) | exact HB.out)) hb); have n1_ := aM (hbox); have n2_ := aM ((by rw [hg]; exact (bZ (by repeat (first | (with_reducible first | exact HB.out | apply bA | apply bN | apply b1) | exact HB.out))) : w.heap.size ≤ gb279)); have n3_ := aM ((by rw [hg]; exact (bZ (by repeat (first | (with_reducible first | exact HB.out | apply bA | apply bN | apply b1) | exact HB.out))) : w.heap.size ≤ gb279)); clear HB; have HB := n0_; have BK279 := n1_; have GW279 := n2_; have GE279 := n3_; clear n0_ n1_ n2_ n3_; clear hb hbox hg) | ((with_reducible refine gate_dst (N := 5) rfl ?_); refine box_event ?hg (N := 5) ?hd (cs := #[.slice A1_0 l1_0.length c1_0]) (t := 46) ?hr ?_; (case hd => rfl); (case hg => rfl); (case hr => first | (go_simp; done) | (go_simp; rfl)); intro gb280 hg w110 hbox hb; have n0_ := aM (kB (g := gb279) (o := .cells #[.slice A0_0 l0_0.length c0_0] 46 (0, 0)) (by (with_reducible repeat (first | refine kN ?_ _ | refine kD ?_ | refine kA ?_ _)); exact BK279.out) hb); have n1_ := aM (bP (by repeat (first | (with_reducible first | exact HB.out | apply bA | apply bN | apply b1 | refine bS ?_ GE279.out) | exact HB.out)) hb); have n2_ := aM (hbox); have n3_ := aM ((by rw [hg]; exact (bZ (by repeat (first | (with_reducible first | exact HB.out | apply bA | apply bN | apply b1 | refine bS ?_ GE279.out) | exact HB.out))) : w.heap.size ≤ gb280)); have n4_ := aM ((by rw [hg]; exact (bZ (by repeat (first | (with_reducible first | exact HB.out | apply bA | apply bN | apply b1 | refine bS ?_ GE279.out) | exact HB.out))) : w.heap.size ≤ gb280)); have n5_ := aM ((by rw [hg]; exact Nat.ne_of_lt (blk_lt (g := gb279) (o := .cells #[.slice A0_0 l0_0.length c0_0] 46 (0, 0)) (by (with_reducible repeat (first | refine kN ?_ _ | refine kD ?_ | refine kA ?_ _)); exact BK279.out)) : gb279 ≠ gb280)); have n6_ := aM ((by rw [hg]; exact Nat.ne_of_gt (blk_lt (g := gb279) (o := .cells #[.slice A0_0 l0_0.length c0_0] 46 (0, 0)) (by (with_reducible repeat (first | refine kN ?_ _ | refine kD ?_ | refine kA ?_ _)); exact BK279.out)) : gb280 ≠ gb279)); clear BK279; clear HB; have BK279 := n0_; have HB := n1_; have BK280 := n2_; have GW280 := n3_; have GE280 := n4_; have NB279_280 := n5_; have NB280_279 := n6_; clear n0_ n1_ n2_ n3_ n4_ n5_ n6_; clear hb hbox hg) | ((with_reducible refine gate_callee (f := 19) rfl ?_); refine goesL_ (some 19) rfl rfl Tryd.func19 (by kernel_rfl) rfl #[] rfl (by (try simp only [List.map_toArray, List.map_cons, List.map_nil]); first | done | rfl | (simp only [List.length_drop, List.length_take]; rfl)) ?_; (with_reducible refine (haulagelaw08_lives.calls k  false _ ?side1 A5.out).mono ?_); (case side1 => first | (with_reducible exact HG.out) | exact Glob.below HG.out (by repeat (first | (with_reducible first | exact HB.out | apply bA | apply bN | apply b1 | refine bS ?_ GE279.out | refine bS ?_ GE280.out) | exact HB.out))); rintro e w111 ⟨rfl, hb⟩; refine ⟨_, rfl, ?_⟩; have n0_ := aM (kB (g := gb279) (o := .cells #[.slice A0_0 l0_0.length c0_0] 46 (0, 0)) (by (with_reducible repeat (first | refine kN ?_ _ | refine kD ?_ | refine kA ?_ _)); exact BK279.out) hb); have n1_ := aM (kB (g := gb280) (o := .cells #[.slice A1_0 l1_0.length c1_0] 46 (0, 0)) (by (with_reducible repeat (first | refine kN ?_ _ | refine kD ?_ | refine kA ?_ _)); exact BK280.out) hb); have n2_ := aM (bP (by repeat (first | (with_reducible first | exact HB.out | apply bA | apply bN | apply b1 | refine bS ?_ GE279.out | refine bS ?_ GE280.out) | exact HB.out)) hb); clear BK279; clear BK280; clear HB; have BK279 := n0_; have BK280 := n1_; have HB := n2_; clear n0_ n1_ n2_; (try clear hb); (try clear hb2); (try clear hk); (try clear hi)))
  go_ret
  exact ⟨by first | rfl | (simp [errW_none, errW_some] <;> rfl) | (simp [*, errW_none, errW_some] <;> rfl), by repeat (first | (with_reducible first | exact HB.out | apply bA | apply bN | apply b1 | refine bS ?_ GE279.out | refine bS ?_ GE280.out) | exact HB.out)⟩
end Go.Proofs.YtdeophpjammbpaaDoor.HSchemaFinds

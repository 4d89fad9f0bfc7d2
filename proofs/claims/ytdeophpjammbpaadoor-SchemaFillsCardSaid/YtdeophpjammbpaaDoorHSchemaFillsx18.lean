/- For Go functions that SchemaFills reaches: Lean functions, and walks that show that each call comes to what its Lean function tells; no condition but those that each theorem states. (Made by a program of this session over the kit's print.py.) -/
import Derived.Test.YtdeophpjammbpaaDoorHSchemaFillsx0
import Derived.Test.YtdeophpjammbpaaDoorHSchemaFillsx6
import Derived.Test.YtdeophpjammbpaaDoorHSchemaFillsx8
import Derived.Test.YtdeophpjammbpaaDoorHSchemaFillsx13
import Derived.Test.YtdeophpjammbpaaDoorHSchemaFillsx14
import Derived.Test.YtdeophpjammbpaaDoorHSchemaFillsx16
import Derived.Test.YtdeophpjammbpaaDoorHSchemaFillsx17
namespace Go.Proofs.YtdeophpjammbpaaDoor.HSchemaFills
open Go.RowKit Go.Proofs.YtdeophpjammbpaaDoorW.PrintWords Go.Proofs.YtdeophpjammbpaaDoorW.PrintLast Go.Proofs.YtdeophpjammbpaaDoorW.PrintMore
attribute [local go_sem] max2_int min2_int max_two min_two max_three min_three max_four min_four   -- for this text's walks alone
set_option linter.unusedVariables false
set_option linter.unusedSimpArgs false
attribute [local go_sem] hp_s8 hp_s16 hp_s32 hp_s64 hp_m8 hp_m16 hp_m32 hp_m64
/-! ### haulageref08_with: function 66 -/
def haulageref08_with.l0 : Nat → List (S96) → List (S52) → Int → Int → ByteArray → Int → Int → List (S54) → Option ((List (S52)) × Int)
 | 0, _, _, _, _, _, _, _, _ => none
 | k + 1, x2, x8, x9, x293000, x293001, x293002, x293003, x293004 => if x9 < (x2.length : Int) then (if 0 ≤ x9 then ((haulageref08_Col.f k x293000 x293001 x293002 x293003 x293004 ((rd_T96 x2 x9).f0)).bind fun t300 => (if 0 ≤ t300 then (if t300 < (x8.length : Int) then (haulageref08_with.l0 k x2 (x8.set (t300 : Int).toNat (⟨(rd_T96 x2 x9).f1.f0, (rd_T96 x2 x9).f1.f1, (rd_T96 x2 x9).f1.f2⟩ : S52)) (wrap64 (x9 + 1)) x293000 x293001 x293002 x293003 x293004) else (none)) else (none))) else (none)) else ((haulageref08_Row.f k x293000 x293001 x293002 x293003 x293004 x8).bind fun t303 => (if t303 = 0 then (some (x8, 0)) else (some (([] : List (S52)), t303))))
def haulageref08_with.f (k : Nat) (a0_0 : Int) (a0_1 : ByteArray) (a0_2 : Int) (a0_3 : Int) (l0_4 : List (S54)) (l1 : List (S52)) (l2 : List (S96)) : Option ((List (S52)) × Int) := (some (([] : List (S52)) : List (S52))).bind fun y293 => (if y293.length + l1.length < 4398046511104 then (haulageref08_with.l0 k l2 (y293 ++ l1) 0 a0_0 a0_1 a0_2 a0_3 l0_4) else (none))
theorem haulageref08_with.mono_l : ∀ k, (∀ y0 y1 y2 y3 y4 y5 y6 y7, LeO (haulageref08_with.l0 k y0 y1 y2 y3 y4 y5 y6 y7) (haulageref08_with.l0 (k + 1) y0 y1 y2 y3 y4 y5 y6 y7))
 | 0 => fun _ _ _ _ _ _ _ _ r h => by simp [haulageref08_with.l0] at h
 | k + 1 => by
  have ih0 := haulageref08_with.mono_l k
  ·
   intro y0 y1 y2 y3 y4 y5 y6 y7
   unfold haulageref08_with.l0
   repeat' first
   | (with_reducible exact ih0 _ _ _ _ _ _ _ _)
   | (with_reducible exact haulageref08_Col.mono _ _ _ _ _ _ _)
   | (with_reducible exact haulageref08_Row.mono _ _ _ _ _ _ _)
   | (with_reducible exact LeO.refl _)
   | (with_reducible exact LeO.none _)
   | (with_reducible refine LeO.ite ?_ ?_)
   | (with_reducible refine LeO.bind ?_ (fun _ => ?_))
   | exact ih0 _ _ _ _ _ _ _ _
   | exact haulageref08_Col.mono _ _ _ _ _ _ _
   | exact haulageref08_Row.mono _ _ _ _ _ _ _
   | exact LeO.none _
   | refine LeO.ite ?_ ?_
   | refine LeO.bind ?_ (fun _ => ?_)
theorem haulageref08_with.mono : ∀ a0 a1 a2 a3 a4 a5 a6 k, LeO (haulageref08_with.f k a0 a1 a2 a3 a4 a5 a6) (haulageref08_with.f (k + 1) a0 a1 a2 a3 a4 a5 a6) := by
 intro a0 a1 a2 a3 a4 a5 a6 k
 have ih0 := haulageref08_with.mono_l k
 unfold haulageref08_with.f
 repeat' first
   | (with_reducible exact ih0 _ _ _ _ _ _ _ _)
   | (with_reducible exact haulageref08_Col.mono _ _ _ _ _ _ _)
   | (with_reducible exact haulageref08_Row.mono _ _ _ _ _ _ _)
   | (with_reducible exact LeO.refl _)
   | (with_reducible exact LeO.none _)
   | (with_reducible refine LeO.ite ?_ ?_)
   | (with_reducible refine LeO.bind ?_ (fun _ => ?_))
   | exact ih0 _ _ _ _ _ _ _ _
   | exact haulageref08_Col.mono _ _ _ _ _ _ _
   | exact haulageref08_Row.mono _ _ _ _ _ _ _
   | exact LeO.none _
   | refine LeO.ite ?_ ?_
   | refine LeO.bind ?_ (fun _ => ?_)
def haulageref08_with.T5 : Bool × List (List Nat × List Nat) := (true, [([], []), ([], []), ([], []), ([], []), ([2, 3], [2, 3]), ([4], [4]), ([5], [5]), ([1, 6], [1, 6]), ([], []), ([], []), ([8, 9], [8, 9]), ([10], [10]), ([11], [11]), ([0, 7, 0, 1, 2, 3, 4, 5, 6, 7, 8, 9, 10, 11, 12], [0, 7]), ([13, 12, 7, 0, 1, 2, 3, 4, 5, 6, 7, 8, 9, 10, 11, 12], [12, 13])])
def haulageref08_with.B5 : List Nat := [0, 0, 0, 0, 12, 28, 60, 126, 0, 0, 768, 1792, 3840, 8191, 16383]
theorem haulageref08_with.tab5 : rtab .any (opsOf Tryd.f66 5) = haulageref08_with.T5 := by kernel_rfl
theorem haulageref08_with.bits5 : waitsOk haulageref08_with.T5.2 haulageref08_with.B5 = true := by kernel_rfl
set_option maxHeartbeats 8000000 in
set_option maxRecDepth 100000 in
theorem haulageref08_with.calls (k : Nat) (a0_0 : Int) (a0_1 : ByteArray) (a0_2 : Int) (a0_3 : Int) (A0_4 : Option Addr) (c0_4 : Nat) (l0_4 : List (S54)) (A1 : Option Addr) (c1 : Nat) (l1 : List (S52)) (A2 : Option Addr) (c2 : Nat) (l2 : List (S96)) (r1 : List (S52)) (r2 : Int) (w : World) (hr0_4 : Kd.C k54 w A0_4 l0_4.length l0_4) (hc0_4 : l0_4.length ≤ c0_4) (hr1 : Kd.C k52 w A1 l1.length l1) (hc1 : l1.length ≤ c1) (hr2 : Kd.C k96 w A2 l2.length l2) (hc2 : l2.length ≤ c2) (h : haulageref08_with.f k a0_0 a0_1 a0_2 a0_3 l0_4 l1 l2 = some (r1, r2)) :
  Calls Tryd.prog 66 #[.agg #[.int .i64 a0_0, .string a0_1, .int .i64 a0_2, .int .i64 a0_3, .slice A0_4 l0_4.length c0_4], .slice A1 l1.length c1, .slice A2 l2.length c2] w fun e w' => ∃ v0_ : Value, e = .returned (.tuple #[v0_, .int .i64 r2]) ∧ Kd.R k52 52 w' w.heap.size (fun _ => True) v0_ r1 ∧ Below w.heap.size w w' := by
 have hu24 := Tryd.underlying24
 have hu52 := Tryd.underlying52
 have HR0_4 := aM hr0_4
 have HC0_4 := aM hc0_4
 clear hr0_4 hc0_4
 have HR1 := aM hr1
 have HC1 := aM hc1
 clear hr1 hc1
 have HR2 := aM hr2
 have HC2 := aM hc2
 clear hr2 hc2
 have HB := aM (Below.refl w.heap.size w)
 have H : ((some (([] : List (S52)) : List (S52))).bind fun y293 => (if y293.length + l1.length < 4398046511104 then (haulageref08_with.l0 k l2 (y293 ++ l1) 0 a0_0 a0_1 a0_2 a0_3 l0_4) else (none))) = some (r1, r2) := h
 clear h
 obtain ⟨y293, hy293⟩ : ∃ y_ : List (S52), y_ = (([] : List (S52))) := ⟨_, rfl⟩
 replace H : (if y293.length + l1.length < 4398046511104 then (haulageref08_with.l0 k l2 (y293 ++ l1) 0 a0_0 a0_1 a0_2 a0_3 l0_4) else (none)) = some (r1, r2) := by first | (rw [hy293]; with_reducible exact H) | (have H2_ := (Option.bind_some _ _).symm.trans H; rw [hy293]; with_reducible exact H2_) | (have H2_ := (Option.bind_some _ _).symm.trans H; with_reducible exact H2_) | with_reducible exact H | (rw [hy293]; exact H) | exact H
 have Ny293 := aM hy293
 clear hy293
 by_cases c4 : y293.length + l1.length < 4398046511104
 ·
  rw [if_pos c4] at H
  have LMc4 := aM c4
  clear c4
  obtain ⟨y296, hy296⟩ : ∃ y_ : List (S52), y_ = (y293 ++ l1) := ⟨_, rfl⟩
  replace H : (haulageref08_with.l0 k l2 y296 0 a0_0 a0_1 a0_2 a0_3 l0_4) = some (r1, r2) := by first | (rw [hy296]; with_reducible exact H) | (have H2_ := (Option.bind_some _ _).symm.trans H; rw [hy296]; with_reducible exact H2_) | (have H2_ := (Option.bind_some _ _).symm.trans H; with_reducible exact H2_) | with_reducible exact H | (rw [hy296]; exact H) | exact H
  have Ny296 := aM hy296
  clear hy296
  have H' := aM H
  clear H
  go_enter Tryd.func66, Tryd.ntmps66
  go_wp2_with (first | ((with_reducible refine gate_dst (N := 3) rfl ?_); refine yX (N := 3) (cs := #[.int .i64 a0_0, .string a0_1, .int .i64 a0_2, .int .i64 a0_3, .slice A0_4 l0_4.length c0_4]) (t := 24) ?_; intro gb292 hg w5 hbox hb; have BK292 := aM (hbox); have GW292 := yZ hg (yB HB); have GE292 := yZ hg (yB HB); replace HB := aM (bP (yB HB) hb); clear hb hbox hg) | ((with_reducible refine gate_dst (N := 11) rfl ?_); refine Kd.R_lit k52 _ 52 ?hg (N := 11) ?hd (xs := ([] : List (S52))) (inner := []) (ok := fun _ => True) (okp := fun _ => True) ?hr ?hp (fun _ hk => hk) trivial (Below.refl _ _) (Nat.le_refl _) (by simp) ?_; (case hd => rfl); (case hg => rfl); (case hr => first | (go_simp; done) | (go_simp; rfl)); (case hp => exact (Reps.none _ _)); intro v294 w6 ho7 hb hg_ hnew_; clear hg_ hnew_; (first | rw [← Ny293.out] at ho7 | (simp only [Int.reduceToNat] at ho7; rw [← Ny293.out] at ho7)); have HO295 := aM (Kd.R_lower ho7 (bZ (yG1 HB GE292.out))); replace BK292 := aM (kB (yK BK292) hb); replace HB := aM (bP (yG1 HB GE292.out) hb); clear hb ho7) | ((with_reducible refine gate_builtin (b := .append) (xs := #[.tmp 11, .tmp 12]) rfl ?_); at_builtin; refine Kd.R_append_rows k52 (w0 := w) w.heap.size rfl (.tmp 11) (.tmp 12) 25 52 (.agg #[(.int .i64 0), (.int .i64 0), (.string ⟨#[]⟩)]) 32 rfl Tryd.underlying25 info52 rfl (by decide) (by omega) v294 y293 l1 _ _ _ (fun _ => True) (fun _ => False) rfl rfl ?aO ?aR (fun _ _ h => h) (fun _ h => h.elim) ?aF ?aB ?aS ?aL ?_; (case aR => exact yW (Kd.C_below HR1.out HB.out)); (case aB => exact (yG1 HB GE292.out)); (case aF => exact (fun _ _ => trivial)); (case aO => exact (yR HO295.out)); (case aS => exact (bZ (yG1 HB GE292.out))); (case aL => have := LMc4.out; omega); intro v297 w8 ho hb hg hat; rw [← Ny296.out] at ho; have n0_ := aM (blk_grown (g := gb292) (o := .cells #[.int .i64 a0_0, .string a0_1, .int .i64 a0_2, .int .i64 a0_3, .slice A0_4 l0_4.length c0_4] 24 (0, 0)) (yK BK292) hg (Kd.R_ne HO295.out BK292.out (by decide))); have n1_ := aM (hb); have n2_ := aM (ho); clear BK292; clear HB; clear HO295; have BK292 := n0_; have HB := n1_; have HO298 := n2_; clear n0_ n1_ n2_; clear ho hb hg hat))
  go_loopg [9] k (fun kq v9 w' => ∃ (x8_1 : List (S52)) (x9_1 : Int), v9 = .int .i64 x9_1 ∧ Aside0 (haulageref08_with.l0 kq l2 x8_1 x9_1 a0_0 a0_1 a0_2 a0_3 l0_4 = some (r1, r2)) ∧ Aside0 (kq ≤ k) ∧ Aside0 (Kd.R k52 52 w' w.heap.size (fun _ => True) v297 x8_1) ∧ Aside0 (w'.heap[gb292]? = some (.cells #[.int .i64 a0_0, .string a0_1, .int .i64 a0_2, .int .i64 a0_3, (.slice A0_4 l0_4.length c0_4)] 24 (0, 0))) ∧ Aside0 (Below w.heap.size w w'))
  case atStart => exact ⟨(y296), (0), yS, H', ⟨Nat.le_refl _⟩, ⟨yR HO298.out⟩, ⟨yK BK292⟩, ⟨yG1 HB GE292.out⟩⟩
  case round =>
   clear H'
   try clear c1
   try clear c2
   try clear p2
   try clear c4
   try clear c6
   obtain ⟨x8_1, x9_1, rfl, HA, HK1, HO_8, BK292, HB⟩ := hrel
   cases gk with
   | zero => exact absurd HA.out (by simp [haulageref08_with.l0])
   | succ k1 =>
    have H := HA.out
    clear HA
    simp only [haulageref08_with.l0] at H
    by_cases c9 : x9_1 < (l2.length : Int)
    ·
     rw [if_pos c9] at H
     have c9b0 : decide (x9_1 < (l2.length : Int)) = true := decide_eq_true c9
     clear c9
     by_cases c10 : 0 ≤ x9_1
     ·
      rw [if_pos c10] at H
      have c10b0 : decide (0 ≤ x9_1) = true := decide_eq_true c10
      clear c10
      replace H := Option.bind_eq_some_iff.mp H
      obtain ⟨t300, A110, H⟩ := H
      replace H : (if 0 ≤ t300 then (if t300 < (x8_1.length : Int) then (haulageref08_with.l0 k1 l2 (x8_1.set (t300 : Int).toNat (⟨(rd_T96 l2 x9_1).f1.f0, (rd_T96 l2 x9_1).f1.f1, (rd_T96 l2 x9_1).f1.f2⟩ : S52)) (wrap64 (x9_1 + 1)) a0_0 a0_1 a0_2 a0_3 l0_4) else (none)) else (none)) = some (r1, r2) := H
      have A11 := aM A110
      clear A110
      by_cases c12 : 0 ≤ t300
      ·
       rw [if_pos c12] at H
       have c12b0 : decide (0 ≤ t300) = true := decide_eq_true c12
       clear c12
       by_cases c13 : t300 < (x8_1.length : Int)
       ·
        rw [if_pos c13] at H
        have c13b0 : decide (t300 < (x8_1.length : Int)) = true := decide_eq_true c13
        clear c13
        obtain ⟨y302, hy302⟩ : ∃ y_ : List (S52), y_ = (x8_1.set (t300 : Int).toNat (⟨(rd_T96 l2 x9_1).f1.f0, (rd_T96 l2 x9_1).f1.f1, (rd_T96 l2 x9_1).f1.f2⟩ : S52)) := ⟨_, rfl⟩
        replace H : (haulageref08_with.l0 k1 l2 y302 (wrap64 (x9_1 + 1)) a0_0 a0_1 a0_2 a0_3 l0_4) = some (r1, r2) := by first | (rw [hy302]; with_reducible exact H) | (have H2_ := (Option.bind_some _ _).symm.trans H; rw [hy302]; with_reducible exact H2_) | (have H2_ := (Option.bind_some _ _).symm.trans H; with_reducible exact H2_) | with_reducible exact H | (rw [hy302]; exact H) | exact H
        have Ny302 := aM hy302
        clear hy302
        have H' := aM H
        clear H
        try go_wp2
        have n0_ := aM (Kd.R_drew HO_8.out)
        have n1_ := aM (kD BK292.out)
        have n2_ := aM (b1 HB.out)
        clear HO_8
        clear BK292
        clear HB
        have HO_8 := n0_
        have BK292 := n1_
        have HB := n2_
        clear n0_ n1_ n2_
        have p299 : 0 ≤ (x9_1 : Int) := oD yA
        have q299 : x9_1 < (l2.length : Int) := oD yA
        obtain ⟨ad299, e299, hx299_0, hx299_1, hx299_2, hx299_3⟩ := at_T96 HR2.out x9_1 p299 q299
        have hw299_3 := hx299_3
        have hw299_2 := hx299_2
        have hw299_1 := hx299_1
        have hw299_0 := hx299_0
        cases e299
        replace hx299_0 := pw_cell_below HB.out hx299_0
        replace hx299_1 := pw_cell_below HB.out hx299_1
        replace hx299_2 := pw_cell_below HB.out hx299_2
        replace hx299_3 := pw_cell_below HB.out hx299_3
        replace p299 := eq_true p299
        replace q299 := eq_true q299
        have p301 : 0 ≤ (x9_1 : Int) := oD yA
        have q301 : x9_1 < (l2.length : Int) := oD yA
        obtain ⟨ad301, e301, hx301_0, hx301_1, hx301_2, hx301_3⟩ := at_T96 HR2.out x9_1 p301 q301
        have hw301_3 := hx301_3
        have hw301_2 := hx301_2
        have hw301_1 := hx301_1
        have hw301_0 := hx301_0
        obtain rfl : ad299 = ad301 := (by injection e301)
        replace hx301_0 := pw_cell_below HB.out hx301_0
        replace hx301_1 := pw_cell_below HB.out hx301_1
        replace hx301_2 := pw_cell_below HB.out hx301_2
        replace hx301_3 := pw_cell_below HB.out hx301_3
        replace p301 := eq_true p301
        replace q301 := eq_true q301
        refine start_ (n := 15) (S := fun w' => w'.cell? ⟨gb292, 0, none⟩ = some (.int .i64 a0_0) ∧ w'.cell? ⟨gb292, 1, none⟩ = some (.string a0_1) ∧ w'.cell? ⟨gb292, 2, none⟩ = some (.int .i64 a0_2) ∧ w'.cell? ⟨gb292, 3, none⟩ = some (.int .i64 a0_3) ∧ w'.cell? ⟨gb292, 4, none⟩ = some (.slice A0_4 l0_4.length c0_4) ∧ w'.cell? (ad299.add ((x9_1).toNat * 4)) = some (.string ((rd_T96 l2 x9_1).f0)) ∧ w'.cell? ⟨(ad299.add ((x9_1).toNat * 4)).block, (ad299.add ((x9_1).toNat * 4)).off + 1, none⟩ = some (.int .i64 ((rd_T96 l2 x9_1).f1.f0)) ∧ w'.cell? ⟨(ad299.add ((x9_1).toNat * 4)).block, (ad299.add ((x9_1).toNat * 4)).off + 2, none⟩ = some (.int .i64 ((rd_T96 l2 x9_1).f1.f1)) ∧ w'.cell? ⟨(ad299.add ((x9_1).toNat * 4)).block, (ad299.add ((x9_1).toNat * 4)).off + 3, none⟩ = some (.string ((rd_T96 l2 x9_1).f1.f2)) ∧ w'.cell? (ad299.add ((x9_1).toNat * 4)) = some (.string ((rd_T96 l2 x9_1).f0)) ∧ w'.cell? ⟨(ad299.add ((x9_1).toNat * 4)).block, (ad299.add ((x9_1).toNat * 4)).off + 1, none⟩ = some (.int .i64 ((rd_T96 l2 x9_1).f1.f0)) ∧ w'.cell? ⟨(ad299.add ((x9_1).toNat * 4)).block, (ad299.add ((x9_1).toNat * 4)).off + 2, none⟩ = some (.int .i64 ((rd_T96 l2 x9_1).f1.f1)) ∧ w'.cell? ⟨(ad299.add ((x9_1).toNat * 4)).block, (ad299.add ((x9_1).toNat * 4)).off + 3, none⟩ = some (.string ((rd_T96 l2 x9_1).f1.f2))) (ds := [14]) (tB 0 15) (by kernel_rfl) rfl rfl ⟨yV BK292 0, yV BK292 1, yV BK292 2, yV BK292 3, yV BK292 4, (pw_cell_below HB.out hw299_0), (pw_cell_below HB.out hw299_1), (pw_cell_below HB.out hw299_2), (pw_cell_below HB.out hw299_3), (pw_cell_below HB.out hw301_0), (pw_cell_below HB.out hw301_1), (pw_cell_below HB.out hw301_2), (pw_cell_below HB.out hw301_3)⟩ (fun hHeld => ?_); refine with_tabW haulageref08_with.tab5 haulageref08_with.bits5 (fun HT_ HW_ => ?_)
        generalize wr.drew = w15 at HO_8 BK292 HB hx299_0 hx299_1 hx299_2 hx299_3 hx301_0 hx301_1 hx301_2 hx301_3 hHeld ⊢
        refine yP HT_ 0 20 (tB 1 15) rfl rfl ?_
        refine yP HT_ 2 22 (tB 5 15) rfl rfl ?_
        refine yP HT_ 3 23 (tB 13 15) rfl rfl ?_
        refine yP HT_ 4 24 (tB 29 15) rfl rfl ?_
        refine yP HT_ 5 25 (tB 61 15) rfl rfl ?_
        refine yP HT_ 8 28 (tB 317 15) rfl rfl ?_
        refine yP HT_ 9 29 (tB 829 15) rfl rfl ?_
        refine yP HT_ 10 30 (tB 1853 15) rfl rfl ?_
        refine yP HT_ 11 31 (tB 3901 15) rfl rfl ?_
        refine yT HT_ HW_ 1 21 (tB 3903 15) rfl rfl hHeld ?_
        refine yT HT_ HW_ 6 26 (tB 3967 15) rfl rfl hHeld ?_
        refine yT HT_ HW_ 12 32 (tB 8063 15) rfl rfl hHeld ?_
        refine yI HT_ 7 (tB 8191 15) rfl rfl fun K hK => ?_
        refine yc Tryd.func47 #[.agg #[.int .i64 a0_0, .string a0_1, .int .i64 a0_2, .int .i64 a0_3, .slice A0_4 l0_4.length c0_4], .string ((rd_T96 l2 x9_1).f0)] rfl rfl ?_
        with_reducible refine (haulageref08_Col.calls k1 a0_0 a0_1 a0_2 a0_3 _ _ l0_4 ((rd_T96 l2 x9_1).f0) t300 _ ?side1 ?side2 A11.out).mono ?_
        (case side1 => exact yW (Kd.C_below HR0_4.out HB.out))
        (case side2 => exact HC0_4.out)
        rintro e w16 ⟨rfl, hb⟩
        refine ⟨_, rfl, ?_⟩
        have n0_ := aM (Kd.R_below (yR HO_8.out) hb)
        have n1_ := aM (kB (yK BK292) hb)
        have n2_ := aM (bP (yG1 HB GE292.out) hb)
        clear HO_8
        clear BK292
        clear HB
        have HO_8 := n0_
        have BK292 := n1_
        have HB := n2_
        clear n0_ n1_ n2_
        (try clear hb)
        (try clear hb2)
        (try clear hk)
        (try clear hi)
        have p14 : 0 ≤ (t300 : Int) := oD yA
        have q14 : (t300 : Int) < ((x8_1.length : Int) : Int) := oD yA
        obtain ⟨go14, co14, eo14, gb14, gl14, cl14, HG14⟩ := Kd.R_form HO_8.out (by omega)
        (first | cases eo14 | (injection eo14 with ea_ en_ ec_; (first | subst ea_ | (injection ea_ with ea_; subst ea_)); subst ec_; clear en_))
        have GB14 := aM gb14
        have GG14 := aM HG14
        clear gb14 gl14 HG14
        obtain ⟨ce14, hcl14, hM14, hcc14, hfr14⟩ := Kd.R_elem HO_8.out z52 (t300 : Int) p14 q14
        obtain rfl := k52_openM hM14
        have hx14_0 : World.cell? _ ⟨go14, (t300 : Int).toNat * 3, none⟩ = some (.int .i64 ((rd_T52 x8_1 t300).f0)) := hcc14 0 _ rfl
        have hx14_1 : World.cell? _ ⟨go14, (t300 : Int).toNat * 3 + 1, none⟩ = some (.int .i64 ((rd_T52 x8_1 t300).f1)) := hcc14 1 _ rfl
        have hx14_2 : World.cell? _ ⟨go14, (t300 : Int).toNat * 3 + 2, none⟩ = some (.string ((rd_T52 x8_1 t300).f2)) := hcc14 2 _ rfl
        have hf14_0 : World.frozen? _ ⟨go14, (t300 : Int).toNat * 3, none⟩ = false := hfr14 0
        have hf14_1 : World.frozen? _ ⟨go14, (t300 : Int).toNat * 3 + 1, none⟩ = false := hfr14 1
        have hf14_2 : World.frozen? _ ⟨go14, (t300 : Int).toNat * 3 + 2, none⟩ = false := hfr14 2
        clear hcl14 hcc14 hfr14 hM14
        replace p14 := eq_true p14
        replace q14 := eq_true q14
        obtain ⟨ce17, hcl17, hM17, hcc17, hfr17⟩ := Kd.R_elem HO_8.out z52 (t300 : Int) (oD yA) (by have h_ : (t300 : Int) < ((x8_1.length : Int) : Int) := oD yA; first | exact h_ | (have e_ := (Kd.R_reads' HO_8.out).1; omega) | simpa using h_)
        obtain rfl := k52_openM hM17
        have HP17 := (Kd.R_seg HO_8.out (t300 : Int) (oD yA) (by have h_ : (t300 : Int) < ((x8_1.length : Int) : Int) := oD yA; first | exact h_ | (have e_ := (Kd.R_reads' HO_8.out).1; omega) | simpa using h_) (seg := [.int .i64 ((rd_T96 l2 x9_1).f1.f0), .int .i64 ((rd_T96 l2 x9_1).f1.f1), .string ((rd_T96 l2 x9_1).f1.f2)]) (j := 0) hcl17 hcc17 (show 3 ≤ 3 from by decide) (x' := (⟨(rd_T96 l2 x9_1).f1.f0, (rd_T96 l2 x9_1).f1.f1, (rd_T96 l2 x9_1).f1.f2⟩ : S52)) (k52_mkM _ _ _ (⟨(rd_T96 l2 x9_1).f1.f0, (rd_T96 l2 x9_1).f1.f1, (rd_T96 l2 x9_1).f1.f2⟩ : S52) ) (fun _ hk => hk)).1
        rw [← Ny302.out] at HP17
        have HQ17 := aM HP17
        clear hcl17 hcc17 hfr17 hM17 HP17
        refine hK.out _ _ ⟨yV BK292 0, yV BK292 1, yV BK292 2, yV BK292 3, yV BK292 4, (pw_cell_below HB.out hw299_0), (pw_cell_below HB.out hw299_1), (pw_cell_below HB.out hw299_2), (pw_cell_below HB.out hw299_3), (pw_cell_below HB.out hw301_0), (pw_cell_below HB.out hw301_1), (pw_cell_below HB.out hw301_2), (pw_cell_below HB.out hw301_3)⟩ (fun hHeld => ?_)
        clear hK K
        refine norm_ (a' := ?_) ?_ ?_
        rotate_left
        ·
         show Act.put _ (some 27) _ = _
         simp only [Act.put, s1_, s2_, s3_, i64_w, i32_w]
         rfl
        refine yP HT_ 13 33 (tB 16383 15) rfl rfl ?_
        refine last_ (i := 14) (N := none) (tB 32767 15) rfl rfl (one_of HT_.out (by kernel_rfl)) (by decide) (fun K hK => ?_)
        refine skip_ (w1 := ?_) (by rfl) rfl ?_ ?_
        rotate_left
        ·
         go_simp
         rfl
        refine hK.out _ _ ?_
        clear hK K
        refine done_ (done_of HT_.out (by kernel_rfl)) ?_
        try go_wp2
        go_roundg k1
        case measure => have := HK1.out; omega
        case rel => exact ⟨(y302), (wrap64 (x9_1 + 1)), yS, H', ⟨by have := HK1.out; omega⟩, ⟨yR HQ17.out⟩, ⟨by (with_reducible repeat (first | refine kN ?_ _ | refine kD ?_ | refine kA ?_ _)); refine kF ?_ (by have h_ := Kd.R_ne HO_8.out BK292.out (by decide); intro e_; exact h_ (by rw [e_]; rfl)) _; (with_reducible repeat (first | refine kN ?_ _ | refine kD ?_ | refine kA ?_ _)); refine kF ?_ (by have h_ := Kd.R_ne HO_8.out BK292.out (by decide); intro e_; exact h_ (by rw [e_]; rfl)) _; (with_reducible repeat (first | refine kN ?_ _ | refine kD ?_ | refine kA ?_ _)); refine kF ?_ (by have h_ := Kd.R_ne HO_8.out BK292.out (by decide); intro e_; exact h_ (by rw [e_]; rfl)) _; (with_reducible repeat (first | refine kN ?_ _ | refine kD ?_ | refine kA ?_ _)); exact BK292.out⟩, ⟨yG4 HB GB14.out GB14.out GB14.out GE292.out⟩⟩
       ·
        rw [if_neg c13] at H
        exact absurd H (by simp)
      ·
       rw [if_neg c12] at H
       exact absurd H (by simp)
     ·
      rw [if_neg c10] at H
      exact absurd H (by simp)
    ·
     rw [if_neg c9] at H
     have c9b0 : decide (x9_1 < (l2.length : Int)) = false := decide_eq_false c9
     clear c9
     replace H := Option.bind_eq_some_iff.mp H
     obtain ⟨t303, A180, H⟩ := H
     replace H : (if t303 = 0 then (some (x8_1, 0)) else (some (([] : List (S52)), t303))) = some (r1, r2) := H
     have A18 := aM A180
     clear A180
     by_cases c19 : t303 = 0
     ·
      rw [if_pos c19] at H
      have c19b0 : (t303 == 0) = true := beq_iff_eq.mpr c19
      have c19b1 : (t303 != 0) = false := bne_eq_false_iff_eq.mpr c19
      clear c19
      simp only [Option.some.injEq, Prod.mk.injEq] at H
      obtain ⟨rfl, rfl⟩ := H
      obtain ⟨hcz20_0, hcz20_1, hcz20_2, hcz20_3, hcz20_4, hfz20_0, hfz20_1, hfz20_2, hfz20_3, hfz20_4⟩ := cells5 BK292.out
      obtain ⟨Ao21, co21, eo21⟩ := Kd.R_slice HO_8.out
      subst eo21
      go_wp2_with (first | ((with_reducible refine gate_callee (f := 17) rfl ?_); refine yC 36 Tryd.func17 #[.agg #[.int .i64 a0_0, .string a0_1, .int .i64 a0_2, .int .i64 a0_3, .slice A0_4 l0_4.length c0_4], .slice Ao21 x8_1.length co21] rfl ?_; (with_reducible refine (haulageref08_Row.calls k1 a0_0 a0_1 a0_2 a0_3 _ _ l0_4 _ _ x8_1 t303 _ ?side1 ?side2 ?side3 ?side4 A18.out).mono ?_); (case side1 => exact yW (Kd.C_below HR0_4.out HB.out)); (case side2 => exact HC0_4.out); (case side3 => exact yW (Kd.R_reads' HO_8.out).2.2); (case side4 => exact (Kd.R_reads' HO_8.out).2.1); rintro e w22 ⟨rfl, hb⟩; refine ⟨_, rfl, ?_⟩; replace HO_8 := aM (Kd.R_below (yR HO_8.out) hb); replace BK292 := aM (kB (yK BK292) hb); replace HB := aM (bP (yG1 HB GE292.out) hb); (try clear hb)))
      go_ret2
      exact ⟨_, yE, yR HO_8.out, yG1 HB GE292.out⟩
     ·
      rw [if_neg c19] at H
      have c19b0 : (t303 == 0) = false := beq_eq_false_iff_ne.mpr c19
      have c19b1 : (t303 != 0) = true := bne_iff_ne.mpr c19
      simp only [Option.some.injEq, Prod.mk.injEq] at H
      obtain ⟨rfl, rfl⟩ := H
      obtain ⟨hcz23_0, hcz23_1, hcz23_2, hcz23_3, hcz23_4, hfz23_0, hfz23_1, hfz23_2, hfz23_3, hfz23_4⟩ := cells5 BK292.out
      obtain ⟨Ao24, co24, eo24⟩ := Kd.R_slice HO_8.out
      subst eo24
      go_wp2_with (first | ((with_reducible refine gate_callee (f := 17) rfl ?_); refine yC 36 Tryd.func17 #[.agg #[.int .i64 a0_0, .string a0_1, .int .i64 a0_2, .int .i64 a0_3, .slice A0_4 l0_4.length c0_4], .slice Ao24 x8_1.length co24] rfl ?_; (with_reducible refine (haulageref08_Row.calls k1 a0_0 a0_1 a0_2 a0_3 _ _ l0_4 _ _ x8_1 t303 _ ?side1 ?side2 ?side3 ?side4 A18.out).mono ?_); (case side1 => exact yW (Kd.C_below HR0_4.out HB.out)); (case side2 => exact HC0_4.out); (case side3 => exact yW (Kd.R_reads' HO_8.out).2.2); (case side4 => exact (Kd.R_reads' HO_8.out).2.1); rintro e w25 ⟨rfl, hb⟩; refine ⟨_, rfl, ?_⟩; replace HO_8 := aM (Kd.R_below (yR HO_8.out) hb); replace BK292 := aM (kB (yK BK292) hb); replace HB := aM (bP (yG1 HB GE292.out) hb); (try clear hb)))
      go_ret2
      exact ⟨_, yE, by first | exact Kd.R_nil _ _ _ _ _ | exact Kd.N_nil _ _ _ _ _ | exact Kd.V_nil _ _ _ _ _ | exact Kd.Q_nil _ _ _ _ _ | exact Kd.S_nil _ _ _ _ _, yG1 HB GE292.out⟩
 ·
  rw [if_neg c4] at H
  exact absurd H (by simp)
/-! ### haulageref08_Fill: function 22 -/
def haulageref08_Fill.l0 : Nat → List (S96) → List (S52) → Int → Int → ByteArray → Int → Int → List (S54) → Option ((List (S52)) × Int)
 | 0, _, _, _, _, _, _, _, _ => none
 | k + 1, x1, x7, x8, x305000, x305001, x305002, x305003, x305004 => if x8 < (x305004.length : Int) then (if 0 ≤ x8 then (if x7.length < 4398046511104 then (haulageref08_Fill.l0 k x1 (x7 ++ [(⟨(rd_T54 x305004 x8).f4.f0, (rd_T54 x305004 x8).f4.f1, (rd_T54 x305004 x8).f4.f2⟩ : S52)]) (wrap64 (x8 + 1)) x305000 x305001 x305002 x305003 x305004) else (none)) else (none)) else ((haulageref08_with.f k x305000 x305001 x305002 x305003 x305004 x7 x1).bind fun bt311 => (some (bt311.1, bt311.2)))
def haulageref08_Fill.f (k : Nat) (a0_0 : Int) (a0_1 : ByteArray) (a0_2 : Int) (a0_3 : Int) (l0_4 : List (S54)) (l1 : List (S96)) : Option ((List (S52)) × Int) := (haulageref08_Table.f k a0_0 a0_1 a0_2 a0_3 l0_4).bind fun t305 => (if t305 = true then ((haulageref08_fields.f k a0_0 a0_1 a0_2 a0_3 l0_4 l1 false).bind fun t306 => (if t306 = 0 then (haulageref08_Fill.l0 k l1 ([] : List (S52)) 0 a0_0 a0_1 a0_2 a0_3 l0_4) else (some (([] : List (S52)), t306)))) else (some (([] : List (S52)), 2)))
theorem haulageref08_Fill.mono_l : ∀ k, (∀ y0 y1 y2 y3 y4 y5 y6 y7, LeO (haulageref08_Fill.l0 k y0 y1 y2 y3 y4 y5 y6 y7) (haulageref08_Fill.l0 (k + 1) y0 y1 y2 y3 y4 y5 y6 y7))
 | 0 => fun _ _ _ _ _ _ _ _ r h => by simp [haulageref08_Fill.l0] at h
 | k + 1 => by
  have ih0 := haulageref08_Fill.mono_l k
  ·
   intro y0 y1 y2 y3 y4 y5 y6 y7
   unfold haulageref08_Fill.l0
   repeat' first
   | (with_reducible exact ih0 _ _ _ _ _ _ _ _)
   | (with_reducible exact haulageref08_Table.mono _ _ _ _ _ _)
   | (with_reducible exact haulageref08_fields.mono _ _ _ _ _ _ _ _)
   | (with_reducible exact haulageref08_with.mono _ _ _ _ _ _ _ _)
   | (with_reducible exact LeO.refl _)
   | (with_reducible exact LeO.none _)
   | (with_reducible refine LeO.ite ?_ ?_)
   | (with_reducible refine LeO.bind ?_ (fun _ => ?_))
   | exact ih0 _ _ _ _ _ _ _ _
   | exact haulageref08_Table.mono _ _ _ _ _ _
   | exact haulageref08_fields.mono _ _ _ _ _ _ _ _
   | exact haulageref08_with.mono _ _ _ _ _ _ _ _
   | exact LeO.none _
   | refine LeO.ite ?_ ?_
   | refine LeO.bind ?_ (fun _ => ?_)
theorem haulageref08_Fill.mono : ∀ a0 a1 a2 a3 a4 a5 k, LeO (haulageref08_Fill.f k a0 a1 a2 a3 a4 a5) (haulageref08_Fill.f (k + 1) a0 a1 a2 a3 a4 a5) := by
 intro a0 a1 a2 a3 a4 a5 k
 have ih0 := haulageref08_Fill.mono_l k
 unfold haulageref08_Fill.f
 repeat' first
   | (with_reducible exact ih0 _ _ _ _ _ _ _ _)
   | (with_reducible exact haulageref08_Table.mono _ _ _ _ _ _)
   | (with_reducible exact haulageref08_fields.mono _ _ _ _ _ _ _ _)
   | (with_reducible exact haulageref08_with.mono _ _ _ _ _ _ _ _)
   | (with_reducible exact LeO.refl _)
   | (with_reducible exact LeO.none _)
   | (with_reducible refine LeO.ite ?_ ?_)
   | (with_reducible refine LeO.bind ?_ (fun _ => ?_))
   | exact ih0 _ _ _ _ _ _ _ _
   | exact haulageref08_Table.mono _ _ _ _ _ _
   | exact haulageref08_fields.mono _ _ _ _ _ _ _ _
   | exact haulageref08_with.mono _ _ _ _ _ _ _ _
   | exact LeO.none _
   | refine LeO.ite ?_ ?_
   | refine LeO.bind ?_ (fun _ => ?_)
set_option maxHeartbeats 8000000 in
set_option maxRecDepth 100000 in
theorem haulageref08_Fill.calls (k : Nat) (a0_0 : Int) (a0_1 : ByteArray) (a0_2 : Int) (a0_3 : Int) (A0_4 : Option Addr) (c0_4 : Nat) (l0_4 : List (S54)) (A1 : Option Addr) (c1 : Nat) (l1 : List (S96)) (r1 : List (S52)) (r2 : Int) (w : World) (hr0_4 : Kd.C k54 w A0_4 l0_4.length l0_4) (hc0_4 : l0_4.length ≤ c0_4) (hr1 : Kd.C k96 w A1 l1.length l1) (hc1 : l1.length ≤ c1) (h : haulageref08_Fill.f k a0_0 a0_1 a0_2 a0_3 l0_4 l1 = some (r1, r2)) :
  Calls Tryd.prog 22 #[.agg #[.int .i64 a0_0, .string a0_1, .int .i64 a0_2, .int .i64 a0_3, .slice A0_4 l0_4.length c0_4], .slice A1 l1.length c1] w fun e w' => ∃ v0_ : Value, e = .returned (.tuple #[v0_, .int .i64 r2]) ∧ Kd.R k52 52 w' w.heap.size (fun _ => True) v0_ r1 ∧ Below w.heap.size w w' := by
 have hu24 := Tryd.underlying24
 have hu52 := Tryd.underlying52
 have HR0_4 := aM hr0_4
 have HC0_4 := aM hc0_4
 clear hr0_4 hc0_4
 have HR1 := aM hr1
 have HC1 := aM hc1
 clear hr1 hc1
 have HB := aM (Below.refl w.heap.size w)
 have H : ((haulageref08_Table.f k a0_0 a0_1 a0_2 a0_3 l0_4).bind fun t305 => (if t305 = true then ((haulageref08_fields.f k a0_0 a0_1 a0_2 a0_3 l0_4 l1 false).bind fun t306 => (if t306 = 0 then (haulageref08_Fill.l0 k l1 ([] : List (S52)) 0 a0_0 a0_1 a0_2 a0_3 l0_4) else (some (([] : List (S52)), t306)))) else (some (([] : List (S52)), 2)))) = some (r1, r2) := h
 clear h
 replace H := Option.bind_eq_some_iff.mp H
 obtain ⟨t305, A30, H⟩ := H
 replace H : (if t305 = true then ((haulageref08_fields.f k a0_0 a0_1 a0_2 a0_3 l0_4 l1 false).bind fun t306 => (if t306 = 0 then (haulageref08_Fill.l0 k l1 ([] : List (S52)) 0 a0_0 a0_1 a0_2 a0_3 l0_4) else (some (([] : List (S52)), t306)))) else (some (([] : List (S52)), 2))) = some (r1, r2) := H
 have A3 := aM A30
 clear A30
 by_cases c4 : t305 = true
 ·
  subst c4
  have H1 : ((haulageref08_fields.f k a0_0 a0_1 a0_2 a0_3 l0_4 l1 false).bind fun t306 => (if t306 = 0 then (haulageref08_Fill.l0 k l1 ([] : List (S52)) 0 a0_0 a0_1 a0_2 a0_3 l0_4) else (some (([] : List (S52)), t306)))) = some (r1, r2) := by rw [if_pos rfl] at H; exact H
  clear H
  have H := H1
  clear H1
  replace H := Option.bind_eq_some_iff.mp H
  obtain ⟨t306, A50, H⟩ := H
  replace H : (if t306 = 0 then (haulageref08_Fill.l0 k l1 ([] : List (S52)) 0 a0_0 a0_1 a0_2 a0_3 l0_4) else (some (([] : List (S52)), t306))) = some (r1, r2) := H
  have A5 := aM A50
  clear A50
  by_cases c6 : t306 = 0
  ·
   rw [if_pos c6] at H
   have c6b0 : (t306 == 0) = true := beq_iff_eq.mpr c6
   have c6b1 : (t306 != 0) = false := bne_eq_false_iff_eq.mpr c6
   clear c6
   have H' := aM H
   clear H
   go_enter Tryd.func22, Tryd.ntmps22
   go_wp2_with (first | ((with_reducible refine gate_dst (N := 2) rfl ?_); refine yX (N := 2) (cs := #[.int .i64 a0_0, .string a0_1, .int .i64 a0_2, .int .i64 a0_3, .slice A0_4 l0_4.length c0_4]) (t := 24) ?_; intro gb304 hg w7 hbox hb; have BK304 := aM (hbox); have GW304 := yZ hg (yB HB); have GE304 := yZ hg (yB HB); replace HB := aM (bP (yB HB) hb); clear hb hbox hg; obtain ⟨hcz8_0, hcz8_1, hcz8_2, hcz8_3, hcz8_4, hfz8_0, hfz8_1, hfz8_2, hfz8_3, hfz8_4⟩ := cells5 BK304.out) | ((with_reducible refine gate_callee (f := 27) rfl ?_); refine yC 10 Tryd.func27 #[.agg #[.int .i64 a0_0, .string a0_1, .int .i64 a0_2, .int .i64 a0_3, .slice A0_4 l0_4.length c0_4]] rfl ?_; (with_reducible refine (haulageref08_Table.calls k a0_0 a0_1 a0_2 a0_3 _ _ l0_4 true _ ?side1 ?side2 A3.out).mono ?_); (case side1 => exact yW (Kd.C_below HR0_4.out HB.out)); (case side2 => exact HC0_4.out); rintro e w9 ⟨rfl, hb⟩; refine ⟨_, rfl, ?_⟩; replace BK304 := aM (kB (yK BK304) hb); replace HB := aM (bP (yG1 HB GE304.out) hb); (try clear hb); obtain ⟨hcz10_0, hcz10_1, hcz10_2, hcz10_3, hcz10_4, hfz10_0, hfz10_1, hfz10_2, hfz10_3, hfz10_4⟩ := cells5 BK304.out) | ((with_reducible refine gate_callee (f := 65) rfl ?_); refine yC 14 Tryd.func65 #[.agg #[.int .i64 a0_0, .string a0_1, .int .i64 a0_2, .int .i64 a0_3, .slice A0_4 l0_4.length c0_4], .slice A1 l1.length c1, .bool false] rfl ?_; (with_reducible refine (haulageref08_fields.calls k a0_0 a0_1 a0_2 a0_3 _ _ l0_4 _ _ l1 false t306 _ ?side1 ?side2 ?side3 ?side4 A5.out).mono ?_); (case side1 => exact yW (Kd.C_below HR0_4.out HB.out)); (case side2 => exact HC0_4.out); (case side3 => exact yW (Kd.C_below HR1.out HB.out)); (case side4 => exact HC1.out); rintro e w11 ⟨rfl, hb⟩; refine ⟨_, rfl, ?_⟩; replace BK304 := aM (kB (yK BK304) hb); replace HB := aM (bP (yG1 HB GE304.out) hb); (try clear hb)))
   go_loopg [7, 8] k (fun kq v7 v8 w' => ∃ (x7_1 : List (S52)) (x8_1 : Int), v8 = .int .i64 x8_1 ∧ Aside0 (haulageref08_Fill.l0 kq l1 x7_1 x8_1 a0_0 a0_1 a0_2 a0_3 l0_4 = some (r1, r2)) ∧ Aside0 (kq ≤ k) ∧ Aside0 (Kd.R k52 52 w' w.heap.size (fun _ => True) v7 x7_1) ∧ Aside0 (w'.heap[gb304]? = some (.cells #[.int .i64 a0_0, .string a0_1, .int .i64 a0_2, .int .i64 a0_3, (.slice A0_4 l0_4.length c0_4)] 24 (0, 0))) ∧ Aside0 (Below w.heap.size w w'))
   case atStart => exact ⟨(([] : List (S52))), (0), yS, H', ⟨Nat.le_refl _⟩, ⟨by first | exact Kd.R_nil _ _ _ _ _ | exact Kd.N_nil _ _ _ _ _ | exact Kd.V_nil _ _ _ _ _ | exact Kd.Q_nil _ _ _ _ _ | exact Kd.S_nil _ _ _ _ _⟩, ⟨yK BK304⟩, ⟨yG1 HB GE304.out⟩⟩
   case round =>
    clear H'
    try clear c1
    try clear c2
    try clear p2
    try clear c4
    try clear c6
    try clear c6b0
    try clear c6b1
    try clear hcz10_0 hcz10_1 hcz10_2 hcz10_3 hcz10_4
    try clear hcz8_0 hcz8_1 hcz8_2 hcz8_3 hcz8_4
    try clear hfz10_0 hfz10_1 hfz10_2 hfz10_3 hfz10_4
    try clear hfz8_0 hfz8_1 hfz8_2 hfz8_3 hfz8_4
    obtain ⟨x7_1, x8_1, rfl, HA, HK1, HO_7, BK304, HB⟩ := hrel
    cases gk with
    | zero => exact absurd HA.out (by simp [haulageref08_Fill.l0])
    | succ k1 =>
     have H := HA.out
     clear HA
     simp only [haulageref08_Fill.l0] at H
     by_cases c12 : x8_1 < (l0_4.length : Int)
     ·
      rw [if_pos c12] at H
      have c12b0 : decide (x8_1 < (l0_4.length : Int)) = true := decide_eq_true c12
      clear c12
      by_cases c13 : 0 ≤ x8_1
      ·
       rw [if_pos c13] at H
       have c13b0 : decide (0 ≤ x8_1) = true := decide_eq_true c13
       clear c13
       by_cases c14 : x7_1.length < 4398046511104
       ·
        rw [if_pos c14] at H
        have LMc14 := aM c14
        clear c14
        obtain ⟨y308, hy308⟩ : ∃ y_ : List (S52), y_ = (x7_1 ++ [(⟨(rd_T54 l0_4 x8_1).f4.f0, (rd_T54 l0_4 x8_1).f4.f1, (rd_T54 l0_4 x8_1).f4.f2⟩ : S52)]) := ⟨_, rfl⟩
        replace H : (haulageref08_Fill.l0 k1 l1 y308 (wrap64 (x8_1 + 1)) a0_0 a0_1 a0_2 a0_3 l0_4) = some (r1, r2) := by first | (rw [hy308]; with_reducible exact H) | (have H2_ := (Option.bind_some _ _).symm.trans H; rw [hy308]; with_reducible exact H2_) | (have H2_ := (Option.bind_some _ _).symm.trans H; with_reducible exact H2_) | with_reducible exact H | (rw [hy308]; exact H) | exact H
        have Ny308 := aM hy308
        clear hy308
        have H' := aM H
        clear H
        obtain ⟨hcz15_0, hcz15_1, hcz15_2, hcz15_3, hcz15_4, hfz15_0, hfz15_1, hfz15_2, hfz15_3, hfz15_4⟩ := cells5 BK304.out
        have p307 : 0 ≤ (x8_1 : Int) := oD yA
        have q307 : x8_1 < (l0_4.length : Int) := oD yA
        obtain ⟨ad307, e307, hx307_0, hx307_1, hx307_2, hx307_3, hx307_4, hx307_5, hx307_6, hx307_7⟩ := at_T54 HR0_4.out x8_1 p307 q307
        cases e307
        replace hx307_0 := pw_cell_below HB.out hx307_0
        replace hx307_1 := pw_cell_below HB.out hx307_1
        replace hx307_2 := pw_cell_below HB.out hx307_2
        replace hx307_3 := pw_cell_below HB.out hx307_3
        replace hx307_4 := pw_cell_below HB.out hx307_4
        replace hx307_5 := pw_cell_below HB.out hx307_5
        replace hx307_6 := pw_cell_below HB.out hx307_6
        replace hx307_7 := pw_cell_below HB.out hx307_7
        replace p307 := eq_true p307
        replace q307 := eq_true q307
        go_wp2_with (first | ((with_reducible refine gate_builtin (b := .append) (xs := #[.tmp 25, .tmp 32]) rfl ?_); at_builtin; refine Kd.R_append k52 (w0 := w) w.heap.size rfl (.tmp 25) (.tmp 32) 25 52 (.agg #[(.int .i64 0), (.int .i64 0), (.string ⟨#[]⟩)]) 32 rfl Tryd.underlying25 info52 rfl (by decide) (by omega) u7 x7_1 (⟨(rd_T54 l0_4 x8_1).f4.f0, (rd_T54 l0_4 x8_1).f4.f1, (rd_T54 l0_4 x8_1).f4.f2⟩ : S52) [.int .i64 ((rd_T54 l0_4 x8_1).f4.f0), .int .i64 ((rd_T54 l0_4 x8_1).f4.f1), .string ((rd_T54 l0_4 x8_1).f4.f2)] (fun _ => True) (fun _ => False) rfl rfl ?aP (fun _ hk => hk.elim) ?aF ?aO ?aB ?aS ?aL ?_; (case aP => exact k52_mkM _ _ _ (⟨(rd_T54 l0_4 x8_1).f4.f0, (rd_T54 l0_4 x8_1).f4.f1, (rd_T54 l0_4 x8_1).f4.f2⟩ : S52)); (case aB => exact (yG1 HB GE304.out)); (case aF => exact (fun _ _ => trivial)); (case aO => exact (yR HO_7.out)); (case aS => exact (bZ (yG1 HB GE304.out))); (case aL => have := LMc14.out; omega); intro v309 w16 ho hb hg hat; rw [← Ny308.out] at ho; have n0_ := aM (blk_grown (g := gb304) (o := .cells #[.int .i64 a0_0, .string a0_1, .int .i64 a0_2, .int .i64 a0_3, .slice (some ad307) l0_4.length c0_4] 24 (0, 0)) (yK BK304) hg (Kd.R_ne HO_7.out BK304.out (by decide))); have n1_ := aM (hb); have n2_ := aM (ho); clear BK304; clear HB; clear HO_7; have BK304 := n0_; have HB := n1_; have HO310 := n2_; clear n0_ n1_ n2_; clear ho hb hg hat))
        go_roundg k1
        case measure => have := HK1.out; omega
        case rel => exact ⟨(y308), (wrap64 (x8_1 + 1)), yS, H', ⟨by have := HK1.out; omega⟩, ⟨yR HO310.out⟩, ⟨yK BK304⟩, ⟨yG1 HB GE304.out⟩⟩
       ·
        rw [if_neg c14] at H
        exact absurd H (by simp)
      ·
       rw [if_neg c13] at H
       exact absurd H (by simp)
     ·
      rw [if_neg c12] at H
      have c12b0 : decide (x8_1 < (l0_4.length : Int)) = false := decide_eq_false c12
      clear c12
      replace H := Option.bind_eq_some_iff.mp H
      obtain ⟨⟨t311, t314⟩, A170, H⟩ := H
      replace H : (some (t311, t314)) = some (r1, r2) := H
      have A17 := aM A170
      clear A170
      simp only [Option.some.injEq, Prod.mk.injEq] at H
      obtain ⟨rfl, rfl⟩ := H
      obtain ⟨hcz18_0, hcz18_1, hcz18_2, hcz18_3, hcz18_4, hfz18_0, hfz18_1, hfz18_2, hfz18_3, hfz18_4⟩ := cells5 BK304.out
      obtain ⟨Ao19, co19, eo19⟩ := Kd.R_slice HO_7.out
      subst eo19
      go_wp2_with (first | ((with_reducible refine gate_callee (f := 66) rfl ?_); refine yC 37 Tryd.func66 #[.agg #[.int .i64 a0_0, .string a0_1, .int .i64 a0_2, .int .i64 a0_3, .slice A0_4 l0_4.length c0_4], .slice Ao19 x7_1.length co19, .slice A1 l1.length c1] rfl ?_; (with_reducible refine (haulageref08_with.calls k1 a0_0 a0_1 a0_2 a0_3 _ _ l0_4 _ _ x7_1 _ _ l1 t311 t314 _ ?side1 ?side2 ?side3 ?side4 ?side5 ?side6 A17.out).mono ?_); (case side1 => exact yW (Kd.C_below HR0_4.out HB.out)); (case side2 => exact HC0_4.out); (case side3 => exact yW (Kd.R_reads' HO_7.out).2.2); (case side4 => exact (Kd.R_reads' HO_7.out).2.1); (case side5 => exact yW (Kd.C_below HR1.out HB.out)); (case side6 => exact HC1.out); rintro e w20 ⟨v312, rfl, ho0, hb⟩; refine ⟨_, rfl, ?_⟩; have HO313 := aM (Kd.R_lower (Kd.R_new' ho0 (Kd.R_lt (yR HO_7.out))) (bZ (yG1 HB GE304.out))); replace HO_7 := aM (Kd.R_elder' (yR HO_7.out) (Kd.R_base ho0) hb); replace BK304 := aM (kB (yK BK304) hb); replace HB := aM (bP (yG1 HB GE304.out) hb); (try clear hb); (try clear ho0)))
      go_ret2
      exact ⟨_, yE, by (with_reducible repeat (first | apply Kd.R_alloc | apply Kd.R_drewN | apply Kd.R_drew)); exact Kd.R_mono HO313.out (fun _ hk => trivial), yG1 HB GE304.out⟩
  ·
   rw [if_neg c6] at H
   have c6b0 : (t306 == 0) = false := beq_eq_false_iff_ne.mpr c6
   have c6b1 : (t306 != 0) = true := bne_iff_ne.mpr c6
   simp only [Option.some.injEq, Prod.mk.injEq] at H
   obtain ⟨rfl, rfl⟩ := H
   go_enter Tryd.func22, Tryd.ntmps22
   go_wp2_with (first | ((with_reducible refine gate_dst (N := 2) rfl ?_); refine yX (N := 2) (cs := #[.int .i64 a0_0, .string a0_1, .int .i64 a0_2, .int .i64 a0_3, .slice A0_4 l0_4.length c0_4]) (t := 24) ?_; intro gb304 hg w21 hbox hb; have BK304 := aM (hbox); have GW304 := yZ hg (yB HB); have GE304 := yZ hg (yB HB); replace HB := aM (bP (yB HB) hb); clear hb hbox hg; obtain ⟨hcz22_0, hcz22_1, hcz22_2, hcz22_3, hcz22_4, hfz22_0, hfz22_1, hfz22_2, hfz22_3, hfz22_4⟩ := cells5 BK304.out) | ((with_reducible refine gate_callee (f := 27) rfl ?_); refine yC 10 Tryd.func27 #[.agg #[.int .i64 a0_0, .string a0_1, .int .i64 a0_2, .int .i64 a0_3, .slice A0_4 l0_4.length c0_4]] rfl ?_; (with_reducible refine (haulageref08_Table.calls k a0_0 a0_1 a0_2 a0_3 _ _ l0_4 true _ ?side1 ?side2 A3.out).mono ?_); (case side1 => exact yW (Kd.C_below HR0_4.out HB.out)); (case side2 => exact HC0_4.out); rintro e w23 ⟨rfl, hb⟩; refine ⟨_, rfl, ?_⟩; replace BK304 := aM (kB (yK BK304) hb); replace HB := aM (bP (yG1 HB GE304.out) hb); (try clear hb); obtain ⟨hcz24_0, hcz24_1, hcz24_2, hcz24_3, hcz24_4, hfz24_0, hfz24_1, hfz24_2, hfz24_3, hfz24_4⟩ := cells5 BK304.out) | ((with_reducible refine gate_callee (f := 65) rfl ?_); refine yC 14 Tryd.func65 #[.agg #[.int .i64 a0_0, .string a0_1, .int .i64 a0_2, .int .i64 a0_3, .slice A0_4 l0_4.length c0_4], .slice A1 l1.length c1, .bool false] rfl ?_; (with_reducible refine (haulageref08_fields.calls k a0_0 a0_1 a0_2 a0_3 _ _ l0_4 _ _ l1 false t306 _ ?side1 ?side2 ?side3 ?side4 A5.out).mono ?_); (case side1 => exact yW (Kd.C_below HR0_4.out HB.out)); (case side2 => exact HC0_4.out); (case side3 => exact yW (Kd.C_below HR1.out HB.out)); (case side4 => exact HC1.out); rintro e w25 ⟨rfl, hb⟩; refine ⟨_, rfl, ?_⟩; replace BK304 := aM (kB (yK BK304) hb); replace HB := aM (bP (yG1 HB GE304.out) hb); (try clear hb)))
   go_ret2
   exact ⟨_, yE, by first | exact Kd.R_nil _ _ _ _ _ | exact Kd.N_nil _ _ _ _ _ | exact Kd.V_nil _ _ _ _ _ | exact Kd.Q_nil _ _ _ _ _ | exact Kd.S_nil _ _ _ _ _, yG1 HB GE304.out⟩
 ·
  replace c4 := Bool.eq_false_iff.mpr c4
  subst c4
  have H1 : (some (([] : List (S52)), 2)) = some (r1, r2) := by rw [if_neg (show ¬ (false = true) by decide)] at H; exact H
  clear H
  have H := H1
  clear H1
  simp only [Option.some.injEq, Prod.mk.injEq] at H
  obtain ⟨rfl, rfl⟩ := H
  go_enter Tryd.func22, Tryd.ntmps22
  go_wp2_with (first | ((with_reducible refine gate_dst (N := 2) rfl ?_); refine yX (N := 2) (cs := #[.int .i64 a0_0, .string a0_1, .int .i64 a0_2, .int .i64 a0_3, .slice A0_4 l0_4.length c0_4]) (t := 24) ?_; intro gb304 hg w26 hbox hb; have BK304 := aM (hbox); have GW304 := yZ hg (yB HB); have GE304 := yZ hg (yB HB); replace HB := aM (bP (yB HB) hb); clear hb hbox hg; obtain ⟨hcz27_0, hcz27_1, hcz27_2, hcz27_3, hcz27_4, hfz27_0, hfz27_1, hfz27_2, hfz27_3, hfz27_4⟩ := cells5 BK304.out) | ((with_reducible refine gate_callee (f := 27) rfl ?_); refine yC 10 Tryd.func27 #[.agg #[.int .i64 a0_0, .string a0_1, .int .i64 a0_2, .int .i64 a0_3, .slice A0_4 l0_4.length c0_4]] rfl ?_; (with_reducible refine (haulageref08_Table.calls k a0_0 a0_1 a0_2 a0_3 _ _ l0_4 false _ ?side1 ?side2 A3.out).mono ?_); (case side1 => exact yW (Kd.C_below HR0_4.out HB.out)); (case side2 => exact HC0_4.out); rintro e w28 ⟨rfl, hb⟩; refine ⟨_, rfl, ?_⟩; replace BK304 := aM (kB (yK BK304) hb); replace HB := aM (bP (yG1 HB GE304.out) hb); (try clear hb)))
  go_ret2
  exact ⟨_, yE, by first | exact Kd.R_nil _ _ _ _ _ | exact Kd.N_nil _ _ _ _ _ | exact Kd.V_nil _ _ _ _ _ | exact Kd.Q_nil _ _ _ _ _ | exact Kd.S_nil _ _ _ _ _, yG1 HB GE304.out⟩
/-! ### schema_Row: function 24 -/
def schema_Row.f (k : Nat) (a0_0 : Int) (a0_1 : ByteArray) (a0_2 : Int) (a0_3 : Int) (l0_4 : List (S54)) (l1 : List (S52)) : Option (Int) := (schema_RightTable.f k a0_0 a0_1 a0_2 a0_3 l0_4).bind fun t316 => (if t316 = true then ((schema_fits.f k a0_0 a0_1 a0_2 a0_3 l0_4 l1).bind fun t317 => (some t317)) else (some 2))
theorem schema_Row.mono : ∀ a0 a1 a2 a3 a4 a5 k, LeO (schema_Row.f k a0 a1 a2 a3 a4 a5) (schema_Row.f (k + 1) a0 a1 a2 a3 a4 a5) := by
 intro a0 a1 a2 a3 a4 a5 k
 unfold schema_Row.f
 repeat' first
   | (with_reducible exact schema_RightTable.mono _ _ _ _ _ _)
   | (with_reducible exact schema_fits.mono _ _ _ _ _ _ _)
   | (with_reducible exact LeO.refl _)
   | (with_reducible exact LeO.none _)
   | (with_reducible refine LeO.ite ?_ ?_)
   | (with_reducible refine LeO.bind ?_ (fun _ => ?_))
   | exact schema_RightTable.mono _ _ _ _ _ _
   | exact schema_fits.mono _ _ _ _ _ _ _
   | exact LeO.none _
   | refine LeO.ite ?_ ?_
   | refine LeO.bind ?_ (fun _ => ?_)
set_option maxHeartbeats 8000000 in
set_option maxRecDepth 100000 in
theorem schema_Row.calls (k : Nat) (a0_0 : Int) (a0_1 : ByteArray) (a0_2 : Int) (a0_3 : Int) (A0_4 : Option Addr) (c0_4 : Nat) (l0_4 : List (S54)) (A1 : Option Addr) (c1 : Nat) (l1 : List (S52)) (r : Int) (w : World) (hr0_4 : Kd.C k54 w A0_4 l0_4.length l0_4) (hc0_4 : l0_4.length ≤ c0_4) (hr1 : Kd.C k52 w A1 l1.length l1) (hc1 : l1.length ≤ c1) (hG : Glob w) (h : schema_Row.f k a0_0 a0_1 a0_2 a0_3 l0_4 l1 = some r) :
  Calls Tryd.prog 24 #[.agg #[.int .i64 a0_0, .string a0_1, .int .i64 a0_2, .int .i64 a0_3, .slice A0_4 l0_4.length c0_4], .slice A1 l1.length c1] w fun e w' => e = .returned (.int .i64 r) ∧ Below w.heap.size w w' := by
 have hu24 := Tryd.underlying24
 have HR0_4 := aM hr0_4
 have HC0_4 := aM hc0_4
 clear hr0_4 hc0_4
 have HR1 := aM hr1
 have HC1 := aM hc1
 clear hr1 hc1
 have HG := aM hG
 clear hG
 have HB := aM (Below.refl w.heap.size w)
 have H : ((schema_RightTable.f k a0_0 a0_1 a0_2 a0_3 l0_4).bind fun t316 => (if t316 = true then ((schema_fits.f k a0_0 a0_1 a0_2 a0_3 l0_4 l1).bind fun t317 => (some t317)) else (some 2))) = some r := h
 clear h
 replace H := Option.bind_eq_some_iff.mp H
 obtain ⟨t316, A30, H⟩ := H
 replace H : (if t316 = true then ((schema_fits.f k a0_0 a0_1 a0_2 a0_3 l0_4 l1).bind fun t317 => (some t317)) else (some 2)) = some r := H
 have A3 := aM A30
 clear A30
 by_cases c4 : t316 = true
 ·
  subst c4
  have H1 : ((schema_fits.f k a0_0 a0_1 a0_2 a0_3 l0_4 l1).bind fun t317 => (some t317)) = some r := by rw [if_pos rfl] at H; exact H
  clear H
  have H := H1
  clear H1
  replace H := Option.bind_eq_some_iff.mp H
  obtain ⟨t317, A50, H⟩ := H
  replace H : (some t317) = some r := H
  have A5 := aM A50
  clear A50
  obtain rfl := Option.some.inj H
  go_enter Tryd.func24, Tryd.ntmps24
  go_wp2_with (first | ((with_reducible refine gate_dst (N := 2) rfl ?_); refine yX (N := 2) (cs := #[.int .i64 a0_0, .string a0_1, .int .i64 a0_2, .int .i64 a0_3, .slice A0_4 l0_4.length c0_4]) (t := 24) ?_; intro gb315 hg w6 hbox hb; have BK315 := aM (hbox); have GW315 := yZ hg (yB HB); have GE315 := yZ hg (yB HB); replace HB := aM (bP (yB HB) hb); clear hb hbox hg; obtain ⟨hcz7_0, hcz7_1, hcz7_2, hcz7_3, hcz7_4, hfz7_0, hfz7_1, hfz7_2, hfz7_3, hfz7_4⟩ := cells5 BK315.out) | ((with_reducible refine gate_callee (f := 26) rfl ?_); refine yC 6 Tryd.func26 #[.agg #[.int .i64 a0_0, .string a0_1, .int .i64 a0_2, .int .i64 a0_3, .slice A0_4 l0_4.length c0_4]] rfl ?_; (with_reducible refine (schema_RightTable.calls k a0_0 a0_1 a0_2 a0_3 _ _ l0_4 true _ ?side1 ?side2 ?side3 A3.out).mono ?_); (case side1 => exact yW (Kd.C_below HR0_4.out HB.out)); (case side2 => exact HC0_4.out); (case side3 => first | (with_reducible exact HG.out) | exact Glob.below HG.out (yG1 HB GE315.out)); rintro e w8 ⟨rfl, hb⟩; refine ⟨_, rfl, ?_⟩; replace BK315 := aM (kB (yK BK315) hb); replace HB := aM (bP (yG1 HB GE315.out) hb); (try clear hb); obtain ⟨hcz9_0, hcz9_1, hcz9_2, hcz9_3, hcz9_4, hfz9_0, hfz9_1, hfz9_2, hfz9_3, hfz9_4⟩ := cells5 BK315.out) | ((with_reducible refine gate_callee (f := 67) rfl ?_); refine yC 10 Tryd.func67 #[.agg #[.int .i64 a0_0, .string a0_1, .int .i64 a0_2, .int .i64 a0_3, .slice A0_4 l0_4.length c0_4], .slice A1 l1.length c1] rfl ?_; (with_reducible refine (schema_fits.calls k a0_0 a0_1 a0_2 a0_3 _ _ l0_4 _ _ l1 t317 _ ?side1 ?side2 ?side3 ?side4 ?side5 A5.out).mono ?_); (case side1 => exact yW (Kd.C_below HR0_4.out HB.out)); (case side2 => exact HC0_4.out); (case side3 => exact yW (Kd.C_below HR1.out HB.out)); (case side4 => exact HC1.out); (case side5 => first | (with_reducible exact HG.out) | exact Glob.below HG.out (yG1 HB GE315.out)); rintro e w10 ⟨rfl, hb⟩; refine ⟨_, rfl, ?_⟩; replace BK315 := aM (kB (yK BK315) hb); replace HB := aM (bP (yG1 HB GE315.out) hb); (try clear hb)))
  go_ret
  exact ⟨yE, yG1 HB GE315.out⟩
 ·
  replace c4 := Bool.eq_false_iff.mpr c4
  subst c4
  have H1 : (some 2) = some r := by rw [if_neg (show ¬ (false = true) by decide)] at H; exact H
  clear H
  have H := H1
  clear H1
  obtain rfl := Option.some.inj H
  go_enter Tryd.func24, Tryd.ntmps24
  go_wp2_with (first | ((with_reducible refine gate_dst (N := 2) rfl ?_); refine yX (N := 2) (cs := #[.int .i64 a0_0, .string a0_1, .int .i64 a0_2, .int .i64 a0_3, .slice A0_4 l0_4.length c0_4]) (t := 24) ?_; intro gb315 hg w11 hbox hb; have BK315 := aM (hbox); have GW315 := yZ hg (yB HB); have GE315 := yZ hg (yB HB); replace HB := aM (bP (yB HB) hb); clear hb hbox hg; obtain ⟨hcz12_0, hcz12_1, hcz12_2, hcz12_3, hcz12_4, hfz12_0, hfz12_1, hfz12_2, hfz12_3, hfz12_4⟩ := cells5 BK315.out) | ((with_reducible refine gate_callee (f := 26) rfl ?_); refine yC 6 Tryd.func26 #[.agg #[.int .i64 a0_0, .string a0_1, .int .i64 a0_2, .int .i64 a0_3, .slice A0_4 l0_4.length c0_4]] rfl ?_; (with_reducible refine (schema_RightTable.calls k a0_0 a0_1 a0_2 a0_3 _ _ l0_4 false _ ?side1 ?side2 ?side3 A3.out).mono ?_); (case side1 => exact yW (Kd.C_below HR0_4.out HB.out)); (case side2 => exact HC0_4.out); (case side3 => first | (with_reducible exact HG.out) | exact Glob.below HG.out (yG1 HB GE315.out)); rintro e w13 ⟨rfl, hb⟩; refine ⟨_, rfl, ?_⟩; replace BK315 := aM (kB (yK BK315) hb); replace HB := aM (bP (yG1 HB GE315.out) hb); (try clear hb)))
  go_ret
  exact ⟨yE, yG1 HB GE315.out⟩
end Go.Proofs.YtdeophpjammbpaaDoor.HSchemaFills

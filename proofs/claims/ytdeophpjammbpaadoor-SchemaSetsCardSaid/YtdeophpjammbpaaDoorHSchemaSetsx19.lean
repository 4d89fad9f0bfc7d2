/- For Go functions that SchemaSets reaches: Lean functions, and walks that show that each call comes to what its Lean function tells; no condition but those that each theorem states. (Made by a program of this session over the kit's print.py.) -/
import Derived.Test.YtdeophpjammbpaaDoorHSchemaSetsx0
import Derived.Test.YtdeophpjammbpaaDoorHSchemaSetsx15
import Derived.Test.YtdeophpjammbpaaDoorHSchemaSetsx17
import Derived.Test.YtdeophpjammbpaaDoorHSchemaSetsx18
namespace Go.Proofs.YtdeophpjammbpaaDoor.HSchemaSets
open Go.RowKit Go.Proofs.YtdeophpjammbpaaDoorW.PrintWords Go.Proofs.YtdeophpjammbpaaDoorW.PrintLast Go.Proofs.YtdeophpjammbpaaDoorW.PrintMore
attribute [local go_sem] max2_int min2_int max_two min_two max_three min_three max_four min_four   -- for this text's walks alone
set_option linter.unusedVariables false
set_option linter.unusedSimpArgs false
attribute [local go_sem] hp_s8 hp_s16 hp_s32 hp_s64 hp_m8 hp_m16 hp_m32 hp_m64
/-! ### haulageref08_with: function 66 -/
def haulageref08_with.l0 : Nat → List (S96) → List (S52) → Int → Int → ByteArray → Int → Int → List (S54) → Option ((List (S52)) × Int)
 | 0, _, _, _, _, _, _, _, _ => none
 | k + 1, x2, x8, x9, x323000, x323001, x323002, x323003, x323004 => if x9 < (x2.length : Int) then (if 0 ≤ x9 then ((haulageref08_Col.f k x323000 x323001 x323002 x323003 x323004 ((rd_T96 x2 x9).f0)).bind fun t330 => (if 0 ≤ t330 then (if t330 < (x8.length : Int) then (haulageref08_with.l0 k x2 (x8.set (t330 : Int).toNat (⟨(rd_T96 x2 x9).f1.f0, (rd_T96 x2 x9).f1.f1, (rd_T96 x2 x9).f1.f2⟩ : S52)) (wrap64 (x9 + 1)) x323000 x323001 x323002 x323003 x323004) else (none)) else (none))) else (none)) else ((haulageref08_Row.f k x323000 x323001 x323002 x323003 x323004 x8).bind fun t333 => (if t333 = 0 then (some (x8, 0)) else (some (([] : List (S52)), t333))))
def haulageref08_with.f (k : Nat) (a0_0 : Int) (a0_1 : ByteArray) (a0_2 : Int) (a0_3 : Int) (l0_4 : List (S54)) (l1 : List (S52)) (l2 : List (S96)) : Option ((List (S52)) × Int) := (some (([] : List (S52)) : List (S52))).bind fun y323 => (if y323.length + l1.length < 4398046511104 then (haulageref08_with.l0 k l2 (y323 ++ l1) 0 a0_0 a0_1 a0_2 a0_3 l0_4) else (none))
theorem haulageref08_with.mono_l : ∀ k, (∀ y0 y1 y2 y3 y4 y5 y6 y7, LeO (haulageref08_with.l0 k y0 y1 y2 y3 y4 y5 y6 y7) (haulageref08_with.l0 (k + 1) y0 y1 y2 y3 y4 y5 y6 y7))
 | 0 => fun _ _ _ _ _ _ _ _ r h => by simp [haulageref08_with.l0] at h
 | k + 1 => by
  have ih0 := haulageref08_with.mono_l k
  ·
   intro y0 y1 y2 y3 y4 y5 y6 y7
   unfold haulageref08_with.l0
   repeat' first
   | (with_reducible exact ih0 _ _ _ _ _ _ _ _)
   | (with_reducible exact haulageref08_Col.mono _ _ _ _ _ _ _)
   | (with_reducible exact haulageref08_Row.mono _ _ _ _ _ _ _)
   | (with_reducible exact LeO.refl _)
   | (with_reducible exact LeO.none _)
   | (with_reducible refine LeO.ite ?_ ?_)
   | (with_reducible refine LeO.bind ?_ (fun _ => ?_))
   | exact ih0 _ _ _ _ _ _ _ _
   | exact haulageref08_Col.mono _ _ _ _ _ _ _
   | exact haulageref08_Row.mono _ _ _ _ _ _ _
   | exact LeO.none _
   | refine LeO.ite ?_ ?_
   | refine LeO.bind ?_ (fun _ => ?_)
theorem haulageref08_with.mono : ∀ a0 a1 a2 a3 a4 a5 a6 k, LeO (haulageref08_with.f k a0 a1 a2 a3 a4 a5 a6) (haulageref08_with.f (k + 1) a0 a1 a2 a3 a4 a5 a6) := by
 intro a0 a1 a2 a3 a4 a5 a6 k
 have ih0 := haulageref08_with.mono_l k
 unfold haulageref08_with.f
 repeat' first
   | (with_reducible exact ih0 _ _ _ _ _ _ _ _)
   | (with_reducible exact haulageref08_Col.mono _ _ _ _ _ _ _)
   | (with_reducible exact haulageref08_Row.mono _ _ _ _ _ _ _)
   | (with_reducible exact LeO.refl _)
   | (with_reducible exact LeO.none _)
   | (with_reducible refine LeO.ite ?_ ?_)
   | (with_reducible refine LeO.bind ?_ (fun _ => ?_))
   | exact ih0 _ _ _ _ _ _ _ _
   | exact haulageref08_Col.mono _ _ _ _ _ _ _
   | exact haulageref08_Row.mono _ _ _ _ _ _ _
   | exact LeO.none _
   | refine LeO.ite ?_ ?_
   | refine LeO.bind ?_ (fun _ => ?_)
def haulageref08_with.T5 : Bool × List (List Nat × List Nat) := (true, [([], []), ([], []), ([], []), ([], []), ([2, 3], [2, 3]), ([4], [4]), ([5], [5]), ([1, 6], [1, 6]), ([], []), ([], []), ([8, 9], [8, 9]), ([10], [10]), ([11], [11]), ([0, 7, 0, 1, 2, 3, 4, 5, 6, 7, 8, 9, 10, 11, 12], [0, 7]), ([13, 12, 7, 0, 1, 2, 3, 4, 5, 6, 7, 8, 9, 10, 11, 12], [12, 13])])
def haulageref08_with.B5 : List Nat := [0, 0, 0, 0, 12, 28, 60, 126, 0, 0, 768, 1792, 3840, 8191, 16383]
theorem haulageref08_with.tab5 : rtab .any (opsOf Tryd.f66 5) = haulageref08_with.T5 := by kernel_rfl
theorem haulageref08_with.bits5 : waitsOk haulageref08_with.T5.2 haulageref08_with.B5 = true := by kernel_rfl
set_option maxHeartbeats 8000000 in
set_option maxRecDepth 100000 in
theorem haulageref08_with.calls (k : Nat) (a0_0 : Int) (a0_1 : ByteArray) (a0_2 : Int) (a0_3 : Int) (A0_4 : Option Addr) (c0_4 : Nat) (l0_4 : List (S54)) (A1 : Option Addr) (c1 : Nat) (l1 : List (S52)) (A2 : Option Addr) (c2 : Nat) (l2 : List (S96)) (r1 : List (S52)) (r2 : Int) (w : World) (hr0_4 : Kd.C k54 w A0_4 l0_4.length l0_4) (hc0_4 : l0_4.length ≤ c0_4) (hr1 : Kd.C k52 w A1 l1.length l1) (hc1 : l1.length ≤ c1) (hr2 : Kd.C k96 w A2 l2.length l2) (hc2 : l2.length ≤ c2) (h : haulageref08_with.f k a0_0 a0_1 a0_2 a0_3 l0_4 l1 l2 = some (r1, r2)) :
  Calls Tryd.prog 66 #[.agg #[.int .i64 a0_0, .string a0_1, .int .i64 a0_2, .int .i64 a0_3, .slice A0_4 l0_4.length c0_4], .slice A1 l1.length c1, .slice A2 l2.length c2] w fun e w' => ∃ v0_ : Value, e = .returned (.tuple #[v0_, .int .i64 r2]) ∧ Kd.R k52 52 w' w.heap.size (fun _ => True) v0_ r1 ∧ Below w.heap.size w w' := by
 have hu24 := Tryd.underlying24
 have hu52 := Tryd.underlying52
 have HR0_4 := aM hr0_4
 have HC0_4 := aM hc0_4
 clear hr0_4 hc0_4
 have HR1 := aM hr1
 have HC1 := aM hc1
 clear hr1 hc1
 have HR2 := aM hr2
 have HC2 := aM hc2
 clear hr2 hc2
 have HB := aM (Below.refl w.heap.size w)
 have H : ((some (([] : List (S52)) : List (S52))).bind fun y323 => (if y323.length + l1.length < 4398046511104 then (haulageref08_with.l0 k l2 (y323 ++ l1) 0 a0_0 a0_1 a0_2 a0_3 l0_4) else (none))) = some (r1, r2) := h
 clear h
 obtain ⟨y323, hy323⟩ : ∃ y_ : List (S52), y_ = (([] : List (S52))) := ⟨_, rfl⟩
 replace H : (if y323.length + l1.length < 4398046511104 then (haulageref08_with.l0 k l2 (y323 ++ l1) 0 a0_0 a0_1 a0_2 a0_3 l0_4) else (none)) = some (r1, r2) := by first | (rw [hy323]; with_reducible exact H) | (have H2_ := (Option.bind_some _ _).symm.trans H; rw [hy323]; with_reducible exact H2_) | (have H2_ := (Option.bind_some _ _).symm.trans H; with_reducible exact H2_) | with_reducible exact H | (rw [hy323]; exact H) | exact H
 have Ny323 := aM hy323
 clear hy323
 by_cases c4 : y323.length + l1.length < 4398046511104
 ·
  rw [if_pos c4] at H
  have LMc4 := aM c4
  clear c4
  obtain ⟨y326, hy326⟩ : ∃ y_ : List (S52), y_ = (y323 ++ l1) := ⟨_, rfl⟩
  replace H : (haulageref08_with.l0 k l2 y326 0 a0_0 a0_1 a0_2 a0_3 l0_4) = some (r1, r2) := by first | (rw [hy326]; with_reducible exact H) | (have H2_ := (Option.bind_some _ _).symm.trans H; rw [hy326]; with_reducible exact H2_) | (have H2_ := (Option.bind_some _ _).symm.trans H; with_reducible exact H2_) | with_reducible exact H | (rw [hy326]; exact H) | exact H
  have Ny326 := aM hy326
  clear hy326
  have H' := aM H
  clear H
  go_enter Tryd.func66, Tryd.ntmps66
  go_wp2_with (first | ((with_reducible refine gate_dst (N := 3) rfl ?_); refine yX (N := 3) (cs := #[.int .i64 a0_0, .string a0_1, .int .i64 a0_2, .int .i64 a0_3, .slice A0_4 l0_4.length c0_4]) (t := 24) ?_; intro gb322 hg w5 hbox hb; have BK322 := aM (hbox); have GW322 := yZ hg (yB HB); have GE322 := yZ hg (yB HB); replace HB := aM (bP (yB HB) hb); clear hb hbox hg) | ((with_reducible refine gate_dst (N := 11) rfl ?_); refine Kd.R_lit k52 _ 52 ?hg (N := 11) ?hd (xs := ([] : List (S52))) (inner := []) (ok := fun _ => True) (okp := fun _ => True) ?hr ?hp (fun _ hk => hk) trivial (Below.refl _ _) (Nat.le_refl _) (by simp) ?_; (case hd => rfl); (case hg => rfl); (case hr => first | (go_simp; done) | (go_simp; rfl)); (case hp => exact (Reps.none _ _)); intro v324 w6 ho7 hb hg_ hnew_; clear hg_ hnew_; (first | rw [← Ny323.out] at ho7 | (simp only [Int.reduceToNat] at ho7; rw [← Ny323.out] at ho7)); have HO325 := aM (Kd.R_lower ho7 (bZ (yG1 HB GE322.out))); replace BK322 := aM (kB (yK BK322) hb); replace HB := aM (bP (yG1 HB GE322.out) hb); clear hb ho7) | ((with_reducible refine gate_builtin (b := .append) (xs := #[.tmp 11, .tmp 12]) rfl ?_); at_builtin; refine Kd.R_append_rows k52 (w0 := w) w.heap.size rfl (.tmp 11) (.tmp 12) 25 52 (.agg #[(.int .i64 0), (.int .i64 0), (.string ⟨#[]⟩)]) 32 rfl Tryd.underlying25 info52 rfl (by decide) (by omega) v324 y323 l1 _ _ _ (fun _ => True) (fun _ => False) rfl rfl ?aO ?aR (fun _ _ h => h) (fun _ h => h.elim) ?aF ?aB ?aS ?aL ?_; (case aR => exact yW (Kd.C_below HR1.out HB.out)); (case aB => exact (yG1 HB GE322.out)); (case aF => exact (fun _ _ => trivial)); (case aO => exact (yR HO325.out)); (case aS => exact (bZ (yG1 HB GE322.out))); (case aL => have := LMc4.out; omega); intro v327 w8 ho hb hg hat; rw [← Ny326.out] at ho; have n0_ := aM (blk_grown (g := gb322) (o := .cells #[.int .i64 a0_0, .string a0_1, .int .i64 a0_2, .int .i64 a0_3, .slice A0_4 l0_4.length c0_4] 24 (0, 0)) (yK BK322) hg (Kd.R_ne HO325.out BK322.out (by decide))); have n1_ := aM (hb); have n2_ := aM (ho); clear BK322; clear HB; clear HO325; have BK322 := n0_; have HB := n1_; have HO328 := n2_; clear n0_ n1_ n2_; clear ho hb hg hat))
  go_loopg [9] k (fun kq v9 w' => ∃ (x8_1 : List (S52)) (x9_1 : Int), v9 = .int .i64 x9_1 ∧ Aside0 (haulageref08_with.l0 kq l2 x8_1 x9_1 a0_0 a0_1 a0_2 a0_3 l0_4 = some (r1, r2)) ∧ Aside0 (kq ≤ k) ∧ Aside0 (Kd.R k52 52 w' w.heap.size (fun _ => True) v327 x8_1) ∧ Aside0 (w'.heap[gb322]? = some (.cells #[.int .i64 a0_0, .string a0_1, .int .i64 a0_2, .int .i64 a0_3, (.slice A0_4 l0_4.length c0_4)] 24 (0, 0))) ∧ Aside0 (Below w.heap.size w w'))
  case atStart => exact ⟨(y326), (0), yS, H', ⟨Nat.le_refl _⟩, ⟨yR HO328.out⟩, ⟨yK BK322⟩, ⟨yG1 HB GE322.out⟩⟩
  case round =>
   clear H'
   try clear c1
   try clear c2
   try clear p2
   try clear c4
   try clear c6
   obtain ⟨x8_1, x9_1, rfl, HA, HK1, HO_8, BK322, HB⟩ := hrel
   cases gk with
   | zero => exact absurd HA.out (by simp [haulageref08_with.l0])
   | succ k1 =>
    have H := HA.out
    clear HA
    simp only [haulageref08_with.l0] at H
    by_cases c9 : x9_1 < (l2.length : Int)
    ·
     rw [if_pos c9] at H
     have c9b0 : decide (x9_1 < (l2.length : Int)) = true := decide_eq_true c9
     clear c9
     by_cases c10 : 0 ≤ x9_1
     ·
      rw [if_pos c10] at H
      have c10b0 : decide (0 ≤ x9_1) = true := decide_eq_true c10
      clear c10
      replace H := Option.bind_eq_some_iff.mp H
      obtain ⟨t330, A110, H⟩ := H
      replace H : (if 0 ≤ t330 then (if t330 < (x8_1.length : Int) then (haulageref08_with.l0 k1 l2 (x8_1.set (t330 : Int).toNat (⟨(rd_T96 l2 x9_1).f1.f0, (rd_T96 l2 x9_1).f1.f1, (rd_T96 l2 x9_1).f1.f2⟩ : S52)) (wrap64 (x9_1 + 1)) a0_0 a0_1 a0_2 a0_3 l0_4) else (none)) else (none)) = some (r1, r2) := H
      have A11 := aM A110
      clear A110
      by_cases c12 : 0 ≤ t330
      ·
       rw [if_pos c12] at H
       have c12b0 : decide (0 ≤ t330) = true := decide_eq_true c12
       clear c12
       by_cases c13 : t330 < (x8_1.length : Int)
       ·
        rw [if_pos c13] at H
        have c13b0 : decide (t330 < (x8_1.length : Int)) = true := decide_eq_true c13
        clear c13
        obtain ⟨y332, hy332⟩ : ∃ y_ : List (S52), y_ = (x8_1.set (t330 : Int).toNat (⟨(rd_T96 l2 x9_1).f1.f0, (rd_T96 l2 x9_1).f1.f1, (rd_T96 l2 x9_1).f1.f2⟩ : S52)) := ⟨_, rfl⟩
        replace H : (haulageref08_with.l0 k1 l2 y332 (wrap64 (x9_1 + 1)) a0_0 a0_1 a0_2 a0_3 l0_4) = some (r1, r2) := by first | (rw [hy332]; with_reducible exact H) | (have H2_ := (Option.bind_some _ _).symm.trans H; rw [hy332]; with_reducible exact H2_) | (have H2_ := (Option.bind_some _ _).symm.trans H; with_reducible exact H2_) | with_reducible exact H | (rw [hy332]; exact H) | exact H
        have Ny332 := aM hy332
        clear hy332
        have H' := aM H
        clear H
        try go_wp2
        have n0_ := aM (Kd.R_drew HO_8.out)
        have n1_ := aM (kD BK322.out)
        have n2_ := aM (b1 HB.out)
        clear HO_8
        clear BK322
        clear HB
        have HO_8 := n0_
        have BK322 := n1_
        have HB := n2_
        clear n0_ n1_ n2_
        have p329 : 0 ≤ (x9_1 : Int) := oD yA
        have q329 : x9_1 < (l2.length : Int) := oD yA
        obtain ⟨ad329, e329, hx329_0, hx329_1, hx329_2, hx329_3⟩ := at_T96 HR2.out x9_1 p329 q329
        have hw329_3 := hx329_3
        have hw329_2 := hx329_2
        have hw329_1 := hx329_1
        have hw329_0 := hx329_0
        cases e329
        replace hx329_0 := pw_cell_below HB.out hx329_0
        replace hx329_1 := pw_cell_below HB.out hx329_1
        replace hx329_2 := pw_cell_below HB.out hx329_2
        replace hx329_3 := pw_cell_below HB.out hx329_3
        replace p329 := eq_true p329
        replace q329 := eq_true q329
        have p331 : 0 ≤ (x9_1 : Int) := oD yA
        have q331 : x9_1 < (l2.length : Int) := oD yA
        obtain ⟨ad331, e331, hx331_0, hx331_1, hx331_2, hx331_3⟩ := at_T96 HR2.out x9_1 p331 q331
        have hw331_3 := hx331_3
        have hw331_2 := hx331_2
        have hw331_1 := hx331_1
        have hw331_0 := hx331_0
        obtain rfl : ad329 = ad331 := (by injection e331)
        replace hx331_0 := pw_cell_below HB.out hx331_0
        replace hx331_1 := pw_cell_below HB.out hx331_1
        replace hx331_2 := pw_cell_below HB.out hx331_2
        replace hx331_3 := pw_cell_below HB.out hx331_3
        replace p331 := eq_true p331
        replace q331 := eq_true q331
        refine start_ (n := 15) (S := fun w' => w'.cell? ⟨gb322, 0, none⟩ = some (.int .i64 a0_0) ∧ w'.cell? ⟨gb322, 1, none⟩ = some (.string a0_1) ∧ w'.cell? ⟨gb322, 2, none⟩ = some (.int .i64 a0_2) ∧ w'.cell? ⟨gb322, 3, none⟩ = some (.int .i64 a0_3) ∧ w'.cell? ⟨gb322, 4, none⟩ = some (.slice A0_4 l0_4.length c0_4) ∧ w'.cell? (ad329.add ((x9_1).toNat * 4)) = some (.string ((rd_T96 l2 x9_1).f0)) ∧ w'.cell? ⟨(ad329.add ((x9_1).toNat * 4)).block, (ad329.add ((x9_1).toNat * 4)).off + 1, none⟩ = some (.int .i64 ((rd_T96 l2 x9_1).f1.f0)) ∧ w'.cell? ⟨(ad329.add ((x9_1).toNat * 4)).block, (ad329.add ((x9_1).toNat * 4)).off + 2, none⟩ = some (.int .i64 ((rd_T96 l2 x9_1).f1.f1)) ∧ w'.cell? ⟨(ad329.add ((x9_1).toNat * 4)).block, (ad329.add ((x9_1).toNat * 4)).off + 3, none⟩ = some (.string ((rd_T96 l2 x9_1).f1.f2)) ∧ w'.cell? (ad329.add ((x9_1).toNat * 4)) = some (.string ((rd_T96 l2 x9_1).f0)) ∧ w'.cell? ⟨(ad329.add ((x9_1).toNat * 4)).block, (ad329.add ((x9_1).toNat * 4)).off + 1, none⟩ = some (.int .i64 ((rd_T96 l2 x9_1).f1.f0)) ∧ w'.cell? ⟨(ad329.add ((x9_1).toNat * 4)).block, (ad329.add ((x9_1).toNat * 4)).off + 2, none⟩ = some (.int .i64 ((rd_T96 l2 x9_1).f1.f1)) ∧ w'.cell? ⟨(ad329.add ((x9_1).toNat * 4)).block, (ad329.add ((x9_1).toNat * 4)).off + 3, none⟩ = some (.string ((rd_T96 l2 x9_1).f1.f2))) (ds := [14]) (tB 0 15) (by kernel_rfl) rfl rfl ⟨yV BK322 0, yV BK322 1, yV BK322 2, yV BK322 3, yV BK322 4, (pw_cell_below HB.out hw329_0), (pw_cell_below HB.out hw329_1), (pw_cell_below HB.out hw329_2), (pw_cell_below HB.out hw329_3), (pw_cell_below HB.out hw331_0), (pw_cell_below HB.out hw331_1), (pw_cell_below HB.out hw331_2), (pw_cell_below HB.out hw331_3)⟩ (fun hHeld => ?_); refine with_tabW haulageref08_with.tab5 haulageref08_with.bits5 (fun HT_ HW_ => ?_)
        generalize wr.drew = w15 at HO_8 BK322 HB hx329_0 hx329_1 hx329_2 hx329_3 hx331_0 hx331_1 hx331_2 hx331_3 hHeld ⊢
        refine yP HT_ 0 20 (tB 1 15) rfl rfl ?_
        refine yP HT_ 2 22 (tB 5 15) rfl rfl ?_
        refine yP HT_ 3 23 (tB 13 15) rfl rfl ?_
        refine yP HT_ 4 24 (tB 29 15) rfl rfl ?_
        refine yP HT_ 5 25 (tB 61 15) rfl rfl ?_
        refine yP HT_ 8 28 (tB 317 15) rfl rfl ?_
        refine yP HT_ 9 29 (tB 829 15) rfl rfl ?_
        refine yP HT_ 10 30 (tB 1853 15) rfl rfl ?_
        refine yP HT_ 11 31 (tB 3901 15) rfl rfl ?_
        refine yT HT_ HW_ 1 21 (tB 3903 15) rfl rfl hHeld ?_
        refine yT HT_ HW_ 6 26 (tB 3967 15) rfl rfl hHeld ?_
        refine yT HT_ HW_ 12 32 (tB 8063 15) rfl rfl hHeld ?_
        refine yI HT_ 7 (tB 8191 15) rfl rfl fun K hK => ?_
        refine yc Tryd.func47 #[.agg #[.int .i64 a0_0, .string a0_1, .int .i64 a0_2, .int .i64 a0_3, .slice A0_4 l0_4.length c0_4], .string ((rd_T96 l2 x9_1).f0)] rfl rfl ?_
        with_reducible refine (haulageref08_Col.calls k1 a0_0 a0_1 a0_2 a0_3 _ _ l0_4 ((rd_T96 l2 x9_1).f0) t330 _ ?side1 ?side2 A11.out).mono ?_
        (case side1 => exact yW (Kd.C_below HR0_4.out HB.out))
        (case side2 => exact HC0_4.out)
        rintro e w16 ⟨rfl, hb⟩
        refine ⟨_, rfl, ?_⟩
        have n0_ := aM (Kd.R_below (yR HO_8.out) hb)
        have n1_ := aM (kB (yK BK322) hb)
        have n2_ := aM (bP (yG1 HB GE322.out) hb)
        clear HO_8
        clear BK322
        clear HB
        have HO_8 := n0_
        have BK322 := n1_
        have HB := n2_
        clear n0_ n1_ n2_
        (try clear hb)
        (try clear hb2)
        (try clear hk)
        (try clear hi)
        have p14 : 0 ≤ (t330 : Int) := oD yA
        have q14 : (t330 : Int) < ((x8_1.length : Int) : Int) := oD yA
        obtain ⟨go14, co14, eo14, gb14, gl14, cl14, HG14⟩ := Kd.R_form HO_8.out (by omega)
        (first | cases eo14 | (injection eo14 with ea_ en_ ec_; (first | subst ea_ | (injection ea_ with ea_; subst ea_)); subst ec_; clear en_))
        have GB14 := aM gb14
        have GG14 := aM HG14
        clear gb14 gl14 HG14
        obtain ⟨ce14, hcl14, hM14, hcc14, hfr14⟩ := Kd.R_elem HO_8.out z52 (t330 : Int) p14 q14
        obtain rfl := k52_openM hM14
        have hx14_0 : World.cell? _ ⟨go14, (t330 : Int).toNat * 3, none⟩ = some (.int .i64 ((rd_T52 x8_1 t330).f0)) := hcc14 0 _ rfl
        have hx14_1 : World.cell? _ ⟨go14, (t330 : Int).toNat * 3 + 1, none⟩ = some (.int .i64 ((rd_T52 x8_1 t330).f1)) := hcc14 1 _ rfl
        have hx14_2 : World.cell? _ ⟨go14, (t330 : Int).toNat * 3 + 2, none⟩ = some (.string ((rd_T52 x8_1 t330).f2)) := hcc14 2 _ rfl
        have hf14_0 : World.frozen? _ ⟨go14, (t330 : Int).toNat * 3, none⟩ = false := hfr14 0
        have hf14_1 : World.frozen? _ ⟨go14, (t330 : Int).toNat * 3 + 1, none⟩ = false := hfr14 1
        have hf14_2 : World.frozen? _ ⟨go14, (t330 : Int).toNat * 3 + 2, none⟩ = false := hfr14 2
        clear hcl14 hcc14 hfr14 hM14
        replace p14 := eq_true p14
        replace q14 := eq_true q14
        obtain ⟨ce17, hcl17, hM17, hcc17, hfr17⟩ := Kd.R_elem HO_8.out z52 (t330 : Int) (oD yA) (by have h_ : (t330 : Int) < ((x8_1.length : Int) : Int) := oD yA; first | exact h_ | (have e_ := (Kd.R_reads' HO_8.out).1; omega) | simpa using h_)
        obtain rfl := k52_openM hM17
        have HP17 := (Kd.R_seg HO_8.out (t330 : Int) (oD yA) (by have h_ : (t330 : Int) < ((x8_1.length : Int) : Int) := oD yA; first | exact h_ | (have e_ := (Kd.R_reads' HO_8.out).1; omega) | simpa using h_) (seg := [.int .i64 ((rd_T96 l2 x9_1).f1.f0), .int .i64 ((rd_T96 l2 x9_1).f1.f1), .string ((rd_T96 l2 x9_1).f1.f2)]) (j := 0) hcl17 hcc17 (show 3 ≤ 3 from by decide) (x' := (⟨(rd_T96 l2 x9_1).f1.f0, (rd_T96 l2 x9_1).f1.f1, (rd_T96 l2 x9_1).f1.f2⟩ : S52)) (k52_mkM _ _ _ (⟨(rd_T96 l2 x9_1).f1.f0, (rd_T96 l2 x9_1).f1.f1, (rd_T96 l2 x9_1).f1.f2⟩ : S52) ) (fun _ hk => hk)).1
        rw [← Ny332.out] at HP17
        have HQ17 := aM HP17
        clear hcl17 hcc17 hfr17 hM17 HP17
        refine hK.out _ _ ⟨yV BK322 0, yV BK322 1, yV BK322 2, yV BK322 3, yV BK322 4, (pw_cell_below HB.out hw329_0), (pw_cell_below HB.out hw329_1), (pw_cell_below HB.out hw329_2), (pw_cell_below HB.out hw329_3), (pw_cell_below HB.out hw331_0), (pw_cell_below HB.out hw331_1), (pw_cell_below HB.out hw331_2), (pw_cell_below HB.out hw331_3)⟩ (fun hHeld => ?_)
        clear hK K
        refine norm_ (a' := ?_) ?_ ?_
        rotate_left
        ·
         show Act.put _ (some 27) _ = _
         simp only [Act.put, s1_, s2_, s3_, i64_w, i32_w]
         rfl
        refine yP HT_ 13 33 (tB 16383 15) rfl rfl ?_
        refine last_ (i := 14) (N := none) (tB 32767 15) rfl rfl (one_of HT_.out (by kernel_rfl)) (by decide) (fun K hK => ?_)
        refine skip_ (w1 := ?_) (by rfl) rfl ?_ ?_
        rotate_left
        ·
         go_simp
         rfl
        refine hK.out _ _ ?_
        clear hK K
        refine done_ (done_of HT_.out (by kernel_rfl)) ?_
        try go_wp2
        go_roundg k1
        case measure => have := HK1.out; omega
        case rel => exact ⟨(y332), (wrap64 (x9_1 + 1)), yS, H', ⟨by have := HK1.out; omega⟩, ⟨yR HQ17.out⟩, ⟨by (with_reducible repeat (first | refine kN ?_ _ | refine kD ?_ | refine kA ?_ _)); refine kF ?_ (by have h_ := Kd.R_ne HO_8.out BK322.out (by decide); intro e_; exact h_ (by rw [e_]; rfl)) _; (with_reducible repeat (first | refine kN ?_ _ | refine kD ?_ | refine kA ?_ _)); refine kF ?_ (by have h_ := Kd.R_ne HO_8.out BK322.out (by decide); intro e_; exact h_ (by rw [e_]; rfl)) _; (with_reducible repeat (first | refine kN ?_ _ | refine kD ?_ | refine kA ?_ _)); refine kF ?_ (by have h_ := Kd.R_ne HO_8.out BK322.out (by decide); intro e_; exact h_ (by rw [e_]; rfl)) _; (with_reducible repeat (first | refine kN ?_ _ | refine kD ?_ | refine kA ?_ _)); exact BK322.out⟩, ⟨yG4 HB GB14.out GB14.out GB14.out GE322.out⟩⟩
       ·
        rw [if_neg c13] at H
        exact absurd H (by simp)
      ·
       rw [if_neg c12] at H
       exact absurd H (by simp)
     ·
      rw [if_neg c10] at H
      exact absurd H (by simp)
    ·
     rw [if_neg c9] at H
     have c9b0 : decide (x9_1 < (l2.length : Int)) = false := decide_eq_false c9
     clear c9
     replace H := Option.bind_eq_some_iff.mp H
     obtain ⟨t333, A180, H⟩ := H
     replace H : (if t333 = 0 then (some (x8_1, 0)) else (some (([] : List (S52)), t333))) = some (r1, r2) := H
     have A18 := aM A180
     clear A180
     by_cases c19 : t333 = 0
     ·
      rw [if_pos c19] at H
      have c19b0 : (t333 == 0) = true := beq_iff_eq.mpr c19
      have c19b1 : (t333 != 0) = false := bne_eq_false_iff_eq.mpr c19
      clear c19
      simp only [Option.some.injEq, Prod.mk.injEq] at H
      obtain ⟨rfl, rfl⟩ := H
      obtain ⟨hcz20_0, hcz20_1, hcz20_2, hcz20_3, hcz20_4, hfz20_0, hfz20_1, hfz20_2, hfz20_3, hfz20_4⟩ := cells5 BK322.out
      obtain ⟨Ao21, co21, eo21⟩ := Kd.R_slice HO_8.out
      subst eo21
      go_wp2_with (first | ((with_reducible refine gate_callee (f := 17) rfl ?_); refine yC 36 Tryd.func17 #[.agg #[.int .i64 a0_0, .string a0_1, .int .i64 a0_2, .int .i64 a0_3, .slice A0_4 l0_4.length c0_4], .slice Ao21 x8_1.length co21] rfl ?_; (with_reducible refine (haulageref08_Row.calls k1 a0_0 a0_1 a0_2 a0_3 _ _ l0_4 _ _ x8_1 t333 _ ?side1 ?side2 ?side3 ?side4 A18.out).mono ?_); (case side1 => exact yW (Kd.C_below HR0_4.out HB.out)); (case side2 => exact HC0_4.out); (case side3 => exact yW (Kd.R_reads' HO_8.out).2.2); (case side4 => exact (Kd.R_reads' HO_8.out).2.1); rintro e w22 ⟨rfl, hb⟩; refine ⟨_, rfl, ?_⟩; replace HO_8 := aM (Kd.R_below (yR HO_8.out) hb); replace BK322 := aM (kB (yK BK322) hb); replace HB := aM (bP (yG1 HB GE322.out) hb); (try clear hb)))
      go_ret2
      exact ⟨_, yE, yR HO_8.out, yG1 HB GE322.out⟩
     ·
      rw [if_neg c19] at H
      have c19b0 : (t333 == 0) = false := beq_eq_false_iff_ne.mpr c19
      have c19b1 : (t333 != 0) = true := bne_iff_ne.mpr c19
      simp only [Option.some.injEq, Prod.mk.injEq] at H
      obtain ⟨rfl, rfl⟩ := H
      obtain ⟨hcz23_0, hcz23_1, hcz23_2, hcz23_3, hcz23_4, hfz23_0, hfz23_1, hfz23_2, hfz23_3, hfz23_4⟩ := cells5 BK322.out
      obtain ⟨Ao24, co24, eo24⟩ := Kd.R_slice HO_8.out
      subst eo24
      go_wp2_with (first | ((with_reducible refine gate_callee (f := 17) rfl ?_); refine yC 36 Tryd.func17 #[.agg #[.int .i64 a0_0, .string a0_1, .int .i64 a0_2, .int .i64 a0_3, .slice A0_4 l0_4.length c0_4], .slice Ao24 x8_1.length co24] rfl ?_; (with_reducible refine (haulageref08_Row.calls k1 a0_0 a0_1 a0_2 a0_3 _ _ l0_4 _ _ x8_1 t333 _ ?side1 ?side2 ?side3 ?side4 A18.out).mono ?_); (case side1 => exact yW (Kd.C_below HR0_4.out HB.out)); (case side2 => exact HC0_4.out); (case side3 => exact yW (Kd.R_reads' HO_8.out).2.2); (case side4 => exact (Kd.R_reads' HO_8.out).2.1); rintro e w25 ⟨rfl, hb⟩; refine ⟨_, rfl, ?_⟩; replace HO_8 := aM (Kd.R_below (yR HO_8.out) hb); replace BK322 := aM (kB (yK BK322) hb); replace HB := aM (bP (yG1 HB GE322.out) hb); (try clear hb)))
      go_ret2
      exact ⟨_, yE, by first | exact Kd.R_nil _ _ _ _ _ | exact Kd.N_nil _ _ _ _ _ | exact Kd.V_nil _ _ _ _ _ | exact Kd.Q_nil _ _ _ _ _ | exact Kd.S_nil _ _ _ _ _, yG1 HB GE322.out⟩
 ·
  rw [if_neg c4] at H
  exact absurd H (by simp)
/-! ### haulageref08_Set: function 36 -/
def haulageref08_Set.f (k : Nat) (a0_0 : Int) (a0_1 : ByteArray) (a0_2 : Int) (a0_3 : Int) (l0_4 : List (S54)) (l1 : List (S52)) (l2 : List (S96)) : Option ((List (S52)) × Int) := (haulageref08_Row.f k a0_0 a0_1 a0_2 a0_3 l0_4 l1).bind fun t335 => (if t335 = 0 then ((haulageref08_fields.f k a0_0 a0_1 a0_2 a0_3 l0_4 l2 true).bind fun t336 => (if t336 = 0 then ((haulageref08_with.f k a0_0 a0_1 a0_2 a0_3 l0_4 l1 l2).bind fun bt337 => (some (bt337.1, bt337.2))) else (some (([] : List (S52)), t336)))) else (some (([] : List (S52)), t335)))
theorem haulageref08_Set.mono : ∀ a0 a1 a2 a3 a4 a5 a6 k, LeO (haulageref08_Set.f k a0 a1 a2 a3 a4 a5 a6) (haulageref08_Set.f (k + 1) a0 a1 a2 a3 a4 a5 a6) := by
 intro a0 a1 a2 a3 a4 a5 a6 k
 unfold haulageref08_Set.f
 repeat' first
   | (with_reducible exact haulageref08_Row.mono _ _ _ _ _ _ _)
   | (with_reducible exact haulageref08_fields.mono _ _ _ _ _ _ _ _)
   | (with_reducible exact haulageref08_with.mono _ _ _ _ _ _ _ _)
   | (with_reducible exact LeO.refl _)
   | (with_reducible exact LeO.none _)
   | (with_reducible refine LeO.ite ?_ ?_)
   | (with_reducible refine LeO.bind ?_ (fun _ => ?_))
   | exact haulageref08_Row.mono _ _ _ _ _ _ _
   | exact haulageref08_fields.mono _ _ _ _ _ _ _ _
   | exact haulageref08_with.mono _ _ _ _ _ _ _ _
   | exact LeO.none _
   | refine LeO.ite ?_ ?_
   | refine LeO.bind ?_ (fun _ => ?_)
set_option maxHeartbeats 8000000 in
set_option maxRecDepth 100000 in
theorem haulageref08_Set.calls (k : Nat) (a0_0 : Int) (a0_1 : ByteArray) (a0_2 : Int) (a0_3 : Int) (A0_4 : Option Addr) (c0_4 : Nat) (l0_4 : List (S54)) (A1 : Option Addr) (c1 : Nat) (l1 : List (S52)) (A2 : Option Addr) (c2 : Nat) (l2 : List (S96)) (r1 : List (S52)) (r2 : Int) (w : World) (hr0_4 : Kd.C k54 w A0_4 l0_4.length l0_4) (hc0_4 : l0_4.length ≤ c0_4) (hr1 : Kd.C k52 w A1 l1.length l1) (hc1 : l1.length ≤ c1) (hr2 : Kd.C k96 w A2 l2.length l2) (hc2 : l2.length ≤ c2) (h : haulageref08_Set.f k a0_0 a0_1 a0_2 a0_3 l0_4 l1 l2 = some (r1, r2)) :
  Calls Tryd.prog 36 #[.agg #[.int .i64 a0_0, .string a0_1, .int .i64 a0_2, .int .i64 a0_3, .slice A0_4 l0_4.length c0_4], .slice A1 l1.length c1, .slice A2 l2.length c2] w fun e w' => ∃ v0_ : Value, e = .returned (.tuple #[v0_, .int .i64 r2]) ∧ Kd.R k52 52 w' w.heap.size (fun _ => True) v0_ r1 ∧ Below w.heap.size w w' := by
 have hu24 := Tryd.underlying24
 have HR0_4 := aM hr0_4
 have HC0_4 := aM hc0_4
 clear hr0_4 hc0_4
 have HR1 := aM hr1
 have HC1 := aM hc1
 clear hr1 hc1
 have HR2 := aM hr2
 have HC2 := aM hc2
 clear hr2 hc2
 have HB := aM (Below.refl w.heap.size w)
 have H : ((haulageref08_Row.f k a0_0 a0_1 a0_2 a0_3 l0_4 l1).bind fun t335 => (if t335 = 0 then ((haulageref08_fields.f k a0_0 a0_1 a0_2 a0_3 l0_4 l2 true).bind fun t336 => (if t336 = 0 then ((haulageref08_with.f k a0_0 a0_1 a0_2 a0_3 l0_4 l1 l2).bind fun bt337 => (some (bt337.1, bt337.2))) else (some (([] : List (S52)), t336)))) else (some (([] : List (S52)), t335)))) = some (r1, r2) := h
 clear h
 replace H := Option.bind_eq_some_iff.mp H
 obtain ⟨t335, A40, H⟩ := H
 replace H : (if t335 = 0 then ((haulageref08_fields.f k a0_0 a0_1 a0_2 a0_3 l0_4 l2 true).bind fun t336 => (if t336 = 0 then ((haulageref08_with.f k a0_0 a0_1 a0_2 a0_3 l0_4 l1 l2).bind fun bt337 => (some (bt337.1, bt337.2))) else (some (([] : List (S52)), t336)))) else (some (([] : List (S52)), t335))) = some (r1, r2) := H
 have A4 := aM A40
 clear A40
 by_cases c5 : t335 = 0
 ·
  rw [if_pos c5] at H
  have c5b0 : (t335 == 0) = true := beq_iff_eq.mpr c5
  have c5b1 : (t335 != 0) = false := bne_eq_false_iff_eq.mpr c5
  clear c5
  replace H := Option.bind_eq_some_iff.mp H
  obtain ⟨t336, A60, H⟩ := H
  replace H : (if t336 = 0 then ((haulageref08_with.f k a0_0 a0_1 a0_2 a0_3 l0_4 l1 l2).bind fun bt337 => (some (bt337.1, bt337.2))) else (some (([] : List (S52)), t336))) = some (r1, r2) := H
  have A6 := aM A60
  clear A60
  by_cases c7 : t336 = 0
  ·
   rw [if_pos c7] at H
   have c7b0 : (t336 == 0) = true := beq_iff_eq.mpr c7
   have c7b1 : (t336 != 0) = false := bne_eq_false_iff_eq.mpr c7
   clear c7
   replace H := Option.bind_eq_some_iff.mp H
   obtain ⟨⟨t337, t340⟩, A80, H⟩ := H
   replace H : (some (t337, t340)) = some (r1, r2) := H
   have A8 := aM A80
   clear A80
   simp only [Option.some.injEq, Prod.mk.injEq] at H
   obtain ⟨rfl, rfl⟩ := H
   go_enter Tryd.func36, Tryd.ntmps36
   go_wp2_with (first | ((with_reducible refine gate_dst (N := 3) rfl ?_); refine yX (N := 3) (cs := #[.int .i64 a0_0, .string a0_1, .int .i64 a0_2, .int .i64 a0_3, .slice A0_4 l0_4.length c0_4]) (t := 24) ?_; intro gb334 hg w9 hbox hb; have BK334 := aM (hbox); have GW334 := yZ hg (yB HB); have GE334 := yZ hg (yB HB); replace HB := aM (bP (yB HB) hb); clear hb hbox hg; obtain ⟨hcz10_0, hcz10_1, hcz10_2, hcz10_3, hcz10_4, hfz10_0, hfz10_1, hfz10_2, hfz10_3, hfz10_4⟩ := cells5 BK334.out) | ((with_reducible refine gate_callee (f := 17) rfl ?_); refine yC 12 Tryd.func17 #[.agg #[.int .i64 a0_0, .string a0_1, .int .i64 a0_2, .int .i64 a0_3, .slice A0_4 l0_4.length c0_4], .slice A1 l1.length c1] rfl ?_; (with_reducible refine (haulageref08_Row.calls k a0_0 a0_1 a0_2 a0_3 _ _ l0_4 _ _ l1 t335 _ ?side1 ?side2 ?side3 ?side4 A4.out).mono ?_); (case side1 => exact yW (Kd.C_below HR0_4.out HB.out)); (case side2 => exact HC0_4.out); (case side3 => exact yW (Kd.C_below HR1.out HB.out)); (case side4 => exact HC1.out); rintro e w11 ⟨rfl, hb⟩; refine ⟨_, rfl, ?_⟩; replace BK334 := aM (kB (yK BK334) hb); replace HB := aM (bP (yG1 HB GE334.out) hb); (try clear hb); obtain ⟨hcz12_0, hcz12_1, hcz12_2, hcz12_3, hcz12_4, hfz12_0, hfz12_1, hfz12_2, hfz12_3, hfz12_4⟩ := cells5 BK334.out) | ((with_reducible refine gate_callee (f := 65) rfl ?_); refine yC 18 Tryd.func65 #[.agg #[.int .i64 a0_0, .string a0_1, .int .i64 a0_2, .int .i64 a0_3, .slice A0_4 l0_4.length c0_4], .slice A2 l2.length c2, .bool true] rfl ?_; (with_reducible refine (haulageref08_fields.calls k a0_0 a0_1 a0_2 a0_3 _ _ l0_4 _ _ l2 true t336 _ ?side1 ?side2 ?side3 ?side4 A6.out).mono ?_); (case side1 => exact yW (Kd.C_below HR0_4.out HB.out)); (case side2 => exact HC0_4.out); (case side3 => exact yW (Kd.C_below HR2.out HB.out)); (case side4 => exact HC2.out); rintro e w13 ⟨rfl, hb⟩; refine ⟨_, rfl, ?_⟩; replace BK334 := aM (kB (yK BK334) hb); replace HB := aM (bP (yG1 HB GE334.out) hb); (try clear hb); obtain ⟨hcz14_0, hcz14_1, hcz14_2, hcz14_3, hcz14_4, hfz14_0, hfz14_1, hfz14_2, hfz14_3, hfz14_4⟩ := cells5 BK334.out) | ((with_reducible refine gate_callee (f := 66) rfl ?_); refine yC 25 Tryd.func66 #[.agg #[.int .i64 a0_0, .string a0_1, .int .i64 a0_2, .int .i64 a0_3, .slice A0_4 l0_4.length c0_4], .slice A1 l1.length c1, .slice A2 l2.length c2] rfl ?_; (with_reducible refine (haulageref08_with.calls k a0_0 a0_1 a0_2 a0_3 _ _ l0_4 _ _ l1 _ _ l2 t337 t340 _ ?side1 ?side2 ?side3 ?side4 ?side5 ?side6 A8.out).mono ?_); (case side1 => exact yW (Kd.C_below HR0_4.out HB.out)); (case side2 => exact HC0_4.out); (case side3 => exact yW (Kd.C_below HR1.out HB.out)); (case side4 => exact HC1.out); (case side5 => exact yW (Kd.C_below HR2.out HB.out)); (case side6 => exact HC2.out); rintro e w15 ⟨v338, rfl, ho0, hb⟩; refine ⟨_, rfl, ?_⟩; have HO339 := aM (Kd.R_lower ho0 (bZ (yG1 HB GE334.out))); replace BK334 := aM (kB (yK BK334) hb); replace HB := aM (bP (yG1 HB GE334.out) hb); (try clear hb); (try clear ho0)))
   go_ret2
   exact ⟨_, yE, yR HO339.out, yG1 HB GE334.out⟩
  ·
   rw [if_neg c7] at H
   have c7b0 : (t336 == 0) = false := beq_eq_false_iff_ne.mpr c7
   have c7b1 : (t336 != 0) = true := bne_iff_ne.mpr c7
   simp only [Option.some.injEq, Prod.mk.injEq] at H
   obtain ⟨rfl, rfl⟩ := H
   go_enter Tryd.func36, Tryd.ntmps36
   go_wp2_with (first | ((with_reducible refine gate_dst (N := 3) rfl ?_); refine yX (N := 3) (cs := #[.int .i64 a0_0, .string a0_1, .int .i64 a0_2, .int .i64 a0_3, .slice A0_4 l0_4.length c0_4]) (t := 24) ?_; intro gb334 hg w16 hbox hb; have BK334 := aM (hbox); have GW334 := yZ hg (yB HB); have GE334 := yZ hg (yB HB); replace HB := aM (bP (yB HB) hb); clear hb hbox hg; obtain ⟨hcz17_0, hcz17_1, hcz17_2, hcz17_3, hcz17_4, hfz17_0, hfz17_1, hfz17_2, hfz17_3, hfz17_4⟩ := cells5 BK334.out) | ((with_reducible refine gate_callee (f := 17) rfl ?_); refine yC 12 Tryd.func17 #[.agg #[.int .i64 a0_0, .string a0_1, .int .i64 a0_2, .int .i64 a0_3, .slice A0_4 l0_4.length c0_4], .slice A1 l1.length c1] rfl ?_; (with_reducible refine (haulageref08_Row.calls k a0_0 a0_1 a0_2 a0_3 _ _ l0_4 _ _ l1 t335 _ ?side1 ?side2 ?side3 ?side4 A4.out).mono ?_); (case side1 => exact yW (Kd.C_below HR0_4.out HB.out)); (case side2 => exact HC0_4.out); (case side3 => exact yW (Kd.C_below HR1.out HB.out)); (case side4 => exact HC1.out); rintro e w18 ⟨rfl, hb⟩; refine ⟨_, rfl, ?_⟩; replace BK334 := aM (kB (yK BK334) hb); replace HB := aM (bP (yG1 HB GE334.out) hb); (try clear hb); obtain ⟨hcz19_0, hcz19_1, hcz19_2, hcz19_3, hcz19_4, hfz19_0, hfz19_1, hfz19_2, hfz19_3, hfz19_4⟩ := cells5 BK334.out) | ((with_reducible refine gate_callee (f := 65) rfl ?_); refine yC 18 Tryd.func65 #[.agg #[.int .i64 a0_0, .string a0_1, .int .i64 a0_2, .int .i64 a0_3, .slice A0_4 l0_4.length c0_4], .slice A2 l2.length c2, .bool true] rfl ?_; (with_reducible refine (haulageref08_fields.calls k a0_0 a0_1 a0_2 a0_3 _ _ l0_4 _ _ l2 true t336 _ ?side1 ?side2 ?side3 ?side4 A6.out).mono ?_); (case side1 => exact yW (Kd.C_below HR0_4.out HB.out)); (case side2 => exact HC0_4.out); (case side3 => exact yW (Kd.C_below HR2.out HB.out)); (case side4 => exact HC2.out); rintro e w20 ⟨rfl, hb⟩; refine ⟨_, rfl, ?_⟩; replace BK334 := aM (kB (yK BK334) hb); replace HB := aM (bP (yG1 HB GE334.out) hb); (try clear hb)))
   go_ret2
   exact ⟨_, yE, by first | exact Kd.R_nil _ _ _ _ _ | exact Kd.N_nil _ _ _ _ _ | exact Kd.V_nil _ _ _ _ _ | exact Kd.Q_nil _ _ _ _ _ | exact Kd.S_nil _ _ _ _ _, yG1 HB GE334.out⟩
 ·
  rw [if_neg c5] at H
  have c5b0 : (t335 == 0) = false := beq_eq_false_iff_ne.mpr c5
  have c5b1 : (t335 != 0) = true := bne_iff_ne.mpr c5
  simp only [Option.some.injEq, Prod.mk.injEq] at H
  obtain ⟨rfl, rfl⟩ := H
  go_enter Tryd.func36, Tryd.ntmps36
  go_wp2_with (first | ((with_reducible refine gate_dst (N := 3) rfl ?_); refine yX (N := 3) (cs := #[.int .i64 a0_0, .string a0_1, .int .i64 a0_2, .int .i64 a0_3, .slice A0_4 l0_4.length c0_4]) (t := 24) ?_; intro gb334 hg w21 hbox hb; have BK334 := aM (hbox); have GW334 := yZ hg (yB HB); have GE334 := yZ hg (yB HB); replace HB := aM (bP (yB HB) hb); clear hb hbox hg; obtain ⟨hcz22_0, hcz22_1, hcz22_2, hcz22_3, hcz22_4, hfz22_0, hfz22_1, hfz22_2, hfz22_3, hfz22_4⟩ := cells5 BK334.out) | ((with_reducible refine gate_callee (f := 17) rfl ?_); refine yC 12 Tryd.func17 #[.agg #[.int .i64 a0_0, .string a0_1, .int .i64 a0_2, .int .i64 a0_3, .slice A0_4 l0_4.length c0_4], .slice A1 l1.length c1] rfl ?_; (with_reducible refine (haulageref08_Row.calls k a0_0 a0_1 a0_2 a0_3 _ _ l0_4 _ _ l1 t335 _ ?side1 ?side2 ?side3 ?side4 A4.out).mono ?_); (case side1 => exact yW (Kd.C_below HR0_4.out HB.out)); (case side2 => exact HC0_4.out); (case side3 => exact yW (Kd.C_below HR1.out HB.out)); (case side4 => exact HC1.out); rintro e w23 ⟨rfl, hb⟩; refine ⟨_, rfl, ?_⟩; replace BK334 := aM (kB (yK BK334) hb); replace HB := aM (bP (yG1 HB GE334.out) hb); (try clear hb)))
  go_ret2
  exact ⟨_, yE, by first | exact Kd.R_nil _ _ _ _ _ | exact Kd.N_nil _ _ _ _ _ | exact Kd.V_nil _ _ _ _ _ | exact Kd.Q_nil _ _ _ _ _ | exact Kd.S_nil _ _ _ _ _, yG1 HB GE334.out⟩
/-! ### schema_Key_1: function 75 -/
def schema_Key_1.f (a0_0 : Int) (a0_1 : ByteArray) (a0_2 : Int) (a0_3 : Int) (a0_4 : Bool) (a0_5 : Int) (a0_6 : Int) (a0_7 : ByteArray) (l1 : List (S24)) : Option (Bool) := if 0 < (l1.length : Int) then (some (a0_0 == ((rd_T24 l1 0).f2))) else (none)
set_option maxHeartbeats 8000000 in
set_option maxRecDepth 100000 in
theorem schema_Key_1.calls (a0_0 : Int) (a0_1 : ByteArray) (a0_2 : Int) (a0_3 : Int) (a0_4 : Bool) (a0_5 : Int) (a0_6 : Int) (a0_7 : ByteArray) (A1 : Option Addr) (c1 : Nat) (l1 : List (S24)) (r : Bool) (w : World) (hr1 : Kd.C k24 w A1 l1.length l1) (hc1 : l1.length ≤ c1) (h : schema_Key_1.f a0_0 a0_1 a0_2 a0_3 a0_4 a0_5 a0_6 a0_7 l1 = some r) :
  Calls Tryd.prog 75 #[.agg #[.int .i64 a0_0, .string a0_1, .int .i64 a0_2, .int .i64 a0_3, .bool a0_4, .int .i64 a0_5, .int .i64 a0_6, .string a0_7], .pointer A1] w fun e w' => e = .returned (.bool r) ∧ Below w.heap.size w w' := by
 have hu54 := Tryd.underlying54
 have HR1 := aM hr1
 have HC1 := aM hc1
 clear hr1 hc1
 have HB := aM (Below.refl w.heap.size w)
 have H : (if 0 < (l1.length : Int) then (some (a0_0 == ((rd_T24 l1 0).f2))) else (none)) = some r := h
 clear h
 by_cases c3 : 0 < (l1.length : Int)
 ·
  rw [if_pos c3] at H
  have c3b0 : decide (0 < (l1.length : Int)) = true := decide_eq_true c3
  have c3b1 : decide (0 < l1.length) = true := decide_eq_true (by omega)
  clear c3
  obtain rfl := Option.some.inj H
  go_enter Tryd.func75, Tryd.ntmps75
  go_wp2_with (first | ((with_reducible refine gate_dst (N := 2) rfl ?_); refine yX (N := 2) (cs := #[.int .i64 a0_0, .string a0_1, .int .i64 a0_2, .int .i64 a0_3, .bool a0_4, .int .i64 a0_5, .int .i64 a0_6, .string a0_7]) (t := 54) ?_; intro gb341 hg w4 hbox hb; have BK341 := aM (hbox); have GW341 := yZ hg (yB HB); have GE341 := yZ hg (yB HB); replace HB := aM (bP (yB HB) hb); clear hb hbox hg; obtain ⟨hcz5_0, hcz5_1, hcz5_2, hcz5_3, hcz5_4, hcz5_5, hcz5_6, hcz5_7, hfz5_0, hfz5_1, hfz5_2, hfz5_3, hfz5_4, hfz5_5, hfz5_6, hfz5_7⟩ := cells8 BK341.out; have p342 : 0 ≤ (0 : Int) := (by omega); have q342 : 0 < (l1.length : Int) := oD yA; obtain ⟨ad342, A342_4, c342_4, e342, hx342_0, hx342_1, hx342_2, hx342_3, hx342_4, hl342_4, hi342_4⟩ := at_T24 HR1.out 0 p342 q342; cases e342; have qi342 : (0 < l1.length) = True := eq_true (by omega); (try rw [show ((0 : Int)).toNat = 0 from rfl] at hx342_0); (try rw [show 0 * 5 = 0 from rfl] at hx342_0); (try rw [Addr.add_zero'] at hx342_0); (try rw [show ((0 : Int)).toNat = 0 from rfl] at hx342_1); (try rw [show 0 * 5 = 0 from rfl] at hx342_1); (try rw [Addr.add_zero'] at hx342_1); (try rw [show ((0 : Int)).toNat = 0 from rfl] at hx342_2); (try rw [show 0 * 5 = 0 from rfl] at hx342_2); (try rw [Addr.add_zero'] at hx342_2); (try rw [show ((0 : Int)).toNat = 0 from rfl] at hx342_3); (try rw [show 0 * 5 = 0 from rfl] at hx342_3); (try rw [Addr.add_zero'] at hx342_3); (try rw [show ((0 : Int)).toNat = 0 from rfl] at hx342_4); (try rw [show 0 * 5 = 0 from rfl] at hx342_4); (try rw [Addr.add_zero'] at hx342_4); replace hx342_0 := pw_cell_below HB.out hx342_0; replace hx342_1 := pw_cell_below HB.out hx342_1; replace hx342_2 := pw_cell_below HB.out hx342_2; replace hx342_3 := pw_cell_below HB.out hx342_3; replace hx342_4 := pw_cell_below HB.out hx342_4; have HR342_4 := aM hi342_4; have HC342_4 := aM hl342_4; clear hi342_4 hl342_4; replace p342 := eq_true p342; replace q342 := eq_true q342))
  go_ret
  exact ⟨yE, yG1 HB GE341.out⟩
 ·
  rw [if_neg c3] at H
  exact absurd H (by simp)
/-! ### api_Column_f75: function 74 -/
def api_Column_f75.l0 : Nat → List (S24) → List (S54) → Int → Int → Option (Int × Bool)
 | 0, _, _, _, _ => none
 | k + 1, x1, x8, x9, x10 => if x10 < x9 then (if 0 ≤ x10 then (if x10 < (x8.length : Int) then ((schema_Key_1.f ((rd_T54 x8 x10).f0) ((rd_T54 x8 x10).f1) ((rd_T54 x8 x10).f2.f0) ((rd_T54 x8 x10).f2.f1) ((rd_T54 x8 x10).f3) ((rd_T54 x8 x10).f4.f0) ((rd_T54 x8 x10).f4.f1) ((rd_T54 x8 x10).f4.f2) x1).bind fun t345 => (if t345 = true then (some (x10, true)) else (api_Column_f75.l0 k x1 x8 x9 (wrap64 (x10 + 1))))) else (none)) else (none)) else (some (0, false))
def api_Column_f75.f (k : Nat) (l0 : List (S54)) (l1 : List (S24)) : Option (Int × Bool) := api_Column_f75.l0 k l1 l0 (l0.length : Int) 0
theorem api_Column_f75.mono_l : ∀ k, (∀ y0 y1 y2 y3, LeO (api_Column_f75.l0 k y0 y1 y2 y3) (api_Column_f75.l0 (k + 1) y0 y1 y2 y3))
 | 0 => fun _ _ _ _ r h => by simp [api_Column_f75.l0] at h
 | k + 1 => by
  have ih0 := api_Column_f75.mono_l k
  ·
   intro y0 y1 y2 y3
   unfold api_Column_f75.l0
   repeat' first
   | (with_reducible exact ih0 _ _ _ _)
   | (with_reducible exact LeO.refl _)
   | (with_reducible exact LeO.none _)
   | (with_reducible refine LeO.ite ?_ ?_)
   | (with_reducible refine LeO.bind ?_ (fun _ => ?_))
   | exact ih0 _ _ _ _
   | exact LeO.none _
   | refine LeO.ite ?_ ?_
   | refine LeO.bind ?_ (fun _ => ?_)
theorem api_Column_f75.mono : ∀ a0 a1 k, LeO (api_Column_f75.f k a0 a1) (api_Column_f75.f (k + 1) a0 a1) := by
 intro a0 a1 k
 have ih0 := api_Column_f75.mono_l k
 unfold api_Column_f75.f
 repeat' first
   | (with_reducible exact ih0 _ _ _ _)
   | (with_reducible exact LeO.refl _)
   | (with_reducible exact LeO.none _)
   | (with_reducible refine LeO.ite ?_ ?_)
   | (with_reducible refine LeO.bind ?_ (fun _ => ?_))
   | exact ih0 _ _ _ _
   | exact LeO.none _
   | refine LeO.ite ?_ ?_
   | refine LeO.bind ?_ (fun _ => ?_)
set_option maxHeartbeats 8000000 in
set_option maxRecDepth 100000 in
theorem api_Column_f75.calls (k : Nat) (A0 : Option Addr) (c0 : Nat) (l0 : List (S54)) (A1 : Option Addr) (c1 : Nat) (l1 : List (S24)) (r1 : Int) (r2 : Bool) (w : World) (hr0 : Kd.C k54 w A0 l0.length l0) (hc0 : l0.length ≤ c0) (hr1 : Kd.C k24 w A1 l1.length l1) (hc1 : l1.length ≤ c1) (h : api_Column_f75.f k l0 l1 = some (r1, r2)) :
  Calls Tryd.prog 74 #[.slice A0 l0.length c0, .func (.func 75) #[] #[.pointer A1]] w fun e w' => e = .returned (.tuple #[.int .i64 r1, .bool r2]) ∧ Below w.heap.size w w' := by
 have hmf : ∀ (fn : Go.Fn) (first cap : Array Value) (w : World), (Instr.makeFunc fn first cap).run Tryd.prog w = .ok (.func fn first cap) w := fun _ _ _ _ => rfl
 have hu54 := Tryd.underlying54
 have HR0 := aM hr0
 have HC0 := aM hc0
 clear hr0 hc0
 have HR1 := aM hr1
 have HC1 := aM hc1
 clear hr1 hc1
 have HB := aM (Below.refl w.heap.size w)
 have H : (api_Column_f75.l0 k l1 l0 (l0.length : Int) 0) = some (r1, r2) := h
 clear h
 have H' := aM H
 clear H
 go_enter Tryd.func74, Tryd.ntmps74
 go_wp2
 go_loopg [10] k (fun kq v10 w' => ∃ (x10_1 : Int), v10 = .int .i64 x10_1 ∧ Aside0 (api_Column_f75.l0 kq l1 l0 (l0.length : Int) x10_1 = some (r1, r2)) ∧ Aside0 (kq ≤ k) ∧ Aside0 (Below w.heap.size w w'))
 case atStart => exact ⟨(0), yS, H', ⟨Nat.le_refl _⟩, ⟨yB HB⟩⟩
 case round =>
  clear H'
  try clear c1
  try clear p2
  obtain ⟨x10_1, rfl, HA, HK1, HB⟩ := hrel
  cases gk with
  | zero => exact absurd HA.out (by simp [api_Column_f75.l0])
  | succ k1 =>
   have H := HA.out
   clear HA
   simp only [api_Column_f75.l0] at H
   by_cases c3 : x10_1 < (l0.length : Int)
   ·
    rw [if_pos c3] at H
    have c3b0 : decide (x10_1 < (l0.length : Int)) = true := decide_eq_true c3
    clear c3
    by_cases c4 : 0 ≤ x10_1
    ·
     rw [if_pos c4] at H
     have c4b0 : decide (0 ≤ x10_1) = true := decide_eq_true c4
     clear c4
     by_cases c5 : x10_1 < (l0.length : Int)
     ·
      rw [if_pos c5] at H
      have c5b0 : decide (x10_1 < (l0.length : Int)) = true := decide_eq_true c5
      clear c5
      replace H := Option.bind_eq_some_iff.mp H
      obtain ⟨t345, A60, H⟩ := H
      replace H : (if t345 = true then (some (x10_1, true)) else (api_Column_f75.l0 k1 l1 l0 (l0.length : Int) (wrap64 (x10_1 + 1)))) = some (r1, r2) := H
      have A6 := aM A60
      clear A60
      by_cases c7 : t345 = true
      ·
       subst c7
       have H1 : (some (x10_1, true)) = some (r1, r2) := by rw [if_pos rfl] at H; exact H
       clear H
       have H := H1
       clear H1
       simp only [Option.some.injEq, Prod.mk.injEq] at H
       obtain ⟨rfl, rfl⟩ := H
       have p343 : 0 ≤ (x10_1 : Int) := oD yA
       have q343 : x10_1 < (l0.length : Int) := oD yA
       obtain ⟨ad343, e343, hx343_0, hx343_1, hx343_2, hx343_3, hx343_4, hx343_5, hx343_6, hx343_7⟩ := at_T54 HR0.out x10_1 p343 q343
       cases e343
       replace hx343_0 := pw_cell_below HB.out hx343_0
       replace hx343_1 := pw_cell_below HB.out hx343_1
       replace hx343_2 := pw_cell_below HB.out hx343_2
       replace hx343_3 := pw_cell_below HB.out hx343_3
       replace hx343_4 := pw_cell_below HB.out hx343_4
       replace hx343_5 := pw_cell_below HB.out hx343_5
       replace hx343_6 := pw_cell_below HB.out hx343_6
       replace hx343_7 := pw_cell_below HB.out hx343_7
       replace p343 := eq_true p343
       replace q343 := eq_true q343
       go_wp2_with (first | ((with_reducible refine gate_dst (N := 7) rfl ?_); refine yX (N := 7) (cs := #[.int .i64 0, .string (⟨#[]⟩ : ByteArray), .int .i64 0, .int .i64 0, .bool false, .int .i64 0, .int .i64 0, .string (⟨#[]⟩ : ByteArray)]) (t := 54) ?_; intro gb344 hg w8 hbox hb; have BK344 := aM (hbox); have GW344 := yZ hg (yB HB); have GE344 := yZ hg (yB HB); replace HB := aM (bP (yB HB) hb); clear hb hbox hg; obtain ⟨hcz9_0, hcz9_1, hcz9_2, hcz9_3, hcz9_4, hcz9_5, hcz9_6, hcz9_7, hfz9_0, hfz9_1, hfz9_2, hfz9_3, hfz9_4, hfz9_5, hfz9_6, hfz9_7⟩ := cells8 BK344.out) | (go_at_call 75; (with_reducible refine (schema_Key_1.calls ((rd_T54 l0 x10_1).f0) ((rd_T54 l0 x10_1).f1) ((rd_T54 l0 x10_1).f2.f0) ((rd_T54 l0 x10_1).f2.f1) ((rd_T54 l0 x10_1).f3) ((rd_T54 l0 x10_1).f4.f0) ((rd_T54 l0 x10_1).f4.f1) ((rd_T54 l0 x10_1).f4.f2) A1 c1 l1 true _ ?side1 ?side2 A6.out).mono ?_); (case side1 => exact Kd.C_below HR1.out (yG1 HB GE344.out)); (case side2 => exact HC1.out); rintro e w10 ⟨rfl, hb⟩; replace BK344 := aM (kB (puts8 BK344.out) hb); replace HB := aM (bP (yG1 HB GE344.out) hb); (try clear hb)))
       go_ret2
       exact ⟨yE, yG1 HB GE344.out⟩
      ·
       replace c7 := Bool.eq_false_iff.mpr c7
       subst c7
       have H1 : (api_Column_f75.l0 k1 l1 l0 (l0.length : Int) (wrap64 (x10_1 + 1))) = some (r1, r2) := by rw [if_neg (show ¬ (false = true) by decide)] at H; exact H
       clear H
       have H := H1
       clear H1
       have H' := aM H
       clear H
       have p343 : 0 ≤ (x10_1 : Int) := oD yA
       have q343 : x10_1 < (l0.length : Int) := oD yA
       obtain ⟨ad343, e343, hx343_0, hx343_1, hx343_2, hx343_3, hx343_4, hx343_5, hx343_6, hx343_7⟩ := at_T54 HR0.out x10_1 p343 q343
       cases e343
       replace hx343_0 := pw_cell_below HB.out hx343_0
       replace hx343_1 := pw_cell_below HB.out hx343_1
       replace hx343_2 := pw_cell_below HB.out hx343_2
       replace hx343_3 := pw_cell_below HB.out hx343_3
       replace hx343_4 := pw_cell_below HB.out hx343_4
       replace hx343_5 := pw_cell_below HB.out hx343_5
       replace hx343_6 := pw_cell_below HB.out hx343_6
       replace hx343_7 := pw_cell_below HB.out hx343_7
       replace p343 := eq_true p343
       replace q343 := eq_true q343
       go_wp2_with (first | ((with_reducible refine gate_dst (N := 7) rfl ?_); refine yX (N := 7) (cs := #[.int .i64 0, .string (⟨#[]⟩ : ByteArray), .int .i64 0, .int .i64 0, .bool false, .int .i64 0, .int .i64 0, .string (⟨#[]⟩ : ByteArray)]) (t := 54) ?_; intro gb344 hg w11 hbox hb; have BK344 := aM (hbox); have GW344 := yZ hg (yB HB); have GE344 := yZ hg (yB HB); replace HB := aM (bP (yB HB) hb); clear hb hbox hg; obtain ⟨hcz12_0, hcz12_1, hcz12_2, hcz12_3, hcz12_4, hcz12_5, hcz12_6, hcz12_7, hfz12_0, hfz12_1, hfz12_2, hfz12_3, hfz12_4, hfz12_5, hfz12_6, hfz12_7⟩ := cells8 BK344.out) | (go_at_call 75; (with_reducible refine (schema_Key_1.calls ((rd_T54 l0 x10_1).f0) ((rd_T54 l0 x10_1).f1) ((rd_T54 l0 x10_1).f2.f0) ((rd_T54 l0 x10_1).f2.f1) ((rd_T54 l0 x10_1).f3) ((rd_T54 l0 x10_1).f4.f0) ((rd_T54 l0 x10_1).f4.f1) ((rd_T54 l0 x10_1).f4.f2) A1 c1 l1 false _ ?side1 ?side2 A6.out).mono ?_); (case side1 => exact Kd.C_below HR1.out (yG1 HB GE344.out)); (case side2 => exact HC1.out); rintro e w13 ⟨rfl, hb⟩; replace BK344 := aM (kB (puts8 BK344.out) hb); replace HB := aM (bP (yG1 HB GE344.out) hb); (try clear hb)))
       go_roundg k1
       case measure => have := HK1.out; omega
       case rel => exact ⟨(wrap64 (x10_1 + 1)), yS, H', ⟨by have := HK1.out; omega⟩, ⟨yG1 HB GE344.out⟩⟩
     ·
      rw [if_neg c5] at H
      exact absurd H (by simp)
    ·
     rw [if_neg c4] at H
     exact absurd H (by simp)
   ·
    rw [if_neg c3] at H
    have c3b0 : decide (x10_1 < (l0.length : Int)) = false := decide_eq_false c3
    clear c3
    simp only [Option.some.injEq, Prod.mk.injEq] at H
    obtain ⟨rfl, rfl⟩ := H
    go_wp2
    go_ret2
    exact ⟨yE, yB HB⟩
/-! ### schema_Key: function 37 -/
def schema_Key.f (k : Nat) (a0_0 : Int) (a0_1 : ByteArray) (a0_2 : Int) (a0_3 : Int) (l0_4 : List (S54)) : Option (Int × Bool) := (api_Column_f75.f k l0_4 [(⟨a0_0, a0_1, a0_2, a0_3, l0_4⟩ : S24)]).bind fun bt347 => (some (bt347.1, bt347.2))
theorem schema_Key.mono : ∀ a0 a1 a2 a3 a4 k, LeO (schema_Key.f k a0 a1 a2 a3 a4) (schema_Key.f (k + 1) a0 a1 a2 a3 a4) := by
 intro a0 a1 a2 a3 a4 k
 unfold schema_Key.f
 repeat' first
   | (with_reducible exact api_Column_f75.mono _ _ _)
   | (with_reducible exact LeO.refl _)
   | (with_reducible exact LeO.none _)
   | (with_reducible refine LeO.ite ?_ ?_)
   | (with_reducible refine LeO.bind ?_ (fun _ => ?_))
   | exact api_Column_f75.mono _ _ _
   | exact LeO.none _
   | refine LeO.ite ?_ ?_
   | refine LeO.bind ?_ (fun _ => ?_)
set_option maxHeartbeats 8000000 in
set_option maxRecDepth 100000 in
theorem schema_Key.calls (k : Nat) (a0_0 : Int) (a0_1 : ByteArray) (a0_2 : Int) (a0_3 : Int) (A0_4 : Option Addr) (c0_4 : Nat) (l0_4 : List (S54)) (r1 : Int) (r2 : Bool) (w : World) (hr0_4 : Kd.C k54 w A0_4 l0_4.length l0_4) (hc0_4 : l0_4.length ≤ c0_4) (h : schema_Key.f k a0_0 a0_1 a0_2 a0_3 l0_4 = some (r1, r2)) :
  Calls Tryd.prog 37 #[.agg #[.int .i64 a0_0, .string a0_1, .int .i64 a0_2, .int .i64 a0_3, .slice A0_4 l0_4.length c0_4]] w fun e w' => e = .returned (.tuple #[.int .i64 r1, .bool r2]) ∧ Below w.heap.size w w' := by
 have hmf : ∀ (fn : Go.Fn) (first cap : Array Value) (w : World), (Instr.makeFunc fn first cap).run Tryd.prog w = .ok (.func fn first cap) w := fun _ _ _ _ => rfl
 have hu24 := Tryd.underlying24
 have HR0_4 := aM hr0_4
 have HC0_4 := aM hc0_4
 clear hr0_4 hc0_4
 have HB := aM (Below.refl w.heap.size w)
 have H : ((api_Column_f75.f k l0_4 [(⟨a0_0, a0_1, a0_2, a0_3, l0_4⟩ : S24)]).bind fun bt347 => (some (bt347.1, bt347.2))) = some (r1, r2) := h
 clear h
 replace H := Option.bind_eq_some_iff.mp H
 obtain ⟨⟨t347, t348⟩, A20, H⟩ := H
 replace H : (some (t347, t348)) = some (r1, r2) := H
 have A2 := aM A20
 clear A20
 simp only [Option.some.injEq, Prod.mk.injEq] at H
 obtain ⟨rfl, rfl⟩ := H
 go_enter Tryd.func37, Tryd.ntmps37
 go_wp2_with (first | ((with_reducible refine gate_dst (N := 1) rfl ?_); refine yX (N := 1) (cs := #[.int .i64 a0_0, .string a0_1, .int .i64 a0_2, .int .i64 a0_3, .slice A0_4 l0_4.length c0_4]) (t := 24) ?_; intro gb346 hg w3 hbox hb; have BK346 := aM (hbox); have GW346 := yZ hg (yB HB); have GE346 := yZ hg (yB HB); replace HB := aM (bP (yB HB) hb); clear hb hbox hg; obtain ⟨hcz4_0, hcz4_1, hcz4_2, hcz4_3, hcz4_4, hfz4_0, hfz4_1, hfz4_2, hfz4_3, hfz4_4⟩ := cells5 BK346.out) | (go_at_call 74; (with_reducible refine (api_Column_f75.calls k _ _ l0_4 (some ⟨gb346, 0, none⟩) 1 [(⟨a0_0, a0_1, a0_2, a0_3, l0_4⟩ : S24)] t347 t348 _ ?side1 ?side2 ?side3 ?side4 A2.out).mono ?_); (case side1 => exact yW (Kd.C_below HR0_4.out HB.out)); (case side2 => exact HC0_4.out); (case side3 => exact hp_C_one (k24_mk _ (⟨a0_0, a0_1, a0_2, a0_3, l0_4⟩ : S24) (by exact HC0_4.out) (yW (Kd.C_below HR0_4.out HB.out))) (yK BK346)); (case side4 => exact Nat.le_refl _); rintro e w5 ⟨rfl, hb⟩; replace BK346 := aM (kB (yK BK346) hb); replace HB := aM (bP (yG1 HB GE346.out) hb); (try clear hb)))
 go_ret2
 exact ⟨yE, yG1 HB GE346.out⟩
end Go.Proofs.YtdeophpjammbpaaDoor.HSchemaSets

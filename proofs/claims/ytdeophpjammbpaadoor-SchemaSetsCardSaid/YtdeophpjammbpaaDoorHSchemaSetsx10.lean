/- For Go functions that SchemaSets reaches: Lean functions, and walks that show that each call comes to what its Lean function tells; no condition but those that each theorem states. (Made by a program of this session over the kit's print.py.) -/
import Derived.Test.YtdeophpjammbpaaDoorHSchemaSetsx0
import Derived.Test.YtdeophpjammbpaaDoorHSchemaSetsx1
import Derived.Test.YtdeophpjammbpaaDoorHSchemaSetsx2
import Derived.Test.YtdeophpjammbpaaDoorHSchemaSetsx7
import Derived.Test.YtdeophpjammbpaaDoorHSchemaSetsx9
namespace Go.Proofs.YtdeophpjammbpaaDoor.HSchemaSets
open Go.RowKit Go.Proofs.YtdeophpjammbpaaDoorW.PrintWords Go.Proofs.YtdeophpjammbpaaDoorW.PrintLast Go.Proofs.YtdeophpjammbpaaDoorW.PrintMore
attribute [local go_sem] max2_int min2_int max_two min_two max_three min_three max_four min_four   -- for this text's walks alone
set_option linter.unusedVariables false
set_option linter.unusedSimpArgs false
attribute [local go_sem] hp_s8 hp_s16 hp_s32 hp_s64 hp_m8 hp_m16 hp_m32 hp_m64
attribute [local go_sem high] eqA52
/-! ### schema_Fill: function 21 -/
def schema_Fill.l0 : Nat → List (S96) → List (S52) → List (S54) → Int → Int → Int → ByteArray → Int → Int → List (S54) → Option ((List (S52)) × Int)
 | 0, _, _, _, _, _, _, _, _, _, _ => none
 | k + 1, x1, x6, x17, x18, x19, x177000, x177001, x177002, x177003, x177004 => if x19 < x18 then (if 0 ≤ x19 then (if x19 < (x17.length : Int) then (if x19 < (x6.length : Int) then (schema_Fill.l0 k x1 (x6.set (x19 : Int).toNat (⟨(rd_T54 x17 x19).f4.f0, (rd_T54 x17 x19).f4.f1, (rd_T54 x17 x19).f4.f2⟩ : S52)) x17 x18 (wrap64 (x19 + 1)) x177000 x177001 x177002 x177003 x177004) else (none)) else (none)) else (none)) else ((schema_lay_f64.f k x177000 x177001 x177002 x177003 x177004 x6 x1).bind fun bt184 => (some (bt184.1, bt184.2)))
def schema_Fill.f (k : Nat) (a0_0 : Int) (a0_1 : ByteArray) (a0_2 : Int) (a0_3 : Int) (l0_4 : List (S54)) (l1 : List (S96)) : Option ((List (S52)) × Int) := (schema_RightTable.f k a0_0 a0_1 a0_2 a0_3 l0_4).bind fun t177 => (if t177 = true then (if 0 ≤ (l0_4.length : Int) then (if ((l0_4.length : Int) : Int).toNat ≤ 8796093022208 then (schema_Fill.l0 k l1 (List.replicate ((l0_4.length : Int) : Int).toNat z52) l0_4 (l0_4.length : Int) 0 a0_0 a0_1 a0_2 a0_3 l0_4) else (none)) else (none)) else (some (([] : List (S52)), 2)))
theorem schema_Fill.mono_l : ∀ k, (∀ y0 y1 y2 y3 y4 y5 y6 y7 y8 y9, LeO (schema_Fill.l0 k y0 y1 y2 y3 y4 y5 y6 y7 y8 y9) (schema_Fill.l0 (k + 1) y0 y1 y2 y3 y4 y5 y6 y7 y8 y9))
 | 0 => fun _ _ _ _ _ _ _ _ _ _ r h => by simp [schema_Fill.l0] at h
 | k + 1 => by
  have ih0 := schema_Fill.mono_l k
  ·
   intro y0 y1 y2 y3 y4 y5 y6 y7 y8 y9
   unfold schema_Fill.l0
   repeat' first
   | (with_reducible exact ih0 _ _ _ _ _ _ _ _ _ _)
   | (with_reducible exact schema_RightTable.mono _ _ _ _ _ _)
   | (with_reducible exact schema_lay_f64.mono _ _ _ _ _ _ _ _)
   | (with_reducible exact LeO.refl _)
   | (with_reducible exact LeO.none _)
   | (with_reducible refine LeO.ite ?_ ?_)
   | (with_reducible refine LeO.bind ?_ (fun _ => ?_))
   | exact ih0 _ _ _ _ _ _ _ _ _ _
   | exact schema_RightTable.mono _ _ _ _ _ _
   | exact schema_lay_f64.mono _ _ _ _ _ _ _ _
   | exact LeO.none _
   | refine LeO.ite ?_ ?_
   | refine LeO.bind ?_ (fun _ => ?_)
theorem schema_Fill.mono : ∀ a0 a1 a2 a3 a4 a5 k, LeO (schema_Fill.f k a0 a1 a2 a3 a4 a5) (schema_Fill.f (k + 1) a0 a1 a2 a3 a4 a5) := by
 intro a0 a1 a2 a3 a4 a5 k
 have ih0 := schema_Fill.mono_l k
 unfold schema_Fill.f
 repeat' first
   | (with_reducible exact ih0 _ _ _ _ _ _ _ _ _ _)
   | (with_reducible exact schema_RightTable.mono _ _ _ _ _ _)
   | (with_reducible exact schema_lay_f64.mono _ _ _ _ _ _ _ _)
   | (with_reducible exact LeO.refl _)
   | (with_reducible exact LeO.none _)
   | (with_reducible refine LeO.ite ?_ ?_)
   | (with_reducible refine LeO.bind ?_ (fun _ => ?_))
   | exact ih0 _ _ _ _ _ _ _ _ _ _
   | exact schema_RightTable.mono _ _ _ _ _ _
   | exact schema_lay_f64.mono _ _ _ _ _ _ _ _
   | exact LeO.none _
   | refine LeO.ite ?_ ?_
   | refine LeO.bind ?_ (fun _ => ?_)
set_option maxHeartbeats 8000000 in
set_option maxRecDepth 100000 in
theorem schema_Fill.calls (k : Nat) (a0_0 : Int) (a0_1 : ByteArray) (a0_2 : Int) (a0_3 : Int) (A0_4 : Option Addr) (c0_4 : Nat) (l0_4 : List (S54)) (A1 : Option Addr) (c1 : Nat) (l1 : List (S96)) (r1 : List (S52)) (r2 : Int) (w : World) (hr0_4 : Kd.C k54 w A0_4 l0_4.length l0_4) (hc0_4 : l0_4.length ≤ c0_4) (hr1 : Kd.C k96 w A1 l1.length l1) (hc1 : l1.length ≤ c1) (hG : Glob w) (h : schema_Fill.f k a0_0 a0_1 a0_2 a0_3 l0_4 l1 = some (r1, r2)) :
  Calls Tryd.prog 21 #[.agg #[.int .i64 a0_0, .string a0_1, .int .i64 a0_2, .int .i64 a0_3, .slice A0_4 l0_4.length c0_4], .slice A1 l1.length c1] w fun e w' => ∃ v0_ : Value, e = .returned (.tuple #[v0_, .int .i64 r2]) ∧ Kd.R k52 52 w' w.heap.size (fun _ => True) v0_ r1 ∧ Below w.heap.size w w' := by
 have hu24 := Tryd.underlying24
 have hu54 := Tryd.underlying54
 have hu52 := Tryd.underlying52
 have HR0_4 := aM hr0_4
 have HC0_4 := aM hc0_4
 clear hr0_4 hc0_4
 have HR1 := aM hr1
 have HC1 := aM hc1
 clear hr1 hc1
 have HG := aM hG
 clear hG
 have HB := aM (Below.refl w.heap.size w)
 have H : ((schema_RightTable.f k a0_0 a0_1 a0_2 a0_3 l0_4).bind fun t177 => (if t177 = true then (if 0 ≤ (l0_4.length : Int) then (if ((l0_4.length : Int) : Int).toNat ≤ 8796093022208 then (schema_Fill.l0 k l1 (List.replicate ((l0_4.length : Int) : Int).toNat z52) l0_4 (l0_4.length : Int) 0 a0_0 a0_1 a0_2 a0_3 l0_4) else (none)) else (none)) else (some (([] : List (S52)), 2)))) = some (r1, r2) := h
 clear h
 replace H := Option.bind_eq_some_iff.mp H
 obtain ⟨t177, A30, H⟩ := H
 replace H : (if t177 = true then (if 0 ≤ (l0_4.length : Int) then (if ((l0_4.length : Int) : Int).toNat ≤ 8796093022208 then (schema_Fill.l0 k l1 (List.replicate ((l0_4.length : Int) : Int).toNat z52) l0_4 (l0_4.length : Int) 0 a0_0 a0_1 a0_2 a0_3 l0_4) else (none)) else (none)) else (some (([] : List (S52)), 2))) = some (r1, r2) := H
 have A3 := aM A30
 clear A30
 by_cases c4 : t177 = true
 ·
  subst c4
  have H1 : (if 0 ≤ (l0_4.length : Int) then (if ((l0_4.length : Int) : Int).toNat ≤ 8796093022208 then (schema_Fill.l0 k l1 (List.replicate ((l0_4.length : Int) : Int).toNat z52) l0_4 (l0_4.length : Int) 0 a0_0 a0_1 a0_2 a0_3 l0_4) else (none)) else (none)) = some (r1, r2) := by rw [if_pos rfl] at H; exact H
  clear H
  have H := H1
  clear H1
  by_cases c5 : 0 ≤ (l0_4.length : Int)
  ·
   rw [if_pos c5] at H
   have c5b0 := eq_true c5
   have c5b1 : decide (0 ≤ (l0_4.length : Int)) = true := decide_eq_true c5
   clear c5
   by_cases c6 : ((l0_4.length : Int) : Int).toNat ≤ 8796093022208
   ·
    rw [if_pos c6] at H
    have c6b0 := eq_true c6
    have c6b1 : decide (((l0_4.length : Int) : Int).toNat ≤ 8796093022208) = true := decide_eq_true c6
    clear c6
    obtain ⟨y178, hy178⟩ : ∃ y_ : List (S52), y_ = (List.replicate ((l0_4.length : Int) : Int).toNat z52) := ⟨_, rfl⟩
    replace H : (schema_Fill.l0 k l1 y178 l0_4 (l0_4.length : Int) 0 a0_0 a0_1 a0_2 a0_3 l0_4) = some (r1, r2) := by first | (rw [hy178]; with_reducible exact H) | (have H2_ := (Option.bind_some _ _).symm.trans H; rw [hy178]; with_reducible exact H2_) | (have H2_ := (Option.bind_some _ _).symm.trans H; with_reducible exact H2_) | with_reducible exact H | (rw [hy178]; exact H) | exact H
    have Ny178 := aM hy178
    clear hy178
    have H' := aM H
    clear H
    go_enter Tryd.func21, Tryd.ntmps21
    go_wp2_with (first | ((with_reducible refine gate_dst (N := 2) rfl ?_); refine yX (N := 2) (cs := #[.int .i64 a0_0, .string a0_1, .int .i64 a0_2, .int .i64 a0_3, .slice A0_4 l0_4.length c0_4]) (t := 24) ?_; intro gb176 hg w7 hbox hb; have BK176 := aM (hbox); have GW176 := yZ hg (yB HB); have GE176 := yZ hg (yB HB); replace HB := aM (bP (yB HB) hb); clear hb hbox hg; obtain ⟨hcz8_0, hcz8_1, hcz8_2, hcz8_3, hcz8_4, hfz8_0, hfz8_1, hfz8_2, hfz8_3, hfz8_4⟩ := cells5 BK176.out) | ((with_reducible refine gate_callee (f := 26) rfl ?_); refine yC 10 Tryd.func26 #[.agg #[.int .i64 a0_0, .string a0_1, .int .i64 a0_2, .int .i64 a0_3, .slice A0_4 l0_4.length c0_4]] rfl ?_; (with_reducible refine (schema_RightTable.calls k a0_0 a0_1 a0_2 a0_3 _ _ l0_4 true _ ?side1 ?side2 ?side3 A3.out).mono ?_); (case side1 => exact yW (Kd.C_below HR0_4.out HB.out)); (case side2 => exact HC0_4.out); (case side3 => first | (with_reducible exact HG.out) | exact Glob.below HG.out (yG1 HB GE176.out)); rintro e w9 ⟨rfl, hb⟩; refine ⟨_, rfl, ?_⟩; replace BK176 := aM (kB (yK BK176) hb); replace HB := aM (bP (yG1 HB GE176.out) hb); (try clear hb); obtain ⟨hcz10_0, hcz10_1, hcz10_2, hcz10_3, hcz10_4, hfz10_0, hfz10_1, hfz10_2, hfz10_3, hfz10_4⟩ := cells5 BK176.out) | ((with_reducible refine gate_dst (N := 15) rfl ?_); refine Kd.R_make k52 _ 52 rfl (N := 15) rfl 25 _ _ rfl (l0_4.length : Int) rfl rfl Tryd.underlying25 (.agg #[(.int .i64 0), (.int .i64 0), (.string ⟨#[]⟩)]) 32 info52 rfl (by decide) (by omega) z52 (ok := fun _ => True) (okp := fun _ => True) (k52_mkM _ _ _ z52 ) (fun _ hk => hk) trivial (oD yA) (Nat.le_trans (Nat.mul_le_mul_right _ (oD yA : (l0_4.length : Int).toNat ≤ 8796093022208)) (by omega)) (Below.refl _ _) (Nat.le_refl _) ?_; intro v179 w11 ho12 hb hg_ hnew_; clear hg_ hnew_; (first | rw [← Ny178.out] at ho12 | (simp only [Int.reduceToNat] at ho12; rw [← Ny178.out] at ho12)); have HO180 := aM (Kd.R_lower ho12 (bZ (yG1 HB GE176.out))); replace BK176 := aM (kB (yK BK176) hb); replace HB := aM (bP (yG1 HB GE176.out) hb); clear hb ho12; obtain ⟨hcz13_0, hcz13_1, hcz13_2, hcz13_3, hcz13_4, hfz13_0, hfz13_1, hfz13_2, hfz13_3, hfz13_4⟩ := cells5 BK176.out))
    go_loopg [19] k (fun kq v19 w' => ∃ (x6_1 : List (S52)) (x19_1 : Int), v19 = .int .i64 x19_1 ∧ Aside0 (schema_Fill.l0 kq l1 x6_1 l0_4 (l0_4.length : Int) x19_1 a0_0 a0_1 a0_2 a0_3 l0_4 = some (r1, r2)) ∧ Aside0 (kq ≤ k) ∧ Aside0 (Kd.R k52 52 w' w.heap.size (fun _ => True) v179 x6_1) ∧ Aside0 (w'.heap[gb176]? = some (.cells #[.int .i64 a0_0, .string a0_1, .int .i64 a0_2, .int .i64 a0_3, (.slice A0_4 l0_4.length c0_4)] 24 (0, 0))) ∧ Aside0 (Below w.heap.size w w'))
    case atStart => exact ⟨(y178), (0), yS, H', ⟨Nat.le_refl _⟩, ⟨yR HO180.out⟩, ⟨yK BK176⟩, ⟨yG1 HB GE176.out⟩⟩
    case round =>
     clear H'
     try clear c1
     try clear c2
     try clear p2
     try clear c4
     try clear c5
     try clear c5b0
     try clear c5b1
     try clear c6
     try clear c6b0
     try clear c6b1
     try clear hcz10_0 hcz10_1 hcz10_2 hcz10_3 hcz10_4
     try clear hcz13_0 hcz13_1 hcz13_2 hcz13_3 hcz13_4
     try clear hcz8_0 hcz8_1 hcz8_2 hcz8_3 hcz8_4
     try clear hfz10_0 hfz10_1 hfz10_2 hfz10_3 hfz10_4
     try clear hfz13_0 hfz13_1 hfz13_2 hfz13_3 hfz13_4
     try clear hfz8_0 hfz8_1 hfz8_2 hfz8_3 hfz8_4
     obtain ⟨x6_1, x19_1, rfl, HA, HK1, HO_6, BK176, HB⟩ := hrel
     cases gk with
     | zero => exact absurd HA.out (by simp [schema_Fill.l0])
     | succ k1 =>
      have H := HA.out
      clear HA
      simp only [schema_Fill.l0] at H
      by_cases c14 : x19_1 < (l0_4.length : Int)
      ·
       rw [if_pos c14] at H
       have c14b0 : decide (x19_1 < (l0_4.length : Int)) = true := decide_eq_true c14
       clear c14
       by_cases c15 : 0 ≤ x19_1
       ·
        rw [if_pos c15] at H
        have c15b0 : decide (0 ≤ x19_1) = true := decide_eq_true c15
        clear c15
        by_cases c16 : x19_1 < (l0_4.length : Int)
        ·
         rw [if_pos c16] at H
         have c16b0 : decide (x19_1 < (l0_4.length : Int)) = true := decide_eq_true c16
         clear c16
         by_cases c17 : x19_1 < (x6_1.length : Int)
         ·
          rw [if_pos c17] at H
          have c17b0 : decide (x19_1 < (x6_1.length : Int)) = true := decide_eq_true c17
          clear c17
          obtain ⟨y183, hy183⟩ : ∃ y_ : List (S52), y_ = (x6_1.set (x19_1 : Int).toNat (⟨(rd_T54 l0_4 x19_1).f4.f0, (rd_T54 l0_4 x19_1).f4.f1, (rd_T54 l0_4 x19_1).f4.f2⟩ : S52)) := ⟨_, rfl⟩
          replace H : (schema_Fill.l0 k1 l1 y183 l0_4 (l0_4.length : Int) (wrap64 (x19_1 + 1)) a0_0 a0_1 a0_2 a0_3 l0_4) = some (r1, r2) := by first | (rw [hy183]; with_reducible exact H) | (have H2_ := (Option.bind_some _ _).symm.trans H; rw [hy183]; with_reducible exact H2_) | (have H2_ := (Option.bind_some _ _).symm.trans H; with_reducible exact H2_) | with_reducible exact H | (rw [hy183]; exact H) | exact H
          have Ny183 := aM hy183
          clear hy183
          have H' := aM H
          clear H
          have p181 : 0 ≤ (x19_1 : Int) := oD yA
          have q181 : x19_1 < (l0_4.length : Int) := oD yA
          obtain ⟨ad181, e181, hx181_0, hx181_1, hx181_2, hx181_3, hx181_4, hx181_5, hx181_6, hx181_7⟩ := at_T54 HR0_4.out x19_1 p181 q181
          cases e181
          replace hx181_0 := pw_cell_below HB.out hx181_0
          replace hx181_1 := pw_cell_below HB.out hx181_1
          replace hx181_2 := pw_cell_below HB.out hx181_2
          replace hx181_3 := pw_cell_below HB.out hx181_3
          replace hx181_4 := pw_cell_below HB.out hx181_4
          replace hx181_5 := pw_cell_below HB.out hx181_5
          replace hx181_6 := pw_cell_below HB.out hx181_6
          replace hx181_7 := pw_cell_below HB.out hx181_7
          replace p181 := eq_true p181
          replace q181 := eq_true q181
          go_wp2_with (first | ((with_reducible refine gate_dst (N := 8) rfl ?_); refine yX (N := 8) (cs := #[.int .i64 0, .string (⟨#[]⟩ : ByteArray), .int .i64 0, .int .i64 0, .bool false, .int .i64 0, .int .i64 0, .string (⟨#[]⟩ : ByteArray)]) (t := 54) ?_; intro gb182 hg w19 hbox hb; replace HO_6 := aM (Kd.R_below (yR HO_6.out) hb); have BK182 := aM (hbox); have GW182 := yZ hg (yG1 HB GE176.out); have GE182 := yZ hg (yG1 HB GE176.out); replace HB := aM (bP (yG1 HB GE176.out) hb); have NB176_182 := yN hg (yK BK176); have NB182_176 := yM hg (yK BK176); replace BK176 := aM (kB (yK BK176) hb); clear hb hbox hg; have hnb20 := NB182_176.out; have hnc20 := NB176_182.out; obtain ⟨hcz21_0, hcz21_1, hcz21_2, hcz21_3, hcz21_4, hcz21_5, hcz21_6, hcz21_7, hfz21_0, hfz21_1, hfz21_2, hfz21_3, hfz21_4, hfz21_5, hfz21_6, hfz21_7⟩ := cells8 BK182.out) | ((with_reducible refine gate_store (t := 54) (p := 8) rfl ?_); refine store_event (t := 54) (p := 8) (v := ?vo_w22) (w1 := ((((((((w19.setCell ⟨gb182, 0, none⟩ (.int .i64 ((rd_T54 l0_4 x19_1).f0))).setCell ⟨gb182, 1, none⟩ (.string ((rd_T54 l0_4 x19_1).f1))).setCell ⟨gb182, 2, none⟩ (.int .i64 ((rd_T54 l0_4 x19_1).f2.f0))).setCell ⟨gb182, 3, none⟩ (.int .i64 ((rd_T54 l0_4 x19_1).f2.f1))).setCell ⟨gb182, 4, none⟩ (.bool ((rd_T54 l0_4 x19_1).f3))).setCell ⟨gb182, 5, none⟩ (.int .i64 ((rd_T54 l0_4 x19_1).f4.f0))).setCell ⟨gb182, 6, none⟩ (.int .i64 ((rd_T54 l0_4 x19_1).f4.f1))).setCell ⟨gb182, 7, none⟩ (.string ((rd_T54 l0_4 x19_1).f4.f2)))) ?hg ?ho ?hn ?hr ?_; (case ho => rfl); (case hg => rfl); (case hn => rfl); (case hr => first | (go_simp; done) | (go_simp; rfl)); intro w22 hw; have n0_ : Aside0 (Kd.R k52 52 w22 w.heap.size (fun _ => True) v179 x6_1) := ⟨(by rw [hw]; exact (by (with_reducible repeat (first | apply Kd.R_alloc | apply Kd.R_drewN | apply Kd.R_drew)); exact Kd.R_mono (Kd.R_far (p := ⟨gb182, 7, none⟩) (Kd.R_far (p := ⟨gb182, 6, none⟩) (Kd.R_far (p := ⟨gb182, 5, none⟩) (Kd.R_far (p := ⟨gb182, 4, none⟩) (Kd.R_far (p := ⟨gb182, 3, none⟩) (Kd.R_far (p := ⟨gb182, 2, none⟩) (Kd.R_far (p := ⟨gb182, 1, none⟩) (Kd.R_far (p := ⟨gb182, 0, none⟩) (Kd.R_types HO_6.out BK182.out (by decide)) (fun _ hk => hk.2) (.int .i64 ((rd_T54 l0_4 x19_1).f0))) (fun _ hk => hk.2) (.string ((rd_T54 l0_4 x19_1).f1))) (fun _ hk => hk.2) (.int .i64 ((rd_T54 l0_4 x19_1).f2.f0))) (fun _ hk => hk.2) (.int .i64 ((rd_T54 l0_4 x19_1).f2.f1))) (fun _ hk => hk.2) (.bool ((rd_T54 l0_4 x19_1).f3))) (fun _ hk => hk.2) (.int .i64 ((rd_T54 l0_4 x19_1).f4.f0))) (fun _ hk => hk.2) (.int .i64 ((rd_T54 l0_4 x19_1).f4.f1))) (fun _ hk => hk.2) (.string ((rd_T54 l0_4 x19_1).f4.f2))) (fun _ hk => trivial)))⟩; have n1_ : Aside0 (w22.heap[gb176]? = some (.cells #[.int .i64 a0_0, .string a0_1, .int .i64 a0_2, .int .i64 a0_3, .slice (some ad181) l0_4.length c0_4] 24 (0, 0))) := ⟨(by rw [hw]; exact (yF1 BK176 NB176_182.out))⟩; have n2_ : Aside0 (w22.heap[gb182]? = some (.cells #[.int .i64 ((rd_T54 l0_4 x19_1).f0), .string ((rd_T54 l0_4 x19_1).f1), .int .i64 ((rd_T54 l0_4 x19_1).f2.f0), .int .i64 ((rd_T54 l0_4 x19_1).f2.f1), .bool ((rd_T54 l0_4 x19_1).f3), .int .i64 ((rd_T54 l0_4 x19_1).f4.f0), .int .i64 ((rd_T54 l0_4 x19_1).f4.f1), .string ((rd_T54 l0_4 x19_1).f4.f2)] 54 (0, 0))) := ⟨(by rw [hw]; exact (puts8 BK182.out))⟩; have n3_ : Aside0 (Below w.heap.size w w22) := ⟨(by rw [hw]; exact (yG2 HB GE176.out GE182.out))⟩; clear hw; clear HO_6; clear BK176; clear BK182; clear HB; have HO_6 := n0_; have BK176 := n1_; have BK182 := n2_; have HB := n3_; clear n0_ n1_ n2_ n3_; obtain ⟨hcz23_0, hcz23_1, hcz23_2, hcz23_3, hcz23_4, hcz23_5, hcz23_6, hcz23_7, hfz23_0, hfz23_1, hfz23_2, hfz23_3, hfz23_4, hfz23_5, hfz23_6, hfz23_7⟩ := cells8 BK182.out; have p18 : 0 ≤ (x19_1 : Int) := oD yA; have q18 : (x19_1 : Int) < ((x6_1.length : Int) : Int) := oD yA; obtain ⟨go18, co18, eo18, gb18, gl18, cl18, HG18⟩ := Kd.R_form HO_6.out (by omega); (first | cases eo18 | (injection eo18 with ea_ en_ ec_; (first | subst ea_ | (injection ea_ with ea_; subst ea_)); subst ec_; clear en_)); have GB18 := aM gb18; have GG18 := aM HG18; clear gb18 gl18 HG18; obtain ⟨ce18, hcl18, hM18, hcc18, hfr18⟩ := Kd.R_elem HO_6.out z52 (x19_1 : Int) p18 q18; obtain rfl := k52_openM hM18; have hx18_0 : w22.cell? ⟨go18, (x19_1 : Int).toNat * 3, none⟩ = some (.int .i64 ((rd_T52 x6_1 x19_1).f0)) := hcc18 0 _ rfl; have hx18_1 : w22.cell? ⟨go18, (x19_1 : Int).toNat * 3 + 1, none⟩ = some (.int .i64 ((rd_T52 x6_1 x19_1).f1)) := hcc18 1 _ rfl; have hx18_2 : w22.cell? ⟨go18, (x19_1 : Int).toNat * 3 + 2, none⟩ = some (.string ((rd_T52 x6_1 x19_1).f2)) := hcc18 2 _ rfl; have hf18_0 : w22.frozen? ⟨go18, (x19_1 : Int).toNat * 3, none⟩ = false := hfr18 0; have hf18_1 : w22.frozen? ⟨go18, (x19_1 : Int).toNat * 3 + 1, none⟩ = false := hfr18 1; have hf18_2 : w22.frozen? ⟨go18, (x19_1 : Int).toNat * 3 + 2, none⟩ = false := hfr18 2; clear hcl18 hcc18 hfr18 hM18; replace p18 := eq_true p18; replace q18 := eq_true q18; have HX24 := aM (show Kd.R k52 52 w22 w.heap.size (fun _ => True) (.slice (some ⟨go18, 0, none⟩) x6_1.length co18) x6_1 from (yR HO_6.out)); obtain ⟨ce24, hcl24, hM24, hcc24, hfr24⟩ := Kd.R_elem HX24.out z52 (x19_1 : Int) (oD yA) (by have h_ : (x19_1 : Int) < ((x6_1.length : Int) : Int) := oD yA; first | exact h_ | (have e_ := (Kd.R_reads' HO_6.out).1; omega) | simpa using h_); obtain rfl := k52_openM hM24; have HP24 := Kd.R_seg HX24.out (x19_1 : Int) (oD yA) (by have h_ : (x19_1 : Int) < ((x6_1.length : Int) : Int) := oD yA; first | exact h_ | (have e_ := (Kd.R_reads' HO_6.out).1; omega) | simpa using h_) (seg := [.int .i64 ((rd_T54 l0_4 x19_1).f4.f0), .int .i64 ((rd_T54 l0_4 x19_1).f4.f1), .string ((rd_T54 l0_4 x19_1).f4.f2)]) (j := 0) hcl24 hcc24 (show 3 ≤ 3 from by decide) (x' := (⟨(rd_T54 l0_4 x19_1).f4.f0, (rd_T54 l0_4 x19_1).f4.f1, (rd_T54 l0_4 x19_1).f4.f2⟩ : S52)) (k52_mkM _ _ _ (⟨(rd_T54 l0_4 x19_1).f4.f0, (rd_T54 l0_4 x19_1).f4.f1, (rd_T54 l0_4 x19_1).f4.f2⟩ : S52) ) (fun _ hk => hk); have hx24_0 := hcc24 0 _ rfl; (try simp only [show (k52).sz = 3 from rfl, Nat.mul_one, Nat.add_zero] at hx24_0); have hf24_0 := hfr24 0; (try simp only [show (k52).sz = 3 from rfl, Nat.mul_one, Nat.add_zero] at hf24_0); have hx24_1 := hcc24 1 _ rfl; (try simp only [show (k52).sz = 3 from rfl, Nat.mul_one, Nat.add_zero] at hx24_1); have hf24_1 := hfr24 1; (try simp only [show (k52).sz = 3 from rfl, Nat.mul_one, Nat.add_zero] at hf24_1); have hx24_2 := hcc24 2 _ rfl; (try simp only [show (k52).sz = 3 from rfl, Nat.mul_one, Nat.add_zero] at hx24_2); have hf24_2 := hfr24 2; (try simp only [show (k52).sz = 3 from rfl, Nat.mul_one, Nat.add_zero] at hf24_2); clear hcl24 hcc24 hfr24 hM24) | ((with_reducible refine gate_store (t := 52) (p := 28) rfl ?_); refine store_event (t := 52) (p := 28) (v := ?vo_w25) (w1 := (((w22.setCell ⟨go18, (x19_1 : Int).toNat * 3, none⟩ (.int .i64 ((rd_T54 l0_4 x19_1).f4.f0))).setCell ⟨go18, (x19_1 : Int).toNat * 3 + 1, none⟩ (.int .i64 ((rd_T54 l0_4 x19_1).f4.f1))).setCell ⟨go18, (x19_1 : Int).toNat * 3 + 2, none⟩ (.string ((rd_T54 l0_4 x19_1).f4.f2)))) ?hg ?ho ?hn ?hr ?_; (case ho => rfl); (case hg => rfl); (case hn => rfl); (case hr => first | (go_simp; done) | (go_simp; rfl)); intro w25 hw; have hg : w22.grownBy w25 (some go18) := (by rw [hw]; exact HP24.2); have hp_ : Kd.R k52 52 w25 w.heap.size (fun _ => True) (.slice (some ⟨go18, 0, none⟩) x6_1.length co18) y183 := (by rw [hw, Ny183.out]; exact HP24.1); clear HP24; replace BK176 := aM (blk_grown (g := gb176) (o := .cells #[.int .i64 a0_0, .string a0_1, .int .i64 a0_2, .int .i64 a0_3, .slice (some ad181) l0_4.length c0_4] 24 (0, 0)) (yK BK176) hg (Kd.R_ne HO_6.out BK176.out (by decide))); replace BK182 := aM (blk_grown (g := gb182) (o := .cells #[.int .i64 ((rd_T54 l0_4 x19_1).f0), .string ((rd_T54 l0_4 x19_1).f1), .int .i64 ((rd_T54 l0_4 x19_1).f2.f0), .int .i64 ((rd_T54 l0_4 x19_1).f2.f1), .bool ((rd_T54 l0_4 x19_1).f3), .int .i64 ((rd_T54 l0_4 x19_1).f4.f0), .int .i64 ((rd_T54 l0_4 x19_1).f4.f1), .string ((rd_T54 l0_4 x19_1).f4.f2)] 54 (0, 0)) (yK BK182) hg (Kd.R_ne HO_6.out BK182.out (by decide))); replace HO_6 := aM (hp_); replace HB := aM ((by rw [hw]; exact bS (bS (bS (HB.out) GB18.out) GB18.out) GB18.out : Below w.heap.size w w25)); clear hg hw hp_))
          go_roundg k1
          case measure => have := HK1.out; omega
          case rel => exact ⟨(y183), (wrap64 (x19_1 + 1)), yS, H', ⟨by have := HK1.out; omega⟩, ⟨yR HO_6.out⟩, ⟨yK BK176⟩, ⟨yG2 HB GE176.out GE182.out⟩⟩
         ·
          rw [if_neg c17] at H
          exact absurd H (by simp)
        ·
         rw [if_neg c16] at H
         exact absurd H (by simp)
       ·
        rw [if_neg c15] at H
        exact absurd H (by simp)
      ·
       rw [if_neg c14] at H
       have c14b0 : decide (x19_1 < (l0_4.length : Int)) = false := decide_eq_false c14
       clear c14
       replace H := Option.bind_eq_some_iff.mp H
       obtain ⟨⟨t184, t187⟩, A260, H⟩ := H
       replace H : (some (t184, t187)) = some (r1, r2) := H
       have A26 := aM A260
       clear A260
       simp only [Option.some.injEq, Prod.mk.injEq] at H
       obtain ⟨rfl, rfl⟩ := H
       obtain ⟨hcz27_0, hcz27_1, hcz27_2, hcz27_3, hcz27_4, hfz27_0, hfz27_1, hfz27_2, hfz27_3, hfz27_4⟩ := cells5 BK176.out
       obtain ⟨Ao28, co28, eo28⟩ := Kd.R_slice HO_6.out
       subst eo28
       go_wp2_with (first | (go_at_call 63; (with_reducible refine (schema_lay_f64.calls k1 a0_0 a0_1 a0_2 a0_3 _ _ l0_4 (fun k_ => some k_ = (.slice Ao28 x6_1.length co28 : Value).ownBlock) (.slice Ao28 x6_1.length co28) x6_1 _ _ l1 t184 t187 w _ ?side1 ?side2 ?side3 ?side4 ?side5 ?side6 ?side7 A26.out).mono ?_); (case side1 => exact yG1 HB GE176.out); (case side2 => exact Kd.C_kept_came k54_heap HR0_4.out (yG1 HB GE176.out) (fun k_ hs_ => (fun e_ => Kd.R_base HO_6.out k_ e_.symm) hs_)); (case side3 => exact HC0_4.out); (case side4 => exact Kd.R_tight rfl HO_6.out); (case side5 => exact Kd.C_kept_came k96_heap HR1.out (yG1 HB GE176.out) (fun k_ hs_ => (fun e_ => Kd.R_base HO_6.out k_ e_.symm) hs_)); (case side6 => exact HC1.out); (case side7 => first | (with_reducible exact HG.out) | exact Glob.below HG.out (yG1 HB GE176.out)); rintro e w29 ⟨v185, rfl, ho0, hb, hkp⟩; have n0_ := aM (blk_kept (yK BK176) hkp (fun hs_ => (fun e_ => (Kd.R_ne HO_6.out BK176.out (by decide)) e_) hs_)); have n1_ := aM (Kd.R_mono (ok' := fun k_ => True) ho0 (fun k_ hk_ => trivial)); have n2_ := aM (hb); clear BK176; clear HB; clear HO_6; have BK176 := n0_; have HO186 := n1_; have HB := n2_; clear n0_ n1_ n2_; (try clear hb); (try clear hkp); (try clear ho0)))
       go_ret2
       exact ⟨_, yE, yR HO186.out, yG1 HB GE176.out⟩
   ·
    rw [if_neg c6] at H
    exact absurd H (by simp)
  ·
   rw [if_neg c5] at H
   exact absurd H (by simp)
 ·
  replace c4 := Bool.eq_false_iff.mpr c4
  subst c4
  have H1 : (some (([] : List (S52)), 2)) = some (r1, r2) := by rw [if_neg (show ¬ (false = true) by decide)] at H; exact H
  clear H
  have H := H1
  clear H1
  simp only [Option.some.injEq, Prod.mk.injEq] at H
  obtain ⟨rfl, rfl⟩ := H
  go_enter Tryd.func21, Tryd.ntmps21
  go_wp2_with (first | ((with_reducible refine gate_dst (N := 2) rfl ?_); refine yX (N := 2) (cs := #[.int .i64 a0_0, .string a0_1, .int .i64 a0_2, .int .i64 a0_3, .slice A0_4 l0_4.length c0_4]) (t := 24) ?_; intro gb176 hg w30 hbox hb; have BK176 := aM (hbox); have GW176 := yZ hg (yB HB); have GE176 := yZ hg (yB HB); replace HB := aM (bP (yB HB) hb); clear hb hbox hg; obtain ⟨hcz31_0, hcz31_1, hcz31_2, hcz31_3, hcz31_4, hfz31_0, hfz31_1, hfz31_2, hfz31_3, hfz31_4⟩ := cells5 BK176.out) | ((with_reducible refine gate_callee (f := 26) rfl ?_); refine yC 10 Tryd.func26 #[.agg #[.int .i64 a0_0, .string a0_1, .int .i64 a0_2, .int .i64 a0_3, .slice A0_4 l0_4.length c0_4]] rfl ?_; (with_reducible refine (schema_RightTable.calls k a0_0 a0_1 a0_2 a0_3 _ _ l0_4 false _ ?side1 ?side2 ?side3 A3.out).mono ?_); (case side1 => exact yW (Kd.C_below HR0_4.out HB.out)); (case side2 => exact HC0_4.out); (case side3 => first | (with_reducible exact HG.out) | exact Glob.below HG.out (yG1 HB GE176.out)); rintro e w32 ⟨rfl, hb⟩; refine ⟨_, rfl, ?_⟩; replace BK176 := aM (kB (yK BK176) hb); replace HB := aM (bP (yG1 HB GE176.out) hb); (try clear hb)))
  go_ret2
  exact ⟨_, yE, by first | exact Kd.R_nil _ _ _ _ _ | exact Kd.N_nil _ _ _ _ _ | exact Kd.V_nil _ _ _ _ _ | exact Kd.Q_nil _ _ _ _ _ | exact Kd.S_nil _ _ _ _ _, yG1 HB GE176.out⟩
/-! ### haulageref08_SameRow: function 23 -/
def haulageref08_SameRow.l0 : Nat → List (S52) → List (S52) → Int → Option (Bool)
 | 0, _, _, _ => none
 | k + 1, x0, x1, x5 => if x5 < (x0.length : Int) then (if 0 ≤ x5 then (if x5 < (x1.length : Int) then (if (!(((rd_T52 x0 x5).f0) == ((rd_T52 x1 x5).f0)) || (!(((rd_T52 x0 x5).f1) == ((rd_T52 x1 x5).f1)) || (!((((rd_T52 x0 x5).f2).toList) == (((rd_T52 x1 x5).f2).toList))))) = true then (some false) else (haulageref08_SameRow.l0 k x0 x1 (wrap64 (x5 + 1)))) else (none)) else (none)) else (some true)
def haulageref08_SameRow.f (k : Nat) (l0 : List (S52)) (l1 : List (S52)) : Option (Bool) := if (l0.length : Int) = (l1.length : Int) then (haulageref08_SameRow.l0 k l0 l1 0) else (some false)
theorem haulageref08_SameRow.mono_l : ∀ k, (∀ y0 y1 y2, LeO (haulageref08_SameRow.l0 k y0 y1 y2) (haulageref08_SameRow.l0 (k + 1) y0 y1 y2))
 | 0 => fun _ _ _ r h => by simp [haulageref08_SameRow.l0] at h
 | k + 1 => by
  have ih0 := haulageref08_SameRow.mono_l k
  ·
   intro y0 y1 y2
   unfold haulageref08_SameRow.l0
   repeat' first
   | (with_reducible exact ih0 _ _ _)
   | (with_reducible exact LeO.refl _)
   | (with_reducible exact LeO.none _)
   | (with_reducible refine LeO.ite ?_ ?_)
   | (with_reducible refine LeO.bind ?_ (fun _ => ?_))
   | exact ih0 _ _ _
   | exact LeO.none _
   | refine LeO.ite ?_ ?_
   | refine LeO.bind ?_ (fun _ => ?_)
theorem haulageref08_SameRow.mono : ∀ a0 a1 k, LeO (haulageref08_SameRow.f k a0 a1) (haulageref08_SameRow.f (k + 1) a0 a1) := by
 intro a0 a1 k
 have ih0 := haulageref08_SameRow.mono_l k
 unfold haulageref08_SameRow.f
 repeat' first
   | (with_reducible exact ih0 _ _ _)
   | (with_reducible exact LeO.refl _)
   | (with_reducible exact LeO.none _)
   | (with_reducible refine LeO.ite ?_ ?_)
   | (with_reducible refine LeO.bind ?_ (fun _ => ?_))
   | exact ih0 _ _ _
   | exact LeO.none _
   | refine LeO.ite ?_ ?_
   | refine LeO.bind ?_ (fun _ => ?_)
set_option maxHeartbeats 8000000 in
set_option maxRecDepth 100000 in
theorem haulageref08_SameRow.calls (k : Nat) (A0 : Option Addr) (c0 : Nat) (l0 : List (S52)) (A1 : Option Addr) (c1 : Nat) (l1 : List (S52)) (r : Bool) (w : World) (hr0 : Kd.C k52 w A0 l0.length l0) (hc0 : l0.length ≤ c0) (hr1 : Kd.C k52 w A1 l1.length l1) (hc1 : l1.length ≤ c1) (h : haulageref08_SameRow.f k l0 l1 = some r) :
  Calls Tryd.prog 23 #[.slice A0 l0.length c0, .slice A1 l1.length c1] w fun e w' => e = .returned (.bool r) ∧ Drawn0 w w' := by
 have hu52 := Tryd.underlying52
 have HR0 := aM hr0
 have HC0 := aM hc0
 clear hr0 hc0
 have HR1 := aM hr1
 have HC1 := aM hc1
 clear hr1 hc1
 have H : (if (l0.length : Int) = (l1.length : Int) then (haulageref08_SameRow.l0 k l0 l1 0) else (some false)) = some r := h
 clear h
 by_cases c3 : (l0.length : Int) = (l1.length : Int)
 ·
  rw [if_pos c3] at H
  have c3b0 : ((l0.length : Int) == (l1.length : Int)) = true := beq_iff_eq.mpr c3
  have c3b1 : ((l0.length : Int) != (l1.length : Int)) = false := bne_eq_false_iff_eq.mpr c3
  have c3b2 : (l0.length == l1.length) = true := by first | simpa using c3 | (simp at c3 ⊢; omega)
  clear c3
  have H' := aM H
  clear H
  go_enter Tryd.func23, Tryd.ntmps23
  go_wp2
  repeat (go_quiet (fail); try go_wp2)
  go_loopg [5] k (fun kq v5 w' => ∃ (x5_1 : Int), v5 = .int .i64 x5_1 ∧ Aside0 (haulageref08_SameRow.l0 kq l0 l1 x5_1 = some r) ∧ Aside0 (kq ≤ k) ∧ Drawn0 w w')
  case atStart => exact ⟨(0), yS, H', ⟨Nat.le_refl _⟩, yD⟩
  case round =>
   clear H'
   try clear c1
   try clear c2
   try clear p2
   try clear c3
   try clear c3b0
   try clear c3b1
   try clear c3b2
   obtain ⟨x5_1, rfl, HA, HK1, ⟨m1, rfl⟩⟩ := hrel
   cases gk with
   | zero => exact absurd HA.out (by simp [haulageref08_SameRow.l0])
   | succ k1 =>
    have H := HA.out
    clear HA
    simp only [haulageref08_SameRow.l0] at H
    by_cases c4 : x5_1 < (l0.length : Int)
    ·
     rw [if_pos c4] at H
     have c4b0 : decide (x5_1 < (l0.length : Int)) = true := decide_eq_true c4
     clear c4
     by_cases c5 : 0 ≤ x5_1
     ·
      rw [if_pos c5] at H
      have c5b0 : decide (0 ≤ x5_1) = true := decide_eq_true c5
      clear c5
      by_cases c6 : x5_1 < (l1.length : Int)
      ·
       rw [if_pos c6] at H
       have c6b0 : decide (x5_1 < (l1.length : Int)) = true := decide_eq_true c6
       clear c6
       by_cases c7 : (!(((rd_T52 l0 x5_1).f0) == ((rd_T52 l1 x5_1).f0)) || (!(((rd_T52 l0 x5_1).f1) == ((rd_T52 l1 x5_1).f1)) || (!((((rd_T52 l0 x5_1).f2).toList) == (((rd_T52 l1 x5_1).f2).toList))))) = true
       ·
        rw [if_pos c7] at H
        have c7b0 : (!(((rd_T52 l0 x5_1).f0) == ((rd_T52 l1 x5_1).f0)) || (!(((rd_T52 l0 x5_1).f1) == ((rd_T52 l1 x5_1).f1)) || (!((((rd_T52 l0 x5_1).f2).toList) == (((rd_T52 l1 x5_1).f2).toList))))) = true := c7
        clear c7
        obtain rfl := Option.some.inj H
        have p188 : 0 ≤ (x5_1 : Int) := oD yA
        have q188 : x5_1 < (l0.length : Int) := oD yA
        obtain ⟨ad188, e188, hx188_0, hx188_1, hx188_2⟩ := at_T52 HR0.out x5_1 p188 q188
        cases e188
        replace p188 := eq_true p188
        replace q188 := eq_true q188
        have p189 : 0 ≤ (x5_1 : Int) := oD yA
        have q189 : x5_1 < (l1.length : Int) := oD yA
        obtain ⟨ad189, e189, hx189_0, hx189_1, hx189_2⟩ := at_T52 HR1.out x5_1 p189 q189
        cases e189
        replace p189 := eq_true p189
        replace q189 := eq_true q189
        go_wp2
        repeat (go_quiet (fail); try go_wp2)
        go_ret
        exact ⟨yS, yD⟩
       ·
        rw [if_neg c7] at H
        have c7b0 : (!(((rd_T52 l0 x5_1).f0) == ((rd_T52 l1 x5_1).f0)) || (!(((rd_T52 l0 x5_1).f1) == ((rd_T52 l1 x5_1).f1)) || (!((((rd_T52 l0 x5_1).f2).toList) == (((rd_T52 l1 x5_1).f2).toList))))) = false := by simpa using c7
        clear c7
        have H' := aM H
        clear H
        have p188 : 0 ≤ (x5_1 : Int) := oD yA
        have q188 : x5_1 < (l0.length : Int) := oD yA
        obtain ⟨ad188, e188, hx188_0, hx188_1, hx188_2⟩ := at_T52 HR0.out x5_1 p188 q188
        cases e188
        replace p188 := eq_true p188
        replace q188 := eq_true q188
        have p189 : 0 ≤ (x5_1 : Int) := oD yA
        have q189 : x5_1 < (l1.length : Int) := oD yA
        obtain ⟨ad189, e189, hx189_0, hx189_1, hx189_2⟩ := at_T52 HR1.out x5_1 p189 q189
        cases e189
        replace p189 := eq_true p189
        replace q189 := eq_true q189
        go_wp2
        repeat (go_quiet (fail); try go_wp2)
        go_roundg k1
        case measure => have := HK1.out; omega
        case rel => exact ⟨(wrap64 (x5_1 + 1)), yS, H', ⟨by have := HK1.out; omega⟩, yD⟩
      ·
       rw [if_neg c6] at H
       exact absurd H (by simp)
     ·
      rw [if_neg c5] at H
      exact absurd H (by simp)
    ·
     rw [if_neg c4] at H
     have c4b0 : decide (x5_1 < (l0.length : Int)) = false := decide_eq_false c4
     clear c4
     obtain rfl := Option.some.inj H
     go_wp2
     repeat (go_quiet (fail); try go_wp2)
     go_ret
     exact ⟨yS, yD⟩
 ·
  rw [if_neg c3] at H
  have c3b0 : ((l0.length : Int) == (l1.length : Int)) = false := beq_eq_false_iff_ne.mpr c3
  have c3b1 : ((l0.length : Int) != (l1.length : Int)) = true := bne_iff_ne.mpr c3
  have c3b2 : (l0.length == l1.length) = false := by first | simpa using c3 | (simp at c3 ⊢; omega)
  obtain rfl := Option.some.inj H
  go_enter Tryd.func23, Tryd.ntmps23
  go_wp2
  repeat (go_quiet (fail); try go_wp2)
  go_ret
  exact ⟨yS, yD⟩
/-! ### haulagelaw08_Small: function 59 -/
def haulagelaw08_Small.f  : Option (Int × ByteArray × Int × Int × (List (S54))) := some (3, (⟨#[116]⟩ : ByteArray), 0, 2, (([(⟨0, (⟨#[97]⟩ : ByteArray), (⟨1, 0⟩ : S50), false, (⟨0, 0, (⟨#[]⟩ : ByteArray)⟩ : S52)⟩ : S54), (⟨1, (⟨#[98]⟩ : ByteArray), (⟨3, 5⟩ : S50), true, (⟨0, 0, (⟨#[]⟩ : ByteArray)⟩ : S52)⟩ : S54)] : List (S54))))
set_option maxHeartbeats 8000000 in
set_option maxRecDepth 100000 in
theorem haulagelaw08_Small.calls  (r1 : Int) (r2 : ByteArray) (r3 : Int) (r4 : Int) (r5 : List (S54)) (w : World) (h : haulagelaw08_Small.f  = some (r1, r2, r3, r4, r5)) :
  Calls Tryd.prog 59 #[] w fun e w' => ∃ v4_ : Value, e = .returned (.agg #[.int .i64 r1, .string r2, .int .i64 r3, .int .i64 r4, v4_]) ∧ Kd.R k54 54 w' w.heap.size (fun _ => True) v4_ r5 ∧ Below w.heap.size w w' := by
 have hu24 := Tryd.underlying24
 have hu50 := Tryd.underlying50
 have hu54 := Tryd.underlying54
 have HB := aM (Below.refl w.heap.size w)
 have H : (some (3, (⟨#[116]⟩ : ByteArray), 0, 2, (([(⟨0, (⟨#[97]⟩ : ByteArray), (⟨1, 0⟩ : S50), false, (⟨0, 0, (⟨#[]⟩ : ByteArray)⟩ : S52)⟩ : S54), (⟨1, (⟨#[98]⟩ : ByteArray), (⟨3, 5⟩ : S50), true, (⟨0, 0, (⟨#[]⟩ : ByteArray)⟩ : S52)⟩ : S54)] : List (S54))))) = some (r1, r2, r3, r4, r5) := h
 clear h
 obtain ⟨y191, hy191⟩ : ∃ y_ : List (S54), y_ = (([(⟨0, (⟨#[97]⟩ : ByteArray), (⟨1, 0⟩ : S50), false, (⟨0, 0, (⟨#[]⟩ : ByteArray)⟩ : S52)⟩ : S54), (⟨1, (⟨#[98]⟩ : ByteArray), (⟨3, 5⟩ : S50), true, (⟨0, 0, (⟨#[]⟩ : ByteArray)⟩ : S52)⟩ : S54)] : List (S54))) := ⟨_, rfl⟩
 replace H : (some (3, (⟨#[116]⟩ : ByteArray), 0, 2, y191)) = some (r1, r2, r3, r4, r5) := by first | (rw [hy191]; with_reducible exact H) | (have H2_ := (Option.bind_some _ _).symm.trans H; rw [hy191]; with_reducible exact H2_) | (have H2_ := (Option.bind_some _ _).symm.trans H; with_reducible exact H2_) | with_reducible exact H | (rw [hy191]; exact H) | exact H
 have Ny191 := aM hy191
 clear hy191
 simp only [Option.some.injEq, Prod.mk.injEq] at H
 obtain ⟨rfl, rfl, rfl, rfl, rfl⟩ := H
 go_enter Tryd.func59, Tryd.ntmps59
 go_wp2_with (first | ((with_reducible refine gate_dst (N := 0) rfl ?_); refine yX (N := 0) (cs := #[.int .i64 0, .string (⟨#[]⟩ : ByteArray), .int .i64 0, .int .i64 0, .slice none 0 0]) (t := 24) ?_; intro gb190 hg w1 hbox hb; have BK190 := aM (hbox); have GW190 := yZ hg (yB HB); have GE190 := yZ hg (yB HB); replace HB := aM (bP (yB HB) hb); clear hb hbox hg) | ((with_reducible refine gate_dst (N := 5) rfl ?_); refine Kd.R_lit k54 _ 54 ?hg (N := 5) ?hd (xs := ([(⟨0, (⟨#[97]⟩ : ByteArray), (⟨1, 0⟩ : S50), false, (⟨0, 0, (⟨#[]⟩ : ByteArray)⟩ : S52)⟩ : S54), (⟨1, (⟨#[98]⟩ : ByteArray), (⟨3, 5⟩ : S50), true, (⟨0, 0, (⟨#[]⟩ : ByteArray)⟩ : S52)⟩ : S54)] : List (S54))) (inner := [.int .i64 0, .string (⟨#[97]⟩ : ByteArray), .int .i64 1, .int .i64 0, .bool false, .int .i64 0, .int .i64 0, .string (⟨#[]⟩ : ByteArray), .int .i64 1, .string (⟨#[98]⟩ : ByteArray), .int .i64 3, .int .i64 5, .bool true, .int .i64 0, .int .i64 0, .string (⟨#[]⟩ : ByteArray)]) (ok := fun _ => True) (okp := fun _ => True) ?hr ?hp (fun _ hk => hk) trivial (Below.refl _ _) (Nat.le_refl _) (by simp) ?_; (case hd => rfl); (case hg => rfl); (case hr => first | (go_simp; done) | (go_simp; rfl)); (case hp => exact (Reps.c8 (show Kd.M k54 _ _ _ (⟨0, (⟨#[97]⟩ : ByteArray), (⟨1, 0⟩ : S50), false, (⟨0, 0, (⟨#[]⟩ : ByteArray)⟩ : S52)⟩ : S54) [.int .i64 0, .string (⟨#[97]⟩ : ByteArray), .int .i64 1, .int .i64 0, .bool false, .int .i64 0, .int .i64 0, .string (⟨#[]⟩ : ByteArray)] from (k54_mkM _ _ _ (⟨0, (⟨#[97]⟩ : ByteArray), (⟨1, 0⟩ : S50), false, (⟨0, 0, (⟨#[]⟩ : ByteArray)⟩ : S52)⟩ : S54) )) (Reps.c8 (show Kd.M k54 _ _ _ (⟨1, (⟨#[98]⟩ : ByteArray), (⟨3, 5⟩ : S50), true, (⟨0, 0, (⟨#[]⟩ : ByteArray)⟩ : S52)⟩ : S54) [.int .i64 1, .string (⟨#[98]⟩ : ByteArray), .int .i64 3, .int .i64 5, .bool true, .int .i64 0, .int .i64 0, .string (⟨#[]⟩ : ByteArray)] from (k54_mkM _ _ _ (⟨1, (⟨#[98]⟩ : ByteArray), (⟨3, 5⟩ : S50), true, (⟨0, 0, (⟨#[]⟩ : ByteArray)⟩ : S52)⟩ : S54) )) (Reps.none _ _)))); intro v192 w2 ho3 hb hg_ hnew_; clear hg_ hnew_; (first | rw [← Ny191.out] at ho3 | (simp only [Int.reduceToNat] at ho3; rw [← Ny191.out] at ho3)); have HO193 := aM (Kd.R_lower ho3 (bZ (yG1 HB GE190.out))); replace BK190 := aM (kB (yK BK190) hb); replace HB := aM (bP (yG1 HB GE190.out) hb); clear hb ho3; obtain ⟨Ao4, co4, eo4⟩ := Kd.R_slice HO193.out; subst eo4; obtain ⟨hcz5_0, hcz5_1, hcz5_2, hcz5_3, hcz5_4, hfz5_0, hfz5_1, hfz5_2, hfz5_3, hfz5_4⟩ := cells5 BK190.out))
 refine bodyPost_ret (results_cell_row rfl _ _ gb190 24 #[.int .i64 3, .string (⟨#[116]⟩ : ByteArray), .int .i64 0, .int .i64 2, .slice Ao4 y191.length co4] (0, 0) _ rfl (puts5 BK190.out) Tryd.underlying24 rfl (by kernel_rfl)) rfl ?_
 exact ⟨_, yE, by (with_reducible repeat (first | apply Kd.R_alloc | apply Kd.R_drewN | apply Kd.R_drew)); exact Kd.R_mono (Kd.R_far (p := ⟨gb190, 4, none⟩) (Kd.R_far (p := ⟨gb190, 3, none⟩) (Kd.R_far (p := ⟨gb190, 2, none⟩) (Kd.R_far (p := ⟨gb190, 1, none⟩) (Kd.R_far (p := ⟨gb190, 0, none⟩) (Kd.R_types HO193.out BK190.out (by decide)) (fun _ hk => hk.2) (.int .i64 3)) (fun _ hk => hk.2) (.string (⟨#[116]⟩ : ByteArray))) (fun _ hk => hk.2) (.int .i64 0)) (fun _ hk => hk.2) (.int .i64 2)) (fun _ hk => hk.2) (.slice Ao4 y191.length co4)) (fun _ hk => trivial), yG1 HB GE190.out⟩
/-! ### haulagelaw08_lives: function 19 -/
def haulagelaw08_lives.f (k : Nat)  : Option (Bool) := (haulagelaw08_Small.f).bind fun bt194 => ((schema_Fill.f k bt194.1 bt194.2.1 bt194.2.2.1 bt194.2.2.2.1 bt194.2.2.2.2 (([(⟨(⟨#[97]⟩ : ByteArray), (⟨1, 1, (⟨#[]⟩ : ByteArray)⟩ : S52)⟩ : S96)] : List (S96)))).bind fun bt204 => (if bt204.2 = 0 then ((haulageref08_SameRow.f k bt204.1 (([(⟨1, 1, (⟨#[]⟩ : ByteArray)⟩ : S52), (⟨0, 0, (⟨#[]⟩ : ByteArray)⟩ : S52)] : List (S52)))).bind fun t211 => (if t211 = true then ((haulagelaw08_Small.f).bind fun bt212 => ((schema_RightTable.f k bt212.1 bt212.2.1 bt212.2.2.1 bt212.2.2.2.1 bt212.2.2.2.2).bind fun t219 => (some t219))) else (some false))) else (some false)))
theorem haulagelaw08_lives.mono : ∀ k, LeO (haulagelaw08_lives.f k ) (haulagelaw08_lives.f (k + 1) ) := by
 intro  k
 unfold haulagelaw08_lives.f
 repeat' first
   | (with_reducible exact haulageref08_SameRow.mono _ _ _)
   | (with_reducible exact schema_Fill.mono _ _ _ _ _ _ _)
   | (with_reducible exact schema_RightTable.mono _ _ _ _ _ _)
   | (with_reducible exact LeO.refl _)
   | (with_reducible exact LeO.none _)
   | (with_reducible refine LeO.ite ?_ ?_)
   | (with_reducible refine LeO.bind ?_ (fun _ => ?_))
   | exact haulageref08_SameRow.mono _ _ _
   | exact schema_Fill.mono _ _ _ _ _ _ _
   | exact schema_RightTable.mono _ _ _ _ _ _
   | exact LeO.none _
   | refine LeO.ite ?_ ?_
   | refine LeO.bind ?_ (fun _ => ?_)
set_option maxHeartbeats 8000000 in
set_option maxRecDepth 100000 in
theorem haulagelaw08_lives.calls (k : Nat)  (r : Bool) (w : World) (hG : Glob w) (h : haulagelaw08_lives.f k  = some r) :
  Calls Tryd.prog 19 #[] w fun e w' => e = .returned (.bool r) ∧ Below w.heap.size w w' := by
 have hu52 := Tryd.underlying52
 have hu96 := Tryd.underlying96
 have HG := aM hG
 clear hG
 have HB := aM (Below.refl w.heap.size w)
 have H : ((haulagelaw08_Small.f).bind fun bt194 => ((schema_Fill.f k bt194.1 bt194.2.1 bt194.2.2.1 bt194.2.2.2.1 bt194.2.2.2.2 (([(⟨(⟨#[97]⟩ : ByteArray), (⟨1, 1, (⟨#[]⟩ : ByteArray)⟩ : S52)⟩ : S96)] : List (S96)))).bind fun bt204 => (if bt204.2 = 0 then ((haulageref08_SameRow.f k bt204.1 (([(⟨1, 1, (⟨#[]⟩ : ByteArray)⟩ : S52), (⟨0, 0, (⟨#[]⟩ : ByteArray)⟩ : S52)] : List (S52)))).bind fun t211 => (if t211 = true then ((haulagelaw08_Small.f).bind fun bt212 => ((schema_RightTable.f k bt212.1 bt212.2.1 bt212.2.2.1 bt212.2.2.2.1 bt212.2.2.2.2).bind fun t219 => (some t219))) else (some false))) else (some false)))) = some r := h
 clear h
 replace H := Option.bind_eq_some_iff.mp H
 obtain ⟨⟨t194, t195, t196, t197, t198⟩, A10, H⟩ := H
 replace H : ((schema_Fill.f k t194 t195 t196 t197 t198 (([(⟨(⟨#[97]⟩ : ByteArray), (⟨1, 1, (⟨#[]⟩ : ByteArray)⟩ : S52)⟩ : S96)] : List (S96)))).bind fun bt204 => (if bt204.2 = 0 then ((haulageref08_SameRow.f k bt204.1 (([(⟨1, 1, (⟨#[]⟩ : ByteArray)⟩ : S52), (⟨0, 0, (⟨#[]⟩ : ByteArray)⟩ : S52)] : List (S52)))).bind fun t211 => (if t211 = true then ((haulagelaw08_Small.f).bind fun bt212 => ((schema_RightTable.f k bt212.1 bt212.2.1 bt212.2.2.1 bt212.2.2.2.1 bt212.2.2.2.2).bind fun t219 => (some t219))) else (some false))) else (some false))) = some r := H
 have A1 := aM A10
 clear A10
 obtain ⟨y201, hy201⟩ : ∃ y_ : List (S96), y_ = (([(⟨(⟨#[97]⟩ : ByteArray), (⟨1, 1, (⟨#[]⟩ : ByteArray)⟩ : S52)⟩ : S96)] : List (S96))) := ⟨_, rfl⟩
 replace H : ((schema_Fill.f k t194 t195 t196 t197 t198 y201).bind fun bt204 => (if bt204.2 = 0 then ((haulageref08_SameRow.f k bt204.1 (([(⟨1, 1, (⟨#[]⟩ : ByteArray)⟩ : S52), (⟨0, 0, (⟨#[]⟩ : ByteArray)⟩ : S52)] : List (S52)))).bind fun t211 => (if t211 = true then ((haulagelaw08_Small.f).bind fun bt212 => ((schema_RightTable.f k bt212.1 bt212.2.1 bt212.2.2.1 bt212.2.2.2.1 bt212.2.2.2.2).bind fun t219 => (some t219))) else (some false))) else (some false))) = some r := by first | (rw [hy201]; with_reducible exact H) | (have H2_ := (Option.bind_some _ _).symm.trans H; rw [hy201]; with_reducible exact H2_) | (have H2_ := (Option.bind_some _ _).symm.trans H; with_reducible exact H2_) | with_reducible exact H | (rw [hy201]; exact H) | exact H
 have Ny201 := aM hy201
 clear hy201
 replace H := Option.bind_eq_some_iff.mp H
 obtain ⟨⟨t204, t207⟩, A20, H⟩ := H
 replace H : (if t207 = 0 then ((haulageref08_SameRow.f k t204 (([(⟨1, 1, (⟨#[]⟩ : ByteArray)⟩ : S52), (⟨0, 0, (⟨#[]⟩ : ByteArray)⟩ : S52)] : List (S52)))).bind fun t211 => (if t211 = true then ((haulagelaw08_Small.f).bind fun bt212 => ((schema_RightTable.f k bt212.1 bt212.2.1 bt212.2.2.1 bt212.2.2.2.1 bt212.2.2.2.2).bind fun t219 => (some t219))) else (some false))) else (some false)) = some r := H
 have A2 := aM A20
 clear A20
 by_cases c3 : t207 = 0
 ·
  rw [if_pos c3] at H
  have c3b0 : (t207 == 0) = true := beq_iff_eq.mpr c3
  have c3b1 : (t207 != 0) = false := bne_eq_false_iff_eq.mpr c3
  clear c3
  obtain ⟨y208, hy208⟩ : ∃ y_ : List (S52), y_ = (([(⟨1, 1, (⟨#[]⟩ : ByteArray)⟩ : S52), (⟨0, 0, (⟨#[]⟩ : ByteArray)⟩ : S52)] : List (S52))) := ⟨_, rfl⟩
  replace H : ((haulageref08_SameRow.f k t204 y208).bind fun t211 => (if t211 = true then ((haulagelaw08_Small.f).bind fun bt212 => ((schema_RightTable.f k bt212.1 bt212.2.1 bt212.2.2.1 bt212.2.2.2.1 bt212.2.2.2.2).bind fun t219 => (some t219))) else (some false))) = some r := by first | (rw [hy208]; with_reducible exact H) | (have H2_ := (Option.bind_some _ _).symm.trans H; rw [hy208]; with_reducible exact H2_) | (have H2_ := (Option.bind_some _ _).symm.trans H; with_reducible exact H2_) | with_reducible exact H | (rw [hy208]; exact H) | exact H
  have Ny208 := aM hy208
  clear hy208
  replace H := Option.bind_eq_some_iff.mp H
  obtain ⟨t211, A40, H⟩ := H
  replace H : (if t211 = true then ((haulagelaw08_Small.f).bind fun bt212 => ((schema_RightTable.f k bt212.1 bt212.2.1 bt212.2.2.1 bt212.2.2.2.1 bt212.2.2.2.2).bind fun t219 => (some t219))) else (some false)) = some r := H
  have A4 := aM A40
  clear A40
  by_cases c5 : t211 = true
  ·
   subst c5
   have H1 : ((haulagelaw08_Small.f).bind fun bt212 => ((schema_RightTable.f k bt212.1 bt212.2.1 bt212.2.2.1 bt212.2.2.2.1 bt212.2.2.2.2).bind fun t219 => (some t219))) = some r := by rw [if_pos rfl] at H; exact H
   clear H
   have H := H1
   clear H1
   replace H := Option.bind_eq_some_iff.mp H
   obtain ⟨⟨t212, t213, t214, t215, t216⟩, A60, H⟩ := H
   replace H : ((schema_RightTable.f k t212 t213 t214 t215 t216).bind fun t219 => (some t219)) = some r := H
   have A6 := aM A60
   clear A60
   replace H := Option.bind_eq_some_iff.mp H
   obtain ⟨t219, A70, H⟩ := H
   replace H : (some t219) = some r := H
   have A7 := aM A70
   clear A70
   obtain rfl := Option.some.inj H
   go_enter Tryd.func19, Tryd.ntmps19
   go_wp2_with (first | ((with_reducible refine gate_callee (f := 59) rfl ?_); refine yC 4 Tryd.func59 #[] rfl ?_; (with_reducible refine (haulagelaw08_Small.calls  t194 t195 t196 t197 t198 _ A1.out).mono ?_); rintro e w8 ⟨v199, rfl, ho0, hb⟩; refine ⟨_, rfl, ?_⟩; have HO200 := aM (Kd.R_lower ho0 (bZ (yB HB))); replace HB := aM (bP (yB HB) hb); (try clear hb); (try clear ho0)) | ((with_reducible refine gate_dst (N := 7) rfl ?_); (try (refine gate_guard (by rfl) ?_; dsimp only)); refine Kd.R_lit k96 _ 96 ?hg (N := 7) ?hd (xs := ([(⟨(⟨#[97]⟩ : ByteArray), (⟨1, 1, (⟨#[]⟩ : ByteArray)⟩ : S52)⟩ : S96)] : List (S96))) (inner := [.string (⟨#[97]⟩ : ByteArray), .int .i64 1, .int .i64 1, .string (⟨#[]⟩ : ByteArray)]) (ok := fun _ => True) (okp := fun _ => True) ?hr ?hp (fun _ hk => hk) trivial (Below.refl _ _) (Nat.le_refl _) (by simp) ?_; (case hd => rfl); (case hg => rfl); (case hr => first | (go_simp; done) | (go_simp; rfl)); (case hp => exact (Reps.c4 (show Kd.M k96 _ _ _ (⟨(⟨#[97]⟩ : ByteArray), (⟨1, 1, (⟨#[]⟩ : ByteArray)⟩ : S52)⟩ : S96) [.string (⟨#[97]⟩ : ByteArray), .int .i64 1, .int .i64 1, .string (⟨#[]⟩ : ByteArray)] from (k96_mkM _ _ _ (⟨(⟨#[97]⟩ : ByteArray), (⟨1, 1, (⟨#[]⟩ : ByteArray)⟩ : S52)⟩ : S96) )) (Reps.none _ _))); intro v202 w9 ho10 hb hg_ hnew_; clear hg_ hnew_; (first | rw [← Ny201.out] at ho10 | (simp only [Int.reduceToNat] at ho10; rw [← Ny201.out] at ho10)); replace HO200 := aM (Kd.R_below (yR HO200.out) hb); have HO203 := aM (Kd.R_lower ho10 (bZ (yB HB))); replace HB := aM (bP (yB HB) hb); clear hb ho10; obtain ⟨Ao11, co11, eo11⟩ := Kd.R_slice HO200.out; subst eo11; obtain ⟨Ao12, co12, eo12⟩ := Kd.R_slice HO203.out; subst eo12) | ((with_reducible refine gate_callee (f := 21) rfl ?_); refine yC 8 Tryd.func21 #[.agg #[.int .i64 t194, .string t195, .int .i64 t196, .int .i64 t197, .slice Ao11 t198.length co11], .slice Ao12 y201.length co12] rfl ?_; (with_reducible refine (schema_Fill.calls k t194 t195 t196 t197 _ _ t198 _ _ y201 t204 t207 _ ?side1 ?side2 ?side3 ?side4 ?side5 A2.out).mono ?_); (case side1 => exact yW (Kd.R_reads' HO200.out).2.2); (case side2 => exact (Kd.R_reads' HO200.out).2.1); (case side3 => exact yW (Kd.R_reads' HO203.out).2.2); (case side4 => exact (Kd.R_reads' HO203.out).2.1); (case side5 => first | (with_reducible exact HG.out) | exact Glob.below HG.out (yB HB)); rintro e w13 ⟨v205, rfl, ho0, hb⟩; refine ⟨_, rfl, ?_⟩; replace HO200 := aM (Kd.R_below (yR HO200.out) hb); replace HO203 := aM (Kd.R_below (yR HO203.out) hb); have HO206 := aM (Kd.R_lower ho0 (bZ (yB HB))); replace HB := aM (bP (yB HB) hb); (try clear hb); (try clear ho0)) | ((with_reducible refine gate_dst (N := 17) rfl ?_); (try (refine gate_guard (by rfl) ?_; dsimp only)); refine Kd.R_lit k52 _ 52 ?hg (N := 17) ?hd (xs := ([(⟨1, 1, (⟨#[]⟩ : ByteArray)⟩ : S52), (⟨0, 0, (⟨#[]⟩ : ByteArray)⟩ : S52)] : List (S52))) (inner := [.int .i64 1, .int .i64 1, .string (⟨#[]⟩ : ByteArray), .int .i64 0, .int .i64 0, .string (⟨#[]⟩ : ByteArray)]) (ok := fun _ => True) (okp := fun _ => True) ?hr ?hp (fun _ hk => hk) trivial (Below.refl _ _) (Nat.le_refl _) (by simp) ?_; (case hd => rfl); (case hg => rfl); (case hr => first | (go_simp; done) | (go_simp; rfl)); (case hp => exact (Reps.c3 (show Kd.M k52 _ _ _ (⟨1, 1, (⟨#[]⟩ : ByteArray)⟩ : S52) [.int .i64 1, .int .i64 1, .string (⟨#[]⟩ : ByteArray)] from (k52_mkM _ _ _ (⟨1, 1, (⟨#[]⟩ : ByteArray)⟩ : S52) )) (Reps.c3 (show Kd.M k52 _ _ _ (⟨0, 0, (⟨#[]⟩ : ByteArray)⟩ : S52) [.int .i64 0, .int .i64 0, .string (⟨#[]⟩ : ByteArray)] from (k52_mkM _ _ _ (⟨0, 0, (⟨#[]⟩ : ByteArray)⟩ : S52) )) (Reps.none _ _)))); intro v209 w14 ho15 hb hg_ hnew_; clear hg_ hnew_; (first | rw [← Ny208.out] at ho15 | (simp only [Int.reduceToNat] at ho15; rw [← Ny208.out] at ho15)); replace HO200 := aM (Kd.R_below (yR HO200.out) hb); replace HO203 := aM (Kd.R_below (yR HO203.out) hb); have HO210 := aM (Kd.R_lower (Kd.R_new' ho15 (Kd.R_lt (yR HO206.out))) (bZ (yB HB))); replace HO206 := aM (Kd.R_elder' (yR HO206.out) (Kd.R_base ho15) hb); replace HB := aM (bP (yB HB) hb); clear hb ho15; obtain ⟨Ao16, co16, eo16⟩ := Kd.R_slice HO206.out; subst eo16; obtain ⟨Ao17, co17, eo17⟩ := Kd.R_slice HO210.out; subst eo17) | (go_at_call 23; (with_reducible refine (haulageref08_SameRow.calls k _ _ t204 _ _ y208 true _ ?side1 ?side2 ?side3 ?side4 A4.out).mono ?_); (case side1 => exact yW (Kd.R_reads' HO206.out).2.2); (case side2 => exact (Kd.R_reads' HO206.out).2.1); (case side3 => exact yW (Kd.R_reads' HO210.out).2.2); (case side4 => exact (Kd.R_reads' HO210.out).2.1); rintro e w' ⟨rfl, ⟨nd, rfl⟩⟩) | (go_at_call 59; (with_reducible refine (haulagelaw08_Small.calls  t212 t213 t214 t215 t216 _ A6.out).mono ?_); rintro e w18 ⟨v217, rfl, ho0, hb⟩; replace HO203 := aM (Kd.R_below (yR HO203.out) hb); replace HO206 := aM (Kd.R_below (yR HO206.out) hb); replace HO210 := aM (Kd.R_below (yR HO210.out) hb); have HO218 := aM (Kd.R_lower (Kd.R_new' ho0 (Kd.R_lt (yR HO200.out))) (bZ (yB HB))); replace HO200 := aM (Kd.R_elder' (yR HO200.out) (Kd.R_base ho0) hb); replace HB := aM (bP (yB HB) hb); (try clear hb); (try clear ho0); obtain ⟨Ao19, co19, eo19⟩ := Kd.R_slice HO218.out; subst eo19) | (go_at_call 26; (with_reducible refine (schema_RightTable.calls k t212 t213 t214 t215 _ _ t216 t219 _ ?side1 ?side2 ?side3 A7.out).mono ?_); (case side1 => exact yW (Kd.R_reads' HO218.out).2.2); (case side2 => exact (Kd.R_reads' HO218.out).2.1); (case side3 => first | (with_reducible exact HG.out) | exact Glob.below HG.out (yB HB)); rintro e w20 ⟨rfl, hb⟩; replace HO200 := aM (Kd.R_below (yR HO200.out) hb); replace HO203 := aM (Kd.R_below (yR HO203.out) hb); replace HO206 := aM (Kd.R_below (yR HO206.out) hb); replace HO210 := aM (Kd.R_below (yR HO210.out) hb); replace HO218 := aM (Kd.R_below (yR HO218.out) hb); replace HB := aM (bP (yB HB) hb); (try clear hb)))
   go_ret
   exact ⟨yE, yB HB⟩
  ·
   replace c5 := Bool.eq_false_iff.mpr c5
   subst c5
   have H1 : (some false) = some r := by rw [if_neg (show ¬ (false = true) by decide)] at H; exact H
   clear H
   have H := H1
   clear H1
   obtain rfl := Option.some.inj H
   go_enter Tryd.func19, Tryd.ntmps19
   go_wp2_with (first | ((with_reducible refine gate_callee (f := 59) rfl ?_); refine yC 4 Tryd.func59 #[] rfl ?_; (with_reducible refine (haulagelaw08_Small.calls  t194 t195 t196 t197 t198 _ A1.out).mono ?_); rintro e w21 ⟨v199, rfl, ho0, hb⟩; refine ⟨_, rfl, ?_⟩; have HO200 := aM (Kd.R_lower ho0 (bZ (yB HB))); replace HB := aM (bP (yB HB) hb); (try clear hb); (try clear ho0)) | ((with_reducible refine gate_dst (N := 7) rfl ?_); (try (refine gate_guard (by rfl) ?_; dsimp only)); refine Kd.R_lit k96 _ 96 ?hg (N := 7) ?hd (xs := ([(⟨(⟨#[97]⟩ : ByteArray), (⟨1, 1, (⟨#[]⟩ : ByteArray)⟩ : S52)⟩ : S96)] : List (S96))) (inner := [.string (⟨#[97]⟩ : ByteArray), .int .i64 1, .int .i64 1, .string (⟨#[]⟩ : ByteArray)]) (ok := fun _ => True) (okp := fun _ => True) ?hr ?hp (fun _ hk => hk) trivial (Below.refl _ _) (Nat.le_refl _) (by simp) ?_; (case hd => rfl); (case hg => rfl); (case hr => first | (go_simp; done) | (go_simp; rfl)); (case hp => exact (Reps.c4 (show Kd.M k96 _ _ _ (⟨(⟨#[97]⟩ : ByteArray), (⟨1, 1, (⟨#[]⟩ : ByteArray)⟩ : S52)⟩ : S96) [.string (⟨#[97]⟩ : ByteArray), .int .i64 1, .int .i64 1, .string (⟨#[]⟩ : ByteArray)] from (k96_mkM _ _ _ (⟨(⟨#[97]⟩ : ByteArray), (⟨1, 1, (⟨#[]⟩ : ByteArray)⟩ : S52)⟩ : S96) )) (Reps.none _ _))); intro v202 w22 ho23 hb hg_ hnew_; clear hg_ hnew_; (first | rw [← Ny201.out] at ho23 | (simp only [Int.reduceToNat] at ho23; rw [← Ny201.out] at ho23)); replace HO200 := aM (Kd.R_below (yR HO200.out) hb); have HO203 := aM (Kd.R_lower ho23 (bZ (yB HB))); replace HB := aM (bP (yB HB) hb); clear hb ho23; obtain ⟨Ao24, co24, eo24⟩ := Kd.R_slice HO200.out; subst eo24; obtain ⟨Ao25, co25, eo25⟩ := Kd.R_slice HO203.out; subst eo25) | ((with_reducible refine gate_callee (f := 21) rfl ?_); refine yC 8 Tryd.func21 #[.agg #[.int .i64 t194, .string t195, .int .i64 t196, .int .i64 t197, .slice Ao24 t198.length co24], .slice Ao25 y201.length co25] rfl ?_; (with_reducible refine (schema_Fill.calls k t194 t195 t196 t197 _ _ t198 _ _ y201 t204 t207 _ ?side1 ?side2 ?side3 ?side4 ?side5 A2.out).mono ?_); (case side1 => exact yW (Kd.R_reads' HO200.out).2.2); (case side2 => exact (Kd.R_reads' HO200.out).2.1); (case side3 => exact yW (Kd.R_reads' HO203.out).2.2); (case side4 => exact (Kd.R_reads' HO203.out).2.1); (case side5 => first | (with_reducible exact HG.out) | exact Glob.below HG.out (yB HB)); rintro e w26 ⟨v205, rfl, ho0, hb⟩; refine ⟨_, rfl, ?_⟩; replace HO200 := aM (Kd.R_below (yR HO200.out) hb); replace HO203 := aM (Kd.R_below (yR HO203.out) hb); have HO206 := aM (Kd.R_lower ho0 (bZ (yB HB))); replace HB := aM (bP (yB HB) hb); (try clear hb); (try clear ho0)) | ((with_reducible refine gate_dst (N := 17) rfl ?_); (try (refine gate_guard (by rfl) ?_; dsimp only)); refine Kd.R_lit k52 _ 52 ?hg (N := 17) ?hd (xs := ([(⟨1, 1, (⟨#[]⟩ : ByteArray)⟩ : S52), (⟨0, 0, (⟨#[]⟩ : ByteArray)⟩ : S52)] : List (S52))) (inner := [.int .i64 1, .int .i64 1, .string (⟨#[]⟩ : ByteArray), .int .i64 0, .int .i64 0, .string (⟨#[]⟩ : ByteArray)]) (ok := fun _ => True) (okp := fun _ => True) ?hr ?hp (fun _ hk => hk) trivial (Below.refl _ _) (Nat.le_refl _) (by simp) ?_; (case hd => rfl); (case hg => rfl); (case hr => first | (go_simp; done) | (go_simp; rfl)); (case hp => exact (Reps.c3 (show Kd.M k52 _ _ _ (⟨1, 1, (⟨#[]⟩ : ByteArray)⟩ : S52) [.int .i64 1, .int .i64 1, .string (⟨#[]⟩ : ByteArray)] from (k52_mkM _ _ _ (⟨1, 1, (⟨#[]⟩ : ByteArray)⟩ : S52) )) (Reps.c3 (show Kd.M k52 _ _ _ (⟨0, 0, (⟨#[]⟩ : ByteArray)⟩ : S52) [.int .i64 0, .int .i64 0, .string (⟨#[]⟩ : ByteArray)] from (k52_mkM _ _ _ (⟨0, 0, (⟨#[]⟩ : ByteArray)⟩ : S52) )) (Reps.none _ _)))); intro v209 w27 ho28 hb hg_ hnew_; clear hg_ hnew_; (first | rw [← Ny208.out] at ho28 | (simp only [Int.reduceToNat] at ho28; rw [← Ny208.out] at ho28)); replace HO200 := aM (Kd.R_below (yR HO200.out) hb); replace HO203 := aM (Kd.R_below (yR HO203.out) hb); have HO210 := aM (Kd.R_lower (Kd.R_new' ho28 (Kd.R_lt (yR HO206.out))) (bZ (yB HB))); replace HO206 := aM (Kd.R_elder' (yR HO206.out) (Kd.R_base ho28) hb); replace HB := aM (bP (yB HB) hb); clear hb ho28; obtain ⟨Ao29, co29, eo29⟩ := Kd.R_slice HO206.out; subst eo29; obtain ⟨Ao30, co30, eo30⟩ := Kd.R_slice HO210.out; subst eo30) | (go_at_call 23; (with_reducible refine (haulageref08_SameRow.calls k _ _ t204 _ _ y208 false _ ?side1 ?side2 ?side3 ?side4 A4.out).mono ?_); (case side1 => exact yW (Kd.R_reads' HO206.out).2.2); (case side2 => exact (Kd.R_reads' HO206.out).2.1); (case side3 => exact yW (Kd.R_reads' HO210.out).2.2); (case side4 => exact (Kd.R_reads' HO210.out).2.1); rintro e w' ⟨rfl, ⟨nd, rfl⟩⟩))
   go_ret
   exact ⟨yE, yB HB⟩
 ·
  rw [if_neg c3] at H
  have c3b0 : (t207 == 0) = false := beq_eq_false_iff_ne.mpr c3
  have c3b1 : (t207 != 0) = true := bne_iff_ne.mpr c3
  obtain rfl := Option.some.inj H
  go_enter Tryd.func19, Tryd.ntmps19
  go_wp2_with (first | ((with_reducible refine gate_callee (f := 59) rfl ?_); refine yC 4 Tryd.func59 #[] rfl ?_; (with_reducible refine (haulagelaw08_Small.calls  t194 t195 t196 t197 t198 _ A1.out).mono ?_); rintro e w31 ⟨v199, rfl, ho0, hb⟩; refine ⟨_, rfl, ?_⟩; have HO200 := aM (Kd.R_lower ho0 (bZ (yB HB))); replace HB := aM (bP (yB HB) hb); (try clear hb); (try clear ho0)) | ((with_reducible refine gate_dst (N := 7) rfl ?_); (try (refine gate_guard (by rfl) ?_; dsimp only)); refine Kd.R_lit k96 _ 96 ?hg (N := 7) ?hd (xs := ([(⟨(⟨#[97]⟩ : ByteArray), (⟨1, 1, (⟨#[]⟩ : ByteArray)⟩ : S52)⟩ : S96)] : List (S96))) (inner := [.string (⟨#[97]⟩ : ByteArray), .int .i64 1, .int .i64 1, .string (⟨#[]⟩ : ByteArray)]) (ok := fun _ => True) (okp := fun _ => True) ?hr ?hp (fun _ hk => hk) trivial (Below.refl _ _) (Nat.le_refl _) (by simp) ?_; (case hd => rfl); (case hg => rfl); (case hr => first | (go_simp; done) | (go_simp; rfl)); (case hp => exact (Reps.c4 (show Kd.M k96 _ _ _ (⟨(⟨#[97]⟩ : ByteArray), (⟨1, 1, (⟨#[]⟩ : ByteArray)⟩ : S52)⟩ : S96) [.string (⟨#[97]⟩ : ByteArray), .int .i64 1, .int .i64 1, .string (⟨#[]⟩ : ByteArray)] from (k96_mkM _ _ _ (⟨(⟨#[97]⟩ : ByteArray), (⟨1, 1, (⟨#[]⟩ : ByteArray)⟩ : S52)⟩ : S96) )) (Reps.none _ _))); intro v202 w32 ho33 hb hg_ hnew_; clear hg_ hnew_; (first | rw [← Ny201.out] at ho33 | (simp only [Int.reduceToNat] at ho33; rw [← Ny201.out] at ho33)); replace HO200 := aM (Kd.R_below (yR HO200.out) hb); have HO203 := aM (Kd.R_lower ho33 (bZ (yB HB))); replace HB := aM (bP (yB HB) hb); clear hb ho33; obtain ⟨Ao34, co34, eo34⟩ := Kd.R_slice HO200.out; subst eo34; obtain ⟨Ao35, co35, eo35⟩ := Kd.R_slice HO203.out; subst eo35) | ((with_reducible refine gate_callee (f := 21) rfl ?_); refine yC 8 Tryd.func21 #[.agg #[.int .i64 t194, .string t195, .int .i64 t196, .int .i64 t197, .slice Ao34 t198.length co34], .slice Ao35 y201.length co35] rfl ?_; (with_reducible refine (schema_Fill.calls k t194 t195 t196 t197 _ _ t198 _ _ y201 t204 t207 _ ?side1 ?side2 ?side3 ?side4 ?side5 A2.out).mono ?_); (case side1 => exact yW (Kd.R_reads' HO200.out).2.2); (case side2 => exact (Kd.R_reads' HO200.out).2.1); (case side3 => exact yW (Kd.R_reads' HO203.out).2.2); (case side4 => exact (Kd.R_reads' HO203.out).2.1); (case side5 => first | (with_reducible exact HG.out) | exact Glob.below HG.out (yB HB)); rintro e w36 ⟨v205, rfl, ho0, hb⟩; refine ⟨_, rfl, ?_⟩; replace HO200 := aM (Kd.R_below (yR HO200.out) hb); replace HO203 := aM (Kd.R_below (yR HO203.out) hb); have HO206 := aM (Kd.R_lower ho0 (bZ (yB HB))); replace HB := aM (bP (yB HB) hb); (try clear hb); (try clear ho0)))
  go_ret
  exact ⟨yE, yB HB⟩
/-! ### haulagelaw08_FewFields: function 20 -/
def haulagelaw08_FewFields.l0 : Nat → List (S96) → Int → Option (Bool)
 | 0, _, _ => none
 | k + 1, x0, x3 => if x3 < (x0.length : Int) then (if 0 ≤ x3 then ((haulagelaw08_short.f ((rd_T96 x0 x3).f0)).bind fun t221 => (if t221 = true then ((haulagelaw08_short.f ((rd_T96 x0 x3).f1.f2)).bind fun t223 => (if t223 = true then (haulagelaw08_FewFields.l0 k x0 (wrap64 (x3 + 1))) else (some false))) else (some false))) else (none)) else (some true)
def haulagelaw08_FewFields.f (k : Nat) (l0 : List (S96)) : Option (Bool) := if (l0.length : Int) > 20 then (some false) else (haulagelaw08_FewFields.l0 k l0 0)
theorem haulagelaw08_FewFields.mono_l : ∀ k, (∀ y0 y1, LeO (haulagelaw08_FewFields.l0 k y0 y1) (haulagelaw08_FewFields.l0 (k + 1) y0 y1))
 | 0 => fun _ _ r h => by simp [haulagelaw08_FewFields.l0] at h
 | k + 1 => by
  have ih0 := haulagelaw08_FewFields.mono_l k
  ·
   intro y0 y1
   unfold haulagelaw08_FewFields.l0
   repeat' first
   | (with_reducible exact ih0 _ _)
   | (with_reducible exact LeO.refl _)
   | (with_reducible exact LeO.none _)
   | (with_reducible refine LeO.ite ?_ ?_)
   | (with_reducible refine LeO.bind ?_ (fun _ => ?_))
   | exact ih0 _ _
   | exact LeO.none _
   | refine LeO.ite ?_ ?_
   | refine LeO.bind ?_ (fun _ => ?_)
theorem haulagelaw08_FewFields.mono : ∀ a0 k, LeO (haulagelaw08_FewFields.f k a0) (haulagelaw08_FewFields.f (k + 1) a0) := by
 intro a0 k
 have ih0 := haulagelaw08_FewFields.mono_l k
 unfold haulagelaw08_FewFields.f
 repeat' first
   | (with_reducible exact ih0 _ _)
   | (with_reducible exact LeO.refl _)
   | (with_reducible exact LeO.none _)
   | (with_reducible refine LeO.ite ?_ ?_)
   | (with_reducible refine LeO.bind ?_ (fun _ => ?_))
   | exact ih0 _ _
   | exact LeO.none _
   | refine LeO.ite ?_ ?_
   | refine LeO.bind ?_ (fun _ => ?_)
set_option maxHeartbeats 8000000 in
set_option maxRecDepth 100000 in
theorem haulagelaw08_FewFields.calls (k : Nat) (A0 : Option Addr) (c0 : Nat) (l0 : List (S96)) (r : Bool) (w : World) (hr0 : Kd.C k96 w A0 l0.length l0) (hc0 : l0.length ≤ c0) (h : haulagelaw08_FewFields.f k l0 = some r) :
  Calls Tryd.prog 20 #[.slice A0 l0.length c0] w fun e w' => e = .returned (.bool r) ∧ Drawn0 w w' := by
 have HR0 := aM hr0
 have HC0 := aM hc0
 clear hr0 hc0
 have H : (if (l0.length : Int) > 20 then (some false) else (haulagelaw08_FewFields.l0 k l0 0)) = some r := h
 clear h
 by_cases c2 : (l0.length : Int) > 20
 ·
  rw [if_pos c2] at H
  have c2b0 : decide (20 < (l0.length : Int)) = true := decide_eq_true c2
  have c2b1 : decide (20 < l0.length) = true := decide_eq_true (by omega)
  clear c2
  obtain rfl := Option.some.inj H
  go_enter Tryd.func20, Tryd.ntmps20
  go_wp2
  go_ret
  exact ⟨yS, yD⟩
 ·
  rw [if_neg c2] at H
  have c2b0 : decide (20 < (l0.length : Int)) = false := decide_eq_false c2
  have c2b1 : decide (20 < l0.length) = false := decide_eq_false (by omega)
  clear c2
  have H' := aM H
  clear H
  go_enter Tryd.func20, Tryd.ntmps20
  go_wp2
  go_loopg [3] k (fun kq v3 w' => ∃ (x3_1 : Int), v3 = .int .i64 x3_1 ∧ Aside0 (haulagelaw08_FewFields.l0 kq l0 x3_1 = some r) ∧ Aside0 (kq ≤ k) ∧ Drawn0 w w')
  case atStart => exact ⟨(0), yS, H', ⟨Nat.le_refl _⟩, yD⟩
  case round =>
   clear H'
   try clear c2
   try clear c2b0
   try clear c2b1
   try clear p2
   obtain ⟨x3_1, rfl, HA, HK1, ⟨m1, rfl⟩⟩ := hrel
   cases gk with
   | zero => exact absurd HA.out (by simp [haulagelaw08_FewFields.l0])
   | succ k1 =>
    have H := HA.out
    clear HA
    simp only [haulagelaw08_FewFields.l0] at H
    by_cases c3 : x3_1 < (l0.length : Int)
    ·
     rw [if_pos c3] at H
     have c3b0 : decide (x3_1 < (l0.length : Int)) = true := decide_eq_true c3
     clear c3
     by_cases c4 : 0 ≤ x3_1
     ·
      rw [if_pos c4] at H
      have c4b0 : decide (0 ≤ x3_1) = true := decide_eq_true c4
      clear c4
      replace H := Option.bind_eq_some_iff.mp H
      obtain ⟨t221, A50, H⟩ := H
      replace H : (if t221 = true then ((haulagelaw08_short.f ((rd_T96 l0 x3_1).f1.f2)).bind fun t223 => (if t223 = true then (haulagelaw08_FewFields.l0 k1 l0 (wrap64 (x3_1 + 1))) else (some false))) else (some false)) = some r := H
      have A5 := aM A50
      clear A50
      by_cases c6 : t221 = true
      ·
       subst c6
       have H1 : ((haulagelaw08_short.f ((rd_T96 l0 x3_1).f1.f2)).bind fun t223 => (if t223 = true then (haulagelaw08_FewFields.l0 k1 l0 (wrap64 (x3_1 + 1))) else (some false))) = some r := by rw [if_pos rfl] at H; exact H
       clear H
       have H := H1
       clear H1
       replace H := Option.bind_eq_some_iff.mp H
       obtain ⟨t223, A70, H⟩ := H
       replace H : (if t223 = true then (haulagelaw08_FewFields.l0 k1 l0 (wrap64 (x3_1 + 1))) else (some false)) = some r := H
       have A7 := aM A70
       clear A70
       by_cases c8 : t223 = true
       ·
        subst c8
        have H1 : (haulagelaw08_FewFields.l0 k1 l0 (wrap64 (x3_1 + 1))) = some r := by rw [if_pos rfl] at H; exact H
        clear H
        have H := H1
        clear H1
        have H' := aM H
        clear H
        have p220 : 0 ≤ (x3_1 : Int) := oD yA
        have q220 : x3_1 < (l0.length : Int) := oD yA
        obtain ⟨ad220, e220, hx220_0, hx220_1, hx220_2, hx220_3⟩ := at_T96 HR0.out x3_1 p220 q220
        cases e220
        replace p220 := eq_true p220
        replace q220 := eq_true q220
        go_wp2_with (first | ((with_reducible refine gate_callee (f := 38) rfl ?_); refine yC 18 Tryd.func38 #[.string ((rd_T96 l0 x3_1).f0)] rfl ?_; (with_reducible refine (haulagelaw08_short.calls ((rd_T96 l0 x3_1).f0) true _ A5.out).mono ?_); rintro e w' ⟨rfl, ⟨nd, rfl⟩⟩; refine ⟨_, rfl, ?_⟩; have p222 : 0 ≤ (x3_1 : Int) := oD yA; have q222 : x3_1 < (l0.length : Int) := oD yA; obtain ⟨ad222, e222, hx222_0, hx222_1, hx222_2, hx222_3⟩ := at_T96 HR0.out x3_1 p222 q222; obtain rfl : ad220 = ad222 := (by injection e222); replace p222 := eq_true p222; replace q222 := eq_true q222) | (go_at_call 38; (with_reducible refine (haulagelaw08_short.calls ((rd_T96 l0 x3_1).f1.f2) true _ A7.out).mono ?_); rintro e w' ⟨rfl, ⟨nd, rfl⟩⟩))
        go_roundg k1
        case measure => have := HK1.out; omega
        case rel => exact ⟨(wrap64 (x3_1 + 1)), yS, H', ⟨by have := HK1.out; omega⟩, yD⟩
       ·
        replace c8 := Bool.eq_false_iff.mpr c8
        subst c8
        have H1 : (some false) = some r := by rw [if_neg (show ¬ (false = true) by decide)] at H; exact H
        clear H
        have H := H1
        clear H1
        obtain rfl := Option.some.inj H
        have p220 : 0 ≤ (x3_1 : Int) := oD yA
        have q220 : x3_1 < (l0.length : Int) := oD yA
        obtain ⟨ad220, e220, hx220_0, hx220_1, hx220_2, hx220_3⟩ := at_T96 HR0.out x3_1 p220 q220
        cases e220
        replace p220 := eq_true p220
        replace q220 := eq_true q220
        go_wp2_with (first | ((with_reducible refine gate_callee (f := 38) rfl ?_); refine yC 18 Tryd.func38 #[.string ((rd_T96 l0 x3_1).f0)] rfl ?_; (with_reducible refine (haulagelaw08_short.calls ((rd_T96 l0 x3_1).f0) true _ A5.out).mono ?_); rintro e w' ⟨rfl, ⟨nd, rfl⟩⟩; refine ⟨_, rfl, ?_⟩; have p222 : 0 ≤ (x3_1 : Int) := oD yA; have q222 : x3_1 < (l0.length : Int) := oD yA; obtain ⟨ad222, e222, hx222_0, hx222_1, hx222_2, hx222_3⟩ := at_T96 HR0.out x3_1 p222 q222; obtain rfl : ad220 = ad222 := (by injection e222); replace p222 := eq_true p222; replace q222 := eq_true q222) | (go_at_call 38; (with_reducible refine (haulagelaw08_short.calls ((rd_T96 l0 x3_1).f1.f2) false _ A7.out).mono ?_); rintro e w' ⟨rfl, ⟨nd, rfl⟩⟩))
        go_ret
        exact ⟨yS, yD⟩
      ·
       replace c6 := Bool.eq_false_iff.mpr c6
       subst c6
       have H1 : (some false) = some r := by rw [if_neg (show ¬ (false = true) by decide)] at H; exact H
       clear H
       have H := H1
       clear H1
       obtain rfl := Option.some.inj H
       have p220 : 0 ≤ (x3_1 : Int) := oD yA
       have q220 : x3_1 < (l0.length : Int) := oD yA
       obtain ⟨ad220, e220, hx220_0, hx220_1, hx220_2, hx220_3⟩ := at_T96 HR0.out x3_1 p220 q220
       cases e220
       replace p220 := eq_true p220
       replace q220 := eq_true q220
       go_wp2_with (first | ((with_reducible refine gate_callee (f := 38) rfl ?_); refine yC 18 Tryd.func38 #[.string ((rd_T96 l0 x3_1).f0)] rfl ?_; (with_reducible refine (haulagelaw08_short.calls ((rd_T96 l0 x3_1).f0) false _ A5.out).mono ?_); rintro e w' ⟨rfl, ⟨nd, rfl⟩⟩; refine ⟨_, rfl, ?_⟩))
       go_ret
       exact ⟨yS, yD⟩
     ·
      rw [if_neg c4] at H
      exact absurd H (by simp)
    ·
     rw [if_neg c3] at H
     have c3b0 : decide (x3_1 < (l0.length : Int)) = false := decide_eq_false c3
     clear c3
     obtain rfl := Option.some.inj H
     go_wp2
     go_ret
     exact ⟨yS, yD⟩
/-! ### schema_Row: function 24 -/
def schema_Row.f (k : Nat) (a0_0 : Int) (a0_1 : ByteArray) (a0_2 : Int) (a0_3 : Int) (l0_4 : List (S54)) (l1 : List (S52)) : Option (Int) := (schema_RightTable.f k a0_0 a0_1 a0_2 a0_3 l0_4).bind fun t225 => (if t225 = true then ((schema_fits.f k a0_0 a0_1 a0_2 a0_3 l0_4 l1).bind fun t226 => (some t226)) else (some 2))
theorem schema_Row.mono : ∀ a0 a1 a2 a3 a4 a5 k, LeO (schema_Row.f k a0 a1 a2 a3 a4 a5) (schema_Row.f (k + 1) a0 a1 a2 a3 a4 a5) := by
 intro a0 a1 a2 a3 a4 a5 k
 unfold schema_Row.f
 repeat' first
   | (with_reducible exact schema_RightTable.mono _ _ _ _ _ _)
   | (with_reducible exact schema_fits.mono _ _ _ _ _ _ _)
   | (with_reducible exact LeO.refl _)
   | (with_reducible exact LeO.none _)
   | (with_reducible refine LeO.ite ?_ ?_)
   | (with_reducible refine LeO.bind ?_ (fun _ => ?_))
   | exact schema_RightTable.mono _ _ _ _ _ _
   | exact schema_fits.mono _ _ _ _ _ _ _
   | exact LeO.none _
   | refine LeO.ite ?_ ?_
   | refine LeO.bind ?_ (fun _ => ?_)
set_option maxHeartbeats 8000000 in
set_option maxRecDepth 100000 in
theorem schema_Row.calls (k : Nat) (a0_0 : Int) (a0_1 : ByteArray) (a0_2 : Int) (a0_3 : Int) (A0_4 : Option Addr) (c0_4 : Nat) (l0_4 : List (S54)) (A1 : Option Addr) (c1 : Nat) (l1 : List (S52)) (r : Int) (w : World) (hr0_4 : Kd.C k54 w A0_4 l0_4.length l0_4) (hc0_4 : l0_4.length ≤ c0_4) (hr1 : Kd.C k52 w A1 l1.length l1) (hc1 : l1.length ≤ c1) (hG : Glob w) (h : schema_Row.f k a0_0 a0_1 a0_2 a0_3 l0_4 l1 = some r) :
  Calls Tryd.prog 24 #[.agg #[.int .i64 a0_0, .string a0_1, .int .i64 a0_2, .int .i64 a0_3, .slice A0_4 l0_4.length c0_4], .slice A1 l1.length c1] w fun e w' => e = .returned (.int .i64 r) ∧ Below w.heap.size w w' := by
 have hu24 := Tryd.underlying24
 have HR0_4 := aM hr0_4
 have HC0_4 := aM hc0_4
 clear hr0_4 hc0_4
 have HR1 := aM hr1
 have HC1 := aM hc1
 clear hr1 hc1
 have HG := aM hG
 clear hG
 have HB := aM (Below.refl w.heap.size w)
 have H : ((schema_RightTable.f k a0_0 a0_1 a0_2 a0_3 l0_4).bind fun t225 => (if t225 = true then ((schema_fits.f k a0_0 a0_1 a0_2 a0_3 l0_4 l1).bind fun t226 => (some t226)) else (some 2))) = some r := h
 clear h
 replace H := Option.bind_eq_some_iff.mp H
 obtain ⟨t225, A30, H⟩ := H
 replace H : (if t225 = true then ((schema_fits.f k a0_0 a0_1 a0_2 a0_3 l0_4 l1).bind fun t226 => (some t226)) else (some 2)) = some r := H
 have A3 := aM A30
 clear A30
 by_cases c4 : t225 = true
 ·
  subst c4
  have H1 : ((schema_fits.f k a0_0 a0_1 a0_2 a0_3 l0_4 l1).bind fun t226 => (some t226)) = some r := by rw [if_pos rfl] at H; exact H
  clear H
  have H := H1
  clear H1
  replace H := Option.bind_eq_some_iff.mp H
  obtain ⟨t226, A50, H⟩ := H
  replace H : (some t226) = some r := H
  have A5 := aM A50
  clear A50
  obtain rfl := Option.some.inj H
  go_enter Tryd.func24, Tryd.ntmps24
  go_wp2_with (first | ((with_reducible refine gate_dst (N := 2) rfl ?_); refine yX (N := 2) (cs := #[.int .i64 a0_0, .string a0_1, .int .i64 a0_2, .int .i64 a0_3, .slice A0_4 l0_4.length c0_4]) (t := 24) ?_; intro gb224 hg w6 hbox hb; have BK224 := aM (hbox); have GW224 := yZ hg (yB HB); have GE224 := yZ hg (yB HB); replace HB := aM (bP (yB HB) hb); clear hb hbox hg; obtain ⟨hcz7_0, hcz7_1, hcz7_2, hcz7_3, hcz7_4, hfz7_0, hfz7_1, hfz7_2, hfz7_3, hfz7_4⟩ := cells5 BK224.out) | ((with_reducible refine gate_callee (f := 26) rfl ?_); refine yC 6 Tryd.func26 #[.agg #[.int .i64 a0_0, .string a0_1, .int .i64 a0_2, .int .i64 a0_3, .slice A0_4 l0_4.length c0_4]] rfl ?_; (with_reducible refine (schema_RightTable.calls k a0_0 a0_1 a0_2 a0_3 _ _ l0_4 true _ ?side1 ?side2 ?side3 A3.out).mono ?_); (case side1 => exact yW (Kd.C_below HR0_4.out HB.out)); (case side2 => exact HC0_4.out); (case side3 => first | (with_reducible exact HG.out) | exact Glob.below HG.out (yG1 HB GE224.out)); rintro e w8 ⟨rfl, hb⟩; refine ⟨_, rfl, ?_⟩; replace BK224 := aM (kB (yK BK224) hb); replace HB := aM (bP (yG1 HB GE224.out) hb); (try clear hb); obtain ⟨hcz9_0, hcz9_1, hcz9_2, hcz9_3, hcz9_4, hfz9_0, hfz9_1, hfz9_2, hfz9_3, hfz9_4⟩ := cells5 BK224.out) | ((with_reducible refine gate_callee (f := 67) rfl ?_); refine yC 10 Tryd.func67 #[.agg #[.int .i64 a0_0, .string a0_1, .int .i64 a0_2, .int .i64 a0_3, .slice A0_4 l0_4.length c0_4], .slice A1 l1.length c1] rfl ?_; (with_reducible refine (schema_fits.calls k a0_0 a0_1 a0_2 a0_3 _ _ l0_4 _ _ l1 t226 _ ?side1 ?side2 ?side3 ?side4 ?side5 A5.out).mono ?_); (case side1 => exact yW (Kd.C_below HR0_4.out HB.out)); (case side2 => exact HC0_4.out); (case side3 => exact yW (Kd.C_below HR1.out HB.out)); (case side4 => exact HC1.out); (case side5 => first | (with_reducible exact HG.out) | exact Glob.below HG.out (yG1 HB GE224.out)); rintro e w10 ⟨rfl, hb⟩; refine ⟨_, rfl, ?_⟩; replace BK224 := aM (kB (yK BK224) hb); replace HB := aM (bP (yG1 HB GE224.out) hb); (try clear hb)))
  go_ret
  exact ⟨yE, yG1 HB GE224.out⟩
 ·
  replace c4 := Bool.eq_false_iff.mpr c4
  subst c4
  have H1 : (some 2) = some r := by rw [if_neg (show ¬ (false = true) by decide)] at H; exact H
  clear H
  have H := H1
  clear H1
  obtain rfl := Option.some.inj H
  go_enter Tryd.func24, Tryd.ntmps24
  go_wp2_with (first | ((with_reducible refine gate_dst (N := 2) rfl ?_); refine yX (N := 2) (cs := #[.int .i64 a0_0, .string a0_1, .int .i64 a0_2, .int .i64 a0_3, .slice A0_4 l0_4.length c0_4]) (t := 24) ?_; intro gb224 hg w11 hbox hb; have BK224 := aM (hbox); have GW224 := yZ hg (yB HB); have GE224 := yZ hg (yB HB); replace HB := aM (bP (yB HB) hb); clear hb hbox hg; obtain ⟨hcz12_0, hcz12_1, hcz12_2, hcz12_3, hcz12_4, hfz12_0, hfz12_1, hfz12_2, hfz12_3, hfz12_4⟩ := cells5 BK224.out) | ((with_reducible refine gate_callee (f := 26) rfl ?_); refine yC 6 Tryd.func26 #[.agg #[.int .i64 a0_0, .string a0_1, .int .i64 a0_2, .int .i64 a0_3, .slice A0_4 l0_4.length c0_4]] rfl ?_; (with_reducible refine (schema_RightTable.calls k a0_0 a0_1 a0_2 a0_3 _ _ l0_4 false _ ?side1 ?side2 ?side3 A3.out).mono ?_); (case side1 => exact yW (Kd.C_below HR0_4.out HB.out)); (case side2 => exact HC0_4.out); (case side3 => first | (with_reducible exact HG.out) | exact Glob.below HG.out (yG1 HB GE224.out)); rintro e w13 ⟨rfl, hb⟩; refine ⟨_, rfl, ?_⟩; replace BK224 := aM (kB (yK BK224) hb); replace HB := aM (bP (yG1 HB GE224.out) hb); (try clear hb)))
  go_ret
  exact ⟨yE, yG1 HB GE224.out⟩
/-! ### schema_Set_1: function 73 -/
def schema_Set_1.f (a0_0 : Int) (a0_1 : ByteArray) (a0_2 : Int) (a0_3 : Int) (a0_4 : Bool) (a0_5 : Int) (a0_6 : Int) (a0_7 : ByteArray) (l1 : List (S24)) : Option (Int) := if 0 < (l1.length : Int) then (if a0_0 = ((rd_T24 l1 0).f2) then (some 15) else (some 0)) else (none)
set_option maxHeartbeats 8000000 in
set_option maxRecDepth 100000 in
theorem schema_Set_1.calls (a0_0 : Int) (a0_1 : ByteArray) (a0_2 : Int) (a0_3 : Int) (a0_4 : Bool) (a0_5 : Int) (a0_6 : Int) (a0_7 : ByteArray) (A1 : Option Addr) (c1 : Nat) (l1 : List (S24)) (r : Int) (w : World) (hr1 : Kd.C k24 w A1 l1.length l1) (hc1 : l1.length ≤ c1) (h : schema_Set_1.f a0_0 a0_1 a0_2 a0_3 a0_4 a0_5 a0_6 a0_7 l1 = some r) :
  Calls Tryd.prog 73 #[.agg #[.int .i64 a0_0, .string a0_1, .int .i64 a0_2, .int .i64 a0_3, .bool a0_4, .int .i64 a0_5, .int .i64 a0_6, .string a0_7], .pointer A1] w fun e w' => e = .returned (.int .i64 r) ∧ Below w.heap.size w w' := by
 have hu54 := Tryd.underlying54
 have HR1 := aM hr1
 have HC1 := aM hc1
 clear hr1 hc1
 have HB := aM (Below.refl w.heap.size w)
 have H : (if 0 < (l1.length : Int) then (if a0_0 = ((rd_T24 l1 0).f2) then (some 15) else (some 0)) else (none)) = some r := h
 clear h
 by_cases c3 : 0 < (l1.length : Int)
 ·
  rw [if_pos c3] at H
  have c3b0 : decide (0 < (l1.length : Int)) = true := decide_eq_true c3
  have c3b1 : decide (0 < l1.length) = true := decide_eq_true (by omega)
  clear c3
  by_cases c4 : a0_0 = ((rd_T24 l1 0).f2)
  ·
   rw [if_pos c4] at H
   have c4b0 : (a0_0 == ((rd_T24 l1 0).f2)) = true := beq_iff_eq.mpr c4
   have c4b1 : (a0_0 != ((rd_T24 l1 0).f2)) = false := bne_eq_false_iff_eq.mpr c4
   clear c4
   obtain rfl := Option.some.inj H
   go_enter Tryd.func73, Tryd.ntmps73
   go_wp2_with (first | ((with_reducible refine gate_dst (N := 2) rfl ?_); refine yX (N := 2) (cs := #[.int .i64 a0_0, .string a0_1, .int .i64 a0_2, .int .i64 a0_3, .bool a0_4, .int .i64 a0_5, .int .i64 a0_6, .string a0_7]) (t := 54) ?_; intro gb227 hg w5 hbox hb; have BK227 := aM (hbox); have GW227 := yZ hg (yB HB); have GE227 := yZ hg (yB HB); replace HB := aM (bP (yB HB) hb); clear hb hbox hg; obtain ⟨hcz6_0, hcz6_1, hcz6_2, hcz6_3, hcz6_4, hcz6_5, hcz6_6, hcz6_7, hfz6_0, hfz6_1, hfz6_2, hfz6_3, hfz6_4, hfz6_5, hfz6_6, hfz6_7⟩ := cells8 BK227.out; have p228 : 0 ≤ (0 : Int) := (by omega); have q228 : 0 < (l1.length : Int) := oD yA; obtain ⟨ad228, A228_4, c228_4, e228, hx228_0, hx228_1, hx228_2, hx228_3, hx228_4, hl228_4, hi228_4⟩ := at_T24 HR1.out 0 p228 q228; cases e228; have qi228 : (0 < l1.length) = True := eq_true (by omega); (try rw [show ((0 : Int)).toNat = 0 from rfl] at hx228_0); (try rw [show 0 * 5 = 0 from rfl] at hx228_0); (try rw [Addr.add_zero'] at hx228_0); (try rw [show ((0 : Int)).toNat = 0 from rfl] at hx228_1); (try rw [show 0 * 5 = 0 from rfl] at hx228_1); (try rw [Addr.add_zero'] at hx228_1); (try rw [show ((0 : Int)).toNat = 0 from rfl] at hx228_2); (try rw [show 0 * 5 = 0 from rfl] at hx228_2); (try rw [Addr.add_zero'] at hx228_2); (try rw [show ((0 : Int)).toNat = 0 from rfl] at hx228_3); (try rw [show 0 * 5 = 0 from rfl] at hx228_3); (try rw [Addr.add_zero'] at hx228_3); (try rw [show ((0 : Int)).toNat = 0 from rfl] at hx228_4); (try rw [show 0 * 5 = 0 from rfl] at hx228_4); (try rw [Addr.add_zero'] at hx228_4); replace hx228_0 := pw_cell_below HB.out hx228_0; replace hx228_1 := pw_cell_below HB.out hx228_1; replace hx228_2 := pw_cell_below HB.out hx228_2; replace hx228_3 := pw_cell_below HB.out hx228_3; replace hx228_4 := pw_cell_below HB.out hx228_4; have HR228_4 := aM hi228_4; have HC228_4 := aM hl228_4; clear hi228_4 hl228_4; replace p228 := eq_true p228; replace q228 := eq_true q228))
   go_ret
   exact ⟨yE, yG1 HB GE227.out⟩
  ·
   rw [if_neg c4] at H
   have c4b0 : (a0_0 == ((rd_T24 l1 0).f2)) = false := beq_eq_false_iff_ne.mpr c4
   have c4b1 : (a0_0 != ((rd_T24 l1 0).f2)) = true := bne_iff_ne.mpr c4
   obtain rfl := Option.some.inj H
   go_enter Tryd.func73, Tryd.ntmps73
   go_wp2_with (first | ((with_reducible refine gate_dst (N := 2) rfl ?_); refine yX (N := 2) (cs := #[.int .i64 a0_0, .string a0_1, .int .i64 a0_2, .int .i64 a0_3, .bool a0_4, .int .i64 a0_5, .int .i64 a0_6, .string a0_7]) (t := 54) ?_; intro gb227 hg w7 hbox hb; have BK227 := aM (hbox); have GW227 := yZ hg (yB HB); have GE227 := yZ hg (yB HB); replace HB := aM (bP (yB HB) hb); clear hb hbox hg; obtain ⟨hcz8_0, hcz8_1, hcz8_2, hcz8_3, hcz8_4, hcz8_5, hcz8_6, hcz8_7, hfz8_0, hfz8_1, hfz8_2, hfz8_3, hfz8_4, hfz8_5, hfz8_6, hfz8_7⟩ := cells8 BK227.out; have p228 : 0 ≤ (0 : Int) := (by omega); have q228 : 0 < (l1.length : Int) := oD yA; obtain ⟨ad228, A228_4, c228_4, e228, hx228_0, hx228_1, hx228_2, hx228_3, hx228_4, hl228_4, hi228_4⟩ := at_T24 HR1.out 0 p228 q228; cases e228; have qi228 : (0 < l1.length) = True := eq_true (by omega); (try rw [show ((0 : Int)).toNat = 0 from rfl] at hx228_0); (try rw [show 0 * 5 = 0 from rfl] at hx228_0); (try rw [Addr.add_zero'] at hx228_0); (try rw [show ((0 : Int)).toNat = 0 from rfl] at hx228_1); (try rw [show 0 * 5 = 0 from rfl] at hx228_1); (try rw [Addr.add_zero'] at hx228_1); (try rw [show ((0 : Int)).toNat = 0 from rfl] at hx228_2); (try rw [show 0 * 5 = 0 from rfl] at hx228_2); (try rw [Addr.add_zero'] at hx228_2); (try rw [show ((0 : Int)).toNat = 0 from rfl] at hx228_3); (try rw [show 0 * 5 = 0 from rfl] at hx228_3); (try rw [Addr.add_zero'] at hx228_3); (try rw [show ((0 : Int)).toNat = 0 from rfl] at hx228_4); (try rw [show 0 * 5 = 0 from rfl] at hx228_4); (try rw [Addr.add_zero'] at hx228_4); replace hx228_0 := pw_cell_below HB.out hx228_0; replace hx228_1 := pw_cell_below HB.out hx228_1; replace hx228_2 := pw_cell_below HB.out hx228_2; replace hx228_3 := pw_cell_below HB.out hx228_3; replace hx228_4 := pw_cell_below HB.out hx228_4; have HR228_4 := aM hi228_4; have HC228_4 := aM hl228_4; clear hi228_4 hl228_4; replace p228 := eq_true p228; replace q228 := eq_true q228))
   go_ret
   exact ⟨yE, yG1 HB GE227.out⟩
 ·
  rw [if_neg c3] at H
  exact absurd H (by simp)
end Go.Proofs.YtdeophpjammbpaaDoor.HSchemaSets

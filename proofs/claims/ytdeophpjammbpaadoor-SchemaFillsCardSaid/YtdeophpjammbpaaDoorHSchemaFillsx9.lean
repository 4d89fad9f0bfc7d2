/- For Go functions that SchemaFills reaches: Lean functions, and walks that show that each call comes to what its Lean function tells; no condition but those that each theorem states. (Made by a program of this session over the kit's print.py.) -/
import Derived.Test.YtdeophpjammbpaaDoorHSchemaFillsx0
import Derived.Test.YtdeophpjammbpaaDoorHSchemaFillsx1
import Derived.Test.YtdeophpjammbpaaDoorHSchemaFillsx2
import Derived.Test.YtdeophpjammbpaaDoorHSchemaFillsx6
import Derived.Test.YtdeophpjammbpaaDoorHSchemaFillsx8
namespace Go.Proofs.YtdeophpjammbpaaDoor.HSchemaFills
open Go.RowKit Go.Proofs.YtdeophpjammbpaaDoorW.PrintWords Go.Proofs.YtdeophpjammbpaaDoorW.PrintLast Go.Proofs.YtdeophpjammbpaaDoorW.PrintMore
attribute [local go_sem] max2_int min2_int max_two min_two max_three min_three max_four min_four   -- for this text's walks alone
set_option linter.unusedVariables false
set_option linter.unusedSimpArgs false
attribute [local go_sem] hp_s8 hp_s16 hp_s32 hp_s64 hp_m8 hp_m16 hp_m32 hp_m64
attribute [local go_sem high] eqA52
/-! ### schema_Fill: function 21 -/
def schema_Fill.l0 : Nat → List (S96) → List (S52) → List (S54) → Int → Int → Int → ByteArray → Int → Int → List (S54) → Option ((List (S52)) × Int)
 | 0, _, _, _, _, _, _, _, _, _, _ => none
 | k + 1, x1, x6, x17, x18, x19, x175000, x175001, x175002, x175003, x175004 => if x19 < x18 then (if 0 ≤ x19 then (if x19 < (x17.length : Int) then (if x19 < (x6.length : Int) then (schema_Fill.l0 k x1 (x6.set (x19 : Int).toNat (⟨(rd_T54 x17 x19).f4.f0, (rd_T54 x17 x19).f4.f1, (rd_T54 x17 x19).f4.f2⟩ : S52)) x17 x18 (wrap64 (x19 + 1)) x175000 x175001 x175002 x175003 x175004) else (none)) else (none)) else (none)) else ((schema_lay_f64.f k x175000 x175001 x175002 x175003 x175004 x6 x1).bind fun bt182 => (some (bt182.1, bt182.2)))
def schema_Fill.f (k : Nat) (a0_0 : Int) (a0_1 : ByteArray) (a0_2 : Int) (a0_3 : Int) (l0_4 : List (S54)) (l1 : List (S96)) : Option ((List (S52)) × Int) := (schema_RightTable.f k a0_0 a0_1 a0_2 a0_3 l0_4).bind fun t175 => (if t175 = true then (if 0 ≤ (l0_4.length : Int) then (if ((l0_4.length : Int) : Int).toNat ≤ 8796093022208 then (schema_Fill.l0 k l1 (List.replicate ((l0_4.length : Int) : Int).toNat z52) l0_4 (l0_4.length : Int) 0 a0_0 a0_1 a0_2 a0_3 l0_4) else (none)) else (none)) else (some (([] : List (S52)), 2)))
theorem schema_Fill.mono_l : ∀ k, (∀ y0 y1 y2 y3 y4 y5 y6 y7 y8 y9, LeO (schema_Fill.l0 k y0 y1 y2 y3 y4 y5 y6 y7 y8 y9) (schema_Fill.l0 (k + 1) y0 y1 y2 y3 y4 y5 y6 y7 y8 y9))
 | 0 => fun _ _ _ _ _ _ _ _ _ _ r h => by simp [schema_Fill.l0] at h
 | k + 1 => by
  have ih0 := schema_Fill.mono_l k
  ·
   intro y0 y1 y2 y3 y4 y5 y6 y7 y8 y9
   unfold schema_Fill.l0
   repeat' first
   | (with_reducible exact ih0 _ _ _ _ _ _ _ _ _ _)
   | (with_reducible exact schema_RightTable.mono _ _ _ _ _ _)
   | (with_reducible exact schema_lay_f64.mono _ _ _ _ _ _ _ _)
   | (with_reducible exact LeO.refl _)
   | (with_reducible exact LeO.none _)
   | (with_reducible refine LeO.ite ?_ ?_)
   | (with_reducible refine LeO.bind ?_ (fun _ => ?_))
   | exact ih0 _ _ _ _ _ _ _ _ _ _
   | exact schema_RightTable.mono _ _ _ _ _ _
   | exact schema_lay_f64.mono _ _ _ _ _ _ _ _
   | exact LeO.none _
   | refine LeO.ite ?_ ?_
   | refine LeO.bind ?_ (fun _ => ?_)
theorem schema_Fill.mono : ∀ a0 a1 a2 a3 a4 a5 k, LeO (schema_Fill.f k a0 a1 a2 a3 a4 a5) (schema_Fill.f (k + 1) a0 a1 a2 a3 a4 a5) := by
 intro a0 a1 a2 a3 a4 a5 k
 have ih0 := schema_Fill.mono_l k
 unfold schema_Fill.f
 repeat' first
   | (with_reducible exact ih0 _ _ _ _ _ _ _ _ _ _)
   | (with_reducible exact schema_RightTable.mono _ _ _ _ _ _)
   | (with_reducible exact schema_lay_f64.mono _ _ _ _ _ _ _ _)
   | (with_reducible exact LeO.refl _)
   | (with_reducible exact LeO.none _)
   | (with_reducible refine LeO.ite ?_ ?_)
   | (with_reducible refine LeO.bind ?_ (fun _ => ?_))
   | exact ih0 _ _ _ _ _ _ _ _ _ _
   | exact schema_RightTable.mono _ _ _ _ _ _
   | exact schema_lay_f64.mono _ _ _ _ _ _ _ _
   | exact LeO.none _
   | refine LeO.ite ?_ ?_
   | refine LeO.bind ?_ (fun _ => ?_)
set_option maxHeartbeats 8000000 in
set_option maxRecDepth 100000 in
theorem schema_Fill.calls (k : Nat) (a0_0 : Int) (a0_1 : ByteArray) (a0_2 : Int) (a0_3 : Int) (A0_4 : Option Addr) (c0_4 : Nat) (l0_4 : List (S54)) (A1 : Option Addr) (c1 : Nat) (l1 : List (S96)) (r1 : List (S52)) (r2 : Int) (w : World) (hr0_4 : Kd.C k54 w A0_4 l0_4.length l0_4) (hc0_4 : l0_4.length ≤ c0_4) (hr1 : Kd.C k96 w A1 l1.length l1) (hc1 : l1.length ≤ c1) (hG : Glob w) (h : schema_Fill.f k a0_0 a0_1 a0_2 a0_3 l0_4 l1 = some (r1, r2)) :
  Calls Tryd.prog 21 #[.agg #[.int .i64 a0_0, .string a0_1, .int .i64 a0_2, .int .i64 a0_3, .slice A0_4 l0_4.length c0_4], .slice A1 l1.length c1] w fun e w' => ∃ v0_ : Value, e = .returned (.tuple #[v0_, .int .i64 r2]) ∧ Kd.R k52 52 w' w.heap.size (fun _ => True) v0_ r1 ∧ Below w.heap.size w w' := by
 have hu24 := Tryd.underlying24
 have hu54 := Tryd.underlying54
 have hu52 := Tryd.underlying52
 have HR0_4 := aM hr0_4
 have HC0_4 := aM hc0_4
 clear hr0_4 hc0_4
 have HR1 := aM hr1
 have HC1 := aM hc1
 clear hr1 hc1
 have HG := aM hG
 clear hG
 have HB := aM (Below.refl w.heap.size w)
 have H : ((schema_RightTable.f k a0_0 a0_1 a0_2 a0_3 l0_4).bind fun t175 => (if t175 = true then (if 0 ≤ (l0_4.length : Int) then (if ((l0_4.length : Int) : Int).toNat ≤ 8796093022208 then (schema_Fill.l0 k l1 (List.replicate ((l0_4.length : Int) : Int).toNat z52) l0_4 (l0_4.length : Int) 0 a0_0 a0_1 a0_2 a0_3 l0_4) else (none)) else (none)) else (some (([] : List (S52)), 2)))) = some (r1, r2) := h
 clear h
 replace H := Option.bind_eq_some_iff.mp H
 obtain ⟨t175, A30, H⟩ := H
 replace H : (if t175 = true then (if 0 ≤ (l0_4.length : Int) then (if ((l0_4.length : Int) : Int).toNat ≤ 8796093022208 then (schema_Fill.l0 k l1 (List.replicate ((l0_4.length : Int) : Int).toNat z52) l0_4 (l0_4.length : Int) 0 a0_0 a0_1 a0_2 a0_3 l0_4) else (none)) else (none)) else (some (([] : List (S52)), 2))) = some (r1, r2) := H
 have A3 := aM A30
 clear A30
 by_cases c4 : t175 = true
 ·
  subst c4
  have H1 : (if 0 ≤ (l0_4.length : Int) then (if ((l0_4.length : Int) : Int).toNat ≤ 8796093022208 then (schema_Fill.l0 k l1 (List.replicate ((l0_4.length : Int) : Int).toNat z52) l0_4 (l0_4.length : Int) 0 a0_0 a0_1 a0_2 a0_3 l0_4) else (none)) else (none)) = some (r1, r2) := by rw [if_pos rfl] at H; exact H
  clear H
  have H := H1
  clear H1
  by_cases c5 : 0 ≤ (l0_4.length : Int)
  ·
   rw [if_pos c5] at H
   have c5b0 := eq_true c5
   have c5b1 : decide (0 ≤ (l0_4.length : Int)) = true := decide_eq_true c5
   clear c5
   by_cases c6 : ((l0_4.length : Int) : Int).toNat ≤ 8796093022208
   ·
    rw [if_pos c6] at H
    have c6b0 := eq_true c6
    have c6b1 : decide (((l0_4.length : Int) : Int).toNat ≤ 8796093022208) = true := decide_eq_true c6
    clear c6
    obtain ⟨y176, hy176⟩ : ∃ y_ : List (S52), y_ = (List.replicate ((l0_4.length : Int) : Int).toNat z52) := ⟨_, rfl⟩
    replace H : (schema_Fill.l0 k l1 y176 l0_4 (l0_4.length : Int) 0 a0_0 a0_1 a0_2 a0_3 l0_4) = some (r1, r2) := by first | (rw [hy176]; with_reducible exact H) | (have H2_ := (Option.bind_some _ _).symm.trans H; rw [hy176]; with_reducible exact H2_) | (have H2_ := (Option.bind_some _ _).symm.trans H; with_reducible exact H2_) | with_reducible exact H | (rw [hy176]; exact H) | exact H
    have Ny176 := aM hy176
    clear hy176
    have H' := aM H
    clear H
    go_enter Tryd.func21, Tryd.ntmps21
    go_wp2_with (first | ((with_reducible refine gate_dst (N := 2) rfl ?_); refine yX (N := 2) (cs := #[.int .i64 a0_0, .string a0_1, .int .i64 a0_2, .int .i64 a0_3, .slice A0_4 l0_4.length c0_4]) (t := 24) ?_; intro gb174 hg w7 hbox hb; have BK174 := aM (hbox); have GW174 := yZ hg (yB HB); have GE174 := yZ hg (yB HB); replace HB := aM (bP (yB HB) hb); clear hb hbox hg; obtain ⟨hcz8_0, hcz8_1, hcz8_2, hcz8_3, hcz8_4, hfz8_0, hfz8_1, hfz8_2, hfz8_3, hfz8_4⟩ := cells5 BK174.out) | ((with_reducible refine gate_callee (f := 26) rfl ?_); refine yC 10 Tryd.func26 #[.agg #[.int .i64 a0_0, .string a0_1, .int .i64 a0_2, .int .i64 a0_3, .slice A0_4 l0_4.length c0_4]] rfl ?_; (with_reducible refine (schema_RightTable.calls k a0_0 a0_1 a0_2 a0_3 _ _ l0_4 true _ ?side1 ?side2 ?side3 A3.out).mono ?_); (case side1 => exact yW (Kd.C_below HR0_4.out HB.out)); (case side2 => exact HC0_4.out); (case side3 => first | (with_reducible exact HG.out) | exact Glob.below HG.out (yG1 HB GE174.out)); rintro e w9 ⟨rfl, hb⟩; refine ⟨_, rfl, ?_⟩; replace BK174 := aM (kB (yK BK174) hb); replace HB := aM (bP (yG1 HB GE174.out) hb); (try clear hb); obtain ⟨hcz10_0, hcz10_1, hcz10_2, hcz10_3, hcz10_4, hfz10_0, hfz10_1, hfz10_2, hfz10_3, hfz10_4⟩ := cells5 BK174.out) | ((with_reducible refine gate_dst (N := 15) rfl ?_); refine Kd.R_make k52 _ 52 rfl (N := 15) rfl 25 _ _ rfl (l0_4.length : Int) rfl rfl Tryd.underlying25 (.agg #[(.int .i64 0), (.int .i64 0), (.string ⟨#[]⟩)]) 32 info52 rfl (by decide) (by omega) z52 (ok := fun _ => True) (okp := fun _ => True) (k52_mkM _ _ _ z52 ) (fun _ hk => hk) trivial (oD yA) (Nat.le_trans (Nat.mul_le_mul_right _ (oD yA : (l0_4.length : Int).toNat ≤ 8796093022208)) (by omega)) (Below.refl _ _) (Nat.le_refl _) ?_; intro v177 w11 ho12 hb hg_ hnew_; clear hg_ hnew_; (first | rw [← Ny176.out] at ho12 | (simp only [Int.reduceToNat] at ho12; rw [← Ny176.out] at ho12)); have HO178 := aM (Kd.R_lower ho12 (bZ (yG1 HB GE174.out))); replace BK174 := aM (kB (yK BK174) hb); replace HB := aM (bP (yG1 HB GE174.out) hb); clear hb ho12; obtain ⟨hcz13_0, hcz13_1, hcz13_2, hcz13_3, hcz13_4, hfz13_0, hfz13_1, hfz13_2, hfz13_3, hfz13_4⟩ := cells5 BK174.out))
    go_loopg [19] k (fun kq v19 w' => ∃ (x6_1 : List (S52)) (x19_1 : Int), v19 = .int .i64 x19_1 ∧ Aside0 (schema_Fill.l0 kq l1 x6_1 l0_4 (l0_4.length : Int) x19_1 a0_0 a0_1 a0_2 a0_3 l0_4 = some (r1, r2)) ∧ Aside0 (kq ≤ k) ∧ Aside0 (Kd.R k52 52 w' w.heap.size (fun _ => True) v177 x6_1) ∧ Aside0 (w'.heap[gb174]? = some (.cells #[.int .i64 a0_0, .string a0_1, .int .i64 a0_2, .int .i64 a0_3, (.slice A0_4 l0_4.length c0_4)] 24 (0, 0))) ∧ Aside0 (Below w.heap.size w w'))
    case atStart => exact ⟨(y176), (0), yS, H', ⟨Nat.le_refl _⟩, ⟨yR HO178.out⟩, ⟨yK BK174⟩, ⟨yG1 HB GE174.out⟩⟩
    case round =>
     clear H'
     try clear c1
     try clear c2
     try clear p2
     try clear c4
     try clear c5
     try clear c5b0
     try clear c5b1
     try clear c6
     try clear c6b0
     try clear c6b1
     try clear hcz10_0 hcz10_1 hcz10_2 hcz10_3 hcz10_4
     try clear hcz13_0 hcz13_1 hcz13_2 hcz13_3 hcz13_4
     try clear hcz8_0 hcz8_1 hcz8_2 hcz8_3 hcz8_4
     try clear hfz10_0 hfz10_1 hfz10_2 hfz10_3 hfz10_4
     try clear hfz13_0 hfz13_1 hfz13_2 hfz13_3 hfz13_4
     try clear hfz8_0 hfz8_1 hfz8_2 hfz8_3 hfz8_4
     obtain ⟨x6_1, x19_1, rfl, HA, HK1, HO_6, BK174, HB⟩ := hrel
     cases gk with
     | zero => exact absurd HA.out (by simp [schema_Fill.l0])
     | succ k1 =>
      have H := HA.out
      clear HA
      simp only [schema_Fill.l0] at H
      by_cases c14 : x19_1 < (l0_4.length : Int)
      ·
       rw [if_pos c14] at H
       have c14b0 : decide (x19_1 < (l0_4.length : Int)) = true := decide_eq_true c14
       clear c14
       by_cases c15 : 0 ≤ x19_1
       ·
        rw [if_pos c15] at H
        have c15b0 : decide (0 ≤ x19_1) = true := decide_eq_true c15
        clear c15
        by_cases c16 : x19_1 < (l0_4.length : Int)
        ·
         rw [if_pos c16] at H
         have c16b0 : decide (x19_1 < (l0_4.length : Int)) = true := decide_eq_true c16
         clear c16
         by_cases c17 : x19_1 < (x6_1.length : Int)
         ·
          rw [if_pos c17] at H
          have c17b0 : decide (x19_1 < (x6_1.length : Int)) = true := decide_eq_true c17
          clear c17
          obtain ⟨y181, hy181⟩ : ∃ y_ : List (S52), y_ = (x6_1.set (x19_1 : Int).toNat (⟨(rd_T54 l0_4 x19_1).f4.f0, (rd_T54 l0_4 x19_1).f4.f1, (rd_T54 l0_4 x19_1).f4.f2⟩ : S52)) := ⟨_, rfl⟩
          replace H : (schema_Fill.l0 k1 l1 y181 l0_4 (l0_4.length : Int) (wrap64 (x19_1 + 1)) a0_0 a0_1 a0_2 a0_3 l0_4) = some (r1, r2) := by first | (rw [hy181]; with_reducible exact H) | (have H2_ := (Option.bind_some _ _).symm.trans H; rw [hy181]; with_reducible exact H2_) | (have H2_ := (Option.bind_some _ _).symm.trans H; with_reducible exact H2_) | with_reducible exact H | (rw [hy181]; exact H) | exact H
          have Ny181 := aM hy181
          clear hy181
          have H' := aM H
          clear H
          have p179 : 0 ≤ (x19_1 : Int) := oD yA
          have q179 : x19_1 < (l0_4.length : Int) := oD yA
          obtain ⟨ad179, e179, hx179_0, hx179_1, hx179_2, hx179_3, hx179_4, hx179_5, hx179_6, hx179_7⟩ := at_T54 HR0_4.out x19_1 p179 q179
          cases e179
          replace hx179_0 := pw_cell_below HB.out hx179_0
          replace hx179_1 := pw_cell_below HB.out hx179_1
          replace hx179_2 := pw_cell_below HB.out hx179_2
          replace hx179_3 := pw_cell_below HB.out hx179_3
          replace hx179_4 := pw_cell_below HB.out hx179_4
          replace hx179_5 := pw_cell_below HB.out hx179_5
          replace hx179_6 := pw_cell_below HB.out hx179_6
          replace hx179_7 := pw_cell_below HB.out hx179_7
          replace p179 := eq_true p179
          replace q179 := eq_true q179
          go_wp2_with (first | ((with_reducible refine gate_dst (N := 8) rfl ?_); refine yX (N := 8) (cs := #[.int .i64 0, .string (⟨#[]⟩ : ByteArray), .int .i64 0, .int .i64 0, .bool false, .int .i64 0, .int .i64 0, .string (⟨#[]⟩ : ByteArray)]) (t := 54) ?_; intro gb180 hg w19 hbox hb; replace HO_6 := aM (Kd.R_below (yR HO_6.out) hb); have BK180 := aM (hbox); have GW180 := yZ hg (yG1 HB GE174.out); have GE180 := yZ hg (yG1 HB GE174.out); replace HB := aM (bP (yG1 HB GE174.out) hb); have NB174_180 := yN hg (yK BK174); have NB180_174 := yM hg (yK BK174); replace BK174 := aM (kB (yK BK174) hb); clear hb hbox hg; have hnb20 := NB180_174.out; have hnc20 := NB174_180.out; obtain ⟨hcz21_0, hcz21_1, hcz21_2, hcz21_3, hcz21_4, hcz21_5, hcz21_6, hcz21_7, hfz21_0, hfz21_1, hfz21_2, hfz21_3, hfz21_4, hfz21_5, hfz21_6, hfz21_7⟩ := cells8 BK180.out) | ((with_reducible refine gate_store (t := 54) (p := 8) rfl ?_); refine store_event (t := 54) (p := 8) (v := ?vo_w22) (w1 := ((((((((w19.setCell ⟨gb180, 0, none⟩ (.int .i64 ((rd_T54 l0_4 x19_1).f0))).setCell ⟨gb180, 1, none⟩ (.string ((rd_T54 l0_4 x19_1).f1))).setCell ⟨gb180, 2, none⟩ (.int .i64 ((rd_T54 l0_4 x19_1).f2.f0))).setCell ⟨gb180, 3, none⟩ (.int .i64 ((rd_T54 l0_4 x19_1).f2.f1))).setCell ⟨gb180, 4, none⟩ (.bool ((rd_T54 l0_4 x19_1).f3))).setCell ⟨gb180, 5, none⟩ (.int .i64 ((rd_T54 l0_4 x19_1).f4.f0))).setCell ⟨gb180, 6, none⟩ (.int .i64 ((rd_T54 l0_4 x19_1).f4.f1))).setCell ⟨gb180, 7, none⟩ (.string ((rd_T54 l0_4 x19_1).f4.f2)))) ?hg ?ho ?hn ?hr ?_; (case ho => rfl); (case hg => rfl); (case hn => rfl); (case hr => first | (go_simp; done) | (go_simp; rfl)); intro w22 hw; have n0_ : Aside0 (Kd.R k52 52 w22 w.heap.size (fun _ => True) v177 x6_1) := ⟨(by rw [hw]; exact (by (with_reducible repeat (first | apply Kd.R_alloc | apply Kd.R_drewN | apply Kd.R_drew)); exact Kd.R_mono (Kd.R_far (p := ⟨gb180, 7, none⟩) (Kd.R_far (p := ⟨gb180, 6, none⟩) (Kd.R_far (p := ⟨gb180, 5, none⟩) (Kd.R_far (p := ⟨gb180, 4, none⟩) (Kd.R_far (p := ⟨gb180, 3, none⟩) (Kd.R_far (p := ⟨gb180, 2, none⟩) (Kd.R_far (p := ⟨gb180, 1, none⟩) (Kd.R_far (p := ⟨gb180, 0, none⟩) (Kd.R_types HO_6.out BK180.out (by decide)) (fun _ hk => hk.2) (.int .i64 ((rd_T54 l0_4 x19_1).f0))) (fun _ hk => hk.2) (.string ((rd_T54 l0_4 x19_1).f1))) (fun _ hk => hk.2) (.int .i64 ((rd_T54 l0_4 x19_1).f2.f0))) (fun _ hk => hk.2) (.int .i64 ((rd_T54 l0_4 x19_1).f2.f1))) (fun _ hk => hk.2) (.bool ((rd_T54 l0_4 x19_1).f3))) (fun _ hk => hk.2) (.int .i64 ((rd_T54 l0_4 x19_1).f4.f0))) (fun _ hk => hk.2) (.int .i64 ((rd_T54 l0_4 x19_1).f4.f1))) (fun _ hk => hk.2) (.string ((rd_T54 l0_4 x19_1).f4.f2))) (fun _ hk => trivial)))⟩; have n1_ : Aside0 (w22.heap[gb174]? = some (.cells #[.int .i64 a0_0, .string a0_1, .int .i64 a0_2, .int .i64 a0_3, .slice (some ad179) l0_4.length c0_4] 24 (0, 0))) := ⟨(by rw [hw]; exact (yF1 BK174 NB174_180.out))⟩; have n2_ : Aside0 (w22.heap[gb180]? = some (.cells #[.int .i64 ((rd_T54 l0_4 x19_1).f0), .string ((rd_T54 l0_4 x19_1).f1), .int .i64 ((rd_T54 l0_4 x19_1).f2.f0), .int .i64 ((rd_T54 l0_4 x19_1).f2.f1), .bool ((rd_T54 l0_4 x19_1).f3), .int .i64 ((rd_T54 l0_4 x19_1).f4.f0), .int .i64 ((rd_T54 l0_4 x19_1).f4.f1), .string ((rd_T54 l0_4 x19_1).f4.f2)] 54 (0, 0))) := ⟨(by rw [hw]; exact (puts8 BK180.out))⟩; have n3_ : Aside0 (Below w.heap.size w w22) := ⟨(by rw [hw]; exact (yG2 HB GE174.out GE180.out))⟩; clear hw; clear HO_6; clear BK174; clear BK180; clear HB; have HO_6 := n0_; have BK174 := n1_; have BK180 := n2_; have HB := n3_; clear n0_ n1_ n2_ n3_; obtain ⟨hcz23_0, hcz23_1, hcz23_2, hcz23_3, hcz23_4, hcz23_5, hcz23_6, hcz23_7, hfz23_0, hfz23_1, hfz23_2, hfz23_3, hfz23_4, hfz23_5, hfz23_6, hfz23_7⟩ := cells8 BK180.out; have p18 : 0 ≤ (x19_1 : Int) := oD yA; have q18 : (x19_1 : Int) < ((x6_1.length : Int) : Int) := oD yA; obtain ⟨go18, co18, eo18, gb18, gl18, cl18, HG18⟩ := Kd.R_form HO_6.out (by omega); (first | cases eo18 | (injection eo18 with ea_ en_ ec_; (first | subst ea_ | (injection ea_ with ea_; subst ea_)); subst ec_; clear en_)); have GB18 := aM gb18; have GG18 := aM HG18; clear gb18 gl18 HG18; obtain ⟨ce18, hcl18, hM18, hcc18, hfr18⟩ := Kd.R_elem HO_6.out z52 (x19_1 : Int) p18 q18; obtain rfl := k52_openM hM18; have hx18_0 : w22.cell? ⟨go18, (x19_1 : Int).toNat * 3, none⟩ = some (.int .i64 ((rd_T52 x6_1 x19_1).f0)) := hcc18 0 _ rfl; have hx18_1 : w22.cell? ⟨go18, (x19_1 : Int).toNat * 3 + 1, none⟩ = some (.int .i64 ((rd_T52 x6_1 x19_1).f1)) := hcc18 1 _ rfl; have hx18_2 : w22.cell? ⟨go18, (x19_1 : Int).toNat * 3 + 2, none⟩ = some (.string ((rd_T52 x6_1 x19_1).f2)) := hcc18 2 _ rfl; have hf18_0 : w22.frozen? ⟨go18, (x19_1 : Int).toNat * 3, none⟩ = false := hfr18 0; have hf18_1 : w22.frozen? ⟨go18, (x19_1 : Int).toNat * 3 + 1, none⟩ = false := hfr18 1; have hf18_2 : w22.frozen? ⟨go18, (x19_1 : Int).toNat * 3 + 2, none⟩ = false := hfr18 2; clear hcl18 hcc18 hfr18 hM18; replace p18 := eq_true p18; replace q18 := eq_true q18; have HX24 := aM (show Kd.R k52 52 w22 w.heap.size (fun _ => True) (.slice (some ⟨go18, 0, none⟩) x6_1.length co18) x6_1 from (yR HO_6.out)); obtain ⟨ce24, hcl24, hM24, hcc24, hfr24⟩ := Kd.R_elem HX24.out z52 (x19_1 : Int) (oD yA) (by have h_ : (x19_1 : Int) < ((x6_1.length : Int) : Int) := oD yA; first | exact h_ | (have e_ := (Kd.R_reads' HO_6.out).1; omega) | simpa using h_); obtain rfl := k52_openM hM24; have HP24 := Kd.R_seg HX24.out (x19_1 : Int) (oD yA) (by have h_ : (x19_1 : Int) < ((x6_1.length : Int) : Int) := oD yA; first | exact h_ | (have e_ := (Kd.R_reads' HO_6.out).1; omega) | simpa using h_) (seg := [.int .i64 ((rd_T54 l0_4 x19_1).f4.f0), .int .i64 ((rd_T54 l0_4 x19_1).f4.f1), .string ((rd_T54 l0_4 x19_1).f4.f2)]) (j := 0) hcl24 hcc24 (show 3 ≤ 3 from by decide) (x' := (⟨(rd_T54 l0_4 x19_1).f4.f0, (rd_T54 l0_4 x19_1).f4.f1, (rd_T54 l0_4 x19_1).f4.f2⟩ : S52)) (k52_mkM _ _ _ (⟨(rd_T54 l0_4 x19_1).f4.f0, (rd_T54 l0_4 x19_1).f4.f1, (rd_T54 l0_4 x19_1).f4.f2⟩ : S52) ) (fun _ hk => hk); have hx24_0 := hcc24 0 _ rfl; (try simp only [show (k52).sz = 3 from rfl, Nat.mul_one, Nat.add_zero] at hx24_0); have hf24_0 := hfr24 0; (try simp only [show (k52).sz = 3 from rfl, Nat.mul_one, Nat.add_zero] at hf24_0); have hx24_1 := hcc24 1 _ rfl; (try simp only [show (k52).sz = 3 from rfl, Nat.mul_one, Nat.add_zero] at hx24_1); have hf24_1 := hfr24 1; (try simp only [show (k52).sz = 3 from rfl, Nat.mul_one, Nat.add_zero] at hf24_1); have hx24_2 := hcc24 2 _ rfl; (try simp only [show (k52).sz = 3 from rfl, Nat.mul_one, Nat.add_zero] at hx24_2); have hf24_2 := hfr24 2; (try simp only [show (k52).sz = 3 from rfl, Nat.mul_one, Nat.add_zero] at hf24_2); clear hcl24 hcc24 hfr24 hM24) | ((with_reducible refine gate_store (t := 52) (p := 28) rfl ?_); refine store_event (t := 52) (p := 28) (v := ?vo_w25) (w1 := (((w22.setCell ⟨go18, (x19_1 : Int).toNat * 3, none⟩ (.int .i64 ((rd_T54 l0_4 x19_1).f4.f0))).setCell ⟨go18, (x19_1 : Int).toNat * 3 + 1, none⟩ (.int .i64 ((rd_T54 l0_4 x19_1).f4.f1))).setCell ⟨go18, (x19_1 : Int).toNat * 3 + 2, none⟩ (.string ((rd_T54 l0_4 x19_1).f4.f2)))) ?hg ?ho ?hn ?hr ?_; (case ho => rfl); (case hg => rfl); (case hn => rfl); (case hr => first | (go_simp; done) | (go_simp; rfl)); intro w25 hw; have hg : w22.grownBy w25 (some go18) := (by rw [hw]; exact HP24.2); have hp_ : Kd.R k52 52 w25 w.heap.size (fun _ => True) (.slice (some ⟨go18, 0, none⟩) x6_1.length co18) y181 := (by rw [hw, Ny181.out]; exact HP24.1); clear HP24; replace BK174 := aM (blk_grown (g := gb174) (o := .cells #[.int .i64 a0_0, .string a0_1, .int .i64 a0_2, .int .i64 a0_3, .slice (some ad179) l0_4.length c0_4] 24 (0, 0)) (yK BK174) hg (Kd.R_ne HO_6.out BK174.out (by decide))); replace BK180 := aM (blk_grown (g := gb180) (o := .cells #[.int .i64 ((rd_T54 l0_4 x19_1).f0), .string ((rd_T54 l0_4 x19_1).f1), .int .i64 ((rd_T54 l0_4 x19_1).f2.f0), .int .i64 ((rd_T54 l0_4 x19_1).f2.f1), .bool ((rd_T54 l0_4 x19_1).f3), .int .i64 ((rd_T54 l0_4 x19_1).f4.f0), .int .i64 ((rd_T54 l0_4 x19_1).f4.f1), .string ((rd_T54 l0_4 x19_1).f4.f2)] 54 (0, 0)) (yK BK180) hg (Kd.R_ne HO_6.out BK180.out (by decide))); replace HO_6 := aM (hp_); replace HB := aM ((by rw [hw]; exact bS (bS (bS (HB.out) GB18.out) GB18.out) GB18.out : Below w.heap.size w w25)); clear hg hw hp_))
          go_roundg k1
          case measure => have := HK1.out; omega
          case rel => exact ⟨(y181), (wrap64 (x19_1 + 1)), yS, H', ⟨by have := HK1.out; omega⟩, ⟨yR HO_6.out⟩, ⟨yK BK174⟩, ⟨yG2 HB GE174.out GE180.out⟩⟩
         ·
          rw [if_neg c17] at H
          exact absurd H (by simp)
        ·
         rw [if_neg c16] at H
         exact absurd H (by simp)
       ·
        rw [if_neg c15] at H
        exact absurd H (by simp)
      ·
       rw [if_neg c14] at H
       have c14b0 : decide (x19_1 < (l0_4.length : Int)) = false := decide_eq_false c14
       clear c14
       replace H := Option.bind_eq_some_iff.mp H
       obtain ⟨⟨t182, t185⟩, A260, H⟩ := H
       replace H : (some (t182, t185)) = some (r1, r2) := H
       have A26 := aM A260
       clear A260
       simp only [Option.some.injEq, Prod.mk.injEq] at H
       obtain ⟨rfl, rfl⟩ := H
       obtain ⟨hcz27_0, hcz27_1, hcz27_2, hcz27_3, hcz27_4, hfz27_0, hfz27_1, hfz27_2, hfz27_3, hfz27_4⟩ := cells5 BK174.out
       obtain ⟨Ao28, co28, eo28⟩ := Kd.R_slice HO_6.out
       subst eo28
       go_wp2_with (first | (go_at_call 63; (with_reducible refine (schema_lay_f64.calls k1 a0_0 a0_1 a0_2 a0_3 _ _ l0_4 (fun k_ => some k_ = (.slice Ao28 x6_1.length co28 : Value).ownBlock) (.slice Ao28 x6_1.length co28) x6_1 _ _ l1 t182 t185 w _ ?side1 ?side2 ?side3 ?side4 ?side5 ?side6 ?side7 A26.out).mono ?_); (case side1 => exact yG1 HB GE174.out); (case side2 => exact Kd.C_kept_came k54_heap HR0_4.out (yG1 HB GE174.out) (fun k_ hs_ => (fun e_ => Kd.R_base HO_6.out k_ e_.symm) hs_)); (case side3 => exact HC0_4.out); (case side4 => exact Kd.R_tight rfl HO_6.out); (case side5 => exact Kd.C_kept_came k96_heap HR1.out (yG1 HB GE174.out) (fun k_ hs_ => (fun e_ => Kd.R_base HO_6.out k_ e_.symm) hs_)); (case side6 => exact HC1.out); (case side7 => first | (with_reducible exact HG.out) | exact Glob.below HG.out (yG1 HB GE174.out)); rintro e w29 ⟨v183, rfl, ho0, hb, hkp⟩; have n0_ := aM (blk_kept (yK BK174) hkp (fun hs_ => (fun e_ => (Kd.R_ne HO_6.out BK174.out (by decide)) e_) hs_)); have n1_ := aM (Kd.R_mono (ok' := fun k_ => True) ho0 (fun k_ hk_ => trivial)); have n2_ := aM (hb); clear BK174; clear HB; clear HO_6; have BK174 := n0_; have HO184 := n1_; have HB := n2_; clear n0_ n1_ n2_; (try clear hb); (try clear hkp); (try clear ho0)))
       go_ret2
       exact ⟨_, yE, yR HO184.out, yG1 HB GE174.out⟩
   ·
    rw [if_neg c6] at H
    exact absurd H (by simp)
  ·
   rw [if_neg c5] at H
   exact absurd H (by simp)
 ·
  replace c4 := Bool.eq_false_iff.mpr c4
  subst c4
  have H1 : (some (([] : List (S52)), 2)) = some (r1, r2) := by rw [if_neg (show ¬ (false = true) by decide)] at H; exact H
  clear H
  have H := H1
  clear H1
  simp only [Option.some.injEq, Prod.mk.injEq] at H
  obtain ⟨rfl, rfl⟩ := H
  go_enter Tryd.func21, Tryd.ntmps21
  go_wp2_with (first | ((with_reducible refine gate_dst (N := 2) rfl ?_); refine yX (N := 2) (cs := #[.int .i64 a0_0, .string a0_1, .int .i64 a0_2, .int .i64 a0_3, .slice A0_4 l0_4.length c0_4]) (t := 24) ?_; intro gb174 hg w30 hbox hb; have BK174 := aM (hbox); have GW174 := yZ hg (yB HB); have GE174 := yZ hg (yB HB); replace HB := aM (bP (yB HB) hb); clear hb hbox hg; obtain ⟨hcz31_0, hcz31_1, hcz31_2, hcz31_3, hcz31_4, hfz31_0, hfz31_1, hfz31_2, hfz31_3, hfz31_4⟩ := cells5 BK174.out) | ((with_reducible refine gate_callee (f := 26) rfl ?_); refine yC 10 Tryd.func26 #[.agg #[.int .i64 a0_0, .string a0_1, .int .i64 a0_2, .int .i64 a0_3, .slice A0_4 l0_4.length c0_4]] rfl ?_; (with_reducible refine (schema_RightTable.calls k a0_0 a0_1 a0_2 a0_3 _ _ l0_4 false _ ?side1 ?side2 ?side3 A3.out).mono ?_); (case side1 => exact yW (Kd.C_below HR0_4.out HB.out)); (case side2 => exact HC0_4.out); (case side3 => first | (with_reducible exact HG.out) | exact Glob.below HG.out (yG1 HB GE174.out)); rintro e w32 ⟨rfl, hb⟩; refine ⟨_, rfl, ?_⟩; replace BK174 := aM (kB (yK BK174) hb); replace HB := aM (bP (yG1 HB GE174.out) hb); (try clear hb)))
  go_ret2
  exact ⟨_, yE, by first | exact Kd.R_nil _ _ _ _ _ | exact Kd.N_nil _ _ _ _ _ | exact Kd.V_nil _ _ _ _ _ | exact Kd.Q_nil _ _ _ _ _ | exact Kd.S_nil _ _ _ _ _, yG1 HB GE174.out⟩
/-! ### haulageref08_SameRow: function 23 -/
def haulageref08_SameRow.l0 : Nat → List (S52) → List (S52) → Int → Option (Bool)
 | 0, _, _, _ => none
 | k + 1, x0, x1, x5 => if x5 < (x0.length : Int) then (if 0 ≤ x5 then (if x5 < (x1.length : Int) then (if (!(((rd_T52 x0 x5).f0) == ((rd_T52 x1 x5).f0)) || (!(((rd_T52 x0 x5).f1) == ((rd_T52 x1 x5).f1)) || (!((((rd_T52 x0 x5).f2).toList) == (((rd_T52 x1 x5).f2).toList))))) = true then (some false) else (haulageref08_SameRow.l0 k x0 x1 (wrap64 (x5 + 1)))) else (none)) else (none)) else (some true)
def haulageref08_SameRow.f (k : Nat) (l0 : List (S52)) (l1 : List (S52)) : Option (Bool) := if (l0.length : Int) = (l1.length : Int) then (haulageref08_SameRow.l0 k l0 l1 0) else (some false)
theorem haulageref08_SameRow.mono_l : ∀ k, (∀ y0 y1 y2, LeO (haulageref08_SameRow.l0 k y0 y1 y2) (haulageref08_SameRow.l0 (k + 1) y0 y1 y2))
 | 0 => fun _ _ _ r h => by simp [haulageref08_SameRow.l0] at h
 | k + 1 => by
  have ih0 := haulageref08_SameRow.mono_l k
  ·
   intro y0 y1 y2
   unfold haulageref08_SameRow.l0
   repeat' first
   | (with_reducible exact ih0 _ _ _)
   | (with_reducible exact LeO.refl _)
   | (with_reducible exact LeO.none _)
   | (with_reducible refine LeO.ite ?_ ?_)
   | (with_reducible refine LeO.bind ?_ (fun _ => ?_))
   | exact ih0 _ _ _
   | exact LeO.none _
   | refine LeO.ite ?_ ?_
   | refine LeO.bind ?_ (fun _ => ?_)
theorem haulageref08_SameRow.mono : ∀ a0 a1 k, LeO (haulageref08_SameRow.f k a0 a1) (haulageref08_SameRow.f (k + 1) a0 a1) := by
 intro a0 a1 k
 have ih0 := haulageref08_SameRow.mono_l k
 unfold haulageref08_SameRow.f
 repeat' first
   | (with_reducible exact ih0 _ _ _)
   | (with_reducible exact LeO.refl _)
   | (with_reducible exact LeO.none _)
   | (with_reducible refine LeO.ite ?_ ?_)
   | (with_reducible refine LeO.bind ?_ (fun _ => ?_))
   | exact ih0 _ _ _
   | exact LeO.none _
   | refine LeO.ite ?_ ?_
   | refine LeO.bind ?_ (fun _ => ?_)
set_option maxHeartbeats 8000000 in
set_option maxRecDepth 100000 in
theorem haulageref08_SameRow.calls (k : Nat) (A0 : Option Addr) (c0 : Nat) (l0 : List (S52)) (A1 : Option Addr) (c1 : Nat) (l1 : List (S52)) (r : Bool) (w : World) (hr0 : Kd.C k52 w A0 l0.length l0) (hc0 : l0.length ≤ c0) (hr1 : Kd.C k52 w A1 l1.length l1) (hc1 : l1.length ≤ c1) (h : haulageref08_SameRow.f k l0 l1 = some r) :
  Calls Tryd.prog 23 #[.slice A0 l0.length c0, .slice A1 l1.length c1] w fun e w' => e = .returned (.bool r) ∧ Drawn0 w w' := by
 have hu52 := Tryd.underlying52
 have HR0 := aM hr0
 have HC0 := aM hc0
 clear hr0 hc0
 have HR1 := aM hr1
 have HC1 := aM hc1
 clear hr1 hc1
 have H : (if (l0.length : Int) = (l1.length : Int) then (haulageref08_SameRow.l0 k l0 l1 0) else (some false)) = some r := h
 clear h
 by_cases c3 : (l0.length : Int) = (l1.length : Int)
 ·
  rw [if_pos c3] at H
  have c3b0 : ((l0.length : Int) == (l1.length : Int)) = true := beq_iff_eq.mpr c3
  have c3b1 : ((l0.length : Int) != (l1.length : Int)) = false := bne_eq_false_iff_eq.mpr c3
  have c3b2 : (l0.length == l1.length) = true := by first | simpa using c3 | (simp at c3 ⊢; omega)
  clear c3
  have H' := aM H
  clear H
  go_enter Tryd.func23, Tryd.ntmps23
  go_wp2
  repeat (go_quiet (fail); try go_wp2)
  go_loopg [5] k (fun kq v5 w' => ∃ (x5_1 : Int), v5 = .int .i64 x5_1 ∧ Aside0 (haulageref08_SameRow.l0 kq l0 l1 x5_1 = some r) ∧ Aside0 (kq ≤ k) ∧ Drawn0 w w')
  case atStart => exact ⟨(0), yS, H', ⟨Nat.le_refl _⟩, yD⟩
  case round =>
   clear H'
   try clear c1
   try clear c2
   try clear p2
   try clear c3
   try clear c3b0
   try clear c3b1
   try clear c3b2
   obtain ⟨x5_1, rfl, HA, HK1, ⟨m1, rfl⟩⟩ := hrel
   cases gk with
   | zero => exact absurd HA.out (by simp [haulageref08_SameRow.l0])
   | succ k1 =>
    have H := HA.out
    clear HA
    simp only [haulageref08_SameRow.l0] at H
    by_cases c4 : x5_1 < (l0.length : Int)
    ·
     rw [if_pos c4] at H
     have c4b0 : decide (x5_1 < (l0.length : Int)) = true := decide_eq_true c4
     clear c4
     by_cases c5 : 0 ≤ x5_1
     ·
      rw [if_pos c5] at H
      have c5b0 : decide (0 ≤ x5_1) = true := decide_eq_true c5
      clear c5
      by_cases c6 : x5_1 < (l1.length : Int)
      ·
       rw [if_pos c6] at H
       have c6b0 : decide (x5_1 < (l1.length : Int)) = true := decide_eq_true c6
       clear c6
       by_cases c7 : (!(((rd_T52 l0 x5_1).f0) == ((rd_T52 l1 x5_1).f0)) || (!(((rd_T52 l0 x5_1).f1) == ((rd_T52 l1 x5_1).f1)) || (!((((rd_T52 l0 x5_1).f2).toList) == (((rd_T52 l1 x5_1).f2).toList))))) = true
       ·
        rw [if_pos c7] at H
        have c7b0 : (!(((rd_T52 l0 x5_1).f0) == ((rd_T52 l1 x5_1).f0)) || (!(((rd_T52 l0 x5_1).f1) == ((rd_T52 l1 x5_1).f1)) || (!((((rd_T52 l0 x5_1).f2).toList) == (((rd_T52 l1 x5_1).f2).toList))))) = true := c7
        clear c7
        obtain rfl := Option.some.inj H
        have p186 : 0 ≤ (x5_1 : Int) := oD yA
        have q186 : x5_1 < (l0.length : Int) := oD yA
        obtain ⟨ad186, e186, hx186_0, hx186_1, hx186_2⟩ := at_T52 HR0.out x5_1 p186 q186
        cases e186
        replace p186 := eq_true p186
        replace q186 := eq_true q186
        have p187 : 0 ≤ (x5_1 : Int) := oD yA
        have q187 : x5_1 < (l1.length : Int) := oD yA
        obtain ⟨ad187, e187, hx187_0, hx187_1, hx187_2⟩ := at_T52 HR1.out x5_1 p187 q187
        cases e187
        replace p187 := eq_true p187
        replace q187 := eq_true q187
        go_wp2
        repeat (go_quiet (fail); try go_wp2)
        go_ret
        exact ⟨yS, yD⟩
       ·
        rw [if_neg c7] at H
        have c7b0 : (!(((rd_T52 l0 x5_1).f0) == ((rd_T52 l1 x5_1).f0)) || (!(((rd_T52 l0 x5_1).f1) == ((rd_T52 l1 x5_1).f1)) || (!((((rd_T52 l0 x5_1).f2).toList) == (((rd_T52 l1 x5_1).f2).toList))))) = false := by simpa using c7
        clear c7
        have H' := aM H
        clear H
        have p186 : 0 ≤ (x5_1 : Int) := oD yA
        have q186 : x5_1 < (l0.length : Int) := oD yA
        obtain ⟨ad186, e186, hx186_0, hx186_1, hx186_2⟩ := at_T52 HR0.out x5_1 p186 q186
        cases e186
        replace p186 := eq_true p186
        replace q186 := eq_true q186
        have p187 : 0 ≤ (x5_1 : Int) := oD yA
        have q187 : x5_1 < (l1.length : Int) := oD yA
        obtain ⟨ad187, e187, hx187_0, hx187_1, hx187_2⟩ := at_T52 HR1.out x5_1 p187 q187
        cases e187
        replace p187 := eq_true p187
        replace q187 := eq_true q187
        go_wp2
        repeat (go_quiet (fail); try go_wp2)
        go_roundg k1
        case measure => have := HK1.out; omega
        case rel => exact ⟨(wrap64 (x5_1 + 1)), yS, H', ⟨by have := HK1.out; omega⟩, yD⟩
      ·
       rw [if_neg c6] at H
       exact absurd H (by simp)
     ·
      rw [if_neg c5] at H
      exact absurd H (by simp)
    ·
     rw [if_neg c4] at H
     have c4b0 : decide (x5_1 < (l0.length : Int)) = false := decide_eq_false c4
     clear c4
     obtain rfl := Option.some.inj H
     go_wp2
     repeat (go_quiet (fail); try go_wp2)
     go_ret
     exact ⟨yS, yD⟩
 ·
  rw [if_neg c3] at H
  have c3b0 : ((l0.length : Int) == (l1.length : Int)) = false := beq_eq_false_iff_ne.mpr c3
  have c3b1 : ((l0.length : Int) != (l1.length : Int)) = true := bne_iff_ne.mpr c3
  have c3b2 : (l0.length == l1.length) = false := by first | simpa using c3 | (simp at c3 ⊢; omega)
  obtain rfl := Option.some.inj H
  go_enter Tryd.func23, Tryd.ntmps23
  go_wp2
  repeat (go_quiet (fail); try go_wp2)
  go_ret
  exact ⟨yS, yD⟩
/-! ### haulagelaw08_Small: function 59 -/
def haulagelaw08_Small.f  : Option (Int × ByteArray × Int × Int × (List (S54))) := some (3, (⟨#[116]⟩ : ByteArray), 0, 2, (([(⟨0, (⟨#[97]⟩ : ByteArray), (⟨1, 0⟩ : S50), false, (⟨0, 0, (⟨#[]⟩ : ByteArray)⟩ : S52)⟩ : S54), (⟨1, (⟨#[98]⟩ : ByteArray), (⟨3, 5⟩ : S50), true, (⟨0, 0, (⟨#[]⟩ : ByteArray)⟩ : S52)⟩ : S54)] : List (S54))))
set_option maxHeartbeats 8000000 in
set_option maxRecDepth 100000 in
theorem haulagelaw08_Small.calls  (r1 : Int) (r2 : ByteArray) (r3 : Int) (r4 : Int) (r5 : List (S54)) (w : World) (h : haulagelaw08_Small.f  = some (r1, r2, r3, r4, r5)) :
  Calls Tryd.prog 59 #[] w fun e w' => ∃ v4_ : Value, e = .returned (.agg #[.int .i64 r1, .string r2, .int .i64 r3, .int .i64 r4, v4_]) ∧ Kd.R k54 54 w' w.heap.size (fun _ => True) v4_ r5 ∧ Below w.heap.size w w' := by
 have hu24 := Tryd.underlying24
 have hu50 := Tryd.underlying50
 have hu54 := Tryd.underlying54
 have HB := aM (Below.refl w.heap.size w)
 have H : (some (3, (⟨#[116]⟩ : ByteArray), 0, 2, (([(⟨0, (⟨#[97]⟩ : ByteArray), (⟨1, 0⟩ : S50), false, (⟨0, 0, (⟨#[]⟩ : ByteArray)⟩ : S52)⟩ : S54), (⟨1, (⟨#[98]⟩ : ByteArray), (⟨3, 5⟩ : S50), true, (⟨0, 0, (⟨#[]⟩ : ByteArray)⟩ : S52)⟩ : S54)] : List (S54))))) = some (r1, r2, r3, r4, r5) := h
 clear h
 obtain ⟨y189, hy189⟩ : ∃ y_ : List (S54), y_ = (([(⟨0, (⟨#[97]⟩ : ByteArray), (⟨1, 0⟩ : S50), false, (⟨0, 0, (⟨#[]⟩ : ByteArray)⟩ : S52)⟩ : S54), (⟨1, (⟨#[98]⟩ : ByteArray), (⟨3, 5⟩ : S50), true, (⟨0, 0, (⟨#[]⟩ : ByteArray)⟩ : S52)⟩ : S54)] : List (S54))) := ⟨_, rfl⟩
 replace H : (some (3, (⟨#[116]⟩ : ByteArray), 0, 2, y189)) = some (r1, r2, r3, r4, r5) := by first | (rw [hy189]; with_reducible exact H) | (have H2_ := (Option.bind_some _ _).symm.trans H; rw [hy189]; with_reducible exact H2_) | (have H2_ := (Option.bind_some _ _).symm.trans H; with_reducible exact H2_) | with_reducible exact H | (rw [hy189]; exact H) | exact H
 have Ny189 := aM hy189
 clear hy189
 simp only [Option.some.injEq, Prod.mk.injEq] at H
 obtain ⟨rfl, rfl, rfl, rfl, rfl⟩ := H
 go_enter Tryd.func59, Tryd.ntmps59
 go_wp2_with (first | ((with_reducible refine gate_dst (N := 0) rfl ?_); refine yX (N := 0) (cs := #[.int .i64 0, .string (⟨#[]⟩ : ByteArray), .int .i64 0, .int .i64 0, .slice none 0 0]) (t := 24) ?_; intro gb188 hg w1 hbox hb; have BK188 := aM (hbox); have GW188 := yZ hg (yB HB); have GE188 := yZ hg (yB HB); replace HB := aM (bP (yB HB) hb); clear hb hbox hg) | ((with_reducible refine gate_dst (N := 5) rfl ?_); refine Kd.R_lit k54 _ 54 ?hg (N := 5) ?hd (xs := ([(⟨0, (⟨#[97]⟩ : ByteArray), (⟨1, 0⟩ : S50), false, (⟨0, 0, (⟨#[]⟩ : ByteArray)⟩ : S52)⟩ : S54), (⟨1, (⟨#[98]⟩ : ByteArray), (⟨3, 5⟩ : S50), true, (⟨0, 0, (⟨#[]⟩ : ByteArray)⟩ : S52)⟩ : S54)] : List (S54))) (inner := [.int .i64 0, .string (⟨#[97]⟩ : ByteArray), .int .i64 1, .int .i64 0, .bool false, .int .i64 0, .int .i64 0, .string (⟨#[]⟩ : ByteArray), .int .i64 1, .string (⟨#[98]⟩ : ByteArray), .int .i64 3, .int .i64 5, .bool true, .int .i64 0, .int .i64 0, .string (⟨#[]⟩ : ByteArray)]) (ok := fun _ => True) (okp := fun _ => True) ?hr ?hp (fun _ hk => hk) trivial (Below.refl _ _) (Nat.le_refl _) (by simp) ?_; (case hd => rfl); (case hg => rfl); (case hr => first | (go_simp; done) | (go_simp; rfl)); (case hp => exact (Reps.c8 (show Kd.M k54 _ _ _ (⟨0, (⟨#[97]⟩ : ByteArray), (⟨1, 0⟩ : S50), false, (⟨0, 0, (⟨#[]⟩ : ByteArray)⟩ : S52)⟩ : S54) [.int .i64 0, .string (⟨#[97]⟩ : ByteArray), .int .i64 1, .int .i64 0, .bool false, .int .i64 0, .int .i64 0, .string (⟨#[]⟩ : ByteArray)] from (k54_mkM _ _ _ (⟨0, (⟨#[97]⟩ : ByteArray), (⟨1, 0⟩ : S50), false, (⟨0, 0, (⟨#[]⟩ : ByteArray)⟩ : S52)⟩ : S54) )) (Reps.c8 (show Kd.M k54 _ _ _ (⟨1, (⟨#[98]⟩ : ByteArray), (⟨3, 5⟩ : S50), true, (⟨0, 0, (⟨#[]⟩ : ByteArray)⟩ : S52)⟩ : S54) [.int .i64 1, .string (⟨#[98]⟩ : ByteArray), .int .i64 3, .int .i64 5, .bool true, .int .i64 0, .int .i64 0, .string (⟨#[]⟩ : ByteArray)] from (k54_mkM _ _ _ (⟨1, (⟨#[98]⟩ : ByteArray), (⟨3, 5⟩ : S50), true, (⟨0, 0, (⟨#[]⟩ : ByteArray)⟩ : S52)⟩ : S54) )) (Reps.none _ _)))); intro v190 w2 ho3 hb hg_ hnew_; clear hg_ hnew_; (first | rw [← Ny189.out] at ho3 | (simp only [Int.reduceToNat] at ho3; rw [← Ny189.out] at ho3)); have HO191 := aM (Kd.R_lower ho3 (bZ (yG1 HB GE188.out))); replace BK188 := aM (kB (yK BK188) hb); replace HB := aM (bP (yG1 HB GE188.out) hb); clear hb ho3; obtain ⟨Ao4, co4, eo4⟩ := Kd.R_slice HO191.out; subst eo4; obtain ⟨hcz5_0, hcz5_1, hcz5_2, hcz5_3, hcz5_4, hfz5_0, hfz5_1, hfz5_2, hfz5_3, hfz5_4⟩ := cells5 BK188.out))
 refine bodyPost_ret (results_cell_row rfl _ _ gb188 24 #[.int .i64 3, .string (⟨#[116]⟩ : ByteArray), .int .i64 0, .int .i64 2, .slice Ao4 y189.length co4] (0, 0) _ rfl (puts5 BK188.out) Tryd.underlying24 rfl (by kernel_rfl)) rfl ?_
 exact ⟨_, yE, by (with_reducible repeat (first | apply Kd.R_alloc | apply Kd.R_drewN | apply Kd.R_drew)); exact Kd.R_mono (Kd.R_far (p := ⟨gb188, 4, none⟩) (Kd.R_far (p := ⟨gb188, 3, none⟩) (Kd.R_far (p := ⟨gb188, 2, none⟩) (Kd.R_far (p := ⟨gb188, 1, none⟩) (Kd.R_far (p := ⟨gb188, 0, none⟩) (Kd.R_types HO191.out BK188.out (by decide)) (fun _ hk => hk.2) (.int .i64 3)) (fun _ hk => hk.2) (.string (⟨#[116]⟩ : ByteArray))) (fun _ hk => hk.2) (.int .i64 0)) (fun _ hk => hk.2) (.int .i64 2)) (fun _ hk => hk.2) (.slice Ao4 y189.length co4)) (fun _ hk => trivial), yG1 HB GE188.out⟩
/-! ### haulagelaw08_lives: function 19 -/
def haulagelaw08_lives.f (k : Nat)  : Option (Bool) := (haulagelaw08_Small.f).bind fun bt192 => ((schema_Fill.f k bt192.1 bt192.2.1 bt192.2.2.1 bt192.2.2.2.1 bt192.2.2.2.2 (([(⟨(⟨#[97]⟩ : ByteArray), (⟨1, 1, (⟨#[]⟩ : ByteArray)⟩ : S52)⟩ : S96)] : List (S96)))).bind fun bt202 => (if bt202.2 = 0 then ((haulageref08_SameRow.f k bt202.1 (([(⟨1, 1, (⟨#[]⟩ : ByteArray)⟩ : S52), (⟨0, 0, (⟨#[]⟩ : ByteArray)⟩ : S52)] : List (S52)))).bind fun t209 => (if t209 = true then ((haulagelaw08_Small.f).bind fun bt210 => ((schema_RightTable.f k bt210.1 bt210.2.1 bt210.2.2.1 bt210.2.2.2.1 bt210.2.2.2.2).bind fun t217 => (some t217))) else (some false))) else (some false)))
theorem haulagelaw08_lives.mono : ∀ k, LeO (haulagelaw08_lives.f k ) (haulagelaw08_lives.f (k + 1) ) := by
 intro  k
 unfold haulagelaw08_lives.f
 repeat' first
   | (with_reducible exact haulageref08_SameRow.mono _ _ _)
   | (with_reducible exact schema_Fill.mono _ _ _ _ _ _ _)
   | (with_reducible exact schema_RightTable.mono _ _ _ _ _ _)
   | (with_reducible exact LeO.refl _)
   | (with_reducible exact LeO.none _)
   | (with_reducible refine LeO.ite ?_ ?_)
   | (with_reducible refine LeO.bind ?_ (fun _ => ?_))
   | exact haulageref08_SameRow.mono _ _ _
   | exact schema_Fill.mono _ _ _ _ _ _ _
   | exact schema_RightTable.mono _ _ _ _ _ _
   | exact LeO.none _
   | refine LeO.ite ?_ ?_
   | refine LeO.bind ?_ (fun _ => ?_)
set_option maxHeartbeats 8000000 in
set_option maxRecDepth 100000 in
theorem haulagelaw08_lives.calls (k : Nat)  (r : Bool) (w : World) (hG : Glob w) (h : haulagelaw08_lives.f k  = some r) :
  Calls Tryd.prog 19 #[] w fun e w' => e = .returned (.bool r) ∧ Below w.heap.size w w' := by
 have hu52 := Tryd.underlying52
 have hu96 := Tryd.underlying96
 have HG := aM hG
 clear hG
 have HB := aM (Below.refl w.heap.size w)
 have H : ((haulagelaw08_Small.f).bind fun bt192 => ((schema_Fill.f k bt192.1 bt192.2.1 bt192.2.2.1 bt192.2.2.2.1 bt192.2.2.2.2 (([(⟨(⟨#[97]⟩ : ByteArray), (⟨1, 1, (⟨#[]⟩ : ByteArray)⟩ : S52)⟩ : S96)] : List (S96)))).bind fun bt202 => (if bt202.2 = 0 then ((haulageref08_SameRow.f k bt202.1 (([(⟨1, 1, (⟨#[]⟩ : ByteArray)⟩ : S52), (⟨0, 0, (⟨#[]⟩ : ByteArray)⟩ : S52)] : List (S52)))).bind fun t209 => (if t209 = true then ((haulagelaw08_Small.f).bind fun bt210 => ((schema_RightTable.f k bt210.1 bt210.2.1 bt210.2.2.1 bt210.2.2.2.1 bt210.2.2.2.2).bind fun t217 => (some t217))) else (some false))) else (some false)))) = some r := h
 clear h
 replace H := Option.bind_eq_some_iff.mp H
 obtain ⟨⟨t192, t193, t194, t195, t196⟩, A10, H⟩ := H
 replace H : ((schema_Fill.f k t192 t193 t194 t195 t196 (([(⟨(⟨#[97]⟩ : ByteArray), (⟨1, 1, (⟨#[]⟩ : ByteArray)⟩ : S52)⟩ : S96)] : List (S96)))).bind fun bt202 => (if bt202.2 = 0 then ((haulageref08_SameRow.f k bt202.1 (([(⟨1, 1, (⟨#[]⟩ : ByteArray)⟩ : S52), (⟨0, 0, (⟨#[]⟩ : ByteArray)⟩ : S52)] : List (S52)))).bind fun t209 => (if t209 = true then ((haulagelaw08_Small.f).bind fun bt210 => ((schema_RightTable.f k bt210.1 bt210.2.1 bt210.2.2.1 bt210.2.2.2.1 bt210.2.2.2.2).bind fun t217 => (some t217))) else (some false))) else (some false))) = some r := H
 have A1 := aM A10
 clear A10
 obtain ⟨y199, hy199⟩ : ∃ y_ : List (S96), y_ = (([(⟨(⟨#[97]⟩ : ByteArray), (⟨1, 1, (⟨#[]⟩ : ByteArray)⟩ : S52)⟩ : S96)] : List (S96))) := ⟨_, rfl⟩
 replace H : ((schema_Fill.f k t192 t193 t194 t195 t196 y199).bind fun bt202 => (if bt202.2 = 0 then ((haulageref08_SameRow.f k bt202.1 (([(⟨1, 1, (⟨#[]⟩ : ByteArray)⟩ : S52), (⟨0, 0, (⟨#[]⟩ : ByteArray)⟩ : S52)] : List (S52)))).bind fun t209 => (if t209 = true then ((haulagelaw08_Small.f).bind fun bt210 => ((schema_RightTable.f k bt210.1 bt210.2.1 bt210.2.2.1 bt210.2.2.2.1 bt210.2.2.2.2).bind fun t217 => (some t217))) else (some false))) else (some false))) = some r := by first | (rw [hy199]; with_reducible exact H) | (have H2_ := (Option.bind_some _ _).symm.trans H; rw [hy199]; with_reducible exact H2_) | (have H2_ := (Option.bind_some _ _).symm.trans H; with_reducible exact H2_) | with_reducible exact H | (rw [hy199]; exact H) | exact H
 have Ny199 := aM hy199
 clear hy199
 replace H := Option.bind_eq_some_iff.mp H
 obtain ⟨⟨t202, t205⟩, A20, H⟩ := H
 replace H : (if t205 = 0 then ((haulageref08_SameRow.f k t202 (([(⟨1, 1, (⟨#[]⟩ : ByteArray)⟩ : S52), (⟨0, 0, (⟨#[]⟩ : ByteArray)⟩ : S52)] : List (S52)))).bind fun t209 => (if t209 = true then ((haulagelaw08_Small.f).bind fun bt210 => ((schema_RightTable.f k bt210.1 bt210.2.1 bt210.2.2.1 bt210.2.2.2.1 bt210.2.2.2.2).bind fun t217 => (some t217))) else (some false))) else (some false)) = some r := H
 have A2 := aM A20
 clear A20
 by_cases c3 : t205 = 0
 ·
  rw [if_pos c3] at H
  have c3b0 : (t205 == 0) = true := beq_iff_eq.mpr c3
  have c3b1 : (t205 != 0) = false := bne_eq_false_iff_eq.mpr c3
  clear c3
  obtain ⟨y206, hy206⟩ : ∃ y_ : List (S52), y_ = (([(⟨1, 1, (⟨#[]⟩ : ByteArray)⟩ : S52), (⟨0, 0, (⟨#[]⟩ : ByteArray)⟩ : S52)] : List (S52))) := ⟨_, rfl⟩
  replace H : ((haulageref08_SameRow.f k t202 y206).bind fun t209 => (if t209 = true then ((haulagelaw08_Small.f).bind fun bt210 => ((schema_RightTable.f k bt210.1 bt210.2.1 bt210.2.2.1 bt210.2.2.2.1 bt210.2.2.2.2).bind fun t217 => (some t217))) else (some false))) = some r := by first | (rw [hy206]; with_reducible exact H) | (have H2_ := (Option.bind_some _ _).symm.trans H; rw [hy206]; with_reducible exact H2_) | (have H2_ := (Option.bind_some _ _).symm.trans H; with_reducible exact H2_) | with_reducible exact H | (rw [hy206]; exact H) | exact H
  have Ny206 := aM hy206
  clear hy206
  replace H := Option.bind_eq_some_iff.mp H
  obtain ⟨t209, A40, H⟩ := H
  replace H : (if t209 = true then ((haulagelaw08_Small.f).bind fun bt210 => ((schema_RightTable.f k bt210.1 bt210.2.1 bt210.2.2.1 bt210.2.2.2.1 bt210.2.2.2.2).bind fun t217 => (some t217))) else (some false)) = some r := H
  have A4 := aM A40
  clear A40
  by_cases c5 : t209 = true
  ·
   subst c5
   have H1 : ((haulagelaw08_Small.f).bind fun bt210 => ((schema_RightTable.f k bt210.1 bt210.2.1 bt210.2.2.1 bt210.2.2.2.1 bt210.2.2.2.2).bind fun t217 => (some t217))) = some r := by rw [if_pos rfl] at H; exact H
   clear H
   have H := H1
   clear H1
   replace H := Option.bind_eq_some_iff.mp H
   obtain ⟨⟨t210, t211, t212, t213, t214⟩, A60, H⟩ := H
   replace H : ((schema_RightTable.f k t210 t211 t212 t213 t214).bind fun t217 => (some t217)) = some r := H
   have A6 := aM A60
   clear A60
   replace H := Option.bind_eq_some_iff.mp H
   obtain ⟨t217, A70, H⟩ := H
   replace H : (some t217) = some r := H
   have A7 := aM A70
   clear A70
   obtain rfl := Option.some.inj H
   go_enter Tryd.func19, Tryd.ntmps19
   go_wp2_with (first | ((with_reducible refine gate_callee (f := 59) rfl ?_); refine yC 4 Tryd.func59 #[] rfl ?_; (with_reducible refine (haulagelaw08_Small.calls  t192 t193 t194 t195 t196 _ A1.out).mono ?_); rintro e w8 ⟨v197, rfl, ho0, hb⟩; refine ⟨_, rfl, ?_⟩; have HO198 := aM (Kd.R_lower ho0 (bZ (yB HB))); replace HB := aM (bP (yB HB) hb); (try clear hb); (try clear ho0)) | ((with_reducible refine gate_dst (N := 7) rfl ?_); (try (refine gate_guard (by rfl) ?_; dsimp only)); refine Kd.R_lit k96 _ 96 ?hg (N := 7) ?hd (xs := ([(⟨(⟨#[97]⟩ : ByteArray), (⟨1, 1, (⟨#[]⟩ : ByteArray)⟩ : S52)⟩ : S96)] : List (S96))) (inner := [.string (⟨#[97]⟩ : ByteArray), .int .i64 1, .int .i64 1, .string (⟨#[]⟩ : ByteArray)]) (ok := fun _ => True) (okp := fun _ => True) ?hr ?hp (fun _ hk => hk) trivial (Below.refl _ _) (Nat.le_refl _) (by simp) ?_; (case hd => rfl); (case hg => rfl); (case hr => first | (go_simp; done) | (go_simp; rfl)); (case hp => exact (Reps.c4 (show Kd.M k96 _ _ _ (⟨(⟨#[97]⟩ : ByteArray), (⟨1, 1, (⟨#[]⟩ : ByteArray)⟩ : S52)⟩ : S96) [.string (⟨#[97]⟩ : ByteArray), .int .i64 1, .int .i64 1, .string (⟨#[]⟩ : ByteArray)] from (k96_mkM _ _ _ (⟨(⟨#[97]⟩ : ByteArray), (⟨1, 1, (⟨#[]⟩ : ByteArray)⟩ : S52)⟩ : S96) )) (Reps.none _ _))); intro v200 w9 ho10 hb hg_ hnew_; clear hg_ hnew_; (first | rw [← Ny199.out] at ho10 | (simp only [Int.reduceToNat] at ho10; rw [← Ny199.out] at ho10)); replace HO198 := aM (Kd.R_below (yR HO198.out) hb); have HO201 := aM (Kd.R_lower ho10 (bZ (yB HB))); replace HB := aM (bP (yB HB) hb); clear hb ho10; obtain ⟨Ao11, co11, eo11⟩ := Kd.R_slice HO198.out; subst eo11; obtain ⟨Ao12, co12, eo12⟩ := Kd.R_slice HO201.out; subst eo12) | ((with_reducible refine gate_callee (f := 21) rfl ?_); refine yC 8 Tryd.func21 #[.agg #[.int .i64 t192, .string t193, .int .i64 t194, .int .i64 t195, .slice Ao11 t196.length co11], .slice Ao12 y199.length co12] rfl ?_; (with_reducible refine (schema_Fill.calls k t192 t193 t194 t195 _ _ t196 _ _ y199 t202 t205 _ ?side1 ?side2 ?side3 ?side4 ?side5 A2.out).mono ?_); (case side1 => exact yW (Kd.R_reads' HO198.out).2.2); (case side2 => exact (Kd.R_reads' HO198.out).2.1); (case side3 => exact yW (Kd.R_reads' HO201.out).2.2); (case side4 => exact (Kd.R_reads' HO201.out).2.1); (case side5 => first | (with_reducible exact HG.out) | exact Glob.below HG.out (yB HB)); rintro e w13 ⟨v203, rfl, ho0, hb⟩; refine ⟨_, rfl, ?_⟩; replace HO198 := aM (Kd.R_below (yR HO198.out) hb); replace HO201 := aM (Kd.R_below (yR HO201.out) hb); have HO204 := aM (Kd.R_lower ho0 (bZ (yB HB))); replace HB := aM (bP (yB HB) hb); (try clear hb); (try clear ho0)) | ((with_reducible refine gate_dst (N := 17) rfl ?_); (try (refine gate_guard (by rfl) ?_; dsimp only)); refine Kd.R_lit k52 _ 52 ?hg (N := 17) ?hd (xs := ([(⟨1, 1, (⟨#[]⟩ : ByteArray)⟩ : S52), (⟨0, 0, (⟨#[]⟩ : ByteArray)⟩ : S52)] : List (S52))) (inner := [.int .i64 1, .int .i64 1, .string (⟨#[]⟩ : ByteArray), .int .i64 0, .int .i64 0, .string (⟨#[]⟩ : ByteArray)]) (ok := fun _ => True) (okp := fun _ => True) ?hr ?hp (fun _ hk => hk) trivial (Below.refl _ _) (Nat.le_refl _) (by simp) ?_; (case hd => rfl); (case hg => rfl); (case hr => first | (go_simp; done) | (go_simp; rfl)); (case hp => exact (Reps.c3 (show Kd.M k52 _ _ _ (⟨1, 1, (⟨#[]⟩ : ByteArray)⟩ : S52) [.int .i64 1, .int .i64 1, .string (⟨#[]⟩ : ByteArray)] from (k52_mkM _ _ _ (⟨1, 1, (⟨#[]⟩ : ByteArray)⟩ : S52) )) (Reps.c3 (show Kd.M k52 _ _ _ (⟨0, 0, (⟨#[]⟩ : ByteArray)⟩ : S52) [.int .i64 0, .int .i64 0, .string (⟨#[]⟩ : ByteArray)] from (k52_mkM _ _ _ (⟨0, 0, (⟨#[]⟩ : ByteArray)⟩ : S52) )) (Reps.none _ _)))); intro v207 w14 ho15 hb hg_ hnew_; clear hg_ hnew_; (first | rw [← Ny206.out] at ho15 | (simp only [Int.reduceToNat] at ho15; rw [← Ny206.out] at ho15)); replace HO198 := aM (Kd.R_below (yR HO198.out) hb); replace HO201 := aM (Kd.R_below (yR HO201.out) hb); have HO208 := aM (Kd.R_lower (Kd.R_new' ho15 (Kd.R_lt (yR HO204.out))) (bZ (yB HB))); replace HO204 := aM (Kd.R_elder' (yR HO204.out) (Kd.R_base ho15) hb); replace HB := aM (bP (yB HB) hb); clear hb ho15; obtain ⟨Ao16, co16, eo16⟩ := Kd.R_slice HO204.out; subst eo16; obtain ⟨Ao17, co17, eo17⟩ := Kd.R_slice HO208.out; subst eo17) | (go_at_call 23; (with_reducible refine (haulageref08_SameRow.calls k _ _ t202 _ _ y206 true _ ?side1 ?side2 ?side3 ?side4 A4.out).mono ?_); (case side1 => exact yW (Kd.R_reads' HO204.out).2.2); (case side2 => exact (Kd.R_reads' HO204.out).2.1); (case side3 => exact yW (Kd.R_reads' HO208.out).2.2); (case side4 => exact (Kd.R_reads' HO208.out).2.1); rintro e w' ⟨rfl, ⟨nd, rfl⟩⟩) | (go_at_call 59; (with_reducible refine (haulagelaw08_Small.calls  t210 t211 t212 t213 t214 _ A6.out).mono ?_); rintro e w18 ⟨v215, rfl, ho0, hb⟩; replace HO201 := aM (Kd.R_below (yR HO201.out) hb); replace HO204 := aM (Kd.R_below (yR HO204.out) hb); replace HO208 := aM (Kd.R_below (yR HO208.out) hb); have HO216 := aM (Kd.R_lower (Kd.R_new' ho0 (Kd.R_lt (yR HO198.out))) (bZ (yB HB))); replace HO198 := aM (Kd.R_elder' (yR HO198.out) (Kd.R_base ho0) hb); replace HB := aM (bP (yB HB) hb); (try clear hb); (try clear ho0); obtain ⟨Ao19, co19, eo19⟩ := Kd.R_slice HO216.out; subst eo19) | (go_at_call 26; (with_reducible refine (schema_RightTable.calls k t210 t211 t212 t213 _ _ t214 t217 _ ?side1 ?side2 ?side3 A7.out).mono ?_); (case side1 => exact yW (Kd.R_reads' HO216.out).2.2); (case side2 => exact (Kd.R_reads' HO216.out).2.1); (case side3 => first | (with_reducible exact HG.out) | exact Glob.below HG.out (yB HB)); rintro e w20 ⟨rfl, hb⟩; replace HO198 := aM (Kd.R_below (yR HO198.out) hb); replace HO201 := aM (Kd.R_below (yR HO201.out) hb); replace HO204 := aM (Kd.R_below (yR HO204.out) hb); replace HO208 := aM (Kd.R_below (yR HO208.out) hb); replace HO216 := aM (Kd.R_below (yR HO216.out) hb); replace HB := aM (bP (yB HB) hb); (try clear hb)))
   go_ret
   exact ⟨yE, yB HB⟩
  ·
   replace c5 := Bool.eq_false_iff.mpr c5
   subst c5
   have H1 : (some false) = some r := by rw [if_neg (show ¬ (false = true) by decide)] at H; exact H
   clear H
   have H := H1
   clear H1
   obtain rfl := Option.some.inj H
   go_enter Tryd.func19, Tryd.ntmps19
   go_wp2_with (first | ((with_reducible refine gate_callee (f := 59) rfl ?_); refine yC 4 Tryd.func59 #[] rfl ?_; (with_reducible refine (haulagelaw08_Small.calls  t192 t193 t194 t195 t196 _ A1.out).mono ?_); rintro e w21 ⟨v197, rfl, ho0, hb⟩; refine ⟨_, rfl, ?_⟩; have HO198 := aM (Kd.R_lower ho0 (bZ (yB HB))); replace HB := aM (bP (yB HB) hb); (try clear hb); (try clear ho0)) | ((with_reducible refine gate_dst (N := 7) rfl ?_); (try (refine gate_guard (by rfl) ?_; dsimp only)); refine Kd.R_lit k96 _ 96 ?hg (N := 7) ?hd (xs := ([(⟨(⟨#[97]⟩ : ByteArray), (⟨1, 1, (⟨#[]⟩ : ByteArray)⟩ : S52)⟩ : S96)] : List (S96))) (inner := [.string (⟨#[97]⟩ : ByteArray), .int .i64 1, .int .i64 1, .string (⟨#[]⟩ : ByteArray)]) (ok := fun _ => True) (okp := fun _ => True) ?hr ?hp (fun _ hk => hk) trivial (Below.refl _ _) (Nat.le_refl _) (by simp) ?_; (case hd => rfl); (case hg => rfl); (case hr => first | (go_simp; done) | (go_simp; rfl)); (case hp => exact (Reps.c4 (show Kd.M k96 _ _ _ (⟨(⟨#[97]⟩ : ByteArray), (⟨1, 1, (⟨#[]⟩ : ByteArray)⟩ : S52)⟩ : S96) [.string (⟨#[97]⟩ : ByteArray), .int .i64 1, .int .i64 1, .string (⟨#[]⟩ : ByteArray)] from (k96_mkM _ _ _ (⟨(⟨#[97]⟩ : ByteArray), (⟨1, 1, (⟨#[]⟩ : ByteArray)⟩ : S52)⟩ : S96) )) (Reps.none _ _))); intro v200 w22 ho23 hb hg_ hnew_; clear hg_ hnew_; (first | rw [← Ny199.out] at ho23 | (simp only [Int.reduceToNat] at ho23; rw [← Ny199.out] at ho23)); replace HO198 := aM (Kd.R_below (yR HO198.out) hb); have HO201 := aM (Kd.R_lower ho23 (bZ (yB HB))); replace HB := aM (bP (yB HB) hb); clear hb ho23; obtain ⟨Ao24, co24, eo24⟩ := Kd.R_slice HO198.out; subst eo24; obtain ⟨Ao25, co25, eo25⟩ := Kd.R_slice HO201.out; subst eo25) | ((with_reducible refine gate_callee (f := 21) rfl ?_); refine yC 8 Tryd.func21 #[.agg #[.int .i64 t192, .string t193, .int .i64 t194, .int .i64 t195, .slice Ao24 t196.length co24], .slice Ao25 y199.length co25] rfl ?_; (with_reducible refine (schema_Fill.calls k t192 t193 t194 t195 _ _ t196 _ _ y199 t202 t205 _ ?side1 ?side2 ?side3 ?side4 ?side5 A2.out).mono ?_); (case side1 => exact yW (Kd.R_reads' HO198.out).2.2); (case side2 => exact (Kd.R_reads' HO198.out).2.1); (case side3 => exact yW (Kd.R_reads' HO201.out).2.2); (case side4 => exact (Kd.R_reads' HO201.out).2.1); (case side5 => first | (with_reducible exact HG.out) | exact Glob.below HG.out (yB HB)); rintro e w26 ⟨v203, rfl, ho0, hb⟩; refine ⟨_, rfl, ?_⟩; replace HO198 := aM (Kd.R_below (yR HO198.out) hb); replace HO201 := aM (Kd.R_below (yR HO201.out) hb); have HO204 := aM (Kd.R_lower ho0 (bZ (yB HB))); replace HB := aM (bP (yB HB) hb); (try clear hb); (try clear ho0)) | ((with_reducible refine gate_dst (N := 17) rfl ?_); (try (refine gate_guard (by rfl) ?_; dsimp only)); refine Kd.R_lit k52 _ 52 ?hg (N := 17) ?hd (xs := ([(⟨1, 1, (⟨#[]⟩ : ByteArray)⟩ : S52), (⟨0, 0, (⟨#[]⟩ : ByteArray)⟩ : S52)] : List (S52))) (inner := [.int .i64 1, .int .i64 1, .string (⟨#[]⟩ : ByteArray), .int .i64 0, .int .i64 0, .string (⟨#[]⟩ : ByteArray)]) (ok := fun _ => True) (okp := fun _ => True) ?hr ?hp (fun _ hk => hk) trivial (Below.refl _ _) (Nat.le_refl _) (by simp) ?_; (case hd => rfl); (case hg => rfl); (case hr => first | (go_simp; done) | (go_simp; rfl)); (case hp => exact (Reps.c3 (show Kd.M k52 _ _ _ (⟨1, 1, (⟨#[]⟩ : ByteArray)⟩ : S52) [.int .i64 1, .int .i64 1, .string (⟨#[]⟩ : ByteArray)] from (k52_mkM _ _ _ (⟨1, 1, (⟨#[]⟩ : ByteArray)⟩ : S52) )) (Reps.c3 (show Kd.M k52 _ _ _ (⟨0, 0, (⟨#[]⟩ : ByteArray)⟩ : S52) [.int .i64 0, .int .i64 0, .string (⟨#[]⟩ : ByteArray)] from (k52_mkM _ _ _ (⟨0, 0, (⟨#[]⟩ : ByteArray)⟩ : S52) )) (Reps.none _ _)))); intro v207 w27 ho28 hb hg_ hnew_; clear hg_ hnew_; (first | rw [← Ny206.out] at ho28 | (simp only [Int.reduceToNat] at ho28; rw [← Ny206.out] at ho28)); replace HO198 := aM (Kd.R_below (yR HO198.out) hb); replace HO201 := aM (Kd.R_below (yR HO201.out) hb); have HO208 := aM (Kd.R_lower (Kd.R_new' ho28 (Kd.R_lt (yR HO204.out))) (bZ (yB HB))); replace HO204 := aM (Kd.R_elder' (yR HO204.out) (Kd.R_base ho28) hb); replace HB := aM (bP (yB HB) hb); clear hb ho28; obtain ⟨Ao29, co29, eo29⟩ := Kd.R_slice HO204.out; subst eo29; obtain ⟨Ao30, co30, eo30⟩ := Kd.R_slice HO208.out; subst eo30) | (go_at_call 23; (with_reducible refine (haulageref08_SameRow.calls k _ _ t202 _ _ y206 false _ ?side1 ?side2 ?side3 ?side4 A4.out).mono ?_); (case side1 => exact yW (Kd.R_reads' HO204.out).2.2); (case side2 => exact (Kd.R_reads' HO204.out).2.1); (case side3 => exact yW (Kd.R_reads' HO208.out).2.2); (case side4 => exact (Kd.R_reads' HO208.out).2.1); rintro e w' ⟨rfl, ⟨nd, rfl⟩⟩))
   go_ret
   exact ⟨yE, yB HB⟩
 ·
  rw [if_neg c3] at H
  have c3b0 : (t205 == 0) = false := beq_eq_false_iff_ne.mpr c3
  have c3b1 : (t205 != 0) = true := bne_iff_ne.mpr c3
  obtain rfl := Option.some.inj H
  go_enter Tryd.func19, Tryd.ntmps19
  go_wp2_with (first | ((with_reducible refine gate_callee (f := 59) rfl ?_); refine yC 4 Tryd.func59 #[] rfl ?_; (with_reducible refine (haulagelaw08_Small.calls  t192 t193 t194 t195 t196 _ A1.out).mono ?_); rintro e w31 ⟨v197, rfl, ho0, hb⟩; refine ⟨_, rfl, ?_⟩; have HO198 := aM (Kd.R_lower ho0 (bZ (yB HB))); replace HB := aM (bP (yB HB) hb); (try clear hb); (try clear ho0)) | ((with_reducible refine gate_dst (N := 7) rfl ?_); (try (refine gate_guard (by rfl) ?_; dsimp only)); refine Kd.R_lit k96 _ 96 ?hg (N := 7) ?hd (xs := ([(⟨(⟨#[97]⟩ : ByteArray), (⟨1, 1, (⟨#[]⟩ : ByteArray)⟩ : S52)⟩ : S96)] : List (S96))) (inner := [.string (⟨#[97]⟩ : ByteArray), .int .i64 1, .int .i64 1, .string (⟨#[]⟩ : ByteArray)]) (ok := fun _ => True) (okp := fun _ => True) ?hr ?hp (fun _ hk => hk) trivial (Below.refl _ _) (Nat.le_refl _) (by simp) ?_; (case hd => rfl); (case hg => rfl); (case hr => first | (go_simp; done) | (go_simp; rfl)); (case hp => exact (Reps.c4 (show Kd.M k96 _ _ _ (⟨(⟨#[97]⟩ : ByteArray), (⟨1, 1, (⟨#[]⟩ : ByteArray)⟩ : S52)⟩ : S96) [.string (⟨#[97]⟩ : ByteArray), .int .i64 1, .int .i64 1, .string (⟨#[]⟩ : ByteArray)] from (k96_mkM _ _ _ (⟨(⟨#[97]⟩ : ByteArray), (⟨1, 1, (⟨#[]⟩ : ByteArray)⟩ : S52)⟩ : S96) )) (Reps.none _ _))); intro v200 w32 ho33 hb hg_ hnew_; clear hg_ hnew_; (first | rw [← Ny199.out] at ho33 | (simp only [Int.reduceToNat] at ho33; rw [← Ny199.out] at ho33)); replace HO198 := aM (Kd.R_below (yR HO198.out) hb); have HO201 := aM (Kd.R_lower ho33 (bZ (yB HB))); replace HB := aM (bP (yB HB) hb); clear hb ho33; obtain ⟨Ao34, co34, eo34⟩ := Kd.R_slice HO198.out; subst eo34; obtain ⟨Ao35, co35, eo35⟩ := Kd.R_slice HO201.out; subst eo35) | ((with_reducible refine gate_callee (f := 21) rfl ?_); refine yC 8 Tryd.func21 #[.agg #[.int .i64 t192, .string t193, .int .i64 t194, .int .i64 t195, .slice Ao34 t196.length co34], .slice Ao35 y199.length co35] rfl ?_; (with_reducible refine (schema_Fill.calls k t192 t193 t194 t195 _ _ t196 _ _ y199 t202 t205 _ ?side1 ?side2 ?side3 ?side4 ?side5 A2.out).mono ?_); (case side1 => exact yW (Kd.R_reads' HO198.out).2.2); (case side2 => exact (Kd.R_reads' HO198.out).2.1); (case side3 => exact yW (Kd.R_reads' HO201.out).2.2); (case side4 => exact (Kd.R_reads' HO201.out).2.1); (case side5 => first | (with_reducible exact HG.out) | exact Glob.below HG.out (yB HB)); rintro e w36 ⟨v203, rfl, ho0, hb⟩; refine ⟨_, rfl, ?_⟩; replace HO198 := aM (Kd.R_below (yR HO198.out) hb); replace HO201 := aM (Kd.R_below (yR HO201.out) hb); have HO204 := aM (Kd.R_lower ho0 (bZ (yB HB))); replace HB := aM (bP (yB HB) hb); (try clear hb); (try clear ho0)))
  go_ret
  exact ⟨yE, yB HB⟩
/-! ### haulagelaw08_FewFields: function 20 -/
def haulagelaw08_FewFields.l0 : Nat → List (S96) → Int → Option (Bool)
 | 0, _, _ => none
 | k + 1, x0, x3 => if x3 < (x0.length : Int) then (if 0 ≤ x3 then ((haulagelaw08_short.f ((rd_T96 x0 x3).f0)).bind fun t219 => (if t219 = true then ((haulagelaw08_short.f ((rd_T96 x0 x3).f1.f2)).bind fun t221 => (if t221 = true then (haulagelaw08_FewFields.l0 k x0 (wrap64 (x3 + 1))) else (some false))) else (some false))) else (none)) else (some true)
def haulagelaw08_FewFields.f (k : Nat) (l0 : List (S96)) : Option (Bool) := if (l0.length : Int) > 20 then (some false) else (haulagelaw08_FewFields.l0 k l0 0)
theorem haulagelaw08_FewFields.mono_l : ∀ k, (∀ y0 y1, LeO (haulagelaw08_FewFields.l0 k y0 y1) (haulagelaw08_FewFields.l0 (k + 1) y0 y1))
 | 0 => fun _ _ r h => by simp [haulagelaw08_FewFields.l0] at h
 | k + 1 => by
  have ih0 := haulagelaw08_FewFields.mono_l k
  ·
   intro y0 y1
   unfold haulagelaw08_FewFields.l0
   repeat' first
   | (with_reducible exact ih0 _ _)
   | (with_reducible exact LeO.refl _)
   | (with_reducible exact LeO.none _)
   | (with_reducible refine LeO.ite ?_ ?_)
   | (with_reducible refine LeO.bind ?_ (fun _ => ?_))
   | exact ih0 _ _
   | exact LeO.none _
   | refine LeO.ite ?_ ?_
   | refine LeO.bind ?_ (fun _ => ?_)
theorem haulagelaw08_FewFields.mono : ∀ a0 k, LeO (haulagelaw08_FewFields.f k a0) (haulagelaw08_FewFields.f (k + 1) a0) := by
 intro a0 k
 have ih0 := haulagelaw08_FewFields.mono_l k
 unfold haulagelaw08_FewFields.f
 repeat' first
   | (with_reducible exact ih0 _ _)
   | (with_reducible exact LeO.refl _)
   | (with_reducible exact LeO.none _)
   | (with_reducible refine LeO.ite ?_ ?_)
   | (with_reducible refine LeO.bind ?_ (fun _ => ?_))
   | exact ih0 _ _
   | exact LeO.none _
   | refine LeO.ite ?_ ?_
   | refine LeO.bind ?_ (fun _ => ?_)
set_option maxHeartbeats 8000000 in
set_option maxRecDepth 100000 in
theorem haulagelaw08_FewFields.calls (k : Nat) (A0 : Option Addr) (c0 : Nat) (l0 : List (S96)) (r : Bool) (w : World) (hr0 : Kd.C k96 w A0 l0.length l0) (hc0 : l0.length ≤ c0) (h : haulagelaw08_FewFields.f k l0 = some r) :
  Calls Tryd.prog 20 #[.slice A0 l0.length c0] w fun e w' => e = .returned (.bool r) ∧ Drawn0 w w' := by
 have HR0 := aM hr0
 have HC0 := aM hc0
 clear hr0 hc0
 have H : (if (l0.length : Int) > 20 then (some false) else (haulagelaw08_FewFields.l0 k l0 0)) = some r := h
 clear h
 by_cases c2 : (l0.length : Int) > 20
 ·
  rw [if_pos c2] at H
  have c2b0 : decide (20 < (l0.length : Int)) = true := decide_eq_true c2
  have c2b1 : decide (20 < l0.length) = true := decide_eq_true (by omega)
  clear c2
  obtain rfl := Option.some.inj H
  go_enter Tryd.func20, Tryd.ntmps20
  go_wp2
  go_ret
  exact ⟨yS, yD⟩
 ·
  rw [if_neg c2] at H
  have c2b0 : decide (20 < (l0.length : Int)) = false := decide_eq_false c2
  have c2b1 : decide (20 < l0.length) = false := decide_eq_false (by omega)
  clear c2
  have H' := aM H
  clear H
  go_enter Tryd.func20, Tryd.ntmps20
  go_wp2
  go_loopg [3] k (fun kq v3 w' => ∃ (x3_1 : Int), v3 = .int .i64 x3_1 ∧ Aside0 (haulagelaw08_FewFields.l0 kq l0 x3_1 = some r) ∧ Aside0 (kq ≤ k) ∧ Drawn0 w w')
  case atStart => exact ⟨(0), yS, H', ⟨Nat.le_refl _⟩, yD⟩
  case round =>
   clear H'
   try clear c2
   try clear c2b0
   try clear c2b1
   try clear p2
   obtain ⟨x3_1, rfl, HA, HK1, ⟨m1, rfl⟩⟩ := hrel
   cases gk with
   | zero => exact absurd HA.out (by simp [haulagelaw08_FewFields.l0])
   | succ k1 =>
    have H := HA.out
    clear HA
    simp only [haulagelaw08_FewFields.l0] at H
    by_cases c3 : x3_1 < (l0.length : Int)
    ·
     rw [if_pos c3] at H
     have c3b0 : decide (x3_1 < (l0.length : Int)) = true := decide_eq_true c3
     clear c3
     by_cases c4 : 0 ≤ x3_1
     ·
      rw [if_pos c4] at H
      have c4b0 : decide (0 ≤ x3_1) = true := decide_eq_true c4
      clear c4
      replace H := Option.bind_eq_some_iff.mp H
      obtain ⟨t219, A50, H⟩ := H
      replace H : (if t219 = true then ((haulagelaw08_short.f ((rd_T96 l0 x3_1).f1.f2)).bind fun t221 => (if t221 = true then (haulagelaw08_FewFields.l0 k1 l0 (wrap64 (x3_1 + 1))) else (some false))) else (some false)) = some r := H
      have A5 := aM A50
      clear A50
      by_cases c6 : t219 = true
      ·
       subst c6
       have H1 : ((haulagelaw08_short.f ((rd_T96 l0 x3_1).f1.f2)).bind fun t221 => (if t221 = true then (haulagelaw08_FewFields.l0 k1 l0 (wrap64 (x3_1 + 1))) else (some false))) = some r := by rw [if_pos rfl] at H; exact H
       clear H
       have H := H1
       clear H1
       replace H := Option.bind_eq_some_iff.mp H
       obtain ⟨t221, A70, H⟩ := H
       replace H : (if t221 = true then (haulagelaw08_FewFields.l0 k1 l0 (wrap64 (x3_1 + 1))) else (some false)) = some r := H
       have A7 := aM A70
       clear A70
       by_cases c8 : t221 = true
       ·
        subst c8
        have H1 : (haulagelaw08_FewFields.l0 k1 l0 (wrap64 (x3_1 + 1))) = some r := by rw [if_pos rfl] at H; exact H
        clear H
        have H := H1
        clear H1
        have H' := aM H
        clear H
        have p218 : 0 ≤ (x3_1 : Int) := oD yA
        have q218 : x3_1 < (l0.length : Int) := oD yA
        obtain ⟨ad218, e218, hx218_0, hx218_1, hx218_2, hx218_3⟩ := at_T96 HR0.out x3_1 p218 q218
        cases e218
        replace p218 := eq_true p218
        replace q218 := eq_true q218
        go_wp2_with (first | ((with_reducible refine gate_callee (f := 38) rfl ?_); refine yC 18 Tryd.func38 #[.string ((rd_T96 l0 x3_1).f0)] rfl ?_; (with_reducible refine (haulagelaw08_short.calls ((rd_T96 l0 x3_1).f0) true _ A5.out).mono ?_); rintro e w' ⟨rfl, ⟨nd, rfl⟩⟩; refine ⟨_, rfl, ?_⟩; have p220 : 0 ≤ (x3_1 : Int) := oD yA; have q220 : x3_1 < (l0.length : Int) := oD yA; obtain ⟨ad220, e220, hx220_0, hx220_1, hx220_2, hx220_3⟩ := at_T96 HR0.out x3_1 p220 q220; obtain rfl : ad218 = ad220 := (by injection e220); replace p220 := eq_true p220; replace q220 := eq_true q220) | (go_at_call 38; (with_reducible refine (haulagelaw08_short.calls ((rd_T96 l0 x3_1).f1.f2) true _ A7.out).mono ?_); rintro e w' ⟨rfl, ⟨nd, rfl⟩⟩))
        go_roundg k1
        case measure => have := HK1.out; omega
        case rel => exact ⟨(wrap64 (x3_1 + 1)), yS, H', ⟨by have := HK1.out; omega⟩, yD⟩
       ·
        replace c8 := Bool.eq_false_iff.mpr c8
        subst c8
        have H1 : (some false) = some r := by rw [if_neg (show ¬ (false = true) by decide)] at H; exact H
        clear H
        have H := H1
        clear H1
        obtain rfl := Option.some.inj H
        have p218 : 0 ≤ (x3_1 : Int) := oD yA
        have q218 : x3_1 < (l0.length : Int) := oD yA
        obtain ⟨ad218, e218, hx218_0, hx218_1, hx218_2, hx218_3⟩ := at_T96 HR0.out x3_1 p218 q218
        cases e218
        replace p218 := eq_true p218
        replace q218 := eq_true q218
        go_wp2_with (first | ((with_reducible refine gate_callee (f := 38) rfl ?_); refine yC 18 Tryd.func38 #[.string ((rd_T96 l0 x3_1).f0)] rfl ?_; (with_reducible refine (haulagelaw08_short.calls ((rd_T96 l0 x3_1).f0) true _ A5.out).mono ?_); rintro e w' ⟨rfl, ⟨nd, rfl⟩⟩; refine ⟨_, rfl, ?_⟩; have p220 : 0 ≤ (x3_1 : Int) := oD yA; have q220 : x3_1 < (l0.length : Int) := oD yA; obtain ⟨ad220, e220, hx220_0, hx220_1, hx220_2, hx220_3⟩ := at_T96 HR0.out x3_1 p220 q220; obtain rfl : ad218 = ad220 := (by injection e220); replace p220 := eq_true p220; replace q220 := eq_true q220) | (go_at_call 38; (with_reducible refine (haulagelaw08_short.calls ((rd_T96 l0 x3_1).f1.f2) false _ A7.out).mono ?_); rintro e w' ⟨rfl, ⟨nd, rfl⟩⟩))
        go_ret
        exact ⟨yS, yD⟩
      ·
       replace c6 := Bool.eq_false_iff.mpr c6
       subst c6
       have H1 : (some false) = some r := by rw [if_neg (show ¬ (false = true) by decide)] at H; exact H
       clear H
       have H := H1
       clear H1
       obtain rfl := Option.some.inj H
       have p218 : 0 ≤ (x3_1 : Int) := oD yA
       have q218 : x3_1 < (l0.length : Int) := oD yA
       obtain ⟨ad218, e218, hx218_0, hx218_1, hx218_2, hx218_3⟩ := at_T96 HR0.out x3_1 p218 q218
       cases e218
       replace p218 := eq_true p218
       replace q218 := eq_true q218
       go_wp2_with (first | ((with_reducible refine gate_callee (f := 38) rfl ?_); refine yC 18 Tryd.func38 #[.string ((rd_T96 l0 x3_1).f0)] rfl ?_; (with_reducible refine (haulagelaw08_short.calls ((rd_T96 l0 x3_1).f0) false _ A5.out).mono ?_); rintro e w' ⟨rfl, ⟨nd, rfl⟩⟩; refine ⟨_, rfl, ?_⟩))
       go_ret
       exact ⟨yS, yD⟩
     ·
      rw [if_neg c4] at H
      exact absurd H (by simp)
    ·
     rw [if_neg c3] at H
     have c3b0 : decide (x3_1 < (l0.length : Int)) = false := decide_eq_false c3
     clear c3
     obtain rfl := Option.some.inj H
     go_wp2
     go_ret
     exact ⟨yS, yD⟩
/-! ### haulageref06_Right: function 72 -/
def haulageref06_Right.f (a0_0 : Int) (a0_1 : Int) : Option (Bool) := if a0_0 = 1 then (some (a0_1 == 0)) else (if a0_0 = 2 then (some (a0_1 == 0)) else (if a0_0 = 3 then (if a0_1 ≥ 1 then (some (decide (a0_1 ≤ 120))) else (some false)) else (if a0_0 = 4 then (if a0_1 ≥ 1 then (some (decide (a0_1 ≤ 120))) else (some false)) else (some false))))
set_option maxHeartbeats 8000000 in
set_option maxRecDepth 100000 in
theorem haulageref06_Right.calls (a0_0 : Int) (a0_1 : Int) (r : Bool) (w : World) (h : haulageref06_Right.f a0_0 a0_1 = some r) :
  Calls Tryd.prog 72 #[.agg #[.int .i64 a0_0, .int .i64 a0_1]] w fun e w' => e = .returned (.bool r) ∧ Below w.heap.size w w' := by
 have hu50 := Tryd.underlying50
 have HB := aM (Below.refl w.heap.size w)
 have H : (if a0_0 = 1 then (some (a0_1 == 0)) else (if a0_0 = 2 then (some (a0_1 == 0)) else (if a0_0 = 3 then (if a0_1 ≥ 1 then (some (decide (a0_1 ≤ 120))) else (some false)) else (if a0_0 = 4 then (if a0_1 ≥ 1 then (some (decide (a0_1 ≤ 120))) else (some false)) else (some false))))) = some r := h
 clear h
 by_cases c2 : a0_0 = 1
 ·
  rw [if_pos c2] at H
  have c2b0 : (a0_0 == 1) = true := beq_iff_eq.mpr c2
  have c2b1 : (a0_0 != 1) = false := bne_eq_false_iff_eq.mpr c2
  clear c2
  obtain rfl := Option.some.inj H
  go_enter Tryd.func72, Tryd.ntmps72
  go_wp2_with (first | ((with_reducible refine gate_dst (N := 1) rfl ?_); refine yX (N := 1) (cs := #[.int .i64 a0_0, .int .i64 a0_1]) (t := 50) ?_; intro gb222 hg w3 hbox hb; have BK222 := aM (hbox); have GW222 := yZ hg (yB HB); have GE222 := yZ hg (yB HB); replace HB := aM (bP (yB HB) hb); clear hb hbox hg; obtain ⟨hcz4_0, hcz4_1, hfz4_0, hfz4_1⟩ := cells2 BK222.out))
  go_ret
  exact ⟨yE, yG1 HB GE222.out⟩
 ·
  rw [if_neg c2] at H
  have c2b0 : (a0_0 == 1) = false := beq_eq_false_iff_ne.mpr c2
  have c2b1 : (a0_0 != 1) = true := bne_iff_ne.mpr c2
  by_cases c5 : a0_0 = 2
  ·
   rw [if_pos c5] at H
   have c5b0 : (a0_0 == 2) = true := beq_iff_eq.mpr c5
   have c5b1 : (a0_0 != 2) = false := bne_eq_false_iff_eq.mpr c5
   clear c5
   obtain rfl := Option.some.inj H
   go_enter Tryd.func72, Tryd.ntmps72
   go_wp2_with (first | ((with_reducible refine gate_dst (N := 1) rfl ?_); refine yX (N := 1) (cs := #[.int .i64 a0_0, .int .i64 a0_1]) (t := 50) ?_; intro gb222 hg w6 hbox hb; have BK222 := aM (hbox); have GW222 := yZ hg (yB HB); have GE222 := yZ hg (yB HB); replace HB := aM (bP (yB HB) hb); clear hb hbox hg; obtain ⟨hcz7_0, hcz7_1, hfz7_0, hfz7_1⟩ := cells2 BK222.out))
   go_ret
   exact ⟨yE, yG1 HB GE222.out⟩
  ·
   rw [if_neg c5] at H
   have c5b0 : (a0_0 == 2) = false := beq_eq_false_iff_ne.mpr c5
   have c5b1 : (a0_0 != 2) = true := bne_iff_ne.mpr c5
   by_cases c8 : a0_0 = 3
   ·
    rw [if_pos c8] at H
    have c8b0 : (a0_0 == 3) = true := beq_iff_eq.mpr c8
    have c8b1 : (a0_0 != 3) = false := bne_eq_false_iff_eq.mpr c8
    clear c8
    by_cases c9 : a0_1 ≥ 1
    ·
     rw [if_pos c9] at H
     have c9b0 : decide (1 ≤ a0_1) = true := decide_eq_true c9
     clear c9
     obtain rfl := Option.some.inj H
     go_enter Tryd.func72, Tryd.ntmps72
     go_wp2_with (first | ((with_reducible refine gate_dst (N := 1) rfl ?_); refine yX (N := 1) (cs := #[.int .i64 a0_0, .int .i64 a0_1]) (t := 50) ?_; intro gb222 hg w10 hbox hb; have BK222 := aM (hbox); have GW222 := yZ hg (yB HB); have GE222 := yZ hg (yB HB); replace HB := aM (bP (yB HB) hb); clear hb hbox hg; obtain ⟨hcz11_0, hcz11_1, hfz11_0, hfz11_1⟩ := cells2 BK222.out))
     go_ret
     exact ⟨yE, yG1 HB GE222.out⟩
    ·
     rw [if_neg c9] at H
     have c9b0 : decide (1 ≤ a0_1) = false := decide_eq_false c9
     clear c9
     obtain rfl := Option.some.inj H
     go_enter Tryd.func72, Tryd.ntmps72
     go_wp2_with (first | ((with_reducible refine gate_dst (N := 1) rfl ?_); refine yX (N := 1) (cs := #[.int .i64 a0_0, .int .i64 a0_1]) (t := 50) ?_; intro gb222 hg w12 hbox hb; have BK222 := aM (hbox); have GW222 := yZ hg (yB HB); have GE222 := yZ hg (yB HB); replace HB := aM (bP (yB HB) hb); clear hb hbox hg; obtain ⟨hcz13_0, hcz13_1, hfz13_0, hfz13_1⟩ := cells2 BK222.out))
     go_ret
     exact ⟨yE, yG1 HB GE222.out⟩
   ·
    rw [if_neg c8] at H
    have c8b0 : (a0_0 == 3) = false := beq_eq_false_iff_ne.mpr c8
    have c8b1 : (a0_0 != 3) = true := bne_iff_ne.mpr c8
    by_cases c14 : a0_0 = 4
    ·
     rw [if_pos c14] at H
     have c14b0 : (a0_0 == 4) = true := beq_iff_eq.mpr c14
     have c14b1 : (a0_0 != 4) = false := bne_eq_false_iff_eq.mpr c14
     clear c14
     by_cases c15 : a0_1 ≥ 1
     ·
      rw [if_pos c15] at H
      have c15b0 : decide (1 ≤ a0_1) = true := decide_eq_true c15
      clear c15
      obtain rfl := Option.some.inj H
      go_enter Tryd.func72, Tryd.ntmps72
      go_wp2_with (first | ((with_reducible refine gate_dst (N := 1) rfl ?_); refine yX (N := 1) (cs := #[.int .i64 a0_0, .int .i64 a0_1]) (t := 50) ?_; intro gb222 hg w16 hbox hb; have BK222 := aM (hbox); have GW222 := yZ hg (yB HB); have GE222 := yZ hg (yB HB); replace HB := aM (bP (yB HB) hb); clear hb hbox hg; obtain ⟨hcz17_0, hcz17_1, hfz17_0, hfz17_1⟩ := cells2 BK222.out))
      go_ret
      exact ⟨yE, yG1 HB GE222.out⟩
     ·
      rw [if_neg c15] at H
      have c15b0 : decide (1 ≤ a0_1) = false := decide_eq_false c15
      clear c15
      obtain rfl := Option.some.inj H
      go_enter Tryd.func72, Tryd.ntmps72
      go_wp2_with (first | ((with_reducible refine gate_dst (N := 1) rfl ?_); refine yX (N := 1) (cs := #[.int .i64 a0_0, .int .i64 a0_1]) (t := 50) ?_; intro gb222 hg w18 hbox hb; have BK222 := aM (hbox); have GW222 := yZ hg (yB HB); have GE222 := yZ hg (yB HB); replace HB := aM (bP (yB HB) hb); clear hb hbox hg; obtain ⟨hcz19_0, hcz19_1, hfz19_0, hfz19_1⟩ := cells2 BK222.out))
      go_ret
      exact ⟨yE, yG1 HB GE222.out⟩
    ·
     rw [if_neg c14] at H
     have c14b0 : (a0_0 == 4) = false := beq_eq_false_iff_ne.mpr c14
     have c14b1 : (a0_0 != 4) = true := bne_iff_ne.mpr c14
     obtain rfl := Option.some.inj H
     go_enter Tryd.func72, Tryd.ntmps72
     go_wp2_with (first | ((with_reducible refine gate_dst (N := 1) rfl ?_); refine yX (N := 1) (cs := #[.int .i64 a0_0, .int .i64 a0_1]) (t := 50) ?_; intro gb222 hg w20 hbox hb; have BK222 := aM (hbox); have GW222 := yZ hg (yB HB); have GE222 := yZ hg (yB HB); replace HB := aM (bP (yB HB) hb); clear hb hbox hg; obtain ⟨hcz21_0, hcz21_1, hfz21_0, hfz21_1⟩ := cells2 BK222.out))
     go_ret
     exact ⟨yE, yG1 HB GE222.out⟩
/-! ### haulageref03_Is: function 119 -/
def haulageref03_Is.f (a0 : Int) : Option (Bool) := if a0 ≥ 0 then (if a0 ≤ 1114111 then (if a0 < 55296 then (some true) else (some (decide (a0 > 57343)))) else (some false)) else (some false)
set_option maxHeartbeats 8000000 in
set_option maxRecDepth 100000 in
theorem haulageref03_Is.calls (a0 : Int) (r : Bool) (w : World) (h : haulageref03_Is.f a0 = some r) :
  Calls Tryd.prog 119 #[.int .i64 a0] w fun e w' => e = .returned (.bool r) ∧ Drawn0 w w' := by
 have H : (if a0 ≥ 0 then (if a0 ≤ 1114111 then (if a0 < 55296 then (some true) else (some (decide (a0 > 57343)))) else (some false)) else (some false)) = some r := h
 clear h
 by_cases c2 : a0 ≥ 0
 ·
  rw [if_pos c2] at H
  have c2b0 : decide (0 ≤ a0) = true := decide_eq_true c2
  clear c2
  by_cases c3 : a0 ≤ 1114111
  ·
   rw [if_pos c3] at H
   have c3b0 : decide (a0 ≤ 1114111) = true := decide_eq_true c3
   clear c3
   by_cases c4 : a0 < 55296
   ·
    rw [if_pos c4] at H
    have c4b0 : decide (a0 < 55296) = true := decide_eq_true c4
    clear c4
    obtain rfl := Option.some.inj H
    go_enter Tryd.func119, Tryd.ntmps119
    go_wp2
    go_ret
    exact ⟨yS, yD⟩
   ·
    rw [if_neg c4] at H
    have c4b0 : decide (a0 < 55296) = false := decide_eq_false c4
    clear c4
    obtain rfl := Option.some.inj H
    go_enter Tryd.func119, Tryd.ntmps119
    go_wp2
    go_ret
    exact ⟨yS, yD⟩
  ·
   rw [if_neg c3] at H
   have c3b0 : decide (a0 ≤ 1114111) = false := decide_eq_false c3
   clear c3
   obtain rfl := Option.some.inj H
   go_enter Tryd.func119, Tryd.ntmps119
   go_wp2
   go_ret
   exact ⟨yS, yD⟩
 ·
  rw [if_neg c2] at H
  have c2b0 : decide (0 ≤ a0) = false := decide_eq_false c2
  clear c2
  obtain rfl := Option.some.inj H
  go_enter Tryd.func119, Tryd.ntmps119
  go_wp2
  go_ret
  exact ⟨yS, yD⟩
/-! ### haulageref03_one: function 124 -/
def haulageref03_one.f (a0 : Int) : Option (ByteArray) := some (strOfNums (([(a0) % 256] : List Int)))
set_option maxHeartbeats 8000000 in
set_option maxRecDepth 100000 in
theorem haulageref03_one.calls (a0 : Int) (r : ByteArray) (w : World) (h : haulageref03_one.f a0 = some r) :
  Calls Tryd.prog 124 #[.int .i64 a0] w fun e w' => e = .returned (.string r) ∧ Below w.heap.size w w' := by
 have HB := aM (Below.refl w.heap.size w)
 have H : (some (strOfNums (([(a0) % 256] : List Int)))) = some r := h
 clear h
 obtain ⟨y223, hy223⟩ : ∃ y_ : List Int, y_ = (([(a0) % 256] : List Int)) := ⟨_, rfl⟩
 replace H : (some (strOfNums y223)) = some r := by first | (rw [hy223]; with_reducible exact H) | (have H2_ := (Option.bind_some _ _).symm.trans H; rw [hy223]; with_reducible exact H2_) | (have H2_ := (Option.bind_some _ _).symm.trans H; with_reducible exact H2_) | with_reducible exact H | (rw [hy223]; exact H) | exact H
 have Ny223 := aM hy223
 clear hy223
 obtain rfl := Option.some.inj H
 go_enter Tryd.func124, Tryd.ntmps124
 go_wp2_with (first | ((with_reducible refine gate_dst (N := 5) rfl ?_); refine Kd.R_lit (Kd.int .u8) _ 5 ?hg (N := 5) ?hd (xs := ([(a0) % 256] : List Int)) (inner := [.int .u8 ((a0) % 256)]) (ok := fun _ => True) (okp := fun _ => True) ?hr ?hp (fun _ hk => hk) trivial (Below.refl _ _) (Nat.le_refl _) (by simp) ?_; (case hd => rfl); (case hg => rfl); (case hr => first | (go_simp; done) | (go_simp; rfl)); (case hp => exact (Reps.one (show Kd.M (Kd.int .u8) _ _ _ ((a0) % 256) [.int .u8 ((a0) % 256)] from rfl) (Reps.none _ _))); intro v224 w2 ho3 hb hg_ hnew_; clear hg_ hnew_; (first | rw [← Ny223.out] at ho3 | (simp only [Int.reduceToNat] at ho3; rw [← Ny223.out] at ho3)); have HO225 := aM (Kd.R_lower ho3 (bZ (yB HB))); replace HB := aM (bP (yB HB) hb); clear hb ho3; have hcv4 := own_string (P := Tryd.prog) Tryd.underlying91 Tryd.underlying5 Tryd.underlying9 (Kd.own_of_R HO225.out)))
 go_ret
 exact ⟨yE, yB HB⟩
end Go.Proofs.YtdeophpjammbpaaDoor.HSchemaFills

/- For Go functions that SchemaRight reaches: Lean functions, and walks that show that each call comes to what its Lean function tells; no condition but those that each theorem states. (Made by a program of this session over the kit's print.py.) -/
import Derived.Test.YtdeophpjammbpaaDoorHSchemaRightx0
import Derived.Test.YtdeophpjammbpaaDoorHSchemaRightx1
import Derived.Test.YtdeophpjammbpaaDoorHSchemaRightx6
import Derived.Test.YtdeophpjammbpaaDoorHSchemaRightx8
namespace Go.Proofs.YtdeophpjammbpaaDoor.HSchemaRight
open Go.RowKit Go.Proofs.YtdeophpjammbpaaDoorW.PrintWords Go.Proofs.YtdeophpjammbpaaDoorW.PrintLast Go.Proofs.YtdeophpjammbpaaDoorW.PrintMore
attribute [local go_sem] max2_int min2_int max_two min_two max_three min_three max_four min_four   -- for this text's walks alone
set_option linter.unusedVariables false
set_option linter.unusedSimpArgs false
attribute [local go_sem] hp_s8 hp_s16 hp_s32 hp_s64 hp_m8 hp_m16 hp_m32 hp_m64
attribute [local go_sem high] eqA52
/-! ### schema_Fill: function 21 -/
def schema_Fill.l0 : Nat → List (S96) → List (S52) → List (S54) → Int → Int → Int → ByteArray → Int → Int → List (S54) → Option ((List (S52)) × Int)
 | 0, _, _, _, _, _, _, _, _, _, _ => none
 | k + 1, x1, x6, x17, x18, x19, x169000, x169001, x169002, x169003, x169004 => if x19 < x18 then (if 0 ≤ x19 then (if x19 < (x17.length : Int) then (if x19 < (x6.length : Int) then (schema_Fill.l0 k x1 (x6.set (x19 : Int).toNat (⟨(rd_T54 x17 x19).f4.f0, (rd_T54 x17 x19).f4.f1, (rd_T54 x17 x19).f4.f2⟩ : S52)) x17 x18 (wrap64 (x19 + 1)) x169000 x169001 x169002 x169003 x169004) else (none)) else (none)) else (none)) else ((schema_lay_f64.f k x169000 x169001 x169002 x169003 x169004 x6 x1).bind fun bt176 => (some (bt176.1, bt176.2)))
def schema_Fill.f (k : Nat) (a0_0 : Int) (a0_1 : ByteArray) (a0_2 : Int) (a0_3 : Int) (l0_4 : List (S54)) (l1 : List (S96)) : Option ((List (S52)) × Int) := (schema_RightTable.f k a0_0 a0_1 a0_2 a0_3 l0_4).bind fun t169 => (if t169 = true then (if 0 ≤ (l0_4.length : Int) then (if ((l0_4.length : Int) : Int).toNat ≤ 8796093022208 then (schema_Fill.l0 k l1 (List.replicate ((l0_4.length : Int) : Int).toNat z52) l0_4 (l0_4.length : Int) 0 a0_0 a0_1 a0_2 a0_3 l0_4) else (none)) else (none)) else (some (([] : List (S52)), 2)))
theorem schema_Fill.mono_l : ∀ k, (∀ y0 y1 y2 y3 y4 y5 y6 y7 y8 y9, LeO (schema_Fill.l0 k y0 y1 y2 y3 y4 y5 y6 y7 y8 y9) (schema_Fill.l0 (k + 1) y0 y1 y2 y3 y4 y5 y6 y7 y8 y9))
 | 0 => fun _ _ _ _ _ _ _ _ _ _ r h => by simp [schema_Fill.l0] at h
 | k + 1 => by
  have ih0 := schema_Fill.mono_l k
  ·
   intro y0 y1 y2 y3 y4 y5 y6 y7 y8 y9
   unfold schema_Fill.l0
   repeat' first
   | (with_reducible exact ih0 _ _ _ _ _ _ _ _ _ _)
   | (with_reducible exact schema_RightTable.mono _ _ _ _ _ _)
   | (with_reducible exact schema_lay_f64.mono _ _ _ _ _ _ _ _)
   | (with_reducible exact LeO.refl _)
   | (with_reducible exact LeO.none _)
   | (with_reducible refine LeO.ite ?_ ?_)
   | (with_reducible refine LeO.bind ?_ (fun _ => ?_))
   | exact ih0 _ _ _ _ _ _ _ _ _ _
   | exact schema_RightTable.mono _ _ _ _ _ _
   | exact schema_lay_f64.mono _ _ _ _ _ _ _ _
   | exact LeO.none _
   | refine LeO.ite ?_ ?_
   | refine LeO.bind ?_ (fun _ => ?_)
theorem schema_Fill.mono : ∀ a0 a1 a2 a3 a4 a5 k, LeO (schema_Fill.f k a0 a1 a2 a3 a4 a5) (schema_Fill.f (k + 1) a0 a1 a2 a3 a4 a5) := by
 intro a0 a1 a2 a3 a4 a5 k
 have ih0 := schema_Fill.mono_l k
 unfold schema_Fill.f
 repeat' first
   | (with_reducible exact ih0 _ _ _ _ _ _ _ _ _ _)
   | (with_reducible exact schema_RightTable.mono _ _ _ _ _ _)
   | (with_reducible exact schema_lay_f64.mono _ _ _ _ _ _ _ _)
   | (with_reducible exact LeO.refl _)
   | (with_reducible exact LeO.none _)
   | (with_reducible refine LeO.ite ?_ ?_)
   | (with_reducible refine LeO.bind ?_ (fun _ => ?_))
   | exact ih0 _ _ _ _ _ _ _ _ _ _
   | exact schema_RightTable.mono _ _ _ _ _ _
   | exact schema_lay_f64.mono _ _ _ _ _ _ _ _
   | exact LeO.none _
   | refine LeO.ite ?_ ?_
   | refine LeO.bind ?_ (fun _ => ?_)
set_option maxHeartbeats 8000000 in
set_option maxRecDepth 100000 in
theorem schema_Fill.calls (k : Nat) (a0_0 : Int) (a0_1 : ByteArray) (a0_2 : Int) (a0_3 : Int) (A0_4 : Option Addr) (c0_4 : Nat) (l0_4 : List (S54)) (A1 : Option Addr) (c1 : Nat) (l1 : List (S96)) (r1 : List (S52)) (r2 : Int) (w : World) (hr0_4 : Kd.C k54 w A0_4 l0_4.length l0_4) (hc0_4 : l0_4.length ≤ c0_4) (hr1 : Kd.C k96 w A1 l1.length l1) (hc1 : l1.length ≤ c1) (hG : Glob w) (h : schema_Fill.f k a0_0 a0_1 a0_2 a0_3 l0_4 l1 = some (r1, r2)) :
  Calls Tryd.prog 21 #[.agg #[.int .i64 a0_0, .string a0_1, .int .i64 a0_2, .int .i64 a0_3, .slice A0_4 l0_4.length c0_4], .slice A1 l1.length c1] w fun e w' => ∃ v0_ : Value, e = .returned (.tuple #[v0_, .int .i64 r2]) ∧ Kd.R k52 52 w' w.heap.size (fun _ => True) v0_ r1 ∧ Below w.heap.size w w' := by
 have hu24 := Tryd.underlying24
 have hu54 := Tryd.underlying54
 have hu52 := Tryd.underlying52
 have HR0_4 := aM hr0_4
 have HC0_4 := aM hc0_4
 clear hr0_4 hc0_4
 have HR1 := aM hr1
 have HC1 := aM hc1
 clear hr1 hc1
 have HG := aM hG
 clear hG
 have HB := aM (Below.refl w.heap.size w)
 have H : ((schema_RightTable.f k a0_0 a0_1 a0_2 a0_3 l0_4).bind fun t169 => (if t169 = true then (if 0 ≤ (l0_4.length : Int) then (if ((l0_4.length : Int) : Int).toNat ≤ 8796093022208 then (schema_Fill.l0 k l1 (List.replicate ((l0_4.length : Int) : Int).toNat z52) l0_4 (l0_4.length : Int) 0 a0_0 a0_1 a0_2 a0_3 l0_4) else (none)) else (none)) else (some (([] : List (S52)), 2)))) = some (r1, r2) := h
 clear h
 replace H := Option.bind_eq_some_iff.mp H
 obtain ⟨t169, A30, H⟩ := H
 replace H : (if t169 = true then (if 0 ≤ (l0_4.length : Int) then (if ((l0_4.length : Int) : Int).toNat ≤ 8796093022208 then (schema_Fill.l0 k l1 (List.replicate ((l0_4.length : Int) : Int).toNat z52) l0_4 (l0_4.length : Int) 0 a0_0 a0_1 a0_2 a0_3 l0_4) else (none)) else (none)) else (some (([] : List (S52)), 2))) = some (r1, r2) := H
 have A3 := aM A30
 clear A30
 by_cases c4 : t169 = true
 ·
  subst c4
  have H1 : (if 0 ≤ (l0_4.length : Int) then (if ((l0_4.length : Int) : Int).toNat ≤ 8796093022208 then (schema_Fill.l0 k l1 (List.replicate ((l0_4.length : Int) : Int).toNat z52) l0_4 (l0_4.length : Int) 0 a0_0 a0_1 a0_2 a0_3 l0_4) else (none)) else (none)) = some (r1, r2) := by rw [if_pos rfl] at H; exact H
  clear H
  have H := H1
  clear H1
  by_cases c5 : 0 ≤ (l0_4.length : Int)
  ·
   rw [if_pos c5] at H
   have c5b0 := eq_true c5
   have c5b1 : decide (0 ≤ (l0_4.length : Int)) = true := decide_eq_true c5
   clear c5
   by_cases c6 : ((l0_4.length : Int) : Int).toNat ≤ 8796093022208
   ·
    rw [if_pos c6] at H
    have c6b0 := eq_true c6
    have c6b1 : decide (((l0_4.length : Int) : Int).toNat ≤ 8796093022208) = true := decide_eq_true c6
    clear c6
    obtain ⟨y170, hy170⟩ : ∃ y_ : List (S52), y_ = (List.replicate ((l0_4.length : Int) : Int).toNat z52) := ⟨_, rfl⟩
    replace H : (schema_Fill.l0 k l1 y170 l0_4 (l0_4.length : Int) 0 a0_0 a0_1 a0_2 a0_3 l0_4) = some (r1, r2) := by first | (rw [hy170]; with_reducible exact H) | (have H2_ := (Option.bind_some _ _).symm.trans H; rw [hy170]; with_reducible exact H2_) | (have H2_ := (Option.bind_some _ _).symm.trans H; with_reducible exact H2_) | with_reducible exact H | (rw [hy170]; exact H) | exact H
    have Ny170 := aM hy170
    clear hy170
    have H' := aM H
    clear H
    go_enter Tryd.func21, Tryd.ntmps21
    go_wp2_with (first | ((with_reducible refine gate_dst (N := 2) rfl ?_); refine yX (N := 2) (cs := #[.int .i64 a0_0, .string a0_1, .int .i64 a0_2, .int .i64 a0_3, .slice A0_4 l0_4.length c0_4]) (t := 24) ?_; intro gb168 hg w7 hbox hb; have BK168 := aM (hbox); have GW168 := yZ hg (yB HB); have GE168 := yZ hg (yB HB); replace HB := aM (bP (yB HB) hb); clear hb hbox hg; obtain ⟨hcz8_0, hcz8_1, hcz8_2, hcz8_3, hcz8_4, hfz8_0, hfz8_1, hfz8_2, hfz8_3, hfz8_4⟩ := cells5 BK168.out) | ((with_reducible refine gate_callee (f := 26) rfl ?_); refine yC 10 Tryd.func26 #[.agg #[.int .i64 a0_0, .string a0_1, .int .i64 a0_2, .int .i64 a0_3, .slice A0_4 l0_4.length c0_4]] rfl ?_; (with_reducible refine (schema_RightTable.calls k a0_0 a0_1 a0_2 a0_3 _ _ l0_4 true _ ?side1 ?side2 ?side3 A3.out).mono ?_); (case side1 => exact yW (Kd.C_below HR0_4.out HB.out)); (case side2 => exact HC0_4.out); (case side3 => first | (with_reducible exact HG.out) | exact Glob.below HG.out (yG1 HB GE168.out)); rintro e w9 ⟨rfl, hb⟩; refine ⟨_, rfl, ?_⟩; replace BK168 := aM (kB (yK BK168) hb); replace HB := aM (bP (yG1 HB GE168.out) hb); (try clear hb); obtain ⟨hcz10_0, hcz10_1, hcz10_2, hcz10_3, hcz10_4, hfz10_0, hfz10_1, hfz10_2, hfz10_3, hfz10_4⟩ := cells5 BK168.out) | ((with_reducible refine gate_dst (N := 15) rfl ?_); refine Kd.R_make k52 _ 52 rfl (N := 15) rfl 25 _ _ rfl (l0_4.length : Int) rfl rfl Tryd.underlying25 (.agg #[(.int .i64 0), (.int .i64 0), (.string ⟨#[]⟩)]) 32 info52 rfl (by decide) (by omega) z52 (ok := fun _ => True) (okp := fun _ => True) (k52_mkM _ _ _ z52 ) (fun _ hk => hk) trivial (oD yA) (Nat.le_trans (Nat.mul_le_mul_right _ (oD yA : (l0_4.length : Int).toNat ≤ 8796093022208)) (by omega)) (Below.refl _ _) (Nat.le_refl _) ?_; intro v171 w11 ho12 hb hg_ hnew_; clear hg_ hnew_; (first | rw [← Ny170.out] at ho12 | (simp only [Int.reduceToNat] at ho12; rw [← Ny170.out] at ho12)); have HO172 := aM (Kd.R_lower ho12 (bZ (yG1 HB GE168.out))); replace BK168 := aM (kB (yK BK168) hb); replace HB := aM (bP (yG1 HB GE168.out) hb); clear hb ho12; obtain ⟨hcz13_0, hcz13_1, hcz13_2, hcz13_3, hcz13_4, hfz13_0, hfz13_1, hfz13_2, hfz13_3, hfz13_4⟩ := cells5 BK168.out))
    go_loopg [19] k (fun kq v19 w' => ∃ (x6_1 : List (S52)) (x19_1 : Int), v19 = .int .i64 x19_1 ∧ Aside0 (schema_Fill.l0 kq l1 x6_1 l0_4 (l0_4.length : Int) x19_1 a0_0 a0_1 a0_2 a0_3 l0_4 = some (r1, r2)) ∧ Aside0 (kq ≤ k) ∧ Aside0 (Kd.R k52 52 w' w.heap.size (fun _ => True) v171 x6_1) ∧ Aside0 (w'.heap[gb168]? = some (.cells #[.int .i64 a0_0, .string a0_1, .int .i64 a0_2, .int .i64 a0_3, (.slice A0_4 l0_4.length c0_4)] 24 (0, 0))) ∧ Aside0 (Below w.heap.size w w'))
    case atStart => exact ⟨(y170), (0), yS, H', ⟨Nat.le_refl _⟩, ⟨yR HO172.out⟩, ⟨yK BK168⟩, ⟨yG1 HB GE168.out⟩⟩
    case round =>
     clear H'
     try clear c1
     try clear c2
     try clear p2
     try clear c4
     try clear c5
     try clear c5b0
     try clear c5b1
     try clear c6
     try clear c6b0
     try clear c6b1
     try clear hcz10_0 hcz10_1 hcz10_2 hcz10_3 hcz10_4
     try clear hcz13_0 hcz13_1 hcz13_2 hcz13_3 hcz13_4
     try clear hcz8_0 hcz8_1 hcz8_2 hcz8_3 hcz8_4
     try clear hfz10_0 hfz10_1 hfz10_2 hfz10_3 hfz10_4
     try clear hfz13_0 hfz13_1 hfz13_2 hfz13_3 hfz13_4
     try clear hfz8_0 hfz8_1 hfz8_2 hfz8_3 hfz8_4
     obtain ⟨x6_1, x19_1, rfl, HA, HK1, HO_6, BK168, HB⟩ := hrel
     cases gk with
     | zero => exact absurd HA.out (by simp [schema_Fill.l0])
     | succ k1 =>
      have H := HA.out
      clear HA
      simp only [schema_Fill.l0] at H
      by_cases c14 : x19_1 < (l0_4.length : Int)
      ·
       rw [if_pos c14] at H
       have c14b0 : decide (x19_1 < (l0_4.length : Int)) = true := decide_eq_true c14
       clear c14
       by_cases c15 : 0 ≤ x19_1
       ·
        rw [if_pos c15] at H
        have c15b0 : decide (0 ≤ x19_1) = true := decide_eq_true c15
        clear c15
        by_cases c16 : x19_1 < (l0_4.length : Int)
        ·
         rw [if_pos c16] at H
         have c16b0 : decide (x19_1 < (l0_4.length : Int)) = true := decide_eq_true c16
         clear c16
         by_cases c17 : x19_1 < (x6_1.length : Int)
         ·
          rw [if_pos c17] at H
          have c17b0 : decide (x19_1 < (x6_1.length : Int)) = true := decide_eq_true c17
          clear c17
          obtain ⟨y175, hy175⟩ : ∃ y_ : List (S52), y_ = (x6_1.set (x19_1 : Int).toNat (⟨(rd_T54 l0_4 x19_1).f4.f0, (rd_T54 l0_4 x19_1).f4.f1, (rd_T54 l0_4 x19_1).f4.f2⟩ : S52)) := ⟨_, rfl⟩
          replace H : (schema_Fill.l0 k1 l1 y175 l0_4 (l0_4.length : Int) (wrap64 (x19_1 + 1)) a0_0 a0_1 a0_2 a0_3 l0_4) = some (r1, r2) := by first | (rw [hy175]; with_reducible exact H) | (have H2_ := (Option.bind_some _ _).symm.trans H; rw [hy175]; with_reducible exact H2_) | (have H2_ := (Option.bind_some _ _).symm.trans H; with_reducible exact H2_) | with_reducible exact H | (rw [hy175]; exact H) | exact H
          have Ny175 := aM hy175
          clear hy175
          have H' := aM H
          clear H
          have p173 : 0 ≤ (x19_1 : Int) := oD yA
          have q173 : x19_1 < (l0_4.length : Int) := oD yA
          obtain ⟨ad173, e173, hx173_0, hx173_1, hx173_2, hx173_3, hx173_4, hx173_5, hx173_6, hx173_7⟩ := at_T54 HR0_4.out x19_1 p173 q173
          cases e173
          replace hx173_0 := pw_cell_below HB.out hx173_0
          replace hx173_1 := pw_cell_below HB.out hx173_1
          replace hx173_2 := pw_cell_below HB.out hx173_2
          replace hx173_3 := pw_cell_below HB.out hx173_3
          replace hx173_4 := pw_cell_below HB.out hx173_4
          replace hx173_5 := pw_cell_below HB.out hx173_5
          replace hx173_6 := pw_cell_below HB.out hx173_6
          replace hx173_7 := pw_cell_below HB.out hx173_7
          replace p173 := eq_true p173
          replace q173 := eq_true q173
          go_wp2_with (first | ((with_reducible refine gate_dst (N := 8) rfl ?_); refine yX (N := 8) (cs := #[.int .i64 0, .string (⟨#[]⟩ : ByteArray), .int .i64 0, .int .i64 0, .bool false, .int .i64 0, .int .i64 0, .string (⟨#[]⟩ : ByteArray)]) (t := 54) ?_; intro gb174 hg w19 hbox hb; replace HO_6 := aM (Kd.R_below (yR HO_6.out) hb); have BK174 := aM (hbox); have GW174 := yZ hg (yG1 HB GE168.out); have GE174 := yZ hg (yG1 HB GE168.out); replace HB := aM (bP (yG1 HB GE168.out) hb); have NB168_174 := yN hg (yK BK168); have NB174_168 := yM hg (yK BK168); replace BK168 := aM (kB (yK BK168) hb); clear hb hbox hg; have hnb20 := NB174_168.out; have hnc20 := NB168_174.out; obtain ⟨hcz21_0, hcz21_1, hcz21_2, hcz21_3, hcz21_4, hcz21_5, hcz21_6, hcz21_7, hfz21_0, hfz21_1, hfz21_2, hfz21_3, hfz21_4, hfz21_5, hfz21_6, hfz21_7⟩ := cells8 BK174.out) | ((with_reducible refine gate_store (t := 54) (p := 8) rfl ?_); refine store_event (t := 54) (p := 8) (v := ?vo_w22) (w1 := ((((((((w19.setCell ⟨gb174, 0, none⟩ (.int .i64 ((rd_T54 l0_4 x19_1).f0))).setCell ⟨gb174, 1, none⟩ (.string ((rd_T54 l0_4 x19_1).f1))).setCell ⟨gb174, 2, none⟩ (.int .i64 ((rd_T54 l0_4 x19_1).f2.f0))).setCell ⟨gb174, 3, none⟩ (.int .i64 ((rd_T54 l0_4 x19_1).f2.f1))).setCell ⟨gb174, 4, none⟩ (.bool ((rd_T54 l0_4 x19_1).f3))).setCell ⟨gb174, 5, none⟩ (.int .i64 ((rd_T54 l0_4 x19_1).f4.f0))).setCell ⟨gb174, 6, none⟩ (.int .i64 ((rd_T54 l0_4 x19_1).f4.f1))).setCell ⟨gb174, 7, none⟩ (.string ((rd_T54 l0_4 x19_1).f4.f2)))) ?hg ?ho ?hn ?hr ?_; (case ho => rfl); (case hg => rfl); (case hn => rfl); (case hr => first | (go_simp; done) | (go_simp; rfl)); intro w22 hw; have n0_ : Aside0 (Kd.R k52 52 w22 w.heap.size (fun _ => True) v171 x6_1) := ⟨(by rw [hw]; exact (by (with_reducible repeat (first | apply Kd.R_alloc | apply Kd.R_drewN | apply Kd.R_drew)); exact Kd.R_mono (Kd.R_far (p := ⟨gb174, 7, none⟩) (Kd.R_far (p := ⟨gb174, 6, none⟩) (Kd.R_far (p := ⟨gb174, 5, none⟩) (Kd.R_far (p := ⟨gb174, 4, none⟩) (Kd.R_far (p := ⟨gb174, 3, none⟩) (Kd.R_far (p := ⟨gb174, 2, none⟩) (Kd.R_far (p := ⟨gb174, 1, none⟩) (Kd.R_far (p := ⟨gb174, 0, none⟩) (Kd.R_types HO_6.out BK174.out (by decide)) (fun _ hk => hk.2) (.int .i64 ((rd_T54 l0_4 x19_1).f0))) (fun _ hk => hk.2) (.string ((rd_T54 l0_4 x19_1).f1))) (fun _ hk => hk.2) (.int .i64 ((rd_T54 l0_4 x19_1).f2.f0))) (fun _ hk => hk.2) (.int .i64 ((rd_T54 l0_4 x19_1).f2.f1))) (fun _ hk => hk.2) (.bool ((rd_T54 l0_4 x19_1).f3))) (fun _ hk => hk.2) (.int .i64 ((rd_T54 l0_4 x19_1).f4.f0))) (fun _ hk => hk.2) (.int .i64 ((rd_T54 l0_4 x19_1).f4.f1))) (fun _ hk => hk.2) (.string ((rd_T54 l0_4 x19_1).f4.f2))) (fun _ hk => trivial)))⟩; have n1_ : Aside0 (w22.heap[gb168]? = some (.cells #[.int .i64 a0_0, .string a0_1, .int .i64 a0_2, .int .i64 a0_3, .slice (some ad173) l0_4.length c0_4] 24 (0, 0))) := ⟨(by rw [hw]; exact (yF1 BK168 NB168_174.out))⟩; have n2_ : Aside0 (w22.heap[gb174]? = some (.cells #[.int .i64 ((rd_T54 l0_4 x19_1).f0), .string ((rd_T54 l0_4 x19_1).f1), .int .i64 ((rd_T54 l0_4 x19_1).f2.f0), .int .i64 ((rd_T54 l0_4 x19_1).f2.f1), .bool ((rd_T54 l0_4 x19_1).f3), .int .i64 ((rd_T54 l0_4 x19_1).f4.f0), .int .i64 ((rd_T54 l0_4 x19_1).f4.f1), .string ((rd_T54 l0_4 x19_1).f4.f2)] 54 (0, 0))) := ⟨(by rw [hw]; exact (puts8 BK174.out))⟩; have n3_ : Aside0 (Below w.heap.size w w22) := ⟨(by rw [hw]; exact (yG2 HB GE168.out GE174.out))⟩; clear hw; clear HO_6; clear BK168; clear BK174; clear HB; have HO_6 := n0_; have BK168 := n1_; have BK174 := n2_; have HB := n3_; clear n0_ n1_ n2_ n3_; obtain ⟨hcz23_0, hcz23_1, hcz23_2, hcz23_3, hcz23_4, hcz23_5, hcz23_6, hcz23_7, hfz23_0, hfz23_1, hfz23_2, hfz23_3, hfz23_4, hfz23_5, hfz23_6, hfz23_7⟩ := cells8 BK174.out; have p18 : 0 ≤ (x19_1 : Int) := oD yA; have q18 : (x19_1 : Int) < ((x6_1.length : Int) : Int) := oD yA; obtain ⟨go18, co18, eo18, gb18, gl18, cl18, HG18⟩ := Kd.R_form HO_6.out (by omega); (first | cases eo18 | (injection eo18 with ea_ en_ ec_; (first | subst ea_ | (injection ea_ with ea_; subst ea_)); subst ec_; clear en_)); have GB18 := aM gb18; have GG18 := aM HG18; clear gb18 gl18 HG18; obtain ⟨ce18, hcl18, hM18, hcc18, hfr18⟩ := Kd.R_elem HO_6.out z52 (x19_1 : Int) p18 q18; obtain rfl := k52_openM hM18; have hx18_0 : w22.cell? ⟨go18, (x19_1 : Int).toNat * 3, none⟩ = some (.int .i64 ((rd_T52 x6_1 x19_1).f0)) := hcc18 0 _ rfl; have hx18_1 : w22.cell? ⟨go18, (x19_1 : Int).toNat * 3 + 1, none⟩ = some (.int .i64 ((rd_T52 x6_1 x19_1).f1)) := hcc18 1 _ rfl; have hx18_2 : w22.cell? ⟨go18, (x19_1 : Int).toNat * 3 + 2, none⟩ = some (.string ((rd_T52 x6_1 x19_1).f2)) := hcc18 2 _ rfl; have hf18_0 : w22.frozen? ⟨go18, (x19_1 : Int).toNat * 3, none⟩ = false := hfr18 0; have hf18_1 : w22.frozen? ⟨go18, (x19_1 : Int).toNat * 3 + 1, none⟩ = false := hfr18 1; have hf18_2 : w22.frozen? ⟨go18, (x19_1 : Int).toNat * 3 + 2, none⟩ = false := hfr18 2; clear hcl18 hcc18 hfr18 hM18; replace p18 := eq_true p18; replace q18 := eq_true q18; have HX24 := aM (show Kd.R k52 52 w22 w.heap.size (fun _ => True) (.slice (some ⟨go18, 0, none⟩) x6_1.length co18) x6_1 from (yR HO_6.out)); obtain ⟨ce24, hcl24, hM24, hcc24, hfr24⟩ := Kd.R_elem HX24.out z52 (x19_1 : Int) (oD yA) (by have h_ : (x19_1 : Int) < ((x6_1.length : Int) : Int) := oD yA; first | exact h_ | (have e_ := (Kd.R_reads' HO_6.out).1; omega) | simpa using h_); obtain rfl := k52_openM hM24; have HP24 := Kd.R_seg HX24.out (x19_1 : Int) (oD yA) (by have h_ : (x19_1 : Int) < ((x6_1.length : Int) : Int) := oD yA; first | exact h_ | (have e_ := (Kd.R_reads' HO_6.out).1; omega) | simpa using h_) (seg := [.int .i64 ((rd_T54 l0_4 x19_1).f4.f0), .int .i64 ((rd_T54 l0_4 x19_1).f4.f1), .string ((rd_T54 l0_4 x19_1).f4.f2)]) (j := 0) hcl24 hcc24 (show 3 ≤ 3 from by decide) (x' := (⟨(rd_T54 l0_4 x19_1).f4.f0, (rd_T54 l0_4 x19_1).f4.f1, (rd_T54 l0_4 x19_1).f4.f2⟩ : S52)) (k52_mkM _ _ _ (⟨(rd_T54 l0_4 x19_1).f4.f0, (rd_T54 l0_4 x19_1).f4.f1, (rd_T54 l0_4 x19_1).f4.f2⟩ : S52) ) (fun _ hk => hk); have hx24_0 := hcc24 0 _ rfl; (try simp only [show (k52).sz = 3 from rfl, Nat.mul_one, Nat.add_zero] at hx24_0); have hf24_0 := hfr24 0; (try simp only [show (k52).sz = 3 from rfl, Nat.mul_one, Nat.add_zero] at hf24_0); have hx24_1 := hcc24 1 _ rfl; (try simp only [show (k52).sz = 3 from rfl, Nat.mul_one, Nat.add_zero] at hx24_1); have hf24_1 := hfr24 1; (try simp only [show (k52).sz = 3 from rfl, Nat.mul_one, Nat.add_zero] at hf24_1); have hx24_2 := hcc24 2 _ rfl; (try simp only [show (k52).sz = 3 from rfl, Nat.mul_one, Nat.add_zero] at hx24_2); have hf24_2 := hfr24 2; (try simp only [show (k52).sz = 3 from rfl, Nat.mul_one, Nat.add_zero] at hf24_2); clear hcl24 hcc24 hfr24 hM24) | ((with_reducible refine gate_store (t := 52) (p := 28) rfl ?_); refine store_event (t := 52) (p := 28) (v := ?vo_w25) (w1 := (((w22.setCell ⟨go18, (x19_1 : Int).toNat * 3, none⟩ (.int .i64 ((rd_T54 l0_4 x19_1).f4.f0))).setCell ⟨go18, (x19_1 : Int).toNat * 3 + 1, none⟩ (.int .i64 ((rd_T54 l0_4 x19_1).f4.f1))).setCell ⟨go18, (x19_1 : Int).toNat * 3 + 2, none⟩ (.string ((rd_T54 l0_4 x19_1).f4.f2)))) ?hg ?ho ?hn ?hr ?_; (case ho => rfl); (case hg => rfl); (case hn => rfl); (case hr => first | (go_simp; done) | (go_simp; rfl)); intro w25 hw; have hg : w22.grownBy w25 (some go18) := (by rw [hw]; exact HP24.2); have hp_ : Kd.R k52 52 w25 w.heap.size (fun _ => True) (.slice (some ⟨go18, 0, none⟩) x6_1.length co18) y175 := (by rw [hw, Ny175.out]; exact HP24.1); clear HP24; replace BK168 := aM (blk_grown (g := gb168) (o := .cells #[.int .i64 a0_0, .string a0_1, .int .i64 a0_2, .int .i64 a0_3, .slice (some ad173) l0_4.length c0_4] 24 (0, 0)) (yK BK168) hg (Kd.R_ne HO_6.out BK168.out (by decide))); replace BK174 := aM (blk_grown (g := gb174) (o := .cells #[.int .i64 ((rd_T54 l0_4 x19_1).f0), .string ((rd_T54 l0_4 x19_1).f1), .int .i64 ((rd_T54 l0_4 x19_1).f2.f0), .int .i64 ((rd_T54 l0_4 x19_1).f2.f1), .bool ((rd_T54 l0_4 x19_1).f3), .int .i64 ((rd_T54 l0_4 x19_1).f4.f0), .int .i64 ((rd_T54 l0_4 x19_1).f4.f1), .string ((rd_T54 l0_4 x19_1).f4.f2)] 54 (0, 0)) (yK BK174) hg (Kd.R_ne HO_6.out BK174.out (by decide))); replace HO_6 := aM (hp_); replace HB := aM ((by rw [hw]; exact bS (bS (bS (HB.out) GB18.out) GB18.out) GB18.out : Below w.heap.size w w25)); clear hg hw hp_))
          go_roundg k1
          case measure => have := HK1.out; omega
          case rel => exact ⟨(y175), (wrap64 (x19_1 + 1)), yS, H', ⟨by have := HK1.out; omega⟩, ⟨yR HO_6.out⟩, ⟨yK BK168⟩, ⟨yG2 HB GE168.out GE174.out⟩⟩
         ·
          rw [if_neg c17] at H
          exact absurd H (by simp)
        ·
         rw [if_neg c16] at H
         exact absurd H (by simp)
       ·
        rw [if_neg c15] at H
        exact absurd H (by simp)
      ·
       rw [if_neg c14] at H
       have c14b0 : decide (x19_1 < (l0_4.length : Int)) = false := decide_eq_false c14
       clear c14
       replace H := Option.bind_eq_some_iff.mp H
       obtain ⟨⟨t176, t179⟩, A260, H⟩ := H
       replace H : (some (t176, t179)) = some (r1, r2) := H
       have A26 := aM A260
       clear A260
       simp only [Option.some.injEq, Prod.mk.injEq] at H
       obtain ⟨rfl, rfl⟩ := H
       obtain ⟨hcz27_0, hcz27_1, hcz27_2, hcz27_3, hcz27_4, hfz27_0, hfz27_1, hfz27_2, hfz27_3, hfz27_4⟩ := cells5 BK168.out
       obtain ⟨Ao28, co28, eo28⟩ := Kd.R_slice HO_6.out
       subst eo28
       go_wp2_with (first | (go_at_call 63; (with_reducible refine (schema_lay_f64.calls k1 a0_0 a0_1 a0_2 a0_3 _ _ l0_4 (fun k_ => some k_ = (.slice Ao28 x6_1.length co28 : Value).ownBlock) (.slice Ao28 x6_1.length co28) x6_1 _ _ l1 t176 t179 w _ ?side1 ?side2 ?side3 ?side4 ?side5 ?side6 ?side7 A26.out).mono ?_); (case side1 => exact yG1 HB GE168.out); (case side2 => exact Kd.C_kept_came k54_heap HR0_4.out (yG1 HB GE168.out) (fun k_ hs_ => (fun e_ => Kd.R_base HO_6.out k_ e_.symm) hs_)); (case side3 => exact HC0_4.out); (case side4 => exact Kd.R_tight rfl HO_6.out); (case side5 => exact Kd.C_kept_came k96_heap HR1.out (yG1 HB GE168.out) (fun k_ hs_ => (fun e_ => Kd.R_base HO_6.out k_ e_.symm) hs_)); (case side6 => exact HC1.out); (case side7 => first | (with_reducible exact HG.out) | exact Glob.below HG.out (yG1 HB GE168.out)); rintro e w29 ⟨v177, rfl, ho0, hb, hkp⟩; have n0_ := aM (blk_kept (yK BK168) hkp (fun hs_ => (fun e_ => (Kd.R_ne HO_6.out BK168.out (by decide)) e_) hs_)); have n1_ := aM (Kd.R_mono (ok' := fun k_ => True) ho0 (fun k_ hk_ => trivial)); have n2_ := aM (hb); clear BK168; clear HB; clear HO_6; have BK168 := n0_; have HO178 := n1_; have HB := n2_; clear n0_ n1_ n2_; (try clear hb); (try clear hkp); (try clear ho0)))
       go_ret2
       exact ⟨_, yE, yR HO178.out, yG1 HB GE168.out⟩
   ·
    rw [if_neg c6] at H
    exact absurd H (by simp)
  ·
   rw [if_neg c5] at H
   exact absurd H (by simp)
 ·
  replace c4 := Bool.eq_false_iff.mpr c4
  subst c4
  have H1 : (some (([] : List (S52)), 2)) = some (r1, r2) := by rw [if_neg (show ¬ (false = true) by decide)] at H; exact H
  clear H
  have H := H1
  clear H1
  simp only [Option.some.injEq, Prod.mk.injEq] at H
  obtain ⟨rfl, rfl⟩ := H
  go_enter Tryd.func21, Tryd.ntmps21
  go_wp2_with (first | ((with_reducible refine gate_dst (N := 2) rfl ?_); refine yX (N := 2) (cs := #[.int .i64 a0_0, .string a0_1, .int .i64 a0_2, .int .i64 a0_3, .slice A0_4 l0_4.length c0_4]) (t := 24) ?_; intro gb168 hg w30 hbox hb; have BK168 := aM (hbox); have GW168 := yZ hg (yB HB); have GE168 := yZ hg (yB HB); replace HB := aM (bP (yB HB) hb); clear hb hbox hg; obtain ⟨hcz31_0, hcz31_1, hcz31_2, hcz31_3, hcz31_4, hfz31_0, hfz31_1, hfz31_2, hfz31_3, hfz31_4⟩ := cells5 BK168.out) | ((with_reducible refine gate_callee (f := 26) rfl ?_); refine yC 10 Tryd.func26 #[.agg #[.int .i64 a0_0, .string a0_1, .int .i64 a0_2, .int .i64 a0_3, .slice A0_4 l0_4.length c0_4]] rfl ?_; (with_reducible refine (schema_RightTable.calls k a0_0 a0_1 a0_2 a0_3 _ _ l0_4 false _ ?side1 ?side2 ?side3 A3.out).mono ?_); (case side1 => exact yW (Kd.C_below HR0_4.out HB.out)); (case side2 => exact HC0_4.out); (case side3 => first | (with_reducible exact HG.out) | exact Glob.below HG.out (yG1 HB GE168.out)); rintro e w32 ⟨rfl, hb⟩; refine ⟨_, rfl, ?_⟩; replace BK168 := aM (kB (yK BK168) hb); replace HB := aM (bP (yG1 HB GE168.out) hb); (try clear hb)))
  go_ret2
  exact ⟨_, yE, by first | exact Kd.R_nil _ _ _ _ _ | exact Kd.N_nil _ _ _ _ _ | exact Kd.V_nil _ _ _ _ _ | exact Kd.Q_nil _ _ _ _ _ | exact Kd.S_nil _ _ _ _ _, yG1 HB GE168.out⟩
/-! ### haulageref08_SameRow: function 23 -/
def haulageref08_SameRow.l0 : Nat → List (S52) → List (S52) → Int → Option (Bool)
 | 0, _, _, _ => none
 | k + 1, x0, x1, x5 => if x5 < (x0.length : Int) then (if 0 ≤ x5 then (if x5 < (x1.length : Int) then (if (!(((rd_T52 x0 x5).f0) == ((rd_T52 x1 x5).f0)) || (!(((rd_T52 x0 x5).f1) == ((rd_T52 x1 x5).f1)) || (!((((rd_T52 x0 x5).f2).toList) == (((rd_T52 x1 x5).f2).toList))))) = true then (some false) else (haulageref08_SameRow.l0 k x0 x1 (wrap64 (x5 + 1)))) else (none)) else (none)) else (some true)
def haulageref08_SameRow.f (k : Nat) (l0 : List (S52)) (l1 : List (S52)) : Option (Bool) := if (l0.length : Int) = (l1.length : Int) then (haulageref08_SameRow.l0 k l0 l1 0) else (some false)
theorem haulageref08_SameRow.mono_l : ∀ k, (∀ y0 y1 y2, LeO (haulageref08_SameRow.l0 k y0 y1 y2) (haulageref08_SameRow.l0 (k + 1) y0 y1 y2))
 | 0 => fun _ _ _ r h => by simp [haulageref08_SameRow.l0] at h
 | k + 1 => by
  have ih0 := haulageref08_SameRow.mono_l k
  ·
   intro y0 y1 y2
   unfold haulageref08_SameRow.l0
   repeat' first
   | (with_reducible exact ih0 _ _ _)
   | (with_reducible exact LeO.refl _)
   | (with_reducible exact LeO.none _)
   | (with_reducible refine LeO.ite ?_ ?_)
   | (with_reducible refine LeO.bind ?_ (fun _ => ?_))
   | exact ih0 _ _ _
   | exact LeO.none _
   | refine LeO.ite ?_ ?_
   | refine LeO.bind ?_ (fun _ => ?_)
theorem haulageref08_SameRow.mono : ∀ a0 a1 k, LeO (haulageref08_SameRow.f k a0 a1) (haulageref08_SameRow.f (k + 1) a0 a1) := by
 intro a0 a1 k
 have ih0 := haulageref08_SameRow.mono_l k
 unfold haulageref08_SameRow.f
 repeat' first
   | (with_reducible exact ih0 _ _ _)
   | (with_reducible exact LeO.refl _)
   | (with_reducible exact LeO.none _)
   | (with_reducible refine LeO.ite ?_ ?_)
   | (with_reducible refine LeO.bind ?_ (fun _ => ?_))
   | exact ih0 _ _ _
   | exact LeO.none _
   | refine LeO.ite ?_ ?_
   | refine LeO.bind ?_ (fun _ => ?_)
set_option maxHeartbeats 8000000 in
set_option maxRecDepth 100000 in
theorem haulageref08_SameRow.calls (k : Nat) (A0 : Option Addr) (c0 : Nat) (l0 : List (S52)) (A1 : Option Addr) (c1 : Nat) (l1 : List (S52)) (r : Bool) (w : World) (hr0 : Kd.C k52 w A0 l0.length l0) (hc0 : l0.length ≤ c0) (hr1 : Kd.C k52 w A1 l1.length l1) (hc1 : l1.length ≤ c1) (h : haulageref08_SameRow.f k l0 l1 = some r) :
  Calls Tryd.prog 23 #[.slice A0 l0.length c0, .slice A1 l1.length c1] w fun e w' => e = .returned (.bool r) ∧ Drawn0 w w' := by
 have hu52 := Tryd.underlying52
 have HR0 := aM hr0
 have HC0 := aM hc0
 clear hr0 hc0
 have HR1 := aM hr1
 have HC1 := aM hc1
 clear hr1 hc1
 have H : (if (l0.length : Int) = (l1.length : Int) then (haulageref08_SameRow.l0 k l0 l1 0) else (some false)) = some r := h
 clear h
 by_cases c3 : (l0.length : Int) = (l1.length : Int)
 ·
  rw [if_pos c3] at H
  have c3b0 : ((l0.length : Int) == (l1.length : Int)) = true := beq_iff_eq.mpr c3
  have c3b1 : ((l0.length : Int) != (l1.length : Int)) = false := bne_eq_false_iff_eq.mpr c3
  have c3b2 : (l0.length == l1.length) = true := by first | simpa using c3 | (simp at c3 ⊢; omega)
  clear c3
  have H' := aM H
  clear H
  go_enter Tryd.func23, Tryd.ntmps23
  go_wp2
  repeat (go_quiet (fail); try go_wp2)
  go_loopg [5] k (fun kq v5 w' => ∃ (x5_1 : Int), v5 = .int .i64 x5_1 ∧ Aside0 (haulageref08_SameRow.l0 kq l0 l1 x5_1 = some r) ∧ Aside0 (kq ≤ k) ∧ Drawn0 w w')
  case atStart => exact ⟨(0), yS, H', ⟨Nat.le_refl _⟩, yD⟩
  case round =>
   clear H'
   try clear c1
   try clear c2
   try clear p2
   try clear c3
   try clear c3b0
   try clear c3b1
   try clear c3b2
   obtain ⟨x5_1, rfl, HA, HK1, ⟨m1, rfl⟩⟩ := hrel
   cases gk with
   | zero => exact absurd HA.out (by simp [haulageref08_SameRow.l0])
   | succ k1 =>
    have H := HA.out
    clear HA
    simp only [haulageref08_SameRow.l0] at H
    by_cases c4 : x5_1 < (l0.length : Int)
    ·
     rw [if_pos c4] at H
     have c4b0 : decide (x5_1 < (l0.length : Int)) = true := decide_eq_true c4
     clear c4
     by_cases c5 : 0 ≤ x5_1
     ·
      rw [if_pos c5] at H
      have c5b0 : decide (0 ≤ x5_1) = true := decide_eq_true c5
      clear c5
      by_cases c6 : x5_1 < (l1.length : Int)
      ·
       rw [if_pos c6] at H
       have c6b0 : decide (x5_1 < (l1.length : Int)) = true := decide_eq_true c6
       clear c6
       by_cases c7 : (!(((rd_T52 l0 x5_1).f0) == ((rd_T52 l1 x5_1).f0)) || (!(((rd_T52 l0 x5_1).f1) == ((rd_T52 l1 x5_1).f1)) || (!((((rd_T52 l0 x5_1).f2).toList) == (((rd_T52 l1 x5_1).f2).toList))))) = true
       ·
        rw [if_pos c7] at H
        have c7b0 : (!(((rd_T52 l0 x5_1).f0) == ((rd_T52 l1 x5_1).f0)) || (!(((rd_T52 l0 x5_1).f1) == ((rd_T52 l1 x5_1).f1)) || (!((((rd_T52 l0 x5_1).f2).toList) == (((rd_T52 l1 x5_1).f2).toList))))) = true := c7
        clear c7
        obtain rfl := Option.some.inj H
        have p180 : 0 ≤ (x5_1 : Int) := oD yA
        have q180 : x5_1 < (l0.length : Int) := oD yA
        obtain ⟨ad180, e180, hx180_0, hx180_1, hx180_2⟩ := at_T52 HR0.out x5_1 p180 q180
        cases e180
        replace p180 := eq_true p180
        replace q180 := eq_true q180
        have p181 : 0 ≤ (x5_1 : Int) := oD yA
        have q181 : x5_1 < (l1.length : Int) := oD yA
        obtain ⟨ad181, e181, hx181_0, hx181_1, hx181_2⟩ := at_T52 HR1.out x5_1 p181 q181
        cases e181
        replace p181 := eq_true p181
        replace q181 := eq_true q181
        go_wp2
        repeat (go_quiet (fail); try go_wp2)
        go_ret
        exact ⟨yS, yD⟩
       ·
        rw [if_neg c7] at H
        have c7b0 : (!(((rd_T52 l0 x5_1).f0) == ((rd_T52 l1 x5_1).f0)) || (!(((rd_T52 l0 x5_1).f1) == ((rd_T52 l1 x5_1).f1)) || (!((((rd_T52 l0 x5_1).f2).toList) == (((rd_T52 l1 x5_1).f2).toList))))) = false := by simpa using c7
        clear c7
        have H' := aM H
        clear H
        have p180 : 0 ≤ (x5_1 : Int) := oD yA
        have q180 : x5_1 < (l0.length : Int) := oD yA
        obtain ⟨ad180, e180, hx180_0, hx180_1, hx180_2⟩ := at_T52 HR0.out x5_1 p180 q180
        cases e180
        replace p180 := eq_true p180
        replace q180 := eq_true q180
        have p181 : 0 ≤ (x5_1 : Int) := oD yA
        have q181 : x5_1 < (l1.length : Int) := oD yA
        obtain ⟨ad181, e181, hx181_0, hx181_1, hx181_2⟩ := at_T52 HR1.out x5_1 p181 q181
        cases e181
        replace p181 := eq_true p181
        replace q181 := eq_true q181
        go_wp2
        repeat (go_quiet (fail); try go_wp2)
        go_roundg k1
        case measure => have := HK1.out; omega
        case rel => exact ⟨(wrap64 (x5_1 + 1)), yS, H', ⟨by have := HK1.out; omega⟩, yD⟩
      ·
       rw [if_neg c6] at H
       exact absurd H (by simp)
     ·
      rw [if_neg c5] at H
      exact absurd H (by simp)
    ·
     rw [if_neg c4] at H
     have c4b0 : decide (x5_1 < (l0.length : Int)) = false := decide_eq_false c4
     clear c4
     obtain rfl := Option.some.inj H
     go_wp2
     repeat (go_quiet (fail); try go_wp2)
     go_ret
     exact ⟨yS, yD⟩
 ·
  rw [if_neg c3] at H
  have c3b0 : ((l0.length : Int) == (l1.length : Int)) = false := beq_eq_false_iff_ne.mpr c3
  have c3b1 : ((l0.length : Int) != (l1.length : Int)) = true := bne_iff_ne.mpr c3
  have c3b2 : (l0.length == l1.length) = false := by first | simpa using c3 | (simp at c3 ⊢; omega)
  obtain rfl := Option.some.inj H
  go_enter Tryd.func23, Tryd.ntmps23
  go_wp2
  repeat (go_quiet (fail); try go_wp2)
  go_ret
  exact ⟨yS, yD⟩
/-! ### haulagelaw08_Small: function 59 -/
def haulagelaw08_Small.f  : Option (Int × ByteArray × Int × Int × (List (S54))) := some (3, (⟨#[116]⟩ : ByteArray), 0, 2, (([(⟨0, (⟨#[97]⟩ : ByteArray), (⟨1, 0⟩ : S50), false, (⟨0, 0, (⟨#[]⟩ : ByteArray)⟩ : S52)⟩ : S54), (⟨1, (⟨#[98]⟩ : ByteArray), (⟨3, 5⟩ : S50), true, (⟨0, 0, (⟨#[]⟩ : ByteArray)⟩ : S52)⟩ : S54)] : List (S54))))
set_option maxHeartbeats 8000000 in
set_option maxRecDepth 100000 in
theorem haulagelaw08_Small.calls  (r1 : Int) (r2 : ByteArray) (r3 : Int) (r4 : Int) (r5 : List (S54)) (w : World) (h : haulagelaw08_Small.f  = some (r1, r2, r3, r4, r5)) :
  Calls Tryd.prog 59 #[] w fun e w' => ∃ v4_ : Value, e = .returned (.agg #[.int .i64 r1, .string r2, .int .i64 r3, .int .i64 r4, v4_]) ∧ Kd.R k54 54 w' w.heap.size (fun _ => True) v4_ r5 ∧ Below w.heap.size w w' := by
 have hu24 := Tryd.underlying24
 have hu50 := Tryd.underlying50
 have hu54 := Tryd.underlying54
 have HB := aM (Below.refl w.heap.size w)
 have H : (some (3, (⟨#[116]⟩ : ByteArray), 0, 2, (([(⟨0, (⟨#[97]⟩ : ByteArray), (⟨1, 0⟩ : S50), false, (⟨0, 0, (⟨#[]⟩ : ByteArray)⟩ : S52)⟩ : S54), (⟨1, (⟨#[98]⟩ : ByteArray), (⟨3, 5⟩ : S50), true, (⟨0, 0, (⟨#[]⟩ : ByteArray)⟩ : S52)⟩ : S54)] : List (S54))))) = some (r1, r2, r3, r4, r5) := h
 clear h
 obtain ⟨y183, hy183⟩ : ∃ y_ : List (S54), y_ = (([(⟨0, (⟨#[97]⟩ : ByteArray), (⟨1, 0⟩ : S50), false, (⟨0, 0, (⟨#[]⟩ : ByteArray)⟩ : S52)⟩ : S54), (⟨1, (⟨#[98]⟩ : ByteArray), (⟨3, 5⟩ : S50), true, (⟨0, 0, (⟨#[]⟩ : ByteArray)⟩ : S52)⟩ : S54)] : List (S54))) := ⟨_, rfl⟩
 replace H : (some (3, (⟨#[116]⟩ : ByteArray), 0, 2, y183)) = some (r1, r2, r3, r4, r5) := by first | (rw [hy183]; with_reducible exact H) | (have H2_ := (Option.bind_some _ _).symm.trans H; rw [hy183]; with_reducible exact H2_) | (have H2_ := (Option.bind_some _ _).symm.trans H; with_reducible exact H2_) | with_reducible exact H | (rw [hy183]; exact H) | exact H
 have Ny183 := aM hy183
 clear hy183
 simp only [Option.some.injEq, Prod.mk.injEq] at H
 obtain ⟨rfl, rfl, rfl, rfl, rfl⟩ := H
 go_enter Tryd.func59, Tryd.ntmps59
 go_wp2_with (first | ((with_reducible refine gate_dst (N := 0) rfl ?_); refine yX (N := 0) (cs := #[.int .i64 0, .string (⟨#[]⟩ : ByteArray), .int .i64 0, .int .i64 0, .slice none 0 0]) (t := 24) ?_; intro gb182 hg w1 hbox hb; have BK182 := aM (hbox); have GW182 := yZ hg (yB HB); have GE182 := yZ hg (yB HB); replace HB := aM (bP (yB HB) hb); clear hb hbox hg) | ((with_reducible refine gate_dst (N := 5) rfl ?_); refine Kd.R_lit k54 _ 54 ?hg (N := 5) ?hd (xs := ([(⟨0, (⟨#[97]⟩ : ByteArray), (⟨1, 0⟩ : S50), false, (⟨0, 0, (⟨#[]⟩ : ByteArray)⟩ : S52)⟩ : S54), (⟨1, (⟨#[98]⟩ : ByteArray), (⟨3, 5⟩ : S50), true, (⟨0, 0, (⟨#[]⟩ : ByteArray)⟩ : S52)⟩ : S54)] : List (S54))) (inner := [.int .i64 0, .string (⟨#[97]⟩ : ByteArray), .int .i64 1, .int .i64 0, .bool false, .int .i64 0, .int .i64 0, .string (⟨#[]⟩ : ByteArray), .int .i64 1, .string (⟨#[98]⟩ : ByteArray), .int .i64 3, .int .i64 5, .bool true, .int .i64 0, .int .i64 0, .string (⟨#[]⟩ : ByteArray)]) (ok := fun _ => True) (okp := fun _ => True) ?hr ?hp (fun _ hk => hk) trivial (Below.refl _ _) (Nat.le_refl _) (by simp) ?_; (case hd => rfl); (case hg => rfl); (case hr => first | (go_simp; done) | (go_simp; rfl)); (case hp => exact (Reps.c8 (show Kd.M k54 _ _ _ (⟨0, (⟨#[97]⟩ : ByteArray), (⟨1, 0⟩ : S50), false, (⟨0, 0, (⟨#[]⟩ : ByteArray)⟩ : S52)⟩ : S54) [.int .i64 0, .string (⟨#[97]⟩ : ByteArray), .int .i64 1, .int .i64 0, .bool false, .int .i64 0, .int .i64 0, .string (⟨#[]⟩ : ByteArray)] from (k54_mkM _ _ _ (⟨0, (⟨#[97]⟩ : ByteArray), (⟨1, 0⟩ : S50), false, (⟨0, 0, (⟨#[]⟩ : ByteArray)⟩ : S52)⟩ : S54) )) (Reps.c8 (show Kd.M k54 _ _ _ (⟨1, (⟨#[98]⟩ : ByteArray), (⟨3, 5⟩ : S50), true, (⟨0, 0, (⟨#[]⟩ : ByteArray)⟩ : S52)⟩ : S54) [.int .i64 1, .string (⟨#[98]⟩ : ByteArray), .int .i64 3, .int .i64 5, .bool true, .int .i64 0, .int .i64 0, .string (⟨#[]⟩ : ByteArray)] from (k54_mkM _ _ _ (⟨1, (⟨#[98]⟩ : ByteArray), (⟨3, 5⟩ : S50), true, (⟨0, 0, (⟨#[]⟩ : ByteArray)⟩ : S52)⟩ : S54) )) (Reps.none _ _)))); intro v184 w2 ho3 hb hg_ hnew_; clear hg_ hnew_; (first | rw [← Ny183.out] at ho3 | (simp only [Int.reduceToNat] at ho3; rw [← Ny183.out] at ho3)); have HO185 := aM (Kd.R_lower ho3 (bZ (yG1 HB GE182.out))); replace BK182 := aM (kB (yK BK182) hb); replace HB := aM (bP (yG1 HB GE182.out) hb); clear hb ho3; obtain ⟨Ao4, co4, eo4⟩ := Kd.R_slice HO185.out; subst eo4; obtain ⟨hcz5_0, hcz5_1, hcz5_2, hcz5_3, hcz5_4, hfz5_0, hfz5_1, hfz5_2, hfz5_3, hfz5_4⟩ := cells5 BK182.out))
 refine bodyPost_ret (results_cell_row rfl _ _ gb182 24 #[.int .i64 3, .string (⟨#[116]⟩ : ByteArray), .int .i64 0, .int .i64 2, .slice Ao4 y183.length co4] (0, 0) _ rfl (puts5 BK182.out) Tryd.underlying24 rfl (by kernel_rfl)) rfl ?_
 exact ⟨_, yE, by (with_reducible repeat (first | apply Kd.R_alloc | apply Kd.R_drewN | apply Kd.R_drew)); exact Kd.R_mono (Kd.R_far (p := ⟨gb182, 4, none⟩) (Kd.R_far (p := ⟨gb182, 3, none⟩) (Kd.R_far (p := ⟨gb182, 2, none⟩) (Kd.R_far (p := ⟨gb182, 1, none⟩) (Kd.R_far (p := ⟨gb182, 0, none⟩) (Kd.R_types HO185.out BK182.out (by decide)) (fun _ hk => hk.2) (.int .i64 3)) (fun _ hk => hk.2) (.string (⟨#[116]⟩ : ByteArray))) (fun _ hk => hk.2) (.int .i64 0)) (fun _ hk => hk.2) (.int .i64 2)) (fun _ hk => hk.2) (.slice Ao4 y183.length co4)) (fun _ hk => trivial), yG1 HB GE182.out⟩
/-! ### haulagelaw08_lives: function 19 -/
def haulagelaw08_lives.f (k : Nat)  : Option (Bool) := (haulagelaw08_Small.f).bind fun bt186 => ((schema_Fill.f k bt186.1 bt186.2.1 bt186.2.2.1 bt186.2.2.2.1 bt186.2.2.2.2 (([(⟨(⟨#[97]⟩ : ByteArray), (⟨1, 1, (⟨#[]⟩ : ByteArray)⟩ : S52)⟩ : S96)] : List (S96)))).bind fun bt196 => (if bt196.2 = 0 then ((haulageref08_SameRow.f k bt196.1 (([(⟨1, 1, (⟨#[]⟩ : ByteArray)⟩ : S52), (⟨0, 0, (⟨#[]⟩ : ByteArray)⟩ : S52)] : List (S52)))).bind fun t203 => (if t203 = true then ((haulagelaw08_Small.f).bind fun bt204 => ((schema_RightTable.f k bt204.1 bt204.2.1 bt204.2.2.1 bt204.2.2.2.1 bt204.2.2.2.2).bind fun t211 => (some t211))) else (some false))) else (some false)))
theorem haulagelaw08_lives.mono : ∀ k, LeO (haulagelaw08_lives.f k ) (haulagelaw08_lives.f (k + 1) ) := by
 intro  k
 unfold haulagelaw08_lives.f
 repeat' first
   | (with_reducible exact haulageref08_SameRow.mono _ _ _)
   | (with_reducible exact schema_Fill.mono _ _ _ _ _ _ _)
   | (with_reducible exact schema_RightTable.mono _ _ _ _ _ _)
   | (with_reducible exact LeO.refl _)
   | (with_reducible exact LeO.none _)
   | (with_reducible refine LeO.ite ?_ ?_)
   | (with_reducible refine LeO.bind ?_ (fun _ => ?_))
   | exact haulageref08_SameRow.mono _ _ _
   | exact schema_Fill.mono _ _ _ _ _ _ _
   | exact schema_RightTable.mono _ _ _ _ _ _
   | exact LeO.none _
   | refine LeO.ite ?_ ?_
   | refine LeO.bind ?_ (fun _ => ?_)
set_option maxHeartbeats 8000000 in
set_option maxRecDepth 100000 in
theorem haulagelaw08_lives.calls (k : Nat)  (r : Bool) (w : World) (hG : Glob w) (h : haulagelaw08_lives.f k  = some r) :
  Calls Tryd.prog 19 #[] w fun e w' => e = .returned (.bool r) ∧ Below w.heap.size w w' := by
 have hu52 := Tryd.underlying52
 have hu96 := Tryd.underlying96
 have HG := aM hG
 clear hG
 have HB := aM (Below.refl w.heap.size w)
 have H : ((haulagelaw08_Small.f).bind fun bt186 => ((schema_Fill.f k bt186.1 bt186.2.1 bt186.2.2.1 bt186.2.2.2.1 bt186.2.2.2.2 (([(⟨(⟨#[97]⟩ : ByteArray), (⟨1, 1, (⟨#[]⟩ : ByteArray)⟩ : S52)⟩ : S96)] : List (S96)))).bind fun bt196 => (if bt196.2 = 0 then ((haulageref08_SameRow.f k bt196.1 (([(⟨1, 1, (⟨#[]⟩ : ByteArray)⟩ : S52), (⟨0, 0, (⟨#[]⟩ : ByteArray)⟩ : S52)] : List (S52)))).bind fun t203 => (if t203 = true then ((haulagelaw08_Small.f).bind fun bt204 => ((schema_RightTable.f k bt204.1 bt204.2.1 bt204.2.2.1 bt204.2.2.2.1 bt204.2.2.2.2).bind fun t211 => (some t211))) else (some false))) else (some false)))) = some r := h
 clear h
 replace H := Option.bind_eq_some_iff.mp H
 obtain ⟨⟨t186, t187, t188, t189, t190⟩, A10, H⟩ := H
 replace H : ((schema_Fill.f k t186 t187 t188 t189 t190 (([(⟨(⟨#[97]⟩ : ByteArray), (⟨1, 1, (⟨#[]⟩ : ByteArray)⟩ : S52)⟩ : S96)] : List (S96)))).bind fun bt196 => (if bt196.2 = 0 then ((haulageref08_SameRow.f k bt196.1 (([(⟨1, 1, (⟨#[]⟩ : ByteArray)⟩ : S52), (⟨0, 0, (⟨#[]⟩ : ByteArray)⟩ : S52)] : List (S52)))).bind fun t203 => (if t203 = true then ((haulagelaw08_Small.f).bind fun bt204 => ((schema_RightTable.f k bt204.1 bt204.2.1 bt204.2.2.1 bt204.2.2.2.1 bt204.2.2.2.2).bind fun t211 => (some t211))) else (some false))) else (some false))) = some r := H
 have A1 := aM A10
 clear A10
 obtain ⟨y193, hy193⟩ : ∃ y_ : List (S96), y_ = (([(⟨(⟨#[97]⟩ : ByteArray), (⟨1, 1, (⟨#[]⟩ : ByteArray)⟩ : S52)⟩ : S96)] : List (S96))) := ⟨_, rfl⟩
 replace H : ((schema_Fill.f k t186 t187 t188 t189 t190 y193).bind fun bt196 => (if bt196.2 = 0 then ((haulageref08_SameRow.f k bt196.1 (([(⟨1, 1, (⟨#[]⟩ : ByteArray)⟩ : S52), (⟨0, 0, (⟨#[]⟩ : ByteArray)⟩ : S52)] : List (S52)))).bind fun t203 => (if t203 = true then ((haulagelaw08_Small.f).bind fun bt204 => ((schema_RightTable.f k bt204.1 bt204.2.1 bt204.2.2.1 bt204.2.2.2.1 bt204.2.2.2.2).bind fun t211 => (some t211))) else (some false))) else (some false))) = some r := by first | (rw [hy193]; with_reducible exact H) | (have H2_ := (Option.bind_some _ _).symm.trans H; rw [hy193]; with_reducible exact H2_) | (have H2_ := (Option.bind_some _ _).symm.trans H; with_reducible exact H2_) | with_reducible exact H | (rw [hy193]; exact H) | exact H
 have Ny193 := aM hy193
 clear hy193
 replace H := Option.bind_eq_some_iff.mp H
 obtain ⟨⟨t196, t199⟩, A20, H⟩ := H
 replace H : (if t199 = 0 then ((haulageref08_SameRow.f k t196 (([(⟨1, 1, (⟨#[]⟩ : ByteArray)⟩ : S52), (⟨0, 0, (⟨#[]⟩ : ByteArray)⟩ : S52)] : List (S52)))).bind fun t203 => (if t203 = true then ((haulagelaw08_Small.f).bind fun bt204 => ((schema_RightTable.f k bt204.1 bt204.2.1 bt204.2.2.1 bt204.2.2.2.1 bt204.2.2.2.2).bind fun t211 => (some t211))) else (some false))) else (some false)) = some r := H
 have A2 := aM A20
 clear A20
 by_cases c3 : t199 = 0
 ·
  rw [if_pos c3] at H
  have c3b0 : (t199 == 0) = true := beq_iff_eq.mpr c3
  have c3b1 : (t199 != 0) = false := bne_eq_false_iff_eq.mpr c3
  clear c3
  obtain ⟨y200, hy200⟩ : ∃ y_ : List (S52), y_ = (([(⟨1, 1, (⟨#[]⟩ : ByteArray)⟩ : S52), (⟨0, 0, (⟨#[]⟩ : ByteArray)⟩ : S52)] : List (S52))) := ⟨_, rfl⟩
  replace H : ((haulageref08_SameRow.f k t196 y200).bind fun t203 => (if t203 = true then ((haulagelaw08_Small.f).bind fun bt204 => ((schema_RightTable.f k bt204.1 bt204.2.1 bt204.2.2.1 bt204.2.2.2.1 bt204.2.2.2.2).bind fun t211 => (some t211))) else (some false))) = some r := by first | (rw [hy200]; with_reducible exact H) | (have H2_ := (Option.bind_some _ _).symm.trans H; rw [hy200]; with_reducible exact H2_) | (have H2_ := (Option.bind_some _ _).symm.trans H; with_reducible exact H2_) | with_reducible exact H | (rw [hy200]; exact H) | exact H
  have Ny200 := aM hy200
  clear hy200
  replace H := Option.bind_eq_some_iff.mp H
  obtain ⟨t203, A40, H⟩ := H
  replace H : (if t203 = true then ((haulagelaw08_Small.f).bind fun bt204 => ((schema_RightTable.f k bt204.1 bt204.2.1 bt204.2.2.1 bt204.2.2.2.1 bt204.2.2.2.2).bind fun t211 => (some t211))) else (some false)) = some r := H
  have A4 := aM A40
  clear A40
  by_cases c5 : t203 = true
  ·
   subst c5
   have H1 : ((haulagelaw08_Small.f).bind fun bt204 => ((schema_RightTable.f k bt204.1 bt204.2.1 bt204.2.2.1 bt204.2.2.2.1 bt204.2.2.2.2).bind fun t211 => (some t211))) = some r := by rw [if_pos rfl] at H; exact H
   clear H
   have H := H1
   clear H1
   replace H := Option.bind_eq_some_iff.mp H
   obtain ⟨⟨t204, t205, t206, t207, t208⟩, A60, H⟩ := H
   replace H : ((schema_RightTable.f k t204 t205 t206 t207 t208).bind fun t211 => (some t211)) = some r := H
   have A6 := aM A60
   clear A60
   replace H := Option.bind_eq_some_iff.mp H
   obtain ⟨t211, A70, H⟩ := H
   replace H : (some t211) = some r := H
   have A7 := aM A70
   clear A70
   obtain rfl := Option.some.inj H
   go_enter Tryd.func19, Tryd.ntmps19
   go_wp2_with (first | ((with_reducible refine gate_callee (f := 59) rfl ?_); refine yC 4 Tryd.func59 #[] rfl ?_; (with_reducible refine (haulagelaw08_Small.calls  t186 t187 t188 t189 t190 _ A1.out).mono ?_); rintro e w8 ⟨v191, rfl, ho0, hb⟩; refine ⟨_, rfl, ?_⟩; have HO192 := aM (Kd.R_lower ho0 (bZ (yB HB))); replace HB := aM (bP (yB HB) hb); (try clear hb); (try clear ho0)) | ((with_reducible refine gate_dst (N := 7) rfl ?_); (try (refine gate_guard (by rfl) ?_; dsimp only)); refine Kd.R_lit k96 _ 96 ?hg (N := 7) ?hd (xs := ([(⟨(⟨#[97]⟩ : ByteArray), (⟨1, 1, (⟨#[]⟩ : ByteArray)⟩ : S52)⟩ : S96)] : List (S96))) (inner := [.string (⟨#[97]⟩ : ByteArray), .int .i64 1, .int .i64 1, .string (⟨#[]⟩ : ByteArray)]) (ok := fun _ => True) (okp := fun _ => True) ?hr ?hp (fun _ hk => hk) trivial (Below.refl _ _) (Nat.le_refl _) (by simp) ?_; (case hd => rfl); (case hg => rfl); (case hr => first | (go_simp; done) | (go_simp; rfl)); (case hp => exact (Reps.c4 (show Kd.M k96 _ _ _ (⟨(⟨#[97]⟩ : ByteArray), (⟨1, 1, (⟨#[]⟩ : ByteArray)⟩ : S52)⟩ : S96) [.string (⟨#[97]⟩ : ByteArray), .int .i64 1, .int .i64 1, .string (⟨#[]⟩ : ByteArray)] from (k96_mkM _ _ _ (⟨(⟨#[97]⟩ : ByteArray), (⟨1, 1, (⟨#[]⟩ : ByteArray)⟩ : S52)⟩ : S96) )) (Reps.none _ _))); intro v194 w9 ho10 hb hg_ hnew_; clear hg_ hnew_; (first | rw [← Ny193.out] at ho10 | (simp only [Int.reduceToNat] at ho10; rw [← Ny193.out] at ho10)); replace HO192 := aM (Kd.R_below (yR HO192.out) hb); have HO195 := aM (Kd.R_lower ho10 (bZ (yB HB))); replace HB := aM (bP (yB HB) hb); clear hb ho10; obtain ⟨Ao11, co11, eo11⟩ := Kd.R_slice HO192.out; subst eo11; obtain ⟨Ao12, co12, eo12⟩ := Kd.R_slice HO195.out; subst eo12) | ((with_reducible refine gate_callee (f := 21) rfl ?_); refine yC 8 Tryd.func21 #[.agg #[.int .i64 t186, .string t187, .int .i64 t188, .int .i64 t189, .slice Ao11 t190.length co11], .slice Ao12 y193.length co12] rfl ?_; (with_reducible refine (schema_Fill.calls k t186 t187 t188 t189 _ _ t190 _ _ y193 t196 t199 _ ?side1 ?side2 ?side3 ?side4 ?side5 A2.out).mono ?_); (case side1 => exact yW (Kd.R_reads' HO192.out).2.2); (case side2 => exact (Kd.R_reads' HO192.out).2.1); (case side3 => exact yW (Kd.R_reads' HO195.out).2.2); (case side4 => exact (Kd.R_reads' HO195.out).2.1); (case side5 => first | (with_reducible exact HG.out) | exact Glob.below HG.out (yB HB)); rintro e w13 ⟨v197, rfl, ho0, hb⟩; refine ⟨_, rfl, ?_⟩; replace HO192 := aM (Kd.R_below (yR HO192.out) hb); replace HO195 := aM (Kd.R_below (yR HO195.out) hb); have HO198 := aM (Kd.R_lower ho0 (bZ (yB HB))); replace HB := aM (bP (yB HB) hb); (try clear hb); (try clear ho0)) | ((with_reducible refine gate_dst (N := 17) rfl ?_); (try (refine gate_guard (by rfl) ?_; dsimp only)); refine Kd.R_lit k52 _ 52 ?hg (N := 17) ?hd (xs := ([(⟨1, 1, (⟨#[]⟩ : ByteArray)⟩ : S52), (⟨0, 0, (⟨#[]⟩ : ByteArray)⟩ : S52)] : List (S52))) (inner := [.int .i64 1, .int .i64 1, .string (⟨#[]⟩ : ByteArray), .int .i64 0, .int .i64 0, .string (⟨#[]⟩ : ByteArray)]) (ok := fun _ => True) (okp := fun _ => True) ?hr ?hp (fun _ hk => hk) trivial (Below.refl _ _) (Nat.le_refl _) (by simp) ?_; (case hd => rfl); (case hg => rfl); (case hr => first | (go_simp; done) | (go_simp; rfl)); (case hp => exact (Reps.c3 (show Kd.M k52 _ _ _ (⟨1, 1, (⟨#[]⟩ : ByteArray)⟩ : S52) [.int .i64 1, .int .i64 1, .string (⟨#[]⟩ : ByteArray)] from (k52_mkM _ _ _ (⟨1, 1, (⟨#[]⟩ : ByteArray)⟩ : S52) )) (Reps.c3 (show Kd.M k52 _ _ _ (⟨0, 0, (⟨#[]⟩ : ByteArray)⟩ : S52) [.int .i64 0, .int .i64 0, .string (⟨#[]⟩ : ByteArray)] from (k52_mkM _ _ _ (⟨0, 0, (⟨#[]⟩ : ByteArray)⟩ : S52) )) (Reps.none _ _)))); intro v201 w14 ho15 hb hg_ hnew_; clear hg_ hnew_; (first | rw [← Ny200.out] at ho15 | (simp only [Int.reduceToNat] at ho15; rw [← Ny200.out] at ho15)); replace HO192 := aM (Kd.R_below (yR HO192.out) hb); replace HO195 := aM (Kd.R_below (yR HO195.out) hb); have HO202 := aM (Kd.R_lower (Kd.R_new' ho15 (Kd.R_lt (yR HO198.out))) (bZ (yB HB))); replace HO198 := aM (Kd.R_elder' (yR HO198.out) (Kd.R_base ho15) hb); replace HB := aM (bP (yB HB) hb); clear hb ho15; obtain ⟨Ao16, co16, eo16⟩ := Kd.R_slice HO198.out; subst eo16; obtain ⟨Ao17, co17, eo17⟩ := Kd.R_slice HO202.out; subst eo17) | (go_at_call 23; (with_reducible refine (haulageref08_SameRow.calls k _ _ t196 _ _ y200 true _ ?side1 ?side2 ?side3 ?side4 A4.out).mono ?_); (case side1 => exact yW (Kd.R_reads' HO198.out).2.2); (case side2 => exact (Kd.R_reads' HO198.out).2.1); (case side3 => exact yW (Kd.R_reads' HO202.out).2.2); (case side4 => exact (Kd.R_reads' HO202.out).2.1); rintro e w' ⟨rfl, ⟨nd, rfl⟩⟩) | (go_at_call 59; (with_reducible refine (haulagelaw08_Small.calls  t204 t205 t206 t207 t208 _ A6.out).mono ?_); rintro e w18 ⟨v209, rfl, ho0, hb⟩; replace HO195 := aM (Kd.R_below (yR HO195.out) hb); replace HO198 := aM (Kd.R_below (yR HO198.out) hb); replace HO202 := aM (Kd.R_below (yR HO202.out) hb); have HO210 := aM (Kd.R_lower (Kd.R_new' ho0 (Kd.R_lt (yR HO192.out))) (bZ (yB HB))); replace HO192 := aM (Kd.R_elder' (yR HO192.out) (Kd.R_base ho0) hb); replace HB := aM (bP (yB HB) hb); (try clear hb); (try clear ho0); obtain ⟨Ao19, co19, eo19⟩ := Kd.R_slice HO210.out; subst eo19) | (go_at_call 26; (with_reducible refine (schema_RightTable.calls k t204 t205 t206 t207 _ _ t208 t211 _ ?side1 ?side2 ?side3 A7.out).mono ?_); (case side1 => exact yW (Kd.R_reads' HO210.out).2.2); (case side2 => exact (Kd.R_reads' HO210.out).2.1); (case side3 => first | (with_reducible exact HG.out) | exact Glob.below HG.out (yB HB)); rintro e w20 ⟨rfl, hb⟩; replace HO192 := aM (Kd.R_below (yR HO192.out) hb); replace HO195 := aM (Kd.R_below (yR HO195.out) hb); replace HO198 := aM (Kd.R_below (yR HO198.out) hb); replace HO202 := aM (Kd.R_below (yR HO202.out) hb); replace HO210 := aM (Kd.R_below (yR HO210.out) hb); replace HB := aM (bP (yB HB) hb); (try clear hb)))
   go_ret
   exact ⟨yE, yB HB⟩
  ·
   replace c5 := Bool.eq_false_iff.mpr c5
   subst c5
   have H1 : (some false) = some r := by rw [if_neg (show ¬ (false = true) by decide)] at H; exact H
   clear H
   have H := H1
   clear H1
   obtain rfl := Option.some.inj H
   go_enter Tryd.func19, Tryd.ntmps19
   go_wp2_with (first | ((with_reducible refine gate_callee (f := 59) rfl ?_); refine yC 4 Tryd.func59 #[] rfl ?_; (with_reducible refine (haulagelaw08_Small.calls  t186 t187 t188 t189 t190 _ A1.out).mono ?_); rintro e w21 ⟨v191, rfl, ho0, hb⟩; refine ⟨_, rfl, ?_⟩; have HO192 := aM (Kd.R_lower ho0 (bZ (yB HB))); replace HB := aM (bP (yB HB) hb); (try clear hb); (try clear ho0)) | ((with_reducible refine gate_dst (N := 7) rfl ?_); (try (refine gate_guard (by rfl) ?_; dsimp only)); refine Kd.R_lit k96 _ 96 ?hg (N := 7) ?hd (xs := ([(⟨(⟨#[97]⟩ : ByteArray), (⟨1, 1, (⟨#[]⟩ : ByteArray)⟩ : S52)⟩ : S96)] : List (S96))) (inner := [.string (⟨#[97]⟩ : ByteArray), .int .i64 1, .int .i64 1, .string (⟨#[]⟩ : ByteArray)]) (ok := fun _ => True) (okp := fun _ => True) ?hr ?hp (fun _ hk => hk) trivial (Below.refl _ _) (Nat.le_refl _) (by simp) ?_; (case hd => rfl); (case hg => rfl); (case hr => first | (go_simp; done) | (go_simp; rfl)); (case hp => exact (Reps.c4 (show Kd.M k96 _ _ _ (⟨(⟨#[97]⟩ : ByteArray), (⟨1, 1, (⟨#[]⟩ : ByteArray)⟩ : S52)⟩ : S96) [.string (⟨#[97]⟩ : ByteArray), .int .i64 1, .int .i64 1, .string (⟨#[]⟩ : ByteArray)] from (k96_mkM _ _ _ (⟨(⟨#[97]⟩ : ByteArray), (⟨1, 1, (⟨#[]⟩ : ByteArray)⟩ : S52)⟩ : S96) )) (Reps.none _ _))); intro v194 w22 ho23 hb hg_ hnew_; clear hg_ hnew_; (first | rw [← Ny193.out] at ho23 | (simp only [Int.reduceToNat] at ho23; rw [← Ny193.out] at ho23)); replace HO192 := aM (Kd.R_below (yR HO192.out) hb); have HO195 := aM (Kd.R_lower ho23 (bZ (yB HB))); replace HB := aM (bP (yB HB) hb); clear hb ho23; obtain ⟨Ao24, co24, eo24⟩ := Kd.R_slice HO192.out; subst eo24; obtain ⟨Ao25, co25, eo25⟩ := Kd.R_slice HO195.out; subst eo25) | ((with_reducible refine gate_callee (f := 21) rfl ?_); refine yC 8 Tryd.func21 #[.agg #[.int .i64 t186, .string t187, .int .i64 t188, .int .i64 t189, .slice Ao24 t190.length co24], .slice Ao25 y193.length co25] rfl ?_; (with_reducible refine (schema_Fill.calls k t186 t187 t188 t189 _ _ t190 _ _ y193 t196 t199 _ ?side1 ?side2 ?side3 ?side4 ?side5 A2.out).mono ?_); (case side1 => exact yW (Kd.R_reads' HO192.out).2.2); (case side2 => exact (Kd.R_reads' HO192.out).2.1); (case side3 => exact yW (Kd.R_reads' HO195.out).2.2); (case side4 => exact (Kd.R_reads' HO195.out).2.1); (case side5 => first | (with_reducible exact HG.out) | exact Glob.below HG.out (yB HB)); rintro e w26 ⟨v197, rfl, ho0, hb⟩; refine ⟨_, rfl, ?_⟩; replace HO192 := aM (Kd.R_below (yR HO192.out) hb); replace HO195 := aM (Kd.R_below (yR HO195.out) hb); have HO198 := aM (Kd.R_lower ho0 (bZ (yB HB))); replace HB := aM (bP (yB HB) hb); (try clear hb); (try clear ho0)) | ((with_reducible refine gate_dst (N := 17) rfl ?_); (try (refine gate_guard (by rfl) ?_; dsimp only)); refine Kd.R_lit k52 _ 52 ?hg (N := 17) ?hd (xs := ([(⟨1, 1, (⟨#[]⟩ : ByteArray)⟩ : S52), (⟨0, 0, (⟨#[]⟩ : ByteArray)⟩ : S52)] : List (S52))) (inner := [.int .i64 1, .int .i64 1, .string (⟨#[]⟩ : ByteArray), .int .i64 0, .int .i64 0, .string (⟨#[]⟩ : ByteArray)]) (ok := fun _ => True) (okp := fun _ => True) ?hr ?hp (fun _ hk => hk) trivial (Below.refl _ _) (Nat.le_refl _) (by simp) ?_; (case hd => rfl); (case hg => rfl); (case hr => first | (go_simp; done) | (go_simp; rfl)); (case hp => exact (Reps.c3 (show Kd.M k52 _ _ _ (⟨1, 1, (⟨#[]⟩ : ByteArray)⟩ : S52) [.int .i64 1, .int .i64 1, .string (⟨#[]⟩ : ByteArray)] from (k52_mkM _ _ _ (⟨1, 1, (⟨#[]⟩ : ByteArray)⟩ : S52) )) (Reps.c3 (show Kd.M k52 _ _ _ (⟨0, 0, (⟨#[]⟩ : ByteArray)⟩ : S52) [.int .i64 0, .int .i64 0, .string (⟨#[]⟩ : ByteArray)] from (k52_mkM _ _ _ (⟨0, 0, (⟨#[]⟩ : ByteArray)⟩ : S52) )) (Reps.none _ _)))); intro v201 w27 ho28 hb hg_ hnew_; clear hg_ hnew_; (first | rw [← Ny200.out] at ho28 | (simp only [Int.reduceToNat] at ho28; rw [← Ny200.out] at ho28)); replace HO192 := aM (Kd.R_below (yR HO192.out) hb); replace HO195 := aM (Kd.R_below (yR HO195.out) hb); have HO202 := aM (Kd.R_lower (Kd.R_new' ho28 (Kd.R_lt (yR HO198.out))) (bZ (yB HB))); replace HO198 := aM (Kd.R_elder' (yR HO198.out) (Kd.R_base ho28) hb); replace HB := aM (bP (yB HB) hb); clear hb ho28; obtain ⟨Ao29, co29, eo29⟩ := Kd.R_slice HO198.out; subst eo29; obtain ⟨Ao30, co30, eo30⟩ := Kd.R_slice HO202.out; subst eo30) | (go_at_call 23; (with_reducible refine (haulageref08_SameRow.calls k _ _ t196 _ _ y200 false _ ?side1 ?side2 ?side3 ?side4 A4.out).mono ?_); (case side1 => exact yW (Kd.R_reads' HO198.out).2.2); (case side2 => exact (Kd.R_reads' HO198.out).2.1); (case side3 => exact yW (Kd.R_reads' HO202.out).2.2); (case side4 => exact (Kd.R_reads' HO202.out).2.1); rintro e w' ⟨rfl, ⟨nd, rfl⟩⟩))
   go_ret
   exact ⟨yE, yB HB⟩
 ·
  rw [if_neg c3] at H
  have c3b0 : (t199 == 0) = false := beq_eq_false_iff_ne.mpr c3
  have c3b1 : (t199 != 0) = true := bne_iff_ne.mpr c3
  obtain rfl := Option.some.inj H
  go_enter Tryd.func19, Tryd.ntmps19
  go_wp2_with (first | ((with_reducible refine gate_callee (f := 59) rfl ?_); refine yC 4 Tryd.func59 #[] rfl ?_; (with_reducible refine (haulagelaw08_Small.calls  t186 t187 t188 t189 t190 _ A1.out).mono ?_); rintro e w31 ⟨v191, rfl, ho0, hb⟩; refine ⟨_, rfl, ?_⟩; have HO192 := aM (Kd.R_lower ho0 (bZ (yB HB))); replace HB := aM (bP (yB HB) hb); (try clear hb); (try clear ho0)) | ((with_reducible refine gate_dst (N := 7) rfl ?_); (try (refine gate_guard (by rfl) ?_; dsimp only)); refine Kd.R_lit k96 _ 96 ?hg (N := 7) ?hd (xs := ([(⟨(⟨#[97]⟩ : ByteArray), (⟨1, 1, (⟨#[]⟩ : ByteArray)⟩ : S52)⟩ : S96)] : List (S96))) (inner := [.string (⟨#[97]⟩ : ByteArray), .int .i64 1, .int .i64 1, .string (⟨#[]⟩ : ByteArray)]) (ok := fun _ => True) (okp := fun _ => True) ?hr ?hp (fun _ hk => hk) trivial (Below.refl _ _) (Nat.le_refl _) (by simp) ?_; (case hd => rfl); (case hg => rfl); (case hr => first | (go_simp; done) | (go_simp; rfl)); (case hp => exact (Reps.c4 (show Kd.M k96 _ _ _ (⟨(⟨#[97]⟩ : ByteArray), (⟨1, 1, (⟨#[]⟩ : ByteArray)⟩ : S52)⟩ : S96) [.string (⟨#[97]⟩ : ByteArray), .int .i64 1, .int .i64 1, .string (⟨#[]⟩ : ByteArray)] from (k96_mkM _ _ _ (⟨(⟨#[97]⟩ : ByteArray), (⟨1, 1, (⟨#[]⟩ : ByteArray)⟩ : S52)⟩ : S96) )) (Reps.none _ _))); intro v194 w32 ho33 hb hg_ hnew_; clear hg_ hnew_; (first | rw [← Ny193.out] at ho33 | (simp only [Int.reduceToNat] at ho33; rw [← Ny193.out] at ho33)); replace HO192 := aM (Kd.R_below (yR HO192.out) hb); have HO195 := aM (Kd.R_lower ho33 (bZ (yB HB))); replace HB := aM (bP (yB HB) hb); clear hb ho33; obtain ⟨Ao34, co34, eo34⟩ := Kd.R_slice HO192.out; subst eo34; obtain ⟨Ao35, co35, eo35⟩ := Kd.R_slice HO195.out; subst eo35) | ((with_reducible refine gate_callee (f := 21) rfl ?_); refine yC 8 Tryd.func21 #[.agg #[.int .i64 t186, .string t187, .int .i64 t188, .int .i64 t189, .slice Ao34 t190.length co34], .slice Ao35 y193.length co35] rfl ?_; (with_reducible refine (schema_Fill.calls k t186 t187 t188 t189 _ _ t190 _ _ y193 t196 t199 _ ?side1 ?side2 ?side3 ?side4 ?side5 A2.out).mono ?_); (case side1 => exact yW (Kd.R_reads' HO192.out).2.2); (case side2 => exact (Kd.R_reads' HO192.out).2.1); (case side3 => exact yW (Kd.R_reads' HO195.out).2.2); (case side4 => exact (Kd.R_reads' HO195.out).2.1); (case side5 => first | (with_reducible exact HG.out) | exact Glob.below HG.out (yB HB)); rintro e w36 ⟨v197, rfl, ho0, hb⟩; refine ⟨_, rfl, ?_⟩; replace HO192 := aM (Kd.R_below (yR HO192.out) hb); replace HO195 := aM (Kd.R_below (yR HO195.out) hb); have HO198 := aM (Kd.R_lower ho0 (bZ (yB HB))); replace HB := aM (bP (yB HB) hb); (try clear hb); (try clear ho0)))
  go_ret
  exact ⟨yE, yB HB⟩
/-! ### haulagelaw08_short: function 38 -/
def haulagelaw08_short.f (a0 : ByteArray) : Option (Bool) := some (decide ((a0.size : Int) ≤ 200))
set_option maxHeartbeats 8000000 in
set_option maxRecDepth 100000 in
theorem haulagelaw08_short.calls (a0 : ByteArray) (r : Bool) (w : World) (h : haulagelaw08_short.f a0 = some r) :
  Calls Tryd.prog 38 #[.string a0] w fun e w' => e = .returned (.bool r) ∧ Drawn0 w w' := by
 have H : (some (decide ((a0.size : Int) ≤ 200))) = some r := h
 clear h
 obtain rfl := Option.some.inj H
 go_enter Tryd.func38, Tryd.ntmps38
 go_wp2
 go_ret
 exact ⟨yS, yD⟩
/-! ### haulagelaw08_Few: function 14 -/
mutual
def haulagelaw08_Few.j0 : Nat → Bool → Int → ByteArray → Int → Int → List (S54) → Option (Bool)
 | 0, _, _, _, _, _, _ => none
 | k + 1, x13, x213000, x213001, x213002, x213003, x213004 => if x13 = true then (some false) else (haulagelaw08_Few.l0 k 0 x213000 x213001 x213002 x213003 x213004)
def haulagelaw08_Few.l0 : Nat → Int → Int → ByteArray → Int → Int → List (S54) → Option (Bool)
 | 0, _, _, _, _, _, _ => none
 | k + 1, x3, x213000, x213001, x213002, x213003, x213004 => if x3 < (x213004.length : Int) then (if 0 ≤ x3 then ((haulagelaw08_short.f ((rd_T54 x213004 x3).f1)).bind fun t215 => (if t215 = true then ((haulagelaw08_short.f ((rd_T54 x213004 x3).f4.f2)).bind fun t217 => (if t217 = true then (haulagelaw08_Few.l0 k (wrap64 (x3 + 1)) x213000 x213001 x213002 x213003 x213004) else (some false))) else (some false))) else (none)) else (some true)
end
def haulagelaw08_Few.f (k : Nat) (a0_0 : Int) (a0_1 : ByteArray) (a0_2 : Int) (a0_3 : Int) (l0_4 : List (S54)) : Option (Bool) := if (l0_4.length : Int) > 20 then (haulagelaw08_Few.j0 k true a0_0 a0_1 a0_2 a0_3 l0_4) else ((haulagelaw08_short.f a0_1).bind fun t213 => (haulagelaw08_Few.j0 k (!t213) a0_0 a0_1 a0_2 a0_3 l0_4))
theorem haulagelaw08_Few.mono_l : ∀ k, (∀ y0 y1 y2 y3 y4 y5, LeO (haulagelaw08_Few.j0 k y0 y1 y2 y3 y4 y5) (haulagelaw08_Few.j0 (k + 1) y0 y1 y2 y3 y4 y5)) ∧ (∀ y0 y1 y2 y3 y4 y5, LeO (haulagelaw08_Few.l0 k y0 y1 y2 y3 y4 y5) (haulagelaw08_Few.l0 (k + 1) y0 y1 y2 y3 y4 y5))
 | 0 => ⟨fun _ _ _ _ _ _ r h => by simp [haulagelaw08_Few.j0] at h, fun _ _ _ _ _ _ r h => by simp [haulagelaw08_Few.l0] at h⟩
 | k + 1 => by
  obtain ⟨ih0, ih1⟩ := haulagelaw08_Few.mono_l k
  refine ⟨?_, ?_⟩
  ·
   intro y0 y1 y2 y3 y4 y5
   unfold haulagelaw08_Few.j0
   repeat' first
   | (with_reducible exact ih0 _ _ _ _ _ _)
   | (with_reducible exact ih1 _ _ _ _ _ _)
   | (with_reducible exact LeO.refl _)
   | (with_reducible exact LeO.none _)
   | (with_reducible refine LeO.ite ?_ ?_)
   | (with_reducible refine LeO.bind ?_ (fun _ => ?_))
   | exact ih0 _ _ _ _ _ _
   | exact ih1 _ _ _ _ _ _
   | exact LeO.none _
   | refine LeO.ite ?_ ?_
   | refine LeO.bind ?_ (fun _ => ?_)
  ·
   intro y0 y1 y2 y3 y4 y5
   unfold haulagelaw08_Few.l0
   repeat' first
   | (with_reducible exact ih0 _ _ _ _ _ _)
   | (with_reducible exact ih1 _ _ _ _ _ _)
   | (with_reducible exact LeO.refl _)
   | (with_reducible exact LeO.none _)
   | (with_reducible refine LeO.ite ?_ ?_)
   | (with_reducible refine LeO.bind ?_ (fun _ => ?_))
   | exact ih0 _ _ _ _ _ _
   | exact ih1 _ _ _ _ _ _
   | exact LeO.none _
   | refine LeO.ite ?_ ?_
   | refine LeO.bind ?_ (fun _ => ?_)
theorem haulagelaw08_Few.mono : ∀ a0 a1 a2 a3 a4 k, LeO (haulagelaw08_Few.f k a0 a1 a2 a3 a4) (haulagelaw08_Few.f (k + 1) a0 a1 a2 a3 a4) := by
 intro a0 a1 a2 a3 a4 k
 obtain ⟨ih0, ih1⟩ := haulagelaw08_Few.mono_l k
 unfold haulagelaw08_Few.f
 repeat' first
   | (with_reducible exact ih0 _ _ _ _ _ _)
   | (with_reducible exact ih1 _ _ _ _ _ _)
   | (with_reducible exact LeO.refl _)
   | (with_reducible exact LeO.none _)
   | (with_reducible refine LeO.ite ?_ ?_)
   | (with_reducible refine LeO.bind ?_ (fun _ => ?_))
   | exact ih0 _ _ _ _ _ _
   | exact ih1 _ _ _ _ _ _
   | exact LeO.none _
   | refine LeO.ite ?_ ?_
   | refine LeO.bind ?_ (fun _ => ?_)
set_option maxHeartbeats 8000000 in
set_option maxRecDepth 100000 in
theorem haulagelaw08_Few.calls (k : Nat) (a0_0 : Int) (a0_1 : ByteArray) (a0_2 : Int) (a0_3 : Int) (A0_4 : Option Addr) (c0_4 : Nat) (l0_4 : List (S54)) (r : Bool) (w : World) (hr0_4 : Kd.C k54 w A0_4 l0_4.length l0_4) (hc0_4 : l0_4.length ≤ c0_4) (h : haulagelaw08_Few.f k a0_0 a0_1 a0_2 a0_3 l0_4 = some r) :
  Calls Tryd.prog 14 #[.agg #[.int .i64 a0_0, .string a0_1, .int .i64 a0_2, .int .i64 a0_3, .slice A0_4 l0_4.length c0_4]] w fun e w' => e = .returned (.bool r) ∧ Below w.heap.size w w' := by
 have hu24 := Tryd.underlying24
 have HR0_4 := aM hr0_4
 have HC0_4 := aM hc0_4
 clear hr0_4 hc0_4
 have HB := aM (Below.refl w.heap.size w)
 have H : (if (l0_4.length : Int) > 20 then (haulagelaw08_Few.j0 k true a0_0 a0_1 a0_2 a0_3 l0_4) else ((haulagelaw08_short.f a0_1).bind fun t213 => (haulagelaw08_Few.j0 k (!t213) a0_0 a0_1 a0_2 a0_3 l0_4))) = some r := h
 clear h
 have HC2 := aM H
 clear H
 go_enter Tryd.func14, Tryd.ntmps14
 go_upto_region 1 with (first | ((with_reducible refine gate_dst (N := 1) rfl ?_); refine yX (N := 1) (cs := #[.int .i64 a0_0, .string a0_1, .int .i64 a0_2, .int .i64 a0_3, .slice A0_4 l0_4.length c0_4]) (t := 24) ?_; intro gb212 hg w3 hbox hb; have BK212 := aM (hbox); have GW212 := yZ hg (yB HB); have GE212 := yZ hg (yB HB); replace HB := aM (bP (yB HB) hb); clear hb hbox hg))
 (try simp only [Act.put, s1_, s2_, s3_])
 go_cut [13] (fun v13 wc => ∃ (kq : Nat) (x13_1 : Bool), v13 = .bool x13_1 ∧ Aside0 (haulagelaw08_Few.j0 kq x13_1 a0_0 a0_1 a0_2 a0_3 l0_4 = some r) ∧ Aside0 (kq ≤ k) ∧ Aside0 (wc.heap[gb212]? = some (.cells #[.int .i64 a0_0, .string a0_1, .int .i64 a0_2, .int .i64 a0_3, (.slice A0_4 l0_4.length c0_4)] 24 (0, 0))) ∧ Aside0 (Below w.heap.size w wc))
 case first =>
  have H := HC2.out
  clear HC2
  by_cases c4 : (l0_4.length : Int) > 20
  ·
   rw [if_pos c4] at H
   have c4b0 : decide (20 < (l0_4.length : Int)) = true := decide_eq_true c4
   have c4b1 : decide (20 < l0_4.length) = true := decide_eq_true (by omega)
   clear c4
   (first | rw [c4b0] | (simp only [i64_w, i32_w]; rw [c4b0]) | skip)
   have H' := aM H
   clear H
   obtain ⟨hcz5_0, hcz5_1, hcz5_2, hcz5_3, hcz5_4, hfz5_0, hfz5_1, hfz5_2, hfz5_3, hfz5_4⟩ := cells5 BK212.out
   go_wp2
   go_meet
   case rel => exact ⟨_, (true), yS, H', ⟨yO⟩, ⟨yK BK212⟩, ⟨yG1 HB GE212.out⟩⟩
  ·
   rw [if_neg c4] at H
   have c4b0 : decide (20 < (l0_4.length : Int)) = false := decide_eq_false c4
   have c4b1 : decide (20 < l0_4.length) = false := decide_eq_false (by omega)
   clear c4
   (first | rw [c4b0] | (simp only [i64_w, i32_w]; rw [c4b0]) | skip)
   replace H := Option.bind_eq_some_iff.mp H
   obtain ⟨t213, A60, H⟩ := H
   replace H : (haulagelaw08_Few.j0 k (!t213) a0_0 a0_1 a0_2 a0_3 l0_4) = some r := H
   have A6 := aM A60
   clear A60
   have H' := aM H
   clear H
   obtain ⟨hcz7_0, hcz7_1, hcz7_2, hcz7_3, hcz7_4, hfz7_0, hfz7_1, hfz7_2, hfz7_3, hfz7_4⟩ := cells5 BK212.out
   go_wp2_with (first | (go_at_call 38; (with_reducible refine (haulagelaw08_short.calls a0_1 t213 _ A6.out).mono ?_); rintro e w' ⟨rfl, ⟨nd, rfl⟩⟩))
   go_meet
   case rel => exact ⟨_, (!t213), yS, H', ⟨yO⟩, ⟨yK BK212⟩, ⟨yG1 HB GE212.out⟩⟩
 case rest =>
  clear HC2
  try clear c1
  try clear p2
  try clear c4
  try clear c4b0
  try clear c4b1
  try clear hcz5_0 hcz5_1 hcz5_2 hcz5_3 hcz5_4
  try clear hcz7_0 hcz7_1 hcz7_2 hcz7_3 hcz7_4
  try clear hfz5_0 hfz5_1 hfz5_2 hfz5_3 hfz5_4
  try clear hfz7_0 hfz7_1 hfz7_2 hfz7_3 hfz7_4
  obtain ⟨kq, x13_1, rfl, HA, HJ1, BK212, HB⟩ := hcut
  cases kq with
  | zero => exact absurd HA.out (by simp [haulagelaw08_Few.j0])
  | succ kj1 =>
   have H := HA.out
   clear HA
   simp only [haulagelaw08_Few.j0] at H
   by_cases c8 : x13_1 = true
   ·
    subst c8
    have H1 : (some false) = some r := by rw [if_pos rfl] at H; exact H
    clear H
    have H := H1
    clear H1
    obtain rfl := Option.some.inj H
    go_wp2
    go_ret
    exact ⟨yE, yG1 HB GE212.out⟩
   ·
    replace c8 := Bool.eq_false_iff.mpr c8
    subst c8
    have H1 : (haulagelaw08_Few.l0 kj1 0 a0_0 a0_1 a0_2 a0_3 l0_4) = some r := by rw [if_neg (show ¬ (false = true) by decide)] at H; exact H
    clear H
    have H := H1
    clear H1
    have H' := aM H
    clear H
    go_wp2
    go_loopg [3] kj1 (fun kq v3 w' => ∃ (x3_2 : Int), v3 = .int .i64 x3_2 ∧ Aside0 (haulagelaw08_Few.l0 kq x3_2 a0_0 a0_1 a0_2 a0_3 l0_4 = some r) ∧ Aside0 (kq ≤ kj1) ∧ Aside0 (w'.heap[gb212]? = some (.cells #[.int .i64 a0_0, .string a0_1, .int .i64 a0_2, .int .i64 a0_3, (.slice A0_4 l0_4.length c0_4)] 24 (0, 0))) ∧ Aside0 (Below w.heap.size w w'))
    case atStart => exact ⟨(0), yS, H', ⟨Nat.le_refl _⟩, ⟨yK BK212⟩, ⟨yG1 HB GE212.out⟩⟩
    case round =>
     clear H'
     try clear c1
     try clear p2
     try clear c4
     try clear c4b0
     try clear c4b1
     try clear c8
     try clear hcz5_0 hcz5_1 hcz5_2 hcz5_3 hcz5_4
     try clear hcz7_0 hcz7_1 hcz7_2 hcz7_3 hcz7_4
     try clear hfz5_0 hfz5_1 hfz5_2 hfz5_3 hfz5_4
     try clear hfz7_0 hfz7_1 hfz7_2 hfz7_3 hfz7_4
     try clear p2
     obtain ⟨x3_2, rfl, HA, HK2, BK212, HB⟩ := hrel
     cases gk with
     | zero => exact absurd HA.out (by simp [haulagelaw08_Few.l0])
     | succ k2 =>
      have H := HA.out
      clear HA
      simp only [haulagelaw08_Few.l0] at H
      by_cases c9 : x3_2 < (l0_4.length : Int)
      ·
       rw [if_pos c9] at H
       have c9b0 : decide (x3_2 < (l0_4.length : Int)) = true := decide_eq_true c9
       clear c9
       by_cases c10 : 0 ≤ x3_2
       ·
        rw [if_pos c10] at H
        have c10b0 : decide (0 ≤ x3_2) = true := decide_eq_true c10
        clear c10
        replace H := Option.bind_eq_some_iff.mp H
        obtain ⟨t215, A110, H⟩ := H
        replace H : (if t215 = true then ((haulagelaw08_short.f ((rd_T54 l0_4 x3_2).f4.f2)).bind fun t217 => (if t217 = true then (haulagelaw08_Few.l0 k2 (wrap64 (x3_2 + 1)) a0_0 a0_1 a0_2 a0_3 l0_4) else (some false))) else (some false)) = some r := H
        have A11 := aM A110
        clear A110
        by_cases c12 : t215 = true
        ·
         subst c12
         have H1 : ((haulagelaw08_short.f ((rd_T54 l0_4 x3_2).f4.f2)).bind fun t217 => (if t217 = true then (haulagelaw08_Few.l0 k2 (wrap64 (x3_2 + 1)) a0_0 a0_1 a0_2 a0_3 l0_4) else (some false))) = some r := by rw [if_pos rfl] at H; exact H
         clear H
         have H := H1
         clear H1
         replace H := Option.bind_eq_some_iff.mp H
         obtain ⟨t217, A130, H⟩ := H
         replace H : (if t217 = true then (haulagelaw08_Few.l0 k2 (wrap64 (x3_2 + 1)) a0_0 a0_1 a0_2 a0_3 l0_4) else (some false)) = some r := H
         have A13 := aM A130
         clear A130
         by_cases c14 : t217 = true
         ·
          subst c14
          have H1 : (haulagelaw08_Few.l0 k2 (wrap64 (x3_2 + 1)) a0_0 a0_1 a0_2 a0_3 l0_4) = some r := by rw [if_pos rfl] at H; exact H
          clear H
          have H := H1
          clear H1
          have H' := aM H
          clear H
          obtain ⟨hcz15_0, hcz15_1, hcz15_2, hcz15_3, hcz15_4, hfz15_0, hfz15_1, hfz15_2, hfz15_3, hfz15_4⟩ := cells5 BK212.out
          have p214 : 0 ≤ (x3_2 : Int) := oD yA
          have q214 : x3_2 < (l0_4.length : Int) := oD yA
          obtain ⟨ad214, e214, hx214_0, hx214_1, hx214_2, hx214_3, hx214_4, hx214_5, hx214_6, hx214_7⟩ := at_T54 HR0_4.out x3_2 p214 q214
          cases e214
          replace hx214_0 := pw_cell_below HB.out hx214_0
          replace hx214_1 := pw_cell_below HB.out hx214_1
          replace hx214_2 := pw_cell_below HB.out hx214_2
          replace hx214_3 := pw_cell_below HB.out hx214_3
          replace hx214_4 := pw_cell_below HB.out hx214_4
          replace hx214_5 := pw_cell_below HB.out hx214_5
          replace hx214_6 := pw_cell_below HB.out hx214_6
          replace hx214_7 := pw_cell_below HB.out hx214_7
          replace p214 := eq_true p214
          replace q214 := eq_true q214
          go_wp2_with (first | ((with_reducible refine gate_callee (f := 38) rfl ?_); refine yC 27 Tryd.func38 #[.string ((rd_T54 l0_4 x3_2).f1)] rfl ?_; (with_reducible refine (haulagelaw08_short.calls ((rd_T54 l0_4 x3_2).f1) true _ A11.out).mono ?_); rintro e w' ⟨rfl, ⟨nd, rfl⟩⟩; refine ⟨_, rfl, ?_⟩; have p216 : 0 ≤ (x3_2 : Int) := oD yA; have q216 : x3_2 < (l0_4.length : Int) := oD yA; obtain ⟨ad216, e216, hx216_0, hx216_1, hx216_2, hx216_3, hx216_4, hx216_5, hx216_6, hx216_7⟩ := at_T54 HR0_4.out x3_2 p216 q216; obtain rfl : ad214 = ad216 := (by injection e216); replace hx216_0 := pw_cell_below HB.out hx216_0; replace hx216_1 := pw_cell_below HB.out hx216_1; replace hx216_2 := pw_cell_below HB.out hx216_2; replace hx216_3 := pw_cell_below HB.out hx216_3; replace hx216_4 := pw_cell_below HB.out hx216_4; replace hx216_5 := pw_cell_below HB.out hx216_5; replace hx216_6 := pw_cell_below HB.out hx216_6; replace hx216_7 := pw_cell_below HB.out hx216_7; replace p216 := eq_true p216; replace q216 := eq_true q216) | (go_at_call 38; (with_reducible refine (haulagelaw08_short.calls ((rd_T54 l0_4 x3_2).f4.f2) true _ A13.out).mono ?_); rintro e w' ⟨rfl, ⟨nd, rfl⟩⟩))
          go_roundg k2
          case measure => have := HJ1.out; have := HK2.out; omega
          case rel => exact ⟨(wrap64 (x3_2 + 1)), yS, H', ⟨by have := HJ1.out; have := HK2.out; omega⟩, ⟨yK BK212⟩, ⟨yG1 HB GE212.out⟩⟩
         ·
          replace c14 := Bool.eq_false_iff.mpr c14
          subst c14
          have H1 : (some false) = some r := by rw [if_neg (show ¬ (false = true) by decide)] at H; exact H
          clear H
          have H := H1
          clear H1
          obtain rfl := Option.some.inj H
          obtain ⟨hcz16_0, hcz16_1, hcz16_2, hcz16_3, hcz16_4, hfz16_0, hfz16_1, hfz16_2, hfz16_3, hfz16_4⟩ := cells5 BK212.out
          have p214 : 0 ≤ (x3_2 : Int) := oD yA
          have q214 : x3_2 < (l0_4.length : Int) := oD yA
          obtain ⟨ad214, e214, hx214_0, hx214_1, hx214_2, hx214_3, hx214_4, hx214_5, hx214_6, hx214_7⟩ := at_T54 HR0_4.out x3_2 p214 q214
          cases e214
          replace hx214_0 := pw_cell_below HB.out hx214_0
          replace hx214_1 := pw_cell_below HB.out hx214_1
          replace hx214_2 := pw_cell_below HB.out hx214_2
          replace hx214_3 := pw_cell_below HB.out hx214_3
          replace hx214_4 := pw_cell_below HB.out hx214_4
          replace hx214_5 := pw_cell_below HB.out hx214_5
          replace hx214_6 := pw_cell_below HB.out hx214_6
          replace hx214_7 := pw_cell_below HB.out hx214_7
          replace p214 := eq_true p214
          replace q214 := eq_true q214
          go_wp2_with (first | ((with_reducible refine gate_callee (f := 38) rfl ?_); refine yC 27 Tryd.func38 #[.string ((rd_T54 l0_4 x3_2).f1)] rfl ?_; (with_reducible refine (haulagelaw08_short.calls ((rd_T54 l0_4 x3_2).f1) true _ A11.out).mono ?_); rintro e w' ⟨rfl, ⟨nd, rfl⟩⟩; refine ⟨_, rfl, ?_⟩; have p216 : 0 ≤ (x3_2 : Int) := oD yA; have q216 : x3_2 < (l0_4.length : Int) := oD yA; obtain ⟨ad216, e216, hx216_0, hx216_1, hx216_2, hx216_3, hx216_4, hx216_5, hx216_6, hx216_7⟩ := at_T54 HR0_4.out x3_2 p216 q216; obtain rfl : ad214 = ad216 := (by injection e216); replace hx216_0 := pw_cell_below HB.out hx216_0; replace hx216_1 := pw_cell_below HB.out hx216_1; replace hx216_2 := pw_cell_below HB.out hx216_2; replace hx216_3 := pw_cell_below HB.out hx216_3; replace hx216_4 := pw_cell_below HB.out hx216_4; replace hx216_5 := pw_cell_below HB.out hx216_5; replace hx216_6 := pw_cell_below HB.out hx216_6; replace hx216_7 := pw_cell_below HB.out hx216_7; replace p216 := eq_true p216; replace q216 := eq_true q216) | (go_at_call 38; (with_reducible refine (haulagelaw08_short.calls ((rd_T54 l0_4 x3_2).f4.f2) false _ A13.out).mono ?_); rintro e w' ⟨rfl, ⟨nd, rfl⟩⟩))
          go_ret
          exact ⟨yE, yG1 HB GE212.out⟩
        ·
         replace c12 := Bool.eq_false_iff.mpr c12
         subst c12
         have H1 : (some false) = some r := by rw [if_neg (show ¬ (false = true) by decide)] at H; exact H
         clear H
         have H := H1
         clear H1
         obtain rfl := Option.some.inj H
         obtain ⟨hcz17_0, hcz17_1, hcz17_2, hcz17_3, hcz17_4, hfz17_0, hfz17_1, hfz17_2, hfz17_3, hfz17_4⟩ := cells5 BK212.out
         have p214 : 0 ≤ (x3_2 : Int) := oD yA
         have q214 : x3_2 < (l0_4.length : Int) := oD yA
         obtain ⟨ad214, e214, hx214_0, hx214_1, hx214_2, hx214_3, hx214_4, hx214_5, hx214_6, hx214_7⟩ := at_T54 HR0_4.out x3_2 p214 q214
         cases e214
         replace hx214_0 := pw_cell_below HB.out hx214_0
         replace hx214_1 := pw_cell_below HB.out hx214_1
         replace hx214_2 := pw_cell_below HB.out hx214_2
         replace hx214_3 := pw_cell_below HB.out hx214_3
         replace hx214_4 := pw_cell_below HB.out hx214_4
         replace hx214_5 := pw_cell_below HB.out hx214_5
         replace hx214_6 := pw_cell_below HB.out hx214_6
         replace hx214_7 := pw_cell_below HB.out hx214_7
         replace p214 := eq_true p214
         replace q214 := eq_true q214
         go_wp2_with (first | ((with_reducible refine gate_callee (f := 38) rfl ?_); refine yC 27 Tryd.func38 #[.string ((rd_T54 l0_4 x3_2).f1)] rfl ?_; (with_reducible refine (haulagelaw08_short.calls ((rd_T54 l0_4 x3_2).f1) false _ A11.out).mono ?_); rintro e w' ⟨rfl, ⟨nd, rfl⟩⟩; refine ⟨_, rfl, ?_⟩))
         go_ret
         exact ⟨yE, yG1 HB GE212.out⟩
       ·
        rw [if_neg c10] at H
        exact absurd H (by simp)
      ·
       rw [if_neg c9] at H
       have c9b0 : decide (x3_2 < (l0_4.length : Int)) = false := decide_eq_false c9
       clear c9
       obtain rfl := Option.some.inj H
       obtain ⟨hcz18_0, hcz18_1, hcz18_2, hcz18_3, hcz18_4, hfz18_0, hfz18_1, hfz18_2, hfz18_3, hfz18_4⟩ := cells5 BK212.out
       go_wp2
       go_ret
       exact ⟨yE, yG1 HB GE212.out⟩
end Go.Proofs.YtdeophpjammbpaaDoor.HSchemaRight

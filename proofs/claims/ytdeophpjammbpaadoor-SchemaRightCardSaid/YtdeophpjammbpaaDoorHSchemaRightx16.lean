/- For Go functions that SchemaRight reaches: Lean functions, and walks that show that each call comes to what its Lean function tells; no condition but those that each theorem states. (Made by a program of this session over the kit's print.py.) -/
import Derived.Test.YtdeophpjammbpaaDoorHSchemaRightx0
import Derived.Test.YtdeophpjammbpaaDoorHSchemaRightx14
import Derived.Test.YtdeophpjammbpaaDoorHSchemaRightx15
namespace Go.Proofs.YtdeophpjammbpaaDoor.HSchemaRight
open Go.RowKit Go.Proofs.YtdeophpjammbpaaDoorW.PrintWords Go.Proofs.YtdeophpjammbpaaDoorW.PrintLast Go.Proofs.YtdeophpjammbpaaDoorW.PrintMore
attribute [local go_sem] max2_int min2_int max_two min_two max_three min_three max_four min_four   -- for this text's walks alone
set_option linter.unusedVariables false
set_option linter.unusedSimpArgs false
attribute [local go_sem] hp_s8 hp_s16 hp_s32 hp_s64 hp_m8 hp_m16 hp_m32 hp_m64
/-! ### haulageref08_Right: function 31 -/
mutual
def haulageref08_Right.l0 : Nat → Int → List (S24) → Option (Bool)
 | 0, _, _ => none
 | k + 1, x3, x285000 => if x3 < (x285000.length : Int) then (if 0 ≤ x3 then ((haulageref08_Table.f k ((rd_T24 x285000 x3).f0) ((rd_T24 x285000 x3).f1) ((rd_T24 x285000 x3).f2) ((rd_T24 x285000 x3).f3) ((rd_T24 x285000 x3).f4)).bind fun t287 => (if t287 = true then (if x3 > 0 then (if 0 ≤ (wrap64 (x3 - 1)) then (if (wrap64 (x3 - 1)) < (x285000.length : Int) then (if ((rd_T24 x285000 x3).f0) ≤ ((rd_T24 x285000 (wrap64 (x3 - 1))).f0) then (haulageref08_Right.j1 k x3 true x285000) else ((haulageref08_Find.f k x285000 ((rd_T24 x285000 x3).f1)).bind fun t289 => (haulageref08_Right.j1 k x3 (t289 != x3) x285000))) else (none)) else (none)) else ((haulageref08_Find.f k x285000 ((rd_T24 x285000 x3).f1)).bind fun t290 => (haulageref08_Right.j1 k x3 (t290 != x3) x285000))) else (haulageref08_Right.j1 k x3 true x285000))) else (none)) else (some true)
def haulageref08_Right.j1 : Nat → Int → Bool → List (S24) → Option (Bool)
 | 0, _, _, _ => none
 | k + 1, x3, x47, x285000 => if x47 = true then (some false) else (haulageref08_Right.l0 k (wrap64 (x3 + 1)) x285000)
end
def haulageref08_Right.f (k : Nat) (l0_0 : List (S24)) : Option (Bool) := if (l0_0.length : Int) > 6 then (some false) else (haulageref08_Right.l0 k 0 l0_0)
theorem haulageref08_Right.mono_l : ∀ k, (∀ y0 y1, LeO (haulageref08_Right.l0 k y0 y1) (haulageref08_Right.l0 (k + 1) y0 y1)) ∧ (∀ y0 y1 y2, LeO (haulageref08_Right.j1 k y0 y1 y2) (haulageref08_Right.j1 (k + 1) y0 y1 y2))
 | 0 => ⟨fun _ _ r h => by simp [haulageref08_Right.l0] at h, fun _ _ _ r h => by simp [haulageref08_Right.j1] at h⟩
 | k + 1 => by
  obtain ⟨ih0, ih1⟩ := haulageref08_Right.mono_l k
  refine ⟨?_, ?_⟩
  ·
   intro y0 y1
   unfold haulageref08_Right.l0
   repeat' first
   | (with_reducible exact ih0 _ _)
   | (with_reducible exact ih1 _ _ _)
   | (with_reducible exact haulageref08_Find.mono _ _ _)
   | (with_reducible exact haulageref08_Table.mono _ _ _ _ _ _)
   | (with_reducible exact LeO.refl _)
   | (with_reducible exact LeO.none _)
   | (with_reducible refine LeO.ite ?_ ?_)
   | (with_reducible refine LeO.bind ?_ (fun _ => ?_))
   | exact ih0 _ _
   | exact ih1 _ _ _
   | exact haulageref08_Find.mono _ _ _
   | exact haulageref08_Table.mono _ _ _ _ _ _
   | exact LeO.none _
   | refine LeO.ite ?_ ?_
   | refine LeO.bind ?_ (fun _ => ?_)
  ·
   intro y0 y1 y2
   unfold haulageref08_Right.j1
   repeat' first
   | (with_reducible exact ih0 _ _)
   | (with_reducible exact ih1 _ _ _)
   | (with_reducible exact haulageref08_Find.mono _ _ _)
   | (with_reducible exact haulageref08_Table.mono _ _ _ _ _ _)
   | (with_reducible exact LeO.refl _)
   | (with_reducible exact LeO.none _)
   | (with_reducible refine LeO.ite ?_ ?_)
   | (with_reducible refine LeO.bind ?_ (fun _ => ?_))
   | exact ih0 _ _
   | exact ih1 _ _ _
   | exact haulageref08_Find.mono _ _ _
   | exact haulageref08_Table.mono _ _ _ _ _ _
   | exact LeO.none _
   | refine LeO.ite ?_ ?_
   | refine LeO.bind ?_ (fun _ => ?_)
theorem haulageref08_Right.mono : ∀ a0 k, LeO (haulageref08_Right.f k a0) (haulageref08_Right.f (k + 1) a0) := by
 intro a0 k
 obtain ⟨ih0, ih1⟩ := haulageref08_Right.mono_l k
 unfold haulageref08_Right.f
 repeat' first
   | (with_reducible exact ih0 _ _)
   | (with_reducible exact ih1 _ _ _)
   | (with_reducible exact haulageref08_Find.mono _ _ _)
   | (with_reducible exact haulageref08_Table.mono _ _ _ _ _ _)
   | (with_reducible exact LeO.refl _)
   | (with_reducible exact LeO.none _)
   | (with_reducible refine LeO.ite ?_ ?_)
   | (with_reducible refine LeO.bind ?_ (fun _ => ?_))
   | exact ih0 _ _
   | exact ih1 _ _ _
   | exact haulageref08_Find.mono _ _ _
   | exact haulageref08_Table.mono _ _ _ _ _ _
   | exact LeO.none _
   | refine LeO.ite ?_ ?_
   | refine LeO.bind ?_ (fun _ => ?_)
def haulageref08_Right.T7 : Bool × List (List Nat × List Nat) := (true, [([], []), ([0], [0]), ([1], [1]), ([2, 1], [2]), ([3], [3]), ([4, 3], [3, 4]), ([5, 3, 3], [3, 5]), ([6], [6]), ([7, 6], [6, 7]), ([6], [6]), ([9, 6], [6, 9]), ([6], [6]), ([11, 6], [6, 11]), ([10, 12, 6], [6, 10, 12]), ([13, 6], [6, 13]), ([14, 6], [6, 14]), ([8, 15, 6], [6, 8, 15]), ([6, 16, 3], [3, 6, 16]), ([3, 17], [3, 17]), ([18, 6], [18]), ([19], [19]), ([19], [19]), ([21, 19], [19, 21]), ([20, 22, 19, 19], [19, 20, 22]), ([19], [19]), ([23, 24, 19], [19, 23, 24]), ([19, 25], [19, 25])])
def haulageref08_Right.B7 : List Nat := [0, 1, 3, 7, 15, 31, 63, 127, 255, 127, 639, 127, 2175, 7807, 15999, 32383, 65535, 131071, 262143, 524287, 1048575, 1048575, 3145727, 8388607, 1048575, 33554431, 67108863]
theorem haulageref08_Right.tab7 : rtab .any (opsOf Tryd.f31 7) = haulageref08_Right.T7 := by kernel_rfl
theorem haulageref08_Right.bits7 : waitsOk haulageref08_Right.T7.2 haulageref08_Right.B7 = true := by kernel_rfl
set_option maxHeartbeats 8000000 in
set_option maxRecDepth 100000 in
theorem haulageref08_Right.calls (k : Nat) (A0_0 : Option Addr) (c0_0 : Nat) (l0_0 : List (S24)) (r : Bool) (w : World) (hr0_0 : Kd.C k24 w A0_0 l0_0.length l0_0) (hc0_0 : l0_0.length ≤ c0_0) (h : haulageref08_Right.f k l0_0 = some r) :
  Calls Tryd.prog 31 #[.agg #[.slice A0_0 l0_0.length c0_0]] w fun e w' => e = .returned (.bool r) ∧ Below w.heap.size w w' := by
 have hu46 := Tryd.underlying46
 have hu24 := Tryd.underlying24
 have HR0_0 := aM hr0_0
 have HC0_0 := aM hc0_0
 clear hr0_0 hc0_0
 have HB := aM (Below.refl w.heap.size w)
 have H : (if (l0_0.length : Int) > 6 then (some false) else (haulageref08_Right.l0 k 0 l0_0)) = some r := h
 clear h
 by_cases c2 : (l0_0.length : Int) > 6
 ·
  rw [if_pos c2] at H
  have c2b0 : decide (6 < (l0_0.length : Int)) = true := decide_eq_true c2
  have c2b1 : decide (6 < l0_0.length) = true := decide_eq_true (by omega)
  clear c2
  obtain rfl := Option.some.inj H
  go_enter Tryd.func31, Tryd.ntmps31
  go_wp2_with (first | ((with_reducible refine gate_dst (N := 1) rfl ?_); refine yX (N := 1) (cs := #[.slice A0_0 l0_0.length c0_0]) (t := 46) ?_; intro gb284 hg w3 hbox hb; have BK284 := aM (hbox); have GW284 := yZ hg (yB HB); have GE284 := yZ hg (yB HB); replace HB := aM (bP (yB HB) hb); clear hb hbox hg; obtain ⟨hcz4_0, hfz4_0⟩ := cells1 BK284.out))
  go_ret
  exact ⟨yE, yG1 HB GE284.out⟩
 ·
  rw [if_neg c2] at H
  have c2b0 : decide (6 < (l0_0.length : Int)) = false := decide_eq_false c2
  have c2b1 : decide (6 < l0_0.length) = false := decide_eq_false (by omega)
  clear c2
  have H' := aM H
  clear H
  go_enter Tryd.func31, Tryd.ntmps31
  go_wp2_with (first | ((with_reducible refine gate_dst (N := 1) rfl ?_); refine yX (N := 1) (cs := #[.slice A0_0 l0_0.length c0_0]) (t := 46) ?_; intro gb284 hg w5 hbox hb; have BK284 := aM (hbox); have GW284 := yZ hg (yB HB); have GE284 := yZ hg (yB HB); replace HB := aM (bP (yB HB) hb); clear hb hbox hg; obtain ⟨hcz6_0, hfz6_0⟩ := cells1 BK284.out))
  go_loopg [3] k (fun kq v3 w' => ∃ (x3_1 : Int), v3 = .int .i64 x3_1 ∧ Aside0 (haulageref08_Right.l0 kq x3_1 l0_0 = some r) ∧ Aside0 (kq ≤ k) ∧ Aside0 (w'.heap[gb284]? = some (.cells #[(.slice A0_0 l0_0.length c0_0)] 46 (0, 0))) ∧ Aside0 (Below w.heap.size w w'))
  case atStart => exact ⟨(0), yS, H', ⟨Nat.le_refl _⟩, ⟨yK BK284⟩, ⟨yG1 HB GE284.out⟩⟩
  case round =>
   clear H'
   try clear c2
   try clear c2b0
   try clear c2b1
   try clear p2
   try clear c3
   try clear hcz4_0
   try clear hcz6_0
   try clear hfz4_0
   try clear hfz6_0
   obtain ⟨x3_1, rfl, HA, HK1, BK284, HB⟩ := hrel
   cases gk with
   | zero => exact absurd HA.out (by simp [haulageref08_Right.l0])
   | succ k1 =>
    have H := HA.out
    clear HA
    simp only [haulageref08_Right.l0] at H
    by_cases c7 : x3_1 < (l0_0.length : Int)
    ·
     rw [if_pos c7] at H
     have c7b0 : decide (x3_1 < (l0_0.length : Int)) = true := decide_eq_true c7
     clear c7
     by_cases c8 : 0 ≤ x3_1
     ·
      rw [if_pos c8] at H
      have c8b0 : decide (0 ≤ x3_1) = true := decide_eq_true c8
      clear c8
      have HC9 := aM H
      clear H
      obtain ⟨hcz10_0, hfz10_0⟩ := cells1 BK284.out
      have p285 : 0 ≤ (x3_1 : Int) := oD yA
      have q285 : x3_1 < (l0_0.length : Int) := oD yA
      obtain ⟨ad285, A285_4, c285_4, e285, hx285_0, hx285_1, hx285_2, hx285_3, hx285_4, hl285_4, hi285_4⟩ := at_T24 HR0_0.out x3_1 p285 q285
      cases e285
      replace hx285_0 := pw_cell_below HB.out hx285_0
      replace hx285_1 := pw_cell_below HB.out hx285_1
      replace hx285_2 := pw_cell_below HB.out hx285_2
      replace hx285_3 := pw_cell_below HB.out hx285_3
      replace hx285_4 := pw_cell_below HB.out hx285_4
      have HR285_4 := aM hi285_4
      have HC285_4 := aM hl285_4
      clear hi285_4 hl285_4
      replace p285 := eq_true p285
      replace q285 := eq_true q285
      go_upto_region 7 with (first | ((with_reducible refine gate_dst (N := 4) rfl ?_); refine yX (N := 4) (cs := #[.int .i64 0, .string (⟨#[]⟩ : ByteArray), .int .i64 0, .int .i64 0, .slice none 0 0]) (t := 24) ?_; intro gb286 hg w11 hbox hb; have BK286 := aM (hbox); have GW286 := yZ hg (yG1 HB GE284.out); have GE286 := yZ hg (yG1 HB GE284.out); replace HB := aM (bP (yG1 HB GE284.out) hb); have NB284_286 := yN hg (yK BK284); have NB286_284 := yM hg (yK BK284); replace BK284 := aM (kB (yK BK284) hb); clear hb hbox hg; have hnb12 := NB286_284.out; have hnc12 := NB284_286.out; obtain ⟨hcz13_0, hcz13_1, hcz13_2, hcz13_3, hcz13_4, hfz13_0, hfz13_1, hfz13_2, hfz13_3, hfz13_4⟩ := cells5 BK286.out))
      (try simp only [Act.put, s1_, s2_, s3_])
      go_cut [47] (fun v47 wc => ∃ (kq : Nat) (x47_8 : Bool), v47 = .bool x47_8 ∧ Aside0 (haulageref08_Right.j1 kq x3_1 x47_8 l0_0 = some r) ∧ Aside0 (kq ≤ k1) ∧ Aside0 (wc.heap[gb284]? = some (.cells #[(.slice (some ad285) l0_0.length c0_0)] 46 (0, 0))) ∧ Aside0 (wc.heap[gb286]? = some (.cells #[.int .i64 ((rd_T24 l0_0 x3_1).f0), .string ((rd_T24 l0_0 x3_1).f1), .int .i64 ((rd_T24 l0_0 x3_1).f2), .int .i64 ((rd_T24 l0_0 x3_1).f3), (.slice A285_4 ((rd_T24 l0_0 x3_1).f4).length c285_4)] 24 (0, 0))) ∧ Aside0 (Below w.heap.size w wc))
      case first =>
       have H := HC9.out
       clear HC9
       replace H := Option.bind_eq_some_iff.mp H
       obtain ⟨t287, A140, H⟩ := H
       replace H : (if t287 = true then (if x3_1 > 0 then (if 0 ≤ (wrap64 (x3_1 - 1)) then (if (wrap64 (x3_1 - 1)) < (l0_0.length : Int) then (if ((rd_T24 l0_0 x3_1).f0) ≤ ((rd_T24 l0_0 (wrap64 (x3_1 - 1))).f0) then (haulageref08_Right.j1 k1 x3_1 true l0_0) else ((haulageref08_Find.f k1 l0_0 ((rd_T24 l0_0 x3_1).f1)).bind fun t289 => (haulageref08_Right.j1 k1 x3_1 (t289 != x3_1) l0_0))) else (none)) else (none)) else ((haulageref08_Find.f k1 l0_0 ((rd_T24 l0_0 x3_1).f1)).bind fun t290 => (haulageref08_Right.j1 k1 x3_1 (t290 != x3_1) l0_0))) else (haulageref08_Right.j1 k1 x3_1 true l0_0)) = some r := H
       have A14 := aM A140
       clear A140
       by_cases c15 : t287 = true
       ·
        subst c15
        have H1 : (if x3_1 > 0 then (if 0 ≤ (wrap64 (x3_1 - 1)) then (if (wrap64 (x3_1 - 1)) < (l0_0.length : Int) then (if ((rd_T24 l0_0 x3_1).f0) ≤ ((rd_T24 l0_0 (wrap64 (x3_1 - 1))).f0) then (haulageref08_Right.j1 k1 x3_1 true l0_0) else ((haulageref08_Find.f k1 l0_0 ((rd_T24 l0_0 x3_1).f1)).bind fun t289 => (haulageref08_Right.j1 k1 x3_1 (t289 != x3_1) l0_0))) else (none)) else (none)) else ((haulageref08_Find.f k1 l0_0 ((rd_T24 l0_0 x3_1).f1)).bind fun t290 => (haulageref08_Right.j1 k1 x3_1 (t290 != x3_1) l0_0))) = some r := by rw [if_pos rfl] at H; exact H
        clear H
        have H := H1
        clear H1
        by_cases c16 : x3_1 > 0
        ·
         rw [if_pos c16] at H
         have c16b0 : decide (0 < x3_1) = true := decide_eq_true c16
         clear c16
         (first | rw [c16b0] | (simp only [i64_w, i32_w]; rw [c16b0]) | skip)
         obtain ⟨ji17, hji17⟩ : ∃ j_ : Int, (wrap64 (x3_1 - 1)) = j_ := ⟨_, rfl⟩
         replace H : (if 0 ≤ (ji17) then (if (ji17) < (l0_0.length : Int) then (if ((rd_T24 l0_0 x3_1).f0) ≤ ((rd_T24 l0_0 (ji17)).f0) then (haulageref08_Right.j1 k1 x3_1 true l0_0) else ((haulageref08_Find.f k1 l0_0 ((rd_T24 l0_0 x3_1).f1)).bind fun t289 => (haulageref08_Right.j1 k1 x3_1 (t289 != x3_1) l0_0))) else (none)) else (none)) = some r := by first | (rw [hji17] at H; exact H) | (simp only [hji17] at H ⊢; exact H)
         (try rw [hji17] at A14)
         have hji17w : (IntKind.i64.wrap (x3_1 - 1)) = ji17 := (i64_w _).trans hji17
         by_cases c18 : 0 ≤ (ji17)
         ·
          rw [if_pos c18] at H
          have c18b0 : decide (0 ≤ (ji17)) = true := decide_eq_true c18
          clear c18
          by_cases c19 : (ji17) < (l0_0.length : Int)
          ·
           rw [if_pos c19] at H
           have c19b0 : decide ((ji17) < (l0_0.length : Int)) = true := decide_eq_true c19
           clear c19
           by_cases c20 : ((rd_T24 l0_0 x3_1).f0) ≤ ((rd_T24 l0_0 (ji17)).f0)
           ·
            rw [if_pos c20] at H
            have c20b0 : decide (((rd_T24 l0_0 x3_1).f0) ≤ ((rd_T24 l0_0 (ji17)).f0)) = true := decide_eq_true c20
            clear c20
            have H' := aM H
            clear H
            try go_wp2
            have n0_ : Aside0 ((((((w11.setCell ⟨gb286, 0, none⟩ (.int .i64 ((rd_T24 l0_0 x3_1).f0))).setCell ⟨gb286, 1, none⟩ (.string ((rd_T24 l0_0 x3_1).f1))).setCell ⟨gb286, 2, none⟩ (.int .i64 ((rd_T24 l0_0 x3_1).f2))).setCell ⟨gb286, 3, none⟩ (.int .i64 ((rd_T24 l0_0 x3_1).f3))).setCell ⟨gb286, 4, none⟩ (.slice A285_4 ((rd_T24 l0_0 x3_1).f4).length c285_4)).heap[gb284]? = some (.cells #[.slice (some ad285) l0_0.length c0_0] 46 (0, 0))) := ⟨yF1 BK284 NB284_286.out⟩
            have n1_ : Aside0 ((((((w11.setCell ⟨gb286, 0, none⟩ (.int .i64 ((rd_T24 l0_0 x3_1).f0))).setCell ⟨gb286, 1, none⟩ (.string ((rd_T24 l0_0 x3_1).f1))).setCell ⟨gb286, 2, none⟩ (.int .i64 ((rd_T24 l0_0 x3_1).f2))).setCell ⟨gb286, 3, none⟩ (.int .i64 ((rd_T24 l0_0 x3_1).f3))).setCell ⟨gb286, 4, none⟩ (.slice A285_4 ((rd_T24 l0_0 x3_1).f4).length c285_4)).heap[gb286]? = some (.cells #[.int .i64 ((rd_T24 l0_0 x3_1).f0), .string ((rd_T24 l0_0 x3_1).f1), .int .i64 ((rd_T24 l0_0 x3_1).f2), .int .i64 ((rd_T24 l0_0 x3_1).f3), .slice A285_4 ((rd_T24 l0_0 x3_1).f4).length c285_4] 24 (0, 0))) := ⟨puts5 BK286.out⟩
            have n2_ : Aside0 (Below w.heap.size w (((((w11.setCell ⟨gb286, 0, none⟩ (.int .i64 ((rd_T24 l0_0 x3_1).f0))).setCell ⟨gb286, 1, none⟩ (.string ((rd_T24 l0_0 x3_1).f1))).setCell ⟨gb286, 2, none⟩ (.int .i64 ((rd_T24 l0_0 x3_1).f2))).setCell ⟨gb286, 3, none⟩ (.int .i64 ((rd_T24 l0_0 x3_1).f3))).setCell ⟨gb286, 4, none⟩ (.slice A285_4 ((rd_T24 l0_0 x3_1).f4).length c285_4))) := ⟨yG2 HB GE284.out GE286.out⟩
            (try clear BK284)
            (try clear BK286)
            (try clear HB)
            generalize (((((w11.setCell ⟨gb286, 0, none⟩ (.int .i64 ((rd_T24 l0_0 x3_1).f0))).setCell ⟨gb286, 1, none⟩ (.string ((rd_T24 l0_0 x3_1).f1))).setCell ⟨gb286, 2, none⟩ (.int .i64 ((rd_T24 l0_0 x3_1).f2))).setCell ⟨gb286, 3, none⟩ (.int .i64 ((rd_T24 l0_0 x3_1).f3))).setCell ⟨gb286, 4, none⟩ (.slice A285_4 ((rd_T24 l0_0 x3_1).f4).length c285_4)) = w21 at n0_ n1_ n2_ ⊢
            have BK284 := n0_
            have BK286 := n1_
            have HB := n2_
            clear n0_ n1_ n2_
            have n0_ := aM (kD BK284.out)
            have n1_ := aM (kD BK286.out)
            have n2_ := aM (b1 HB.out)
            clear BK284
            clear BK286
            clear HB
            have BK284 := n0_
            have BK286 := n1_
            have HB := n2_
            clear n0_ n1_ n2_
            have p288 : 0 ≤ ((ji17) : Int) := oD yA
            have q288 : (ji17) < (l0_0.length : Int) := oD yA
            obtain ⟨ad288, A288_4, c288_4, e288, hx288_0, hx288_1, hx288_2, hx288_3, hx288_4, hl288_4, hi288_4⟩ := at_T24 HR0_0.out (ji17) p288 q288
            have hw288_4 := hx288_4
            have hw288_3 := hx288_3
            have hw288_2 := hx288_2
            have hw288_1 := hx288_1
            have hw288_0 := hx288_0
            obtain rfl : ad285 = ad288 := (by injection e288)
            replace hx288_0 := pw_cell_below HB.out hx288_0
            replace hx288_1 := pw_cell_below HB.out hx288_1
            replace hx288_2 := pw_cell_below HB.out hx288_2
            replace hx288_3 := pw_cell_below HB.out hx288_3
            replace hx288_4 := pw_cell_below HB.out hx288_4
            have HR288_4 := aM hi288_4
            have HC288_4 := aM hl288_4
            clear hi288_4 hl288_4
            replace p288 := eq_true p288
            replace q288 := eq_true q288
            refine start_ (n := 27) (S := fun w' => w'.cell? ⟨gb286, 0, none⟩ = some (.int .i64 ((rd_T24 l0_0 x3_1).f0)) ∧ w'.cell? ⟨gb286, 1, none⟩ = some (.string ((rd_T24 l0_0 x3_1).f1)) ∧ w'.cell? ⟨gb286, 2, none⟩ = some (.int .i64 ((rd_T24 l0_0 x3_1).f2)) ∧ w'.cell? ⟨gb286, 3, none⟩ = some (.int .i64 ((rd_T24 l0_0 x3_1).f3)) ∧ w'.cell? ⟨gb286, 4, none⟩ = some (.slice A285_4 ((rd_T24 l0_0 x3_1).f4).length c285_4) ∧ w'.cell? ⟨gb284, 0, none⟩ = some (.slice (some ad285) l0_0.length c0_0) ∧ w'.cell? (ad285.add (((ji17)).toNat * 5)) = some (.int .i64 ((rd_T24 l0_0 (ji17)).f0)) ∧ w'.cell? ⟨(ad285.add (((ji17)).toNat * 5)).block, (ad285.add (((ji17)).toNat * 5)).off + 1, none⟩ = some (.string ((rd_T24 l0_0 (ji17)).f1)) ∧ w'.cell? ⟨(ad285.add (((ji17)).toNat * 5)).block, (ad285.add (((ji17)).toNat * 5)).off + 2, none⟩ = some (.int .i64 ((rd_T24 l0_0 (ji17)).f2)) ∧ w'.cell? ⟨(ad285.add (((ji17)).toNat * 5)).block, (ad285.add (((ji17)).toNat * 5)).off + 3, none⟩ = some (.int .i64 ((rd_T24 l0_0 (ji17)).f3)) ∧ w'.cell? ⟨(ad285.add (((ji17)).toNat * 5)).block, (ad285.add (((ji17)).toNat * 5)).off + 4, none⟩ = some (.slice A288_4 ((rd_T24 l0_0 (ji17)).f4).length c288_4)) (ds := []) (tB 0 27) (by kernel_rfl) rfl rfl ⟨yV BK286 0, yV BK286 1, yV BK286 2, yV BK286 3, yV BK286 4, yV BK284 0, (pw_cell_below HB.out hw288_0), (pw_cell_below HB.out hw288_1), (pw_cell_below HB.out hw288_2), (pw_cell_below HB.out hw288_3), (pw_cell_below HB.out hw288_4)⟩ (fun hHeld => ?_); refine with_tabW haulageref08_Right.tab7 haulageref08_Right.bits7 (fun HT_ HW_ => ?_)
            generalize w21.drew = w22 at BK284 BK286 HB HR288_4 hx288_0 hx288_1 hx288_2 hx288_3 hx288_4 hHeld ⊢
            refine yT HT_ HW_ 0 21 (tB 1 27) rfl rfl hHeld ?_
            refine yI HT_ 1 (tB 3 27) rfl rfl fun K hK => ?_
            refine yc Tryd.func27 #[.agg #[.int .i64 ((rd_T24 l0_0 x3_1).f0), .string ((rd_T24 l0_0 x3_1).f1), .int .i64 ((rd_T24 l0_0 x3_1).f2), .int .i64 ((rd_T24 l0_0 x3_1).f3), .slice A285_4 ((rd_T24 l0_0 x3_1).f4).length c285_4]] rfl rfl ?_
            with_reducible refine (haulageref08_Table.calls k1 ((rd_T24 l0_0 x3_1).f0) ((rd_T24 l0_0 x3_1).f1) ((rd_T24 l0_0 x3_1).f2) ((rd_T24 l0_0 x3_1).f3) _ _ ((rd_T24 l0_0 x3_1).f4) true _ ?side1 ?side2 A14.out).mono ?_
            (case side1 => exact yW (Kd.C_below HR285_4.out HB.out))
            (case side2 => exact HC285_4.out)
            rintro e w23 ⟨rfl, hb⟩
            refine ⟨_, rfl, ?_⟩
            have n0_ := aM (kB (yK BK284) hb)
            have n1_ := aM (kB (yK BK286) hb)
            have n2_ := aM (bP (yG2 HB GE284.out GE286.out) hb)
            clear BK284
            clear BK286
            clear HB
            have BK284 := n0_
            have BK286 := n1_
            have HB := n2_
            clear n0_ n1_ n2_
            (try clear hb)
            (try clear hb2)
            (try clear hk)
            (try clear hi)
            refine hK.out _ _ ⟨yV BK286 0, yV BK286 1, yV BK286 2, yV BK286 3, yV BK286 4, yV BK284 0, (pw_cell_below HB.out hw288_0), (pw_cell_below HB.out hw288_1), (pw_cell_below HB.out hw288_2), (pw_cell_below HB.out hw288_3), (pw_cell_below HB.out hw288_4)⟩ (fun hHeld => ?_)
            clear hK K
            refine norm_ (a' := ?_) ?_ ?_
            rotate_left
            ·
             show Act.put _ (some 22) _ = _
             simp only [Act.put, s1_, s2_, s3_, i64_w, i32_w]
             rfl
            refine yP HT_ 2 23 (tB 7 27) rfl rfl ?_
            refine yP HT_ 3 24 (tB 15 27) rfl rfl ?_
            refine yP HT_ 4 25 (tB 31 27) rfl rfl ?_
            refine yP HT_ 5 26 (tB 63 27) rfl rfl ?_
            refine yP HT_ 6 27 (tB 127 27) rfl rfl ?_
            refine yP HT_ 7 28 (tB 255 27) rfl rfl ?_
            refine yP HT_ 9 30 (tB 767 27) rfl rfl ?_
            refine yP HT_ 11 32 (tB 2815 27) rfl rfl ?_
            refine yP HT_ 12 33 (tB 6911 27) rfl rfl ?_
            refine yT HT_ HW_ 8 29 (tB 7167 27) rfl rfl hHeld ?_
            refine yT HT_ HW_ 10 31 (tB 8191 27) rfl rfl hHeld ?_
            refine yP HT_ 13 34 (tB 16383 27) rfl rfl ?_
            refine yP HT_ 14 35 (tB 32767 27) rfl rfl ?_
            refine yT HT_ HW_ 15 36 (tB 65535 27) rfl rfl hHeld ?_
            refine yP HT_ 16 37 (tB 131071 27) rfl rfl ?_
            refine yP HT_ 17 38 (tB 262143 27) rfl rfl ?_
            refine yP HT_ 18 39 (tB 524287 27) rfl rfl ?_
            refine yP HT_ 19 40 (tB 1048575 27) rfl rfl ?_
            refine yU HT_ 20 41 (tB 2097151 27) rfl rfl ?_
            refine yU HT_ 21 42 (tB 4194303 27) rfl rfl ?_
            refine yU HT_ 22 43 (tB 8388607 27) rfl rfl ?_
            refine yU HT_ 23 44 (tB 16777215 27) rfl rfl ?_
            refine yU HT_ 24 45 (tB 33554431 27) rfl rfl ?_
            refine yU HT_ 25 46 (tB 67108863 27) rfl rfl ?_
            refine yP HT_ 26 47 (tB 134217727 27) rfl rfl ?_
            refine done_ (done_of HT_.out (by kernel_rfl)) ?_
            try go_wp2
            go_meet
            case rel => exact ⟨_, (true), yS, H', ⟨by have := HK1.out; first | omega | exact Nat.le_refl _⟩, ⟨yK BK284⟩, ⟨yK BK286⟩, ⟨yG2 HB GE284.out GE286.out⟩⟩
           ·
            rw [if_neg c20] at H
            have c20b0 : decide (((rd_T24 l0_0 x3_1).f0) ≤ ((rd_T24 l0_0 (ji17)).f0)) = false := decide_eq_false c20
            clear c20
            replace H := Option.bind_eq_some_iff.mp H
            obtain ⟨t289, A240, H⟩ := H
            replace H : (haulageref08_Right.j1 k1 x3_1 (t289 != x3_1) l0_0) = some r := H
            have A24 := aM A240
            clear A240
            have H' := aM H
            clear H
            try go_wp2
            have n0_ : Aside0 ((((((w11.setCell ⟨gb286, 0, none⟩ (.int .i64 ((rd_T24 l0_0 x3_1).f0))).setCell ⟨gb286, 1, none⟩ (.string ((rd_T24 l0_0 x3_1).f1))).setCell ⟨gb286, 2, none⟩ (.int .i64 ((rd_T24 l0_0 x3_1).f2))).setCell ⟨gb286, 3, none⟩ (.int .i64 ((rd_T24 l0_0 x3_1).f3))).setCell ⟨gb286, 4, none⟩ (.slice A285_4 ((rd_T24 l0_0 x3_1).f4).length c285_4)).heap[gb284]? = some (.cells #[.slice (some ad285) l0_0.length c0_0] 46 (0, 0))) := ⟨yF1 BK284 NB284_286.out⟩
            have n1_ : Aside0 ((((((w11.setCell ⟨gb286, 0, none⟩ (.int .i64 ((rd_T24 l0_0 x3_1).f0))).setCell ⟨gb286, 1, none⟩ (.string ((rd_T24 l0_0 x3_1).f1))).setCell ⟨gb286, 2, none⟩ (.int .i64 ((rd_T24 l0_0 x3_1).f2))).setCell ⟨gb286, 3, none⟩ (.int .i64 ((rd_T24 l0_0 x3_1).f3))).setCell ⟨gb286, 4, none⟩ (.slice A285_4 ((rd_T24 l0_0 x3_1).f4).length c285_4)).heap[gb286]? = some (.cells #[.int .i64 ((rd_T24 l0_0 x3_1).f0), .string ((rd_T24 l0_0 x3_1).f1), .int .i64 ((rd_T24 l0_0 x3_1).f2), .int .i64 ((rd_T24 l0_0 x3_1).f3), .slice A285_4 ((rd_T24 l0_0 x3_1).f4).length c285_4] 24 (0, 0))) := ⟨puts5 BK286.out⟩
            have n2_ : Aside0 (Below w.heap.size w (((((w11.setCell ⟨gb286, 0, none⟩ (.int .i64 ((rd_T24 l0_0 x3_1).f0))).setCell ⟨gb286, 1, none⟩ (.string ((rd_T24 l0_0 x3_1).f1))).setCell ⟨gb286, 2, none⟩ (.int .i64 ((rd_T24 l0_0 x3_1).f2))).setCell ⟨gb286, 3, none⟩ (.int .i64 ((rd_T24 l0_0 x3_1).f3))).setCell ⟨gb286, 4, none⟩ (.slice A285_4 ((rd_T24 l0_0 x3_1).f4).length c285_4))) := ⟨yG2 HB GE284.out GE286.out⟩
            (try clear BK284)
            (try clear BK286)
            (try clear HB)
            generalize (((((w11.setCell ⟨gb286, 0, none⟩ (.int .i64 ((rd_T24 l0_0 x3_1).f0))).setCell ⟨gb286, 1, none⟩ (.string ((rd_T24 l0_0 x3_1).f1))).setCell ⟨gb286, 2, none⟩ (.int .i64 ((rd_T24 l0_0 x3_1).f2))).setCell ⟨gb286, 3, none⟩ (.int .i64 ((rd_T24 l0_0 x3_1).f3))).setCell ⟨gb286, 4, none⟩ (.slice A285_4 ((rd_T24 l0_0 x3_1).f4).length c285_4)) = w25 at n0_ n1_ n2_ ⊢
            have BK284 := n0_
            have BK286 := n1_
            have HB := n2_
            clear n0_ n1_ n2_
            have n0_ := aM (kD BK284.out)
            have n1_ := aM (kD BK286.out)
            have n2_ := aM (b1 HB.out)
            clear BK284
            clear BK286
            clear HB
            have BK284 := n0_
            have BK286 := n1_
            have HB := n2_
            clear n0_ n1_ n2_
            have p288 : 0 ≤ ((ji17) : Int) := oD yA
            have q288 : (ji17) < (l0_0.length : Int) := oD yA
            obtain ⟨ad288, A288_4, c288_4, e288, hx288_0, hx288_1, hx288_2, hx288_3, hx288_4, hl288_4, hi288_4⟩ := at_T24 HR0_0.out (ji17) p288 q288
            have hw288_4 := hx288_4
            have hw288_3 := hx288_3
            have hw288_2 := hx288_2
            have hw288_1 := hx288_1
            have hw288_0 := hx288_0
            obtain rfl : ad285 = ad288 := (by injection e288)
            replace hx288_0 := pw_cell_below HB.out hx288_0
            replace hx288_1 := pw_cell_below HB.out hx288_1
            replace hx288_2 := pw_cell_below HB.out hx288_2
            replace hx288_3 := pw_cell_below HB.out hx288_3
            replace hx288_4 := pw_cell_below HB.out hx288_4
            have HR288_4 := aM hi288_4
            have HC288_4 := aM hl288_4
            clear hi288_4 hl288_4
            replace p288 := eq_true p288
            replace q288 := eq_true q288
            refine start_ (n := 27) (S := fun w' => w'.cell? ⟨gb286, 0, none⟩ = some (.int .i64 ((rd_T24 l0_0 x3_1).f0)) ∧ w'.cell? ⟨gb286, 1, none⟩ = some (.string ((rd_T24 l0_0 x3_1).f1)) ∧ w'.cell? ⟨gb286, 2, none⟩ = some (.int .i64 ((rd_T24 l0_0 x3_1).f2)) ∧ w'.cell? ⟨gb286, 3, none⟩ = some (.int .i64 ((rd_T24 l0_0 x3_1).f3)) ∧ w'.cell? ⟨gb286, 4, none⟩ = some (.slice A285_4 ((rd_T24 l0_0 x3_1).f4).length c285_4) ∧ w'.cell? ⟨gb284, 0, none⟩ = some (.slice (some ad285) l0_0.length c0_0) ∧ w'.cell? (ad285.add (((ji17)).toNat * 5)) = some (.int .i64 ((rd_T24 l0_0 (ji17)).f0)) ∧ w'.cell? ⟨(ad285.add (((ji17)).toNat * 5)).block, (ad285.add (((ji17)).toNat * 5)).off + 1, none⟩ = some (.string ((rd_T24 l0_0 (ji17)).f1)) ∧ w'.cell? ⟨(ad285.add (((ji17)).toNat * 5)).block, (ad285.add (((ji17)).toNat * 5)).off + 2, none⟩ = some (.int .i64 ((rd_T24 l0_0 (ji17)).f2)) ∧ w'.cell? ⟨(ad285.add (((ji17)).toNat * 5)).block, (ad285.add (((ji17)).toNat * 5)).off + 3, none⟩ = some (.int .i64 ((rd_T24 l0_0 (ji17)).f3)) ∧ w'.cell? ⟨(ad285.add (((ji17)).toNat * 5)).block, (ad285.add (((ji17)).toNat * 5)).off + 4, none⟩ = some (.slice A288_4 ((rd_T24 l0_0 (ji17)).f4).length c288_4)) (ds := []) (tB 0 27) (by kernel_rfl) rfl rfl ⟨yV BK286 0, yV BK286 1, yV BK286 2, yV BK286 3, yV BK286 4, yV BK284 0, (pw_cell_below HB.out hw288_0), (pw_cell_below HB.out hw288_1), (pw_cell_below HB.out hw288_2), (pw_cell_below HB.out hw288_3), (pw_cell_below HB.out hw288_4)⟩ (fun hHeld => ?_); refine with_tabW haulageref08_Right.tab7 haulageref08_Right.bits7 (fun HT_ HW_ => ?_)
            generalize w25.drew = w26 at BK284 BK286 HB HR288_4 hx288_0 hx288_1 hx288_2 hx288_3 hx288_4 hHeld ⊢
            refine yT HT_ HW_ 0 21 (tB 1 27) rfl rfl hHeld ?_
            refine yI HT_ 1 (tB 3 27) rfl rfl fun K hK => ?_
            refine yc Tryd.func27 #[.agg #[.int .i64 ((rd_T24 l0_0 x3_1).f0), .string ((rd_T24 l0_0 x3_1).f1), .int .i64 ((rd_T24 l0_0 x3_1).f2), .int .i64 ((rd_T24 l0_0 x3_1).f3), .slice A285_4 ((rd_T24 l0_0 x3_1).f4).length c285_4]] rfl rfl ?_
            with_reducible refine (haulageref08_Table.calls k1 ((rd_T24 l0_0 x3_1).f0) ((rd_T24 l0_0 x3_1).f1) ((rd_T24 l0_0 x3_1).f2) ((rd_T24 l0_0 x3_1).f3) _ _ ((rd_T24 l0_0 x3_1).f4) true _ ?side1 ?side2 A14.out).mono ?_
            (case side1 => exact yW (Kd.C_below HR285_4.out HB.out))
            (case side2 => exact HC285_4.out)
            rintro e w27 ⟨rfl, hb⟩
            refine ⟨_, rfl, ?_⟩
            have n0_ := aM (kB (yK BK284) hb)
            have n1_ := aM (kB (yK BK286) hb)
            have n2_ := aM (bP (yG2 HB GE284.out GE286.out) hb)
            clear BK284
            clear BK286
            clear HB
            have BK284 := n0_
            have BK286 := n1_
            have HB := n2_
            clear n0_ n1_ n2_
            (try clear hb)
            (try clear hb2)
            (try clear hk)
            (try clear hi)
            refine hK.out _ _ ⟨yV BK286 0, yV BK286 1, yV BK286 2, yV BK286 3, yV BK286 4, yV BK284 0, (pw_cell_below HB.out hw288_0), (pw_cell_below HB.out hw288_1), (pw_cell_below HB.out hw288_2), (pw_cell_below HB.out hw288_3), (pw_cell_below HB.out hw288_4)⟩ (fun hHeld => ?_)
            clear hK K
            refine norm_ (a' := ?_) ?_ ?_
            rotate_left
            ·
             show Act.put _ (some 22) _ = _
             simp only [Act.put, s1_, s2_, s3_, i64_w, i32_w]
             rfl
            refine yP HT_ 2 23 (tB 7 27) rfl rfl ?_
            refine yP HT_ 3 24 (tB 15 27) rfl rfl ?_
            refine yP HT_ 4 25 (tB 31 27) rfl rfl ?_
            refine yP HT_ 5 26 (tB 63 27) rfl rfl ?_
            refine yP HT_ 6 27 (tB 127 27) rfl rfl ?_
            refine yP HT_ 7 28 (tB 255 27) rfl rfl ?_
            refine yP HT_ 9 30 (tB 767 27) rfl rfl ?_
            refine yP HT_ 11 32 (tB 2815 27) rfl rfl ?_
            refine yP HT_ 12 33 (tB 6911 27) rfl rfl ?_
            refine yT HT_ HW_ 8 29 (tB 7167 27) rfl rfl hHeld ?_
            refine yT HT_ HW_ 10 31 (tB 8191 27) rfl rfl hHeld ?_
            refine yP HT_ 13 34 (tB 16383 27) rfl rfl ?_
            refine yP HT_ 14 35 (tB 32767 27) rfl rfl ?_
            refine yT HT_ HW_ 15 36 (tB 65535 27) rfl rfl hHeld ?_
            refine yP HT_ 16 37 (tB 131071 27) rfl rfl ?_
            refine yP HT_ 17 38 (tB 262143 27) rfl rfl ?_
            refine yP HT_ 18 39 (tB 524287 27) rfl rfl ?_
            refine yP HT_ 19 40 (tB 1048575 27) rfl rfl ?_
            refine yP HT_ 21 42 (tB 3145727 27) rfl rfl ?_
            refine yP HT_ 24 45 (tB 19922943 27) rfl rfl ?_
            refine yT HT_ HW_ 20 41 (tB 20971519 27) rfl rfl hHeld ?_
            refine yT HT_ HW_ 22 43 (tB 25165823 27) rfl rfl hHeld ?_
            refine yI HT_ 23 (tB 33554431 27) rfl rfl fun K hK => ?_
            refine yc Tryd.func42 #[.agg #[.slice (some ad285) l0_0.length c0_0], .string ((rd_T24 l0_0 x3_1).f1)] rfl rfl ?_
            with_reducible refine (haulageref08_Find.calls k1 _ _ l0_0 ((rd_T24 l0_0 x3_1).f1) t289 _ ?side1 ?side2 A24.out).mono ?_
            (case side1 => exact yW (Kd.C_below HR0_0.out HB.out))
            (case side2 => exact HC0_0.out)
            rintro e w28 ⟨rfl, hb⟩
            refine ⟨_, rfl, ?_⟩
            have n0_ := aM (kB (yK BK284) hb)
            have n1_ := aM (kB (yK BK286) hb)
            have n2_ := aM (bP (yG2 HB GE284.out GE286.out) hb)
            clear BK284
            clear BK286
            clear HB
            have BK284 := n0_
            have BK286 := n1_
            have HB := n2_
            clear n0_ n1_ n2_
            (try clear hb)
            (try clear hb2)
            (try clear hk)
            (try clear hi)
            refine hK.out _ _ ⟨yV BK286 0, yV BK286 1, yV BK286 2, yV BK286 3, yV BK286 4, yV BK284 0, (pw_cell_below HB.out hw288_0), (pw_cell_below HB.out hw288_1), (pw_cell_below HB.out hw288_2), (pw_cell_below HB.out hw288_3), (pw_cell_below HB.out hw288_4)⟩ (fun hHeld => ?_)
            clear hK K
            refine norm_ (a' := ?_) ?_ ?_
            rotate_left
            ·
             show Act.put _ (some 44) _ = _
             simp only [Act.put, s1_, s2_, s3_, i64_w, i32_w]
             rfl
            refine yP HT_ 25 46 (tB 67108863 27) rfl rfl ?_
            refine yP HT_ 26 47 (tB 134217727 27) rfl rfl ?_
            refine done_ (done_of HT_.out (by kernel_rfl)) ?_
            try go_wp2
            go_meet
            case rel => exact ⟨_, ((t289 != x3_1)), yS, H', ⟨by have := HK1.out; first | omega | exact Nat.le_refl _⟩, ⟨yK BK284⟩, ⟨yK BK286⟩, ⟨yG2 HB GE284.out GE286.out⟩⟩
          ·
           rw [if_neg c19] at H
           exact absurd H (by simp)
         ·
          rw [if_neg c18] at H
          exact absurd H (by simp)
        ·
         rw [if_neg c16] at H
         have c16b0 : decide (0 < x3_1) = false := decide_eq_false c16
         clear c16
         (first | rw [c16b0] | (simp only [i64_w, i32_w]; rw [c16b0]) | skip)
         replace H := Option.bind_eq_some_iff.mp H
         obtain ⟨t290, A290, H⟩ := H
         replace H : (haulageref08_Right.j1 k1 x3_1 (t290 != x3_1) l0_0) = some r := H
         have A29 := aM A290
         clear A290
         have H' := aM H
         clear H
         try go_wp2
         have n0_ : Aside0 ((((((w11.setCell ⟨gb286, 0, none⟩ (.int .i64 ((rd_T24 l0_0 x3_1).f0))).setCell ⟨gb286, 1, none⟩ (.string ((rd_T24 l0_0 x3_1).f1))).setCell ⟨gb286, 2, none⟩ (.int .i64 ((rd_T24 l0_0 x3_1).f2))).setCell ⟨gb286, 3, none⟩ (.int .i64 ((rd_T24 l0_0 x3_1).f3))).setCell ⟨gb286, 4, none⟩ (.slice A285_4 ((rd_T24 l0_0 x3_1).f4).length c285_4)).heap[gb284]? = some (.cells #[.slice (some ad285) l0_0.length c0_0] 46 (0, 0))) := ⟨yF1 BK284 NB284_286.out⟩
         have n1_ : Aside0 ((((((w11.setCell ⟨gb286, 0, none⟩ (.int .i64 ((rd_T24 l0_0 x3_1).f0))).setCell ⟨gb286, 1, none⟩ (.string ((rd_T24 l0_0 x3_1).f1))).setCell ⟨gb286, 2, none⟩ (.int .i64 ((rd_T24 l0_0 x3_1).f2))).setCell ⟨gb286, 3, none⟩ (.int .i64 ((rd_T24 l0_0 x3_1).f3))).setCell ⟨gb286, 4, none⟩ (.slice A285_4 ((rd_T24 l0_0 x3_1).f4).length c285_4)).heap[gb286]? = some (.cells #[.int .i64 ((rd_T24 l0_0 x3_1).f0), .string ((rd_T24 l0_0 x3_1).f1), .int .i64 ((rd_T24 l0_0 x3_1).f2), .int .i64 ((rd_T24 l0_0 x3_1).f3), .slice A285_4 ((rd_T24 l0_0 x3_1).f4).length c285_4] 24 (0, 0))) := ⟨puts5 BK286.out⟩
         have n2_ : Aside0 (Below w.heap.size w (((((w11.setCell ⟨gb286, 0, none⟩ (.int .i64 ((rd_T24 l0_0 x3_1).f0))).setCell ⟨gb286, 1, none⟩ (.string ((rd_T24 l0_0 x3_1).f1))).setCell ⟨gb286, 2, none⟩ (.int .i64 ((rd_T24 l0_0 x3_1).f2))).setCell ⟨gb286, 3, none⟩ (.int .i64 ((rd_T24 l0_0 x3_1).f3))).setCell ⟨gb286, 4, none⟩ (.slice A285_4 ((rd_T24 l0_0 x3_1).f4).length c285_4))) := ⟨yG2 HB GE284.out GE286.out⟩
         (try clear BK284)
         (try clear BK286)
         (try clear HB)
         generalize (((((w11.setCell ⟨gb286, 0, none⟩ (.int .i64 ((rd_T24 l0_0 x3_1).f0))).setCell ⟨gb286, 1, none⟩ (.string ((rd_T24 l0_0 x3_1).f1))).setCell ⟨gb286, 2, none⟩ (.int .i64 ((rd_T24 l0_0 x3_1).f2))).setCell ⟨gb286, 3, none⟩ (.int .i64 ((rd_T24 l0_0 x3_1).f3))).setCell ⟨gb286, 4, none⟩ (.slice A285_4 ((rd_T24 l0_0 x3_1).f4).length c285_4)) = w30 at n0_ n1_ n2_ ⊢
         have BK284 := n0_
         have BK286 := n1_
         have HB := n2_
         clear n0_ n1_ n2_
         have n0_ := aM (kD BK284.out)
         have n1_ := aM (kD BK286.out)
         have n2_ := aM (b1 HB.out)
         clear BK284
         clear BK286
         clear HB
         have BK284 := n0_
         have BK286 := n1_
         have HB := n2_
         clear n0_ n1_ n2_
         refine start_ (n := 27) (S := fun w' => w'.cell? ⟨gb286, 0, none⟩ = some (.int .i64 ((rd_T24 l0_0 x3_1).f0)) ∧ w'.cell? ⟨gb286, 1, none⟩ = some (.string ((rd_T24 l0_0 x3_1).f1)) ∧ w'.cell? ⟨gb286, 2, none⟩ = some (.int .i64 ((rd_T24 l0_0 x3_1).f2)) ∧ w'.cell? ⟨gb286, 3, none⟩ = some (.int .i64 ((rd_T24 l0_0 x3_1).f3)) ∧ w'.cell? ⟨gb286, 4, none⟩ = some (.slice A285_4 ((rd_T24 l0_0 x3_1).f4).length c285_4) ∧ w'.cell? ⟨gb284, 0, none⟩ = some (.slice (some ad285) l0_0.length c0_0)) (ds := []) (tB 0 27) (by kernel_rfl) rfl rfl ⟨yV BK286 0, yV BK286 1, yV BK286 2, yV BK286 3, yV BK286 4, yV BK284 0⟩ (fun hHeld => ?_); refine with_tabW haulageref08_Right.tab7 haulageref08_Right.bits7 (fun HT_ HW_ => ?_)
         generalize w30.drew = w31 at BK284 BK286 HB hHeld ⊢
         refine yT HT_ HW_ 0 21 (tB 1 27) rfl rfl hHeld ?_
         refine yI HT_ 1 (tB 3 27) rfl rfl fun K hK => ?_
         refine yc Tryd.func27 #[.agg #[.int .i64 ((rd_T24 l0_0 x3_1).f0), .string ((rd_T24 l0_0 x3_1).f1), .int .i64 ((rd_T24 l0_0 x3_1).f2), .int .i64 ((rd_T24 l0_0 x3_1).f3), .slice A285_4 ((rd_T24 l0_0 x3_1).f4).length c285_4]] rfl rfl ?_
         with_reducible refine (haulageref08_Table.calls k1 ((rd_T24 l0_0 x3_1).f0) ((rd_T24 l0_0 x3_1).f1) ((rd_T24 l0_0 x3_1).f2) ((rd_T24 l0_0 x3_1).f3) _ _ ((rd_T24 l0_0 x3_1).f4) true _ ?side1 ?side2 A14.out).mono ?_
         (case side1 => exact yW (Kd.C_below HR285_4.out HB.out))
         (case side2 => exact HC285_4.out)
         rintro e w32 ⟨rfl, hb⟩
         refine ⟨_, rfl, ?_⟩
         have n0_ := aM (kB (yK BK284) hb)
         have n1_ := aM (kB (yK BK286) hb)
         have n2_ := aM (bP (yG2 HB GE284.out GE286.out) hb)
         clear BK284
         clear BK286
         clear HB
         have BK284 := n0_
         have BK286 := n1_
         have HB := n2_
         clear n0_ n1_ n2_
         (try clear hb)
         (try clear hb2)
         (try clear hk)
         (try clear hi)
         refine hK.out _ _ ⟨yV BK286 0, yV BK286 1, yV BK286 2, yV BK286 3, yV BK286 4, yV BK284 0⟩ (fun hHeld => ?_)
         clear hK K
         refine norm_ (a' := ?_) ?_ ?_
         rotate_left
         ·
          show Act.put _ (some 22) _ = _
          simp only [Act.put, s1_, s2_, s3_, i64_w, i32_w]
          rfl
         refine yP HT_ 2 23 (tB 7 27) rfl rfl ?_
         refine yP HT_ 3 24 (tB 15 27) rfl rfl ?_
         refine yP HT_ 4 25 (tB 31 27) rfl rfl ?_
         refine yP HT_ 5 26 (tB 63 27) rfl rfl ?_
         refine yP HT_ 6 27 (tB 127 27) rfl rfl ?_
         refine yU HT_ 7 28 (tB 255 27) rfl rfl ?_
         refine yU HT_ 8 29 (tB 511 27) rfl rfl ?_
         refine yU HT_ 9 30 (tB 1023 27) rfl rfl ?_
         refine yU HT_ 10 31 (tB 2047 27) rfl rfl ?_
         refine yU HT_ 11 32 (tB 4095 27) rfl rfl ?_
         refine yU HT_ 12 33 (tB 8191 27) rfl rfl ?_
         refine yU HT_ 13 34 (tB 16383 27) rfl rfl ?_
         refine yU HT_ 14 35 (tB 32767 27) rfl rfl ?_
         refine yU HT_ 15 36 (tB 65535 27) rfl rfl ?_
         refine yU HT_ 16 37 (tB 131071 27) rfl rfl ?_
         refine yP HT_ 17 38 (tB 262143 27) rfl rfl ?_
         refine yP HT_ 18 39 (tB 524287 27) rfl rfl ?_
         refine yP HT_ 19 40 (tB 1048575 27) rfl rfl ?_
         refine yP HT_ 21 42 (tB 3145727 27) rfl rfl ?_
         refine yP HT_ 24 45 (tB 19922943 27) rfl rfl ?_
         refine yT HT_ HW_ 20 41 (tB 20971519 27) rfl rfl hHeld ?_
         refine yT HT_ HW_ 22 43 (tB 25165823 27) rfl rfl hHeld ?_
         refine yI HT_ 23 (tB 33554431 27) rfl rfl fun K hK => ?_
         refine yc Tryd.func42 #[.agg #[.slice (some ad285) l0_0.length c0_0], .string ((rd_T24 l0_0 x3_1).f1)] rfl rfl ?_
         with_reducible refine (haulageref08_Find.calls k1 _ _ l0_0 ((rd_T24 l0_0 x3_1).f1) t290 _ ?side1 ?side2 A29.out).mono ?_
         (case side1 => exact yW (Kd.C_below HR0_0.out HB.out))
         (case side2 => exact HC0_0.out)
         rintro e w33 ⟨rfl, hb⟩
         refine ⟨_, rfl, ?_⟩
         have n0_ := aM (kB (yK BK284) hb)
         have n1_ := aM (kB (yK BK286) hb)
         have n2_ := aM (bP (yG2 HB GE284.out GE286.out) hb)
         clear BK284
         clear BK286
         clear HB
         have BK284 := n0_
         have BK286 := n1_
         have HB := n2_
         clear n0_ n1_ n2_
         (try clear hb)
         (try clear hb2)
         (try clear hk)
         (try clear hi)
         refine hK.out _ _ ⟨yV BK286 0, yV BK286 1, yV BK286 2, yV BK286 3, yV BK286 4, yV BK284 0⟩ (fun hHeld => ?_)
         clear hK K
         refine norm_ (a' := ?_) ?_ ?_
         rotate_left
         ·
          show Act.put _ (some 44) _ = _
          simp only [Act.put, s1_, s2_, s3_, i64_w, i32_w]
          rfl
         refine yP HT_ 25 46 (tB 67108863 27) rfl rfl ?_
         refine yP HT_ 26 47 (tB 134217727 27) rfl rfl ?_
         refine done_ (done_of HT_.out (by kernel_rfl)) ?_
         try go_wp2
         go_meet
         case rel => exact ⟨_, ((t290 != x3_1)), yS, H', ⟨by have := HK1.out; first | omega | exact Nat.le_refl _⟩, ⟨yK BK284⟩, ⟨yK BK286⟩, ⟨yG2 HB GE284.out GE286.out⟩⟩
       ·
        replace c15 := Bool.eq_false_iff.mpr c15
        subst c15
        have H1 : (haulageref08_Right.j1 k1 x3_1 true l0_0) = some r := by rw [if_neg (show ¬ (false = true) by decide)] at H; exact H
        clear H
        have H := H1
        clear H1
        have H' := aM H
        clear H
        try go_wp2
        have n0_ : Aside0 ((((((w11.setCell ⟨gb286, 0, none⟩ (.int .i64 ((rd_T24 l0_0 x3_1).f0))).setCell ⟨gb286, 1, none⟩ (.string ((rd_T24 l0_0 x3_1).f1))).setCell ⟨gb286, 2, none⟩ (.int .i64 ((rd_T24 l0_0 x3_1).f2))).setCell ⟨gb286, 3, none⟩ (.int .i64 ((rd_T24 l0_0 x3_1).f3))).setCell ⟨gb286, 4, none⟩ (.slice A285_4 ((rd_T24 l0_0 x3_1).f4).length c285_4)).heap[gb284]? = some (.cells #[.slice (some ad285) l0_0.length c0_0] 46 (0, 0))) := ⟨yF1 BK284 NB284_286.out⟩
        have n1_ : Aside0 ((((((w11.setCell ⟨gb286, 0, none⟩ (.int .i64 ((rd_T24 l0_0 x3_1).f0))).setCell ⟨gb286, 1, none⟩ (.string ((rd_T24 l0_0 x3_1).f1))).setCell ⟨gb286, 2, none⟩ (.int .i64 ((rd_T24 l0_0 x3_1).f2))).setCell ⟨gb286, 3, none⟩ (.int .i64 ((rd_T24 l0_0 x3_1).f3))).setCell ⟨gb286, 4, none⟩ (.slice A285_4 ((rd_T24 l0_0 x3_1).f4).length c285_4)).heap[gb286]? = some (.cells #[.int .i64 ((rd_T24 l0_0 x3_1).f0), .string ((rd_T24 l0_0 x3_1).f1), .int .i64 ((rd_T24 l0_0 x3_1).f2), .int .i64 ((rd_T24 l0_0 x3_1).f3), .slice A285_4 ((rd_T24 l0_0 x3_1).f4).length c285_4] 24 (0, 0))) := ⟨puts5 BK286.out⟩
        have n2_ : Aside0 (Below w.heap.size w (((((w11.setCell ⟨gb286, 0, none⟩ (.int .i64 ((rd_T24 l0_0 x3_1).f0))).setCell ⟨gb286, 1, none⟩ (.string ((rd_T24 l0_0 x3_1).f1))).setCell ⟨gb286, 2, none⟩ (.int .i64 ((rd_T24 l0_0 x3_1).f2))).setCell ⟨gb286, 3, none⟩ (.int .i64 ((rd_T24 l0_0 x3_1).f3))).setCell ⟨gb286, 4, none⟩ (.slice A285_4 ((rd_T24 l0_0 x3_1).f4).length c285_4))) := ⟨yG2 HB GE284.out GE286.out⟩
        (try clear BK284)
        (try clear BK286)
        (try clear HB)
        generalize (((((w11.setCell ⟨gb286, 0, none⟩ (.int .i64 ((rd_T24 l0_0 x3_1).f0))).setCell ⟨gb286, 1, none⟩ (.string ((rd_T24 l0_0 x3_1).f1))).setCell ⟨gb286, 2, none⟩ (.int .i64 ((rd_T24 l0_0 x3_1).f2))).setCell ⟨gb286, 3, none⟩ (.int .i64 ((rd_T24 l0_0 x3_1).f3))).setCell ⟨gb286, 4, none⟩ (.slice A285_4 ((rd_T24 l0_0 x3_1).f4).length c285_4)) = w34 at n0_ n1_ n2_ ⊢
        have BK284 := n0_
        have BK286 := n1_
        have HB := n2_
        clear n0_ n1_ n2_
        have n0_ := aM (kD BK284.out)
        have n1_ := aM (kD BK286.out)
        have n2_ := aM (b1 HB.out)
        clear BK284
        clear BK286
        clear HB
        have BK284 := n0_
        have BK286 := n1_
        have HB := n2_
        clear n0_ n1_ n2_
        refine start_ (n := 27) (S := fun w' => w'.cell? ⟨gb286, 0, none⟩ = some (.int .i64 ((rd_T24 l0_0 x3_1).f0)) ∧ w'.cell? ⟨gb286, 1, none⟩ = some (.string ((rd_T24 l0_0 x3_1).f1)) ∧ w'.cell? ⟨gb286, 2, none⟩ = some (.int .i64 ((rd_T24 l0_0 x3_1).f2)) ∧ w'.cell? ⟨gb286, 3, none⟩ = some (.int .i64 ((rd_T24 l0_0 x3_1).f3)) ∧ w'.cell? ⟨gb286, 4, none⟩ = some (.slice A285_4 ((rd_T24 l0_0 x3_1).f4).length c285_4)) (ds := []) (tB 0 27) (by kernel_rfl) rfl rfl (cellc5 BK286.out) (fun hHeld => ?_); refine with_tabW haulageref08_Right.tab7 haulageref08_Right.bits7 (fun HT_ HW_ => ?_)
        generalize w34.drew = w35 at BK284 BK286 HB hHeld ⊢
        refine yT HT_ HW_ 0 21 (tB 1 27) rfl rfl hHeld ?_
        refine yI HT_ 1 (tB 3 27) rfl rfl fun K hK => ?_
        refine yc Tryd.func27 #[.agg #[.int .i64 ((rd_T24 l0_0 x3_1).f0), .string ((rd_T24 l0_0 x3_1).f1), .int .i64 ((rd_T24 l0_0 x3_1).f2), .int .i64 ((rd_T24 l0_0 x3_1).f3), .slice A285_4 ((rd_T24 l0_0 x3_1).f4).length c285_4]] rfl rfl ?_
        with_reducible refine (haulageref08_Table.calls k1 ((rd_T24 l0_0 x3_1).f0) ((rd_T24 l0_0 x3_1).f1) ((rd_T24 l0_0 x3_1).f2) ((rd_T24 l0_0 x3_1).f3) _ _ ((rd_T24 l0_0 x3_1).f4) false _ ?side1 ?side2 A14.out).mono ?_
        (case side1 => exact yW (Kd.C_below HR285_4.out HB.out))
        (case side2 => exact HC285_4.out)
        rintro e w36 ⟨rfl, hb⟩
        refine ⟨_, rfl, ?_⟩
        have n0_ := aM (kB (yK BK284) hb)
        have n1_ := aM (kB (yK BK286) hb)
        have n2_ := aM (bP (yG2 HB GE284.out GE286.out) hb)
        clear BK284
        clear BK286
        clear HB
        have BK284 := n0_
        have BK286 := n1_
        have HB := n2_
        clear n0_ n1_ n2_
        (try clear hb)
        (try clear hb2)
        (try clear hk)
        (try clear hi)
        refine hK.out _ _ (cellc5 BK286.out) (fun hHeld => ?_)
        clear hK K
        refine norm_ (a' := ?_) ?_ ?_
        rotate_left
        ·
         show Act.put _ (some 22) _ = _
         simp only [Act.put, s1_, s2_, s3_, i64_w, i32_w]
         rfl
        refine yP HT_ 2 23 (tB 7 27) rfl rfl ?_
        refine yP HT_ 3 24 (tB 15 27) rfl rfl ?_
        refine yU HT_ 4 25 (tB 31 27) rfl rfl ?_
        refine yU HT_ 5 26 (tB 63 27) rfl rfl ?_
        refine yU HT_ 6 27 (tB 127 27) rfl rfl ?_
        refine yU HT_ 7 28 (tB 255 27) rfl rfl ?_
        refine yU HT_ 8 29 (tB 511 27) rfl rfl ?_
        refine yU HT_ 9 30 (tB 1023 27) rfl rfl ?_
        refine yU HT_ 10 31 (tB 2047 27) rfl rfl ?_
        refine yU HT_ 11 32 (tB 4095 27) rfl rfl ?_
        refine yU HT_ 12 33 (tB 8191 27) rfl rfl ?_
        refine yU HT_ 13 34 (tB 16383 27) rfl rfl ?_
        refine yU HT_ 14 35 (tB 32767 27) rfl rfl ?_
        refine yU HT_ 15 36 (tB 65535 27) rfl rfl ?_
        refine yU HT_ 16 37 (tB 131071 27) rfl rfl ?_
        refine yU HT_ 17 38 (tB 262143 27) rfl rfl ?_
        refine yP HT_ 18 39 (tB 524287 27) rfl rfl ?_
        refine yP HT_ 19 40 (tB 1048575 27) rfl rfl ?_
        refine yU HT_ 20 41 (tB 2097151 27) rfl rfl ?_
        refine yU HT_ 21 42 (tB 4194303 27) rfl rfl ?_
        refine yU HT_ 22 43 (tB 8388607 27) rfl rfl ?_
        refine yU HT_ 23 44 (tB 16777215 27) rfl rfl ?_
        refine yU HT_ 24 45 (tB 33554431 27) rfl rfl ?_
        refine yU HT_ 25 46 (tB 67108863 27) rfl rfl ?_
        refine yP HT_ 26 47 (tB 134217727 27) rfl rfl ?_
        refine done_ (done_of HT_.out (by kernel_rfl)) ?_
        try go_wp2
        go_meet
        case rel => exact ⟨_, (true), yS, H', ⟨by have := HK1.out; first | omega | exact Nat.le_refl _⟩, ⟨yK BK284⟩, ⟨yK BK286⟩, ⟨yG2 HB GE284.out GE286.out⟩⟩
      case rest =>
       clear HC9
       try clear c1
       try clear c2
       try clear p2
       try clear c4
       try clear c15
       try clear c16
       try clear c16b0
       try clear c18
       try clear c19
       try clear c27
       try clear c28
       obtain ⟨kq, x47_8, rfl, HA, HJ8, BK284, BK286, HB⟩ := hcut
       cases kq with
       | zero => exact absurd HA.out (by simp [haulageref08_Right.j1])
       | succ kj8 =>
        have H := HA.out
        clear HA
        simp only [haulageref08_Right.j1] at H
        by_cases c37 : x47_8 = true
        ·
         subst c37
         have H1 : (some false) = some r := by rw [if_pos rfl] at H; exact H
         clear H
         have H := H1
         clear H1
         obtain rfl := Option.some.inj H
         go_wp2
         go_ret
         exact ⟨yE, yG2 HB GE284.out GE286.out⟩
        ·
         replace c37 := Bool.eq_false_iff.mpr c37
         subst c37
         have H1 : (haulageref08_Right.l0 kj8 (wrap64 (x3_1 + 1)) l0_0) = some r := by rw [if_neg (show ¬ (false = true) by decide)] at H; exact H
         clear H
         have H := H1
         clear H1
         have H' := aM H
         clear H
         go_wp2
         go_roundg kj8
         case measure => have := HK1.out; have := HJ8.out; omega
         case rel => exact ⟨(wrap64 (x3_1 + 1)), yS, H', ⟨by have := HK1.out; have := HJ8.out; omega⟩, ⟨yK BK284⟩, ⟨yG2 HB GE284.out GE286.out⟩⟩
     ·
      rw [if_neg c8] at H
      exact absurd H (by simp)
    ·
     rw [if_neg c7] at H
     have c7b0 : decide (x3_1 < (l0_0.length : Int)) = false := decide_eq_false c7
     clear c7
     obtain rfl := Option.some.inj H
     obtain ⟨hcz38_0, hfz38_0⟩ := cells1 BK284.out
     go_wp2
     go_ret
     exact ⟨yE, yG1 HB GE284.out⟩
end Go.Proofs.YtdeophpjammbpaaDoor.HSchemaRight

/- For Go functions that SchemaFinds reaches: Lean functions, and walks that show that each call comes to what its Lean function tells; no condition but those that each theorem states. (Made by a program of this session over the kit's print.py.) -/
import Derived.Test.YtdeophpjammbpaaDoorHSchemaFindsx0
import Derived.Test.YtdeophpjammbpaaDoorHSchemaFindsx2
namespace Go.Proofs.YtdeophpjammbpaaDoor.HSchemaFinds
open Go.RowKit Go.Proofs.YtdeophpjammbpaaDoorW.PrintWords Go.Proofs.YtdeophpjammbpaaDoorW.PrintLast Go.Proofs.YtdeophpjammbpaaDoorW.PrintMore
attribute [local go_sem] max2_int min2_int max_two min_two max_three min_three max_four min_four   -- for this text's walks alone
set_option linter.unusedVariables false
set_option linter.unusedSimpArgs false
attribute [local go_sem] hp_s8 hp_s16 hp_s32 hp_s64 hp_m8 hp_m16 hp_m32 hp_m64
attribute [local go_sem high] eqA54
/-! ### haulageref08_Find: function 42 -/
def haulageref08_Find.l0 : Nat → ByteArray → Int → List (S24) → Option (Int)
 | 0, _, _, _ => none
 | k + 1, x1, x5, x248000 => if x5 < (x248000.length : Int) then (if 0 ≤ x5 then (if ((rd_T24 x248000 x5).f1).toList = x1.toList then (some x5) else (haulageref08_Find.l0 k x1 (wrap64 (x5 + 1)) x248000)) else (none)) else (some (-1))
def haulageref08_Find.f (k : Nat) (l0_0 : List (S24)) (a1 : ByteArray) : Option (Int) := haulageref08_Find.l0 k a1 0 l0_0
theorem haulageref08_Find.mono_l : ∀ k, (∀ y0 y1 y2, LeO (haulageref08_Find.l0 k y0 y1 y2) (haulageref08_Find.l0 (k + 1) y0 y1 y2))
 | 0 => fun _ _ _ r h => by simp [haulageref08_Find.l0] at h
 | k + 1 => by
  have ih0 := haulageref08_Find.mono_l k
  ·
   intro y0 y1 y2
   unfold haulageref08_Find.l0
   repeat' first
   | (with_reducible exact ih0 _ _ _)
   | (with_reducible exact LeO.refl _)
   | (with_reducible exact LeO.none _)
   | (with_reducible refine LeO.ite ?_ ?_)
   | (with_reducible refine LeO.bind ?_ (fun _ => ?_))
   | exact ih0 _ _ _
   | exact LeO.none _
   | refine LeO.ite ?_ ?_
   | refine LeO.bind ?_ (fun _ => ?_)
theorem haulageref08_Find.mono : ∀ a0 a1 k, LeO (haulageref08_Find.f k a0 a1) (haulageref08_Find.f (k + 1) a0 a1) := by
 intro a0 a1 k
 have ih0 := haulageref08_Find.mono_l k
 unfold haulageref08_Find.f
 repeat' first
   | (with_reducible exact ih0 _ _ _)
   | (with_reducible exact LeO.refl _)
   | (with_reducible exact LeO.none _)
   | (with_reducible refine LeO.ite ?_ ?_)
   | (with_reducible refine LeO.bind ?_ (fun _ => ?_))
   | exact ih0 _ _ _
   | exact LeO.none _
   | refine LeO.ite ?_ ?_
   | refine LeO.bind ?_ (fun _ => ?_)
set_option maxHeartbeats 8000000 in
set_option maxRecDepth 100000 in
theorem haulageref08_Find.calls (k : Nat) (A0_0 : Option Addr) (c0_0 : Nat) (l0_0 : List (S24)) (a1 : ByteArray) (r : Int) (w : World) (hr0_0 : Kd.C k24 w A0_0 l0_0.length l0_0) (hc0_0 : l0_0.length ≤ c0_0) (h : haulageref08_Find.f k l0_0 a1 = some r) :
  Calls Tryd.prog 42 #[.agg #[.slice A0_0 l0_0.length c0_0], .string a1] w fun e w' => e = .returned (.int .i64 r) ∧ Below w.heap.size w w' := by
 have hu46 := Tryd.underlying46
 have HR0_0 := aM hr0_0
 have HC0_0 := aM hc0_0
 clear hr0_0 hc0_0
 have HB := aM (Below.refl w.heap.size w)
 have H : (haulageref08_Find.l0 k a1 0 l0_0) = some r := h
 clear h
 have H' := aM H
 clear H
 go_enter Tryd.func42, Tryd.ntmps42
 go_wp2_with (first | ((with_reducible refine gate_dst (N := 2) rfl ?_); refine box_event ?hg (N := 2) ?hd (cs := #[.slice A0_0 l0_0.length c0_0]) (t := 46) ?hr ?_; (case hd => rfl); (case hg => rfl); (case hr => first | (go_simp; done) | (go_simp; rfl)); intro gb247 hg w3 hbox hb; have n0_ := aM (bP (by repeat (first | (with_reducible first | exact HB.out | apply bA | apply bN | apply b1) | exact HB.out)) hb); have n1_ := aM (hbox); have n2_ := aM ((by rw [hg]; exact (bZ (by repeat (first | (with_reducible first | exact HB.out | apply bA | apply bN | apply b1) | exact HB.out))) : w.heap.size ≤ gb247)); have n3_ := aM ((by rw [hg]; exact (bZ (by repeat (first | (with_reducible first | exact HB.out | apply bA | apply bN | apply b1) | exact HB.out))) : w.heap.size ≤ gb247)); clear HB; have HB := n0_; have BK247 := n1_; have GW247 := n2_; have GE247 := n3_; clear n0_ n1_ n2_ n3_; clear hb hbox hg))
 go_loopg [5] k (fun kq v5 w' => ∃ (x5_1 : Int), v5 = .int .i64 x5_1 ∧ Aside0 (haulageref08_Find.l0 kq a1 x5_1 l0_0 = some r) ∧ Aside0 (kq ≤ k) ∧ Aside0 (w'.heap[gb247]? = some (.cells #[(.slice A0_0 l0_0.length c0_0)] 46 (0, 0))) ∧ Aside0 (Below w.heap.size w w'))
 case atStart => exact ⟨(0), (by first | rfl | (simp; done) | (simp [*]; done)), H', ⟨Nat.le_refl _⟩, ⟨by (with_reducible repeat (first | refine kN ?_ _ | refine kD ?_ | refine kA ?_ _)); exact BK247.out⟩, ⟨by repeat (first | (with_reducible first | exact HB.out | apply bA | apply bN | apply b1 | refine bS ?_ GE247.out) | exact HB.out)⟩⟩
 case round =>
  clear H'
  try clear p2
  obtain ⟨x5_1, rfl, HA, HK1, BK247, HB⟩ := hrel
  cases gk with
  | zero => exact absurd HA.out (by simp [haulageref08_Find.l0])
  | succ k1 =>
   have H := HA.out
   clear HA
   simp only [haulageref08_Find.l0] at H
   by_cases c4 : x5_1 < (l0_0.length : Int)
   ·
    rw [if_pos c4] at H
    have c4b0 : decide (x5_1 < (l0_0.length : Int)) = true := decide_eq_true c4
    clear c4
    by_cases c5 : 0 ≤ x5_1
    ·
     rw [if_pos c5] at H
     have c5b0 : decide (0 ≤ x5_1) = true := decide_eq_true c5
     clear c5
     by_cases c6 : ((rd_T24 l0_0 x5_1).f1).toList = a1.toList
     ·
      rw [if_pos c6] at H
      have c6b0 : (((rd_T24 l0_0 x5_1).f1).toList == a1.toList) = true := beq_iff_eq.mpr c6
      have c6b1 : (((rd_T24 l0_0 x5_1).f1).toList != a1.toList) = false := bne_eq_false_iff_eq.mpr c6
      clear c6
      obtain rfl := Option.some.inj H
      obtain ⟨hcz7_0, hfz7_0⟩ := cells1 BK247.out
      have p248 : 0 ≤ (x5_1 : Int) := oD (by first | (with_reducible assumption) | assumption)
      have q248 : x5_1 < (l0_0.length : Int) := oD (by first | (with_reducible assumption) | assumption)
      obtain ⟨ad248, A248_4, c248_4, e248, hx248_0, hx248_1, hx248_2, hx248_3, hx248_4, hl248_4, hi248_4⟩ := at_T24 HR0_0.out x5_1 p248 q248
      cases e248
      replace hx248_0 := pw_cell_below HB.out hx248_0
      replace hx248_1 := pw_cell_below HB.out hx248_1
      replace hx248_2 := pw_cell_below HB.out hx248_2
      replace hx248_3 := pw_cell_below HB.out hx248_3
      replace hx248_4 := pw_cell_below HB.out hx248_4
      have HR248_4 := aM hi248_4
      have HC248_4 := aM hl248_4
      clear hi248_4 hl248_4
      replace p248 := eq_true p248
      replace q248 := eq_true q248
      go_wp2
      go_ret
      exact ⟨by first | rfl | (simp [errW_none, errW_some] <;> rfl) | (simp [*, errW_none, errW_some] <;> rfl), by repeat (first | (with_reducible first | exact HB.out | apply bA | apply bN | apply b1 | refine bS ?_ GE247.out) | exact HB.out)⟩
     ·
      rw [if_neg c6] at H
      have c6b0 : (((rd_T24 l0_0 x5_1).f1).toList == a1.toList) = false := beq_eq_false_iff_ne.mpr c6
      have c6b1 : (((rd_T24 l0_0 x5_1).f1).toList != a1.toList) = true := bne_iff_ne.mpr c6
      have H' := aM H
      clear H
      obtain ⟨hcz8_0, hfz8_0⟩ := cells1 BK247.out
      have p248 : 0 ≤ (x5_1 : Int) := oD (by first | (with_reducible assumption) | assumption)
      have q248 : x5_1 < (l0_0.length : Int) := oD (by first | (with_reducible assumption) | assumption)
      obtain ⟨ad248, A248_4, c248_4, e248, hx248_0, hx248_1, hx248_2, hx248_3, hx248_4, hl248_4, hi248_4⟩ := at_T24 HR0_0.out x5_1 p248 q248
      cases e248
      replace hx248_0 := pw_cell_below HB.out hx248_0
      replace hx248_1 := pw_cell_below HB.out hx248_1
      replace hx248_2 := pw_cell_below HB.out hx248_2
      replace hx248_3 := pw_cell_below HB.out hx248_3
      replace hx248_4 := pw_cell_below HB.out hx248_4
      have HR248_4 := aM hi248_4
      have HC248_4 := aM hl248_4
      clear hi248_4 hl248_4
      replace p248 := eq_true p248
      replace q248 := eq_true q248
      go_wp2
      go_roundg k1
      case measure => have := HK1.out; omega
      case rel => exact ⟨(wrap64 (x5_1 + 1)), (by first | rfl | (simp; done) | (simp [*]; done)), H', ⟨by have := HK1.out; omega⟩, ⟨by (with_reducible repeat (first | refine kN ?_ _ | refine kD ?_ | refine kA ?_ _)); exact BK247.out⟩, ⟨by repeat (first | (with_reducible first | exact HB.out | apply bA | apply bN | apply b1 | refine bS ?_ GE247.out) | exact HB.out)⟩⟩
    ·
     rw [if_neg c5] at H
     exact absurd H (by simp)
   ·
    rw [if_neg c4] at H
    have c4b0 : decide (x5_1 < (l0_0.length : Int)) = false := decide_eq_false c4
    clear c4
    obtain rfl := Option.some.inj H
    obtain ⟨hcz9_0, hfz9_0⟩ := cells1 BK247.out
    go_wp2
    go_ret
    exact ⟨by first | rfl | (simp [errW_none, errW_some] <;> rfl) | (simp [*, errW_none, errW_some] <;> rfl), by repeat (first | (with_reducible first | exact HB.out | apply bA | apply bN | apply b1 | refine bS ?_ GE247.out) | exact HB.out)⟩
/-! ### haulageref08_ById: function 43 -/
def haulageref08_ById.l0 : Nat → Int → Int → List (S24) → Option (Int)
 | 0, _, _, _ => none
 | k + 1, x1, x5, x250000 => if x5 < (x250000.length : Int) then (if 0 ≤ x5 then (if ((rd_T24 x250000 x5).f0) = x1 then (some x5) else (haulageref08_ById.l0 k x1 (wrap64 (x5 + 1)) x250000)) else (none)) else (some (-1))
def haulageref08_ById.f (k : Nat) (l0_0 : List (S24)) (a1 : Int) : Option (Int) := haulageref08_ById.l0 k a1 0 l0_0
theorem haulageref08_ById.mono_l : ∀ k, (∀ y0 y1 y2, LeO (haulageref08_ById.l0 k y0 y1 y2) (haulageref08_ById.l0 (k + 1) y0 y1 y2))
 | 0 => fun _ _ _ r h => by simp [haulageref08_ById.l0] at h
 | k + 1 => by
  have ih0 := haulageref08_ById.mono_l k
  ·
   intro y0 y1 y2
   unfold haulageref08_ById.l0
   repeat' first
   | (with_reducible exact ih0 _ _ _)
   | (with_reducible exact LeO.refl _)
   | (with_reducible exact LeO.none _)
   | (with_reducible refine LeO.ite ?_ ?_)
   | (with_reducible refine LeO.bind ?_ (fun _ => ?_))
   | exact ih0 _ _ _
   | exact LeO.none _
   | refine LeO.ite ?_ ?_
   | refine LeO.bind ?_ (fun _ => ?_)
theorem haulageref08_ById.mono : ∀ a0 a1 k, LeO (haulageref08_ById.f k a0 a1) (haulageref08_ById.f (k + 1) a0 a1) := by
 intro a0 a1 k
 have ih0 := haulageref08_ById.mono_l k
 unfold haulageref08_ById.f
 repeat' first
   | (with_reducible exact ih0 _ _ _)
   | (with_reducible exact LeO.refl _)
   | (with_reducible exact LeO.none _)
   | (with_reducible refine LeO.ite ?_ ?_)
   | (with_reducible refine LeO.bind ?_ (fun _ => ?_))
   | exact ih0 _ _ _
   | exact LeO.none _
   | refine LeO.ite ?_ ?_
   | refine LeO.bind ?_ (fun _ => ?_)
set_option maxHeartbeats 8000000 in
set_option maxRecDepth 100000 in
theorem haulageref08_ById.calls (k : Nat) (A0_0 : Option Addr) (c0_0 : Nat) (l0_0 : List (S24)) (a1 : Int) (r : Int) (w : World) (hr0_0 : Kd.C k24 w A0_0 l0_0.length l0_0) (hc0_0 : l0_0.length ≤ c0_0) (h : haulageref08_ById.f k l0_0 a1 = some r) :
  Calls Tryd.prog 43 #[.agg #[.slice A0_0 l0_0.length c0_0], .int .i64 a1] w fun e w' => e = .returned (.int .i64 r) ∧ Below w.heap.size w w' := by
 have hu46 := Tryd.underlying46
 have HR0_0 := aM hr0_0
 have HC0_0 := aM hc0_0
 clear hr0_0 hc0_0
 have HB := aM (Below.refl w.heap.size w)
 have H : (haulageref08_ById.l0 k a1 0 l0_0) = some r := h
 clear h
 have H' := aM H
 clear H
 go_enter Tryd.func43, Tryd.ntmps43
 go_wp2_with (first | ((with_reducible refine gate_dst (N := 2) rfl ?_); refine box_event ?hg (N := 2) ?hd (cs := #[.slice A0_0 l0_0.length c0_0]) (t := 46) ?hr ?_; (case hd => rfl); (case hg => rfl); (case hr => first | (go_simp; done) | (go_simp; rfl)); intro gb249 hg w3 hbox hb; have n0_ := aM (bP (by repeat (first | (with_reducible first | exact HB.out | apply bA | apply bN | apply b1) | exact HB.out)) hb); have n1_ := aM (hbox); have n2_ := aM ((by rw [hg]; exact (bZ (by repeat (first | (with_reducible first | exact HB.out | apply bA | apply bN | apply b1) | exact HB.out))) : w.heap.size ≤ gb249)); have n3_ := aM ((by rw [hg]; exact (bZ (by repeat (first | (with_reducible first | exact HB.out | apply bA | apply bN | apply b1) | exact HB.out))) : w.heap.size ≤ gb249)); clear HB; have HB := n0_; have BK249 := n1_; have GW249 := n2_; have GE249 := n3_; clear n0_ n1_ n2_ n3_; clear hb hbox hg))
 go_loopg [5] k (fun kq v5 w' => ∃ (x5_1 : Int), v5 = .int .i64 x5_1 ∧ Aside0 (haulageref08_ById.l0 kq a1 x5_1 l0_0 = some r) ∧ Aside0 (kq ≤ k) ∧ Aside0 (w'.heap[gb249]? = some (.cells #[(.slice A0_0 l0_0.length c0_0)] 46 (0, 0))) ∧ Aside0 (Below w.heap.size w w'))
 case atStart => exact ⟨(0), (by first | rfl | (simp; done) | (simp [*]; done)), H', ⟨Nat.le_refl _⟩, ⟨by (with_reducible repeat (first | refine kN ?_ _ | refine kD ?_ | refine kA ?_ _)); exact BK249.out⟩, ⟨by repeat (first | (with_reducible first | exact HB.out | apply bA | apply bN | apply b1 | refine bS ?_ GE249.out) | exact HB.out)⟩⟩
 case round =>
  clear H'
  try clear p2
  obtain ⟨x5_1, rfl, HA, HK1, BK249, HB⟩ := hrel
  cases gk with
  | zero => exact absurd HA.out (by simp [haulageref08_ById.l0])
  | succ k1 =>
   have H := HA.out
   clear HA
   simp only [haulageref08_ById.l0] at H
   by_cases c4 : x5_1 < (l0_0.length : Int)
   ·
    rw [if_pos c4] at H
    have c4b0 : decide (x5_1 < (l0_0.length : Int)) = true := decide_eq_true c4
    clear c4
    by_cases c5 : 0 ≤ x5_1
    ·
     rw [if_pos c5] at H
     have c5b0 : decide (0 ≤ x5_1) = true := decide_eq_true c5
     clear c5
     by_cases c6 : ((rd_T24 l0_0 x5_1).f0) = a1
     ·
      rw [if_pos c6] at H
      have c6b0 : (((rd_T24 l0_0 x5_1).f0) == a1) = true := beq_iff_eq.mpr c6
      have c6b1 : (((rd_T24 l0_0 x5_1).f0) != a1) = false := bne_eq_false_iff_eq.mpr c6
      clear c6
      obtain rfl := Option.some.inj H
      obtain ⟨hcz7_0, hfz7_0⟩ := cells1 BK249.out
      have p250 : 0 ≤ (x5_1 : Int) := oD (by first | (with_reducible assumption) | assumption)
      have q250 : x5_1 < (l0_0.length : Int) := oD (by first | (with_reducible assumption) | assumption)
      obtain ⟨ad250, A250_4, c250_4, e250, hx250_0, hx250_1, hx250_2, hx250_3, hx250_4, hl250_4, hi250_4⟩ := at_T24 HR0_0.out x5_1 p250 q250
      cases e250
      replace hx250_0 := pw_cell_below HB.out hx250_0
      replace hx250_1 := pw_cell_below HB.out hx250_1
      replace hx250_2 := pw_cell_below HB.out hx250_2
      replace hx250_3 := pw_cell_below HB.out hx250_3
      replace hx250_4 := pw_cell_below HB.out hx250_4
      have HR250_4 := aM hi250_4
      have HC250_4 := aM hl250_4
      clear hi250_4 hl250_4
      replace p250 := eq_true p250
      replace q250 := eq_true q250
      go_wp2
      go_ret
      exact ⟨by first | rfl | (simp [errW_none, errW_some] <;> rfl) | (simp [*, errW_none, errW_some] <;> rfl), by repeat (first | (with_reducible first | exact HB.out | apply bA | apply bN | apply b1 | refine bS ?_ GE249.out) | exact HB.out)⟩
     ·
      rw [if_neg c6] at H
      have c6b0 : (((rd_T24 l0_0 x5_1).f0) == a1) = false := beq_eq_false_iff_ne.mpr c6
      have c6b1 : (((rd_T24 l0_0 x5_1).f0) != a1) = true := bne_iff_ne.mpr c6
      have H' := aM H
      clear H
      obtain ⟨hcz8_0, hfz8_0⟩ := cells1 BK249.out
      have p250 : 0 ≤ (x5_1 : Int) := oD (by first | (with_reducible assumption) | assumption)
      have q250 : x5_1 < (l0_0.length : Int) := oD (by first | (with_reducible assumption) | assumption)
      obtain ⟨ad250, A250_4, c250_4, e250, hx250_0, hx250_1, hx250_2, hx250_3, hx250_4, hl250_4, hi250_4⟩ := at_T24 HR0_0.out x5_1 p250 q250
      cases e250
      replace hx250_0 := pw_cell_below HB.out hx250_0
      replace hx250_1 := pw_cell_below HB.out hx250_1
      replace hx250_2 := pw_cell_below HB.out hx250_2
      replace hx250_3 := pw_cell_below HB.out hx250_3
      replace hx250_4 := pw_cell_below HB.out hx250_4
      have HR250_4 := aM hi250_4
      have HC250_4 := aM hl250_4
      clear hi250_4 hl250_4
      replace p250 := eq_true p250
      replace q250 := eq_true q250
      go_wp2
      go_roundg k1
      case measure => have := HK1.out; omega
      case rel => exact ⟨(wrap64 (x5_1 + 1)), (by first | rfl | (simp; done) | (simp [*]; done)), H', ⟨by have := HK1.out; omega⟩, ⟨by (with_reducible repeat (first | refine kN ?_ _ | refine kD ?_ | refine kA ?_ _)); exact BK249.out⟩, ⟨by repeat (first | (with_reducible first | exact HB.out | apply bA | apply bN | apply b1 | refine bS ?_ GE249.out) | exact HB.out)⟩⟩
    ·
     rw [if_neg c5] at H
     exact absurd H (by simp)
   ·
    rw [if_neg c4] at H
    have c4b0 : decide (x5_1 < (l0_0.length : Int)) = false := decide_eq_false c4
    clear c4
    obtain rfl := Option.some.inj H
    obtain ⟨hcz9_0, hfz9_0⟩ := cells1 BK249.out
    go_wp2
    go_ret
    exact ⟨by first | rfl | (simp [errW_none, errW_some] <;> rfl) | (simp [*, errW_none, errW_some] <;> rfl), by repeat (first | (with_reducible first | exact HB.out | apply bA | apply bN | apply b1 | refine bS ?_ GE249.out) | exact HB.out)⟩
/-! ### schema_SameTable_1: function 82 -/
def schema_SameTable_1.f (a0_0 : Int) (a0_1 : ByteArray) (a0_2 : Int) (a0_3 : Int) (a0_4 : Bool) (a0_5 : Int) (a0_6 : Int) (a0_7 : ByteArray) (a1_0 : Int) (a1_1 : ByteArray) (a1_2 : Int) (a1_3 : Int) (a1_4 : Bool) (a1_5 : Int) (a1_6 : Int) (a1_7 : ByteArray) : Option (Bool) := some (a0_0 == a1_0 && (a0_1.toList == a1_1.toList && ((a0_2 == a1_2 && (a0_3 == a1_3)) && (a0_4 == a1_4 && ((a0_5 == a1_5 && (a0_6 == a1_6 && (a0_7.toList == a1_7.toList))))))))
set_option maxHeartbeats 8000000 in
set_option maxRecDepth 100000 in
theorem schema_SameTable_1.calls (a0_0 : Int) (a0_1 : ByteArray) (a0_2 : Int) (a0_3 : Int) (a0_4 : Bool) (a0_5 : Int) (a0_6 : Int) (a0_7 : ByteArray) (a1_0 : Int) (a1_1 : ByteArray) (a1_2 : Int) (a1_3 : Int) (a1_4 : Bool) (a1_5 : Int) (a1_6 : Int) (a1_7 : ByteArray) (r : Bool) (w : World) (h : schema_SameTable_1.f a0_0 a0_1 a0_2 a0_3 a0_4 a0_5 a0_6 a0_7 a1_0 a1_1 a1_2 a1_3 a1_4 a1_5 a1_6 a1_7 = some r) :
  Calls Tryd.prog 82 #[.agg #[.int .i64 a0_0, .string a0_1, .int .i64 a0_2, .int .i64 a0_3, .bool a0_4, .int .i64 a0_5, .int .i64 a0_6, .string a0_7], .agg #[.int .i64 a1_0, .string a1_1, .int .i64 a1_2, .int .i64 a1_3, .bool a1_4, .int .i64 a1_5, .int .i64 a1_6, .string a1_7]] w fun e w' => e = .returned (.bool r) ∧ Below w.heap.size w w' := by
 have hu54 := Tryd.underlying54
 have HB := aM (Below.refl w.heap.size w)
 have H : (some (a0_0 == a1_0 && (a0_1.toList == a1_1.toList && ((a0_2 == a1_2 && (a0_3 == a1_3)) && (a0_4 == a1_4 && ((a0_5 == a1_5 && (a0_6 == a1_6 && (a0_7.toList == a1_7.toList))))))))) = some r := h
 clear h
 obtain rfl := Option.some.inj H
 go_enter Tryd.func82, Tryd.ntmps82
 go_wp2_with (first | ((with_reducible refine gate_dst (N := 2) rfl ?_); refine box_event ?hg (N := 2) ?hd (cs := #[.int .i64 a0_0, .string a0_1, .int .i64 a0_2, .int .i64 a0_3, .bool a0_4, .int .i64 a0_5, .int .i64 a0_6, .string a0_7]) (t := 54) ?hr ?_; (case hd => rfl); (case hg => rfl); (case hr => first | (go_simp; done) | (go_simp; rfl)); intro gb251 hg w3 hbox hb; have n0_ := aM (bP (by repeat (first | (with_reducible first | exact HB.out | apply bA | apply bN | apply b1) | exact HB.out)) hb); have n1_ := aM (hbox); have n2_ := aM ((by rw [hg]; exact (bZ (by repeat (first | (with_reducible first | exact HB.out | apply bA | apply bN | apply b1) | exact HB.out))) : w.heap.size ≤ gb251)); have n3_ := aM ((by rw [hg]; exact (bZ (by repeat (first | (with_reducible first | exact HB.out | apply bA | apply bN | apply b1) | exact HB.out))) : w.heap.size ≤ gb251)); clear HB; have HB := n0_; have BK251 := n1_; have GW251 := n2_; have GE251 := n3_; clear n0_ n1_ n2_ n3_; clear hb hbox hg) | ((with_reducible refine gate_dst (N := 3) rfl ?_); refine box_event ?hg (N := 3) ?hd (cs := #[.int .i64 a1_0, .string a1_1, .int .i64 a1_2, .int .i64 a1_3, .bool a1_4, .int .i64 a1_5, .int .i64 a1_6, .string a1_7]) (t := 54) ?hr ?_; (case hd => rfl); (case hg => rfl); (case hr => first | (go_simp; done) | (go_simp; rfl)); intro gb252 hg w4 hbox hb; have n0_ := aM (kB (g := gb251) (o := .cells #[.int .i64 a0_0, .string a0_1, .int .i64 a0_2, .int .i64 a0_3, .bool a0_4, .int .i64 a0_5, .int .i64 a0_6, .string a0_7] 54 (0, 0)) (by (with_reducible repeat (first | refine kN ?_ _ | refine kD ?_ | refine kA ?_ _)); exact BK251.out) hb); have n1_ := aM (bP (by repeat (first | (with_reducible first | exact HB.out | apply bA | apply bN | apply b1 | refine bS ?_ GE251.out) | exact HB.out)) hb); have n2_ := aM (hbox); have n3_ := aM ((by rw [hg]; exact (bZ (by repeat (first | (with_reducible first | exact HB.out | apply bA | apply bN | apply b1 | refine bS ?_ GE251.out) | exact HB.out))) : w.heap.size ≤ gb252)); have n4_ := aM ((by rw [hg]; exact (bZ (by repeat (first | (with_reducible first | exact HB.out | apply bA | apply bN | apply b1 | refine bS ?_ GE251.out) | exact HB.out))) : w.heap.size ≤ gb252)); have n5_ := aM ((by rw [hg]; exact Nat.ne_of_lt (blk_lt (g := gb251) (o := .cells #[.int .i64 a0_0, .string a0_1, .int .i64 a0_2, .int .i64 a0_3, .bool a0_4, .int .i64 a0_5, .int .i64 a0_6, .string a0_7] 54 (0, 0)) (by (with_reducible repeat (first | refine kN ?_ _ | refine kD ?_ | refine kA ?_ _)); exact BK251.out)) : gb251 ≠ gb252)); have n6_ := aM ((by rw [hg]; exact Nat.ne_of_gt (blk_lt (g := gb251) (o := .cells #[.int .i64 a0_0, .string a0_1, .int .i64 a0_2, .int .i64 a0_3, .bool a0_4, .int .i64 a0_5, .int .i64 a0_6, .string a0_7] 54 (0, 0)) (by (with_reducible repeat (first | refine kN ?_ _ | refine kD ?_ | refine kA ?_ _)); exact BK251.out)) : gb252 ≠ gb251)); clear BK251; clear HB; have BK251 := n0_; have HB := n1_; have BK252 := n2_; have GW252 := n3_; have GE252 := n4_; have NB251_252 := n5_; have NB252_251 := n6_; clear n0_ n1_ n2_ n3_ n4_ n5_ n6_; clear hb hbox hg; have hnb5 := NB251_252.out; have hnc5 := NB252_251.out; obtain ⟨hcz6_0, hcz6_1, hcz6_2, hcz6_3, hcz6_4, hcz6_5, hcz6_6, hcz6_7, hfz6_0, hfz6_1, hfz6_2, hfz6_3, hfz6_4, hfz6_5, hfz6_6, hfz6_7⟩ := cells8 BK251.out; obtain ⟨hcz7_0, hcz7_1, hcz7_2, hcz7_3, hcz7_4, hcz7_5, hcz7_6, hcz7_7, hfz7_0, hfz7_1, hfz7_2, hfz7_3, hfz7_4, hfz7_5, hfz7_6, hfz7_7⟩ := cells8 BK252.out))
 go_ret
 exact ⟨by first | rfl | (simp [errW_none, errW_some] <;> rfl) | (simp [*, errW_none, errW_some] <;> rfl), by repeat (first | (with_reducible first | exact HB.out | apply bA | apply bN | apply b1 | refine bS ?_ GE251.out | refine bS ?_ GE252.out) | exact HB.out)⟩
/-! ### api_Column_81_f82: function 81 -/
def api_Column_81_f82.l0 : Nat → List (S54) → List (S54) → Int → Int → Option (Bool)
 | 0, _, _, _, _ => none
 | k + 1, x0, x1, x14, x15 => if x15 < x14 then (if 0 ≤ x15 then (if x15 < (x0.length : Int) then (if x15 < (x1.length : Int) then ((schema_SameTable_1.f ((rd_T54 x0 x15).f0) ((rd_T54 x0 x15).f1) ((rd_T54 x0 x15).f2.f0) ((rd_T54 x0 x15).f2.f1) ((rd_T54 x0 x15).f3) ((rd_T54 x0 x15).f4.f0) ((rd_T54 x0 x15).f4.f1) ((rd_T54 x0 x15).f4.f2) ((rd_T54 x1 x15).f0) ((rd_T54 x1 x15).f1) ((rd_T54 x1 x15).f2.f0) ((rd_T54 x1 x15).f2.f1) ((rd_T54 x1 x15).f3) ((rd_T54 x1 x15).f4.f0) ((rd_T54 x1 x15).f4.f1) ((rd_T54 x1 x15).f4.f2)).bind fun t255 => (if t255 = true then (api_Column_81_f82.l0 k x0 x1 x14 (wrap64 (x15 + 1))) else (some false))) else (none)) else (none)) else (none)) else (some true)
def api_Column_81_f82.f (k : Nat) (l0 : List (S54)) (l1 : List (S54)) : Option (Bool) := if (l0.length : Int) = (l1.length : Int) then (api_Column_81_f82.l0 k l0 l1 (l0.length : Int) 0) else (some false)
theorem api_Column_81_f82.mono_l : ∀ k, (∀ y0 y1 y2 y3, LeO (api_Column_81_f82.l0 k y0 y1 y2 y3) (api_Column_81_f82.l0 (k + 1) y0 y1 y2 y3))
 | 0 => fun _ _ _ _ r h => by simp [api_Column_81_f82.l0] at h
 | k + 1 => by
  have ih0 := api_Column_81_f82.mono_l k
  ·
   intro y0 y1 y2 y3
   unfold api_Column_81_f82.l0
   repeat' first
   | (with_reducible exact ih0 _ _ _ _)
   | (with_reducible exact LeO.refl _)
   | (with_reducible exact LeO.none _)
   | (with_reducible refine LeO.ite ?_ ?_)
   | (with_reducible refine LeO.bind ?_ (fun _ => ?_))
   | exact ih0 _ _ _ _
   | exact LeO.none _
   | refine LeO.ite ?_ ?_
   | refine LeO.bind ?_ (fun _ => ?_)
theorem api_Column_81_f82.mono : ∀ a0 a1 k, LeO (api_Column_81_f82.f k a0 a1) (api_Column_81_f82.f (k + 1) a0 a1) := by
 intro a0 a1 k
 have ih0 := api_Column_81_f82.mono_l k
 unfold api_Column_81_f82.f
 repeat' first
   | (with_reducible exact ih0 _ _ _ _)
   | (with_reducible exact LeO.refl _)
   | (with_reducible exact LeO.none _)
   | (with_reducible refine LeO.ite ?_ ?_)
   | (with_reducible refine LeO.bind ?_ (fun _ => ?_))
   | exact ih0 _ _ _ _
   | exact LeO.none _
   | refine LeO.ite ?_ ?_
   | refine LeO.bind ?_ (fun _ => ?_)
def api_Column_81_f82.T6 : Bool × List (List Nat × List Nat) := (true, [([], []), ([], []), ([], []), ([1, 2], [1, 2]), ([3], [3]), ([], []), ([], []), ([5, 6], [5, 6]), ([7], [7]), ([0, 4, 8], [0, 4, 8]), ([9], [9])])
def api_Column_81_f82.B6 : List Nat := [0, 0, 0, 6, 14, 0, 0, 96, 224, 511, 1023]
theorem api_Column_81_f82.tab6 : rtab .any (opsOf Tryd.f81 6) = api_Column_81_f82.T6 := by kernel_rfl
theorem api_Column_81_f82.bits6 : waitsOk api_Column_81_f82.T6.2 api_Column_81_f82.B6 = true := by kernel_rfl
set_option maxHeartbeats 8000000 in
set_option maxRecDepth 100000 in
theorem api_Column_81_f82.calls (k : Nat) (A0 : Option Addr) (c0 : Nat) (l0 : List (S54)) (A1 : Option Addr) (c1 : Nat) (l1 : List (S54)) (r : Bool) (w : World) (hr0 : Kd.C k54 w A0 l0.length l0) (hc0 : l0.length ≤ c0) (hr1 : Kd.C k54 w A1 l1.length l1) (hc1 : l1.length ≤ c1) (h : api_Column_81_f82.f k l0 l1 = some r) :
  Calls Tryd.prog 81 #[.slice A0 l0.length c0, .slice A1 l1.length c1, .func (.func 82) #[] #[]] w fun e w' => e = .returned (.bool r) ∧ Below w.heap.size w w' := by
 have hmf : ∀ (fn : Go.Fn) (first cap : Array Value) (w : World), (Instr.makeFunc fn first cap).run Tryd.prog w = .ok (.func fn first cap) w := fun _ _ _ _ => rfl
 have hu54 := Tryd.underlying54
 have HR0 := aM hr0
 have HC0 := aM hc0
 clear hr0 hc0
 have HR1 := aM hr1
 have HC1 := aM hc1
 clear hr1 hc1
 have HB := aM (Below.refl w.heap.size w)
 have H : (if (l0.length : Int) = (l1.length : Int) then (api_Column_81_f82.l0 k l0 l1 (l0.length : Int) 0) else (some false)) = some r := h
 clear h
 by_cases c3 : (l0.length : Int) = (l1.length : Int)
 ·
  rw [if_pos c3] at H
  have c3b0 : ((l0.length : Int) == (l1.length : Int)) = true := beq_iff_eq.mpr c3
  have c3b1 : ((l0.length : Int) != (l1.length : Int)) = false := bne_eq_false_iff_eq.mpr c3
  have c3b2 : (l0.length == l1.length) = true := by first | simpa using c3 | (simp at c3 ⊢; omega)
  clear c3
  have H' := aM H
  clear H
  go_enter Tryd.func81, Tryd.ntmps81
  go_wp2
  go_loopg [15] k (fun kq v15 w' => ∃ (x15_1 : Int), v15 = .int .i64 x15_1 ∧ Aside0 (api_Column_81_f82.l0 kq l0 l1 (l0.length : Int) x15_1 = some r) ∧ Aside0 (kq ≤ k) ∧ Aside0 (Below w.heap.size w w'))
  case atStart => exact ⟨(0), (by first | rfl | (simp; done) | (simp [*]; done)), H', ⟨Nat.le_refl _⟩, ⟨by repeat (first | (with_reducible first | exact HB.out | apply bA | apply bN | apply b1) | exact HB.out)⟩⟩
  case round =>
   clear H'
   try clear c1
   try clear p2
   try clear c3
   try clear c3b0
   try clear c3b1
   try clear c3b2
   obtain ⟨x15_1, rfl, HA, HK1, HB⟩ := hrel
   cases gk with
   | zero => exact absurd HA.out (by simp [api_Column_81_f82.l0])
   | succ k1 =>
    have H := HA.out
    clear HA
    simp only [api_Column_81_f82.l0] at H
    by_cases c4 : x15_1 < (l0.length : Int)
    ·
     rw [if_pos c4] at H
     have c4b0 : decide (x15_1 < (l0.length : Int)) = true := decide_eq_true c4
     clear c4
     by_cases c5 : 0 ≤ x15_1
     ·
      rw [if_pos c5] at H
      have c5b0 : decide (0 ≤ x15_1) = true := decide_eq_true c5
      clear c5
      by_cases c6 : x15_1 < (l0.length : Int)
      ·
       rw [if_pos c6] at H
       have c6b0 : decide (x15_1 < (l0.length : Int)) = true := decide_eq_true c6
       clear c6
       by_cases c7 : x15_1 < (l1.length : Int)
       ·
        rw [if_pos c7] at H
        have c7b0 : decide (x15_1 < (l1.length : Int)) = true := decide_eq_true c7
        clear c7
        replace H := Option.bind_eq_some_iff.mp H
        obtain ⟨t255, A80, H⟩ := H
        replace H : (if t255 = true then (api_Column_81_f82.l0 k1 l0 l1 (l0.length : Int) (wrap64 (x15_1 + 1))) else (some false)) = some r := H
        have A8 := aM A80
        clear A80
        by_cases c9 : t255 = true
        ·
         subst c9
         have H1 : (api_Column_81_f82.l0 k1 l0 l1 (l0.length : Int) (wrap64 (x15_1 + 1))) = some r := by rw [if_pos rfl] at H; exact H
         clear H
         have H := H1
         clear H1
         have H' := aM H
         clear H
         try go_wp2
         have n0_ := aM (b1 HB.out)
         clear HB
         have HB := n0_
         clear n0_
         have p253 : 0 ≤ (x15_1 : Int) := oD (by first | (with_reducible assumption) | assumption)
         have q253 : x15_1 < (l0.length : Int) := oD (by first | (with_reducible assumption) | assumption)
         obtain ⟨ad253, e253, hx253_0, hx253_1, hx253_2, hx253_3, hx253_4, hx253_5, hx253_6, hx253_7⟩ := at_T54 HR0.out x15_1 p253 q253
         have hw253_7 := hx253_7
         have hw253_6 := hx253_6
         have hw253_5 := hx253_5
         have hw253_4 := hx253_4
         have hw253_3 := hx253_3
         have hw253_2 := hx253_2
         have hw253_1 := hx253_1
         have hw253_0 := hx253_0
         cases e253
         replace hx253_0 := pw_cell_below HB.out hx253_0
         replace hx253_1 := pw_cell_below HB.out hx253_1
         replace hx253_2 := pw_cell_below HB.out hx253_2
         replace hx253_3 := pw_cell_below HB.out hx253_3
         replace hx253_4 := pw_cell_below HB.out hx253_4
         replace hx253_5 := pw_cell_below HB.out hx253_5
         replace hx253_6 := pw_cell_below HB.out hx253_6
         replace hx253_7 := pw_cell_below HB.out hx253_7
         replace p253 := eq_true p253
         replace q253 := eq_true q253
         have p254 : 0 ≤ (x15_1 : Int) := oD (by first | (with_reducible assumption) | assumption)
         have q254 : x15_1 < (l1.length : Int) := oD (by first | (with_reducible assumption) | assumption)
         obtain ⟨ad254, e254, hx254_0, hx254_1, hx254_2, hx254_3, hx254_4, hx254_5, hx254_6, hx254_7⟩ := at_T54 HR1.out x15_1 p254 q254
         have hw254_7 := hx254_7
         have hw254_6 := hx254_6
         have hw254_5 := hx254_5
         have hw254_4 := hx254_4
         have hw254_3 := hx254_3
         have hw254_2 := hx254_2
         have hw254_1 := hx254_1
         have hw254_0 := hx254_0
         cases e254
         replace hx254_0 := pw_cell_below HB.out hx254_0
         replace hx254_1 := pw_cell_below HB.out hx254_1
         replace hx254_2 := pw_cell_below HB.out hx254_2
         replace hx254_3 := pw_cell_below HB.out hx254_3
         replace hx254_4 := pw_cell_below HB.out hx254_4
         replace hx254_5 := pw_cell_below HB.out hx254_5
         replace hx254_6 := pw_cell_below HB.out hx254_6
         replace hx254_7 := pw_cell_below HB.out hx254_7
         replace p254 := eq_true p254
         replace q254 := eq_true q254
         refine start_ (n := 11) (S := fun w' => w'.cell? (ad253.add ((x15_1).toNat * 8)) = some (.int .i64 ((rd_T54 l0 x15_1).f0)) ∧ w'.cell? ⟨(ad253.add ((x15_1).toNat * 8)).block, (ad253.add ((x15_1).toNat * 8)).off + 1, none⟩ = some (.string ((rd_T54 l0 x15_1).f1)) ∧ w'.cell? ⟨(ad253.add ((x15_1).toNat * 8)).block, (ad253.add ((x15_1).toNat * 8)).off + 2, none⟩ = some (.int .i64 ((rd_T54 l0 x15_1).f2.f0)) ∧ w'.cell? ⟨(ad253.add ((x15_1).toNat * 8)).block, (ad253.add ((x15_1).toNat * 8)).off + 3, none⟩ = some (.int .i64 ((rd_T54 l0 x15_1).f2.f1)) ∧ w'.cell? ⟨(ad253.add ((x15_1).toNat * 8)).block, (ad253.add ((x15_1).toNat * 8)).off + 4, none⟩ = some (.bool ((rd_T54 l0 x15_1).f3)) ∧ w'.cell? ⟨(ad253.add ((x15_1).toNat * 8)).block, (ad253.add ((x15_1).toNat * 8)).off + 5, none⟩ = some (.int .i64 ((rd_T54 l0 x15_1).f4.f0)) ∧ w'.cell? ⟨(ad253.add ((x15_1).toNat * 8)).block, (ad253.add ((x15_1).toNat * 8)).off + 6, none⟩ = some (.int .i64 ((rd_T54 l0 x15_1).f4.f1)) ∧ w'.cell? ⟨(ad253.add ((x15_1).toNat * 8)).block, (ad253.add ((x15_1).toNat * 8)).off + 7, none⟩ = some (.string ((rd_T54 l0 x15_1).f4.f2)) ∧ w'.cell? (ad254.add ((x15_1).toNat * 8)) = some (.int .i64 ((rd_T54 l1 x15_1).f0)) ∧ w'.cell? ⟨(ad254.add ((x15_1).toNat * 8)).block, (ad254.add ((x15_1).toNat * 8)).off + 1, none⟩ = some (.string ((rd_T54 l1 x15_1).f1)) ∧ w'.cell? ⟨(ad254.add ((x15_1).toNat * 8)).block, (ad254.add ((x15_1).toNat * 8)).off + 2, none⟩ = some (.int .i64 ((rd_T54 l1 x15_1).f2.f0)) ∧ w'.cell? ⟨(ad254.add ((x15_1).toNat * 8)).block, (ad254.add ((x15_1).toNat * 8)).off + 3, none⟩ = some (.int .i64 ((rd_T54 l1 x15_1).f2.f1)) ∧ w'.cell? ⟨(ad254.add ((x15_1).toNat * 8)).block, (ad254.add ((x15_1).toNat * 8)).off + 4, none⟩ = some (.bool ((rd_T54 l1 x15_1).f3)) ∧ w'.cell? ⟨(ad254.add ((x15_1).toNat * 8)).block, (ad254.add ((x15_1).toNat * 8)).off + 5, none⟩ = some (.int .i64 ((rd_T54 l1 x15_1).f4.f0)) ∧ w'.cell? ⟨(ad254.add ((x15_1).toNat * 8)).block, (ad254.add ((x15_1).toNat * 8)).off + 6, none⟩ = some (.int .i64 ((rd_T54 l1 x15_1).f4.f1)) ∧ w'.cell? ⟨(ad254.add ((x15_1).toNat * 8)).block, (ad254.add ((x15_1).toNat * 8)).off + 7, none⟩ = some (.string ((rd_T54 l1 x15_1).f4.f2))) (ds := []) (tB 0 11) (by kernel_rfl) rfl rfl ⟨((HB.out.cell (World.block_lt_of_cell? w _ hw253_0)).trans hw253_0), ((HB.out.cell (World.block_lt_of_cell? w _ hw253_1)).trans hw253_1), ((HB.out.cell (World.block_lt_of_cell? w _ hw253_2)).trans hw253_2), ((HB.out.cell (World.block_lt_of_cell? w _ hw253_3)).trans hw253_3), ((HB.out.cell (World.block_lt_of_cell? w _ hw253_4)).trans hw253_4), ((HB.out.cell (World.block_lt_of_cell? w _ hw253_5)).trans hw253_5), ((HB.out.cell (World.block_lt_of_cell? w _ hw253_6)).trans hw253_6), ((HB.out.cell (World.block_lt_of_cell? w _ hw253_7)).trans hw253_7), ((HB.out.cell (World.block_lt_of_cell? w _ hw254_0)).trans hw254_0), ((HB.out.cell (World.block_lt_of_cell? w _ hw254_1)).trans hw254_1), ((HB.out.cell (World.block_lt_of_cell? w _ hw254_2)).trans hw254_2), ((HB.out.cell (World.block_lt_of_cell? w _ hw254_3)).trans hw254_3), ((HB.out.cell (World.block_lt_of_cell? w _ hw254_4)).trans hw254_4), ((HB.out.cell (World.block_lt_of_cell? w _ hw254_5)).trans hw254_5), ((HB.out.cell (World.block_lt_of_cell? w _ hw254_6)).trans hw254_6), ((HB.out.cell (World.block_lt_of_cell? w _ hw254_7)).trans hw254_7)⟩ (fun hHeld => ?_); refine with_tabW api_Column_81_f82.tab6 api_Column_81_f82.bits6 (fun HT_ HW_ => ?_)
         generalize wr.drew = w10 at HB hx253_0 hx253_1 hx253_2 hx253_3 hx253_4 hx253_5 hx253_6 hx253_7 hx254_0 hx254_1 hx254_2 hx254_3 hx254_4 hx254_5 hx254_6 hx254_7 hHeld ⊢
         refine pure_ (i := 0) (N := some 18) (v := ?_) (a' := ?_) (tB 1 11) rfl rfl (any_of HT_.out (by kernel_rfl)) (fun _ _ _ h => h) (Or.inl ⟨by rfl, ?_⟩) ?_ ?_
         rotate_left
         ·
          intro w'
          go_simp
          with_reducible rfl
         rotate_left
         ·
          simp only [Act.put, s1_, s2_, s3_, i64_w, i32_w]
          rfl
         refine pure_ (i := 1) (N := some 19) (v := ?_) (a' := ?_) (tB 3 11) rfl rfl (any_of HT_.out (by kernel_rfl)) (fun _ _ _ h => h) (Or.inl ⟨by rfl, ?_⟩) ?_ ?_
         rotate_left
         ·
          intro w'
          go_simp
          with_reducible rfl
         rotate_left
         ·
          simp only [Act.put, s1_, s2_, s3_, i64_w, i32_w]
          rfl
         refine pure_ (i := 2) (N := some 20) (v := ?_) (a' := ?_) (tB 7 11) rfl rfl (any_of HT_.out (by kernel_rfl)) (fun _ _ _ h => h) (Or.inl ⟨by rfl, ?_⟩) ?_ ?_
         rotate_left
         ·
          intro w'
          go_simp
          with_reducible rfl
         rotate_left
         ·
          simp only [Act.put, s1_, s2_, s3_, i64_w, i32_w]
          rfl
         refine pure_ (i := 3) (N := some 21) (v := ?_) (a' := ?_) (tB 15 11) rfl rfl (any_of HT_.out (by kernel_rfl)) (fun _ _ _ h => h) (Or.inl ⟨by rfl, ?_⟩) ?_ ?_
         rotate_left
         ·
          intro w'
          go_simp
          with_reducible rfl
         rotate_left
         ·
          simp only [Act.put, s1_, s2_, s3_, i64_w, i32_w]
          rfl
         refine pure_ (i := 5) (N := some 23) (v := ?_) (a' := ?_) (tB 47 11) rfl rfl (any_of HT_.out (by kernel_rfl)) (fun _ _ _ h => h) (Or.inl ⟨by rfl, ?_⟩) ?_ ?_
         rotate_left
         ·
          intro w'
          go_simp
          with_reducible rfl
         rotate_left
         ·
          simp only [Act.put, s1_, s2_, s3_, i64_w, i32_w]
          rfl
         refine pure_ (i := 6) (N := some 24) (v := ?_) (a' := ?_) (tB 111 11) rfl rfl (any_of HT_.out (by kernel_rfl)) (fun _ _ _ h => h) (Or.inl ⟨by rfl, ?_⟩) ?_ ?_
         rotate_left
         ·
          intro w'
          go_simp
          with_reducible rfl
         rotate_left
         ·
          simp only [Act.put, s1_, s2_, s3_, i64_w, i32_w]
          rfl
         refine pure_ (i := 7) (N := some 25) (v := ?_) (a' := ?_) (tB 239 11) rfl rfl (any_of HT_.out (by kernel_rfl)) (fun _ _ _ h => h) (Or.inl ⟨by rfl, ?_⟩) ?_ ?_
         rotate_left
         ·
          intro w'
          go_simp
          with_reducible rfl
         rotate_left
         ·
          simp only [Act.put, s1_, s2_, s3_, i64_w, i32_w]
          rfl
         refine take_ (i := 4) (N := some 22) (v := ?_) (a' := ?_) (tB 255 11) rfl rfl (take_ofW HT_.out HW_.out (by kernel_rfl)) (fun _ _ _ h => h) (Or.inl ⟨by rfl, ?_⟩) hHeld ?_ ?_
         rotate_left
         ·
          rintro w' ⟨s0, s1, s2, s3, s4, s5, s6, s7, s8, s9, s10, s11, s12, s13, s14, s15⟩
          go_simp
          with_reducible rfl
         rotate_left
         ·
          simp only [Act.put, s1_, s2_, s3_, i64_w, i32_w]
          rfl
         refine take_ (i := 8) (N := some 26) (v := ?_) (a' := ?_) (tB 511 11) rfl rfl (take_ofW HT_.out HW_.out (by kernel_rfl)) (fun _ _ _ h => h) (Or.inl ⟨by rfl, ?_⟩) hHeld ?_ ?_
         rotate_left
         ·
          rintro w' ⟨s0, s1, s2, s3, s4, s5, s6, s7, s8, s9, s10, s11, s12, s13, s14, s15⟩
          go_simp
          with_reducible rfl
         rotate_left
         ·
          simp only [Act.put, s1_, s2_, s3_, i64_w, i32_w]
          rfl
         refine one_ (i := 9) (N := some 27) (tB 1023 11) rfl rfl (one_of HT_.out (by kernel_rfl)) (by decide) (fun K hK => ?_)
         refine goesV_ Tryd.func82 (by kernel_rfl) rfl #[] #[.agg #[.int .i64 ((rd_T54 l0 x15_1).f0), .string ((rd_T54 l0 x15_1).f1), .int .i64 ((rd_T54 l0 x15_1).f2.f0), .int .i64 ((rd_T54 l0 x15_1).f2.f1), .bool ((rd_T54 l0 x15_1).f3), .int .i64 ((rd_T54 l0 x15_1).f4.f0), .int .i64 ((rd_T54 l0 x15_1).f4.f1), .string ((rd_T54 l0 x15_1).f4.f2)], .agg #[.int .i64 ((rd_T54 l1 x15_1).f0), .string ((rd_T54 l1 x15_1).f1), .int .i64 ((rd_T54 l1 x15_1).f2.f0), .int .i64 ((rd_T54 l1 x15_1).f2.f1), .bool ((rd_T54 l1 x15_1).f3), .int .i64 ((rd_T54 l1 x15_1).f4.f0), .int .i64 ((rd_T54 l1 x15_1).f4.f1), .string ((rd_T54 l1 x15_1).f4.f2)]] (by rfl) rfl rfl (by rfl) (by first | rfl | (simp only [List.map_toArray, List.map_cons, List.map_nil]; rfl)) ?_
         with_reducible refine (schema_SameTable_1.calls ((rd_T54 l0 x15_1).f0) ((rd_T54 l0 x15_1).f1) ((rd_T54 l0 x15_1).f2.f0) ((rd_T54 l0 x15_1).f2.f1) ((rd_T54 l0 x15_1).f3) ((rd_T54 l0 x15_1).f4.f0) ((rd_T54 l0 x15_1).f4.f1) ((rd_T54 l0 x15_1).f4.f2) ((rd_T54 l1 x15_1).f0) ((rd_T54 l1 x15_1).f1) ((rd_T54 l1 x15_1).f2.f0) ((rd_T54 l1 x15_1).f2.f1) ((rd_T54 l1 x15_1).f3) ((rd_T54 l1 x15_1).f4.f0) ((rd_T54 l1 x15_1).f4.f1) ((rd_T54 l1 x15_1).f4.f2) true _ A8.out).mono ?_
         rintro e w11 ⟨rfl, hb⟩
         refine ⟨_, rfl, ?_⟩
         have n0_ := aM (bP (by repeat (first | (with_reducible first | exact HB.out | apply bA | apply bN | apply b1) | exact HB.out)) hb)
         clear HB
         have HB := n0_
         clear n0_
         (try clear hb)
         (try clear hb2)
         (try clear hk)
         (try clear hi)
         refine hK.out _ _ ⟨((HB.out.cell (World.block_lt_of_cell? w _ hw253_0)).trans hw253_0), ((HB.out.cell (World.block_lt_of_cell? w _ hw253_1)).trans hw253_1), ((HB.out.cell (World.block_lt_of_cell? w _ hw253_2)).trans hw253_2), ((HB.out.cell (World.block_lt_of_cell? w _ hw253_3)).trans hw253_3), ((HB.out.cell (World.block_lt_of_cell? w _ hw253_4)).trans hw253_4), ((HB.out.cell (World.block_lt_of_cell? w _ hw253_5)).trans hw253_5), ((HB.out.cell (World.block_lt_of_cell? w _ hw253_6)).trans hw253_6), ((HB.out.cell (World.block_lt_of_cell? w _ hw253_7)).trans hw253_7), ((HB.out.cell (World.block_lt_of_cell? w _ hw254_0)).trans hw254_0), ((HB.out.cell (World.block_lt_of_cell? w _ hw254_1)).trans hw254_1), ((HB.out.cell (World.block_lt_of_cell? w _ hw254_2)).trans hw254_2), ((HB.out.cell (World.block_lt_of_cell? w _ hw254_3)).trans hw254_3), ((HB.out.cell (World.block_lt_of_cell? w _ hw254_4)).trans hw254_4), ((HB.out.cell (World.block_lt_of_cell? w _ hw254_5)).trans hw254_5), ((HB.out.cell (World.block_lt_of_cell? w _ hw254_6)).trans hw254_6), ((HB.out.cell (World.block_lt_of_cell? w _ hw254_7)).trans hw254_7)⟩ (fun hHeld => ?_)
         clear hK K
         refine norm_ (a' := ?_) ?_ ?_
         rotate_left
         ·
          show Act.put _ (some 27) _ = _
          simp only [Act.put, s1_, s2_, s3_, i64_w, i32_w]
          rfl
         refine pure_ (i := 10) (N := some 28) (v := ?_) (a' := ?_) (tB 2047 11) rfl rfl (any_of HT_.out (by kernel_rfl)) (fun _ _ _ h => h) (Or.inl ⟨by rfl, ?_⟩) ?_ ?_
         rotate_left
         ·
          intro w'
          go_simp
          with_reducible rfl
         rotate_left
         ·
          simp only [Act.put, s1_, s2_, s3_, i64_w, i32_w]
          rfl
         refine done_ (done_of HT_.out (by kernel_rfl)) ?_
         try go_wp2
         go_roundg k1
         case measure => have := HK1.out; omega
         case rel => exact ⟨(wrap64 (x15_1 + 1)), (by first | rfl | (simp; done) | (simp [*]; done)), H', ⟨by have := HK1.out; omega⟩, ⟨by repeat (first | (with_reducible first | exact HB.out | apply bA | apply bN | apply b1) | exact HB.out)⟩⟩
        ·
         replace c9 := Bool.eq_false_iff.mpr c9
         subst c9
         have H1 : (some false) = some r := by rw [if_neg (show ¬ (false = true) by decide)] at H; exact H
         clear H
         have H := H1
         clear H1
         obtain rfl := Option.some.inj H
         try go_wp2
         have n0_ := aM (b1 HB.out)
         clear HB
         have HB := n0_
         clear n0_
         have p253 : 0 ≤ (x15_1 : Int) := oD (by first | (with_reducible assumption) | assumption)
         have q253 : x15_1 < (l0.length : Int) := oD (by first | (with_reducible assumption) | assumption)
         obtain ⟨ad253, e253, hx253_0, hx253_1, hx253_2, hx253_3, hx253_4, hx253_5, hx253_6, hx253_7⟩ := at_T54 HR0.out x15_1 p253 q253
         have hw253_7 := hx253_7
         have hw253_6 := hx253_6
         have hw253_5 := hx253_5
         have hw253_4 := hx253_4
         have hw253_3 := hx253_3
         have hw253_2 := hx253_2
         have hw253_1 := hx253_1
         have hw253_0 := hx253_0
         cases e253
         replace hx253_0 := pw_cell_below HB.out hx253_0
         replace hx253_1 := pw_cell_below HB.out hx253_1
         replace hx253_2 := pw_cell_below HB.out hx253_2
         replace hx253_3 := pw_cell_below HB.out hx253_3
         replace hx253_4 := pw_cell_below HB.out hx253_4
         replace hx253_5 := pw_cell_below HB.out hx253_5
         replace hx253_6 := pw_cell_below HB.out hx253_6
         replace hx253_7 := pw_cell_below HB.out hx253_7
         replace p253 := eq_true p253
         replace q253 := eq_true q253
         have p254 : 0 ≤ (x15_1 : Int) := oD (by first | (with_reducible assumption) | assumption)
         have q254 : x15_1 < (l1.length : Int) := oD (by first | (with_reducible assumption) | assumption)
         obtain ⟨ad254, e254, hx254_0, hx254_1, hx254_2, hx254_3, hx254_4, hx254_5, hx254_6, hx254_7⟩ := at_T54 HR1.out x15_1 p254 q254
         have hw254_7 := hx254_7
         have hw254_6 := hx254_6
         have hw254_5 := hx254_5
         have hw254_4 := hx254_4
         have hw254_3 := hx254_3
         have hw254_2 := hx254_2
         have hw254_1 := hx254_1
         have hw254_0 := hx254_0
         cases e254
         replace hx254_0 := pw_cell_below HB.out hx254_0
         replace hx254_1 := pw_cell_below HB.out hx254_1
         replace hx254_2 := pw_cell_below HB.out hx254_2
         replace hx254_3 := pw_cell_below HB.out hx254_3
         replace hx254_4 := pw_cell_below HB.out hx254_4
         replace hx254_5 := pw_cell_below HB.out hx254_5
         replace hx254_6 := pw_cell_below HB.out hx254_6
         replace hx254_7 := pw_cell_below HB.out hx254_7
         replace p254 := eq_true p254
         replace q254 := eq_true q254
         refine start_ (n := 11) (S := fun w' => w'.cell? (ad253.add ((x15_1).toNat * 8)) = some (.int .i64 ((rd_T54 l0 x15_1).f0)) ∧ w'.cell? ⟨(ad253.add ((x15_1).toNat * 8)).block, (ad253.add ((x15_1).toNat * 8)).off + 1, none⟩ = some (.string ((rd_T54 l0 x15_1).f1)) ∧ w'.cell? ⟨(ad253.add ((x15_1).toNat * 8)).block, (ad253.add ((x15_1).toNat * 8)).off + 2, none⟩ = some (.int .i64 ((rd_T54 l0 x15_1).f2.f0)) ∧ w'.cell? ⟨(ad253.add ((x15_1).toNat * 8)).block, (ad253.add ((x15_1).toNat * 8)).off + 3, none⟩ = some (.int .i64 ((rd_T54 l0 x15_1).f2.f1)) ∧ w'.cell? ⟨(ad253.add ((x15_1).toNat * 8)).block, (ad253.add ((x15_1).toNat * 8)).off + 4, none⟩ = some (.bool ((rd_T54 l0 x15_1).f3)) ∧ w'.cell? ⟨(ad253.add ((x15_1).toNat * 8)).block, (ad253.add ((x15_1).toNat * 8)).off + 5, none⟩ = some (.int .i64 ((rd_T54 l0 x15_1).f4.f0)) ∧ w'.cell? ⟨(ad253.add ((x15_1).toNat * 8)).block, (ad253.add ((x15_1).toNat * 8)).off + 6, none⟩ = some (.int .i64 ((rd_T54 l0 x15_1).f4.f1)) ∧ w'.cell? ⟨(ad253.add ((x15_1).toNat * 8)).block, (ad253.add ((x15_1).toNat * 8)).off + 7, none⟩ = some (.string ((rd_T54 l0 x15_1).f4.f2)) ∧ w'.cell? (ad254.add ((x15_1).toNat * 8)) = some (.int .i64 ((rd_T54 l1 x15_1).f0)) ∧ w'.cell? ⟨(ad254.add ((x15_1).toNat * 8)).block, (ad254.add ((x15_1).toNat * 8)).off + 1, none⟩ = some (.string ((rd_T54 l1 x15_1).f1)) ∧ w'.cell? ⟨(ad254.add ((x15_1).toNat * 8)).block, (ad254.add ((x15_1).toNat * 8)).off + 2, none⟩ = some (.int .i64 ((rd_T54 l1 x15_1).f2.f0)) ∧ w'.cell? ⟨(ad254.add ((x15_1).toNat * 8)).block, (ad254.add ((x15_1).toNat * 8)).off + 3, none⟩ = some (.int .i64 ((rd_T54 l1 x15_1).f2.f1)) ∧ w'.cell? ⟨(ad254.add ((x15_1).toNat * 8)).block, (ad254.add ((x15_1).toNat * 8)).off + 4, none⟩ = some (.bool ((rd_T54 l1 x15_1).f3)) ∧ w'.cell? ⟨(ad254.add ((x15_1).toNat * 8)).block, (ad254.add ((x15_1).toNat * 8)).off + 5, none⟩ = some (.int .i64 ((rd_T54 l1 x15_1).f4.f0)) ∧ w'.cell? ⟨(ad254.add ((x15_1).toNat * 8)).block, (ad254.add ((x15_1).toNat * 8)).off + 6, none⟩ = some (.int .i64 ((rd_T54 l1 x15_1).f4.f1)) ∧ w'.cell? ⟨(ad254.add ((x15_1).toNat * 8)).block, (ad254.add ((x15_1).toNat * 8)).off + 7, none⟩ = some (.string ((rd_T54 l1 x15_1).f4.f2))) (ds := []) (tB 0 11) (by kernel_rfl) rfl rfl ⟨((HB.out.cell (World.block_lt_of_cell? w _ hw253_0)).trans hw253_0), ((HB.out.cell (World.block_lt_of_cell? w _ hw253_1)).trans hw253_1), ((HB.out.cell (World.block_lt_of_cell? w _ hw253_2)).trans hw253_2), ((HB.out.cell (World.block_lt_of_cell? w _ hw253_3)).trans hw253_3), ((HB.out.cell (World.block_lt_of_cell? w _ hw253_4)).trans hw253_4), ((HB.out.cell (World.block_lt_of_cell? w _ hw253_5)).trans hw253_5), ((HB.out.cell (World.block_lt_of_cell? w _ hw253_6)).trans hw253_6), ((HB.out.cell (World.block_lt_of_cell? w _ hw253_7)).trans hw253_7), ((HB.out.cell (World.block_lt_of_cell? w _ hw254_0)).trans hw254_0), ((HB.out.cell (World.block_lt_of_cell? w _ hw254_1)).trans hw254_1), ((HB.out.cell (World.block_lt_of_cell? w _ hw254_2)).trans hw254_2), ((HB.out.cell (World.block_lt_of_cell? w _ hw254_3)).trans hw254_3), ((HB.out.cell (World.block_lt_of_cell? w _ hw254_4)).trans hw254_4), ((HB.out.cell (World.block_lt_of_cell? w _ hw254_5)).trans hw254_5), ((HB.out.cell (World.block_lt_of_cell? w _ hw254_6)).trans hw254_6), ((HB.out.cell (World.block_lt_of_cell? w _ hw254_7)).trans hw254_7)⟩ (fun hHeld => ?_); refine with_tabW api_Column_81_f82.tab6 api_Column_81_f82.bits6 (fun HT_ HW_ => ?_)
         generalize wr.drew = w12 at HB hx253_0 hx253_1 hx253_2 hx253_3 hx253_4 hx253_5 hx253_6 hx253_7 hx254_0 hx254_1 hx254_2 hx254_3 hx254_4 hx254_5 hx254_6 hx254_7 hHeld ⊢
         refine pure_ (i := 0) (N := some 18) (v := ?_) (a' := ?_) (tB 1 11) rfl rfl (any_of HT_.out (by kernel_rfl)) (fun _ _ _ h => h) (Or.inl ⟨by rfl, ?_⟩) ?_ ?_
         rotate_left
         ·
          intro w'
          go_simp
          with_reducible rfl
         rotate_left
         ·
          simp only [Act.put, s1_, s2_, s3_, i64_w, i32_w]
          rfl
         refine pure_ (i := 1) (N := some 19) (v := ?_) (a' := ?_) (tB 3 11) rfl rfl (any_of HT_.out (by kernel_rfl)) (fun _ _ _ h => h) (Or.inl ⟨by rfl, ?_⟩) ?_ ?_
         rotate_left
         ·
          intro w'
          go_simp
          with_reducible rfl
         rotate_left
         ·
          simp only [Act.put, s1_, s2_, s3_, i64_w, i32_w]
          rfl
         refine pure_ (i := 2) (N := some 20) (v := ?_) (a' := ?_) (tB 7 11) rfl rfl (any_of HT_.out (by kernel_rfl)) (fun _ _ _ h => h) (Or.inl ⟨by rfl, ?_⟩) ?_ ?_
         rotate_left
         ·
          intro w'
          go_simp
          with_reducible rfl
         rotate_left
         ·
          simp only [Act.put, s1_, s2_, s3_, i64_w, i32_w]
          rfl
         refine pure_ (i := 3) (N := some 21) (v := ?_) (a' := ?_) (tB 15 11) rfl rfl (any_of HT_.out (by kernel_rfl)) (fun _ _ _ h => h) (Or.inl ⟨by rfl, ?_⟩) ?_ ?_
         rotate_left
         ·
          intro w'
          go_simp
          with_reducible rfl
         rotate_left
         ·
          simp only [Act.put, s1_, s2_, s3_, i64_w, i32_w]
          rfl
         refine pure_ (i := 5) (N := some 23) (v := ?_) (a' := ?_) (tB 47 11) rfl rfl (any_of HT_.out (by kernel_rfl)) (fun _ _ _ h => h) (Or.inl ⟨by rfl, ?_⟩) ?_ ?_
         rotate_left
         ·
          intro w'
          go_simp
          with_reducible rfl
         rotate_left
         ·
          simp only [Act.put, s1_, s2_, s3_, i64_w, i32_w]
          rfl
         refine pure_ (i := 6) (N := some 24) (v := ?_) (a' := ?_) (tB 111 11) rfl rfl (any_of HT_.out (by kernel_rfl)) (fun _ _ _ h => h) (Or.inl ⟨by rfl, ?_⟩) ?_ ?_
         rotate_left
         ·
          intro w'
          go_simp
          with_reducible rfl
         rotate_left
         ·
          simp only [Act.put, s1_, s2_, s3_, i64_w, i32_w]
          rfl
         refine pure_ (i := 7) (N := some 25) (v := ?_) (a' := ?_) (tB 239 11) rfl rfl (any_of HT_.out (by kernel_rfl)) (fun _ _ _ h => h) (Or.inl ⟨by rfl, ?_⟩) ?_ ?_
         rotate_left
         ·
          intro w'
          go_simp
          with_reducible rfl
         rotate_left
         ·
          simp only [Act.put, s1_, s2_, s3_, i64_w, i32_w]
          rfl
         refine take_ (i := 4) (N := some 22) (v := ?_) (a' := ?_) (tB 255 11) rfl rfl (take_ofW HT_.out HW_.out (by kernel_rfl)) (fun _ _ _ h => h) (Or.inl ⟨by rfl, ?_⟩) hHeld ?_ ?_
         rotate_left
         ·
          rintro w' ⟨s0, s1, s2, s3, s4, s5, s6, s7, s8, s9, s10, s11, s12, s13, s14, s15⟩
          go_simp
          with_reducible rfl
         rotate_left
         ·
          simp only [Act.put, s1_, s2_, s3_, i64_w, i32_w]
          rfl
         refine take_ (i := 8) (N := some 26) (v := ?_) (a' := ?_) (tB 511 11) rfl rfl (take_ofW HT_.out HW_.out (by kernel_rfl)) (fun _ _ _ h => h) (Or.inl ⟨by rfl, ?_⟩) hHeld ?_ ?_
         rotate_left
         ·
          rintro w' ⟨s0, s1, s2, s3, s4, s5, s6, s7, s8, s9, s10, s11, s12, s13, s14, s15⟩
          go_simp
          with_reducible rfl
         rotate_left
         ·
          simp only [Act.put, s1_, s2_, s3_, i64_w, i32_w]
          rfl
         refine one_ (i := 9) (N := some 27) (tB 1023 11) rfl rfl (one_of HT_.out (by kernel_rfl)) (by decide) (fun K hK => ?_)
         refine goesV_ Tryd.func82 (by kernel_rfl) rfl #[] #[.agg #[.int .i64 ((rd_T54 l0 x15_1).f0), .string ((rd_T54 l0 x15_1).f1), .int .i64 ((rd_T54 l0 x15_1).f2.f0), .int .i64 ((rd_T54 l0 x15_1).f2.f1), .bool ((rd_T54 l0 x15_1).f3), .int .i64 ((rd_T54 l0 x15_1).f4.f0), .int .i64 ((rd_T54 l0 x15_1).f4.f1), .string ((rd_T54 l0 x15_1).f4.f2)], .agg #[.int .i64 ((rd_T54 l1 x15_1).f0), .string ((rd_T54 l1 x15_1).f1), .int .i64 ((rd_T54 l1 x15_1).f2.f0), .int .i64 ((rd_T54 l1 x15_1).f2.f1), .bool ((rd_T54 l1 x15_1).f3), .int .i64 ((rd_T54 l1 x15_1).f4.f0), .int .i64 ((rd_T54 l1 x15_1).f4.f1), .string ((rd_T54 l1 x15_1).f4.f2)]] (by rfl) rfl rfl (by rfl) (by first | rfl | (simp only [List.map_toArray, List.map_cons, List.map_nil]; rfl)) ?_
         with_reducible refine (schema_SameTable_1.calls ((rd_T54 l0 x15_1).f0) ((rd_T54 l0 x15_1).f1) ((rd_T54 l0 x15_1).f2.f0) ((rd_T54 l0 x15_1).f2.f1) ((rd_T54 l0 x15_1).f3) ((rd_T54 l0 x15_1).f4.f0) ((rd_T54 l0 x15_1).f4.f1) ((rd_T54 l0 x15_1).f4.f2) ((rd_T54 l1 x15_1).f0) ((rd_T54 l1 x15_1).f1) ((rd_T54 l1 x15_1).f2.f0) ((rd_T54 l1 x15_1).f2.f1) ((rd_T54 l1 x15_1).f3) ((rd_T54 l1 x15_1).f4.f0) ((rd_T54 l1 x15_1).f4.f1) ((rd_T54 l1 x15_1).f4.f2) false _ A8.out).mono ?_
         rintro e w13 ⟨rfl, hb⟩
         refine ⟨_, rfl, ?_⟩
         have n0_ := aM (bP (by repeat (first | (with_reducible first | exact HB.out | apply bA | apply bN | apply b1) | exact HB.out)) hb)
         clear HB
         have HB := n0_
         clear n0_
         (try clear hb)
         (try clear hb2)
         (try clear hk)
         (try clear hi)
         refine hK.out _ _ ⟨((HB.out.cell (World.block_lt_of_cell? w _ hw253_0)).trans hw253_0), ((HB.out.cell (World.block_lt_of_cell? w _ hw253_1)).trans hw253_1), ((HB.out.cell (World.block_lt_of_cell? w _ hw253_2)).trans hw253_2), ((HB.out.cell (World.block_lt_of_cell? w _ hw253_3)).trans hw253_3), ((HB.out.cell (World.block_lt_of_cell? w _ hw253_4)).trans hw253_4), ((HB.out.cell (World.block_lt_of_cell? w _ hw253_5)).trans hw253_5), ((HB.out.cell (World.block_lt_of_cell? w _ hw253_6)).trans hw253_6), ((HB.out.cell (World.block_lt_of_cell? w _ hw253_7)).trans hw253_7), ((HB.out.cell (World.block_lt_of_cell? w _ hw254_0)).trans hw254_0), ((HB.out.cell (World.block_lt_of_cell? w _ hw254_1)).trans hw254_1), ((HB.out.cell (World.block_lt_of_cell? w _ hw254_2)).trans hw254_2), ((HB.out.cell (World.block_lt_of_cell? w _ hw254_3)).trans hw254_3), ((HB.out.cell (World.block_lt_of_cell? w _ hw254_4)).trans hw254_4), ((HB.out.cell (World.block_lt_of_cell? w _ hw254_5)).trans hw254_5), ((HB.out.cell (World.block_lt_of_cell? w _ hw254_6)).trans hw254_6), ((HB.out.cell (World.block_lt_of_cell? w _ hw254_7)).trans hw254_7)⟩ (fun hHeld => ?_)
         clear hK K
         refine norm_ (a' := ?_) ?_ ?_
         rotate_left
         ·
          show Act.put _ (some 27) _ = _
          simp only [Act.put, s1_, s2_, s3_, i64_w, i32_w]
          rfl
         refine pure_ (i := 10) (N := some 28) (v := ?_) (a' := ?_) (tB 2047 11) rfl rfl (any_of HT_.out (by kernel_rfl)) (fun _ _ _ h => h) (Or.inl ⟨by rfl, ?_⟩) ?_ ?_
         rotate_left
         ·
          intro w'
          go_simp
          with_reducible rfl
         rotate_left
         ·
          simp only [Act.put, s1_, s2_, s3_, i64_w, i32_w]
          rfl
         refine done_ (done_of HT_.out (by kernel_rfl)) ?_
         try go_wp2
         go_ret
         exact ⟨by first | rfl | (simp [errW_none, errW_some] <;> rfl) | (simp [*, errW_none, errW_some] <;> rfl), by repeat (first | (with_reducible first | exact HB.out | apply bA | apply bN | apply b1) | exact HB.out)⟩
       ·
        rw [if_neg c7] at H
        exact absurd H (by simp)
      ·
       rw [if_neg c6] at H
       exact absurd H (by simp)
     ·
      rw [if_neg c5] at H
      exact absurd H (by simp)
    ·
     rw [if_neg c4] at H
     have c4b0 : decide (x15_1 < (l0.length : Int)) = false := decide_eq_false c4
     clear c4
     obtain rfl := Option.some.inj H
     go_wp2
     go_ret
     exact ⟨by first | rfl | (simp [errW_none, errW_some] <;> rfl) | (simp [*, errW_none, errW_some] <;> rfl), by repeat (first | (with_reducible first | exact HB.out | apply bA | apply bN | apply b1) | exact HB.out)⟩
 ·
  rw [if_neg c3] at H
  have c3b0 : ((l0.length : Int) == (l1.length : Int)) = false := beq_eq_false_iff_ne.mpr c3
  have c3b1 : ((l0.length : Int) != (l1.length : Int)) = true := bne_iff_ne.mpr c3
  have c3b2 : (l0.length == l1.length) = false := by first | simpa using c3 | (simp at c3 ⊢; omega)
  obtain rfl := Option.some.inj H
  go_enter Tryd.func81, Tryd.ntmps81
  go_wp2
  go_ret
  exact ⟨by first | rfl | (simp [errW_none, errW_some] <;> rfl) | (simp [*, errW_none, errW_some] <;> rfl), by repeat (first | (with_reducible first | exact HB.out | apply bA | apply bN | apply b1) | exact HB.out)⟩
end Go.Proofs.YtdeophpjammbpaaDoor.HSchemaFinds

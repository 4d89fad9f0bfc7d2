/- For Go functions that RowcodeKeys reaches: Lean functions, and walks that show that each call comes to what its Lean function tells; no condition but those that each theorem states. (Made by a program of this session over the kit's print.py.) -/
import Derived.Test.YtdeophpjammbpaaDoorHRowcodeKeysx0
import Derived.Test.YtdeophpjammbpaaDoorHRowcodeKeysx9
import Derived.Test.YtdeophpjammbpaaDoorHRowcodeKeysx10
namespace Go.Proofs.YtdeophpjammbpaaDoor.HRowcodeKeys
open Go.RowKit Go.Proofs.YtdeophpjammbpaaDoorW.PrintWords Go.Proofs.YtdeophpjammbpaaDoorW.PrintLast Go.Proofs.YtdeophpjammbpaaDoorW.PrintMore
attribute [local go_sem] max2_int min2_int max_two min_two max_three min_three max_four min_four   -- for this text's walks alone
set_option linter.unusedVariables false
set_option linter.unusedSimpArgs false
attribute [local go_sem] hp_s8 hp_s16 hp_s32 hp_s64 hp_m8 hp_m16 hp_m32 hp_m64
/-! ### haulageref03_Signs: function 112 -/
def haulageref03_Signs.l0 : Nat → ByteArray → List Int → Option (List Int × Bool)
 | 0, _, _ => none
 | k + 1, x0, x4 => if x0.toList = ([] : List UInt8) then (some (x4, true)) else ((haulageref03_Read.f k x0).bind fun bt239 => (if bt239.2.2 = true then (if x4.length < 17592186044416 then (if 0 ≤ bt239.2.1 then (if bt239.2.1 ≤ (x0.size : Int) then (haulageref03_Signs.l0 k (x0.extract (bt239.2.1 : Int).toNat x0.size) (x4 ++ [bt239.1])) else (none)) else (none)) else (none)) else (some (([] : List Int), false))))
def haulageref03_Signs.f (k : Nat) (a0 : ByteArray) : Option (List Int × Bool) := haulageref03_Signs.l0 k a0 ([] : List Int)
theorem haulageref03_Signs.mono_l : ∀ k, (∀ y0 y1, LeO (haulageref03_Signs.l0 k y0 y1) (haulageref03_Signs.l0 (k + 1) y0 y1))
 | 0 => fun _ _ r h => by simp [haulageref03_Signs.l0] at h
 | k + 1 => by
  have ih0 := haulageref03_Signs.mono_l k
  ·
   intro y0 y1
   unfold haulageref03_Signs.l0
   repeat' first
   | (with_reducible exact ih0 _ _)
   | (with_reducible exact haulageref03_Read.mono _ _)
   | (with_reducible exact LeO.refl _)
   | (with_reducible exact LeO.none _)
   | (with_reducible refine LeO.ite ?_ ?_)
   | (with_reducible refine LeO.bind ?_ (fun _ => ?_))
   | exact ih0 _ _
   | exact haulageref03_Read.mono _ _
   | exact LeO.none _
   | refine LeO.ite ?_ ?_
   | refine LeO.bind ?_ (fun _ => ?_)
theorem haulageref03_Signs.mono : ∀ a0 k, LeO (haulageref03_Signs.f k a0) (haulageref03_Signs.f (k + 1) a0) := by
 intro a0 k
 have ih0 := haulageref03_Signs.mono_l k
 unfold haulageref03_Signs.f
 repeat' first | with_reducible (first | exact ih0 .. | exact haulageref03_Read.mono .. | exact LeO.refl .. | exact LeO.none .. | refine LeO.ite ?_ ?_ | refine LeO.bind ?_ (fun _ => ?_)) | exact ih0 .. | exact haulageref03_Read.mono .. | exact LeO.none .. | refine LeO.ite ?_ ?_ | refine LeO.bind ?_ (fun _ => ?_)
set_option maxHeartbeats 8000000 in
set_option maxRecDepth 100000 in
theorem haulageref03_Signs.calls (k : Nat) (a0 : ByteArray) (r1 : List Int) (r2 : Bool) (w : World) (h : haulageref03_Signs.f k a0 = some (r1, r2)) :
  Calls Tryd.prog 112 #[.string a0] w fun e w' => ∃ v0_ : Value, e = .returned (.tuple #[v0_, .bool r2]) ∧ Kd.R (Kd.int .i64) 3 w' w.heap.size (fun _ => True) v0_ r1 ∧ Below w.heap.size w w' := by
 have HB := aM (Below.refl w.heap.size w)
 have H : (haulageref03_Signs.l0 k a0 ([] : List Int)) = some (r1, r2) := h
 clear h
 have H' := aM H
 clear H
 go_enter Tryd.func112, Tryd.ntmps112
 go_wp2
 go_loopg [0, 4] k (fun kq v0 v4 w' => ∃ (x0_1 : ByteArray) (x4_1 : List Int), v0 = .string x0_1 ∧ Aside0 (haulageref03_Signs.l0 kq x0_1 x4_1 = some (r1, r2)) ∧ Aside0 (kq ≤ k) ∧ Aside0 (Kd.R (Kd.int .i64) 3 w' w.heap.size (fun _ => True) v4 x4_1) ∧ Aside0 (Below w.heap.size w w'))
 case atStart => exact ⟨(a0), (([] : List Int)), yS, H', ⟨Nat.le_refl _⟩, ⟨by first | exact Kd.R_nil _ _ _ _ _ | exact Kd.N_nil _ _ _ _ _ | exact Kd.V_nil _ _ _ _ _ | exact Kd.Q_nil _ _ _ _ _ | exact Kd.S_nil _ _ _ _ _⟩, ⟨yB HB⟩⟩
 case round =>
  clear H'
  obtain ⟨x0_1, x4_1, rfl, HA, HK1, HO_4, HB⟩ := hrel
  cases gk with
  | zero => exact absurd HA.out (by simp [haulageref03_Signs.l0])
  | succ k1 =>
   have H := HA.out
   clear HA
   simp only [haulageref03_Signs.l0] at H
   by_cases c2 : x0_1.toList = ([] : List UInt8)
   ·
    rw [if_pos c2] at H
    have c2b0 : (x0_1.toList == ([] : List UInt8)) = true := beq_iff_eq.mpr c2
    have c2b1 : (x0_1.toList != ([] : List UInt8)) = false := bne_eq_false_iff_eq.mpr c2
    clear c2
    simp only [Option.some.injEq, Prod.mk.injEq] at H
    obtain ⟨rfl, rfl⟩ := H
    go_wp2
    go_ret2
    exact ⟨_, yE, yR HO_4.out, yB HB⟩
   ·
    rw [if_neg c2] at H
    have c2b0 : (x0_1.toList == ([] : List UInt8)) = false := beq_eq_false_iff_ne.mpr c2
    have c2b1 : (x0_1.toList != ([] : List UInt8)) = true := bne_iff_ne.mpr c2
    obtain ⟨⟨t239, t240, t241⟩, A3, H⟩ := yb H
    try dsimp -simprocs only at H
    by_cases c4 : t241 = true
    ·
     subst c4
     replace H := yt H
     by_cases c5 : x4_1.length < 17592186044416
     ·
      rw [if_pos c5] at H
      have LMc5 := aM c5
      clear c5
      obtain ⟨y242, hy242⟩ : ∃ y_ : List Int, y_ = (x4_1 ++ [t239]) := ⟨_, rfl⟩
      replace H : (if 0 ≤ t240 then (if t240 ≤ (x0_1.size : Int) then (haulageref03_Signs.l0 k1 (x0_1.extract (t240 : Int).toNat x0_1.size) y242) else (none)) else (none)) = some (r1, r2) := by first | (rw [hy242]; with_reducible exact H) | (have H2_ := (Option.bind_some _ _).symm.trans H; rw [hy242]; with_reducible exact H2_) | (have H2_ := (Option.bind_some _ _).symm.trans H; with_reducible exact H2_) | with_reducible exact H | (rw [hy242]; exact H) | exact H
      have Ny242 := aM hy242
      clear hy242
      by_cases c6 : 0 ≤ t240
      ·
       rw [if_pos c6] at H
       have c6b0 := eq_true c6
       have c6b1 : decide (0 ≤ t240) = true := decide_eq_true c6
       clear c6
       by_cases c7 : t240 ≤ (x0_1.size : Int)
       ·
        rw [if_pos c7] at H
        have c7b0 := eq_true c7
        have c7b1 : decide (t240 ≤ (x0_1.size : Int)) = true := decide_eq_true c7
        clear c7
        have H' := aM H
        clear H
        go_wp2_with (first | ((with_reducible refine gate_callee (f := 117) rfl ?_); refine yC 12 Tryd.func117 #[.string x0_1] rfl ?_; (with_reducible refine (haulageref03_Read.calls k1 x0_1 t239 t240 true _ A3.out).mono ?_); rintro e w8 ⟨rfl, hb⟩; refine ⟨_, rfl, ?_⟩; replace HO_4 := aM (Kd.R_below (yR HO_4.out) hb); replace HB := aM (bP (yB HB) hb); (try clear hb)) | ((with_reducible refine gate_builtin (b := .append) (xs := #[.tmp 18, .tmp 20]) rfl ?_); at_builtin; refine Kd.R_append (Kd.int .i64) (w0 := w) w.heap.size rfl (.tmp 18) (.tmp 20) 140 3 (.int .i64 0) 8 rfl Tryd.underlying140 info3 rfl (by decide) (by omega) u4 x4_1 t239 [.int .i64 t239] (fun _ => True) (fun _ => False) rfl rfl ?aP (fun _ hk => hk.elim) ?aF ?aO ?aB ?aS ?aL ?_; (case aP => exact rfl); (case aB => exact (yB HB)); (case aF => exact (fun _ _ => trivial)); (case aO => exact (yR HO_4.out)); (case aS => exact (bZ (yB HB))); (case aL => have := LMc5.out; omega); intro v243 w9 ho hb hg hat; rw [← Ny242.out] at ho; have n0_ := aM (hb); have n1_ := aM (ho); clear HB; clear HO_4; have HB := n0_; have HO244 := n1_; clear n0_ n1_; clear ho hb hg hat))
        go_roundg k1
        case measure => have := HK1.out; omega
        case rel => exact ⟨(x0_1.extract (t240 : Int).toNat x0_1.size), (y242), yS, H', ⟨by have := HK1.out; omega⟩, ⟨yR HO244.out⟩, ⟨yB HB⟩⟩
       ·
        rw [if_neg c7] at H
        exact absurd H (by simp)
      ·
       rw [if_neg c6] at H
       exact absurd H (by simp)
     ·
      rw [if_neg c5] at H
      exact absurd H (by simp)
    ·
     replace c4 := Bool.eq_false_iff.mpr c4
     subst c4
     replace H := yf H
     simp only [Option.some.injEq, Prod.mk.injEq] at H
     obtain ⟨rfl, rfl⟩ := H
     go_wp2_with (first | ((with_reducible refine gate_callee (f := 117) rfl ?_); refine yC 12 Tryd.func117 #[.string x0_1] rfl ?_; (with_reducible refine (haulageref03_Read.calls k1 x0_1 t239 t240 false _ A3.out).mono ?_); rintro e w10 ⟨rfl, hb⟩; refine ⟨_, rfl, ?_⟩; replace HO_4 := aM (Kd.R_below (yR HO_4.out) hb); replace HB := aM (bP (yB HB) hb); (try clear hb)))
     go_ret2
     exact ⟨_, yE, by first | exact Kd.R_nil _ _ _ _ _ | exact Kd.N_nil _ _ _ _ _ | exact Kd.V_nil _ _ _ _ _ | exact Kd.Q_nil _ _ _ _ _ | exact Kd.S_nil _ _ _ _ _, yB HB⟩
/-! ### haulageref03_Right: function 104 -/
def haulageref03_Right.f (k : Nat) (a0 : ByteArray) : Option (Bool) := (haulageref03_Signs.f k a0).bind fun bt245 => (some bt245.2)
theorem haulageref03_Right.mono : ∀ a0 k, LeO (haulageref03_Right.f k a0) (haulageref03_Right.f (k + 1) a0) := by
 intro a0 k
 unfold haulageref03_Right.f
 repeat' first | with_reducible (first | exact haulageref03_Signs.mono .. | exact LeO.refl .. | exact LeO.none .. | refine LeO.ite ?_ ?_ | refine LeO.bind ?_ (fun _ => ?_)) | exact haulageref03_Signs.mono .. | exact LeO.none .. | refine LeO.ite ?_ ?_ | refine LeO.bind ?_ (fun _ => ?_)
set_option maxHeartbeats 8000000 in
set_option maxRecDepth 100000 in
theorem haulageref03_Right.calls (k : Nat) (a0 : ByteArray) (r : Bool) (w : World) (h : haulageref03_Right.f k a0 = some r) :
  Calls Tryd.prog 104 #[.string a0] w fun e w' => e = .returned (.bool r) ∧ Below w.heap.size w w' := by
 have HB := aM (Below.refl w.heap.size w)
 have H : ((haulageref03_Signs.f k a0).bind fun bt245 => (some bt245.2)) = some r := h
 clear h
 obtain ⟨⟨t245, t246⟩, A2, H⟩ := yb H
 try dsimp -simprocs only at H
 obtain rfl := Option.some.inj H
 go_enter Tryd.func104, Tryd.ntmps104
 go_wp2_with (first | ((with_reducible refine gate_callee (f := 112) rfl ?_); refine yC 7 Tryd.func112 #[.string a0] rfl ?_; (with_reducible refine (haulageref03_Signs.calls k a0 t245 t246 _ A2.out).mono ?_); rintro e w3 ⟨v247, rfl, ho0, hb⟩; refine ⟨_, rfl, ?_⟩; have HO248 := aM (Kd.R_lower ho0 (bZ (yB HB))); replace HB := aM (bP (yB HB) hb); (try clear hb); (try clear ho0)))
 go_ret
 exact ⟨yE, yB HB⟩
/-! ### haulageref01_Half: function 113 -/
def haulageref01_Half.l0 : Nat → Int → Int → Int → Option (Int)
 | 0, _, _, _ => none
 | k + 1, x0, x3, x4 => if x4 < x0 then (haulageref01_Half.l0 k x0 (wrap64 (2 * x3)) (wrap64 (x4 + 1))) else (some x3)
def haulageref01_Half.f (k : Nat) (a0 : Int) : Option (Int) := haulageref01_Half.l0 k a0 1 1
theorem haulageref01_Half.mono_l : ∀ k, (∀ y0 y1 y2, LeO (haulageref01_Half.l0 k y0 y1 y2) (haulageref01_Half.l0 (k + 1) y0 y1 y2))
 | 0 => fun _ _ _ r h => by simp [haulageref01_Half.l0] at h
 | k + 1 => by
  have ih0 := haulageref01_Half.mono_l k
  ·
   intro y0 y1 y2
   unfold haulageref01_Half.l0
   repeat' first
   | (with_reducible exact ih0 _ _ _)
   | (with_reducible exact LeO.refl _)
   | (with_reducible exact LeO.none _)
   | (with_reducible refine LeO.ite ?_ ?_)
   | (with_reducible refine LeO.bind ?_ (fun _ => ?_))
   | exact ih0 _ _ _
   | exact LeO.none _
   | refine LeO.ite ?_ ?_
   | refine LeO.bind ?_ (fun _ => ?_)
theorem haulageref01_Half.mono : ∀ a0 k, LeO (haulageref01_Half.f k a0) (haulageref01_Half.f (k + 1) a0) := by
 intro a0 k
 have ih0 := haulageref01_Half.mono_l k
 unfold haulageref01_Half.f
 repeat' first | with_reducible (first | exact ih0 .. | exact LeO.refl .. | exact LeO.none .. | refine LeO.ite ?_ ?_ | refine LeO.bind ?_ (fun _ => ?_)) | exact ih0 .. | exact LeO.none .. | refine LeO.ite ?_ ?_ | refine LeO.bind ?_ (fun _ => ?_)
set_option maxHeartbeats 8000000 in
set_option maxRecDepth 100000 in
theorem haulageref01_Half.calls (k : Nat) (a0 : Int) (r : Int) (w : World) (h : haulageref01_Half.f k a0 = some r) :
  Calls Tryd.prog 113 #[.int .i64 a0] w fun e w' => e = .returned (.int .i64 r) ∧ Drawn0 w w' := by
 have H : (haulageref01_Half.l0 k a0 1 1) = some r := h
 clear h
 have H' := aM H
 clear H
 go_enter Tryd.func113, Tryd.ntmps113
 go_wp2
 go_loopg [3, 4] k (fun kq v3 v4 w' => ∃ (x3_1 : Int) (x4_1 : Int), v3 = .int .i64 x3_1 ∧ v4 = .int .i64 x4_1 ∧ Aside0 (haulageref01_Half.l0 kq a0 x3_1 x4_1 = some r) ∧ Aside0 (kq ≤ k) ∧ Drawn0 w w')
 case atStart => exact ⟨(1), (1), yS, yS, H', ⟨Nat.le_refl _⟩, yD⟩
 case round =>
  clear H'
  obtain ⟨x3_1, x4_1, rfl, rfl, HA, HK1, ⟨m1, rfl⟩⟩ := hrel
  cases gk with
  | zero => exact absurd HA.out (by simp [haulageref01_Half.l0])
  | succ k1 =>
   have H := HA.out
   clear HA
   simp only [haulageref01_Half.l0] at H
   by_cases c2 : x4_1 < a0
   ·
    rw [if_pos c2] at H
    have c2b0 : decide (x4_1 < a0) = true := decide_eq_true c2
    clear c2
    have H' := aM H
    clear H
    go_wp2
    go_roundg k1
    case measure => have := HK1.out; omega
    case rel => exact ⟨(wrap64 (2 * x3_1)), (wrap64 (x4_1 + 1)), yS, yS, H', ⟨by have := HK1.out; omega⟩, yD⟩
   ·
    rw [if_neg c2] at H
    have c2b0 : decide (x4_1 < a0) = false := decide_eq_false c2
    clear c2
    obtain rfl := Option.some.inj H
    go_wp2
    go_ret
    exact ⟨yS, yD⟩
/-! ### haulageref01_Fits: function 105 -/
def haulageref01_Fits.j0 : Nat → Int → Int → Bool → Option (Bool)
 | 0, _, _, _ => none
 | k + 1, x0, x1, x10 => if x10 = true then (some false) else (if x1 = 64 then (some true) else ((haulageref01_Half.f k x1).bind fun t249 => (if x0 ≥ (wrap64 (-t249)) then ((haulageref01_Half.f k x1).bind fun t250 => (some (decide (x0 < t250)))) else (some false))))
def haulageref01_Fits.f (k : Nat) (a0 : Int) (a1 : Int) : Option (Bool) := if a1 < 1 then (haulageref01_Fits.j0 k a0 a1 true) else (haulageref01_Fits.j0 k a0 a1 (decide (a1 > 64)))
theorem haulageref01_Fits.mono_l : ∀ k, (∀ y0 y1 y2, LeO (haulageref01_Fits.j0 k y0 y1 y2) (haulageref01_Fits.j0 (k + 1) y0 y1 y2))
 | 0 => fun _ _ _ r h => by simp [haulageref01_Fits.j0] at h
 | k + 1 => by
  have ih0 := haulageref01_Fits.mono_l k
  ·
   intro y0 y1 y2
   unfold haulageref01_Fits.j0
   repeat' first
   | (with_reducible exact ih0 _ _ _)
   | (with_reducible exact haulageref01_Half.mono _ _)
   | (with_reducible exact LeO.refl _)
   | (with_reducible exact LeO.none _)
   | (with_reducible refine LeO.ite ?_ ?_)
   | (with_reducible refine LeO.bind ?_ (fun _ => ?_))
   | exact ih0 _ _ _
   | exact haulageref01_Half.mono _ _
   | exact LeO.none _
   | refine LeO.ite ?_ ?_
   | refine LeO.bind ?_ (fun _ => ?_)
theorem haulageref01_Fits.mono : ∀ a0 a1 k, LeO (haulageref01_Fits.f k a0 a1) (haulageref01_Fits.f (k + 1) a0 a1) := by
 intro a0 a1 k
 have ih0 := haulageref01_Fits.mono_l k
 unfold haulageref01_Fits.f
 repeat' first | with_reducible (first | exact ih0 .. | exact haulageref01_Half.mono .. | exact LeO.refl .. | exact LeO.none .. | refine LeO.ite ?_ ?_ | refine LeO.bind ?_ (fun _ => ?_)) | exact ih0 .. | exact haulageref01_Half.mono .. | exact LeO.none .. | refine LeO.ite ?_ ?_ | refine LeO.bind ?_ (fun _ => ?_)
set_option maxHeartbeats 8000000 in
set_option maxRecDepth 100000 in
theorem haulageref01_Fits.calls (k : Nat) (a0 : Int) (a1 : Int) (r : Bool) (w : World) (h : haulageref01_Fits.f k a0 a1 = some r) :
  Calls Tryd.prog 105 #[.int .i64 a0, .int .i64 a1] w fun e w' => e = .returned (.bool r) ∧ Drawn0 w w' := by
 have H : (if a1 < 1 then (haulageref01_Fits.j0 k a0 a1 true) else (haulageref01_Fits.j0 k a0 a1 (decide (a1 > 64)))) = some r := h
 clear h
 have HC3 := aM H
 clear H
 go_enter Tryd.func105, Tryd.ntmps105
 go_upto_region 1 with (fail)
 go_cut [10] (fun v10 wc => ∃ (kq : Nat) (x10_2 : Bool), v10 = .bool x10_2 ∧ Aside0 (haulageref01_Fits.j0 kq a0 a1 x10_2 = some r) ∧ Aside0 (kq ≤ k) ∧ Drawn0 w wc)
 case first =>
  have H := HC3.out
  clear HC3
  by_cases c4 : a1 < 1
  ·
   rw [if_pos c4] at H
   have c4b0 : decide (a1 < 1) = true := decide_eq_true c4
   clear c4
   (first | rw [c4b0] | (simp only [i64_w, i32_w]; rw [c4b0]) | skip)
   have H' := aM H
   clear H
   go_wp2
   go_meet
   case rel => exact ⟨_, (true), yS, H', ⟨yO⟩, yD⟩
  ·
   rw [if_neg c4] at H
   have c4b0 : decide (a1 < 1) = false := decide_eq_false c4
   clear c4
   (first | rw [c4b0] | (simp only [i64_w, i32_w]; rw [c4b0]) | skip)
   have H' := aM H
   clear H
   go_wp2
   go_meet
   case rel => exact ⟨_, (decide (a1 > 64)), yS, H', ⟨yO⟩, yD⟩
 case rest =>
  clear HC3
  obtain ⟨kq, x10_2, rfl, HA, HJ2, ⟨mc2, rfl⟩⟩ := hcut
  cases kq with
  | zero => exact absurd HA.out (by simp [haulageref01_Fits.j0])
  | succ kj2 =>
   have H := HA.out
   clear HA
   simp only [haulageref01_Fits.j0] at H
   by_cases c5 : x10_2 = true
   ·
    subst c5
    replace H := yt H
    obtain rfl := Option.some.inj H
    go_wp2
    go_ret
    exact ⟨yS, yD⟩
   ·
    replace c5 := Bool.eq_false_iff.mpr c5
    subst c5
    replace H := yf H
    by_cases c6 : a1 = 64
    ·
     rw [if_pos c6] at H
     have c6b0 : (a1 == 64) = true := beq_iff_eq.mpr c6
     have c6b1 : (a1 != 64) = false := bne_eq_false_iff_eq.mpr c6
     clear c6
     obtain rfl := Option.some.inj H
     go_wp2
     go_ret
     exact ⟨yS, yD⟩
    ·
     rw [if_neg c6] at H
     have c6b0 : (a1 == 64) = false := beq_eq_false_iff_ne.mpr c6
     have c6b1 : (a1 != 64) = true := bne_iff_ne.mpr c6
     obtain ⟨t249, A7, H⟩ := yb H
     by_cases c8 : a0 ≥ (wrap64 (-t249))
     ·
      rw [if_pos c8] at H
      have c8b0 : decide ((wrap64 (-t249)) ≤ a0) = true := decide_eq_true c8
      clear c8
      replace H := Option.bind_eq_some_iff.mp H
      obtain ⟨t250, A90, H⟩ := H
      obtain rfl : t249 = t250 := Option.some.inj (A7.out.symm.trans A90)
      replace H : (some (decide (a0 < t249))) = some r := H
      have A9 := aM A90
      clear A90
      obtain rfl := Option.some.inj H
      go_wp2_with (first | (go_at_call 113; (with_reducible refine (haulageref01_Half.calls kj2 a1 t249 _ A7.out).mono ?_); rintro e w' ⟨rfl, ⟨nd, rfl⟩⟩) | (go_at_call 113; (with_reducible refine (haulageref01_Half.calls kj2 a1 t249 _ A9.out).mono ?_); rintro e w' ⟨rfl, ⟨nd, rfl⟩⟩))
      go_ret
      exact ⟨yS, yD⟩
     ·
      rw [if_neg c8] at H
      have c8b0 : decide ((wrap64 (-t249)) ≤ a0) = false := decide_eq_false c8
      clear c8
      obtain rfl := Option.some.inj H
      go_wp2_with (first | (go_at_call 113; (with_reducible refine (haulageref01_Half.calls kj2 a1 t249 _ A7.out).mono ?_); rintro e w' ⟨rfl, ⟨nd, rfl⟩⟩))
      go_ret
      exact ⟨yS, yD⟩
/-! ### haulageref05_Right: function 89 -/
def haulageref05_Right.f (k : Nat) (a0_0 : Int) (a0_1 : Int) (a0_2 : ByteArray) : Option (Bool) := if a0_0 = 0 then (if a0_1 = 0 then (some (a0_2.toList == ([] : List UInt8))) else (some false)) else (if a0_0 = 1 then ((haulageref01_Fits.f k a0_1 32).bind fun t252 => (if t252 = true then (some (a0_2.toList == ([] : List UInt8))) else (some false))) else (if a0_0 = 2 then (some (a0_2.toList == ([] : List UInt8))) else (if a0_0 = 3 then (if a0_1 = 0 then (if (a0_2.size : Int) ≤ 120 then ((haulageref03_Right.f k a0_2).bind fun t253 => (some t253)) else (some false)) else (some false)) else (if a0_0 = 4 then (if a0_1 = 0 then (some (decide ((a0_2.size : Int) ≤ 120))) else (some false)) else (some false)))))
theorem haulageref05_Right.mono : ∀ a0 a1 a2 k, LeO (haulageref05_Right.f k a0 a1 a2) (haulageref05_Right.f (k + 1) a0 a1 a2) := by
 intro a0 a1 a2 k
 unfold haulageref05_Right.f
 repeat' first | with_reducible (first | exact haulageref01_Fits.mono .. | exact haulageref03_Right.mono .. | exact LeO.refl .. | exact LeO.none .. | refine LeO.ite ?_ ?_ | refine LeO.bind ?_ (fun _ => ?_)) | exact haulageref01_Fits.mono .. | exact haulageref03_Right.mono .. | exact LeO.none .. | refine LeO.ite ?_ ?_ | refine LeO.bind ?_ (fun _ => ?_)
set_option maxHeartbeats 8000000 in
set_option maxRecDepth 100000 in
theorem haulageref05_Right.calls (k : Nat) (a0_0 : Int) (a0_1 : Int) (a0_2 : ByteArray) (r : Bool) (w : World) (h : haulageref05_Right.f k a0_0 a0_1 a0_2 = some r) :
  Calls Tryd.prog 89 #[.agg #[.int .i64 a0_0, .int .i64 a0_1, .string a0_2]] w fun e w' => e = .returned (.bool r) ∧ Below w.heap.size w w' := by
 have hu52 := Tryd.underlying52
 have HB := aM (Below.refl w.heap.size w)
 have H : (if a0_0 = 0 then (if a0_1 = 0 then (some (a0_2.toList == ([] : List UInt8))) else (some false)) else (if a0_0 = 1 then ((haulageref01_Fits.f k a0_1 32).bind fun t252 => (if t252 = true then (some (a0_2.toList == ([] : List UInt8))) else (some false))) else (if a0_0 = 2 then (some (a0_2.toList == ([] : List UInt8))) else (if a0_0 = 3 then (if a0_1 = 0 then (if (a0_2.size : Int) ≤ 120 then ((haulageref03_Right.f k a0_2).bind fun t253 => (some t253)) else (some false)) else (some false)) else (if a0_0 = 4 then (if a0_1 = 0 then (some (decide ((a0_2.size : Int) ≤ 120))) else (some false)) else (some false)))))) = some r := h
 clear h
 by_cases c2 : a0_0 = 0
 ·
  rw [if_pos c2] at H
  have c2b0 : (a0_0 == 0) = true := beq_iff_eq.mpr c2
  have c2b1 : (a0_0 != 0) = false := bne_eq_false_iff_eq.mpr c2
  clear c2
  by_cases c3 : a0_1 = 0
  ·
   rw [if_pos c3] at H
   have c3b0 : (a0_1 == 0) = true := beq_iff_eq.mpr c3
   have c3b1 : (a0_1 != 0) = false := bne_eq_false_iff_eq.mpr c3
   clear c3
   obtain rfl := Option.some.inj H
   go_enter Tryd.func89, Tryd.ntmps89
   go_wp2_with (first | ((with_reducible refine gate_dst (N := 1) rfl ?_); (try (refine gate_guard (by rfl) ?_; dsimp only)); refine yX (N := 1) (cs := #[.int .i64 a0_0, .int .i64 a0_1, .string a0_2]) (t := 52) ?_; intro gb251 hg w4 hbox hb; have BK251 := aM (hbox); have GW251 := yZ hg (yB HB); have GE251 := yZ hg (yB HB); replace HB := aM (bP (yB HB) hb); clear hb hbox hg; obtain ⟨hcz5_0, hcz5_1, hcz5_2, hfz5_0, hfz5_1, hfz5_2⟩ := cells3 BK251.out))
   go_ret
   exact ⟨yE, yG1 HB GE251.out⟩
  ·
   rw [if_neg c3] at H
   have c3b0 : (a0_1 == 0) = false := beq_eq_false_iff_ne.mpr c3
   have c3b1 : (a0_1 != 0) = true := bne_iff_ne.mpr c3
   obtain rfl := Option.some.inj H
   go_enter Tryd.func89, Tryd.ntmps89
   go_wp2_with (first | ((with_reducible refine gate_dst (N := 1) rfl ?_); (try (refine gate_guard (by rfl) ?_; dsimp only)); refine yX (N := 1) (cs := #[.int .i64 a0_0, .int .i64 a0_1, .string a0_2]) (t := 52) ?_; intro gb251 hg w6 hbox hb; have BK251 := aM (hbox); have GW251 := yZ hg (yB HB); have GE251 := yZ hg (yB HB); replace HB := aM (bP (yB HB) hb); clear hb hbox hg; obtain ⟨hcz7_0, hcz7_1, hcz7_2, hfz7_0, hfz7_1, hfz7_2⟩ := cells3 BK251.out))
   go_ret
   exact ⟨yE, yG1 HB GE251.out⟩
 ·
  rw [if_neg c2] at H
  have c2b0 : (a0_0 == 0) = false := beq_eq_false_iff_ne.mpr c2
  have c2b1 : (a0_0 != 0) = true := bne_iff_ne.mpr c2
  by_cases c8 : a0_0 = 1
  ·
   rw [if_pos c8] at H
   have c8b0 : (a0_0 == 1) = true := beq_iff_eq.mpr c8
   have c8b1 : (a0_0 != 1) = false := bne_eq_false_iff_eq.mpr c8
   clear c8
   obtain ⟨t252, A9, H⟩ := yb H
   by_cases c10 : t252 = true
   ·
    subst c10
    replace H := yt H
    obtain rfl := Option.some.inj H
    go_enter Tryd.func89, Tryd.ntmps89
    go_wp2_with (first | ((with_reducible refine gate_dst (N := 1) rfl ?_); (try (refine gate_guard (by rfl) ?_; dsimp only)); refine yX (N := 1) (cs := #[.int .i64 a0_0, .int .i64 a0_1, .string a0_2]) (t := 52) ?_; intro gb251 hg w11 hbox hb; have BK251 := aM (hbox); have GW251 := yZ hg (yB HB); have GE251 := yZ hg (yB HB); replace HB := aM (bP (yB HB) hb); clear hb hbox hg; obtain ⟨hcz12_0, hcz12_1, hcz12_2, hfz12_0, hfz12_1, hfz12_2⟩ := cells3 BK251.out) | ((with_reducible refine gate_callee (f := 105) rfl ?_); refine yC 19 Tryd.func105 #[.int .i64 a0_1, .int .i64 32] rfl ?_; (with_reducible refine (haulageref01_Fits.calls k a0_1 32 true _ A9.out).mono ?_); rintro e w' ⟨rfl, ⟨nd, rfl⟩⟩; refine ⟨_, rfl, ?_⟩))
    go_ret
    exact ⟨yE, yG1 HB GE251.out⟩
   ·
    replace c10 := Bool.eq_false_iff.mpr c10
    subst c10
    replace H := yf H
    obtain rfl := Option.some.inj H
    go_enter Tryd.func89, Tryd.ntmps89
    go_wp2_with (first | ((with_reducible refine gate_dst (N := 1) rfl ?_); (try (refine gate_guard (by rfl) ?_; dsimp only)); refine yX (N := 1) (cs := #[.int .i64 a0_0, .int .i64 a0_1, .string a0_2]) (t := 52) ?_; intro gb251 hg w13 hbox hb; have BK251 := aM (hbox); have GW251 := yZ hg (yB HB); have GE251 := yZ hg (yB HB); replace HB := aM (bP (yB HB) hb); clear hb hbox hg; obtain ⟨hcz14_0, hcz14_1, hcz14_2, hfz14_0, hfz14_1, hfz14_2⟩ := cells3 BK251.out) | ((with_reducible refine gate_callee (f := 105) rfl ?_); refine yC 19 Tryd.func105 #[.int .i64 a0_1, .int .i64 32] rfl ?_; (with_reducible refine (haulageref01_Fits.calls k a0_1 32 false _ A9.out).mono ?_); rintro e w' ⟨rfl, ⟨nd, rfl⟩⟩; refine ⟨_, rfl, ?_⟩))
    go_ret
    exact ⟨yE, yG1 HB GE251.out⟩
  ·
   rw [if_neg c8] at H
   have c8b0 : (a0_0 == 1) = false := beq_eq_false_iff_ne.mpr c8
   have c8b1 : (a0_0 != 1) = true := bne_iff_ne.mpr c8
   by_cases c15 : a0_0 = 2
   ·
    rw [if_pos c15] at H
    have c15b0 : (a0_0 == 2) = true := beq_iff_eq.mpr c15
    have c15b1 : (a0_0 != 2) = false := bne_eq_false_iff_eq.mpr c15
    clear c15
    obtain rfl := Option.some.inj H
    go_enter Tryd.func89, Tryd.ntmps89
    go_wp2_with (first | ((with_reducible refine gate_dst (N := 1) rfl ?_); (try (refine gate_guard (by rfl) ?_; dsimp only)); refine yX (N := 1) (cs := #[.int .i64 a0_0, .int .i64 a0_1, .string a0_2]) (t := 52) ?_; intro gb251 hg w16 hbox hb; have BK251 := aM (hbox); have GW251 := yZ hg (yB HB); have GE251 := yZ hg (yB HB); replace HB := aM (bP (yB HB) hb); clear hb hbox hg; obtain ⟨hcz17_0, hcz17_1, hcz17_2, hfz17_0, hfz17_1, hfz17_2⟩ := cells3 BK251.out))
    go_ret
    exact ⟨yE, yG1 HB GE251.out⟩
   ·
    rw [if_neg c15] at H
    have c15b0 : (a0_0 == 2) = false := beq_eq_false_iff_ne.mpr c15
    have c15b1 : (a0_0 != 2) = true := bne_iff_ne.mpr c15
    by_cases c18 : a0_0 = 3
    ·
     rw [if_pos c18] at H
     have c18b0 : (a0_0 == 3) = true := beq_iff_eq.mpr c18
     have c18b1 : (a0_0 != 3) = false := bne_eq_false_iff_eq.mpr c18
     clear c18
     by_cases c19 : a0_1 = 0
     ·
      rw [if_pos c19] at H
      have c19b0 : (a0_1 == 0) = true := beq_iff_eq.mpr c19
      have c19b1 : (a0_1 != 0) = false := bne_eq_false_iff_eq.mpr c19
      clear c19
      by_cases c20 : (a0_2.size : Int) ≤ 120
      ·
       rw [if_pos c20] at H
       have c20b0 : decide ((a0_2.size : Int) ≤ 120) = true := decide_eq_true c20
       have c20b1 : decide (a0_2.size ≤ 120) = true := decide_eq_true (by omega)
       clear c20
       obtain ⟨t253, A21, H⟩ := yb H
       obtain rfl := Option.some.inj H
       go_enter Tryd.func89, Tryd.ntmps89
       go_wp2_with (first | ((with_reducible refine gate_dst (N := 1) rfl ?_); (try (refine gate_guard (by rfl) ?_; dsimp only)); refine yX (N := 1) (cs := #[.int .i64 a0_0, .int .i64 a0_1, .string a0_2]) (t := 52) ?_; intro gb251 hg w22 hbox hb; have BK251 := aM (hbox); have GW251 := yZ hg (yB HB); have GE251 := yZ hg (yB HB); replace HB := aM (bP (yB HB) hb); clear hb hbox hg; obtain ⟨hcz23_0, hcz23_1, hcz23_2, hfz23_0, hfz23_1, hfz23_2⟩ := cells3 BK251.out) | (go_at_call 104; (with_reducible refine (haulageref03_Right.calls k a0_2 t253 _ A21.out).mono ?_); rintro e w24 ⟨rfl, hb⟩; replace BK251 := aM (kB (yK BK251) hb); replace HB := aM (bP (yG1 HB GE251.out) hb); (try clear hb)))
       go_ret
       exact ⟨yE, yG1 HB GE251.out⟩
      ·
       rw [if_neg c20] at H
       have c20b0 : decide ((a0_2.size : Int) ≤ 120) = false := decide_eq_false c20
       have c20b1 : decide (a0_2.size ≤ 120) = false := decide_eq_false (by omega)
       clear c20
       obtain rfl := Option.some.inj H
       go_enter Tryd.func89, Tryd.ntmps89
       go_wp2_with (first | ((with_reducible refine gate_dst (N := 1) rfl ?_); (try (refine gate_guard (by rfl) ?_; dsimp only)); refine yX (N := 1) (cs := #[.int .i64 a0_0, .int .i64 a0_1, .string a0_2]) (t := 52) ?_; intro gb251 hg w25 hbox hb; have BK251 := aM (hbox); have GW251 := yZ hg (yB HB); have GE251 := yZ hg (yB HB); replace HB := aM (bP (yB HB) hb); clear hb hbox hg; obtain ⟨hcz26_0, hcz26_1, hcz26_2, hfz26_0, hfz26_1, hfz26_2⟩ := cells3 BK251.out))
       go_ret
       exact ⟨yE, yG1 HB GE251.out⟩
     ·
      rw [if_neg c19] at H
      have c19b0 : (a0_1 == 0) = false := beq_eq_false_iff_ne.mpr c19
      have c19b1 : (a0_1 != 0) = true := bne_iff_ne.mpr c19
      obtain rfl := Option.some.inj H
      go_enter Tryd.func89, Tryd.ntmps89
      go_wp2_with (first | ((with_reducible refine gate_dst (N := 1) rfl ?_); (try (refine gate_guard (by rfl) ?_; dsimp only)); refine yX (N := 1) (cs := #[.int .i64 a0_0, .int .i64 a0_1, .string a0_2]) (t := 52) ?_; intro gb251 hg w27 hbox hb; have BK251 := aM (hbox); have GW251 := yZ hg (yB HB); have GE251 := yZ hg (yB HB); replace HB := aM (bP (yB HB) hb); clear hb hbox hg; obtain ⟨hcz28_0, hcz28_1, hcz28_2, hfz28_0, hfz28_1, hfz28_2⟩ := cells3 BK251.out))
      go_ret
      exact ⟨yE, yG1 HB GE251.out⟩
    ·
     rw [if_neg c18] at H
     have c18b0 : (a0_0 == 3) = false := beq_eq_false_iff_ne.mpr c18
     have c18b1 : (a0_0 != 3) = true := bne_iff_ne.mpr c18
     by_cases c29 : a0_0 = 4
     ·
      rw [if_pos c29] at H
      have c29b0 : (a0_0 == 4) = true := beq_iff_eq.mpr c29
      have c29b1 : (a0_0 != 4) = false := bne_eq_false_iff_eq.mpr c29
      clear c29
      by_cases c30 : a0_1 = 0
      ·
       rw [if_pos c30] at H
       have c30b0 : (a0_1 == 0) = true := beq_iff_eq.mpr c30
       have c30b1 : (a0_1 != 0) = false := bne_eq_false_iff_eq.mpr c30
       clear c30
       obtain rfl := Option.some.inj H
       go_enter Tryd.func89, Tryd.ntmps89
       go_wp2_with (first | ((with_reducible refine gate_dst (N := 1) rfl ?_); (try (refine gate_guard (by rfl) ?_; dsimp only)); refine yX (N := 1) (cs := #[.int .i64 a0_0, .int .i64 a0_1, .string a0_2]) (t := 52) ?_; intro gb251 hg w31 hbox hb; have BK251 := aM (hbox); have GW251 := yZ hg (yB HB); have GE251 := yZ hg (yB HB); replace HB := aM (bP (yB HB) hb); clear hb hbox hg; obtain ⟨hcz32_0, hcz32_1, hcz32_2, hfz32_0, hfz32_1, hfz32_2⟩ := cells3 BK251.out))
       go_ret
       exact ⟨yE, yG1 HB GE251.out⟩
      ·
       rw [if_neg c30] at H
       have c30b0 : (a0_1 == 0) = false := beq_eq_false_iff_ne.mpr c30
       have c30b1 : (a0_1 != 0) = true := bne_iff_ne.mpr c30
       obtain rfl := Option.some.inj H
       go_enter Tryd.func89, Tryd.ntmps89
       go_wp2_with (first | ((with_reducible refine gate_dst (N := 1) rfl ?_); (try (refine gate_guard (by rfl) ?_; dsimp only)); refine yX (N := 1) (cs := #[.int .i64 a0_0, .int .i64 a0_1, .string a0_2]) (t := 52) ?_; intro gb251 hg w33 hbox hb; have BK251 := aM (hbox); have GW251 := yZ hg (yB HB); have GE251 := yZ hg (yB HB); replace HB := aM (bP (yB HB) hb); clear hb hbox hg; obtain ⟨hcz34_0, hcz34_1, hcz34_2, hfz34_0, hfz34_1, hfz34_2⟩ := cells3 BK251.out))
       go_ret
       exact ⟨yE, yG1 HB GE251.out⟩
     ·
      rw [if_neg c29] at H
      have c29b0 : (a0_0 == 4) = false := beq_eq_false_iff_ne.mpr c29
      have c29b1 : (a0_0 != 4) = true := bne_iff_ne.mpr c29
      obtain rfl := Option.some.inj H
      go_enter Tryd.func89, Tryd.ntmps89
      go_wp2_with (first | ((with_reducible refine gate_dst (N := 1) rfl ?_); (try (refine gate_guard (by rfl) ?_; dsimp only)); refine yX (N := 1) (cs := #[.int .i64 a0_0, .int .i64 a0_1, .string a0_2]) (t := 52) ?_; intro gb251 hg w35 hbox hb; have BK251 := aM (hbox); have GW251 := yZ hg (yB HB); have GE251 := yZ hg (yB HB); replace HB := aM (bP (yB HB) hb); clear hb hbox hg; obtain ⟨hcz36_0, hcz36_1, hcz36_2, hfz36_0, hfz36_1, hfz36_2⟩ := cells3 BK251.out))
      go_ret
      exact ⟨yE, yG1 HB GE251.out⟩
/-! ### haulageref06_Fits: function 57 -/
def haulageref06_Fits.f (k : Nat) (a0_0 : Int) (a0_1 : Int) (a1_0 : Int) (a1_1 : Int) (a1_2 : ByteArray) : Option (Bool) := (haulageref06_Right.f a0_0 a0_1).bind fun t256 => (if t256 = true then ((haulageref05_Right.f k a1_0 a1_1 a1_2).bind fun t257 => (if t257 = true then (if a1_0 = a0_0 then (if a0_0 < 3 then (some true) else (some (decide ((a1_2.size : Int) ≤ a0_1)))) else (some false)) else (some false))) else (some false))
theorem haulageref06_Fits.mono : ∀ a0 a1 a2 a3 a4 k, LeO (haulageref06_Fits.f k a0 a1 a2 a3 a4) (haulageref06_Fits.f (k + 1) a0 a1 a2 a3 a4) := by
 intro a0 a1 a2 a3 a4 k
 unfold haulageref06_Fits.f
 repeat' first | with_reducible (first | exact haulageref05_Right.mono .. | exact LeO.refl .. | exact LeO.none .. | refine LeO.ite ?_ ?_ | refine LeO.bind ?_ (fun _ => ?_)) | exact haulageref05_Right.mono .. | exact LeO.none .. | refine LeO.ite ?_ ?_ | refine LeO.bind ?_ (fun _ => ?_)
set_option maxHeartbeats 8000000 in
set_option maxRecDepth 100000 in
theorem haulageref06_Fits.calls (k : Nat) (a0_0 : Int) (a0_1 : Int) (a1_0 : Int) (a1_1 : Int) (a1_2 : ByteArray) (r : Bool) (w : World) (h : haulageref06_Fits.f k a0_0 a0_1 a1_0 a1_1 a1_2 = some r) :
  Calls Tryd.prog 57 #[.agg #[.int .i64 a0_0, .int .i64 a0_1], .agg #[.int .i64 a1_0, .int .i64 a1_1, .string a1_2]] w fun e w' => e = .returned (.bool r) ∧ Below w.heap.size w w' := by
 have hu50 := Tryd.underlying50
 have hu52 := Tryd.underlying52
 have HB := aM (Below.refl w.heap.size w)
 have H : ((haulageref06_Right.f a0_0 a0_1).bind fun t256 => (if t256 = true then ((haulageref05_Right.f k a1_0 a1_1 a1_2).bind fun t257 => (if t257 = true then (if a1_0 = a0_0 then (if a0_0 < 3 then (some true) else (some (decide ((a1_2.size : Int) ≤ a0_1)))) else (some false)) else (some false))) else (some false))) = some r := h
 clear h
 obtain ⟨t256, A3, H⟩ := yb H
 by_cases c4 : t256 = true
 ·
  subst c4
  replace H := yt H
  obtain ⟨t257, A5, H⟩ := yb H
  by_cases c6 : t257 = true
  ·
   subst c6
   replace H := yt H
   by_cases c7 : a1_0 = a0_0
   ·
    rw [if_pos c7] at H
    have c7b0 : (a1_0 == a0_0) = true := beq_iff_eq.mpr c7
    have c7b1 : (a1_0 != a0_0) = false := bne_eq_false_iff_eq.mpr c7
    clear c7
    by_cases c8 : a0_0 < 3
    ·
     rw [if_pos c8] at H
     have c8b0 : decide (a0_0 < 3) = true := decide_eq_true c8
     clear c8
     obtain rfl := Option.some.inj H
     go_enter Tryd.func57, Tryd.ntmps57
     go_wp2_with (first | ((with_reducible refine gate_dst (N := 2) rfl ?_); (try (refine gate_guard (by rfl) ?_; dsimp only)); refine yX (N := 2) (cs := #[.int .i64 a0_0, .int .i64 a0_1]) (t := 50) ?_; intro gb254 hg w9 hbox hb; have BK254 := aM (hbox); have GW254 := yZ hg (yB HB); have GE254 := yZ hg (yB HB); replace HB := aM (bP (yB HB) hb); clear hb hbox hg) | ((with_reducible refine gate_dst (N := 3) rfl ?_); (try (refine gate_guard (by rfl) ?_; dsimp only)); refine yX (N := 3) (cs := #[.int .i64 a1_0, .int .i64 a1_1, .string a1_2]) (t := 52) ?_; intro gb255 hg w10 hbox hb; have BK255 := aM (hbox); have GW255 := yZ hg (yG1 HB GE254.out); have GE255 := yZ hg (yG1 HB GE254.out); replace HB := aM (bP (yG1 HB GE254.out) hb); have NB254_255 := yN hg (yK BK254); have NB255_254 := yM hg (yK BK254); replace BK254 := aM (kB (yK BK254) hb); clear hb hbox hg; have hnb11 := NB254_255.out; have hnc11 := NB255_254.out; obtain ⟨hcz12_0, hcz12_1, hfz12_0, hfz12_1⟩ := cells2 BK254.out) | ((with_reducible refine gate_callee (f := 72) rfl ?_); refine yC 6 Tryd.func72 #[.agg #[.int .i64 a0_0, .int .i64 a0_1]] rfl ?_; (with_reducible refine (haulageref06_Right.calls a0_0 a0_1 true _ A3.out).mono ?_); rintro e w13 ⟨rfl, hb⟩; refine ⟨_, rfl, ?_⟩; replace BK254 := aM (kB (yK BK254) hb); replace BK255 := aM (kB (yK BK255) hb); replace HB := aM (bP (yG2 HB GE254.out GE255.out) hb); (try clear hb); obtain ⟨hcz14_0, hcz14_1, hcz14_2, hfz14_0, hfz14_1, hfz14_2⟩ := cells3 BK255.out) | (go_at_call 89; (with_reducible refine (haulageref05_Right.calls k a1_0 a1_1 a1_2 true _ A5.out).mono ?_); rintro e w15 ⟨rfl, hb⟩; replace BK254 := aM (kB (yK BK254) hb); replace BK255 := aM (kB (yK BK255) hb); replace HB := aM (bP (yG2 HB GE254.out GE255.out) hb); (try clear hb); obtain ⟨hcz16_0, hcz16_1, hcz16_2, hfz16_0, hfz16_1, hfz16_2⟩ := cells3 BK255.out; obtain ⟨hcz17_0, hcz17_1, hfz17_0, hfz17_1⟩ := cells2 BK254.out))
     go_ret
     exact ⟨yE, yG2 HB GE254.out GE255.out⟩
    ·
     rw [if_neg c8] at H
     have c8b0 : decide (a0_0 < 3) = false := decide_eq_false c8
     clear c8
     obtain rfl := Option.some.inj H
     go_enter Tryd.func57, Tryd.ntmps57
     go_wp2_with (first | ((with_reducible refine gate_dst (N := 2) rfl ?_); (try (refine gate_guard (by rfl) ?_; dsimp only)); refine yX (N := 2) (cs := #[.int .i64 a0_0, .int .i64 a0_1]) (t := 50) ?_; intro gb254 hg w18 hbox hb; have BK254 := aM (hbox); have GW254 := yZ hg (yB HB); have GE254 := yZ hg (yB HB); replace HB := aM (bP (yB HB) hb); clear hb hbox hg) | ((with_reducible refine gate_dst (N := 3) rfl ?_); (try (refine gate_guard (by rfl) ?_; dsimp only)); refine yX (N := 3) (cs := #[.int .i64 a1_0, .int .i64 a1_1, .string a1_2]) (t := 52) ?_; intro gb255 hg w19 hbox hb; have BK255 := aM (hbox); have GW255 := yZ hg (yG1 HB GE254.out); have GE255 := yZ hg (yG1 HB GE254.out); replace HB := aM (bP (yG1 HB GE254.out) hb); have NB254_255 := yN hg (yK BK254); have NB255_254 := yM hg (yK BK254); replace BK254 := aM (kB (yK BK254) hb); clear hb hbox hg; have hnb20 := NB254_255.out; have hnc20 := NB255_254.out; obtain ⟨hcz21_0, hcz21_1, hfz21_0, hfz21_1⟩ := cells2 BK254.out) | ((with_reducible refine gate_callee (f := 72) rfl ?_); refine yC 6 Tryd.func72 #[.agg #[.int .i64 a0_0, .int .i64 a0_1]] rfl ?_; (with_reducible refine (haulageref06_Right.calls a0_0 a0_1 true _ A3.out).mono ?_); rintro e w22 ⟨rfl, hb⟩; refine ⟨_, rfl, ?_⟩; replace BK254 := aM (kB (yK BK254) hb); replace BK255 := aM (kB (yK BK255) hb); replace HB := aM (bP (yG2 HB GE254.out GE255.out) hb); (try clear hb); obtain ⟨hcz23_0, hcz23_1, hcz23_2, hfz23_0, hfz23_1, hfz23_2⟩ := cells3 BK255.out) | (go_at_call 89; (with_reducible refine (haulageref05_Right.calls k a1_0 a1_1 a1_2 true _ A5.out).mono ?_); rintro e w24 ⟨rfl, hb⟩; replace BK254 := aM (kB (yK BK254) hb); replace BK255 := aM (kB (yK BK255) hb); replace HB := aM (bP (yG2 HB GE254.out GE255.out) hb); (try clear hb); obtain ⟨hcz25_0, hcz25_1, hcz25_2, hfz25_0, hfz25_1, hfz25_2⟩ := cells3 BK255.out; obtain ⟨hcz26_0, hcz26_1, hfz26_0, hfz26_1⟩ := cells2 BK254.out))
     go_ret
     exact ⟨yE, yG2 HB GE254.out GE255.out⟩
   ·
    rw [if_neg c7] at H
    have c7b0 : (a1_0 == a0_0) = false := beq_eq_false_iff_ne.mpr c7
    have c7b1 : (a1_0 != a0_0) = true := bne_iff_ne.mpr c7
    obtain rfl := Option.some.inj H
    go_enter Tryd.func57, Tryd.ntmps57
    go_wp2_with (first | ((with_reducible refine gate_dst (N := 2) rfl ?_); (try (refine gate_guard (by rfl) ?_; dsimp only)); refine yX (N := 2) (cs := #[.int .i64 a0_0, .int .i64 a0_1]) (t := 50) ?_; intro gb254 hg w27 hbox hb; have BK254 := aM (hbox); have GW254 := yZ hg (yB HB); have GE254 := yZ hg (yB HB); replace HB := aM (bP (yB HB) hb); clear hb hbox hg) | ((with_reducible refine gate_dst (N := 3) rfl ?_); (try (refine gate_guard (by rfl) ?_; dsimp only)); refine yX (N := 3) (cs := #[.int .i64 a1_0, .int .i64 a1_1, .string a1_2]) (t := 52) ?_; intro gb255 hg w28 hbox hb; have BK255 := aM (hbox); have GW255 := yZ hg (yG1 HB GE254.out); have GE255 := yZ hg (yG1 HB GE254.out); replace HB := aM (bP (yG1 HB GE254.out) hb); have NB254_255 := yN hg (yK BK254); have NB255_254 := yM hg (yK BK254); replace BK254 := aM (kB (yK BK254) hb); clear hb hbox hg; have hnb29 := NB254_255.out; have hnc29 := NB255_254.out; obtain ⟨hcz30_0, hcz30_1, hfz30_0, hfz30_1⟩ := cells2 BK254.out) | ((with_reducible refine gate_callee (f := 72) rfl ?_); refine yC 6 Tryd.func72 #[.agg #[.int .i64 a0_0, .int .i64 a0_1]] rfl ?_; (with_reducible refine (haulageref06_Right.calls a0_0 a0_1 true _ A3.out).mono ?_); rintro e w31 ⟨rfl, hb⟩; refine ⟨_, rfl, ?_⟩; replace BK254 := aM (kB (yK BK254) hb); replace BK255 := aM (kB (yK BK255) hb); replace HB := aM (bP (yG2 HB GE254.out GE255.out) hb); (try clear hb); obtain ⟨hcz32_0, hcz32_1, hcz32_2, hfz32_0, hfz32_1, hfz32_2⟩ := cells3 BK255.out) | (go_at_call 89; (with_reducible refine (haulageref05_Right.calls k a1_0 a1_1 a1_2 true _ A5.out).mono ?_); rintro e w33 ⟨rfl, hb⟩; replace BK254 := aM (kB (yK BK254) hb); replace BK255 := aM (kB (yK BK255) hb); replace HB := aM (bP (yG2 HB GE254.out GE255.out) hb); (try clear hb); obtain ⟨hcz34_0, hcz34_1, hcz34_2, hfz34_0, hfz34_1, hfz34_2⟩ := cells3 BK255.out; obtain ⟨hcz35_0, hcz35_1, hfz35_0, hfz35_1⟩ := cells2 BK254.out))
    go_ret
    exact ⟨yE, yG2 HB GE254.out GE255.out⟩
  ·
   replace c6 := Bool.eq_false_iff.mpr c6
   subst c6
   replace H := yf H
   obtain rfl := Option.some.inj H
   go_enter Tryd.func57, Tryd.ntmps57
   go_wp2_with (first | ((with_reducible refine gate_dst (N := 2) rfl ?_); (try (refine gate_guard (by rfl) ?_; dsimp only)); refine yX (N := 2) (cs := #[.int .i64 a0_0, .int .i64 a0_1]) (t := 50) ?_; intro gb254 hg w36 hbox hb; have BK254 := aM (hbox); have GW254 := yZ hg (yB HB); have GE254 := yZ hg (yB HB); replace HB := aM (bP (yB HB) hb); clear hb hbox hg) | ((with_reducible refine gate_dst (N := 3) rfl ?_); (try (refine gate_guard (by rfl) ?_; dsimp only)); refine yX (N := 3) (cs := #[.int .i64 a1_0, .int .i64 a1_1, .string a1_2]) (t := 52) ?_; intro gb255 hg w37 hbox hb; have BK255 := aM (hbox); have GW255 := yZ hg (yG1 HB GE254.out); have GE255 := yZ hg (yG1 HB GE254.out); replace HB := aM (bP (yG1 HB GE254.out) hb); have NB254_255 := yN hg (yK BK254); have NB255_254 := yM hg (yK BK254); replace BK254 := aM (kB (yK BK254) hb); clear hb hbox hg; have hnb38 := NB254_255.out; have hnc38 := NB255_254.out; obtain ⟨hcz39_0, hcz39_1, hfz39_0, hfz39_1⟩ := cells2 BK254.out) | ((with_reducible refine gate_callee (f := 72) rfl ?_); refine yC 6 Tryd.func72 #[.agg #[.int .i64 a0_0, .int .i64 a0_1]] rfl ?_; (with_reducible refine (haulageref06_Right.calls a0_0 a0_1 true _ A3.out).mono ?_); rintro e w40 ⟨rfl, hb⟩; refine ⟨_, rfl, ?_⟩; replace BK254 := aM (kB (yK BK254) hb); replace BK255 := aM (kB (yK BK255) hb); replace HB := aM (bP (yG2 HB GE254.out GE255.out) hb); (try clear hb); obtain ⟨hcz41_0, hcz41_1, hcz41_2, hfz41_0, hfz41_1, hfz41_2⟩ := cells3 BK255.out) | (go_at_call 89; (with_reducible refine (haulageref05_Right.calls k a1_0 a1_1 a1_2 false _ A5.out).mono ?_); rintro e w42 ⟨rfl, hb⟩; replace BK254 := aM (kB (yK BK254) hb); replace BK255 := aM (kB (yK BK255) hb); replace HB := aM (bP (yG2 HB GE254.out GE255.out) hb); (try clear hb)))
   go_ret
   exact ⟨yE, yG2 HB GE254.out GE255.out⟩
 ·
  replace c4 := Bool.eq_false_iff.mpr c4
  subst c4
  replace H := yf H
  obtain rfl := Option.some.inj H
  go_enter Tryd.func57, Tryd.ntmps57
  go_wp2_with (first | ((with_reducible refine gate_dst (N := 2) rfl ?_); (try (refine gate_guard (by rfl) ?_; dsimp only)); refine yX (N := 2) (cs := #[.int .i64 a0_0, .int .i64 a0_1]) (t := 50) ?_; intro gb254 hg w43 hbox hb; have BK254 := aM (hbox); have GW254 := yZ hg (yB HB); have GE254 := yZ hg (yB HB); replace HB := aM (bP (yB HB) hb); clear hb hbox hg) | ((with_reducible refine gate_dst (N := 3) rfl ?_); (try (refine gate_guard (by rfl) ?_; dsimp only)); refine yX (N := 3) (cs := #[.int .i64 a1_0, .int .i64 a1_1, .string a1_2]) (t := 52) ?_; intro gb255 hg w44 hbox hb; have BK255 := aM (hbox); have GW255 := yZ hg (yG1 HB GE254.out); have GE255 := yZ hg (yG1 HB GE254.out); replace HB := aM (bP (yG1 HB GE254.out) hb); have NB254_255 := yN hg (yK BK254); have NB255_254 := yM hg (yK BK254); replace BK254 := aM (kB (yK BK254) hb); clear hb hbox hg; have hnb45 := NB254_255.out; have hnc45 := NB255_254.out; obtain ⟨hcz46_0, hcz46_1, hfz46_0, hfz46_1⟩ := cells2 BK254.out) | ((with_reducible refine gate_callee (f := 72) rfl ?_); refine yC 6 Tryd.func72 #[.agg #[.int .i64 a0_0, .int .i64 a0_1]] rfl ?_; (with_reducible refine (haulageref06_Right.calls a0_0 a0_1 false _ A3.out).mono ?_); rintro e w47 ⟨rfl, hb⟩; refine ⟨_, rfl, ?_⟩; replace BK254 := aM (kB (yK BK254) hb); replace BK255 := aM (kB (yK BK255) hb); replace HB := aM (bP (yG2 HB GE254.out GE255.out) hb); (try clear hb)))
  go_ret
  exact ⟨yE, yG2 HB GE254.out GE255.out⟩
/-! ### haulageref04_letter: function 108 -/
def haulageref04_letter.f (a0 : Int) : Option (Bool) := if a0 ≥ 97 then (some (decide (a0 ≤ 122))) else (some false)
set_option maxHeartbeats 8000000 in
set_option maxRecDepth 100000 in
theorem haulageref04_letter.calls (a0 : Int) (r : Bool) (w : World) (h : haulageref04_letter.f a0 = some r) :
  Calls Tryd.prog 108 #[.int .u8 a0] w fun e w' => e = .returned (.bool r) ∧ Drawn0 w w' := by
 have H : (if a0 ≥ 97 then (some (decide (a0 ≤ 122))) else (some false)) = some r := h
 clear h
 by_cases c2 : a0 ≥ 97
 ·
  rw [if_pos c2] at H
  have c2b0 : decide (97 ≤ a0) = true := decide_eq_true c2
  clear c2
  obtain rfl := Option.some.inj H
  go_enter Tryd.func108, Tryd.ntmps108
  go_wp2
  go_ret
  exact ⟨yS, yD⟩
 ·
  rw [if_neg c2] at H
  have c2b0 : decide (97 ≤ a0) = false := decide_eq_false c2
  clear c2
  obtain rfl := Option.some.inj H
  go_enter Tryd.func108, Tryd.ntmps108
  go_wp2
  go_ret
  exact ⟨yS, yD⟩
/-! ### haulageref04_Part: function 107 -/
def haulageref04_Part.f (a0 : Int) : Option (Bool) := (haulageref04_letter.f a0).bind fun t258 => (if t258 = true then (some true) else (if a0 ≥ 48 then (if a0 ≤ 57 then (some true) else (some (a0 == 95))) else (some (a0 == 95))))
set_option maxHeartbeats 8000000 in
set_option maxRecDepth 100000 in
theorem haulageref04_Part.calls (a0 : Int) (r : Bool) (w : World) (h : haulageref04_Part.f a0 = some r) :
  Calls Tryd.prog 107 #[.int .u8 a0] w fun e w' => e = .returned (.bool r) ∧ Drawn0 w w' := by
 have H : ((haulageref04_letter.f a0).bind fun t258 => (if t258 = true then (some true) else (if a0 ≥ 48 then (if a0 ≤ 57 then (some true) else (some (a0 == 95))) else (some (a0 == 95))))) = some r := h
 clear h
 obtain ⟨t258, A2, H⟩ := yb H
 by_cases c3 : t258 = true
 ·
  subst c3
  replace H := yt H
  obtain rfl := Option.some.inj H
  go_enter Tryd.func107, Tryd.ntmps107
  go_wp2_with (first | ((with_reducible refine gate_callee (f := 108) rfl ?_); refine yC 4 Tryd.func108 #[.int .u8 a0] rfl ?_; (with_reducible refine (haulageref04_letter.calls a0 true _ A2.out).mono ?_); rintro e w' ⟨rfl, ⟨nd, rfl⟩⟩; refine ⟨_, rfl, ?_⟩))
  go_ret
  exact ⟨yS, yD⟩
 ·
  replace c3 := Bool.eq_false_iff.mpr c3
  subst c3
  replace H := yf H
  by_cases c4 : a0 ≥ 48
  ·
   rw [if_pos c4] at H
   have c4b0 : decide (48 ≤ a0) = true := decide_eq_true c4
   clear c4
   by_cases c5 : a0 ≤ 57
   ·
    rw [if_pos c5] at H
    have c5b0 : decide (a0 ≤ 57) = true := decide_eq_true c5
    clear c5
    obtain rfl := Option.some.inj H
    go_enter Tryd.func107, Tryd.ntmps107
    go_wp2_with (first | ((with_reducible refine gate_callee (f := 108) rfl ?_); refine yC 4 Tryd.func108 #[.int .u8 a0] rfl ?_; (with_reducible refine (haulageref04_letter.calls a0 false _ A2.out).mono ?_); rintro e w' ⟨rfl, ⟨nd, rfl⟩⟩; refine ⟨_, rfl, ?_⟩))
    go_ret
    exact ⟨yS, yD⟩
   ·
    rw [if_neg c5] at H
    have c5b0 : decide (a0 ≤ 57) = false := decide_eq_false c5
    clear c5
    obtain rfl := Option.some.inj H
    go_enter Tryd.func107, Tryd.ntmps107
    go_wp2_with (first | ((with_reducible refine gate_callee (f := 108) rfl ?_); refine yC 4 Tryd.func108 #[.int .u8 a0] rfl ?_; (with_reducible refine (haulageref04_letter.calls a0 false _ A2.out).mono ?_); rintro e w' ⟨rfl, ⟨nd, rfl⟩⟩; refine ⟨_, rfl, ?_⟩))
    go_ret
    exact ⟨yS, yD⟩
  ·
   rw [if_neg c4] at H
   have c4b0 : decide (48 ≤ a0) = false := decide_eq_false c4
   clear c4
   obtain rfl := Option.some.inj H
   go_enter Tryd.func107, Tryd.ntmps107
   go_wp2_with (first | ((with_reducible refine gate_callee (f := 108) rfl ?_); refine yC 4 Tryd.func108 #[.int .u8 a0] rfl ?_; (with_reducible refine (haulageref04_letter.calls a0 false _ A2.out).mono ?_); rintro e w' ⟨rfl, ⟨nd, rfl⟩⟩; refine ⟨_, rfl, ?_⟩))
   go_ret
   exact ⟨yS, yD⟩
end Go.Proofs.YtdeophpjammbpaaDoor.HRowcodeKeys

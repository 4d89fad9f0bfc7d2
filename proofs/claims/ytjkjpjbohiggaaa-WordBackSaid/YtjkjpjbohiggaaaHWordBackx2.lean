/- For Go functions that WordBack reaches: Lean functions, and walks that show that each call comes to what its Lean function tells; no condition but those that each theorem states. (This text began as a print of the kit's print.sh; the session's mend.py turned it.) -/
import Derived.Test.YtjkjpjbohiggaaaHWordBackx0
import Derived.Test.YtjkjpjbohiggaaaHWordBackx1
namespace Go.Proofs.Ytjkjpjbohiggaaa.HWordBack
open Go.RowKit Go.Proofs.YtjkjpjbohiggaaaW.PrintWords Go.Proofs.YtjkjpjbohiggaaaW.PrintLast Go.Proofs.YtjkjpjbohiggaaaW.PrintMore
attribute [local go_sem] max2_int min2_int max_two min_two max_three min_three max_four min_four   -- for this text's walks alone
set_option linter.unusedVariables false
set_option linter.unusedSimpArgs false

/-! ### word_Long: function 26 -/
mutual
def word_Long.l0 : Nat → ByteArray → Int → Int → Option (Int × Int × Int)
  | 0, _, _, _ => none
  | k + 1, x0, x2, x5 => if x5 < (x0.size : Int) then (word_Long.j1 k x0 x2 x5 (decide (x5 < 10))) else (word_Long.j1 k x0 x2 x5 false)
def word_Long.j1 : Nat → ByteArray → Int → Int → Bool → Option (Int × Int × Int)
  | 0, _, _, _, _ => none
  | k + 1, x0, x2, x5, x14 => if x14 = true then (if 0 ≤ x5 then (if x5 < (x0.size : Int) then (if 0 ≤ (wrap64 (7 * x5)) then (if (bt x0 x5) ≥ 128 then (word_Long.l0 k x0 (Go.bits .or .u64 x2 (shl .u64 (IntKind.u64.wrap (Go.bits .and .u8 (bt x0 x5) 127)) (wrap64 (7 * x5)))) (wrap64 (x5 + 1))) else (if x5 > 0 then (if (bt x0 x5) = 0 then (some (0, 0, 5)) else (if x5 = 9 then (if (bt x0 x5) > 1 then (some (0, 0, 5)) else (some (Go.bits .or .u64 x2 (shl .u64 (IntKind.u64.wrap (Go.bits .and .u8 (bt x0 x5) 127)) (wrap64 (7 * x5))), wrap64 (x5 + 1), 0))) else (some (Go.bits .or .u64 x2 (shl .u64 (IntKind.u64.wrap (Go.bits .and .u8 (bt x0 x5) 127)) (wrap64 (7 * x5))), wrap64 (x5 + 1), 0)))) else (if x5 = 9 then (if (bt x0 x5) > 1 then (some (0, 0, 5)) else (some (Go.bits .or .u64 x2 (shl .u64 (IntKind.u64.wrap (Go.bits .and .u8 (bt x0 x5) 127)) (wrap64 (7 * x5))), wrap64 (x5 + 1), 0))) else (some (Go.bits .or .u64 x2 (shl .u64 (IntKind.u64.wrap (Go.bits .and .u8 (bt x0 x5) 127)) (wrap64 (7 * x5))), wrap64 (x5 + 1), 0))))) else (none)) else (none)) else (none)) else (if (x0.size : Int) < 10 then (some (0, 0, 4)) else (some (0, 0, 5)))
end
def word_Long.f (k : Nat) (a0 : ByteArray) : Option (Int × Int × Int) := word_Long.l0 k a0 0 0
theorem word_Long.mono_l : ∀ k, (∀ y0 y1 y2, LeO (word_Long.l0 k y0 y1 y2) (word_Long.l0 (k + 1) y0 y1 y2)) ∧ (∀ y0 y1 y2 y3, LeO (word_Long.j1 k y0 y1 y2 y3) (word_Long.j1 (k + 1) y0 y1 y2 y3))
  | 0 => ⟨fun _ _ _ r h => by simp [word_Long.l0] at h, fun _ _ _ _ r h => by simp [word_Long.j1] at h⟩
  | k + 1 => by
    obtain ⟨ih0, ih1⟩ := word_Long.mono_l k
    refine ⟨?_, ?_⟩
    · intro y0 y1 y2
      unfold word_Long.l0
      repeat' first
      | (with_reducible exact ih0 _ _ _)
      | (with_reducible exact ih1 _ _ _ _)
      | (with_reducible exact LeO.refl _)
      | (with_reducible exact LeO.none _)
      | (with_reducible refine LeO.ite ?_ ?_)
      | (with_reducible refine LeO.bind ?_ (fun _ => ?_))
      | exact ih0 _ _ _
      | exact ih1 _ _ _ _
      | exact LeO.none _
      | refine LeO.ite ?_ ?_
      | refine LeO.bind ?_ (fun _ => ?_)
    · intro y0 y1 y2 y3
      unfold word_Long.j1
      repeat' first
      | (with_reducible exact ih0 _ _ _)
      | (with_reducible exact ih1 _ _ _ _)
      | (with_reducible exact LeO.refl _)
      | (with_reducible exact LeO.none _)
      | (with_reducible refine LeO.ite ?_ ?_)
      | (with_reducible refine LeO.bind ?_ (fun _ => ?_))
      | exact ih0 _ _ _
      | exact ih1 _ _ _ _
      | exact LeO.none _
      | refine LeO.ite ?_ ?_
      | refine LeO.bind ?_ (fun _ => ?_)
theorem word_Long.mono : ∀ a0 k, LeO (word_Long.f k a0) (word_Long.f (k + 1) a0) := by
  intro a0 k
  obtain ⟨ih0, ih1⟩ := word_Long.mono_l k
  unfold word_Long.f
  repeat' first
      | (with_reducible exact ih0 _ _ _)
      | (with_reducible exact ih1 _ _ _ _)
      | (with_reducible exact LeO.refl _)
      | (with_reducible exact LeO.none _)
      | (with_reducible refine LeO.ite ?_ ?_)
      | (with_reducible refine LeO.bind ?_ (fun _ => ?_))
      | exact ih0 _ _ _
      | exact ih1 _ _ _ _
      | exact LeO.none _
      | refine LeO.ite ?_ ?_
      | refine LeO.bind ?_ (fun _ => ?_)
set_option maxHeartbeats 8000000 in
set_option maxRecDepth 100000 in
theorem word_Long.calls (k : Nat) (a0 : ByteArray) (r1 : Int) (r2 : Int) (r3 : Int) (w : World) (h : word_Long.f k a0 = some (r1, r2, r3)) :
    Calls Try.prog 26 #[.string a0] w fun e w' => e = .returned (.tuple #[.int .u64 r1, .int .i64 r2, .int .i64 r3]) ∧ Drawn0 w w' := by
  have H : (word_Long.l0 k a0 0 0) = some (r1, r2, r3) := h
  clear h
  have H' := Aside0.mk H
  clear H
  go_enter Try.func26, Try.ntmps26
  go_wp2
  go_loopg [2, 5] k (fun kq v2 v5 w' => ∃ (x2_1 : Int) (x5_1 : Int), v2 = .int .u64 x2_1 ∧ v5 = .int .i64 x5_1 ∧ Aside0 (word_Long.l0 kq a0 x2_1 x5_1 = some (r1, r2, r3)) ∧ Aside0 (kq ≤ k) ∧ Drawn0 w w')
  case atStart => exact ⟨(0), (0), (by first | rfl | (simp; done) | (simp [*]; done)), (by first | rfl | (simp; done) | (simp [*]; done)), H', ⟨Nat.le_refl _⟩, by repeat (first | exact Drawn0.refl _ | apply Drawn0.step)⟩
  case round =>
    clear H'
    obtain ⟨x2_1, x5_1, rfl, rfl, HA, HK1, ⟨m1, rfl⟩⟩ := hrel
    cases gk with
    | zero => exact absurd HA.out (by simp [word_Long.l0])
    | succ k1 =>
      have H := HA.out
      clear HA
      simp only [word_Long.l0] at H
      have HC2 := Aside0.mk H
      clear H
      go_upto_region 2 with (fail)
      go_cut [14] (fun v14 wc => ∃ (kq : Nat) (x14_1 : Bool), v14 = .bool x14_1 ∧ Aside0 (word_Long.j1 kq a0 x2_1 x5_1 x14_1 = some (r1, r2, r3)) ∧ Aside0 (kq ≤ k1) ∧ Drawn0 w wc)
      case first =>
        have H := HC2.out
        clear HC2
        by_cases c3 : x5_1 < (a0.size : Int)
        · rw [if_pos c3] at H
          have c3b0 : decide (x5_1 < (a0.size : Int)) = true := decide_eq_true c3
          clear c3
          (first | rw [c3b0] | (simp only [i64_w, i32_w]; rw [c3b0]) | skip)
          have H' := Aside0.mk H
          clear H
          go_wp2
          go_meet
          case rel => exact ⟨_, (decide (x5_1 < 10)), (by first | rfl | (simp; done) | (simp [*]; done)), H', ⟨by have := HK1.out; first | omega | exact Nat.le_refl _⟩, by repeat (first | exact Drawn0.refl _ | apply Drawn0.step)⟩
        · rw [if_neg c3] at H
          have c3b0 : decide (x5_1 < (a0.size : Int)) = false := decide_eq_false c3
          clear c3
          (first | rw [c3b0] | (simp only [i64_w, i32_w]; rw [c3b0]) | skip)
          have H' := Aside0.mk H
          clear H
          go_wp2
          go_meet
          case rel => exact ⟨_, (false), (by first | rfl | (simp; done) | (simp [*]; done)), H', ⟨by have := HK1.out; first | omega | exact Nat.le_refl _⟩, by repeat (first | exact Drawn0.refl _ | apply Drawn0.step)⟩
      case rest =>
        clear HC2
        try clear c2
        try clear p2
        try clear c3
        try clear c3b0
        obtain ⟨kq, x14_1, rfl, HA, HJ1, ⟨mc1, rfl⟩⟩ := hcut
        cases kq with
        | zero => exact absurd HA.out (by simp [word_Long.j1])
        | succ kj1 =>
          have H := HA.out
          clear HA
          simp only [word_Long.j1] at H
          by_cases c4 : x14_1 = true
          · subst c4
            have H1 : (if 0 ≤ x5_1 then (if x5_1 < (a0.size : Int) then (if 0 ≤ (wrap64 (7 * x5_1)) then (if (bt a0 x5_1) ≥ 128 then (word_Long.l0 kj1 a0 (Go.bits .or .u64 x2_1 (shl .u64 (IntKind.u64.wrap (Go.bits .and .u8 (bt a0 x5_1) 127)) (wrap64 (7 * x5_1)))) (wrap64 (x5_1 + 1))) else (if x5_1 > 0 then (if (bt a0 x5_1) = 0 then (some (0, 0, 5)) else (if x5_1 = 9 then (if (bt a0 x5_1) > 1 then (some (0, 0, 5)) else (some (Go.bits .or .u64 x2_1 (shl .u64 (IntKind.u64.wrap (Go.bits .and .u8 (bt a0 x5_1) 127)) (wrap64 (7 * x5_1))), wrap64 (x5_1 + 1), 0))) else (some (Go.bits .or .u64 x2_1 (shl .u64 (IntKind.u64.wrap (Go.bits .and .u8 (bt a0 x5_1) 127)) (wrap64 (7 * x5_1))), wrap64 (x5_1 + 1), 0)))) else (if x5_1 = 9 then (if (bt a0 x5_1) > 1 then (some (0, 0, 5)) else (some (Go.bits .or .u64 x2_1 (shl .u64 (IntKind.u64.wrap (Go.bits .and .u8 (bt a0 x5_1) 127)) (wrap64 (7 * x5_1))), wrap64 (x5_1 + 1), 0))) else (some (Go.bits .or .u64 x2_1 (shl .u64 (IntKind.u64.wrap (Go.bits .and .u8 (bt a0 x5_1) 127)) (wrap64 (7 * x5_1))), wrap64 (x5_1 + 1), 0))))) else (none)) else (none)) else (none)) = some (r1, r2, r3) := by rw [if_pos rfl] at H; exact H
            clear H
            have H := H1
            clear H1
            by_cases c5 : 0 ≤ x5_1
            · rw [if_pos c5] at H
              have c5b0 : decide (0 ≤ x5_1) = true := decide_eq_true c5
              clear c5
              by_cases c6 : x5_1 < (a0.size : Int)
              · rw [if_pos c6] at H
                have c6b0 : decide (x5_1 < (a0.size : Int)) = true := decide_eq_true c6
                clear c6
                obtain ⟨ji8, hji8⟩ : ∃ j_ : Int, (wrap64 (7 * x5_1)) = j_ := ⟨_, rfl⟩
                replace H : (if 0 ≤ (ji8) then (if (bt a0 x5_1) ≥ 128 then (word_Long.l0 kj1 a0 (Go.bits .or .u64 x2_1 (shl .u64 (IntKind.u64.wrap (Go.bits .and .u8 (bt a0 x5_1) 127)) (ji8))) (wrap64 (x5_1 + 1))) else (if x5_1 > 0 then (if (bt a0 x5_1) = 0 then (some (0, 0, 5)) else (if x5_1 = 9 then (if (bt a0 x5_1) > 1 then (some (0, 0, 5)) else (some (Go.bits .or .u64 x2_1 (shl .u64 (IntKind.u64.wrap (Go.bits .and .u8 (bt a0 x5_1) 127)) (ji8)), wrap64 (x5_1 + 1), 0))) else (some (Go.bits .or .u64 x2_1 (shl .u64 (IntKind.u64.wrap (Go.bits .and .u8 (bt a0 x5_1) 127)) (ji8)), wrap64 (x5_1 + 1), 0)))) else (if x5_1 = 9 then (if (bt a0 x5_1) > 1 then (some (0, 0, 5)) else (some (Go.bits .or .u64 x2_1 (shl .u64 (IntKind.u64.wrap (Go.bits .and .u8 (bt a0 x5_1) 127)) (ji8)), wrap64 (x5_1 + 1), 0))) else (some (Go.bits .or .u64 x2_1 (shl .u64 (IntKind.u64.wrap (Go.bits .and .u8 (bt a0 x5_1) 127)) (ji8)), wrap64 (x5_1 + 1), 0))))) else (none)) = some (r1, r2, r3) := by first | (rw [hji8] at H; exact H) | (simp only [hji8] at H ⊢; exact H)
                have hji8w : (IntKind.i64.wrap (7 * x5_1)) = ji8 := (i64_w _).trans hji8
                by_cases c9 : 0 ≤ (ji8)
                · rw [if_pos c9] at H
                  have c9b0 := eq_true c9
                  have c9b1 : decide (0 ≤ (ji8)) = true := decide_eq_true c9
                  clear c9
                  obtain ⟨ji10, hji10⟩ : ∃ j_ : Int, (shl .u64 (IntKind.u64.wrap (Go.bits .and .u8 (bt a0 x5_1) 127)) (ji8)) = j_ := ⟨_, rfl⟩
                  replace H : (if (bt a0 x5_1) ≥ 128 then (word_Long.l0 kj1 a0 (Go.bits .or .u64 x2_1 (ji10)) (wrap64 (x5_1 + 1))) else (if x5_1 > 0 then (if (bt a0 x5_1) = 0 then (some (0, 0, 5)) else (if x5_1 = 9 then (if (bt a0 x5_1) > 1 then (some (0, 0, 5)) else (some (Go.bits .or .u64 x2_1 (ji10), wrap64 (x5_1 + 1), 0))) else (some (Go.bits .or .u64 x2_1 (ji10), wrap64 (x5_1 + 1), 0)))) else (if x5_1 = 9 then (if (bt a0 x5_1) > 1 then (some (0, 0, 5)) else (some (Go.bits .or .u64 x2_1 (ji10), wrap64 (x5_1 + 1), 0))) else (some (Go.bits .or .u64 x2_1 (ji10), wrap64 (x5_1 + 1), 0))))) = some (r1, r2, r3) := by first | (rw [hji10] at H; exact H) | (simp only [hji10] at H ⊢; exact H)
                  have hji10_ : (IntKind.u64.wrap ((IntKind.u64.wrap (Go.bits .and .u8 (bt a0 x5_1) 127)) * 2 ^ min (ji8).toNat 64)) = ji10 := hji10
                  have hji10z : (ji8) ≤ 64 → (IntKind.u64.wrap ((IntKind.u64.wrap (Go.bits .and .u8 (bt a0 x5_1) 127)) * 2 ^ (ji8).toNat)) = ji10 := shl_small hji10
                  by_cases c11 : (bt a0 x5_1) ≥ 128
                  · rw [if_pos c11] at H
                    have c11b0 : decide (128 ≤ (bt a0 x5_1)) = true := decide_eq_true c11
                    clear c11
                    have H' := Aside0.mk H
                    clear H
                    have p7 : 0 ≤ (x5_1 : Int) := of_decide_eq_true (by first | (with_reducible assumption) | assumption)
                    have q7 : x5_1 < (a0.size : Int) := of_decide_eq_true (by first | (with_reducible assumption) | assumption)
                    have hx7 := bt_at a0 x5_1
                    replace p7 := eq_true p7
                    replace q7 := eq_true q7
                    go_wp2
                    go_roundg kj1
                    case measure => have := HK1.out; have := HJ1.out; omega
                    case rel => exact ⟨(Go.bits .or .u64 x2_1 (ji10)), (wrap64 (x5_1 + 1)), (by first | rfl | (simp; done) | (simp only [← hji10] <;> (first | rfl | simp)) | (simp [*]; done)), (by first | rfl | (simp; done) | (simp [*]; done)), H', ⟨by have := HK1.out; have := HJ1.out; omega⟩, by repeat (first | exact Drawn0.refl _ | apply Drawn0.step)⟩
                  · rw [if_neg c11] at H
                    have c11b0 : decide (128 ≤ (bt a0 x5_1)) = false := decide_eq_false c11
                    clear c11
                    by_cases c12 : x5_1 > 0
                    · rw [if_pos c12] at H
                      have c12b0 : decide (0 < x5_1) = true := decide_eq_true c12
                      clear c12
                      by_cases c13 : (bt a0 x5_1) = 0
                      · rw [if_pos c13] at H
                        have c13b0 : ((bt a0 x5_1) == 0) = true := beq_iff_eq.mpr c13
                        have c13b1 : ((bt a0 x5_1) != 0) = false := bne_eq_false_iff_eq.mpr c13
                        clear c13
                        simp only [Option.some.injEq, Prod.mk.injEq] at H
                        obtain ⟨rfl, rfl, rfl⟩ := H
                        have p7 : 0 ≤ (x5_1 : Int) := of_decide_eq_true (by first | (with_reducible assumption) | assumption)
                        have q7 : x5_1 < (a0.size : Int) := of_decide_eq_true (by first | (with_reducible assumption) | assumption)
                        have hx7 := bt_at a0 x5_1
                        replace p7 := eq_true p7
                        replace q7 := eq_true q7
                        go_wp2
                        go_ret3
                        exact ⟨by first | rfl | (simp; done) | (simp only [← hji8, ← hji10] <;> (first | rfl | simp)) | (simp [*]; done), by repeat (first | exact Drawn0.refl _ | apply Drawn0.step)⟩
                      · rw [if_neg c13] at H
                        have c13b0 : ((bt a0 x5_1) == 0) = false := beq_eq_false_iff_ne.mpr c13
                        have c13b1 : ((bt a0 x5_1) != 0) = true := bne_iff_ne.mpr c13
                        by_cases c14 : x5_1 = 9
                        · rw [if_pos c14] at H
                          have c14b0 : (x5_1 == 9) = true := beq_iff_eq.mpr c14
                          have c14b1 : (x5_1 != 9) = false := bne_eq_false_iff_eq.mpr c14
                          clear c14
                          by_cases c15 : (bt a0 x5_1) > 1
                          · rw [if_pos c15] at H
                            have c15b0 : decide (1 < (bt a0 x5_1)) = true := decide_eq_true c15
                            clear c15
                            simp only [Option.some.injEq, Prod.mk.injEq] at H
                            obtain ⟨rfl, rfl, rfl⟩ := H
                            have p7 : 0 ≤ (x5_1 : Int) := of_decide_eq_true (by first | (with_reducible assumption) | assumption)
                            have q7 : x5_1 < (a0.size : Int) := of_decide_eq_true (by first | (with_reducible assumption) | assumption)
                            have hx7 := bt_at a0 x5_1
                            replace p7 := eq_true p7
                            replace q7 := eq_true q7
                            go_wp2
                            go_ret3
                            exact ⟨by first | rfl | (simp; done) | (simp only [← hji8, ← hji10] <;> (first | rfl | simp)) | (simp [*]; done), by repeat (first | exact Drawn0.refl _ | apply Drawn0.step)⟩
                          · rw [if_neg c15] at H
                            have c15b0 : decide (1 < (bt a0 x5_1)) = false := decide_eq_false c15
                            clear c15
                            simp only [Option.some.injEq, Prod.mk.injEq] at H
                            obtain ⟨rfl, rfl, rfl⟩ := H
                            have p7 : 0 ≤ (x5_1 : Int) := of_decide_eq_true (by first | (with_reducible assumption) | assumption)
                            have q7 : x5_1 < (a0.size : Int) := of_decide_eq_true (by first | (with_reducible assumption) | assumption)
                            have hx7 := bt_at a0 x5_1
                            replace p7 := eq_true p7
                            replace q7 := eq_true q7
                            go_wp2
                            go_ret3
                            exact ⟨by first | rfl | (simp; done) | (simp only [← hji8, ← hji10] <;> (first | rfl | simp)) | (simp [*]; done), by repeat (first | exact Drawn0.refl _ | apply Drawn0.step)⟩
                        · rw [if_neg c14] at H
                          have c14b0 : (x5_1 == 9) = false := beq_eq_false_iff_ne.mpr c14
                          have c14b1 : (x5_1 != 9) = true := bne_iff_ne.mpr c14
                          simp only [Option.some.injEq, Prod.mk.injEq] at H
                          obtain ⟨rfl, rfl, rfl⟩ := H
                          have p7 : 0 ≤ (x5_1 : Int) := of_decide_eq_true (by first | (with_reducible assumption) | assumption)
                          have q7 : x5_1 < (a0.size : Int) := of_decide_eq_true (by first | (with_reducible assumption) | assumption)
                          have hx7 := bt_at a0 x5_1
                          replace p7 := eq_true p7
                          replace q7 := eq_true q7
                          go_wp2
                          go_ret3
                          exact ⟨by first | rfl | (simp; done) | (simp only [← hji8, ← hji10] <;> (first | rfl | simp)) | (simp [*]; done), by repeat (first | exact Drawn0.refl _ | apply Drawn0.step)⟩
                    · rw [if_neg c12] at H
                      have c12b0 : decide (0 < x5_1) = false := decide_eq_false c12
                      clear c12
                      by_cases c16 : x5_1 = 9
                      · rw [if_pos c16] at H
                        have c16b0 : (x5_1 == 9) = true := beq_iff_eq.mpr c16
                        have c16b1 : (x5_1 != 9) = false := bne_eq_false_iff_eq.mpr c16
                        clear c16
                        by_cases c17 : (bt a0 x5_1) > 1
                        · rw [if_pos c17] at H
                          have c17b0 : decide (1 < (bt a0 x5_1)) = true := decide_eq_true c17
                          clear c17
                          simp only [Option.some.injEq, Prod.mk.injEq] at H
                          obtain ⟨rfl, rfl, rfl⟩ := H
                          have p7 : 0 ≤ (x5_1 : Int) := of_decide_eq_true (by first | (with_reducible assumption) | assumption)
                          have q7 : x5_1 < (a0.size : Int) := of_decide_eq_true (by first | (with_reducible assumption) | assumption)
                          have hx7 := bt_at a0 x5_1
                          replace p7 := eq_true p7
                          replace q7 := eq_true q7
                          go_wp2
                          go_ret3
                          exact ⟨by first | rfl | (simp; done) | (simp only [← hji8, ← hji10] <;> (first | rfl | simp)) | (simp [*]; done), by repeat (first | exact Drawn0.refl _ | apply Drawn0.step)⟩
                        · rw [if_neg c17] at H
                          have c17b0 : decide (1 < (bt a0 x5_1)) = false := decide_eq_false c17
                          clear c17
                          simp only [Option.some.injEq, Prod.mk.injEq] at H
                          obtain ⟨rfl, rfl, rfl⟩ := H
                          have p7 : 0 ≤ (x5_1 : Int) := of_decide_eq_true (by first | (with_reducible assumption) | assumption)
                          have q7 : x5_1 < (a0.size : Int) := of_decide_eq_true (by first | (with_reducible assumption) | assumption)
                          have hx7 := bt_at a0 x5_1
                          replace p7 := eq_true p7
                          replace q7 := eq_true q7
                          go_wp2
                          go_ret3
                          exact ⟨by first | rfl | (simp; done) | (simp only [← hji8, ← hji10] <;> (first | rfl | simp)) | (simp [*]; done), by repeat (first | exact Drawn0.refl _ | apply Drawn0.step)⟩
                      · rw [if_neg c16] at H
                        have c16b0 : (x5_1 == 9) = false := beq_eq_false_iff_ne.mpr c16
                        have c16b1 : (x5_1 != 9) = true := bne_iff_ne.mpr c16
                        simp only [Option.some.injEq, Prod.mk.injEq] at H
                        obtain ⟨rfl, rfl, rfl⟩ := H
                        have p7 : 0 ≤ (x5_1 : Int) := of_decide_eq_true (by first | (with_reducible assumption) | assumption)
                        have q7 : x5_1 < (a0.size : Int) := of_decide_eq_true (by first | (with_reducible assumption) | assumption)
                        have hx7 := bt_at a0 x5_1
                        replace p7 := eq_true p7
                        replace q7 := eq_true q7
                        go_wp2
                        go_ret3
                        exact ⟨by first | rfl | (simp; done) | (simp only [← hji8, ← hji10] <;> (first | rfl | simp)) | (simp [*]; done), by repeat (first | exact Drawn0.refl _ | apply Drawn0.step)⟩
                · rw [if_neg c9] at H
                  exact absurd H (by simp)
              · rw [if_neg c6] at H
                exact absurd H (by simp)
            · rw [if_neg c5] at H
              exact absurd H (by simp)
          · replace c4 := Bool.eq_false_iff.mpr c4
            subst c4
            have H1 : (if (a0.size : Int) < 10 then (some (0, 0, 4)) else (some (0, 0, 5))) = some (r1, r2, r3) := by rw [if_neg (show ¬ (false = true) by decide)] at H; exact H
            clear H
            have H := H1
            clear H1
            by_cases c18 : (a0.size : Int) < 10
            · rw [if_pos c18] at H
              have c18b0 : decide ((a0.size : Int) < 10) = true := decide_eq_true c18
              have c18b1 : decide (a0.size < 10) = true := decide_eq_true (by omega)
              clear c18
              simp only [Option.some.injEq, Prod.mk.injEq] at H
              obtain ⟨rfl, rfl, rfl⟩ := H
              go_wp2
              go_ret3
              exact ⟨by first | rfl | (simp; done) | (simp [*]; done), by repeat (first | exact Drawn0.refl _ | apply Drawn0.step)⟩
            · rw [if_neg c18] at H
              have c18b0 : decide ((a0.size : Int) < 10) = false := decide_eq_false c18
              have c18b1 : decide (a0.size < 10) = false := decide_eq_false (by omega)
              clear c18
              simp only [Option.some.injEq, Prod.mk.injEq] at H
              obtain ⟨rfl, rfl, rfl⟩ := H
              go_wp2
              go_ret3
              exact ⟨by first | rfl | (simp; done) | (simp [*]; done), by repeat (first | exact Drawn0.refl _ | apply Drawn0.step)⟩

/-! ### word_All: function 28 -/
def word_All.l0 : Nat → ByteArray → List Int → Option (List Int × Int)
  | 0, _, _ => none
  | k + 1, x0, x4 => if x0.toList = ([] : List UInt8) then (some (x4, 0)) else ((word_Long.f k x0).bind fun bt124 => (if bt124.2.2 = 0 then (if x4.length < 17592186044416 then (if 0 ≤ bt124.2.1 then (if bt124.2.1 ≤ (x0.size : Int) then (word_All.l0 k (x0.extract (bt124.2.1 : Int).toNat x0.size) (x4 ++ [bt124.1])) else (none)) else (none)) else (none)) else (some (([] : List Int), bt124.2.2))))
def word_All.f (k : Nat) (a0 : ByteArray) : Option (List Int × Int) := word_All.l0 k a0 ([] : List Int)
theorem word_All.mono_l : ∀ k, (∀ y0 y1, LeO (word_All.l0 k y0 y1) (word_All.l0 (k + 1) y0 y1))
  | 0 => fun _ _ r h => by simp [word_All.l0] at h
  | k + 1 => by
    have ih0 := word_All.mono_l k
    · intro y0 y1
      unfold word_All.l0
      repeat' first
      | (with_reducible exact ih0 _ _)
      | (with_reducible exact word_Long.mono _ _)
      | (with_reducible exact LeO.refl _)
      | (with_reducible exact LeO.none _)
      | (with_reducible refine LeO.ite ?_ ?_)
      | (with_reducible refine LeO.bind ?_ (fun _ => ?_))
      | exact ih0 _ _
      | exact word_Long.mono _ _
      | exact LeO.none _
      | refine LeO.ite ?_ ?_
      | refine LeO.bind ?_ (fun _ => ?_)
theorem word_All.mono : ∀ a0 k, LeO (word_All.f k a0) (word_All.f (k + 1) a0) := by
  intro a0 k
  have ih0 := word_All.mono_l k
  unfold word_All.f
  repeat' first
      | (with_reducible exact ih0 _ _)
      | (with_reducible exact word_Long.mono _ _)
      | (with_reducible exact LeO.refl _)
      | (with_reducible exact LeO.none _)
      | (with_reducible refine LeO.ite ?_ ?_)
      | (with_reducible refine LeO.bind ?_ (fun _ => ?_))
      | exact ih0 _ _
      | exact word_Long.mono _ _
      | exact LeO.none _
      | refine LeO.ite ?_ ?_
      | refine LeO.bind ?_ (fun _ => ?_)
set_option maxHeartbeats 8000000 in
set_option maxRecDepth 100000 in
theorem word_All.calls (k : Nat) (a0 : ByteArray) (r1 : List Int) (r2 : Int) (w : World) (h : word_All.f k a0 = some (r1, r2)) :
    Calls Try.prog 28 #[.string a0] w fun e w' => ∃ v0_ : Value, e = .returned (.tuple #[v0_, .int .i64 r2]) ∧ Kd.R (Kd.int .u64) 27 w' w.heap.size (fun _ => True) v0_ r1 ∧ Below w.heap.size w w' := by
  have HB := Aside0.mk (Below.refl w.heap.size w)
  have H : (word_All.l0 k a0 ([] : List Int)) = some (r1, r2) := h
  clear h
  have H' := Aside0.mk H
  clear H
  go_enter Try.func28, Try.ntmps28
  go_wp2
  go_loopg [0, 4] k (fun kq v0 v4 w' => ∃ (x0_1 : ByteArray) (x4_1 : List Int), v0 = .string x0_1 ∧ Aside0 (word_All.l0 kq x0_1 x4_1 = some (r1, r2)) ∧ Aside0 (kq ≤ k) ∧ Aside0 (Kd.R (Kd.int .u64) 27 w' w.heap.size (fun _ => True) v4 x4_1) ∧ Aside0 (Below w.heap.size w w'))
  case atStart => exact ⟨(a0), (([] : List Int)), (by first | rfl | (simp; done) | (simp [*]; done)), H', ⟨Nat.le_refl _⟩, ⟨by first | exact Kd.R_nil _ _ _ _ _ | exact Kd.N_nil _ _ _ _ _ | exact Kd.V_nil _ _ _ _ _ | exact Kd.Q_nil _ _ _ _ _ | exact Kd.S_nil _ _ _ _ _⟩, ⟨by repeat (first | (with_reducible first | exact HB.out | apply below_alloc | apply pw_below_drewN | apply below_drew1) | exact HB.out)⟩⟩
  case round =>
    clear H'
    obtain ⟨x0_1, x4_1, rfl, HA, HK1, HO_4, HB⟩ := hrel
    cases gk with
    | zero => exact absurd HA.out (by simp [word_All.l0])
    | succ k1 =>
      have H := HA.out
      clear HA
      simp only [word_All.l0] at H
      by_cases c2 : x0_1.toList = ([] : List UInt8)
      · rw [if_pos c2] at H
        have c2b0 : (x0_1.toList == ([] : List UInt8)) = true := beq_iff_eq.mpr c2
        have c2b1 : (x0_1.toList != ([] : List UInt8)) = false := bne_eq_false_iff_eq.mpr c2
        clear c2
        simp only [Option.some.injEq, Prod.mk.injEq] at H
        obtain ⟨rfl, rfl⟩ := H
        go_wp2
        go_ret2
        exact ⟨_, by first | rfl | (simp [errW_none, errW_some] <;> rfl) | (simp [*, errW_none, errW_some] <;> rfl), by (with_reducible repeat (first | apply Kd.R_alloc | apply Kd.R_drewN | apply Kd.R_drew)); exact HO_4.out, by repeat (first | (with_reducible first | exact HB.out | apply below_alloc | apply pw_below_drewN | apply below_drew1) | exact HB.out)⟩
      · rw [if_neg c2] at H
        have c2b0 : (x0_1.toList == ([] : List UInt8)) = false := beq_eq_false_iff_ne.mpr c2
        have c2b1 : (x0_1.toList != ([] : List UInt8)) = true := bne_iff_ne.mpr c2
        replace H := Option.bind_eq_some_iff.mp H
        obtain ⟨⟨t124, t125, t126⟩, A30, H⟩ := H
        replace H : (if t126 = 0 then (if x4_1.length < 17592186044416 then (if 0 ≤ t125 then (if t125 ≤ (x0_1.size : Int) then (word_All.l0 k1 (x0_1.extract (t125 : Int).toNat x0_1.size) (x4_1 ++ [t124])) else (none)) else (none)) else (none)) else (some (([] : List Int), t126))) = some (r1, r2) := H
        have A3 := Aside0.mk A30
        clear A30
        by_cases c4 : t126 = 0
        · rw [if_pos c4] at H
          have c4b0 : (t126 == 0) = true := beq_iff_eq.mpr c4
          have c4b1 : (t126 != 0) = false := bne_eq_false_iff_eq.mpr c4
          clear c4
          by_cases c5 : x4_1.length < 17592186044416
          · rw [if_pos c5] at H
            have LMc5 := Aside0.mk c5
            clear c5
            obtain ⟨y127, hy127⟩ : ∃ y_ : List Int, y_ = (x4_1 ++ [t124]) := ⟨_, rfl⟩
            replace H : (if 0 ≤ t125 then (if t125 ≤ (x0_1.size : Int) then (word_All.l0 k1 (x0_1.extract (t125 : Int).toNat x0_1.size) y127) else (none)) else (none)) = some (r1, r2) := by first | (rw [hy127]; with_reducible exact H) | (have H2_ := (Option.bind_some _ _).symm.trans H; rw [hy127]; with_reducible exact H2_) | (have H2_ := (Option.bind_some _ _).symm.trans H; with_reducible exact H2_) | with_reducible exact H | (rw [hy127]; exact H) | exact H
            have Ny127 := Aside0.mk hy127
            clear hy127
            by_cases c6 : 0 ≤ t125
            · rw [if_pos c6] at H
              have c6b0 := eq_true c6
              have c6b1 : decide (0 ≤ t125) = true := decide_eq_true c6
              clear c6
              by_cases c7 : t125 ≤ (x0_1.size : Int)
              · rw [if_pos c7] at H
                have c7b0 := eq_true c7
                have c7b1 : decide (t125 ≤ (x0_1.size : Int)) = true := decide_eq_true c7
                clear c7
                have H' := Aside0.mk H
                clear H
                go_wp2_with (first | ((with_reducible refine gate_callee (f := 26) rfl ?_); refine goesL_ (some 12) rfl rfl Try.func26 (by kernel_rfl) rfl #[.string x0_1] rfl (by (try simp only [List.map_toArray, List.map_cons, List.map_nil]); first | done | rfl | (simp only [List.length_drop, List.length_take]; rfl)) ?_; (with_reducible refine (word_Long.calls k1 x0_1 t124 t125 t126 _ A3.out).mono ?_); rintro e w' ⟨rfl, ⟨nd, rfl⟩⟩; refine ⟨_, rfl, ?_⟩) | ((with_reducible refine gate_builtin (b := .append) (xs := #[.tmp 19, .tmp 21]) rfl ?_); at_builtin; refine Kd.R_append (Kd.int .u64) (w0 := w) w.heap.size rfl (.tmp 19) (.tmp 21) 22 27 (.int .u64 0) 8 rfl Try.underlying22 info27 rfl (by decide) (by omega) u4 x4_1 t124 [.int .u64 t124] (fun _ => True) (fun _ => False) rfl rfl ?aP (fun _ hk => hk.elim) ?aF ?aO ?aB ?aS ?aL ?_; (case aP => exact rfl); (case aB => exact (by repeat (first | (with_reducible first | exact HB.out | apply below_alloc | apply pw_below_drewN | apply below_drew1) | exact HB.out))); (case aF => exact (fun _ _ => trivial)); (case aO => exact (by (with_reducible repeat (first | apply Kd.R_alloc | apply Kd.R_drewN | apply Kd.R_drew)); exact HO_4.out)); (case aS => exact (below_size (by repeat (first | (with_reducible first | exact HB.out | apply below_alloc | apply pw_below_drewN | apply below_drew1) | exact HB.out)))); (case aL => have := LMc5.out; omega); intro v128 w8 ho hb hg hat; rw [← Ny127.out] at ho; have n0_ := Aside0.mk (hb); have n1_ := Aside0.mk (ho); clear HB; clear HO_4; have HB := n0_; have HO129 := n1_; clear n0_ n1_; clear ho hb hg hat))
                go_roundg k1
                case measure => have := HK1.out; omega
                case rel => exact ⟨(x0_1.extract (t125 : Int).toNat x0_1.size), (y127), (by first | rfl | (simp; done) | (simp [*]; done)), H', ⟨by have := HK1.out; omega⟩, ⟨by (with_reducible repeat (first | apply Kd.R_alloc | apply Kd.R_drewN | apply Kd.R_drew)); exact HO129.out⟩, ⟨by repeat (first | (with_reducible first | exact HB.out | apply below_alloc | apply pw_below_drewN | apply below_drew1) | exact HB.out)⟩⟩
              · rw [if_neg c7] at H
                exact absurd H (by simp)
            · rw [if_neg c6] at H
              exact absurd H (by simp)
          · rw [if_neg c5] at H
            exact absurd H (by simp)
        · rw [if_neg c4] at H
          have c4b0 : (t126 == 0) = false := beq_eq_false_iff_ne.mpr c4
          have c4b1 : (t126 != 0) = true := bne_iff_ne.mpr c4
          simp only [Option.some.injEq, Prod.mk.injEq] at H
          obtain ⟨rfl, rfl⟩ := H
          go_wp2_with (first | ((with_reducible refine gate_callee (f := 26) rfl ?_); refine goesL_ (some 12) rfl rfl Try.func26 (by kernel_rfl) rfl #[.string x0_1] rfl (by (try simp only [List.map_toArray, List.map_cons, List.map_nil]); first | done | rfl | (simp only [List.length_drop, List.length_take]; rfl)) ?_; (with_reducible refine (word_Long.calls k1 x0_1 t124 t125 t126 _ A3.out).mono ?_); rintro e w' ⟨rfl, ⟨nd, rfl⟩⟩; refine ⟨_, rfl, ?_⟩))
          go_ret2
          exact ⟨_, by first | rfl | (simp [errW_none, errW_some] <;> rfl) | (simp [*, errW_none, errW_some] <;> rfl), by first | exact Kd.R_nil _ _ _ _ _ | exact Kd.N_nil _ _ _ _ _ | exact Kd.V_nil _ _ _ _ _ | exact Kd.Q_nil _ _ _ _ _ | exact Kd.S_nil _ _ _ _ _, by repeat (first | (with_reducible first | exact HB.out | apply below_alloc | apply pw_below_drewN | apply below_drew1) | exact HB.out)⟩

/-! ### haulagelaw01_WordBack: function 8 -/
def haulagelaw01_WordBack.j0 : Nat → ByteArray → Bool → Option (Bool)
  | 0, _, _ => none
  | k + 1, x2, x75 => if x75 = true then (some false) else ((word_All.f k x2).bind fun bt148 => (if bt148.2 = 0 then ((word_Short.f k bt148.1).bind fun t152 => (some (t152.toList == x2.toList))) else (if (bt148.1.length : Int) = 0 then (some true) else (some false))))
def haulagelaw01_WordBack.f (k : Nat) (a0 : Int) (a1 : Int) (a2 : ByteArray) : Option (Bool) := (haulagelaw01_lives.f k).bind fun t130 => (if t130 = true then (if (a2.size : Int) > 100 then (some true) else ((word_Put32.f k a0).bind fun t131 => ((word_Get32.f k t131).bind fun bt132 => ((word_Put64.f k a1).bind fun t134 => ((word_Get64.f k t134).bind fun bt135 => ((word_Short.f k (([a1] : List Int))).bind fun t140 => (if t140.size + a2.size ≤ 9223372036854775807 then ((word_Long.f k (t140 ++ a2)).bind fun bt141 => (if bt132.2 = 0 then (if bt135.2 = 0 then (if bt141.2.2 = 0 then (if bt132.1 = a0 then (if bt135.1 = a1 then (if bt141.1 = a1 then ((word_Short.f k (([a1] : List Int))).bind fun t147 => (haulagelaw01_WordBack.j0 k a2 (bt141.2.1 != (t147.size : Int)))) else (haulagelaw01_WordBack.j0 k a2 true)) else (haulagelaw01_WordBack.j0 k a2 true)) else (haulagelaw01_WordBack.j0 k a2 true)) else (haulagelaw01_WordBack.j0 k a2 true)) else (haulagelaw01_WordBack.j0 k a2 true)) else (haulagelaw01_WordBack.j0 k a2 true))) else (none)))))))) else (some false))
theorem haulagelaw01_WordBack.mono_l : ∀ k, (∀ y0 y1, LeO (haulagelaw01_WordBack.j0 k y0 y1) (haulagelaw01_WordBack.j0 (k + 1) y0 y1))
  | 0 => fun _ _ r h => by simp [haulagelaw01_WordBack.j0] at h
  | k + 1 => by
    have ih0 := haulagelaw01_WordBack.mono_l k
    · intro y0 y1
      unfold haulagelaw01_WordBack.j0
      repeat' first
      | (with_reducible exact ih0 _ _)
      | (with_reducible exact haulagelaw01_lives.mono _)
      | (with_reducible exact word_All.mono _ _)
      | (with_reducible exact word_Get32.mono _ _)
      | (with_reducible exact word_Get64.mono _ _)
      | (with_reducible exact word_Long.mono _ _)
      | (with_reducible exact word_Put32.mono _ _)
      | (with_reducible exact word_Put64.mono _ _)
      | (with_reducible exact word_Short.mono _ _)
      | (with_reducible exact LeO.refl _)
      | (with_reducible exact LeO.none _)
      | (with_reducible refine LeO.ite ?_ ?_)
      | (with_reducible refine LeO.bind ?_ (fun _ => ?_))
      | exact ih0 _ _
      | exact haulagelaw01_lives.mono _
      | exact word_All.mono _ _
      | exact word_Get32.mono _ _
      | exact word_Get64.mono _ _
      | exact word_Long.mono _ _
      | exact word_Put32.mono _ _
      | exact word_Put64.mono _ _
      | exact word_Short.mono _ _
      | exact LeO.none _
      | refine LeO.ite ?_ ?_
      | refine LeO.bind ?_ (fun _ => ?_)
theorem haulagelaw01_WordBack.mono : ∀ a0 a1 a2 k, LeO (haulagelaw01_WordBack.f k a0 a1 a2) (haulagelaw01_WordBack.f (k + 1) a0 a1 a2) := by
  intro a0 a1 a2 k
  have ih0 := haulagelaw01_WordBack.mono_l k
  unfold haulagelaw01_WordBack.f
  repeat' first
      | (with_reducible exact ih0 _ _)
      | (with_reducible exact haulagelaw01_lives.mono _)
      | (with_reducible exact word_All.mono _ _)
      | (with_reducible exact word_Get32.mono _ _)
      | (with_reducible exact word_Get64.mono _ _)
      | (with_reducible exact word_Long.mono _ _)
      | (with_reducible exact word_Put32.mono _ _)
      | (with_reducible exact word_Put64.mono _ _)
      | (with_reducible exact word_Short.mono _ _)
      | (with_reducible exact LeO.refl _)
      | (with_reducible exact LeO.none _)
      | (with_reducible refine LeO.ite ?_ ?_)
      | (with_reducible refine LeO.bind ?_ (fun _ => ?_))
      | exact ih0 _ _
      | exact haulagelaw01_lives.mono _
      | exact word_All.mono _ _
      | exact word_Get32.mono _ _
      | exact word_Get64.mono _ _
      | exact word_Long.mono _ _
      | exact word_Put32.mono _ _
      | exact word_Put64.mono _ _
      | exact word_Short.mono _ _
      | exact LeO.none _
      | refine LeO.ite ?_ ?_
      | refine LeO.bind ?_ (fun _ => ?_)
set_option maxHeartbeats 8000000 in
set_option maxRecDepth 100000 in
theorem haulagelaw01_WordBack.calls (k : Nat) (a0 : Int) (a1 : Int) (a2 : ByteArray) (r : Bool) (w : World) (h : haulagelaw01_WordBack.f k a0 a1 a2 = some r) :
    Calls Try.prog 8 #[.int .u32 a0, .int .u64 a1, .string a2] w fun e w' => e = .returned (.bool r) ∧ Below w.heap.size w w' := by
  have HB := Aside0.mk (Below.refl w.heap.size w)
  have H : ((haulagelaw01_lives.f k).bind fun t130 => (if t130 = true then (if (a2.size : Int) > 100 then (some true) else ((word_Put32.f k a0).bind fun t131 => ((word_Get32.f k t131).bind fun bt132 => ((word_Put64.f k a1).bind fun t134 => ((word_Get64.f k t134).bind fun bt135 => ((word_Short.f k (([a1] : List Int))).bind fun t140 => (if t140.size + a2.size ≤ 9223372036854775807 then ((word_Long.f k (t140 ++ a2)).bind fun bt141 => (if bt132.2 = 0 then (if bt135.2 = 0 then (if bt141.2.2 = 0 then (if bt132.1 = a0 then (if bt135.1 = a1 then (if bt141.1 = a1 then ((word_Short.f k (([a1] : List Int))).bind fun t147 => (haulagelaw01_WordBack.j0 k a2 (bt141.2.1 != (t147.size : Int)))) else (haulagelaw01_WordBack.j0 k a2 true)) else (haulagelaw01_WordBack.j0 k a2 true)) else (haulagelaw01_WordBack.j0 k a2 true)) else (haulagelaw01_WordBack.j0 k a2 true)) else (haulagelaw01_WordBack.j0 k a2 true)) else (haulagelaw01_WordBack.j0 k a2 true))) else (none)))))))) else (some false))) = some r := h
  clear h
  replace H := Option.bind_eq_some_iff.mp H
  obtain ⟨t130, A40, H⟩ := H
  replace H : (if t130 = true then (if (a2.size : Int) > 100 then (some true) else ((word_Put32.f k a0).bind fun t131 => ((word_Get32.f k t131).bind fun bt132 => ((word_Put64.f k a1).bind fun t134 => ((word_Get64.f k t134).bind fun bt135 => ((word_Short.f k (([a1] : List Int))).bind fun t140 => (if t140.size + a2.size ≤ 9223372036854775807 then ((word_Long.f k (t140 ++ a2)).bind fun bt141 => (if bt132.2 = 0 then (if bt135.2 = 0 then (if bt141.2.2 = 0 then (if bt132.1 = a0 then (if bt135.1 = a1 then (if bt141.1 = a1 then ((word_Short.f k (([a1] : List Int))).bind fun t147 => (haulagelaw01_WordBack.j0 k a2 (bt141.2.1 != (t147.size : Int)))) else (haulagelaw01_WordBack.j0 k a2 true)) else (haulagelaw01_WordBack.j0 k a2 true)) else (haulagelaw01_WordBack.j0 k a2 true)) else (haulagelaw01_WordBack.j0 k a2 true)) else (haulagelaw01_WordBack.j0 k a2 true)) else (haulagelaw01_WordBack.j0 k a2 true))) else (none)))))))) else (some false)) = some r := H
  have A4 := Aside0.mk A40
  clear A40
  by_cases c5 : t130 = true
  · subst c5
    have H1 : (if (a2.size : Int) > 100 then (some true) else ((word_Put32.f k a0).bind fun t131 => ((word_Get32.f k t131).bind fun bt132 => ((word_Put64.f k a1).bind fun t134 => ((word_Get64.f k t134).bind fun bt135 => ((word_Short.f k (([a1] : List Int))).bind fun t140 => (if t140.size + a2.size ≤ 9223372036854775807 then ((word_Long.f k (t140 ++ a2)).bind fun bt141 => (if bt132.2 = 0 then (if bt135.2 = 0 then (if bt141.2.2 = 0 then (if bt132.1 = a0 then (if bt135.1 = a1 then (if bt141.1 = a1 then ((word_Short.f k (([a1] : List Int))).bind fun t147 => (haulagelaw01_WordBack.j0 k a2 (bt141.2.1 != (t147.size : Int)))) else (haulagelaw01_WordBack.j0 k a2 true)) else (haulagelaw01_WordBack.j0 k a2 true)) else (haulagelaw01_WordBack.j0 k a2 true)) else (haulagelaw01_WordBack.j0 k a2 true)) else (haulagelaw01_WordBack.j0 k a2 true)) else (haulagelaw01_WordBack.j0 k a2 true))) else (none)))))))) = some r := by rw [if_pos rfl] at H; exact H
    clear H
    have H := H1
    clear H1
    by_cases c6 : (a2.size : Int) > 100
    · rw [if_pos c6] at H
      have c6b0 : decide (100 < (a2.size : Int)) = true := decide_eq_true c6
      have c6b1 : decide (100 < a2.size) = true := decide_eq_true (by omega)
      clear c6
      obtain rfl := Option.some.inj H
      go_enter Try.func8, Try.ntmps8
      go_wp2_with (first | ((with_reducible refine gate_callee (f := 9) rfl ?_); refine goesL_ (some 16) rfl rfl Try.func9 (by kernel_rfl) rfl #[] rfl (by (try simp only [List.map_toArray, List.map_cons, List.map_nil]); first | done | rfl | (simp only [List.length_drop, List.length_take]; rfl)) ?_; (with_reducible refine (haulagelaw01_lives.calls k  true _ A4.out).mono ?_); rintro e w7 ⟨rfl, hb⟩; refine ⟨_, rfl, ?_⟩; have n0_ := Aside0.mk (below_step (by repeat (first | (with_reducible first | exact HB.out | apply below_alloc | apply pw_below_drewN | apply below_drew1) | exact HB.out)) hb); clear HB; have HB := n0_; clear n0_; (try clear hb); (try clear hb2); (try clear hk); (try clear hi)))
      go_ret
      exact ⟨by first | rfl | (simp [errW_none, errW_some] <;> rfl) | (simp [*, errW_none, errW_some] <;> rfl), by repeat (first | (with_reducible first | exact HB.out | apply below_alloc | apply pw_below_drewN | apply below_drew1) | exact HB.out)⟩
    · rw [if_neg c6] at H
      have c6b0 : decide (100 < (a2.size : Int)) = false := decide_eq_false c6
      have c6b1 : decide (100 < a2.size) = false := decide_eq_false (by omega)
      clear c6
      replace H := Option.bind_eq_some_iff.mp H
      obtain ⟨t131, A80, H⟩ := H
      replace H : ((word_Get32.f k t131).bind fun bt132 => ((word_Put64.f k a1).bind fun t134 => ((word_Get64.f k t134).bind fun bt135 => ((word_Short.f k (([a1] : List Int))).bind fun t140 => (if t140.size + a2.size ≤ 9223372036854775807 then ((word_Long.f k (t140 ++ a2)).bind fun bt141 => (if bt132.2 = 0 then (if bt135.2 = 0 then (if bt141.2.2 = 0 then (if bt132.1 = a0 then (if bt135.1 = a1 then (if bt141.1 = a1 then ((word_Short.f k (([a1] : List Int))).bind fun t147 => (haulagelaw01_WordBack.j0 k a2 (bt141.2.1 != (t147.size : Int)))) else (haulagelaw01_WordBack.j0 k a2 true)) else (haulagelaw01_WordBack.j0 k a2 true)) else (haulagelaw01_WordBack.j0 k a2 true)) else (haulagelaw01_WordBack.j0 k a2 true)) else (haulagelaw01_WordBack.j0 k a2 true)) else (haulagelaw01_WordBack.j0 k a2 true))) else (none)))))) = some r := H
      have A8 := Aside0.mk A80
      clear A80
      replace H := Option.bind_eq_some_iff.mp H
      obtain ⟨⟨t132, t133⟩, A90, H⟩ := H
      replace H : ((word_Put64.f k a1).bind fun t134 => ((word_Get64.f k t134).bind fun bt135 => ((word_Short.f k (([a1] : List Int))).bind fun t140 => (if t140.size + a2.size ≤ 9223372036854775807 then ((word_Long.f k (t140 ++ a2)).bind fun bt141 => (if t133 = 0 then (if bt135.2 = 0 then (if bt141.2.2 = 0 then (if t132 = a0 then (if bt135.1 = a1 then (if bt141.1 = a1 then ((word_Short.f k (([a1] : List Int))).bind fun t147 => (haulagelaw01_WordBack.j0 k a2 (bt141.2.1 != (t147.size : Int)))) else (haulagelaw01_WordBack.j0 k a2 true)) else (haulagelaw01_WordBack.j0 k a2 true)) else (haulagelaw01_WordBack.j0 k a2 true)) else (haulagelaw01_WordBack.j0 k a2 true)) else (haulagelaw01_WordBack.j0 k a2 true)) else (haulagelaw01_WordBack.j0 k a2 true))) else (none))))) = some r := H
      have A9 := Aside0.mk A90
      clear A90
      replace H := Option.bind_eq_some_iff.mp H
      obtain ⟨t134, A100, H⟩ := H
      replace H : ((word_Get64.f k t134).bind fun bt135 => ((word_Short.f k (([a1] : List Int))).bind fun t140 => (if t140.size + a2.size ≤ 9223372036854775807 then ((word_Long.f k (t140 ++ a2)).bind fun bt141 => (if t133 = 0 then (if bt135.2 = 0 then (if bt141.2.2 = 0 then (if t132 = a0 then (if bt135.1 = a1 then (if bt141.1 = a1 then ((word_Short.f k (([a1] : List Int))).bind fun t147 => (haulagelaw01_WordBack.j0 k a2 (bt141.2.1 != (t147.size : Int)))) else (haulagelaw01_WordBack.j0 k a2 true)) else (haulagelaw01_WordBack.j0 k a2 true)) else (haulagelaw01_WordBack.j0 k a2 true)) else (haulagelaw01_WordBack.j0 k a2 true)) else (haulagelaw01_WordBack.j0 k a2 true)) else (haulagelaw01_WordBack.j0 k a2 true))) else (none)))) = some r := H
      have A10 := Aside0.mk A100
      clear A100
      replace H := Option.bind_eq_some_iff.mp H
      obtain ⟨⟨t135, t136⟩, A110, H⟩ := H
      replace H : ((word_Short.f k (([a1] : List Int))).bind fun t140 => (if t140.size + a2.size ≤ 9223372036854775807 then ((word_Long.f k (t140 ++ a2)).bind fun bt141 => (if t133 = 0 then (if t136 = 0 then (if bt141.2.2 = 0 then (if t132 = a0 then (if t135 = a1 then (if bt141.1 = a1 then ((word_Short.f k (([a1] : List Int))).bind fun t147 => (haulagelaw01_WordBack.j0 k a2 (bt141.2.1 != (t147.size : Int)))) else (haulagelaw01_WordBack.j0 k a2 true)) else (haulagelaw01_WordBack.j0 k a2 true)) else (haulagelaw01_WordBack.j0 k a2 true)) else (haulagelaw01_WordBack.j0 k a2 true)) else (haulagelaw01_WordBack.j0 k a2 true)) else (haulagelaw01_WordBack.j0 k a2 true))) else (none))) = some r := H
      have A11 := Aside0.mk A110
      clear A110
      obtain ⟨y137, hy137⟩ : ∃ y_ : List Int, y_ = (([a1] : List Int)) := ⟨_, rfl⟩
      replace H : ((word_Short.f k y137).bind fun t140 => (if t140.size + a2.size ≤ 9223372036854775807 then ((word_Long.f k (t140 ++ a2)).bind fun bt141 => (if t133 = 0 then (if t136 = 0 then (if bt141.2.2 = 0 then (if t132 = a0 then (if t135 = a1 then (if bt141.1 = a1 then ((word_Short.f k (([a1] : List Int))).bind fun t147 => (haulagelaw01_WordBack.j0 k a2 (bt141.2.1 != (t147.size : Int)))) else (haulagelaw01_WordBack.j0 k a2 true)) else (haulagelaw01_WordBack.j0 k a2 true)) else (haulagelaw01_WordBack.j0 k a2 true)) else (haulagelaw01_WordBack.j0 k a2 true)) else (haulagelaw01_WordBack.j0 k a2 true)) else (haulagelaw01_WordBack.j0 k a2 true))) else (none))) = some r := by first | (rw [hy137]; with_reducible exact H) | (have H2_ := (Option.bind_some _ _).symm.trans H; rw [hy137]; with_reducible exact H2_) | (have H2_ := (Option.bind_some _ _).symm.trans H; with_reducible exact H2_) | with_reducible exact H | (rw [hy137]; exact H) | exact H
      have Ny137 := Aside0.mk hy137
      clear hy137
      replace H := Option.bind_eq_some_iff.mp H
      obtain ⟨t140, A120, H⟩ := H
      replace H : (if t140.size + a2.size ≤ 9223372036854775807 then ((word_Long.f k (t140 ++ a2)).bind fun bt141 => (if t133 = 0 then (if t136 = 0 then (if bt141.2.2 = 0 then (if t132 = a0 then (if t135 = a1 then (if bt141.1 = a1 then ((word_Short.f k (([a1] : List Int))).bind fun t147 => (haulagelaw01_WordBack.j0 k a2 (bt141.2.1 != (t147.size : Int)))) else (haulagelaw01_WordBack.j0 k a2 true)) else (haulagelaw01_WordBack.j0 k a2 true)) else (haulagelaw01_WordBack.j0 k a2 true)) else (haulagelaw01_WordBack.j0 k a2 true)) else (haulagelaw01_WordBack.j0 k a2 true)) else (haulagelaw01_WordBack.j0 k a2 true))) else (none)) = some r := H
      have A12 := Aside0.mk A120
      clear A120
      by_cases c13 : t140.size + a2.size ≤ 9223372036854775807
      · rw [if_pos c13] at H
        have c13b0 := eq_true c13
        have c13b1 : decide (t140.size + a2.size ≤ 9223372036854775807) = true := decide_eq_true c13
        try have c13b2 : (9223372036854775807 < t140.size + a2.size) = False := eq_false (Nat.not_lt.2 c13)
        replace H := Option.bind_eq_some_iff.mp H
        obtain ⟨⟨t141, t142, t143⟩, A140, H⟩ := H
        replace H : (if t133 = 0 then (if t136 = 0 then (if t143 = 0 then (if t132 = a0 then (if t135 = a1 then (if t141 = a1 then ((word_Short.f k (([a1] : List Int))).bind fun t147 => (haulagelaw01_WordBack.j0 k a2 (t142 != (t147.size : Int)))) else (haulagelaw01_WordBack.j0 k a2 true)) else (haulagelaw01_WordBack.j0 k a2 true)) else (haulagelaw01_WordBack.j0 k a2 true)) else (haulagelaw01_WordBack.j0 k a2 true)) else (haulagelaw01_WordBack.j0 k a2 true)) else (haulagelaw01_WordBack.j0 k a2 true)) = some r := H
        have A14 := Aside0.mk A140
        clear A140
        have HC15 := Aside0.mk H
        clear H
        go_enter Try.func8, Try.ntmps8
        go_upto_region 8 with (first | ((with_reducible refine gate_callee (f := 9) rfl ?_); refine goesL_ (some 16) rfl rfl Try.func9 (by kernel_rfl) rfl #[] rfl (by (try simp only [List.map_toArray, List.map_cons, List.map_nil]); first | done | rfl | (simp only [List.length_drop, List.length_take]; rfl)) ?_; (with_reducible refine (haulagelaw01_lives.calls k  true _ A4.out).mono ?_); rintro e w16 ⟨rfl, hb⟩; refine ⟨_, rfl, ?_⟩; have n0_ := Aside0.mk (below_step (by repeat (first | (with_reducible first | exact HB.out | apply below_alloc | apply pw_below_drewN | apply below_drew1) | exact HB.out)) hb); clear HB; have HB := n0_; clear n0_; (try clear hb); (try clear hb2); (try clear hk); (try clear hi)) | ((with_reducible refine gate_callee (f := 23) rfl ?_); refine goesL_ (some 23) rfl rfl Try.func23 (by kernel_rfl) rfl #[.int .u32 a0] rfl (by (try simp only [List.map_toArray, List.map_cons, List.map_nil]); first | done | rfl | (simp only [List.length_drop, List.length_take]; rfl)) ?_; (with_reducible refine (word_Put32.calls k a0 t131 _ A8.out).mono ?_); rintro e w17 ⟨rfl, hb⟩; refine ⟨_, rfl, ?_⟩; have n0_ := Aside0.mk (below_step (by repeat (first | (with_reducible first | exact HB.out | apply below_alloc | apply pw_below_drewN | apply below_drew1) | exact HB.out)) hb); clear HB; have HB := n0_; clear n0_; (try clear hb); (try clear hb2); (try clear hk); (try clear hi)) | ((with_reducible refine gate_callee (f := 20) rfl ?_); refine goesL_ (some 24) rfl rfl Try.func20 (by kernel_rfl) rfl #[.string t131] rfl (by (try simp only [List.map_toArray, List.map_cons, List.map_nil]); first | done | rfl | (simp only [List.length_drop, List.length_take]; rfl)) ?_; (with_reducible refine (word_Get32.calls k t131 t132 t133 _ A9.out).mono ?_); rintro e w' ⟨rfl, ⟨nd, rfl⟩⟩; refine ⟨_, rfl, ?_⟩) | ((with_reducible refine gate_callee (f := 25) rfl ?_); refine goesL_ (some 29) rfl rfl Try.func25 (by kernel_rfl) rfl #[.int .u64 a1] rfl (by (try simp only [List.map_toArray, List.map_cons, List.map_nil]); first | done | rfl | (simp only [List.length_drop, List.length_take]; rfl)) ?_; (with_reducible refine (word_Put64.calls k a1 t134 _ A10.out).mono ?_); rintro e w18 ⟨rfl, hb⟩; refine ⟨_, rfl, ?_⟩; have n0_ := Aside0.mk (below_step (by repeat (first | (with_reducible first | exact HB.out | apply below_alloc | apply pw_below_drewN | apply below_drew1) | exact HB.out)) hb); clear HB; have HB := n0_; clear n0_; (try clear hb); (try clear hb2); (try clear hk); (try clear hi)) | ((with_reducible refine gate_callee (f := 22) rfl ?_); refine goesL_ (some 30) rfl rfl Try.func22 (by kernel_rfl) rfl #[.string t134] rfl (by (try simp only [List.map_toArray, List.map_cons, List.map_nil]); first | done | rfl | (simp only [List.length_drop, List.length_take]; rfl)) ?_; (with_reducible refine (word_Get64.calls k t134 t135 t136 _ A11.out).mono ?_); rintro e w' ⟨rfl, ⟨nd, rfl⟩⟩; refine ⟨_, rfl, ?_⟩) | ((with_reducible refine gate_dst (N := 35) rfl ?_); (try (refine gate_guard (by rfl) ?_; dsimp only)); refine Kd.R_lit (Kd.int .u64) _ 27 ?hg (N := 35) ?hd (xs := ([a1] : List Int)) (inner := [.int .u64 a1]) (ok := fun _ => True) (okp := fun _ => True) ?hr ?hp (fun _ hk => hk) trivial (Below.refl _ _) (Nat.le_refl _) (by simp) ?_; (case hd => rfl); (case hg => rfl); (case hr => first | (go_simp; done) | (go_simp; rfl)); (case hp => exact (Reps.one (show Kd.M (Kd.int .u64) _ _ _ a1 [.int .u64 a1] from rfl) (Reps.none _ _))); intro v138 w19 ho20 hb hg_ hnew_; clear hg_ hnew_; (first | rw [← Ny137.out] at ho20 | (simp only [Int.reduceToNat] at ho20; rw [← Ny137.out] at ho20)); have n0_ := Aside0.mk (Kd.R_lower ho20 (below_size (by repeat (first | (with_reducible first | exact HB.out | apply below_alloc | apply pw_below_drewN | apply below_drew1) | exact HB.out)))); have n1_ := Aside0.mk (below_step (by repeat (first | (with_reducible first | exact HB.out | apply below_alloc | apply pw_below_drewN | apply below_drew1) | exact HB.out)) hb); clear HB; have HO139 := n0_; have HB := n1_; clear n0_ n1_; clear hb ho20; obtain ⟨Ao21, co21, eo21⟩ := Kd.R_slice HO139.out; subst eo21) | ((with_reducible refine gate_callee (f := 10) rfl ?_); refine goesL_ (some 36) rfl rfl Try.func10 (by kernel_rfl) rfl #[.slice Ao21 y137.length co21] rfl (by (try simp only [List.map_toArray, List.map_cons, List.map_nil]); first | done | rfl | (simp only [List.length_drop, List.length_take]; rfl)) ?_; (with_reducible refine (word_Short.calls k _ _ y137 t140 _ ?side1 ?side2 A12.out).mono ?_); (case side1 => repeat (first | exact (Kd.R_reads' HO139.out).2.2 | (with_reducible refine Kd.C_alloc ?_ _) | (with_reducible refine Kd.C_drewN ?_ _) | (with_reducible refine Kd.C_drew ?_))); (case side2 => exact (Kd.R_reads' HO139.out).2.1); rintro e w22 ⟨rfl, hb⟩; refine ⟨_, rfl, ?_⟩; have n0_ := Aside0.mk (Kd.R_below (by (with_reducible repeat (first | apply Kd.R_alloc | apply Kd.R_drewN | apply Kd.R_drew)); exact HO139.out) hb); have n1_ := Aside0.mk (below_step (by repeat (first | (with_reducible first | exact HB.out | apply below_alloc | apply pw_below_drewN | apply below_drew1) | exact HB.out)) hb); clear HO139; clear HB; have HO139 := n0_; have HB := n1_; clear n0_ n1_; (try clear hb); (try clear hb2); (try clear hk); (try clear hi)) | ((with_reducible refine gate_callee (f := 26) rfl ?_); refine goesL_ (some 39) rfl rfl Try.func26 (by kernel_rfl) rfl #[.string (t140 ++ a2)] rfl (by (try simp only [List.map_toArray, List.map_cons, List.map_nil]); first | done | rfl | (simp only [List.length_drop, List.length_take]; rfl)) ?_; (with_reducible refine (word_Long.calls k (t140 ++ a2) t141 t142 t143 _ A14.out).mono ?_); rintro e w' ⟨rfl, ⟨nd, rfl⟩⟩; refine ⟨_, rfl, ?_⟩))
        (try simp only [Act.put, List.setIfInBounds_toArray, List.set_cons_zero, List.set_cons_succ])
        go_cut [75] (fun v75 wc => ∃ (kq : Nat) (x75_14 : Bool), v75 = .bool x75_14 ∧ Aside0 (haulagelaw01_WordBack.j0 kq a2 x75_14 = some r) ∧ Aside0 (kq ≤ k) ∧ Aside0 (Below w.heap.size w wc))
        case first =>
          have H := HC15.out
          clear HC15
          by_cases c23 : t133 = 0
          · rw [if_pos c23] at H
            have c23b0 : (t133 == 0) = true := beq_iff_eq.mpr c23
            have c23b1 : (t133 != 0) = false := bne_eq_false_iff_eq.mpr c23
            clear c23
            (first | rw [c23b0] | (simp only [i64_w, i32_w]; rw [c23b0]) | skip)
            by_cases c24 : t136 = 0
            · rw [if_pos c24] at H
              have c24b0 : (t136 == 0) = true := beq_iff_eq.mpr c24
              have c24b1 : (t136 != 0) = false := bne_eq_false_iff_eq.mpr c24
              clear c24
              by_cases c25 : t143 = 0
              · rw [if_pos c25] at H
                have c25b0 : (t143 == 0) = true := beq_iff_eq.mpr c25
                have c25b1 : (t143 != 0) = false := bne_eq_false_iff_eq.mpr c25
                clear c25
                by_cases c26 : t132 = a0
                · rw [if_pos c26] at H
                  have c26b0 : (t132 == a0) = true := beq_iff_eq.mpr c26
                  have c26b1 : (t132 != a0) = false := bne_eq_false_iff_eq.mpr c26
                  clear c26
                  by_cases c27 : t135 = a1
                  · rw [if_pos c27] at H
                    have c27b0 : (t135 == a1) = true := beq_iff_eq.mpr c27
                    have c27b1 : (t135 != a1) = false := bne_eq_false_iff_eq.mpr c27
                    clear c27
                    by_cases c28 : t141 = a1
                    · rw [if_pos c28] at H
                      have c28b0 : (t141 == a1) = true := beq_iff_eq.mpr c28
                      have c28b1 : (t141 != a1) = false := bne_eq_false_iff_eq.mpr c28
                      clear c28
                      obtain ⟨y144, hy144⟩ : ∃ y_ : List Int, y_ = (([a1] : List Int)) := ⟨_, rfl⟩
                      replace H : ((word_Short.f k y144).bind fun t147 => (haulagelaw01_WordBack.j0 k a2 (t142 != (t147.size : Int)))) = some r := by first | (rw [hy144]; with_reducible exact H) | (have H2_ := (Option.bind_some _ _).symm.trans H; rw [hy144]; with_reducible exact H2_) | (have H2_ := (Option.bind_some _ _).symm.trans H; with_reducible exact H2_) | with_reducible exact H | (rw [hy144]; exact H) | exact H
                      have Ny144 := Aside0.mk hy144
                      clear hy144
                      replace H := Option.bind_eq_some_iff.mp H
                      obtain ⟨t147, A290, H⟩ := H
                      replace H : (haulagelaw01_WordBack.j0 k a2 (t142 != (t147.size : Int))) = some r := H
                      have A29 := Aside0.mk A290
                      clear A290
                      have H' := Aside0.mk H
                      clear H
                      go_wp2_with (first | ((with_reducible refine gate_dst (N := 71) rfl ?_); (try (refine gate_guard (by rfl) ?_; dsimp only)); refine Kd.R_lit (Kd.int .u64) _ 27 ?hg (N := 71) ?hd (xs := ([a1] : List Int)) (inner := [.int .u64 a1]) (ok := fun _ => True) (okp := fun _ => True) ?hr ?hp (fun _ hk => hk) trivial (Below.refl _ _) (Nat.le_refl _) (by simp) ?_; (case hd => rfl); (case hg => rfl); (case hr => first | (go_simp; done) | (go_simp; rfl)); (case hp => exact (Reps.one (show Kd.M (Kd.int .u64) _ _ _ a1 [.int .u64 a1] from rfl) (Reps.none _ _))); intro v145 w30 ho31 hb hg_ hnew_; clear hg_ hnew_; (first | rw [← Ny144.out] at ho31 | (simp only [Int.reduceToNat] at ho31; rw [← Ny144.out] at ho31)); have n0_ := Aside0.mk (Kd.R_elder' (by (with_reducible repeat (first | apply Kd.R_alloc | apply Kd.R_drewN | apply Kd.R_drew)); exact HO139.out) (Kd.R_base ho31) hb); have n1_ := Aside0.mk (Kd.R_lower (Kd.R_new' ho31 (Kd.R_lt (by (with_reducible repeat (first | apply Kd.R_alloc | apply Kd.R_drewN | apply Kd.R_drew)); exact HO139.out))) (below_size (by repeat (first | (with_reducible first | exact HB.out | apply below_alloc | apply pw_below_drewN | apply below_drew1) | exact HB.out)))); have n2_ := Aside0.mk (below_step (by repeat (first | (with_reducible first | exact HB.out | apply below_alloc | apply pw_below_drewN | apply below_drew1) | exact HB.out)) hb); clear HO139; clear HB; have HO139 := n0_; have HO146 := n1_; have HB := n2_; clear n0_ n1_ n2_; clear hb ho31; obtain ⟨Ao32, co32, eo32⟩ := Kd.R_slice HO146.out; subst eo32) | (go_at_call 10; (with_reducible refine (word_Short.calls k _ _ y144 t147 _ ?side1 ?side2 A29.out).mono ?_); (case side1 => repeat (first | exact (Kd.R_reads' HO146.out).2.2 | (with_reducible refine Kd.C_alloc ?_ _) | (with_reducible refine Kd.C_drewN ?_ _) | (with_reducible refine Kd.C_drew ?_))); (case side2 => exact (Kd.R_reads' HO146.out).2.1); rintro e w33 ⟨rfl, hb⟩; have n0_ := Aside0.mk (Kd.R_below (by (with_reducible repeat (first | apply Kd.R_alloc | apply Kd.R_drewN | apply Kd.R_drew)); exact HO139.out) hb); have n1_ := Aside0.mk (Kd.R_below (by (with_reducible repeat (first | apply Kd.R_alloc | apply Kd.R_drewN | apply Kd.R_drew)); exact HO146.out) hb); have n2_ := Aside0.mk (below_step (by repeat (first | (with_reducible first | exact HB.out | apply below_alloc | apply pw_below_drewN | apply below_drew1) | exact HB.out)) hb); clear HO139; clear HO146; clear HB; have HO139 := n0_; have HO146 := n1_; have HB := n2_; clear n0_ n1_ n2_; (try clear hb); (try clear hb2); (try clear hk); (try clear hi)))
                      go_meet
                      case rel => exact ⟨_, ((t142 != (t147.size : Int))), (by first | rfl | (simp; done) | (simp [*]; done)), H', ⟨by first | omega | exact Nat.le_refl _⟩, ⟨by repeat (first | (with_reducible first | exact HB.out | apply below_alloc | apply pw_below_drewN | apply below_drew1) | exact HB.out)⟩⟩
                    · rw [if_neg c28] at H
                      have c28b0 : (t141 == a1) = false := beq_eq_false_iff_ne.mpr c28
                      have c28b1 : (t141 != a1) = true := bne_iff_ne.mpr c28
                      have H' := Aside0.mk H
                      clear H
                      go_wp2
                      go_meet
                      case rel => exact ⟨_, (true), (by first | rfl | (simp; done) | (simp [*]; done)), H', ⟨by first | omega | exact Nat.le_refl _⟩, ⟨by repeat (first | (with_reducible first | exact HB.out | apply below_alloc | apply pw_below_drewN | apply below_drew1) | exact HB.out)⟩⟩
                  · rw [if_neg c27] at H
                    have c27b0 : (t135 == a1) = false := beq_eq_false_iff_ne.mpr c27
                    have c27b1 : (t135 != a1) = true := bne_iff_ne.mpr c27
                    have H' := Aside0.mk H
                    clear H
                    go_wp2
                    go_meet
                    case rel => exact ⟨_, (true), (by first | rfl | (simp; done) | (simp [*]; done)), H', ⟨by first | omega | exact Nat.le_refl _⟩, ⟨by repeat (first | (with_reducible first | exact HB.out | apply below_alloc | apply pw_below_drewN | apply below_drew1) | exact HB.out)⟩⟩
                · rw [if_neg c26] at H
                  have c26b0 : (t132 == a0) = false := beq_eq_false_iff_ne.mpr c26
                  have c26b1 : (t132 != a0) = true := bne_iff_ne.mpr c26
                  have H' := Aside0.mk H
                  clear H
                  go_wp2
                  go_meet
                  case rel => exact ⟨_, (true), (by first | rfl | (simp; done) | (simp [*]; done)), H', ⟨by first | omega | exact Nat.le_refl _⟩, ⟨by repeat (first | (with_reducible first | exact HB.out | apply below_alloc | apply pw_below_drewN | apply below_drew1) | exact HB.out)⟩⟩
              · rw [if_neg c25] at H
                have c25b0 : (t143 == 0) = false := beq_eq_false_iff_ne.mpr c25
                have c25b1 : (t143 != 0) = true := bne_iff_ne.mpr c25
                have H' := Aside0.mk H
                clear H
                go_wp2
                go_meet
                case rel => exact ⟨_, (true), (by first | rfl | (simp; done) | (simp [*]; done)), H', ⟨by first | omega | exact Nat.le_refl _⟩, ⟨by repeat (first | (with_reducible first | exact HB.out | apply below_alloc | apply pw_below_drewN | apply below_drew1) | exact HB.out)⟩⟩
            · rw [if_neg c24] at H
              have c24b0 : (t136 == 0) = false := beq_eq_false_iff_ne.mpr c24
              have c24b1 : (t136 != 0) = true := bne_iff_ne.mpr c24
              have H' := Aside0.mk H
              clear H
              go_wp2
              go_meet
              case rel => exact ⟨_, (true), (by first | rfl | (simp; done) | (simp [*]; done)), H', ⟨by first | omega | exact Nat.le_refl _⟩, ⟨by repeat (first | (with_reducible first | exact HB.out | apply below_alloc | apply pw_below_drewN | apply below_drew1) | exact HB.out)⟩⟩
          · rw [if_neg c23] at H
            have c23b0 : (t133 == 0) = false := beq_eq_false_iff_ne.mpr c23
            have c23b1 : (t133 != 0) = true := bne_iff_ne.mpr c23
            (first | rw [c23b0] | (simp only [i64_w, i32_w]; rw [c23b0]) | skip)
            have H' := Aside0.mk H
            clear H
            go_wp2
            go_meet
            case rel => exact ⟨_, (true), (by first | rfl | (simp; done) | (simp [*]; done)), H', ⟨by first | omega | exact Nat.le_refl _⟩, ⟨by repeat (first | (with_reducible first | exact HB.out | apply below_alloc | apply pw_below_drewN | apply below_drew1) | exact HB.out)⟩⟩
        case rest =>
          clear HC15
          try clear c1
          try clear c2
          try clear p2
          try clear c5
          try clear c6
          try clear c6b0
          try clear c6b1
          try clear c8
          try clear c9
          try clear c10
          try clear c13
          try clear c13b0
          try clear c13b1
          try clear c13b2
          try clear c20
          try clear c22
          try clear c23
          try clear c23b0
          try clear c23b1
          try clear c24
          try clear c24b0
          try clear c24b1
          try clear c25
          try clear c25b0
          try clear c25b1
          try clear c26
          try clear c26b0
          try clear c26b1
          try clear c27
          try clear c27b0
          try clear c27b1
          try clear c28
          try clear c28b0
          try clear c28b1
          obtain ⟨kq, x75_14, rfl, HA, HJ14, HB⟩ := hcut
          cases kq with
          | zero => exact absurd HA.out (by simp [haulagelaw01_WordBack.j0])
          | succ kj14 =>
            have H := HA.out
            clear HA
            simp only [haulagelaw01_WordBack.j0] at H
            by_cases c34 : x75_14 = true
            · subst c34
              have H1 : (some false) = some r := by rw [if_pos rfl] at H; exact H
              clear H
              have H := H1
              clear H1
              obtain rfl := Option.some.inj H
              go_wp2
              go_ret
              exact ⟨by first | rfl | (simp [errW_none, errW_some] <;> rfl) | (simp [*, errW_none, errW_some] <;> rfl), by repeat (first | (with_reducible first | exact HB.out | apply below_alloc | apply pw_below_drewN | apply below_drew1) | exact HB.out)⟩
            · replace c34 := Bool.eq_false_iff.mpr c34
              subst c34
              have H1 : ((word_All.f kj14 a2).bind fun bt148 => (if bt148.2 = 0 then ((word_Short.f kj14 bt148.1).bind fun t152 => (some (t152.toList == a2.toList))) else (if (bt148.1.length : Int) = 0 then (some true) else (some false)))) = some r := by rw [if_neg (show ¬ (false = true) by decide)] at H; exact H
              clear H
              have H := H1
              clear H1
              replace H := Option.bind_eq_some_iff.mp H
              obtain ⟨⟨t148, t149⟩, A350, H⟩ := H
              replace H : (if t149 = 0 then ((word_Short.f kj14 t148).bind fun t152 => (some (t152.toList == a2.toList))) else (if (t148.length : Int) = 0 then (some true) else (some false))) = some r := H
              have A35 := Aside0.mk A350
              clear A350
              by_cases c36 : t149 = 0
              · rw [if_pos c36] at H
                have c36b0 : (t149 == 0) = true := beq_iff_eq.mpr c36
                have c36b1 : (t149 != 0) = false := bne_eq_false_iff_eq.mpr c36
                clear c36
                replace H := Option.bind_eq_some_iff.mp H
                obtain ⟨t152, A370, H⟩ := H
                replace H : (some (t152.toList == a2.toList)) = some r := H
                have A37 := Aside0.mk A370
                clear A370
                obtain rfl := Option.some.inj H
                go_wp2_with (first | ((with_reducible refine gate_callee (f := 28) rfl ?_); refine goesL_ (some 78) rfl rfl Try.func28 (by kernel_rfl) rfl #[.string a2] rfl (by (try simp only [List.map_toArray, List.map_cons, List.map_nil]); first | done | rfl | (simp only [List.length_drop, List.length_take]; rfl)) ?_; (with_reducible refine (word_All.calls kj14 a2 t148 t149 _ A35.out).mono ?_); rintro e w38 ⟨v150, rfl, ho0, hb⟩; refine ⟨_, rfl, ?_⟩; have n0_ := Aside0.mk (Kd.R_lower ho0 (below_size (by repeat (first | (with_reducible first | exact HB.out | apply below_alloc | apply pw_below_drewN | apply below_drew1) | exact HB.out)))); have n1_ := Aside0.mk (below_step (by repeat (first | (with_reducible first | exact HB.out | apply below_alloc | apply pw_below_drewN | apply below_drew1) | exact HB.out)) hb); clear HB; have HO151 := n0_; have HB := n1_; clear n0_ n1_; (try clear hb); (try clear hb2); (try clear hk); (try clear hi); (try clear ho0); obtain ⟨Ao39, co39, eo39⟩ := Kd.R_slice HO151.out; subst eo39) | (go_at_call 10; (with_reducible refine (word_Short.calls kj14 _ _ t148 t152 _ ?side1 ?side2 A37.out).mono ?_); (case side1 => repeat (first | exact (Kd.R_reads' HO151.out).2.2 | (with_reducible refine Kd.C_alloc ?_ _) | (with_reducible refine Kd.C_drewN ?_ _) | (with_reducible refine Kd.C_drew ?_))); (case side2 => exact (Kd.R_reads' HO151.out).2.1); rintro e w40 ⟨rfl, hb⟩; have n0_ := Aside0.mk (Kd.R_below (by (with_reducible repeat (first | apply Kd.R_alloc | apply Kd.R_drewN | apply Kd.R_drew)); exact HO151.out) hb); have n1_ := Aside0.mk (below_step (by repeat (first | (with_reducible first | exact HB.out | apply below_alloc | apply pw_below_drewN | apply below_drew1) | exact HB.out)) hb); clear HO151; clear HB; have HO151 := n0_; have HB := n1_; clear n0_ n1_; (try clear hb); (try clear hb2); (try clear hk); (try clear hi)))
                go_ret
                exact ⟨by first | rfl | (simp [errW_none, errW_some] <;> rfl) | (simp [*, errW_none, errW_some] <;> rfl), by repeat (first | (with_reducible first | exact HB.out | apply below_alloc | apply pw_below_drewN | apply below_drew1) | exact HB.out)⟩
              · rw [if_neg c36] at H
                have c36b0 : (t149 == 0) = false := beq_eq_false_iff_ne.mpr c36
                have c36b1 : (t149 != 0) = true := bne_iff_ne.mpr c36
                by_cases c41 : (t148.length : Int) = 0
                · rw [if_pos c41] at H
                  have c41b0 : ((t148.length : Int) == 0) = true := beq_iff_eq.mpr c41
                  have c41b1 : ((t148.length : Int) != 0) = false := bne_eq_false_iff_eq.mpr c41
                  clear c41
                  obtain rfl := Option.some.inj H
                  go_wp2_with (first | ((with_reducible refine gate_callee (f := 28) rfl ?_); refine goesL_ (some 78) rfl rfl Try.func28 (by kernel_rfl) rfl #[.string a2] rfl (by (try simp only [List.map_toArray, List.map_cons, List.map_nil]); first | done | rfl | (simp only [List.length_drop, List.length_take]; rfl)) ?_; (with_reducible refine (word_All.calls kj14 a2 t148 t149 _ A35.out).mono ?_); rintro e w42 ⟨v150, rfl, ho0, hb⟩; refine ⟨_, rfl, ?_⟩; have n0_ := Aside0.mk (Kd.R_lower ho0 (below_size (by repeat (first | (with_reducible first | exact HB.out | apply below_alloc | apply pw_below_drewN | apply below_drew1) | exact HB.out)))); have n1_ := Aside0.mk (below_step (by repeat (first | (with_reducible first | exact HB.out | apply below_alloc | apply pw_below_drewN | apply below_drew1) | exact HB.out)) hb); clear HB; have HO151 := n0_; have HB := n1_; clear n0_ n1_; (try clear hb); (try clear hb2); (try clear hk); (try clear hi); (try clear ho0); obtain ⟨Ao43, co43, eo43⟩ := Kd.R_slice HO151.out; subst eo43))
                  go_ret
                  exact ⟨by first | rfl | (simp [errW_none, errW_some] <;> rfl) | (simp [*, errW_none, errW_some] <;> rfl), by repeat (first | (with_reducible first | exact HB.out | apply below_alloc | apply pw_below_drewN | apply below_drew1) | exact HB.out)⟩
                · rw [if_neg c41] at H
                  have c41b0 : ((t148.length : Int) == 0) = false := beq_eq_false_iff_ne.mpr c41
                  have c41b1 : ((t148.length : Int) != 0) = true := bne_iff_ne.mpr c41
                  have c41b2 : ¬ (t148 = []) := fun h_ => c41 (by rw [h_]; rfl)
                  obtain rfl := Option.some.inj H
                  go_wp2_with (first | ((with_reducible refine gate_callee (f := 28) rfl ?_); refine goesL_ (some 78) rfl rfl Try.func28 (by kernel_rfl) rfl #[.string a2] rfl (by (try simp only [List.map_toArray, List.map_cons, List.map_nil]); first | done | rfl | (simp only [List.length_drop, List.length_take]; rfl)) ?_; (with_reducible refine (word_All.calls kj14 a2 t148 t149 _ A35.out).mono ?_); rintro e w44 ⟨v150, rfl, ho0, hb⟩; refine ⟨_, rfl, ?_⟩; have n0_ := Aside0.mk (Kd.R_lower ho0 (below_size (by repeat (first | (with_reducible first | exact HB.out | apply below_alloc | apply pw_below_drewN | apply below_drew1) | exact HB.out)))); have n1_ := Aside0.mk (below_step (by repeat (first | (with_reducible first | exact HB.out | apply below_alloc | apply pw_below_drewN | apply below_drew1) | exact HB.out)) hb); clear HB; have HO151 := n0_; have HB := n1_; clear n0_ n1_; (try clear hb); (try clear hb2); (try clear hk); (try clear hi); (try clear ho0); obtain ⟨Ao45, co45, eo45⟩ := Kd.R_slice HO151.out; subst eo45))
                  go_ret
                  exact ⟨by first | rfl | (simp [errW_none, errW_some] <;> rfl) | (simp [*, errW_none, errW_some] <;> rfl), by repeat (first | (with_reducible first | exact HB.out | apply below_alloc | apply pw_below_drewN | apply below_drew1) | exact HB.out)⟩
      · rw [if_neg c13] at H
        exact absurd H (by simp)
  · replace c5 := Bool.eq_false_iff.mpr c5
    subst c5
    have H1 : (some false) = some r := by rw [if_neg (show ¬ (false = true) by decide)] at H; exact H
    clear H
    have H := H1
    clear H1
    obtain rfl := Option.some.inj H
    go_enter Try.func8, Try.ntmps8
    go_wp2_with (first | ((with_reducible refine gate_callee (f := 9) rfl ?_); refine goesL_ (some 16) rfl rfl Try.func9 (by kernel_rfl) rfl #[] rfl (by (try simp only [List.map_toArray, List.map_cons, List.map_nil]); first | done | rfl | (simp only [List.length_drop, List.length_take]; rfl)) ?_; (with_reducible refine (haulagelaw01_lives.calls k  false _ A4.out).mono ?_); rintro e w46 ⟨rfl, hb⟩; refine ⟨_, rfl, ?_⟩; have n0_ := Aside0.mk (below_step (by repeat (first | (with_reducible first | exact HB.out | apply below_alloc | apply pw_below_drewN | apply below_drew1) | exact HB.out)) hb); clear HB; have HB := n0_; clear n0_; (try clear hb); (try clear hb2); (try clear hk); (try clear hi)))
    go_ret
    exact ⟨by first | rfl | (simp [errW_none, errW_some] <;> rfl) | (simp [*, errW_none, errW_some] <;> rfl), by repeat (first | (with_reducible first | exact HB.out | apply below_alloc | apply pw_below_drewN | apply below_drew1) | exact HB.out)⟩

/-- THE ONE PURE STATEMENT of haulagelaw01_WordBack: yours. -/
def haulagelaw01_WordBack.Pure : Prop := ∀ (a0 : Int) (a1 : Int) (a2 : ByteArray), (Lit.int .u32 a0).wf = true → (Lit.int .u64 a1).wf = true → a2.size ≤ 140737488351232 → ∃ k, haulagelaw01_WordBack.f k a0 a1 a2 = some true
theorem haulagelaw01_WordBack.walk (P : haulagelaw01_WordBack.Pure) (a0 : Int) (a1 : Int) (a2 : ByteArray) (w : World) (w0 : (Lit.int .u32 a0).wf = true) (w1 : (Lit.int .u64 a1).wf = true) (w2 : a2.size ≤ 140737488351232) :
    Calls Try.prog 8 #[.int .u32 a0, .int .u64 a1, .string a2] w fun e w' => e = .returned (.bool true) ∧ Below w.heap.size w w' := by
  obtain ⟨k, h⟩ := P a0 a1 a2 w0 w1 w2
  refine (haulagelaw01_WordBack.calls k a0 a1 a2 true w h).mono ?_
  rintro e w' ⟨rfl, hd⟩
  exact ⟨rfl, hd⟩

end Go.Proofs.Ytjkjpjbohiggaaa.HWordBack

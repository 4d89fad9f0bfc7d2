/- For Go functions that WordFits reaches: Lean functions, and walks that show that each call comes to what its Lean function tells; no condition but those that each theorem states. (This text began as a print of the kit's print.sh; the session's mend.py turned it.) -/
import Derived.Test.YtjkjpjbohiggaaaHWordFitsx0
import Derived.Test.YtjkjpjbohiggaaaHWordFitsx1
namespace Go.Proofs.Ytjkjpjbohiggaaa.HWordFits
open Go.RowKit Go.Proofs.YtjkjpjbohiggaaaW.PrintWords Go.Proofs.YtjkjpjbohiggaaaW.PrintLast Go.Proofs.YtjkjpjbohiggaaaW.PrintMore
attribute [local go_sem] max2_int min2_int max_two min_two max_three min_three max_four min_four   -- for this text's walks alone
set_option linter.unusedVariables false
set_option linter.unusedSimpArgs false

/-! ### haulagelaw01_WordFits: function 5 -/
mutual
def haulagelaw01_WordFits.j0 : Nat → Int → Int → Int → Bool → Option (Bool)
  | 0, _, _, _, _ => none
  | k + 1, x0, x1, x5, x24 => if x24 = true then (some false) else (if x1 < 1 then (haulagelaw01_WordFits.j1 k x0 x1 x5 true) else (haulagelaw01_WordFits.j1 k x0 x1 x5 (decide (x1 > 64))))
def haulagelaw01_WordFits.j1 : Nat → Int → Int → Int → Bool → Option (Bool)
  | 0, _, _, _, _ => none
  | k + 1, x0, x1, x5, x30 => if x30 = true then (some (x5 == 0)) else ((word_Fits.f x5 x1).bind fun t132 => (if t132 = true then ((word_Low.f x5 x1).bind fun t133 => (if t133 = x5 then ((word_Fits.f x0 x1).bind fun t134 => (some ((x5 == x0) == t134))) else (some false))) else (some false)))
end
def haulagelaw01_WordFits.f (k : Nat) (a0 : Int) (a1 : Int) : Option (Bool) := (haulagelaw01_lives.f k).bind fun t127 => (if t127 = true then ((word_Low.f a0 a1).bind fun t128 => ((word_Fits.f a0 a1).bind fun t129 => ((haulageref01_Fits.f k a0 a1).bind fun t130 => (if (t129 != t130) = true then (haulagelaw01_WordFits.j0 k a0 a1 t128 true) else ((haulageref01_Low.f k a0 a1).bind fun t131 => (haulagelaw01_WordFits.j0 k a0 a1 t128 (t128 != t131))))))) else (some false))
theorem haulagelaw01_WordFits.mono_l : ∀ k, (∀ y0 y1 y2 y3, LeO (haulagelaw01_WordFits.j0 k y0 y1 y2 y3) (haulagelaw01_WordFits.j0 (k + 1) y0 y1 y2 y3)) ∧ (∀ y0 y1 y2 y3, LeO (haulagelaw01_WordFits.j1 k y0 y1 y2 y3) (haulagelaw01_WordFits.j1 (k + 1) y0 y1 y2 y3))
  | 0 => ⟨fun _ _ _ _ r h => by simp [haulagelaw01_WordFits.j0] at h, fun _ _ _ _ r h => by simp [haulagelaw01_WordFits.j1] at h⟩
  | k + 1 => by
    obtain ⟨ih0, ih1⟩ := haulagelaw01_WordFits.mono_l k
    refine ⟨?_, ?_⟩
    · intro y0 y1 y2 y3
      unfold haulagelaw01_WordFits.j0
      repeat' first
      | (with_reducible exact ih0 _ _ _ _)
      | (with_reducible exact ih1 _ _ _ _)
      | (with_reducible exact haulagelaw01_lives.mono _)
      | (with_reducible exact haulageref01_Fits.mono _ _ _)
      | (with_reducible exact haulageref01_Low.mono _ _ _)
      | (with_reducible exact LeO.refl _)
      | (with_reducible exact LeO.none _)
      | (with_reducible refine LeO.ite ?_ ?_)
      | (with_reducible refine LeO.bind ?_ (fun _ => ?_))
      | exact ih0 _ _ _ _
      | exact ih1 _ _ _ _
      | exact haulagelaw01_lives.mono _
      | exact haulageref01_Fits.mono _ _ _
      | exact haulageref01_Low.mono _ _ _
      | exact LeO.none _
      | refine LeO.ite ?_ ?_
      | refine LeO.bind ?_ (fun _ => ?_)
    · intro y0 y1 y2 y3
      unfold haulagelaw01_WordFits.j1
      repeat' first
      | (with_reducible exact ih0 _ _ _ _)
      | (with_reducible exact ih1 _ _ _ _)
      | (with_reducible exact haulagelaw01_lives.mono _)
      | (with_reducible exact haulageref01_Fits.mono _ _ _)
      | (with_reducible exact haulageref01_Low.mono _ _ _)
      | (with_reducible exact LeO.refl _)
      | (with_reducible exact LeO.none _)
      | (with_reducible refine LeO.ite ?_ ?_)
      | (with_reducible refine LeO.bind ?_ (fun _ => ?_))
      | exact ih0 _ _ _ _
      | exact ih1 _ _ _ _
      | exact haulagelaw01_lives.mono _
      | exact haulageref01_Fits.mono _ _ _
      | exact haulageref01_Low.mono _ _ _
      | exact LeO.none _
      | refine LeO.ite ?_ ?_
      | refine LeO.bind ?_ (fun _ => ?_)
theorem haulagelaw01_WordFits.mono : ∀ a0 a1 k, LeO (haulagelaw01_WordFits.f k a0 a1) (haulagelaw01_WordFits.f (k + 1) a0 a1) := by
  intro a0 a1 k
  obtain ⟨ih0, ih1⟩ := haulagelaw01_WordFits.mono_l k
  unfold haulagelaw01_WordFits.f
  repeat' first
      | (with_reducible exact ih0 _ _ _ _)
      | (with_reducible exact ih1 _ _ _ _)
      | (with_reducible exact haulagelaw01_lives.mono _)
      | (with_reducible exact haulageref01_Fits.mono _ _ _)
      | (with_reducible exact haulageref01_Low.mono _ _ _)
      | (with_reducible exact LeO.refl _)
      | (with_reducible exact LeO.none _)
      | (with_reducible refine LeO.ite ?_ ?_)
      | (with_reducible refine LeO.bind ?_ (fun _ => ?_))
      | exact ih0 _ _ _ _
      | exact ih1 _ _ _ _
      | exact haulagelaw01_lives.mono _
      | exact haulageref01_Fits.mono _ _ _
      | exact haulageref01_Low.mono _ _ _
      | exact LeO.none _
      | refine LeO.ite ?_ ?_
      | refine LeO.bind ?_ (fun _ => ?_)
set_option maxHeartbeats 8000000 in
set_option maxRecDepth 100000 in
theorem haulagelaw01_WordFits.calls (k : Nat) (a0 : Int) (a1 : Int) (r : Bool) (w : World) (h : haulagelaw01_WordFits.f k a0 a1 = some r) :
    Calls Try.prog 5 #[.int .i64 a0, .int .i64 a1] w fun e w' => e = .returned (.bool r) ∧ Below w.heap.size w w' := by
  have HB := Aside0.mk (Below.refl w.heap.size w)
  have H : ((haulagelaw01_lives.f k).bind fun t127 => (if t127 = true then ((word_Low.f a0 a1).bind fun t128 => ((word_Fits.f a0 a1).bind fun t129 => ((haulageref01_Fits.f k a0 a1).bind fun t130 => (if (t129 != t130) = true then (haulagelaw01_WordFits.j0 k a0 a1 t128 true) else ((haulageref01_Low.f k a0 a1).bind fun t131 => (haulagelaw01_WordFits.j0 k a0 a1 t128 (t128 != t131))))))) else (some false))) = some r := h
  clear h
  replace H := Option.bind_eq_some_iff.mp H
  obtain ⟨t127, A30, H⟩ := H
  replace H : (if t127 = true then ((word_Low.f a0 a1).bind fun t128 => ((word_Fits.f a0 a1).bind fun t129 => ((haulageref01_Fits.f k a0 a1).bind fun t130 => (if (t129 != t130) = true then (haulagelaw01_WordFits.j0 k a0 a1 t128 true) else ((haulageref01_Low.f k a0 a1).bind fun t131 => (haulagelaw01_WordFits.j0 k a0 a1 t128 (t128 != t131))))))) else (some false)) = some r := H
  have A3 := Aside0.mk A30
  clear A30
  by_cases c4 : t127 = true
  · subst c4
    have H1 : ((word_Low.f a0 a1).bind fun t128 => ((word_Fits.f a0 a1).bind fun t129 => ((haulageref01_Fits.f k a0 a1).bind fun t130 => (if (t129 != t130) = true then (haulagelaw01_WordFits.j0 k a0 a1 t128 true) else ((haulageref01_Low.f k a0 a1).bind fun t131 => (haulagelaw01_WordFits.j0 k a0 a1 t128 (t128 != t131))))))) = some r := by rw [if_pos rfl] at H; exact H
    clear H
    have H := H1
    clear H1
    replace H := Option.bind_eq_some_iff.mp H
    obtain ⟨t128, A50, H⟩ := H
    replace H : ((word_Fits.f a0 a1).bind fun t129 => ((haulageref01_Fits.f k a0 a1).bind fun t130 => (if (t129 != t130) = true then (haulagelaw01_WordFits.j0 k a0 a1 t128 true) else ((haulageref01_Low.f k a0 a1).bind fun t131 => (haulagelaw01_WordFits.j0 k a0 a1 t128 (t128 != t131)))))) = some r := H
    have A5 := Aside0.mk A50
    clear A50
    have HC6 := Aside0.mk H
    clear H
    go_enter Try.func5, Try.ntmps5
    go_upto_region 4 with (first | ((with_reducible refine gate_callee (f := 9) rfl ?_); refine goesL_ (some 6) rfl rfl Try.func9 (by kernel_rfl) rfl #[] rfl (by (try simp only [List.map_toArray, List.map_cons, List.map_nil]); first | done | rfl | (simp only [List.length_drop, List.length_take]; rfl)) ?_; (with_reducible refine (haulagelaw01_lives.calls k  true _ A3.out).mono ?_); rintro e w7 ⟨rfl, hb⟩; refine ⟨_, rfl, ?_⟩; have n0_ := Aside0.mk (below_step (by repeat (first | (with_reducible first | exact HB.out | apply below_alloc | apply pw_below_drewN | apply below_drew1) | exact HB.out)) hb); clear HB; have HB := n0_; clear n0_; (try clear hb); (try clear hb2); (try clear hk); (try clear hi)) | ((with_reducible refine gate_callee (f := 16) rfl ?_); refine goesL_ (some 10) rfl rfl Try.func16 (by kernel_rfl) rfl #[.int .i64 a0, .int .i64 a1] rfl (by (try simp only [List.map_toArray, List.map_cons, List.map_nil]); first | done | rfl | (simp only [List.length_drop, List.length_take]; rfl)) ?_; (with_reducible refine (word_Low.calls a0 a1 t128 _ A5.out).mono ?_); rintro e w' ⟨rfl, ⟨nd, rfl⟩⟩; refine ⟨_, rfl, ?_⟩))
    (try simp only [Act.put, List.setIfInBounds_toArray, List.set_cons_zero, List.set_cons_succ])
    go_cut [24] (fun v24 wc => ∃ (kq : Nat) (x24_5 : Bool), v24 = .bool x24_5 ∧ Aside0 (haulagelaw01_WordFits.j0 kq a0 a1 t128 x24_5 = some r) ∧ Aside0 (kq ≤ k) ∧ Aside0 (Below w.heap.size w wc))
    case first =>
      have H := HC6.out
      clear HC6
      replace H := Option.bind_eq_some_iff.mp H
      obtain ⟨t129, A80, H⟩ := H
      replace H : ((haulageref01_Fits.f k a0 a1).bind fun t130 => (if (t129 != t130) = true then (haulagelaw01_WordFits.j0 k a0 a1 t128 true) else ((haulageref01_Low.f k a0 a1).bind fun t131 => (haulagelaw01_WordFits.j0 k a0 a1 t128 (t128 != t131))))) = some r := H
      have A8 := Aside0.mk A80
      clear A80
      replace H := Option.bind_eq_some_iff.mp H
      obtain ⟨t130, A90, H⟩ := H
      replace H : (if (t129 != t130) = true then (haulagelaw01_WordFits.j0 k a0 a1 t128 true) else ((haulageref01_Low.f k a0 a1).bind fun t131 => (haulagelaw01_WordFits.j0 k a0 a1 t128 (t128 != t131)))) = some r := H
      have A9 := Aside0.mk A90
      clear A90
      by_cases c10 : (t129 != t130) = true
      · rw [if_pos c10] at H
        have c10b0 : (t129 != t130) = true := c10
        (try (have c10b1 : decide (t129 = t130) = false := by simpa using c10))
        (try (have c10b2 : (t129 == t130) = false := by simpa using c10))
        (try (have c10b3 : ¬ (t129 = t130) := by simpa using c10))
        clear c10
        (first | rw [c10b0] | (simp only [i64_w, i32_w]; rw [c10b0]) | skip)
        have H' := Aside0.mk H
        clear H
        go_wp2_with (first | ((with_reducible refine gate_callee (f := 17) rfl ?_); refine goesL_ (some 13) rfl rfl Try.func17 (by kernel_rfl) rfl #[.int .i64 a0, .int .i64 a1] rfl (by (try simp only [List.map_toArray, List.map_cons, List.map_nil]); first | done | rfl | (simp only [List.length_drop, List.length_take]; rfl)) ?_; (with_reducible refine (word_Fits.calls a0 a1 t129 _ A8.out).mono ?_); rintro e w' ⟨rfl, ⟨nd, rfl⟩⟩; refine ⟨_, rfl, ?_⟩) | ((with_reducible refine gate_callee (f := 18) rfl ?_); refine goesL_ (some 16) rfl rfl Try.func18 (by kernel_rfl) rfl #[.int .i64 a0, .int .i64 a1] rfl (by (try simp only [List.map_toArray, List.map_cons, List.map_nil]); first | done | rfl | (simp only [List.length_drop, List.length_take]; rfl)) ?_; (with_reducible refine (haulageref01_Fits.calls k a0 a1 t130 _ A9.out).mono ?_); rintro e w' ⟨rfl, ⟨nd, rfl⟩⟩; refine ⟨_, rfl, ?_⟩))
        go_meet
        case rel => exact ⟨_, (true), (by first | rfl | (simp; done) | (simp [*]; done)), H', ⟨by first | omega | exact Nat.le_refl _⟩, ⟨by repeat (first | (with_reducible first | exact HB.out | apply below_alloc | apply pw_below_drewN | apply below_drew1) | exact HB.out)⟩⟩
      · rw [if_neg c10] at H
        have c10b0 : (t129 != t130) = false := by simpa using c10
        (try (have c10b1 : decide (t129 = t130) = true := by simpa using c10))
        (try (have c10b2 : (t129 == t130) = true := by simpa using c10))
        clear c10
        (first | rw [c10b0] | (simp only [i64_w, i32_w]; rw [c10b0]) | skip)
        replace H := Option.bind_eq_some_iff.mp H
        obtain ⟨t131, A110, H⟩ := H
        replace H : (haulagelaw01_WordFits.j0 k a0 a1 t128 (t128 != t131)) = some r := H
        have A11 := Aside0.mk A110
        clear A110
        have H' := Aside0.mk H
        clear H
        go_wp2_with (first | ((with_reducible refine gate_callee (f := 17) rfl ?_); refine goesL_ (some 13) rfl rfl Try.func17 (by kernel_rfl) rfl #[.int .i64 a0, .int .i64 a1] rfl (by (try simp only [List.map_toArray, List.map_cons, List.map_nil]); first | done | rfl | (simp only [List.length_drop, List.length_take]; rfl)) ?_; (with_reducible refine (word_Fits.calls a0 a1 t129 _ A8.out).mono ?_); rintro e w' ⟨rfl, ⟨nd, rfl⟩⟩; refine ⟨_, rfl, ?_⟩) | ((with_reducible refine gate_callee (f := 18) rfl ?_); refine goesL_ (some 16) rfl rfl Try.func18 (by kernel_rfl) rfl #[.int .i64 a0, .int .i64 a1] rfl (by (try simp only [List.map_toArray, List.map_cons, List.map_nil]); first | done | rfl | (simp only [List.length_drop, List.length_take]; rfl)) ?_; (with_reducible refine (haulageref01_Fits.calls k a0 a1 t130 _ A9.out).mono ?_); rintro e w' ⟨rfl, ⟨nd, rfl⟩⟩; refine ⟨_, rfl, ?_⟩) | (go_at_call 19; (with_reducible refine (haulageref01_Low.calls k a0 a1 t131 _ A11.out).mono ?_); rintro e w' ⟨rfl, ⟨nd, rfl⟩⟩))
        go_meet
        case rel => exact ⟨_, ((t128 != t131)), (by first | rfl | (simp; done) | (simp [*]; done)), H', ⟨by first | omega | exact Nat.le_refl _⟩, ⟨by repeat (first | (with_reducible first | exact HB.out | apply below_alloc | apply pw_below_drewN | apply below_drew1) | exact HB.out)⟩⟩
    case rest =>
      clear HC6
      try clear c1
      try clear p2
      try clear c4
      try clear c5
      try clear c9
      try clear c10
      try clear c10b0
      try clear c10b1
      try clear c10b2
      obtain ⟨kq, x24_5, rfl, HA, HJ5, HB⟩ := hcut
      cases kq with
      | zero => exact absurd HA.out (by simp [haulagelaw01_WordFits.j0])
      | succ kj5 =>
        have H := HA.out
        clear HA
        simp only [haulagelaw01_WordFits.j0] at H
        by_cases c12 : x24_5 = true
        · subst c12
          have H1 : (some false) = some r := by rw [if_pos rfl] at H; exact H
          clear H
          have H := H1
          clear H1
          obtain rfl := Option.some.inj H
          go_wp2
          go_ret
          exact ⟨by first | rfl | (simp [errW_none, errW_some] <;> rfl) | (simp [*, errW_none, errW_some] <;> rfl), by repeat (first | (with_reducible first | exact HB.out | apply below_alloc | apply pw_below_drewN | apply below_drew1) | exact HB.out)⟩
        · replace c12 := Bool.eq_false_iff.mpr c12
          subst c12
          have H1 : (if a1 < 1 then (haulagelaw01_WordFits.j1 kj5 a0 a1 t128 true) else (haulagelaw01_WordFits.j1 kj5 a0 a1 t128 (decide (a1 > 64)))) = some r := by rw [if_neg (show ¬ (false = true) by decide)] at H; exact H
          clear H
          have H := H1
          clear H1
          have HC13 := Aside0.mk H
          clear H
          go_upto_region 6 with (fail)
          go_cut [30] (fun v30 wc => ∃ (kq : Nat) (x30_12 : Bool), v30 = .bool x30_12 ∧ Aside0 (haulagelaw01_WordFits.j1 kq a0 a1 t128 x30_12 = some r) ∧ Aside0 (kq ≤ kj5) ∧ Aside0 (Below w.heap.size w wc))
          case first =>
            have H := HC13.out
            clear HC13
            by_cases c14 : a1 < 1
            · rw [if_pos c14] at H
              have c14b0 : decide (a1 < 1) = true := decide_eq_true c14
              clear c14
              (first | rw [c14b0] | (simp only [i64_w, i32_w]; rw [c14b0]) | skip)
              have H' := Aside0.mk H
              clear H
              go_wp2
              go_meet
              case rel => exact ⟨_, (true), (by first | rfl | (simp; done) | (simp [*]; done)), H', ⟨by have := HJ5.out; first | omega | exact Nat.le_refl _⟩, ⟨by repeat (first | (with_reducible first | exact HB.out | apply below_alloc | apply pw_below_drewN | apply below_drew1) | exact HB.out)⟩⟩
            · rw [if_neg c14] at H
              have c14b0 : decide (a1 < 1) = false := decide_eq_false c14
              clear c14
              (first | rw [c14b0] | (simp only [i64_w, i32_w]; rw [c14b0]) | skip)
              have H' := Aside0.mk H
              clear H
              go_wp2
              go_meet
              case rel => exact ⟨_, (decide (a1 > 64)), (by first | rfl | (simp; done) | (simp [*]; done)), H', ⟨by have := HJ5.out; first | omega | exact Nat.le_refl _⟩, ⟨by repeat (first | (with_reducible first | exact HB.out | apply below_alloc | apply pw_below_drewN | apply below_drew1) | exact HB.out)⟩⟩
          case rest =>
            clear HC13
            try clear c1
            try clear p2
            try clear c4
            try clear c5
            try clear c9
            try clear c10
            try clear c10b0
            try clear c10b1
            try clear c10b2
            try clear c12
            try clear c14
            try clear c14b0
            try clear p2
            obtain ⟨kq, x30_12, rfl, HA, HJ12, HB⟩ := hcut
            cases kq with
            | zero => exact absurd HA.out (by simp [haulagelaw01_WordFits.j1])
            | succ kj12 =>
              have H := HA.out
              clear HA
              simp only [haulagelaw01_WordFits.j1] at H
              by_cases c15 : x30_12 = true
              · subst c15
                have H1 : (some (t128 == 0)) = some r := by rw [if_pos rfl] at H; exact H
                clear H
                have H := H1
                clear H1
                obtain rfl := Option.some.inj H
                go_wp2
                go_ret
                exact ⟨by first | rfl | (simp [errW_none, errW_some] <;> rfl) | (simp [*, errW_none, errW_some] <;> rfl), by repeat (first | (with_reducible first | exact HB.out | apply below_alloc | apply pw_below_drewN | apply below_drew1) | exact HB.out)⟩
              · replace c15 := Bool.eq_false_iff.mpr c15
                subst c15
                have H1 : ((word_Fits.f t128 a1).bind fun t132 => (if t132 = true then ((word_Low.f t128 a1).bind fun t133 => (if t133 = t128 then ((word_Fits.f a0 a1).bind fun t134 => (some ((t128 == a0) == t134))) else (some false))) else (some false))) = some r := by rw [if_neg (show ¬ (false = true) by decide)] at H; exact H
                clear H
                have H := H1
                clear H1
                replace H := Option.bind_eq_some_iff.mp H
                obtain ⟨t132, A160, H⟩ := H
                replace H : (if t132 = true then ((word_Low.f t128 a1).bind fun t133 => (if t133 = t128 then ((word_Fits.f a0 a1).bind fun t134 => (some ((t128 == a0) == t134))) else (some false))) else (some false)) = some r := H
                have A16 := Aside0.mk A160
                clear A160
                by_cases c17 : t132 = true
                · subst c17
                  have H1 : ((word_Low.f t128 a1).bind fun t133 => (if t133 = t128 then ((word_Fits.f a0 a1).bind fun t134 => (some ((t128 == a0) == t134))) else (some false))) = some r := by rw [if_pos rfl] at H; exact H
                  clear H
                  have H := H1
                  clear H1
                  replace H := Option.bind_eq_some_iff.mp H
                  obtain ⟨t133, A180, H⟩ := H
                  replace H : (if t133 = t128 then ((word_Fits.f a0 a1).bind fun t134 => (some ((t128 == a0) == t134))) else (some false)) = some r := H
                  have A18 := Aside0.mk A180
                  clear A180
                  by_cases c19 : t133 = t128
                  · rw [if_pos c19] at H
                    have c19b0 : (t133 == t128) = true := beq_iff_eq.mpr c19
                    have c19b1 : (t133 != t128) = false := bne_eq_false_iff_eq.mpr c19
                    clear c19
                    replace H := Option.bind_eq_some_iff.mp H
                    obtain ⟨t134, A200, H⟩ := H
                    replace H : (some ((t128 == a0) == t134)) = some r := H
                    have A20 := Aside0.mk A200
                    clear A200
                    obtain rfl := Option.some.inj H
                    go_wp2_with (first | ((with_reducible refine gate_callee (f := 17) rfl ?_); refine goesL_ (some 35) rfl rfl Try.func17 (by kernel_rfl) rfl #[.int .i64 t128, .int .i64 a1] rfl (by (try simp only [List.map_toArray, List.map_cons, List.map_nil]); first | done | rfl | (simp only [List.length_drop, List.length_take]; rfl)) ?_; (with_reducible refine (word_Fits.calls t128 a1 true _ A16.out).mono ?_); rintro e w' ⟨rfl, ⟨nd, rfl⟩⟩; refine ⟨_, rfl, ?_⟩) | (go_at_call 16; (with_reducible refine (word_Low.calls t128 a1 t133 _ A18.out).mono ?_); rintro e w' ⟨rfl, ⟨nd, rfl⟩⟩) | (go_at_call 17; (with_reducible refine (word_Fits.calls a0 a1 t134 _ A20.out).mono ?_); rintro e w' ⟨rfl, ⟨nd, rfl⟩⟩))
                    go_ret
                    exact ⟨by first | rfl | (simp [errW_none, errW_some] <;> rfl) | (simp [*, errW_none, errW_some] <;> rfl), by repeat (first | (with_reducible first | exact HB.out | apply below_alloc | apply pw_below_drewN | apply below_drew1) | exact HB.out)⟩
                  · rw [if_neg c19] at H
                    have c19b0 : (t133 == t128) = false := beq_eq_false_iff_ne.mpr c19
                    have c19b1 : (t133 != t128) = true := bne_iff_ne.mpr c19
                    obtain rfl := Option.some.inj H
                    go_wp2_with (first | ((with_reducible refine gate_callee (f := 17) rfl ?_); refine goesL_ (some 35) rfl rfl Try.func17 (by kernel_rfl) rfl #[.int .i64 t128, .int .i64 a1] rfl (by (try simp only [List.map_toArray, List.map_cons, List.map_nil]); first | done | rfl | (simp only [List.length_drop, List.length_take]; rfl)) ?_; (with_reducible refine (word_Fits.calls t128 a1 true _ A16.out).mono ?_); rintro e w' ⟨rfl, ⟨nd, rfl⟩⟩; refine ⟨_, rfl, ?_⟩) | (go_at_call 16; (with_reducible refine (word_Low.calls t128 a1 t133 _ A18.out).mono ?_); rintro e w' ⟨rfl, ⟨nd, rfl⟩⟩))
                    go_ret
                    exact ⟨by first | rfl | (simp [errW_none, errW_some] <;> rfl) | (simp [*, errW_none, errW_some] <;> rfl), by repeat (first | (with_reducible first | exact HB.out | apply below_alloc | apply pw_below_drewN | apply below_drew1) | exact HB.out)⟩
                · replace c17 := Bool.eq_false_iff.mpr c17
                  subst c17
                  have H1 : (some false) = some r := by rw [if_neg (show ¬ (false = true) by decide)] at H; exact H
                  clear H
                  have H := H1
                  clear H1
                  obtain rfl := Option.some.inj H
                  go_wp2_with (first | ((with_reducible refine gate_callee (f := 17) rfl ?_); refine goesL_ (some 35) rfl rfl Try.func17 (by kernel_rfl) rfl #[.int .i64 t128, .int .i64 a1] rfl (by (try simp only [List.map_toArray, List.map_cons, List.map_nil]); first | done | rfl | (simp only [List.length_drop, List.length_take]; rfl)) ?_; (with_reducible refine (word_Fits.calls t128 a1 false _ A16.out).mono ?_); rintro e w' ⟨rfl, ⟨nd, rfl⟩⟩; refine ⟨_, rfl, ?_⟩))
                  go_ret
                  exact ⟨by first | rfl | (simp [errW_none, errW_some] <;> rfl) | (simp [*, errW_none, errW_some] <;> rfl), by repeat (first | (with_reducible first | exact HB.out | apply below_alloc | apply pw_below_drewN | apply below_drew1) | exact HB.out)⟩
  · replace c4 := Bool.eq_false_iff.mpr c4
    subst c4
    have H1 : (some false) = some r := by rw [if_neg (show ¬ (false = true) by decide)] at H; exact H
    clear H
    have H := H1
    clear H1
    obtain rfl := Option.some.inj H
    go_enter Try.func5, Try.ntmps5
    go_wp2_with (first | ((with_reducible refine gate_callee (f := 9) rfl ?_); refine goesL_ (some 6) rfl rfl Try.func9 (by kernel_rfl) rfl #[] rfl (by (try simp only [List.map_toArray, List.map_cons, List.map_nil]); first | done | rfl | (simp only [List.length_drop, List.length_take]; rfl)) ?_; (with_reducible refine (haulagelaw01_lives.calls k  false _ A3.out).mono ?_); rintro e w21 ⟨rfl, hb⟩; refine ⟨_, rfl, ?_⟩; have n0_ := Aside0.mk (below_step (by repeat (first | (with_reducible first | exact HB.out | apply below_alloc | apply pw_below_drewN | apply below_drew1) | exact HB.out)) hb); clear HB; have HB := n0_; clear n0_; (try clear hb); (try clear hb2); (try clear hk); (try clear hi)))
    go_ret
    exact ⟨by first | rfl | (simp [errW_none, errW_some] <;> rfl) | (simp [*, errW_none, errW_some] <;> rfl), by repeat (first | (with_reducible first | exact HB.out | apply below_alloc | apply pw_below_drewN | apply below_drew1) | exact HB.out)⟩

/-- THE ONE PURE STATEMENT of haulagelaw01_WordFits: yours. -/
def haulagelaw01_WordFits.Pure : Prop := ∀ (a0 : Int) (a1 : Int), (Lit.int .i64 a0).wf = true → (Lit.int .i64 a1).wf = true → ∃ k, haulagelaw01_WordFits.f k a0 a1 = some true
theorem haulagelaw01_WordFits.walk (P : haulagelaw01_WordFits.Pure) (a0 : Int) (a1 : Int) (w : World) (w0 : (Lit.int .i64 a0).wf = true) (w1 : (Lit.int .i64 a1).wf = true) :
    Calls Try.prog 5 #[.int .i64 a0, .int .i64 a1] w fun e w' => e = .returned (.bool true) ∧ Below w.heap.size w w' := by
  obtain ⟨k, h⟩ := P a0 a1 w0 w1
  refine (haulagelaw01_WordFits.calls k a0 a1 true w h).mono ?_
  rintro e w' ⟨rfl, hd⟩
  exact ⟨rfl, hd⟩

end Go.Proofs.Ytjkjpjbohiggaaa.HWordFits

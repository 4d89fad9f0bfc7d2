/- For Go functions that RowcodeTypes reaches: Lean functions, and walks that show that each call comes to what its Lean function tells; no condition but those that each theorem states. (Made by a program of this session over the kit's print.py.) -/
import Derived.Test.YtdeophpjammbpaaDoorHRowcodeTypesx0
import Derived.Test.YtdeophpjammbpaaDoorHRowcodeTypesx10
namespace Go.Proofs.YtdeophpjammbpaaDoor.HRowcodeTypes
open Go.RowKit Go.Proofs.YtdeophpjammbpaaDoorW.PrintWords Go.Proofs.YtdeophpjammbpaaDoorW.PrintLast Go.Proofs.YtdeophpjammbpaaDoorW.PrintMore
attribute [local go_sem] max2_int min2_int max_two min_two max_three min_three max_four min_four   -- for this text's walks alone
set_option linter.unusedVariables false
set_option linter.unusedSimpArgs false
attribute [local go_sem] hp_s8 hp_s16 hp_s32 hp_s64 hp_m8 hp_m16 hp_m32 hp_m64
/-! ### haulageref03_Put: function 120 -/
def haulageref03_Put.f (a0 : Int) : Option (ByteArray) := if a0 < 128 then ((haulageref03_one.f a0).bind fun t231 => (some t231)) else (if a0 < 2048 then ((haulageref03_one.f (wrap64 (192 + (wrap64 (Int.tdiv a0 64))))).bind fun t232 => ((haulageref03_one.f (wrap64 (128 + (Int.tmod a0 64)))).bind fun t233 => (if t232.size + t233.size ≤ 9223372036854775807 then (some (t232 ++ t233)) else (none)))) else (if a0 < 65536 then ((haulageref03_one.f (wrap64 (224 + (wrap64 (Int.tdiv a0 4096))))).bind fun t234 => ((haulageref03_one.f (wrap64 (128 + (Int.tmod (wrap64 (Int.tdiv a0 64)) 64)))).bind fun t235 => (if t234.size + t235.size ≤ 9223372036854775807 then ((haulageref03_one.f (wrap64 (128 + (Int.tmod a0 64)))).bind fun t236 => (if (t234 ++ t235).size + t236.size ≤ 9223372036854775807 then (some ((t234 ++ t235) ++ t236)) else (none))) else (none)))) else ((haulageref03_one.f (wrap64 (240 + (wrap64 (Int.tdiv a0 262144))))).bind fun t237 => ((haulageref03_one.f (wrap64 (128 + (Int.tmod (wrap64 (Int.tdiv a0 4096)) 64)))).bind fun t238 => (if t237.size + t238.size ≤ 9223372036854775807 then ((haulageref03_one.f (wrap64 (128 + (Int.tmod (wrap64 (Int.tdiv a0 64)) 64)))).bind fun t239 => (if (t237 ++ t238).size + t239.size ≤ 9223372036854775807 then ((haulageref03_one.f (wrap64 (128 + (Int.tmod a0 64)))).bind fun t240 => (if ((t237 ++ t238) ++ t239).size + t240.size ≤ 9223372036854775807 then (some (((t237 ++ t238) ++ t239) ++ t240)) else (none))) else (none))) else (none))))))
set_option maxHeartbeats 8000000 in
set_option maxRecDepth 100000 in
theorem haulageref03_Put.calls (a0 : Int) (r : ByteArray) (w : World) (h : haulageref03_Put.f a0 = some r) :
  Calls Tryd.prog 120 #[.int .i64 a0] w fun e w' => e = .returned (.string r) ∧ Below w.heap.size w w' := by
 have HB := aM (Below.refl w.heap.size w)
 have H : (if a0 < 128 then ((haulageref03_one.f a0).bind fun t231 => (some t231)) else (if a0 < 2048 then ((haulageref03_one.f (wrap64 (192 + (wrap64 (Int.tdiv a0 64))))).bind fun t232 => ((haulageref03_one.f (wrap64 (128 + (Int.tmod a0 64)))).bind fun t233 => (if t232.size + t233.size ≤ 9223372036854775807 then (some (t232 ++ t233)) else (none)))) else (if a0 < 65536 then ((haulageref03_one.f (wrap64 (224 + (wrap64 (Int.tdiv a0 4096))))).bind fun t234 => ((haulageref03_one.f (wrap64 (128 + (Int.tmod (wrap64 (Int.tdiv a0 64)) 64)))).bind fun t235 => (if t234.size + t235.size ≤ 9223372036854775807 then ((haulageref03_one.f (wrap64 (128 + (Int.tmod a0 64)))).bind fun t236 => (if (t234 ++ t235).size + t236.size ≤ 9223372036854775807 then (some ((t234 ++ t235) ++ t236)) else (none))) else (none)))) else ((haulageref03_one.f (wrap64 (240 + (wrap64 (Int.tdiv a0 262144))))).bind fun t237 => ((haulageref03_one.f (wrap64 (128 + (Int.tmod (wrap64 (Int.tdiv a0 4096)) 64)))).bind fun t238 => (if t237.size + t238.size ≤ 9223372036854775807 then ((haulageref03_one.f (wrap64 (128 + (Int.tmod (wrap64 (Int.tdiv a0 64)) 64)))).bind fun t239 => (if (t237 ++ t238).size + t239.size ≤ 9223372036854775807 then ((haulageref03_one.f (wrap64 (128 + (Int.tmod a0 64)))).bind fun t240 => (if ((t237 ++ t238) ++ t239).size + t240.size ≤ 9223372036854775807 then (some (((t237 ++ t238) ++ t239) ++ t240)) else (none))) else (none))) else (none))))))) = some r := h
 clear h
 by_cases c2 : a0 < 128
 ·
  rw [if_pos c2] at H
  have c2b0 : decide (a0 < 128) = true := decide_eq_true c2
  clear c2
  obtain ⟨t231, A3, H⟩ := yb H
  obtain rfl := Option.some.inj H
  go_enter Tryd.func120, Tryd.ntmps120
  go_wp2_with (first | ((with_reducible refine gate_callee (f := 124) rfl ?_); refine yC 7 Tryd.func124 #[.int .i64 a0] rfl ?_; (with_reducible refine (haulageref03_one.calls a0 t231 _ A3.out).mono ?_); rintro e w4 ⟨rfl, hb⟩; refine ⟨_, rfl, ?_⟩; replace HB := aM (bP (yB HB) hb); (try clear hb)))
  go_ret
  exact ⟨yE, yB HB⟩
 ·
  rw [if_neg c2] at H
  have c2b0 : decide (a0 < 128) = false := decide_eq_false c2
  clear c2
  by_cases c5 : a0 < 2048
  ·
   rw [if_pos c5] at H
   have c5b0 : decide (a0 < 2048) = true := decide_eq_true c5
   clear c5
   obtain ⟨t232, A6, H⟩ := yb H
   obtain ⟨t233, A7, H⟩ := yb H
   by_cases c8 : t232.size + t233.size ≤ 9223372036854775807
   ·
    rw [if_pos c8] at H
    have c8b0 := eq_true c8
    have c8b1 : decide (t232.size + t233.size ≤ 9223372036854775807) = true := decide_eq_true c8
    try have c8b2 : (9223372036854775807 < t232.size + t233.size) = False := eq_false (Nat.not_lt.2 c8)
    obtain rfl := Option.some.inj H
    go_enter Tryd.func120, Tryd.ntmps120
    go_wp2_with (first | ((with_reducible refine gate_callee (f := 124) rfl ?_); refine yC 14 Tryd.func124 #[.int .i64 (wrap64 (192 + (wrap64 (Int.tdiv a0 64))))] rfl ?_; (with_reducible refine (haulageref03_one.calls (wrap64 (192 + (wrap64 (Int.tdiv a0 64)))) t232 _ A6.out).mono ?_); rintro e w9 ⟨rfl, hb⟩; refine ⟨_, rfl, ?_⟩; replace HB := aM (bP (yB HB) hb); (try clear hb)) | ((with_reducible refine gate_callee (f := 124) rfl ?_); refine yC 18 Tryd.func124 #[.int .i64 (wrap64 (128 + (Int.tmod a0 64)))] rfl ?_; (with_reducible refine (haulageref03_one.calls (wrap64 (128 + (Int.tmod a0 64))) t233 _ A7.out).mono ?_); rintro e w10 ⟨rfl, hb⟩; refine ⟨_, rfl, ?_⟩; replace HB := aM (bP (yB HB) hb); (try clear hb)))
    go_ret
    exact ⟨yE, yB HB⟩
   ·
    rw [if_neg c8] at H
    exact absurd H (by simp)
  ·
   rw [if_neg c5] at H
   have c5b0 : decide (a0 < 2048) = false := decide_eq_false c5
   clear c5
   by_cases c11 : a0 < 65536
   ·
    rw [if_pos c11] at H
    have c11b0 : decide (a0 < 65536) = true := decide_eq_true c11
    clear c11
    obtain ⟨t234, A12, H⟩ := yb H
    obtain ⟨t235, A13, H⟩ := yb H
    by_cases c14 : t234.size + t235.size ≤ 9223372036854775807
    ·
     rw [if_pos c14] at H
     have c14b0 := eq_true c14
     have c14b1 : decide (t234.size + t235.size ≤ 9223372036854775807) = true := decide_eq_true c14
     try have c14b2 : (9223372036854775807 < t234.size + t235.size) = False := eq_false (Nat.not_lt.2 c14)
     obtain ⟨t236, A15, H⟩ := yb H
     by_cases c16 : (t234 ++ t235).size + t236.size ≤ 9223372036854775807
     ·
      rw [if_pos c16] at H
      have c16b0 := eq_true c16
      have c16b1 : decide ((t234 ++ t235).size + t236.size ≤ 9223372036854775807) = true := decide_eq_true c16
      have c16z : (9223372036854775807 < t234.size + t235.size + t236.size) = False := eq_false (by have h_ := oD c16b1; simp only [ByteArray.size_append] at h_; omega)
      try have c16b2 : (9223372036854775807 < (t234 ++ t235).size + t236.size) = False := eq_false (Nat.not_lt.2 c16)
      obtain rfl := Option.some.inj H
      go_enter Tryd.func120, Tryd.ntmps120
      go_wp2_with (first | ((with_reducible refine gate_callee (f := 124) rfl ?_); refine yC 26 Tryd.func124 #[.int .i64 (wrap64 (224 + (wrap64 (Int.tdiv a0 4096))))] rfl ?_; (with_reducible refine (haulageref03_one.calls (wrap64 (224 + (wrap64 (Int.tdiv a0 4096)))) t234 _ A12.out).mono ?_); rintro e w17 ⟨rfl, hb⟩; refine ⟨_, rfl, ?_⟩; replace HB := aM (bP (yB HB) hb); (try clear hb)) | ((with_reducible refine gate_callee (f := 124) rfl ?_); refine yC 31 Tryd.func124 #[.int .i64 (wrap64 (128 + (Int.tmod (wrap64 (Int.tdiv a0 64)) 64)))] rfl ?_; (with_reducible refine (haulageref03_one.calls (wrap64 (128 + (Int.tmod (wrap64 (Int.tdiv a0 64)) 64))) t235 _ A13.out).mono ?_); rintro e w18 ⟨rfl, hb⟩; refine ⟨_, rfl, ?_⟩; replace HB := aM (bP (yB HB) hb); (try clear hb)) | ((with_reducible refine gate_callee (f := 124) rfl ?_); refine yC 36 Tryd.func124 #[.int .i64 (wrap64 (128 + (Int.tmod a0 64)))] rfl ?_; (with_reducible refine (haulageref03_one.calls (wrap64 (128 + (Int.tmod a0 64))) t236 _ A15.out).mono ?_); rintro e w19 ⟨rfl, hb⟩; refine ⟨_, rfl, ?_⟩; replace HB := aM (bP (yB HB) hb); (try clear hb)))
      go_ret
      exact ⟨yE, yB HB⟩
     ·
      rw [if_neg c16] at H
      exact absurd H (by simp)
    ·
     rw [if_neg c14] at H
     exact absurd H (by simp)
   ·
    rw [if_neg c11] at H
    have c11b0 : decide (a0 < 65536) = false := decide_eq_false c11
    clear c11
    obtain ⟨t237, A20, H⟩ := yb H
    obtain ⟨t238, A21, H⟩ := yb H
    by_cases c22 : t237.size + t238.size ≤ 9223372036854775807
    ·
     rw [if_pos c22] at H
     have c22b0 := eq_true c22
     have c22b1 : decide (t237.size + t238.size ≤ 9223372036854775807) = true := decide_eq_true c22
     try have c22b2 : (9223372036854775807 < t237.size + t238.size) = False := eq_false (Nat.not_lt.2 c22)
     obtain ⟨t239, A23, H⟩ := yb H
     by_cases c24 : (t237 ++ t238).size + t239.size ≤ 9223372036854775807
     ·
      rw [if_pos c24] at H
      have c24b0 := eq_true c24
      have c24b1 : decide ((t237 ++ t238).size + t239.size ≤ 9223372036854775807) = true := decide_eq_true c24
      have c24z : (9223372036854775807 < t237.size + t238.size + t239.size) = False := eq_false (by have h_ := oD c24b1; simp only [ByteArray.size_append] at h_; omega)
      try have c24b2 : (9223372036854775807 < (t237 ++ t238).size + t239.size) = False := eq_false (Nat.not_lt.2 c24)
      obtain ⟨t240, A25, H⟩ := yb H
      by_cases c26 : ((t237 ++ t238) ++ t239).size + t240.size ≤ 9223372036854775807
      ·
       rw [if_pos c26] at H
       have c26b0 := eq_true c26
       have c26b1 : decide (((t237 ++ t238) ++ t239).size + t240.size ≤ 9223372036854775807) = true := decide_eq_true c26
       have c26z : (9223372036854775807 < t237.size + t238.size + t239.size + t240.size) = False := eq_false (by have h_ := oD c26b1; simp only [ByteArray.size_append] at h_; omega)
       try have c26b2 : (9223372036854775807 < ((t237 ++ t238) ++ t239).size + t240.size) = False := eq_false (Nat.not_lt.2 c26)
       obtain rfl := Option.some.inj H
       go_enter Tryd.func120, Tryd.ntmps120
       go_wp2_with (first | ((with_reducible refine gate_callee (f := 124) rfl ?_); refine yC 41 Tryd.func124 #[.int .i64 (wrap64 (240 + (wrap64 (Int.tdiv a0 262144))))] rfl ?_; (with_reducible refine (haulageref03_one.calls (wrap64 (240 + (wrap64 (Int.tdiv a0 262144)))) t237 _ A20.out).mono ?_); rintro e w27 ⟨rfl, hb⟩; refine ⟨_, rfl, ?_⟩; replace HB := aM (bP (yB HB) hb); (try clear hb)) | ((with_reducible refine gate_callee (f := 124) rfl ?_); refine yC 46 Tryd.func124 #[.int .i64 (wrap64 (128 + (Int.tmod (wrap64 (Int.tdiv a0 4096)) 64)))] rfl ?_; (with_reducible refine (haulageref03_one.calls (wrap64 (128 + (Int.tmod (wrap64 (Int.tdiv a0 4096)) 64))) t238 _ A21.out).mono ?_); rintro e w28 ⟨rfl, hb⟩; refine ⟨_, rfl, ?_⟩; replace HB := aM (bP (yB HB) hb); (try clear hb)) | ((with_reducible refine gate_callee (f := 124) rfl ?_); refine yC 52 Tryd.func124 #[.int .i64 (wrap64 (128 + (Int.tmod (wrap64 (Int.tdiv a0 64)) 64)))] rfl ?_; (with_reducible refine (haulageref03_one.calls (wrap64 (128 + (Int.tmod (wrap64 (Int.tdiv a0 64)) 64))) t239 _ A23.out).mono ?_); rintro e w29 ⟨rfl, hb⟩; refine ⟨_, rfl, ?_⟩; replace HB := aM (bP (yB HB) hb); (try clear hb)) | ((with_reducible refine gate_callee (f := 124) rfl ?_); refine yC 57 Tryd.func124 #[.int .i64 (wrap64 (128 + (Int.tmod a0 64)))] rfl ?_; (with_reducible refine (haulageref03_one.calls (wrap64 (128 + (Int.tmod a0 64))) t240 _ A25.out).mono ?_); rintro e w30 ⟨rfl, hb⟩; refine ⟨_, rfl, ?_⟩; replace HB := aM (bP (yB HB) hb); (try clear hb)))
       go_ret
       exact ⟨yE, yB HB⟩
      ·
       rw [if_neg c26] at H
       exact absurd H (by simp)
     ·
      rw [if_neg c24] at H
      exact absurd H (by simp)
    ·
     rw [if_neg c22] at H
     exact absurd H (by simp)
end Go.Proofs.YtdeophpjammbpaaDoor.HRowcodeTypes

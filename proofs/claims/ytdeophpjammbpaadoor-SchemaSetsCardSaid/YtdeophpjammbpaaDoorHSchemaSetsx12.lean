/- For Go functions that SchemaSets reaches: Lean functions, and walks that show that each call comes to what its Lean function tells; no condition but those that each theorem states. (Made by a program of this session over the kit's print.py.) -/
import Derived.Test.YtdeophpjammbpaaDoorHSchemaSetsx0
import Derived.Test.YtdeophpjammbpaaDoorHSchemaSetsx11
namespace Go.Proofs.YtdeophpjammbpaaDoor.HSchemaSets
open Go.RowKit Go.Proofs.YtdeophpjammbpaaDoorW.PrintWords Go.Proofs.YtdeophpjammbpaaDoorW.PrintLast Go.Proofs.YtdeophpjammbpaaDoorW.PrintMore
attribute [local go_sem] max2_int min2_int max_two min_two max_three min_three max_four min_four   -- for this text's walks alone
set_option linter.unusedVariables false
set_option linter.unusedSimpArgs false
attribute [local go_sem] hp_s8 hp_s16 hp_s32 hp_s64 hp_m8 hp_m16 hp_m32 hp_m64
/-! ### haulageref03_Put: function 120 -/
def haulageref03_Put.f (a0 : Int) : Option (ByteArray) := if a0 < 128 then ((haulageref03_one.f a0).bind fun t256 => (some t256)) else (if a0 < 2048 then ((haulageref03_one.f (wrap64 (192 + (wrap64 (Int.tdiv a0 64))))).bind fun t257 => ((haulageref03_one.f (wrap64 (128 + (Int.tmod a0 64)))).bind fun t258 => (if t257.size + t258.size ≤ 9223372036854775807 then (some (t257 ++ t258)) else (none)))) else (if a0 < 65536 then ((haulageref03_one.f (wrap64 (224 + (wrap64 (Int.tdiv a0 4096))))).bind fun t259 => ((haulageref03_one.f (wrap64 (128 + (Int.tmod (wrap64 (Int.tdiv a0 64)) 64)))).bind fun t260 => (if t259.size + t260.size ≤ 9223372036854775807 then ((haulageref03_one.f (wrap64 (128 + (Int.tmod a0 64)))).bind fun t261 => (if (t259 ++ t260).size + t261.size ≤ 9223372036854775807 then (some ((t259 ++ t260) ++ t261)) else (none))) else (none)))) else ((haulageref03_one.f (wrap64 (240 + (wrap64 (Int.tdiv a0 262144))))).bind fun t262 => ((haulageref03_one.f (wrap64 (128 + (Int.tmod (wrap64 (Int.tdiv a0 4096)) 64)))).bind fun t263 => (if t262.size + t263.size ≤ 9223372036854775807 then ((haulageref03_one.f (wrap64 (128 + (Int.tmod (wrap64 (Int.tdiv a0 64)) 64)))).bind fun t264 => (if (t262 ++ t263).size + t264.size ≤ 9223372036854775807 then ((haulageref03_one.f (wrap64 (128 + (Int.tmod a0 64)))).bind fun t265 => (if ((t262 ++ t263) ++ t264).size + t265.size ≤ 9223372036854775807 then (some (((t262 ++ t263) ++ t264) ++ t265)) else (none))) else (none))) else (none))))))
set_option maxHeartbeats 8000000 in
set_option maxRecDepth 100000 in
theorem haulageref03_Put.calls (a0 : Int) (r : ByteArray) (w : World) (h : haulageref03_Put.f a0 = some r) :
  Calls Tryd.prog 120 #[.int .i64 a0] w fun e w' => e = .returned (.string r) ∧ Below w.heap.size w w' := by
 have HB := aM (Below.refl w.heap.size w)
 have H : (if a0 < 128 then ((haulageref03_one.f a0).bind fun t256 => (some t256)) else (if a0 < 2048 then ((haulageref03_one.f (wrap64 (192 + (wrap64 (Int.tdiv a0 64))))).bind fun t257 => ((haulageref03_one.f (wrap64 (128 + (Int.tmod a0 64)))).bind fun t258 => (if t257.size + t258.size ≤ 9223372036854775807 then (some (t257 ++ t258)) else (none)))) else (if a0 < 65536 then ((haulageref03_one.f (wrap64 (224 + (wrap64 (Int.tdiv a0 4096))))).bind fun t259 => ((haulageref03_one.f (wrap64 (128 + (Int.tmod (wrap64 (Int.tdiv a0 64)) 64)))).bind fun t260 => (if t259.size + t260.size ≤ 9223372036854775807 then ((haulageref03_one.f (wrap64 (128 + (Int.tmod a0 64)))).bind fun t261 => (if (t259 ++ t260).size + t261.size ≤ 9223372036854775807 then (some ((t259 ++ t260) ++ t261)) else (none))) else (none)))) else ((haulageref03_one.f (wrap64 (240 + (wrap64 (Int.tdiv a0 262144))))).bind fun t262 => ((haulageref03_one.f (wrap64 (128 + (Int.tmod (wrap64 (Int.tdiv a0 4096)) 64)))).bind fun t263 => (if t262.size + t263.size ≤ 9223372036854775807 then ((haulageref03_one.f (wrap64 (128 + (Int.tmod (wrap64 (Int.tdiv a0 64)) 64)))).bind fun t264 => (if (t262 ++ t263).size + t264.size ≤ 9223372036854775807 then ((haulageref03_one.f (wrap64 (128 + (Int.tmod a0 64)))).bind fun t265 => (if ((t262 ++ t263) ++ t264).size + t265.size ≤ 9223372036854775807 then (some (((t262 ++ t263) ++ t264) ++ t265)) else (none))) else (none))) else (none))))))) = some r := h
 clear h
 by_cases c2 : a0 < 128
 ·
  rw [if_pos c2] at H
  have c2b0 : decide (a0 < 128) = true := decide_eq_true c2
  clear c2
  replace H := Option.bind_eq_some_iff.mp H
  obtain ⟨t256, A30, H⟩ := H
  replace H : (some t256) = some r := H
  have A3 := aM A30
  clear A30
  obtain rfl := Option.some.inj H
  go_enter Tryd.func120, Tryd.ntmps120
  go_wp2_with (first | ((with_reducible refine gate_callee (f := 124) rfl ?_); refine yC 7 Tryd.func124 #[.int .i64 a0] rfl ?_; (with_reducible refine (haulageref03_one.calls a0 t256 _ A3.out).mono ?_); rintro e w4 ⟨rfl, hb⟩; refine ⟨_, rfl, ?_⟩; replace HB := aM (bP (yB HB) hb); (try clear hb)))
  go_ret
  exact ⟨yE, yB HB⟩
 ·
  rw [if_neg c2] at H
  have c2b0 : decide (a0 < 128) = false := decide_eq_false c2
  clear c2
  by_cases c5 : a0 < 2048
  ·
   rw [if_pos c5] at H
   have c5b0 : decide (a0 < 2048) = true := decide_eq_true c5
   clear c5
   replace H := Option.bind_eq_some_iff.mp H
   obtain ⟨t257, A60, H⟩ := H
   replace H : ((haulageref03_one.f (wrap64 (128 + (Int.tmod a0 64)))).bind fun t258 => (if t257.size + t258.size ≤ 9223372036854775807 then (some (t257 ++ t258)) else (none))) = some r := H
   have A6 := aM A60
   clear A60
   replace H := Option.bind_eq_some_iff.mp H
   obtain ⟨t258, A70, H⟩ := H
   replace H : (if t257.size + t258.size ≤ 9223372036854775807 then (some (t257 ++ t258)) else (none)) = some r := H
   have A7 := aM A70
   clear A70
   by_cases c8 : t257.size + t258.size ≤ 9223372036854775807
   ·
    rw [if_pos c8] at H
    have c8b0 := eq_true c8
    have c8b1 : decide (t257.size + t258.size ≤ 9223372036854775807) = true := decide_eq_true c8
    try have c8b2 : (9223372036854775807 < t257.size + t258.size) = False := eq_false (Nat.not_lt.2 c8)
    obtain rfl := Option.some.inj H
    go_enter Tryd.func120, Tryd.ntmps120
    go_wp2_with (first | ((with_reducible refine gate_callee (f := 124) rfl ?_); refine yC 14 Tryd.func124 #[.int .i64 (wrap64 (192 + (wrap64 (Int.tdiv a0 64))))] rfl ?_; (with_reducible refine (haulageref03_one.calls (wrap64 (192 + (wrap64 (Int.tdiv a0 64)))) t257 _ A6.out).mono ?_); rintro e w9 ⟨rfl, hb⟩; refine ⟨_, rfl, ?_⟩; replace HB := aM (bP (yB HB) hb); (try clear hb)) | ((with_reducible refine gate_callee (f := 124) rfl ?_); refine yC 18 Tryd.func124 #[.int .i64 (wrap64 (128 + (Int.tmod a0 64)))] rfl ?_; (with_reducible refine (haulageref03_one.calls (wrap64 (128 + (Int.tmod a0 64))) t258 _ A7.out).mono ?_); rintro e w10 ⟨rfl, hb⟩; refine ⟨_, rfl, ?_⟩; replace HB := aM (bP (yB HB) hb); (try clear hb)))
    go_ret
    exact ⟨yE, yB HB⟩
   ·
    rw [if_neg c8] at H
    exact absurd H (by simp)
  ·
   rw [if_neg c5] at H
   have c5b0 : decide (a0 < 2048) = false := decide_eq_false c5
   clear c5
   by_cases c11 : a0 < 65536
   ·
    rw [if_pos c11] at H
    have c11b0 : decide (a0 < 65536) = true := decide_eq_true c11
    clear c11
    replace H := Option.bind_eq_some_iff.mp H
    obtain ⟨t259, A120, H⟩ := H
    replace H : ((haulageref03_one.f (wrap64 (128 + (Int.tmod (wrap64 (Int.tdiv a0 64)) 64)))).bind fun t260 => (if t259.size + t260.size ≤ 9223372036854775807 then ((haulageref03_one.f (wrap64 (128 + (Int.tmod a0 64)))).bind fun t261 => (if (t259 ++ t260).size + t261.size ≤ 9223372036854775807 then (some ((t259 ++ t260) ++ t261)) else (none))) else (none))) = some r := H
    have A12 := aM A120
    clear A120
    replace H := Option.bind_eq_some_iff.mp H
    obtain ⟨t260, A130, H⟩ := H
    replace H : (if t259.size + t260.size ≤ 9223372036854775807 then ((haulageref03_one.f (wrap64 (128 + (Int.tmod a0 64)))).bind fun t261 => (if (t259 ++ t260).size + t261.size ≤ 9223372036854775807 then (some ((t259 ++ t260) ++ t261)) else (none))) else (none)) = some r := H
    have A13 := aM A130
    clear A130
    by_cases c14 : t259.size + t260.size ≤ 9223372036854775807
    ·
     rw [if_pos c14] at H
     have c14b0 := eq_true c14
     have c14b1 : decide (t259.size + t260.size ≤ 9223372036854775807) = true := decide_eq_true c14
     try have c14b2 : (9223372036854775807 < t259.size + t260.size) = False := eq_false (Nat.not_lt.2 c14)
     replace H := Option.bind_eq_some_iff.mp H
     obtain ⟨t261, A150, H⟩ := H
     replace H : (if (t259 ++ t260).size + t261.size ≤ 9223372036854775807 then (some ((t259 ++ t260) ++ t261)) else (none)) = some r := H
     have A15 := aM A150
     clear A150
     by_cases c16 : (t259 ++ t260).size + t261.size ≤ 9223372036854775807
     ·
      rw [if_pos c16] at H
      have c16b0 := eq_true c16
      have c16b1 : decide ((t259 ++ t260).size + t261.size ≤ 9223372036854775807) = true := decide_eq_true c16
      have c16z : (9223372036854775807 < t259.size + t260.size + t261.size) = False := eq_false (by have h_ := oD c16b1; simp only [ByteArray.size_append] at h_; omega)
      try have c16b2 : (9223372036854775807 < (t259 ++ t260).size + t261.size) = False := eq_false (Nat.not_lt.2 c16)
      obtain rfl := Option.some.inj H
      go_enter Tryd.func120, Tryd.ntmps120
      go_wp2_with (first | ((with_reducible refine gate_callee (f := 124) rfl ?_); refine yC 26 Tryd.func124 #[.int .i64 (wrap64 (224 + (wrap64 (Int.tdiv a0 4096))))] rfl ?_; (with_reducible refine (haulageref03_one.calls (wrap64 (224 + (wrap64 (Int.tdiv a0 4096)))) t259 _ A12.out).mono ?_); rintro e w17 ⟨rfl, hb⟩; refine ⟨_, rfl, ?_⟩; replace HB := aM (bP (yB HB) hb); (try clear hb)) | ((with_reducible refine gate_callee (f := 124) rfl ?_); refine yC 31 Tryd.func124 #[.int .i64 (wrap64 (128 + (Int.tmod (wrap64 (Int.tdiv a0 64)) 64)))] rfl ?_; (with_reducible refine (haulageref03_one.calls (wrap64 (128 + (Int.tmod (wrap64 (Int.tdiv a0 64)) 64))) t260 _ A13.out).mono ?_); rintro e w18 ⟨rfl, hb⟩; refine ⟨_, rfl, ?_⟩; replace HB := aM (bP (yB HB) hb); (try clear hb)) | ((with_reducible refine gate_callee (f := 124) rfl ?_); refine yC 36 Tryd.func124 #[.int .i64 (wrap64 (128 + (Int.tmod a0 64)))] rfl ?_; (with_reducible refine (haulageref03_one.calls (wrap64 (128 + (Int.tmod a0 64))) t261 _ A15.out).mono ?_); rintro e w19 ⟨rfl, hb⟩; refine ⟨_, rfl, ?_⟩; replace HB := aM (bP (yB HB) hb); (try clear hb)))
      go_ret
      exact ⟨yE, yB HB⟩
     ·
      rw [if_neg c16] at H
      exact absurd H (by simp)
    ·
     rw [if_neg c14] at H
     exact absurd H (by simp)
   ·
    rw [if_neg c11] at H
    have c11b0 : decide (a0 < 65536) = false := decide_eq_false c11
    clear c11
    replace H := Option.bind_eq_some_iff.mp H
    obtain ⟨t262, A200, H⟩ := H
    replace H : ((haulageref03_one.f (wrap64 (128 + (Int.tmod (wrap64 (Int.tdiv a0 4096)) 64)))).bind fun t263 => (if t262.size + t263.size ≤ 9223372036854775807 then ((haulageref03_one.f (wrap64 (128 + (Int.tmod (wrap64 (Int.tdiv a0 64)) 64)))).bind fun t264 => (if (t262 ++ t263).size + t264.size ≤ 9223372036854775807 then ((haulageref03_one.f (wrap64 (128 + (Int.tmod a0 64)))).bind fun t265 => (if ((t262 ++ t263) ++ t264).size + t265.size ≤ 9223372036854775807 then (some (((t262 ++ t263) ++ t264) ++ t265)) else (none))) else (none))) else (none))) = some r := H
    have A20 := aM A200
    clear A200
    replace H := Option.bind_eq_some_iff.mp H
    obtain ⟨t263, A210, H⟩ := H
    replace H : (if t262.size + t263.size ≤ 9223372036854775807 then ((haulageref03_one.f (wrap64 (128 + (Int.tmod (wrap64 (Int.tdiv a0 64)) 64)))).bind fun t264 => (if (t262 ++ t263).size + t264.size ≤ 9223372036854775807 then ((haulageref03_one.f (wrap64 (128 + (Int.tmod a0 64)))).bind fun t265 => (if ((t262 ++ t263) ++ t264).size + t265.size ≤ 9223372036854775807 then (some (((t262 ++ t263) ++ t264) ++ t265)) else (none))) else (none))) else (none)) = some r := H
    have A21 := aM A210
    clear A210
    by_cases c22 : t262.size + t263.size ≤ 9223372036854775807
    ·
     rw [if_pos c22] at H
     have c22b0 := eq_true c22
     have c22b1 : decide (t262.size + t263.size ≤ 9223372036854775807) = true := decide_eq_true c22
     try have c22b2 : (9223372036854775807 < t262.size + t263.size) = False := eq_false (Nat.not_lt.2 c22)
     replace H := Option.bind_eq_some_iff.mp H
     obtain ⟨t264, A230, H⟩ := H
     replace H : (if (t262 ++ t263).size + t264.size ≤ 9223372036854775807 then ((haulageref03_one.f (wrap64 (128 + (Int.tmod a0 64)))).bind fun t265 => (if ((t262 ++ t263) ++ t264).size + t265.size ≤ 9223372036854775807 then (some (((t262 ++ t263) ++ t264) ++ t265)) else (none))) else (none)) = some r := H
     have A23 := aM A230
     clear A230
     by_cases c24 : (t262 ++ t263).size + t264.size ≤ 9223372036854775807
     ·
      rw [if_pos c24] at H
      have c24b0 := eq_true c24
      have c24b1 : decide ((t262 ++ t263).size + t264.size ≤ 9223372036854775807) = true := decide_eq_true c24
      have c24z : (9223372036854775807 < t262.size + t263.size + t264.size) = False := eq_false (by have h_ := oD c24b1; simp only [ByteArray.size_append] at h_; omega)
      try have c24b2 : (9223372036854775807 < (t262 ++ t263).size + t264.size) = False := eq_false (Nat.not_lt.2 c24)
      replace H := Option.bind_eq_some_iff.mp H
      obtain ⟨t265, A250, H⟩ := H
      replace H : (if ((t262 ++ t263) ++ t264).size + t265.size ≤ 9223372036854775807 then (some (((t262 ++ t263) ++ t264) ++ t265)) else (none)) = some r := H
      have A25 := aM A250
      clear A250
      by_cases c26 : ((t262 ++ t263) ++ t264).size + t265.size ≤ 9223372036854775807
      ·
       rw [if_pos c26] at H
       have c26b0 := eq_true c26
       have c26b1 : decide (((t262 ++ t263) ++ t264).size + t265.size ≤ 9223372036854775807) = true := decide_eq_true c26
       have c26z : (9223372036854775807 < t262.size + t263.size + t264.size + t265.size) = False := eq_false (by have h_ := oD c26b1; simp only [ByteArray.size_append] at h_; omega)
       try have c26b2 : (9223372036854775807 < ((t262 ++ t263) ++ t264).size + t265.size) = False := eq_false (Nat.not_lt.2 c26)
       obtain rfl := Option.some.inj H
       go_enter Tryd.func120, Tryd.ntmps120
       go_wp2_with (first | ((with_reducible refine gate_callee (f := 124) rfl ?_); refine yC 41 Tryd.func124 #[.int .i64 (wrap64 (240 + (wrap64 (Int.tdiv a0 262144))))] rfl ?_; (with_reducible refine (haulageref03_one.calls (wrap64 (240 + (wrap64 (Int.tdiv a0 262144)))) t262 _ A20.out).mono ?_); rintro e w27 ⟨rfl, hb⟩; refine ⟨_, rfl, ?_⟩; replace HB := aM (bP (yB HB) hb); (try clear hb)) | ((with_reducible refine gate_callee (f := 124) rfl ?_); refine yC 46 Tryd.func124 #[.int .i64 (wrap64 (128 + (Int.tmod (wrap64 (Int.tdiv a0 4096)) 64)))] rfl ?_; (with_reducible refine (haulageref03_one.calls (wrap64 (128 + (Int.tmod (wrap64 (Int.tdiv a0 4096)) 64))) t263 _ A21.out).mono ?_); rintro e w28 ⟨rfl, hb⟩; refine ⟨_, rfl, ?_⟩; replace HB := aM (bP (yB HB) hb); (try clear hb)) | ((with_reducible refine gate_callee (f := 124) rfl ?_); refine yC 52 Tryd.func124 #[.int .i64 (wrap64 (128 + (Int.tmod (wrap64 (Int.tdiv a0 64)) 64)))] rfl ?_; (with_reducible refine (haulageref03_one.calls (wrap64 (128 + (Int.tmod (wrap64 (Int.tdiv a0 64)) 64))) t264 _ A23.out).mono ?_); rintro e w29 ⟨rfl, hb⟩; refine ⟨_, rfl, ?_⟩; replace HB := aM (bP (yB HB) hb); (try clear hb)) | ((with_reducible refine gate_callee (f := 124) rfl ?_); refine yC 57 Tryd.func124 #[.int .i64 (wrap64 (128 + (Int.tmod a0 64)))] rfl ?_; (with_reducible refine (haulageref03_one.calls (wrap64 (128 + (Int.tmod a0 64))) t265 _ A25.out).mono ?_); rintro e w30 ⟨rfl, hb⟩; refine ⟨_, rfl, ?_⟩; replace HB := aM (bP (yB HB) hb); (try clear hb)))
       go_ret
       exact ⟨yE, yB HB⟩
      ·
       rw [if_neg c26] at H
       exact absurd H (by simp)
     ·
      rw [if_neg c24] at H
      exact absurd H (by simp)
    ·
     rw [if_neg c22] at H
     exact absurd H (by simp)
end Go.Proofs.YtdeophpjammbpaaDoor.HSchemaSets

/- For every number of 32 and of 64 bits and every text: what is put is got, whatever stands behind short bytes, and all numbers that are read of a text have just its bytes; no condition. -/
import Derived.Test.YtjkjpjbohiggaaaHWordBackx2
set_option linter.unusedVariables false
set_option linter.unusedSimpArgs false
namespace Go.Proofs.Ytjkjpjbohiggaaa.Pure
open Go.RowKit Go.Proofs.Ytjkjpjbohiggaaa.HWordBack Go.Proofs.YtjkjpjbohiggaaaW.PrintWords Go.Proofs.YtjkjpjbohiggaaaW.PrintLast Go.Proofs.YtjkjpjbohiggaaaW.PrintMore
/- piece base -/
theorem tmod_nonneg_eq (a b : Int) (ha : 0 ≤ a) : Int.tmod a b = a % b := Int.tmod_eq_emod_of_nonneg ha
theorem tdiv_nonneg_eq (a b : Int) (ha : 0 ≤ a) : Int.tdiv a b = a / b := Int.tdiv_eq_ediv_of_nonneg ha
theorem u64_id (n : Int) (h0 : 0 ≤ n) (h1 : n < 18446744073709551616) : IntKind.u64.wrap n = n := by
  simp only [IntKind.wrap, IntKind.bits, IntKind.signed]
  simp
  omega

theorem i64_eq (n : Int) : IntKind.i64.wrap n = wrap64 n := by unfold wrap64; exact Go.IntKind.wrap_i64 n
theorem u64_eq (n : Int) : IntKind.u64.wrap n = n % 18446744073709551616 := by simp [IntKind.wrap, IntKind.bits, IntKind.signed]

theorem wf_parts {k : IntKind} {x : Int} (h : (Lit.int k x).wf = true) : k.min ≤ x ∧ x ≤ k.max := by
  unfold Lit.wf at h
  rw [Bool.and_eq_true, decide_eq_true_eq, decide_eq_true_eq] at h
  exact h
theorem wf_i64 {x : Int} (h : (Lit.int .i64 x).wf = true) : -9223372036854775808 ≤ x ∧ x ≤ 9223372036854775807 := by
  have := wf_parts h
  rw [show IntKind.min .i64 = -9223372036854775808 by decide, show IntKind.max .i64 = 9223372036854775807 by decide] at this
  exact this
theorem wf_u64 {x : Int} (h : (Lit.int .u64 x).wf = true) : 0 ≤ x ∧ x ≤ 18446744073709551615 := by
  have := wf_parts h
  rw [show IntKind.min .u64 = 0 by decide, show IntKind.max .u64 = 18446744073709551615 by decide] at this
  exact this
theorem wf_u32 {x : Int} (h : (Lit.int .u32 x).wf = true) : 0 ≤ x ∧ x ≤ 4294967295 := by
  have := wf_parts h
  rw [show IntKind.min .u32 = 0 by decide, show IntKind.max .u32 = 4294967295 by decide] at this
  exact this
theorem wf_u16 {x : Int} (h : (Lit.int .u16 x).wf = true) : 0 ≤ x ∧ x ≤ 65535 := by
  have := wf_parts h
  rw [show IntKind.min .u16 = 0 by decide, show IntKind.max .u16 = 65535 by decide] at this
  exact this
theorem wf_u8 {x : Int} (h : (Lit.int .u8 x).wf = true) : 0 ≤ x ∧ x ≤ 255 := by
  have := wf_parts h
  rw [show IntKind.min .u8 = 0 by decide, show IntKind.max .u8 = 255 by decide] at this
  exact this

/- piece word -/
/-! ### short bytes -/
/-- The short bytes of a number. -/
def sb (n : Nat) : List Int := if n < 128 then [(n : Int)] else (((n % 128 + 128 : Nat) : Int)) :: sb (n / 128)
termination_by n
decreasing_by omega

theorem sb_small {n : Nat} (h : n < 128) : sb n = [(n : Int)] := by rw [sb, if_pos h]
theorem sb_big {n : Nat} (h : ¬ n < 128) : sb n = (((n % 128 + 128 : Nat) : Int)) :: sb (n / 128) := by rw [sb, if_neg h]

theorem sb_len (m : Nat) : ∀ n, n < 128 ^ (m + 1) → (sb n).length ≤ m + 1 := by
  induction m with
  | zero => intro n h; rw [sb_small (by simpa using h)]; simp
  | succ m ih =>
    intro n h
    by_cases h1 : n < 128
    · rw [sb_small h1]; simp
    · rw [sb_big h1]
      have : n / 128 < 128 ^ (m + 1) := by
        rw [Nat.div_lt_iff_lt_mul (by decide)]
        rw [Nat.pow_succ] at h
        exact h
      have := ih _ this
      simp only [List.length_cons]
      omega

theorem sb_len10 {n : Nat} (h : n < 18446744073709551616) : (sb n).length ≤ 10 := sb_len 9 n (Nat.lt_of_lt_of_le h (by decide))
theorem sb_pos (n : Nat) : 0 < (sb n).length := by
  by_cases h : n < 128
  · rw [sb_small h]; simp
  · rw [sb_big h]; simp

theorem or128_fin : ∀ a : Fin 256, (a.val ||| 128) = a.val % 128 + 128 := by decide +kernel

theorem or128 (x : Int) (h : 0 ≤ x) : Go.bits .or .u8 (x % 256) 128 = x % 128 + 128 := by
  obtain ⟨n, rfl⟩ := Int.eq_ofNat_of_zero_le h
  have e : ((n : Int) % 256) = ((n % 256 : Nat) : Int) := by omega
  have := (Go.bits_nat .u8 8 (by decide) Go.wraps_u8 (n % 256) 128 (by omega) (by decide)).2
  rw [e]
  refine this.trans ?_
  have h2 := or128_fin ⟨n % 256, by omega⟩
  simp only at h2
  rw [h2]
  omega

theorem short_l1 (l : List Int) (len i : Int) (r : ByteArray) (n : Nat) : ∀ acc : List Int, acc.length + (sb n).length ≤ 140737488355328 →
    Ev (fun k => word_Short.l0 k (acc ++ sb n) l len (wrap64 (i + 1))) r → Ev (fun k => word_Short.l1 k acc (n : Int) l len i) r := by
  induction n using Nat.strongRecOn with
  | _ n ih =>
    intro acc hb hk
    by_cases h : n < 128
    · rw [sb_small h] at hb hk
      simp only [List.length_cons, List.length_nil] at hb
      refine Ev.step (f := fun k => word_Short.l0 k (acc ++ [(n : Int)]) l len (wrap64 (i + 1))) (fun k => ?_) hk
      simp only [word_Short.l1]
      rw [if_neg (by omega), if_pos (by omega), show ((n : Int) % 256) = n by omega]
    · rw [sb_big h] at hb hk
      simp only [List.length_cons] at hb
      refine Ev.step (f := fun k => word_Short.l1 k (acc ++ [((n % 128 + 128 : Nat) : Int)]) ((n / 128 : Nat) : Int) l len i) (fun k => ?_) (ih (n / 128) (by omega) _ (by simp only [List.length_append, List.length_cons, List.length_nil]; omega) ?_)
      · simp only [word_Short.l1]
        rw [if_pos (by omega), if_pos (by omega), or128 _ (by omega), show ((n : Int) % 128 + 128) = ((n % 128 + 128 : Nat) : Int) by omega, show ((n : Int) / 128) = ((n / 128 : Nat) : Int) by omega]
      · rw [List.append_assoc]; exact hk

/-- The short bytes of several. -/
def sbs (l : List Int) : List Int := l.flatMap fun x => sb x.toNat

theorem sbs_cons (x : Int) (l : List Int) : sbs (x :: l) = sb x.toNat ++ sbs l := by simp [sbs]
theorem sbs_len (l : List Int) (h : ∀ x ∈ l, 0 ≤ x ∧ x < 18446744073709551616) : (sbs l).length ≤ 10 * l.length := by
  induction l with
  | nil => simp [sbs]
  | cons x l ih =>
    have := ih (fun y hy => h y (by simp [hy]))
    have h1 := h x (by simp)
    have := sb_len10 (n := x.toNat) (by omega)
    rw [sbs_cons]
    simp only [List.length_append, List.length_cons]
    omega

theorem rd_at (l : List Int) (i : Nat) (h : i < l.length) : rd l (i : Int) = l[i] := by
  simp [rd, h]

theorem short_l0 (l : List Int) (hl : l.length ≤ 1000000000000) (hr : ∀ x ∈ l, 0 ≤ x ∧ x < 18446744073709551616) (d : Nat) : ∀ (i : Nat) (acc : List Int), l.length = i + d → acc.length ≤ 10 * i →
    Ev (fun k => word_Short.l0 k acc l (l.length : Int) (i : Int)) (strOfNums (acc ++ sbs (l.drop i))) := by
  induction d with
  | zero =>
    intro i acc hi ha
    refine Ev.step (f := fun _ => some (strOfNums acc)) (fun k => ?_) ?_
    · simp only [word_Short.l0]
      rw [if_neg (by omega)]
    · rw [show l.drop i = [] from List.drop_eq_nil_of_le (by omega)]
      simpa [sbs] using Ev.now (strOfNums acc)
  | succ d ih =>
    intro i acc hi ha
    have hlt : i < l.length := by omega
    have hx := hr l[i] (List.getElem_mem hlt)
    have h10 := sb_len10 (n := l[i].toNat) (by omega)
    refine Ev.step (f := fun k => word_Short.l1 k acc ((l[i].toNat : Nat) : Int) l (l.length : Int) (i : Int)) (fun k => ?_) ?_
    · simp only [word_Short.l0]
      rw [if_pos (by omega), if_pos (by omega), if_pos (by omega), rd_at l i hlt, show ((l[i].toNat : Nat) : Int) = l[i] by omega]
    · refine short_l1 l _ _ _ _ _ (by omega) ?_
      have := ih (i + 1) (acc ++ sb l[i].toNat) (by omega) (by simp only [List.length_append]; omega)
      rw [show l.drop i = l[i] :: l.drop (i + 1) from List.drop_eq_getElem_cons hlt, sbs_cons, ← List.append_assoc]
      rw [show wrap64 ((i : Int) + 1) = ((i + 1 : Nat) : Int) by unfold wrap64; omega]
      exact this

theorem word_Short_ev (l : List Int) (hl : l.length ≤ 1000000000000) (hr : ∀ x ∈ l, 0 ≤ x ∧ x < 18446744073709551616) :
    Ev (fun k => word_Short.f k l) (strOfNums (sbs l)) := by
  have := short_l0 l hl hr l.length 0 [] (by omega) (by simp)
  simpa [word_Short.f] using this

theorem strOfNums_append (a b : List Int) : strOfNums (a ++ b) = strOfNums a ++ strOfNums b := by
  apply ByteArray.ext
  simp [strOfNums]
theorem strOfNums_size (a : List Int) : (strOfNums a).size = a.length := by simp [strOfNums, ByteArray.size]

theorem lives_Short : Ev (fun k => word_Short.f k ([300] : List Int)) (strOfNums [172, 2]) := by
  have := word_Short_ev [300] (by simp) (by simp)
  rw [show sbs [300] = [172, 2] by simp [sbs, sb_big, sb_small]] at this
  exact this

theorem lives_ev : Ev (fun k => haulagelaw01_lives.f k) true := by
  unfold haulagelaw01_lives.f
  refine Ev.bind (f := fun _ t => _) lives_Short ?_
  rw [if_pos (by decide +kernel)]
  rw [show word_Zig.f (-2) = some 3 by decide +kernel, Option.bind_some, if_pos rfl, show word_Low.f 200 8 = some (-56) by decide +kernel, Option.bind_some]
  exact Ev.now _

/- piece long -/
/-! ### the number that a text begins with -/
theorem btr (s : ByteArray) (i : Int) : 0 ≤ bt s i ∧ bt s i ≤ 255 := bt_range s i

/-- The number of the first bytes' low seven bits. -/
def val (s : ByteArray) : Nat → Int
  | 0 => 0
  | i + 1 => val s i + bt s (i : Int) % 128 * 128 ^ i

theorem p128_pos (i : Nat) : (0 : Int) < 128 ^ i := Int.pow_pos (by decide)

theorem val_range (s : ByteArray) (i : Nat) : 0 ≤ val s i ∧ val s i < 128 ^ i := by
  induction i with
  | zero => simp [val]
  | succ i ih =>
    have hp := p128_pos i
    have h1 : 0 ≤ bt s (i : Int) % 128 := by omega
    have h2 : bt s (i : Int) % 128 ≤ 127 := by omega
    have h3 : 0 ≤ bt s (i : Int) % 128 * 128 ^ i := Int.mul_nonneg h1 (Int.le_of_lt hp)
    have h4 : bt s (i : Int) % 128 * 128 ^ i ≤ 127 * 128 ^ i := Int.mul_le_mul_of_nonneg_right h2 (Int.le_of_lt hp)
    simp only [val, Int.pow_succ]
    omega

/-- How many short bytes a text begins with, from a place on; or the error's number. -/
def ends (s : ByteArray) (i : Nat) : Int × Int :=
  if _h : i < s.size ∧ i < 10 then
    if bt s (i : Int) < 128 then (if (0 < i ∧ bt s (i : Int) = 0) ∨ (i = 9 ∧ 1 < bt s (i : Int)) then (0, 5) else (((i + 1 : Nat) : Int), 0)) else ends s (i + 1)
  else if s.size < 10 then (0, 4) else (0, 5)
termination_by 10 - i
decreasing_by omega

theorem ends_stop {s : ByteArray} {i : Nat} (h : ¬ (i < s.size ∧ i < 10)) : ends s i = if s.size < 10 then (0, 4) else (0, 5) := by rw [ends, dif_neg h]
theorem ends_more {s : ByteArray} {i : Nat} (h : i < s.size ∧ i < 10) (hc : ¬ bt s (i : Int) < 128) : ends s i = ends s (i + 1) := by rw [ends, dif_pos h, if_neg hc]
theorem ends_last {s : ByteArray} {i : Nat} (h : i < s.size ∧ i < 10) (hc : bt s (i : Int) < 128) : ends s i = if (0 < i ∧ bt s (i : Int) = 0) ∨ (i = 9 ∧ 1 < bt s (i : Int)) then (0, 5) else (((i + 1 : Nat) : Int), 0) := by rw [ends, dif_pos h, if_pos hc]

/-- What is known where it ends. -/
theorem ends_ok (s : ByteArray) (d : Nat) : ∀ i, i + d = 10 → (ends s i).2 = 0 → ∃ m : Nat, (ends s i).1 = ((m + 1 : Nat) : Int) ∧ i ≤ m ∧ m < 10 ∧ m < s.size ∧ bt s (m : Int) < 128 ∧ (0 < m → bt s (m : Int) ≠ 0) ∧ (m = 9 → bt s (m : Int) ≤ 1) ∧ ∀ j : Nat, i ≤ j → j < m → 128 ≤ bt s (j : Int) := by
  induction d with
  | zero =>
    intro i hi h
    rw [ends_stop (by omega)] at h
    split at h <;> simp at h
  | succ d ih =>
    intro i hi h
    by_cases h1 : i < s.size ∧ i < 10
    · by_cases hc : bt s (i : Int) < 128
      · rw [ends_last h1 hc] at h ⊢
        split at h
        · simp at h
        · rename_i hn
          rw [if_neg hn]
          exact ⟨i, rfl, Nat.le_refl _, h1.2, h1.1, hc, fun h0 h2 => hn (.inl ⟨h0, h2⟩), fun h9 => by
            by_cases h : 1 < bt s (i : Int)
            · exact absurd (.inr ⟨h9, h⟩) hn
            · omega, fun j hj hj' => by omega⟩
      · rw [ends_more h1 hc] at h ⊢
        obtain ⟨m, e, h2, h3, h4, h5, h6, h7, h8⟩ := ih (i + 1) (by omega) h
        exact ⟨m, e, by omega, h3, h4, h5, h6, h7, fun j hj hj' => by
          by_cases e : j = i
          · subst e; omega
          · exact h8 j (by omega) hj'⟩
    · rw [ends_stop h1] at h
      split at h <;> simp at h

theorem ends_err (s : ByteArray) (d : Nat) : ∀ i, i + d = 10 → (ends s i).2 ≠ 0 → (ends s i).1 = 0 ∧ ((ends s i).2 = 4 ∨ (ends s i).2 = 5) := by
  induction d with
  | zero =>
    intro i hi h
    rw [ends_stop (by omega)] at h ⊢
    split <;> simp
  | succ d ih =>
    intro i hi h
    by_cases h1 : i < s.size ∧ i < 10
    · by_cases hc : bt s (i : Int) < 128
      · rw [ends_last h1 hc] at h ⊢
        split at h
        · rename_i hn; rw [if_pos hn]; simp
        · simp at h
      · rw [ends_more h1 hc] at h ⊢
        exact ih (i + 1) (by omega) h
    · rw [ends_stop h1] at h ⊢
      split <;> simp

/-- The number that a text begins with, how many bytes; or the error's number. -/
def longS (s : ByteArray) : Int × Int × Int := if (ends s 0).2 = 0 then (val s (ends s 0).1.toNat, (ends s 0).1, 0) else (0, 0, (ends s 0).2)

theorem val_lt (s : ByteArray) (m : Nat) (h : m < 10) (h9 : m = 9 → bt s (m : Int) ≤ 1) (hc : bt s (m : Int) < 128) : 0 ≤ val s (m + 1) ∧ val s (m + 1) < 18446744073709551616 := by
  refine ⟨(val_range s (m + 1)).1, ?_⟩
  by_cases e : m = 9
  · subst e
    have h1 := val_range s 9
    have h2 := h9 rfl
    have h3 := btr s ((9 : Nat) : Int)
    simp only [val] at h1 ⊢
    have : (128 : Int) ^ 9 = 9223372036854775808 := by decide
    simp only [this] at h1 ⊢
    omega
  · have h1 := (val_range s (m + 1)).2
    have h2 : (128 : Int) ^ (m + 1) ≤ 128 ^ 9 := by
      have : (128 : Nat) ^ (m + 1) ≤ 128 ^ 9 := Nat.pow_le_pow_right (by decide) (by omega)
      exact_mod_cast this
    have : (128 : Int) ^ 9 = 9223372036854775808 := by decide
    omega

theorem longS_ok (s : ByteArray) (h : (longS s).2.2 = 0) : ∃ m : Nat, longS s = (val s (m + 1), ((m + 1 : Nat) : Int), 0) ∧ m < 10 ∧ m < s.size ∧ 0 ≤ val s (m + 1) ∧ val s (m + 1) < 18446744073709551616 ∧ bt s (m : Int) < 128 ∧ (0 < m → bt s (m : Int) ≠ 0) ∧ (∀ j : Nat, j < m → 128 ≤ bt s (j : Int)) := by
  unfold longS at h ⊢
  by_cases e : (ends s 0).2 = 0
  · obtain ⟨m, e1, _, h3, h4, h5, h6, h7, h8⟩ := ends_ok s 10 0 rfl e
    have hv := val_lt s m h3 h7 h5
    rw [if_pos e, e1]
    exact ⟨m, by simp, h3, h4, hv.1, hv.2, h5, h6, fun j hj => h8 j (Nat.zero_le _) hj⟩
  · rw [if_neg e] at h
    exact absurd h e
theorem longS_err (s : ByteArray) (h : (longS s).2.2 ≠ 0) : longS s = (0, 0, (longS s).2.2) ∧ ((longS s).2.2 = 4 ∨ (longS s).2.2 = 5) := by
  unfold longS at h ⊢
  by_cases e : (ends s 0).2 = 0
  · rw [if_pos e] at h
    exact absurd rfl h
  · rw [if_neg e]
    exact ⟨rfl, (ends_err s 10 0 rfl e).2⟩

theorem or_comm_u64 (x y : Int) : Go.bits .or .u64 x y = Go.bits .or .u64 y x := by
  unfold Go.bits
  simp only
  rw [BitVec.or_comm]

theorem wraps_u64 (n : Int) (h0 : 0 ≤ n) (h1 : n < 2 ^ 64) : IntKind.u64.wrap n = n := by
  simp only [IntKind.wrap, IntKind.bits, IntKind.signed]
  simp
  omega

theorem p128 (i : Nat) : (128 : Int) ^ i = 2 ^ (7 * i) := by
  rw [show (128 : Int) = 2 ^ 7 by decide, ← Int.pow_mul]

theorem or_shl (a c : Int) (i : Nat) (hi : i ≤ 9) (ha0 : 0 ≤ a) (ha : a < 128 ^ i) (hc0 : 0 ≤ c) (hc1 : c ≤ 255) (hcc : c % 128 * 128 ^ i < 18446744073709551616) :
    Go.bits .or .u64 a (shl .u64 (IntKind.u64.wrap (Go.bits .and .u8 c 127)) (wrap64 (7 * (i : Int)))) = a + c % 128 * 128 ^ i := by
  have hm : Go.bits .and .u8 c 127 = c % 128 := Go.bits_mask .u8 8 (by decide) Go.wraps_u8 7 (by decide) c hc0 (by omega)
  have hp := p128_pos i
  have h1 : 0 ≤ c % 128 := by omega
  have h3 : 0 ≤ c % 128 * 128 ^ i := Int.mul_nonneg h1 (Int.le_of_lt hp)
  have e64 : (2 : Int) ^ 64 = 18446744073709551616 := by decide
  have hw : wrap64 (7 * (i : Int)) = ((7 * i : Nat) : Int) := by unfold wrap64; omega
  have hs : shl .u64 (IntKind.u64.wrap (Go.bits .and .u8 c 127)) (wrap64 (7 * (i : Int))) = c % 128 * 128 ^ i := by
    unfold shl
    rw [hm, hw, wraps_u64 (c % 128) h1 (by omega)]
    have : min (((7 * i : Nat) : Int)).toNat (IntKind.bits .u64) = 7 * i := by simp [IntKind.bits]; omega
    rw [this, ← p128]
    exact wraps_u64 _ h3 (by omega)
  rw [hs, or_comm_u64]
  have hlt : a < 18446744073709551616 := by
    have h2 : (128 : Int) ^ i ≤ 128 ^ 9 := by
      have : (128 : Nat) ^ i ≤ 128 ^ 9 := Nat.pow_le_pow_right (by decide) hi
      exact_mod_cast this
    have : (128 : Int) ^ 9 = 9223372036854775808 := by decide
    omega
  rw [Go.bits_join .u64 64 (by decide) wraps_u64 (7 * i) (c % 128 * 128 ^ i) a h3 (by rw [p128]; exact Int.mul_emod_left _ _) (by omega) ha0 (by rw [← p128]; exact ha) (by omega)]
  omega

theorem long_stop (s : ByteArray) (a : Int) (i : Nat) (b : Bool) (hb : b = decide ((i : Int) < 10)) (h : ¬ (i < s.size ∧ i < 10)) :
    Ev (fun k => word_Long.l0 k s a (i : Int)) (0, 0, if s.size < 10 then 4 else 5) := by
  refine Ev.step (f := fun k => word_Long.j1 k s a (i : Int) false) (fun k => ?_) (Ev.step (f := fun _ => some (0, 0, if s.size < 10 then 4 else 5)) (fun k => ?_) (Ev.now _))
  · simp only [word_Long.l0]
    by_cases h1 : i < s.size
    · rw [if_pos (by omega), show decide ((i : Int) < 10) = false by simp; omega]
    · rw [if_neg (by omega)]
  · simp only [word_Long.j1]
    rw [if_neg (by decide)]
    by_cases h1 : s.size < 10
    · rw [if_pos (by omega), if_pos h1]
    · rw [if_neg (by omega), if_neg h1]

theorem long_l0 (s : ByteArray) (d : Nat) : ∀ i, i + d = 10 → ∀ a, (i ≤ 9 → a = val s i) →
    Ev (fun k => word_Long.l0 k s a (i : Int)) (if (ends s i).2 = 0 then (val s (ends s i).1.toNat, (ends s i).1, 0) else (0, 0, (ends s i).2)) := by
  induction d with
  | zero =>
    intro i hi a ha
    have := long_stop s a i _ rfl (by omega)
    rw [ends_stop (by omega)]
    by_cases h1 : s.size < 10
    · simpa [h1] using this
    · simpa [h1] using this
  | succ d ih =>
    intro i hi a ha
    by_cases h : i < s.size ∧ i < 10
    · have ha' := ha (by omega)
      have hb := btr s (i : Int)
      have hv := val_range s i
      have hw : wrap64 (7 * (i : Int)) = 7 * (i : Int) := by unfold wrap64; omega
      have hw1 : wrap64 ((i : Int) + 1) = ((i + 1 : Nat) : Int) := by unfold wrap64; omega
      by_cases hc : bt s (i : Int) < 128
      · -- the last one
        refine Ev.step (f := fun k => word_Long.j1 k s a (i : Int) true) (fun k => ?_) (Ev.step (f := fun _ => some (if (ends s i).2 = 0 then (val s (ends s i).1.toNat, (ends s i).1, 0) else (0, 0, (ends s i).2))) (fun k => ?_) (Ev.now _))
        · simp only [word_Long.l0]
          rw [if_pos (by omega), show decide ((i : Int) < 10) = true by simp; omega]
        · simp only [word_Long.j1]
          rw [if_pos (by trivial), if_pos (by omega), if_pos (by omega), if_pos (by rw [hw]; omega), if_neg (by omega), ends_last h hc, hw1]
          by_cases hbad : (0 < i ∧ bt s (i : Int) = 0) ∨ (i = 9 ∧ 1 < bt s (i : Int))
          · rw [if_pos hbad]
            simp only [if_neg (show ¬ ((5 : Int) = 0) by decide)]
            rcases hbad with ⟨h0, h1⟩ | ⟨h0, h1⟩
            · rw [if_pos (by omega), if_pos h1]
            · rw [if_pos (by omega), if_neg (by omega), if_pos (by omega), if_pos (by omega)]
          · rw [if_neg hbad]
            simp only [if_true]
            have hval : Go.bits .or .u64 a (shl .u64 (IntKind.u64.wrap (Go.bits .and .u8 (bt s (i : Int)) 127)) (wrap64 (7 * (i : Int)))) = val s (((i + 1 : Nat) : Int)).toNat := by
              have hlt := val_lt s i (by omega) (fun e => by
                by_cases h : 1 < bt s (i : Int)
                · exact absurd (.inr ⟨e, h⟩) hbad
                · omega) hc
              have : (((i + 1 : Nat) : Int)).toNat = i + 1 := by omega
              rw [this]
              simp only [val] at hlt ⊢
              rw [or_shl a _ i (by omega) (by omega) (by omega) hb.1 hb.2 (by omega), ha']
            rw [hval]
            by_cases h0 : i = 0
            · rw [if_neg (by omega), if_neg (by omega)]
            · have hn0 : ¬ bt s (i : Int) = 0 := fun e => hbad (.inl ⟨by omega, e⟩)
              rw [if_pos (by omega), if_neg hn0]
              by_cases h9 : i = 9
              · have hn9 : ¬ bt s (i : Int) > 1 := fun e => hbad (.inr ⟨h9, e⟩)
                rw [if_pos (by omega), if_neg hn9]
              · rw [if_neg (by omega)]
      · -- one more
        rw [ends_more h hc]
        refine Ev.step (f := fun k => word_Long.j1 k s a (i : Int) true) (fun k => ?_) (Ev.step (f := fun k => word_Long.l0 k s (Go.bits .or .u64 a (shl .u64 (IntKind.u64.wrap (Go.bits .and .u8 (bt s (i : Int)) 127)) (wrap64 (7 * (i : Int))))) ((i + 1 : Nat) : Int)) (fun k => ?_) (ih (i + 1) (by omega) _ (fun h9 => ?_)))
        · simp only [word_Long.l0]
          rw [if_pos (by omega), show decide ((i : Int) < 10) = true by simp; omega]
        · simp only [word_Long.j1]
          rw [if_pos (by trivial), if_pos (by omega), if_pos (by omega), if_pos (by rw [hw]; omega), if_pos (by omega), hw1]
        · have h2 := (val_range s (i + 1)).2
          have h3 : (128 : Int) ^ (i + 1) ≤ 128 ^ 9 := by
            have : (128 : Nat) ^ (i + 1) ≤ 128 ^ 9 := Nat.pow_le_pow_right (by decide) (by omega)
            exact_mod_cast this
          have : (128 : Int) ^ 9 = 9223372036854775808 := by decide
          simp only [val] at h2 ⊢
          rw [or_shl a _ i (by omega) (by omega) (by omega) hb.1 hb.2 (by omega), ha']
    · have := long_stop s a i _ rfl h
      rw [ends_stop h]
      by_cases h1 : s.size < 10
      · simpa [h1] using this
      · simpa [h1] using this

theorem word_Long_ev (s : ByteArray) : Ev (fun k => word_Long.f k s) (longS s) := by
  have := long_l0 s 10 0 rfl 0 (fun _ => rfl)
  simpa [word_Long.f, longS] using this

/- piece all -/
/-- All numbers of a text, behind those that were read; or the error's number. -/
def allF : Nat → ByteArray → List Int → List Int × Int
  | 0, _, acc => (acc, 0)
  | d + 1, s, acc => if s.size = 0 then (acc, 0) else if (longS s).2.2 = 0 then allF d (s.extract (longS s).2.1.toNat s.size) (acc ++ [(longS s).1]) else ([], (longS s).2.2)

theorem toList_nil (s : ByteArray) : s.toList = ([] : List UInt8) ↔ s.size = 0 := by
  rw [ByteArray.toList_eq, ← List.length_eq_zero_iff, Array.length_toList]
  exact Iff.rfl

theorem cut_size (s : ByteArray) (a : Nat) (h : a ≤ s.size) : (s.extract a s.size).size = s.size - a := by
  rw [ByteArray.size_extract]; omega

theorem word_All_l0 (d : Nat) : ∀ (s : ByteArray) (acc : List Int), s.size ≤ d → acc.length + s.size < 17592186044416 → Ev (fun k => word_All.l0 k s acc) (allF d s acc) := by
  induction d with
  | zero =>
    intro s acc hs _
    refine Ev.step (f := fun _ => some (acc, 0)) (fun k => ?_) (Ev.now _)
    simp only [word_All.l0]
    rw [if_pos ((toList_nil s).2 (by omega))]
  | succ d ih =>
    intro s acc hs hb
    by_cases h0 : s.size = 0
    · refine Ev.step (f := fun _ => some (acc, 0)) (fun k => ?_) ?_
      · simp only [word_All.l0]
        rw [if_pos ((toList_nil s).2 h0)]
      · simp only [allF]
        rw [if_pos h0]
        exact Ev.now _
    · simp only [allF]
      rw [if_neg h0]
      refine Ev.step (f := fun k => _) (fun k => ?_) (Ev.bind (f := fun k bt116 => (if bt116.2.2 = 0 then (if acc.length < 17592186044416 then (if 0 ≤ bt116.2.1 then (if bt116.2.1 ≤ (s.size : Int) then (word_All.l0 k (s.extract (bt116.2.1 : Int).toNat s.size) (acc ++ [bt116.1])) else (none)) else (none)) else (none)) else (some (([] : List Int), bt116.2.2)))) (word_Long_ev s) ?_)
      · simp only [word_All.l0]
        rw [if_neg (fun h => h0 ((toList_nil s).1 h))]
      · by_cases e : (longS s).2.2 = 0
        · obtain ⟨m, e1, h10, hm, hv0, hv1, _⟩ := longS_ok s e
          have e2 : (longS s).2.1 = ((m + 1 : Nat) : Int) := by rw [e1]
          rw [if_pos e]
          have e3 : (longS s).2.1.toNat = m + 1 := by rw [e2]; omega
          have hz := cut_size s (m + 1) (by omega)
          rw [e3]
          refine Ev.congr (fun k => ?_) (ih (s.extract (m + 1) s.size) (acc ++ [(longS s).1]) (by omega) (by simp only [List.length_append, List.length_cons, List.length_nil]; omega))
          rw [if_pos e, if_pos (by omega), if_pos (by omega), if_pos (by omega)]
        · rw [if_neg e]
          refine Ev.congr (f := fun _ => some ([], (longS s).2.2)) (fun k => ?_) (Ev.now _)
          rw [if_neg e]

theorem word_All_ev (s : ByteArray) (hs : s.size ≤ 1000000000) : Ev (fun k => word_All.f k s) (allF s.size s []) := by
  have := word_All_l0 s.size s [] (Nat.le_refl _) (by simp; omega)
  simpa [word_All.f] using this

theorem allF_len (d : Nat) : ∀ (s : ByteArray) (acc : List Int), (allF d s acc).1.length ≤ acc.length + d := by
  induction d with
  | zero => intro s acc; simp [allF]
  | succ d ih =>
    intro s acc
    simp only [allF]
    split
    · simp
    · split
      · have := ih (s.extract (longS s).2.1.toNat s.size) (acc ++ [(longS s).1])
        simp only [List.length_append, List.length_cons, List.length_nil] at this
        omega
      · simp

/- piece byt -/
/-! ### a text as a list of numbers -/
def byt (s : ByteArray) : List Int := s.data.toList.map fun c => (c.toNat : Int)
/-- All are bytes. -/
def Bytes (l : List Int) : Prop := ∀ x ∈ l, 0 ≤ x ∧ x ≤ 255

theorem byt_len (s : ByteArray) : (byt s).length = s.size := by
  unfold byt
  rw [List.length_map, Array.length_toList]
  rfl
theorem byt_bytes (s : ByteArray) : Bytes (byt s) := by
  intro x hx
  obtain ⟨c, _, rfl⟩ := List.mem_map.1 hx
  have := c.toNat_lt
  omega
theorem str_byt (s : ByteArray) : strOfNums (byt s) = s := by
  apply ByteArray.ext
  unfold strOfNums byt
  rw [List.map_map]
  have : ((fun n : Int => UInt8.ofNat n.toNat) ∘ fun c : UInt8 => (c.toNat : Int)) = id := by
    funext c
    simp
  rw [this]
  simp
theorem byt_str {l : List Int} (h : Bytes l) : byt (strOfNums l) = l := by
  unfold strOfNums byt
  rw [List.toList_toArray, List.map_map]
  have : ∀ x ∈ l, ((fun c : UInt8 => (c.toNat : Int)) ∘ fun n : Int => UInt8.ofNat n.toNat) x = x := by
    intro x hx
    have := h x hx
    simp only [Function.comp]
    rw [UInt8.toNat_ofNat', Nat.mod_eq_of_lt (by omega)]
    omega
  rw [List.map_congr_left this]
  simp
theorem byt_append (a b : ByteArray) : byt (a ++ b) = byt a ++ byt b := by
  unfold byt
  rw [show (a ++ b).data.toList = a.data.toList ++ b.data.toList by simp, List.map_append]
theorem byt_inj {a b : ByteArray} (h : byt a = byt b) : a = b := by rw [← str_byt a, h, str_byt]
theorem byt_extract (s : ByteArray) (a b : Nat) : byt (s.extract a b) = ((byt s).drop a).take (b - a) := by
  unfold byt
  rw [show (s.extract a b).data.toList = (s.data.toList.drop a).take (b - a) by simp [ByteArray.data_extract, Array.toList_extract, List.extract_eq_take_drop], List.map_take, List.map_drop]
theorem byt_cut (s : ByteArray) (a : Nat) : byt (s.extract a s.size) = (byt s).drop a := by
  rw [byt_extract, ← byt_len, List.take_of_length_le (by simp)]
theorem byt_to (s : ByteArray) (b : Nat) : byt (s.extract 0 b) = (byt s).take b := by
  rw [byt_extract]; simp
theorem bt_byt (s : ByteArray) (i : Nat) (h : i < s.size) : bt s (i : Int) = (byt s)[i]'(by rw [byt_len]; exact h) := by
  unfold bt byt
  simp [h]
  rfl
theorem Bytes.append {a b : List Int} (h : Bytes a) (k : Bytes b) : Bytes (a ++ b) := by
  intro x hx
  rcases List.mem_append.1 hx with h1 | h1
  · exact h x h1
  · exact k x h1
theorem Bytes.take {a : List Int} (h : Bytes a) (n : Nat) : Bytes (a.take n) := fun x hx => h x (List.mem_of_mem_take hx)
theorem Bytes.drop {a : List Int} (h : Bytes a) (n : Nat) : Bytes (a.drop n) := fun x hx => h x (List.mem_of_mem_drop hx)
theorem toList_eq_iff (a b : ByteArray) : a.toList = b.toList ↔ a = b := by
  rw [ByteArray.toList_eq, ByteArray.toList_eq]
  exact ⟨fun h => ByteArray.ext (Array.toList_inj.1 h), fun h => by rw [h]⟩
theorem beq_toList (a b : ByteArray) : (a.toList == b.toList) = decide (a = b) := by
  rw [Bool.eq_iff_iff, beq_iff_eq, decide_eq_true_iff, toList_eq_iff]

/- piece back -/
/-! ### short bytes, there and back -/
/-- The number of low seven bits. -/
def valL : List Int → Int
  | [] => 0
  | x :: xs => x % 128 + 128 * valL xs

theorem valL_snoc (l : List Int) (x : Int) : valL (l ++ [x]) = valL l + x % 128 * 128 ^ l.length := by
  induction l with
  | nil => simp [valL]
  | cons y l ih =>
    simp only [List.cons_append, valL, ih, List.length_cons, Int.pow_succ]
    rw [Int.mul_add, ← Int.mul_assoc, Int.mul_comm 128 (x % 128), Int.mul_assoc, Int.mul_comm 128 (128 ^ l.length)]
    omega

theorem val_valL (s : ByteArray) (i : Nat) (h : i ≤ s.size) : val s i = valL ((byt s).take i) := by
  induction i with
  | zero => simp [val, valL]
  | succ i ih =>
    have hl : i < (byt s).length := by rw [byt_len]; omega
    rw [List.take_succ_eq_append_getElem hl, valL_snoc, ← ih (by omega), List.length_take, Nat.min_eq_left (by omega)]
    simp only [val]
    rw [bt_byt s i (by omega)]

/-- A list of bytes is short bytes. -/
def IsSb : List Int → Prop
  | [] => False
  | [x] => 0 ≤ x ∧ x < 128
  | x :: y :: l => 128 ≤ x ∧ x ≤ 255 ∧ IsSb (y :: l) ∧ (y :: l) ≠ [0]

theorem valL_pos : ∀ l : List Int, IsSb l → 0 ≤ valL l ∧ (l ≠ [0] → 1 ≤ valL l)
  | [], h => h.elim
  | [x], h => by
    simp only [IsSb] at h
    simp only [valL]
    refine ⟨by omega, fun hn => ?_⟩
    have : x ≠ 0 := fun e => hn (by rw [e])
    omega
  | x :: y :: l, h => by
    have := valL_pos (y :: l) h.2.2.1
    have h2 := this.2 h.2.2.2
    rw [valL]
    refine ⟨by omega, fun _ => by omega⟩

theorem sb_valL : ∀ l : List Int, IsSb l → sb (valL l).toNat = l
  | [], h => h.elim
  | [x], h => by
    simp only [IsSb] at h
    simp only [valL]
    rw [sb_small (by omega), show (((x % 128 + 128 * 0).toNat : Nat) : Int) = x by omega]
  | x :: y :: l, h => by
    have h1 := (valL_pos (y :: l) h.2.2.1).2 h.2.2.2
    have ih := sb_valL (y :: l) h.2.2.1
    have hx := h.1
    have hx2 := h.2.1
    rw [valL]
    rw [sb_big (by omega), show (((x % 128 + 128 * valL (y :: l)).toNat % 128 + 128 : Nat) : Int) = x by omega, show (x % 128 + 128 * valL (y :: l)).toNat / 128 = (valL (y :: l)).toNat by omega, ih]

theorem sb_is (n : Nat) : IsSb (sb n) ∧ valL (sb n) = n ∧ (0 < n → sb n ≠ [0]) := by
  induction n using Nat.strongRecOn with
  | _ n ih =>
    by_cases h : n < 128
    · rw [sb_small h]
      refine ⟨⟨by omega, by omega⟩, by simp only [valL]; omega, fun h0 e => ?_⟩
      simp at e
      omega
    · obtain ⟨h1, h2, h3⟩ := ih (n / 128) (by omega)
      rw [sb_big h]
      have hp := sb_pos (n / 128)
      cases e : sb (n / 128) with
      | nil => rw [e] at hp; simp at hp
      | cons y l =>
        rw [e] at h1 h2 h3
        refine ⟨⟨by omega, by omega, h1, h3 (by omega)⟩, ?_, fun _ => by simp⟩
        rw [valL, h2]
        omega

theorem sb_bytes (n : Nat) : Bytes (sb n) := by
  induction n using Nat.strongRecOn with
  | _ n ih =>
    by_cases h : n < 128
    · rw [sb_small h]; intro x hx; simp at hx; omega
    · rw [sb_big h]
      intro x hx
      rcases List.mem_cons.1 hx with rfl | hx
      · omega
      · exact ih _ (by omega) x hx

theorem isSb_at : ∀ (l : List Int) (hl : IsSb l) (m : Nat) (hm : l.length = m + 1), (∀ (j : Nat) (hj : j < m), 128 ≤ l[j]'(by omega)) ∧ l[m]'(by omega) < 128 ∧ (0 < m → l[m]'(by omega) ≠ 0)
  | [], h, _, _ => h.elim
  | [x], h, m, hm => by
    simp at hm
    subst hm
    exact ⟨fun j hj => by omega, h.2, fun h => by omega⟩
  | x :: y :: l, h, m, hm => by
    obtain ⟨k, rfl⟩ : ∃ k, m = k + 1 := ⟨l.length, by simpa using hm.symm⟩
    have ih := isSb_at (y :: l) h.2.2.1 k (by simpa using hm)
    refine ⟨fun j hj => ?_, by simpa using ih.2.1, fun _ => ?_⟩
    · cases j with
      | zero => exact h.1
      | succ j => simpa using ih.1 j (by omega)
    · by_cases hk : 0 < k
      · simpa using ih.2.2 hk
      · have : k = 0 := by omega
        subst this
        simp at hm
        subst hm
        intro e
        simp at e
        exact h.2.2.2 (by rw [e])

theorem isSb_of : ∀ (l : List Int), Bytes l → ∀ (m : Nat) (hm : l.length = m + 1), (∀ (j : Nat) (hj : j < m), 128 ≤ l[j]'(by omega)) → l[m]'(by omega) < 128 → (0 < m → l[m]'(by omega) ≠ 0) → IsSb l
  | [], _, _, hm, _, _, _ => by simp at hm
  | [x], hb, m, hm, h1, h2, h3 => by
    simp at hm
    subst hm
    exact ⟨(hb x (by simp)).1, h2⟩
  | x :: y :: l, hb, m, hm, h1, h2, h3 => by
    obtain ⟨k, rfl⟩ : ∃ k, m = k + 1 := ⟨l.length, by simpa using hm.symm⟩
    refine ⟨h1 0 (by omega), (hb x (by simp)).2, isSb_of (y :: l) (fun z hz => hb z (by simp [hz])) k (by simpa using hm) (fun j hj => by simpa using h1 (j + 1) (by omega)) (by simpa using h2) (fun _ => by simpa using h3 (by omega)), fun e => ?_⟩
    have : y = 0 ∧ l = [] := by simpa using e
    obtain ⟨rfl, rfl⟩ := this
    have : k = 0 := by simpa using hm.symm
    subst this
    exact absurd (by simp) (h3 (by omega))

theorem ends_of (s : ByteArray) (m : Nat) (h1 : m < 10) (h2 : m < s.size) (h3 : ∀ j : Nat, j < m → 128 ≤ bt s (j : Int)) (h4 : bt s (m : Int) < 128) (h5 : 0 < m → bt s (m : Int) ≠ 0) (h6 : m = 9 → bt s (m : Int) ≤ 1) (d : Nat) : ∀ i, i + d = m → ends s i = (((m + 1 : Nat) : Int), 0) := by
  induction d with
  | zero =>
    intro i hi
    have e : i = m := by omega
    subst e
    rw [ends_last ⟨h2, h1⟩ h4, if_neg]
    rintro (⟨h, h'⟩ | ⟨h, h'⟩)
    · exact h5 h h'
    · have := h6 h; omega
  | succ d ih =>
    intro i hi
    have := h3 i (by omega)
    rw [ends_more ⟨by omega, by omega⟩ (by omega)]
    exact ih (i + 1) (by omega)

/-- What short bytes with something behind them tell. -/
theorem longS_sb (n : Nat) (hn : n < 18446744073709551616) (z : ByteArray) : longS (strOfNums (sb n) ++ z) = ((n : Int), ((sb n).length : Int), 0) := by
  obtain ⟨h1, h2, _⟩ := sb_is n
  have hp := sb_pos n
  obtain ⟨m, hm⟩ : ∃ m, (sb n).length = m + 1 := ⟨(sb n).length - 1, by omega⟩
  have h10 := sb_len10 hn
  obtain ⟨a1, a2, a3⟩ := isSb_at _ h1 m hm
  have hby : byt (strOfNums (sb n) ++ z) = sb n ++ byt z := by rw [byt_append, byt_str (sb_bytes n)]
  have hsz : (strOfNums (sb n) ++ z).size = m + 1 + z.size := by rw [← byt_len, hby, List.length_append, hm, byt_len]
  have hbt : ∀ j (hj : j < m + 1), bt (strOfNums (sb n) ++ z) (j : Int) = (sb n)[j]'(by omega) := by
    intro j hj
    rw [bt_byt _ j (by omega)]
    simp only [hby]
    rw [List.getElem_append_left (by omega)]
  have hv : val (strOfNums (sb n) ++ z) (m + 1) = n := by
    rw [val_valL _ _ (by omega), hby, List.take_append_of_le_length (by omega), List.take_of_length_le (by omega), h2]
  have h6 : m = 9 → bt (strOfNums (sb n) ++ z) (m : Int) ≤ 1 := by
    rintro rfl
    have hr := (val_range (strOfNums (sb n) ++ z) 9).1
    simp only [val] at hv
    have e : (128 : Int) ^ 9 = 9223372036854775808 := by decide
    simp only [val, e] at hv hr
    have hb := btr (strOfNums (sb n) ++ z) ((9 : Nat) : Int)
    have h4 := hbt 9 (by omega)
    rw [h4] at hb hv ⊢
    omega
  have he := ends_of (strOfNums (sb n) ++ z) m (by omega) (by omega) (fun j hj => by rw [hbt j (by omega)]; exact a1 j hj) (by rw [hbt m (by omega)]; exact a2) (fun h => by rw [hbt m (by omega)]; exact a3 h) h6 m 0 (by omega)
  unfold longS
  rw [he]
  simp only [if_true]
  rw [show (((m + 1 : Nat) : Int)).toNat = m + 1 by omega, hv, hm]

/-- What is read has just the bytes that it was read of. -/
theorem longS_back (s : ByteArray) (m : Nat) (h : longS s = (val s (m + 1), ((m + 1 : Nat) : Int), 0)) (hm : m < s.size) (hc : bt s (m : Int) < 128) (h0 : 0 < m → bt s (m : Int) ≠ 0) (hj : ∀ j : Nat, j < m → 128 ≤ bt s (j : Int)) : sb (val s (m + 1)).toNat = (byt s).take (m + 1) := by
  have hl : ((byt s).take (m + 1)).length = m + 1 := by rw [List.length_take, byt_len]; omega
  have hg : ∀ j (h : j < m + 1), ((byt s).take (m + 1))[j]'(by omega) = bt s (j : Int) := by
    intro j h
    rw [bt_byt s j (by omega), List.getElem_take]
  have := isSb_of ((byt s).take (m + 1)) ((byt_bytes s).take _) m hl (fun j h => by rw [hg j (by omega)]; exact hj j h) (by rw [hg m (by omega)]; exact hc) (fun h => by rw [hg m (by omega)]; exact h0 h)
  rw [val_valL s (m + 1) (by omega)]
  exact sb_valL _ this

theorem byt_nil {s : ByteArray} (h : s.size = 0) : byt s = [] := List.length_eq_zero_iff.1 (by rw [byt_len]; exact h)

theorem sbs_append (a b : List Int) : sbs (a ++ b) = sbs a ++ sbs b := by simp [sbs]

theorem allF_back (d : Nat) : ∀ (s : ByteArray) (acc : List Int), s.size ≤ d → (allF d s acc).2 = 0 → ∃ l, (allF d s acc).1 = acc ++ l ∧ sbs l = byt s ∧ (∀ x ∈ l, 0 ≤ x ∧ x < 18446744073709551616) := by
  induction d with
  | zero =>
    intro s acc hs h
    refine ⟨[], by simp [allF], ?_, by simp⟩
    rw [byt_nil (by omega)]; rfl
  | succ d ih =>
    intro s acc hs h
    simp only [allF] at h ⊢
    by_cases h0 : s.size = 0
    · rw [if_pos h0]
      refine ⟨[], by simp, ?_, by simp⟩
      rw [byt_nil h0]; rfl
    · rw [if_neg h0] at h ⊢
      by_cases e : (longS s).2.2 = 0
      · rw [if_pos e] at h ⊢
        obtain ⟨m, e1, h10, hm, hv0, hv1, hc, hz, hj⟩ := longS_ok s e
        have e3 : (longS s).2.1.toNat = m + 1 := by rw [e1]; exact Int.toNat_natCast _
        have e4 : (longS s).1 = val s (m + 1) := by rw [e1]
        rw [e3, e4] at h ⊢
        obtain ⟨l, h1, h2, h3⟩ := ih (s.extract (m + 1) s.size) (acc ++ [val s (m + 1)]) (by have := cut_size s (m + 1) (by omega); omega) h
        refine ⟨val s (m + 1) :: l, by rw [h1]; simp, ?_, ?_⟩
        · rw [sbs_cons, h2, longS_back s m e1 hm hc hz hj, byt_cut, List.take_append_drop]
        · intro x hx
          rcases List.mem_cons.1 hx with rfl | hx
          · exact ⟨hv0, hv1⟩
          · exact h3 x hx
      · rw [if_neg e] at h
        exact absurd h e

theorem allF_err (d : Nat) : ∀ (s : ByteArray) (acc : List Int), (allF d s acc).2 ≠ 0 → (allF d s acc).1 = [] := by
  induction d with
  | zero => intro s acc h; simp [allF] at h
  | succ d ih =>
    intro s acc h
    simp only [allF] at h ⊢
    by_cases h0 : s.size = 0
    · rw [if_pos h0] at h; simp at h
    · rw [if_neg h0] at h ⊢
      by_cases e : (longS s).2.2 = 0
      · rw [if_pos e] at h ⊢; exact ih _ _ h
      · rw [if_neg e]

/- piece fixed -/
/-! ### bytes of a fixed number -/
theorem p256_pos (i : Nat) : (0 : Int) < 256 ^ i := Int.pow_pos (by decide)
theorem p256 (i : Nat) : (256 : Int) ^ i = 2 ^ (8 * i) := by rw [show (256 : Int) = 2 ^ 8 by decide, ← Int.pow_mul]
theorem p256_le (i j : Nat) (h : i ≤ j) : (256 : Int) ^ i ≤ 256 ^ j := by
  have h2 := Int.ofNat_le.2 (Nat.pow_le_pow_right (n := 256) (by decide) h)
  rw [Int.natCast_pow, Int.natCast_pow] at h2
  exact h2

/-- So many bytes of a number. -/
def putS (n : Int) : Nat → List Int
  | 0 => []
  | i + 1 => putS n i ++ [n / 256 ^ i % 256]
theorem putS_len (n : Int) (i : Nat) : (putS n i).length = i := by induction i with | zero => rfl | succ i ih => simp [putS, ih]
theorem putS_bytes (n : Int) (i : Nat) : Bytes (putS n i) := by
  induction i with
  | zero => intro x hx; simp [putS] at hx
  | succ i ih => exact ih.append fun x hx => by simp at hx; omega

/-- The number of bytes. -/
def val8 (s : ByteArray) : Nat → Int
  | 0 => 0
  | i + 1 => val8 s i + bt s (i : Int) * 256 ^ i
theorem val8_range (s : ByteArray) (i : Nat) : 0 ≤ val8 s i ∧ val8 s i < 256 ^ i := by
  induction i with
  | zero => simp [val8]
  | succ i ih =>
    have hp := p256_pos i
    have hb := bt_range s (i : Int)
    have h3 : 0 ≤ bt s (i : Int) * 256 ^ i := Int.mul_nonneg hb.1 (Int.le_of_lt hp)
    have h4 : bt s (i : Int) * 256 ^ i ≤ 255 * 256 ^ i := Int.mul_le_mul_of_nonneg_right hb.2 (Int.le_of_lt hp)
    simp only [val8, Int.pow_succ]
    omega
/-- The number of so many bytes, or the error's number. -/
def getS (s : ByteArray) (m : Nat) : Int × Int := if s.size < m then (0, 4) else if s.size > m then (0, 6) else (val8 s m, 0)

theorem wraps64 (n : Int) (h0 : 0 ≤ n) (h1 : n < 2 ^ 64) : IntKind.u64.wrap n = n := by rw [u64_eq]; omega

theorem or_shl8 (a c : Int) (i : Nat) (hi : i ≤ 7) (ha0 : 0 ≤ a) (ha : a < 256 ^ i) (hc0 : 0 ≤ c) (hc1 : c ≤ 255) :
    Go.bits .or .u64 a (shl .u64 (IntKind.u64.wrap c) (wrap64 (8 * (i : Int)))) = a + c * 256 ^ i := by
  have hp := p256_pos i
  have h3 : 0 ≤ c * 256 ^ i := Int.mul_nonneg hc0 (Int.le_of_lt hp)
  have h4 : c * 256 ^ i ≤ 255 * 256 ^ i := Int.mul_le_mul_of_nonneg_right hc1 (Int.le_of_lt hp)
  have h5 := p256_le i 7 hi
  have e7 : (256 : Int) ^ 7 = 72057594037927936 := by decide
  have e64 : (2 : Int) ^ 64 = 18446744073709551616 := by decide
  have hw : wrap64 (8 * (i : Int)) = ((8 * i : Nat) : Int) := by unfold wrap64; omega
  have hs : shl .u64 (IntKind.u64.wrap c) (wrap64 (8 * (i : Int))) = c * 256 ^ i := by
    unfold shl
    rw [hw, wraps64 c hc0 (by omega)]
    have : min (((8 * i : Nat) : Int)).toNat (IntKind.bits .u64) = 8 * i := by simp [IntKind.bits]; omega
    rw [this, ← p256]
    exact wraps64 _ h3 (by omega)
  rw [hs, show Go.bits .or .u64 a (c * 256 ^ i) = Go.bits .or .u64 (c * 256 ^ i) a by unfold Go.bits; simp only; rw [BitVec.or_comm]]
  rw [Go.bits_join .u64 64 (by decide) wraps64 (8 * i) (c * 256 ^ i) a h3 (by rw [p256]; exact Int.mul_emod_left _ _) (by omega) ha0 (by rw [← p256]; exact ha) (by omega)]
  omega

theorem word_get_l0 (s : ByteArray) (m : Nat) (hm : m ≤ 8) (hs : s.size = m) (d : Nat) : ∀ i, i + d = m → Ev (fun k => word_get.l0 k s (val8 s i) (m : Int) (i : Int)) (val8 s m, 0) := by
  induction d with
  | zero =>
    intro i hi
    refine Ev.step (f := fun _ => some (val8 s m, 0)) (fun k => ?_) (Ev.now _)
    simp only [word_get.l0]
    rw [if_neg (by omega), show i = m by omega]
  | succ d ih =>
    intro i hi
    have hb := bt_range s (i : Int)
    have hv := val8_range s i
    refine Ev.step (f := fun k => word_get.l0 k s (val8 s (i + 1)) (m : Int) ((i + 1 : Nat) : Int)) (fun k => ?_) (ih (i + 1) (by omega))
    simp only [word_get.l0]
    rw [if_pos (by omega), if_pos (by omega), if_pos (by omega), if_pos (by unfold wrap64; omega), or_shl8 _ _ i (by omega) hv.1 hv.2 hb.1 hb.2, show wrap64 ((i : Int) + 1) = ((i + 1 : Nat) : Int) by unfold wrap64; omega]
    rfl

theorem word_get_ev (s : ByteArray) (m : Nat) (hm : m ≤ 8) : Ev (fun k => word_get.f k s (m : Int)) (getS s m) := by
  unfold word_get.f getS
  by_cases h1 : s.size < m
  · refine Ev.congr (f := fun _ => some (0, 4)) (fun k => ?_) (by rw [if_pos h1]; exact Ev.now _)
    rw [if_pos (by omega)]
  · by_cases h2 : s.size > m
    · refine Ev.congr (f := fun _ => some (0, 6)) (fun k => ?_) (by rw [if_neg h1, if_pos h2]; exact Ev.now _)
      rw [if_neg (by omega), if_pos (by omega)]
    · rw [if_neg h1, if_neg h2]
      refine Ev.congr (fun k => ?_) (word_get_l0 s m hm (by omega) m 0 (by omega))
      rw [if_neg (by omega), if_neg (by omega)]
      rfl

theorem getS_range (s : ByteArray) (m : Nat) : 0 ≤ (getS s m).1 ∧ (getS s m).1 < 256 ^ m := by
  have h := val8_range s m
  have := p256_pos m
  unfold getS
  split
  · exact ⟨by omega, by omega⟩
  · split
    · exact ⟨by omega, by omega⟩
    · exact h

theorem word_Get32_ev (s : ByteArray) : Ev (fun k => word_Get32.f k s) (getS s 4) := by
  unfold word_Get32.f
  refine Ev.bind (word_get_ev s 4 (by decide)) ?_
  have h := getS_range s 4
  have e : (256 : Int) ^ 4 = 4294967296 := by decide
  rw [show (getS s 4).1 % 4294967296 = (getS s 4).1 by omega]
  exact Ev.now _
theorem word_Get64_ev (s : ByteArray) : Ev (fun k => word_Get64.f k s) (getS s 8) := by
  unfold word_Get64.f
  exact Ev.bind (word_get_ev s 8 (by decide)) (Ev.now _)

theorem word_put_l0 (n : Int) (m : Nat) (hm : m ≤ 8) (d : Nat) : ∀ i, i + d = m → Ev (fun k => word_put.l0 k n (putS n i ++ List.replicate d 0) (m : Int) (i : Int)) (strOfNums (putS n m)) := by
  induction d with
  | zero =>
    intro i hi
    refine Ev.step (f := fun _ => some (strOfNums (putS n m))) (fun k => ?_) (Ev.now _)
    simp only [word_put.l0]
    rw [if_neg (by omega), show i = m by omega]
    simp
  | succ d ih =>
    intro i hi
    refine Ev.step (f := fun k => word_put.l0 k n (putS n (i + 1) ++ List.replicate d 0) (m : Int) ((i + 1 : Nat) : Int)) (fun k => ?_) (ih (i + 1) (by omega))
    have hw : wrap64 (8 * (i : Int)) = ((8 * i : Nat) : Int) := by unfold wrap64; omega
    have hsh : shr .u64 n (wrap64 (8 * (i : Int))) = n / 256 ^ i := by
      unfold shr
      rw [hw]
      have : min (((8 * i : Nat) : Int)).toNat (IntKind.bits .u64) = 8 * i := by simp [IntKind.bits]; omega
      rw [this, ← p256]
    have hset : (putS n i ++ List.replicate (d + 1) 0).set ((i : Int)).toNat (n / 256 ^ i % 256) = putS n (i + 1) ++ List.replicate d 0 := by
      rw [show ((i : Int)).toNat = i by omega, List.set_append_right _ _ (by rw [putS_len]; omega), putS_len, Nat.sub_self, List.replicate_succ, List.set_cons_zero]
      simp [putS]
    simp only [word_put.l0]
    rw [if_pos (by omega), if_pos (by rw [hw]; omega), if_pos (by omega), if_pos (by rw [List.length_append, putS_len, List.length_replicate]; omega), hsh, hset, show wrap64 ((i : Int) + 1) = ((i + 1 : Nat) : Int) by unfold wrap64; omega]

theorem word_put_ev (n : Int) (m : Nat) (hm : m ≤ 8) : Ev (fun k => word_put.f k n (m : Int)) (strOfNums (putS n m)) := by
  unfold word_put.f
  refine Ev.congr (fun k => ?_) (word_put_l0 n m hm m 0 (by omega))
  rw [if_pos (by omega), if_pos (by omega), Option.bind_some, show ((m : Int)).toNat = m by omega, List.length_replicate]
  rfl

theorem word_Put32_ev (n : Int) (h0 : 0 ≤ n) (h1 : n < 4294967296) : Ev (fun k => word_Put32.f k n) (strOfNums (putS n 4)) := by
  unfold word_Put32.f
  rw [wraps64 n h0 (by omega)]
  exact Ev.bind (word_put_ev n 4 (by decide)) (Ev.now _)
theorem word_Put64_ev (n : Int) : Ev (fun k => word_Put64.f k n) (strOfNums (putS n 8)) := by
  unfold word_Put64.f
  exact Ev.bind (word_put_ev n 8 (by decide)) (Ev.now _)

/-- What is put is got. -/
theorem val8_put (n : Int) (m : Nat) (i : Nat) (h : i ≤ m) : val8 (strOfNums (putS n m)) i = n % 256 ^ i := by
  have hget : ∀ (m i : Nat) (h : i < m), (putS n m)[i]'(by rw [putS_len]; exact h) = n / 256 ^ i % 256 := by
    intro m
    induction m with
    | zero => intro i h; omega
    | succ m ih =>
      intro i h
      simp only [putS]
      by_cases e : i < m
      · rw [List.getElem_append_left (by rw [putS_len]; exact e)]; exact ih i e
      · rw [List.getElem_append_right (by rw [putS_len]; omega)]
        have : i = m := by omega
        subst this
        simp [putS_len]
  induction i with
  | zero => simp [val8, Int.emod_one]
  | succ i ih =>
    simp only [val8]
    rw [ih (by omega), bt_byt _ i (by rw [strOfNums_size, putS_len]; omega)]
    simp only [byt_str (putS_bytes n m)]
    rw [hget m i (by omega)]
    have h1 := Int.emod_add_mul_ediv n (256 ^ i)
    have h2 := Int.emod_add_mul_ediv n (256 ^ (i + 1))
    have h3 : n / 256 ^ (i + 1) = n / 256 ^ i / 256 := by rw [Int.pow_succ, Int.ediv_ediv_of_nonneg (Int.le_of_lt (p256_pos i))]
    have h4 := Int.emod_add_mul_ediv (n / 256 ^ i) 256
    rw [Int.pow_succ] at h2 ⊢
    rw [Int.pow_succ] at h3
    rw [h3] at h2
    generalize (256 : Int) ^ i = p at *
    generalize n / p = q at *
    have h5 : q % 256 * p + p * 256 * (q / 256) = p * q := by
      have : p * (q % 256 + 256 * (q / 256)) = p * q := by rw [h4]
      rw [Int.mul_add, ← Int.mul_assoc] at this
      rw [Int.mul_comm (q % 256) p]
      exact this
    omega

theorem getS_put (n : Int) (m : Nat) (h0 : 0 ≤ n) (h1 : n < 256 ^ m) : getS (strOfNums (putS n m)) m = (n, 0) := by
  unfold getS
  rw [strOfNums_size, putS_len, if_neg (by omega), if_neg (by omega), val8_put n m m (Nat.le_refl _), Int.emod_eq_of_lt h0 h1]

theorem WordBack : haulagelaw01_WordBack.Pure := by
  intro a b s ha hb hs
  replace ha := wf_u32 ha
  replace hb := wf_u64 hb
  refine Ev.rounds (r := true) ?_
  unfold haulagelaw01_WordBack.f
  refine Ev.bind lives_ev ?_
  by_cases h : (s.size : Int) > 100
  · refine Ev.congr (f := fun _ => some true) (fun k => ?_) (Ev.now _)
    rw [if_pos rfl, if_pos h]
  · refine Ev.congr (fun k => by rw [if_pos rfl, if_neg h]) ?_
    have e4 : (256 : Int) ^ 4 = 4294967296 := by decide
    have e8 : (256 : Int) ^ 8 = 18446744073709551616 := by decide
    obtain ⟨n, rfl⟩ := Int.eq_ofNat_of_zero_le hb.1
    have hn : n < 18446744073709551616 := by omega
    have hshort : Ev (fun k => word_Short.f k [(n : Int)]) (strOfNums (sb n)) := by
      have := word_Short_ev [(n : Int)] (by simp) (by intro x hx; simp at hx; omega)
      simpa [sbs] using this
    have hlen := sb_len10 hn
    refine Ev.bind (word_Put32_ev a ha.1 (by omega)) (Ev.bind (word_Get32_ev _) (Ev.bind (word_Put64_ev n) (Ev.bind (word_Get64_ev _) (Ev.bind hshort ?_))))
    refine Ev.congr (fun k => by rw [if_pos (by rw [strOfNums_size]; omega)]) ?_
    refine Ev.bind (word_Long_ev _) ?_
    rw [longS_sb n hn s, getS_put a 4 ha.1 (by omega), getS_put (n : Int) 8 (by omega) (by omega)]
    simp only [if_true]
    refine Ev.bind hshort ?_
    refine Ev.step (fun k => by simp only [haulagelaw01_WordBack.j0]; rw [if_neg (by rw [strOfNums_size]; simp)]) ?_
    refine Ev.bind (word_All_ev s (by omega)) ?_
    by_cases e : (allF s.size s []).2 = 0
    · obtain ⟨l, h1, h2, h3⟩ := allF_back s.size s [] (Nat.le_refl _) e
      have hl := allF_len s.size s []
      refine Ev.congr (fun k => by rw [if_pos e]) ?_
      rw [h1, List.nil_append]
      rw [h1] at hl
      refine Ev.bind (word_Short_ev l (by simp at hl; omega) h3) ?_
      rw [h2, str_byt]
      refine Ev.congr (f := fun _ => some true) (fun k => ?_) (Ev.now _)
      simp
    · refine Ev.congr (f := fun _ => some true) (fun k => ?_) (Ev.now _)
      rw [if_neg e, allF_err _ _ _ e]
      rfl

end Go.Proofs.Ytjkjpjbohiggaaa.Pure

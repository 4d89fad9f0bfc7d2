/- For every text: the number that it begins with, and all numbers that it is, are what the reference says, with the same errors; no condition. -/
import Derived.Test.YtjkjpjbohiggaaaPWordLongx3
set_option linter.unusedVariables false
set_option linter.unusedSimpArgs false
namespace Go.Proofs.Ytjkjpjbohiggaaa.Pure
open Go.RowKit Go.Proofs.Ytjkjpjbohiggaaa.PWordLong Go.Proofs.YtjkjpjbohiggaaaW.PrintWords Go.Proofs.YtjkjpjbohiggaaaW.PrintLast Go.Proofs.YtjkjpjbohiggaaaW.PrintMore
/- piece base -/
theorem tmod_nonneg_eq (a b : Int) (ha : 0 ≤ a) : Int.tmod a b = a % b := Int.tmod_eq_emod_of_nonneg ha
theorem tdiv_nonneg_eq (a b : Int) (ha : 0 ≤ a) : Int.tdiv a b = a / b := Int.tdiv_eq_ediv_of_nonneg ha
theorem u64_id (n : Int) (h0 : 0 ≤ n) (h1 : n < 18446744073709551616) : IntKind.u64.wrap n = n := by
  simp only [IntKind.wrap, IntKind.bits, IntKind.signed]
  simp
  omega


/- piece word -/
/-! ### short bytes -/
/-- The short bytes of a number. -/
def sb (n : Nat) : List Int := if n < 128 then [(n : Int)] else (((n % 128 + 128 : Nat) : Int)) :: sb (n / 128)
termination_by n
decreasing_by omega

theorem sb_small {n : Nat} (h : n < 128) : sb n = [(n : Int)] := by rw [sb, if_pos h]
theorem sb_big {n : Nat} (h : ¬ n < 128) : sb n = (((n % 128 + 128 : Nat) : Int)) :: sb (n / 128) := by rw [sb, if_neg h]

theorem sb_len (m : Nat) : ∀ n, n < 128 ^ (m + 1) → (sb n).length ≤ m + 1 := by
  induction m with
  | zero => intro n h; rw [sb_small (by simpa using h)]; simp
  | succ m ih =>
    intro n h
    by_cases h1 : n < 128
    · rw [sb_small h1]; simp
    · rw [sb_big h1]
      have : n / 128 < 128 ^ (m + 1) := by
        rw [Nat.div_lt_iff_lt_mul (by decide)]
        rw [Nat.pow_succ] at h
        exact h
      have := ih _ this
      simp only [List.length_cons]
      omega

theorem sb_len10 {n : Nat} (h : n < 18446744073709551616) : (sb n).length ≤ 10 := sb_len 9 n (Nat.lt_of_lt_of_le h (by decide))
theorem sb_pos (n : Nat) : 0 < (sb n).length := by
  by_cases h : n < 128
  · rw [sb_small h]; simp
  · rw [sb_big h]; simp

theorem or128_fin : ∀ a : Fin 256, (a.val ||| 128) = a.val % 128 + 128 := by decide +kernel

theorem or128 (x : Int) (h : 0 ≤ x) : Go.bits .or .u8 (x % 256) 128 = x % 128 + 128 := by
  obtain ⟨n, rfl⟩ := Int.eq_ofNat_of_zero_le h
  have e : ((n : Int) % 256) = ((n % 256 : Nat) : Int) := by omega
  have := (Go.bits_nat .u8 8 (by decide) Go.wraps_u8 (n % 256) 128 (by omega) (by decide)).2
  rw [e]
  refine this.trans ?_
  have h2 := or128_fin ⟨n % 256, by omega⟩
  simp only at h2
  rw [h2]
  omega

theorem short_l1 (l : List Int) (len i : Int) (r : ByteArray) (n : Nat) : ∀ acc : List Int, acc.length + (sb n).length ≤ 140737488355328 →
    Ev (fun k => word_Short.l0 k (acc ++ sb n) l len (wrap64 (i + 1))) r → Ev (fun k => word_Short.l1 k acc (n : Int) l len i) r := by
  induction n using Nat.strongRecOn with
  | _ n ih =>
    intro acc hb hk
    by_cases h : n < 128
    · rw [sb_small h] at hb hk
      simp only [List.length_cons, List.length_nil] at hb
      refine Ev.step (f := fun k => word_Short.l0 k (acc ++ [(n : Int)]) l len (wrap64 (i + 1))) (fun k => ?_) hk
      simp only [word_Short.l1]
      rw [if_neg (by omega), if_pos (by omega), show ((n : Int) % 256) = n by omega]
    · rw [sb_big h] at hb hk
      simp only [List.length_cons] at hb
      refine Ev.step (f := fun k => word_Short.l1 k (acc ++ [((n % 128 + 128 : Nat) : Int)]) ((n / 128 : Nat) : Int) l len i) (fun k => ?_) (ih (n / 128) (by omega) _ (by simp only [List.length_append, List.length_cons, List.length_nil]; omega) ?_)
      · simp only [word_Short.l1]
        rw [if_pos (by omega), if_pos (by omega), or128 _ (by omega), show ((n : Int) % 128 + 128) = ((n % 128 + 128 : Nat) : Int) by omega, show ((n : Int) / 128) = ((n / 128 : Nat) : Int) by omega]
      · rw [List.append_assoc]; exact hk

/-- The short bytes of several. -/
def sbs (l : List Int) : List Int := l.flatMap fun x => sb x.toNat

theorem sbs_cons (x : Int) (l : List Int) : sbs (x :: l) = sb x.toNat ++ sbs l := by simp [sbs]
theorem sbs_len (l : List Int) (h : ∀ x ∈ l, 0 ≤ x ∧ x < 18446744073709551616) : (sbs l).length ≤ 10 * l.length := by
  induction l with
  | nil => simp [sbs]
  | cons x l ih =>
    have := ih (fun y hy => h y (by simp [hy]))
    have h1 := h x (by simp)
    have := sb_len10 (n := x.toNat) (by omega)
    rw [sbs_cons]
    simp only [List.length_append, List.length_cons]
    omega

theorem rd_at (l : List Int) (i : Nat) (h : i < l.length) : rd l (i : Int) = l[i] := by
  simp [rd, h]

theorem short_l0 (l : List Int) (hl : l.length ≤ 1000000000000) (hr : ∀ x ∈ l, 0 ≤ x ∧ x < 18446744073709551616) (d : Nat) : ∀ (i : Nat) (acc : List Int), l.length = i + d → acc.length ≤ 10 * i →
    Ev (fun k => word_Short.l0 k acc l (l.length : Int) (i : Int)) (strOfNums (acc ++ sbs (l.drop i))) := by
  induction d with
  | zero =>
    intro i acc hi ha
    refine Ev.step (f := fun _ => some (strOfNums acc)) (fun k => ?_) ?_
    · simp only [word_Short.l0]
      rw [if_neg (by omega)]
    · rw [show l.drop i = [] from List.drop_eq_nil_of_le (by omega)]
      simpa [sbs] using Ev.now (strOfNums acc)
  | succ d ih =>
    intro i acc hi ha
    have hlt : i < l.length := by omega
    have hx := hr l[i] (List.getElem_mem hlt)
    have h10 := sb_len10 (n := l[i].toNat) (by omega)
    refine Ev.step (f := fun k => word_Short.l1 k acc ((l[i].toNat : Nat) : Int) l (l.length : Int) (i : Int)) (fun k => ?_) ?_
    · simp only [word_Short.l0]
      rw [if_pos (by omega), if_pos (by omega), if_pos (by omega), rd_at l i hlt, show ((l[i].toNat : Nat) : Int) = l[i] by omega]
    · refine short_l1 l _ _ _ _ _ (by omega) ?_
      have := ih (i + 1) (acc ++ sb l[i].toNat) (by omega) (by simp only [List.length_append]; omega)
      rw [show l.drop i = l[i] :: l.drop (i + 1) from List.drop_eq_getElem_cons hlt, sbs_cons, ← List.append_assoc]
      rw [show wrap64 ((i : Int) + 1) = ((i + 1 : Nat) : Int) by unfold wrap64; omega]
      exact this

theorem word_Short_ev (l : List Int) (hl : l.length ≤ 1000000000000) (hr : ∀ x ∈ l, 0 ≤ x ∧ x < 18446744073709551616) :
    Ev (fun k => word_Short.f k l) (strOfNums (sbs l)) := by
  have := short_l0 l hl hr l.length 0 [] (by omega) (by simp)
  simpa [word_Short.f] using this

theorem strOfNums_append (a b : List Int) : strOfNums (a ++ b) = strOfNums a ++ strOfNums b := by
  apply ByteArray.ext
  simp [strOfNums]
theorem strOfNums_size (a : List Int) : (strOfNums a).size = a.length := by simp [strOfNums, ByteArray.size]

theorem lives_Short : Ev (fun k => word_Short.f k ([300] : List Int)) (strOfNums [172, 2]) := by
  have := word_Short_ev [300] (by simp) (by simp)
  rw [show sbs [300] = [172, 2] by simp [sbs, sb_big, sb_small]] at this
  exact this

theorem lives_ev : Ev (fun k => haulagelaw01_lives.f k) true := by
  unfold haulagelaw01_lives.f
  refine Ev.bind (f := fun _ t => _) lives_Short ?_
  rw [if_pos (by decide +kernel)]
  rw [show word_Zig.f (-2) = some 3 by decide +kernel, Option.bind_some, if_pos rfl, show word_Low.f 200 8 = some (-56) by decide +kernel, Option.bind_some]
  exact Ev.now _

/- piece long -/
/-! ### the number that a text begins with -/
theorem btr (s : ByteArray) (i : Int) : 0 ≤ bt s i ∧ bt s i ≤ 255 := bt_range s i

/-- The number of the first bytes' low seven bits. -/
def val (s : ByteArray) : Nat → Int
  | 0 => 0
  | i + 1 => val s i + bt s (i : Int) % 128 * 128 ^ i

theorem p128_pos (i : Nat) : (0 : Int) < 128 ^ i := Int.pow_pos (by decide)

theorem val_range (s : ByteArray) (i : Nat) : 0 ≤ val s i ∧ val s i < 128 ^ i := by
  induction i with
  | zero => simp [val]
  | succ i ih =>
    have hp := p128_pos i
    have h1 : 0 ≤ bt s (i : Int) % 128 := by omega
    have h2 : bt s (i : Int) % 128 ≤ 127 := by omega
    have h3 : 0 ≤ bt s (i : Int) % 128 * 128 ^ i := Int.mul_nonneg h1 (Int.le_of_lt hp)
    have h4 : bt s (i : Int) % 128 * 128 ^ i ≤ 127 * 128 ^ i := Int.mul_le_mul_of_nonneg_right h2 (Int.le_of_lt hp)
    simp only [val, Int.pow_succ]
    omega

/-- How many short bytes a text begins with, from a place on; or the error's number. -/
def ends (s : ByteArray) (i : Nat) : Int × Int :=
  if _h : i < s.size ∧ i < 10 then
    if bt s (i : Int) < 128 then (if (0 < i ∧ bt s (i : Int) = 0) ∨ (i = 9 ∧ 1 < bt s (i : Int)) then (0, 5) else (((i + 1 : Nat) : Int), 0)) else ends s (i + 1)
  else if s.size < 10 then (0, 4) else (0, 5)
termination_by 10 - i
decreasing_by omega

theorem ends_stop {s : ByteArray} {i : Nat} (h : ¬ (i < s.size ∧ i < 10)) : ends s i = if s.size < 10 then (0, 4) else (0, 5) := by rw [ends, dif_neg h]
theorem ends_more {s : ByteArray} {i : Nat} (h : i < s.size ∧ i < 10) (hc : ¬ bt s (i : Int) < 128) : ends s i = ends s (i + 1) := by rw [ends, dif_pos h, if_neg hc]
theorem ends_last {s : ByteArray} {i : Nat} (h : i < s.size ∧ i < 10) (hc : bt s (i : Int) < 128) : ends s i = if (0 < i ∧ bt s (i : Int) = 0) ∨ (i = 9 ∧ 1 < bt s (i : Int)) then (0, 5) else (((i + 1 : Nat) : Int), 0) := by rw [ends, dif_pos h, if_pos hc]

/-- What is known where it ends. -/
theorem ends_ok (s : ByteArray) (d : Nat) : ∀ i, i + d = 10 → (ends s i).2 = 0 → ∃ m : Nat, (ends s i).1 = ((m + 1 : Nat) : Int) ∧ i ≤ m ∧ m < 10 ∧ m < s.size ∧ bt s (m : Int) < 128 ∧ (0 < m → bt s (m : Int) ≠ 0) ∧ (m = 9 → bt s (m : Int) ≤ 1) ∧ ∀ j : Nat, i ≤ j → j < m → 128 ≤ bt s (j : Int) := by
  induction d with
  | zero =>
    intro i hi h
    rw [ends_stop (by omega)] at h
    split at h <;> simp at h
  | succ d ih =>
    intro i hi h
    by_cases h1 : i < s.size ∧ i < 10
    · by_cases hc : bt s (i : Int) < 128
      · rw [ends_last h1 hc] at h ⊢
        split at h
        · simp at h
        · rename_i hn
          rw [if_neg hn]
          exact ⟨i, rfl, Nat.le_refl _, h1.2, h1.1, hc, fun h0 h2 => hn (.inl ⟨h0, h2⟩), fun h9 => by
            by_cases h : 1 < bt s (i : Int)
            · exact absurd (.inr ⟨h9, h⟩) hn
            · omega, fun j hj hj' => by omega⟩
      · rw [ends_more h1 hc] at h ⊢
        obtain ⟨m, e, h2, h3, h4, h5, h6, h7, h8⟩ := ih (i + 1) (by omega) h
        exact ⟨m, e, by omega, h3, h4, h5, h6, h7, fun j hj hj' => by
          by_cases e : j = i
          · subst e; omega
          · exact h8 j (by omega) hj'⟩
    · rw [ends_stop h1] at h
      split at h <;> simp at h

theorem ends_err (s : ByteArray) (d : Nat) : ∀ i, i + d = 10 → (ends s i).2 ≠ 0 → (ends s i).1 = 0 ∧ ((ends s i).2 = 4 ∨ (ends s i).2 = 5) := by
  induction d with
  | zero =>
    intro i hi h
    rw [ends_stop (by omega)] at h ⊢
    split <;> simp
  | succ d ih =>
    intro i hi h
    by_cases h1 : i < s.size ∧ i < 10
    · by_cases hc : bt s (i : Int) < 128
      · rw [ends_last h1 hc] at h ⊢
        split at h
        · rename_i hn; rw [if_pos hn]; simp
        · simp at h
      · rw [ends_more h1 hc] at h ⊢
        exact ih (i + 1) (by omega) h
    · rw [ends_stop h1] at h ⊢
      split <;> simp

/-- The number that a text begins with, how many bytes; or the error's number. -/
def longS (s : ByteArray) : Int × Int × Int := if (ends s 0).2 = 0 then (val s (ends s 0).1.toNat, (ends s 0).1, 0) else (0, 0, (ends s 0).2)

theorem val_lt (s : ByteArray) (m : Nat) (h : m < 10) (h9 : m = 9 → bt s (m : Int) ≤ 1) (hc : bt s (m : Int) < 128) : 0 ≤ val s (m + 1) ∧ val s (m + 1) < 18446744073709551616 := by
  refine ⟨(val_range s (m + 1)).1, ?_⟩
  by_cases e : m = 9
  · subst e
    have h1 := val_range s 9
    have h2 := h9 rfl
    have h3 := btr s ((9 : Nat) : Int)
    simp only [val] at h1 ⊢
    have : (128 : Int) ^ 9 = 9223372036854775808 := by decide
    simp only [this] at h1 ⊢
    omega
  · have h1 := (val_range s (m + 1)).2
    have h2 : (128 : Int) ^ (m + 1) ≤ 128 ^ 9 := by
      have : (128 : Nat) ^ (m + 1) ≤ 128 ^ 9 := Nat.pow_le_pow_right (by decide) (by omega)
      exact_mod_cast this
    have : (128 : Int) ^ 9 = 9223372036854775808 := by decide
    omega

theorem longS_ok (s : ByteArray) (h : (longS s).2.2 = 0) : ∃ m : Nat, longS s = (val s (m + 1), ((m + 1 : Nat) : Int), 0) ∧ m < 10 ∧ m < s.size ∧ 0 ≤ val s (m + 1) ∧ val s (m + 1) < 18446744073709551616 ∧ bt s (m : Int) < 128 ∧ (0 < m → bt s (m : Int) ≠ 0) ∧ (∀ j : Nat, j < m → 128 ≤ bt s (j : Int)) := by
  unfold longS at h ⊢
  by_cases e : (ends s 0).2 = 0
  · obtain ⟨m, e1, _, h3, h4, h5, h6, h7, h8⟩ := ends_ok s 10 0 rfl e
    have hv := val_lt s m h3 h7 h5
    rw [if_pos e, e1]
    exact ⟨m, by simp, h3, h4, hv.1, hv.2, h5, h6, fun j hj => h8 j (Nat.zero_le _) hj⟩
  · rw [if_neg e] at h
    exact absurd h e
theorem longS_err (s : ByteArray) (h : (longS s).2.2 ≠ 0) : longS s = (0, 0, (longS s).2.2) ∧ ((longS s).2.2 = 4 ∨ (longS s).2.2 = 5) := by
  unfold longS at h ⊢
  by_cases e : (ends s 0).2 = 0
  · rw [if_pos e] at h
    exact absurd rfl h
  · rw [if_neg e]
    exact ⟨rfl, (ends_err s 10 0 rfl e).2⟩

theorem or_comm_u64 (x y : Int) : Go.bits .or .u64 x y = Go.bits .or .u64 y x := by
  unfold Go.bits
  simp only
  rw [BitVec.or_comm]

theorem wraps_u64 (n : Int) (h0 : 0 ≤ n) (h1 : n < 2 ^ 64) : IntKind.u64.wrap n = n := by
  simp only [IntKind.wrap, IntKind.bits, IntKind.signed]
  simp
  omega

theorem p128 (i : Nat) : (128 : Int) ^ i = 2 ^ (7 * i) := by
  rw [show (128 : Int) = 2 ^ 7 by decide, ← Int.pow_mul]

theorem or_shl (a c : Int) (i : Nat) (hi : i ≤ 9) (ha0 : 0 ≤ a) (ha : a < 128 ^ i) (hc0 : 0 ≤ c) (hc1 : c ≤ 255) (hcc : c % 128 * 128 ^ i < 18446744073709551616) :
    Go.bits .or .u64 a (shl .u64 (IntKind.u64.wrap (Go.bits .and .u8 c 127)) (wrap64 (7 * (i : Int)))) = a + c % 128 * 128 ^ i := by
  have hm : Go.bits .and .u8 c 127 = c % 128 := Go.bits_mask .u8 8 (by decide) Go.wraps_u8 7 (by decide) c hc0 (by omega)
  have hp := p128_pos i
  have h1 : 0 ≤ c % 128 := by omega
  have h3 : 0 ≤ c % 128 * 128 ^ i := Int.mul_nonneg h1 (Int.le_of_lt hp)
  have e64 : (2 : Int) ^ 64 = 18446744073709551616 := by decide
  have hw : wrap64 (7 * (i : Int)) = ((7 * i : Nat) : Int) := by unfold wrap64; omega
  have hs : shl .u64 (IntKind.u64.wrap (Go.bits .and .u8 c 127)) (wrap64 (7 * (i : Int))) = c % 128 * 128 ^ i := by
    unfold shl
    rw [hm, hw, wraps_u64 (c % 128) h1 (by omega)]
    have : min (((7 * i : Nat) : Int)).toNat (IntKind.bits .u64) = 7 * i := by simp [IntKind.bits]; omega
    rw [this, ← p128]
    exact wraps_u64 _ h3 (by omega)
  rw [hs, or_comm_u64]
  have hlt : a < 18446744073709551616 := by
    have h2 : (128 : Int) ^ i ≤ 128 ^ 9 := by
      have : (128 : Nat) ^ i ≤ 128 ^ 9 := Nat.pow_le_pow_right (by decide) hi
      exact_mod_cast this
    have : (128 : Int) ^ 9 = 9223372036854775808 := by decide
    omega
  rw [Go.bits_join .u64 64 (by decide) wraps_u64 (7 * i) (c % 128 * 128 ^ i) a h3 (by rw [p128]; exact Int.mul_emod_left _ _) (by omega) ha0 (by rw [← p128]; exact ha) (by omega)]
  omega

theorem long_stop (s : ByteArray) (a : Int) (i : Nat) (b : Bool) (hb : b = decide ((i : Int) < 10)) (h : ¬ (i < s.size ∧ i < 10)) :
    Ev (fun k => word_Long.l0 k s a (i : Int)) (0, 0, if s.size < 10 then 4 else 5) := by
  refine Ev.step (f := fun k => word_Long.j1 k s a (i : Int) false) (fun k => ?_) (Ev.step (f := fun _ => some (0, 0, if s.size < 10 then 4 else 5)) (fun k => ?_) (Ev.now _))
  · simp only [word_Long.l0]
    by_cases h1 : i < s.size
    · rw [if_pos (by omega), show decide ((i : Int) < 10) = false by simp; omega]
    · rw [if_neg (by omega)]
  · simp only [word_Long.j1]
    rw [if_neg (by decide)]
    by_cases h1 : s.size < 10
    · rw [if_pos (by omega), if_pos h1]
    · rw [if_neg (by omega), if_neg h1]

theorem long_l0 (s : ByteArray) (d : Nat) : ∀ i, i + d = 10 → ∀ a, (i ≤ 9 → a = val s i) →
    Ev (fun k => word_Long.l0 k s a (i : Int)) (if (ends s i).2 = 0 then (val s (ends s i).1.toNat, (ends s i).1, 0) else (0, 0, (ends s i).2)) := by
  induction d with
  | zero =>
    intro i hi a ha
    have := long_stop s a i _ rfl (by omega)
    rw [ends_stop (by omega)]
    by_cases h1 : s.size < 10
    · simpa [h1] using this
    · simpa [h1] using this
  | succ d ih =>
    intro i hi a ha
    by_cases h : i < s.size ∧ i < 10
    · have ha' := ha (by omega)
      have hb := btr s (i : Int)
      have hv := val_range s i
      have hw : wrap64 (7 * (i : Int)) = 7 * (i : Int) := by unfold wrap64; omega
      have hw1 : wrap64 ((i : Int) + 1) = ((i + 1 : Nat) : Int) := by unfold wrap64; omega
      by_cases hc : bt s (i : Int) < 128
      · -- the last one
        refine Ev.step (f := fun k => word_Long.j1 k s a (i : Int) true) (fun k => ?_) (Ev.step (f := fun _ => some (if (ends s i).2 = 0 then (val s (ends s i).1.toNat, (ends s i).1, 0) else (0, 0, (ends s i).2))) (fun k => ?_) (Ev.now _))
        · simp only [word_Long.l0]
          rw [if_pos (by omega), show decide ((i : Int) < 10) = true by simp; omega]
        · simp only [word_Long.j1]
          rw [if_pos (by trivial), if_pos (by omega), if_pos (by omega), if_pos (by rw [hw]; omega), if_neg (by omega), ends_last h hc, hw1]
          by_cases hbad : (0 < i ∧ bt s (i : Int) = 0) ∨ (i = 9 ∧ 1 < bt s (i : Int))
          · rw [if_pos hbad]
            simp only [if_neg (show ¬ ((5 : Int) = 0) by decide)]
            rcases hbad with ⟨h0, h1⟩ | ⟨h0, h1⟩
            · rw [if_pos (by omega), if_pos h1]
            · rw [if_pos (by omega), if_neg (by omega), if_pos (by omega), if_pos (by omega)]
          · rw [if_neg hbad]
            simp only [if_true]
            have hval : Go.bits .or .u64 a (shl .u64 (IntKind.u64.wrap (Go.bits .and .u8 (bt s (i : Int)) 127)) (wrap64 (7 * (i : Int)))) = val s (((i + 1 : Nat) : Int)).toNat := by
              have hlt := val_lt s i (by omega) (fun e => by
                by_cases h : 1 < bt s (i : Int)
                · exact absurd (.inr ⟨e, h⟩) hbad
                · omega) hc
              have : (((i + 1 : Nat) : Int)).toNat = i + 1 := by omega
              rw [this]
              simp only [val] at hlt ⊢
              rw [or_shl a _ i (by omega) (by omega) (by omega) hb.1 hb.2 (by omega), ha']
            rw [hval]
            by_cases h0 : i = 0
            · rw [if_neg (by omega), if_neg (by omega)]
            · have hn0 : ¬ bt s (i : Int) = 0 := fun e => hbad (.inl ⟨by omega, e⟩)
              rw [if_pos (by omega), if_neg hn0]
              by_cases h9 : i = 9
              · have hn9 : ¬ bt s (i : Int) > 1 := fun e => hbad (.inr ⟨h9, e⟩)
                rw [if_pos (by omega), if_neg hn9]
              · rw [if_neg (by omega)]
      · -- one more
        rw [ends_more h hc]
        refine Ev.step (f := fun k => word_Long.j1 k s a (i : Int) true) (fun k => ?_) (Ev.step (f := fun k => word_Long.l0 k s (Go.bits .or .u64 a (shl .u64 (IntKind.u64.wrap (Go.bits .and .u8 (bt s (i : Int)) 127)) (wrap64 (7 * (i : Int))))) ((i + 1 : Nat) : Int)) (fun k => ?_) (ih (i + 1) (by omega) _ (fun h9 => ?_)))
        · simp only [word_Long.l0]
          rw [if_pos (by omega), show decide ((i : Int) < 10) = true by simp; omega]
        · simp only [word_Long.j1]
          rw [if_pos (by trivial), if_pos (by omega), if_pos (by omega), if_pos (by rw [hw]; omega), if_pos (by omega), hw1]
        · have h2 := (val_range s (i + 1)).2
          have h3 : (128 : Int) ^ (i + 1) ≤ 128 ^ 9 := by
            have : (128 : Nat) ^ (i + 1) ≤ 128 ^ 9 := Nat.pow_le_pow_right (by decide) (by omega)
            exact_mod_cast this
          have : (128 : Int) ^ 9 = 9223372036854775808 := by decide
          simp only [val] at h2 ⊢
          rw [or_shl a _ i (by omega) (by omega) (by omega) hb.1 hb.2 (by omega), ha']
    · have := long_stop s a i _ rfl h
      rw [ends_stop h]
      by_cases h1 : s.size < 10
      · simpa [h1] using this
      · simpa [h1] using this

theorem word_Long_ev (s : ByteArray) : Ev (fun k => word_Long.f k s) (longS s) := by
  have := long_l0 s 10 0 rfl 0 (fun _ => rfl)
  simpa [word_Long.f, longS] using this

/- piece reflong -/
theorem refEnds_stop (s : ByteArray) (i : Nat) (h : ¬ (i < s.size ∧ i < 10)) :
    Ev (fun k => haulageref01_Ends.l0 k s (i : Int)) (0, if s.size < 10 then 4 else 5) := by
  refine Ev.step (f := fun k => haulageref01_Ends.j1 k s (i : Int) false) (fun k => ?_) (Ev.step (f := fun _ => some (0, if s.size < 10 then 4 else 5)) (fun k => ?_) (Ev.now _))
  · simp only [haulageref01_Ends.l0]
    by_cases h1 : i < s.size
    · rw [if_pos (by omega), show decide ((i : Int) < 10) = false by simp; omega]
    · rw [if_neg (by omega)]
  · simp only [haulageref01_Ends.j1]
    rw [if_neg (by decide)]
    by_cases h1 : s.size < 10
    · rw [if_pos (by omega), if_pos h1]
    · rw [if_neg (by omega), if_neg h1]

theorem refEnds_l0 (s : ByteArray) (d : Nat) : ∀ i, i + d = 10 → Ev (fun k => haulageref01_Ends.l0 k s (i : Int)) (ends s i) := by
  induction d with
  | zero =>
    intro i hi
    have := refEnds_stop s i (by omega)
    rw [ends_stop (by omega)]
    by_cases h1 : s.size < 10
    · simpa [h1] using this
    · simpa [h1] using this
  | succ d ih =>
    intro i hi
    by_cases h : i < s.size ∧ i < 10
    · have hb := btr s (i : Int)
      have hw1 : wrap64 ((i : Int) + 1) = ((i + 1 : Nat) : Int) := by unfold wrap64; omega
      by_cases hc : bt s (i : Int) < 128
      · refine Ev.step (f := fun k => haulageref01_Ends.j1 k s (i : Int) true) (fun k => ?_) (Ev.step (f := fun _ => some (ends s i)) (fun k => ?_) (Ev.now _))
        · simp only [haulageref01_Ends.l0]
          rw [if_pos (by omega), show decide ((i : Int) < 10) = true by simp; omega]
        · simp only [haulageref01_Ends.j1]
          rw [if_pos (by trivial), if_pos (by omega), if_pos (by omega), if_pos hc, ends_last h hc, hw1]
          by_cases hbad : (0 < i ∧ bt s (i : Int) = 0) ∨ (i = 9 ∧ 1 < bt s (i : Int))
          · rw [if_pos hbad]
            rcases hbad with ⟨h0, h1⟩ | ⟨h0, h1⟩
            · rw [if_pos (by omega), if_pos h1]
            · rw [if_pos (by omega), if_neg (by omega), if_pos (by omega), if_pos (by omega)]
          · rw [if_neg hbad]
            by_cases h0 : i = 0
            · rw [if_neg (by omega), if_neg (by omega)]
            · have hn0 : ¬ bt s (i : Int) = 0 := fun e => hbad (.inl ⟨by omega, e⟩)
              rw [if_pos (by omega), if_neg hn0]
              by_cases h9 : i = 9
              · have hn9 : ¬ bt s (i : Int) > 1 := fun e => hbad (.inr ⟨h9, e⟩)
                rw [if_pos (by omega), if_neg hn9]
              · rw [if_neg (by omega)]
      · rw [ends_more h hc]
        refine Ev.step (f := fun k => haulageref01_Ends.j1 k s (i : Int) true) (fun k => ?_) (Ev.step (f := fun k => haulageref01_Ends.l0 k s ((i + 1 : Nat) : Int)) (fun k => ?_) (ih (i + 1) (by omega)))
        · simp only [haulageref01_Ends.l0]
          rw [if_pos (by omega), show decide ((i : Int) < 10) = true by simp; omega]
        · simp only [haulageref01_Ends.j1]
          rw [if_pos (by trivial), if_pos (by omega), if_pos (by omega), if_neg hc, hw1]
    · have := refEnds_stop s i h
      rw [ends_stop h]
      by_cases h1 : s.size < 10
      · simpa [h1] using this
      · simpa [h1] using this

theorem refLong_l0 (s : ByteArray) (size : Int) (V : Int) (hV : V < 18446744073709551616) (i : Nat) : i ≤ s.size → i ≤ 10 → ∀ n : Int, 0 ≤ n → val s i + n * 128 ^ i = V →
    Ev (fun k => haulageref01_Long.l0 k s size n ((i : Int) - 1)) (V, size, 0) := by
  induction i with
  | zero =>
    intro _ _ n hn h
    refine Ev.step (f := fun _ => some (V, size, 0)) (fun k => ?_) (Ev.now _)
    simp only [haulageref01_Long.l0]
    simp only [val] at h
    rw [if_neg (by omega), show n = V by omega]
  | succ i ih =>
    intro hs h10 n hn h
    have hb := btr s (i : Int)
    have hp := p128_pos i
    have e1 : (((i + 1 : Nat) : Int) - 1) = (i : Int) := by omega
    rw [e1]
    have h1 : 0 ≤ bt s (i : Int) % 128 := by omega
    have hn' : val s i + (n * 128 + bt s (i : Int) % 128) * 128 ^ i = V := by
      rw [← h]
      simp only [val, Int.pow_succ, Int.add_mul, Int.mul_assoc]
      rw [Int.mul_comm 128 (128 ^ i)]
      omega
    have hle : (n * 128 + bt s (i : Int) % 128) ≤ (n * 128 + bt s (i : Int) % 128) * 128 ^ i := by
      have : (n * 128 + bt s (i : Int) % 128) * 1 ≤ (n * 128 + bt s (i : Int) % 128) * 128 ^ i := Int.mul_le_mul_of_nonneg_left (by omega) (by omega)
      omega
    have hv := val_range s i
    refine Ev.step (f := fun k => haulageref01_Long.l0 k s size (n * 128 + bt s (i : Int) % 128) ((i : Int) - 1)) (fun k => ?_) (ih (by omega) (by omega) _ (by omega) hn')
    simp only [haulageref01_Long.l0]
    rw [if_pos (by omega), if_pos (by omega), if_pos (by omega), tmod_nonneg_eq _ _ (by omega), u64_id (n * 128) (by omega) (by omega), u64_id (bt s (i : Int) % 128) (by omega) (by omega), u64_id (n * 128 + bt s (i : Int) % 128) (by omega) (by omega),
      show wrap64 ((i : Int) - 1) = (i : Int) - 1 by unfold wrap64; omega]

theorem refLong_ev (s : ByteArray) : Ev (fun k => haulageref01_Long.f k s) (longS s) := by
  unfold haulageref01_Long.f
  have he : Ev (fun k => haulageref01_Ends.f k s) (ends s 0) := by simpa [haulageref01_Ends.f] using refEnds_l0 s 10 0 rfl
  refine Ev.bind he ?_
  unfold longS
  by_cases e : (ends s 0).2 = 0
  · obtain ⟨m, e1, _, h3, h4, h5, h6, h7, h8⟩ := ends_ok s 10 0 rfl e
    have hv := val_lt s m h3 h7 h5
    have := refLong_l0 s (ends s 0).1 (val s (m + 1)) hv.2 (m + 1) (by omega) (by omega) 0 (by omega) (by omega)
    rw [if_pos e]
    refine Ev.congr (f := fun k => haulageref01_Long.l0 k s (ends s 0).1 0 (((m + 1 : Nat) : Int) - 1)) (fun k => ?_) ?_
    · rw [if_pos e, e1, show wrap64 (((m + 1 : Nat) : Int) - 1) = ((m + 1 : Nat) : Int) - 1 by unfold wrap64; omega]
    · rw [e1] at this ⊢
      simpa using this
  · rw [if_neg e]
    refine Ev.congr (f := fun _ => some (0, 0, (ends s 0).2)) (fun k => ?_) (Ev.now _)
    rw [if_neg e]

/- piece all -/
/-- All numbers of a text, behind those that were read; or the error's number. -/
def allF : Nat → ByteArray → List Int → List Int × Int
  | 0, _, acc => (acc, 0)
  | d + 1, s, acc => if s.size = 0 then (acc, 0) else if (longS s).2.2 = 0 then allF d (s.extract (longS s).2.1.toNat s.size) (acc ++ [(longS s).1]) else ([], (longS s).2.2)

theorem toList_nil (s : ByteArray) : s.toList = ([] : List UInt8) ↔ s.size = 0 := by
  rw [ByteArray.toList_eq, ← List.length_eq_zero_iff, Array.length_toList]
  exact Iff.rfl

theorem cut_size (s : ByteArray) (a : Nat) (h : a ≤ s.size) : (s.extract a s.size).size = s.size - a := by
  rw [ByteArray.size_extract]; omega

theorem word_All_l0 (d : Nat) : ∀ (s : ByteArray) (acc : List Int), s.size ≤ d → acc.length + s.size < 17592186044416 → Ev (fun k => word_All.l0 k s acc) (allF d s acc) := by
  induction d with
  | zero =>
    intro s acc hs _
    refine Ev.step (f := fun _ => some (acc, 0)) (fun k => ?_) (Ev.now _)
    simp only [word_All.l0]
    rw [if_pos ((toList_nil s).2 (by omega))]
  | succ d ih =>
    intro s acc hs hb
    by_cases h0 : s.size = 0
    · refine Ev.step (f := fun _ => some (acc, 0)) (fun k => ?_) ?_
      · simp only [word_All.l0]
        rw [if_pos ((toList_nil s).2 h0)]
      · simp only [allF]
        rw [if_pos h0]
        exact Ev.now _
    · simp only [allF]
      rw [if_neg h0]
      refine Ev.step (f := fun k => _) (fun k => ?_) (Ev.bind (f := fun k bt116 => (if bt116.2.2 = 0 then (if acc.length < 17592186044416 then (if 0 ≤ bt116.2.1 then (if bt116.2.1 ≤ (s.size : Int) then (word_All.l0 k (s.extract (bt116.2.1 : Int).toNat s.size) (acc ++ [bt116.1])) else (none)) else (none)) else (none)) else (some (([] : List Int), bt116.2.2)))) (word_Long_ev s) ?_)
      · simp only [word_All.l0]
        rw [if_neg (fun h => h0 ((toList_nil s).1 h))]
      · by_cases e : (longS s).2.2 = 0
        · obtain ⟨m, e1, h10, hm, hv0, hv1, _⟩ := longS_ok s e
          have e2 : (longS s).2.1 = ((m + 1 : Nat) : Int) := by rw [e1]
          rw [if_pos e]
          have e3 : (longS s).2.1.toNat = m + 1 := by rw [e2]; omega
          have hz := cut_size s (m + 1) (by omega)
          rw [e3]
          refine Ev.congr (fun k => ?_) (ih (s.extract (m + 1) s.size) (acc ++ [(longS s).1]) (by omega) (by simp only [List.length_append, List.length_cons, List.length_nil]; omega))
          rw [if_pos e, if_pos (by omega), if_pos (by omega), if_pos (by omega)]
        · rw [if_neg e]
          refine Ev.congr (f := fun _ => some ([], (longS s).2.2)) (fun k => ?_) (Ev.now _)
          rw [if_neg e]

theorem word_All_ev (s : ByteArray) (hs : s.size ≤ 1000000000) : Ev (fun k => word_All.f k s) (allF s.size s []) := by
  have := word_All_l0 s.size s [] (Nat.le_refl _) (by simp; omega)
  simpa [word_All.f] using this

/- piece refall -/
theorem refAll_l0 (d : Nat) : ∀ (s : ByteArray) (acc : List Int), s.size ≤ d → acc.length + s.size < 17592186044416 → Ev (fun k => haulageref01_All.l0 k s acc) (allF d s acc) := by
  induction d with
  | zero =>
    intro s acc hs _
    refine Ev.step (f := fun _ => some (acc, 0)) (fun k => ?_) (Ev.now _)
    simp only [haulageref01_All.l0]
    rw [if_pos ((toList_nil s).2 (by omega))]
  | succ d ih =>
    intro s acc hs hb
    by_cases h0 : s.size = 0
    · refine Ev.step (f := fun _ => some (acc, 0)) (fun k => ?_) ?_
      · simp only [haulageref01_All.l0]
        rw [if_pos ((toList_nil s).2 h0)]
      · simp only [allF]
        rw [if_pos h0]
        exact Ev.now _
    · simp only [allF]
      rw [if_neg h0]
      refine Ev.step (f := fun k => _) (fun k => ?_) (Ev.bind (f := fun k bt116 => (if bt116.2.2 = 0 then (if acc.length < 17592186044416 then (if 0 ≤ bt116.2.1 then (if bt116.2.1 ≤ (s.size : Int) then (haulageref01_All.l0 k (s.extract (bt116.2.1 : Int).toNat s.size) (acc ++ [bt116.1])) else (none)) else (none)) else (none)) else (some (([] : List Int), bt116.2.2)))) (refLong_ev s) ?_)
      · simp only [haulageref01_All.l0]
        rw [if_neg (fun h => h0 ((toList_nil s).1 h))]
      · by_cases e : (longS s).2.2 = 0
        · obtain ⟨m, e1, h10, hm, hv0, hv1, _⟩ := longS_ok s e
          have e2 : (longS s).2.1 = ((m + 1 : Nat) : Int) := by rw [e1]
          rw [if_pos e]
          have e3 : (longS s).2.1.toNat = m + 1 := by rw [e2]; omega
          have hz := cut_size s (m + 1) (by omega)
          rw [e3]
          refine Ev.congr (fun k => ?_) (ih (s.extract (m + 1) s.size) (acc ++ [(longS s).1]) (by omega) (by simp only [List.length_append, List.length_cons, List.length_nil]; omega))
          rw [if_pos e, if_pos (by omega), if_pos (by omega), if_pos (by omega)]
        · rw [if_neg e]
          refine Ev.congr (f := fun _ => some ([], (longS s).2.2)) (fun k => ?_) (Ev.now _)
          rw [if_neg e]

theorem refAll_ev (s : ByteArray) (hs : s.size ≤ 1000000000) : Ev (fun k => haulageref01_All.f k s) (allF s.size s []) := by
  have := refAll_l0 s.size s [] (Nat.le_refl _) (by simp; omega)
  simpa [haulageref01_All.f] using this

/- piece same -/
theorem refSame_l0 (l : List Int) (hl : l.length ≤ 1000000000000) (d : Nat) : ∀ i, i + d = l.length → Ev (fun k => haulageref01_Same.l0 k l l (i : Int)) true := by
  induction d with
  | zero =>
    intro i hi
    refine Ev.step (f := fun _ => some true) (fun k => ?_) (Ev.now _)
    simp only [haulageref01_Same.l0]
    rw [if_neg (by omega)]
  | succ d ih =>
    intro i hi
    refine Ev.step (f := fun k => haulageref01_Same.l0 k l l ((i + 1 : Nat) : Int)) (fun k => ?_) (ih (i + 1) (by omega))
    simp only [haulageref01_Same.l0]
    rw [if_pos (by omega), if_pos (by omega), if_pos (by omega), if_pos (by trivial), show wrap64 ((i : Int) + 1) = ((i + 1 : Nat) : Int) by unfold wrap64; omega]

theorem refSame_ev (l : List Int) (hl : l.length ≤ 1000000000000) : Ev (fun k => haulageref01_Same.f k l l) true := by
  refine Ev.congr (fun k => ?_) (refSame_l0 l hl l.length 0 (by omega))
  unfold haulageref01_Same.f
  rw [if_pos rfl]
  rfl

theorem allF_len (d : Nat) : ∀ (s : ByteArray) (acc : List Int), (allF d s acc).1.length ≤ acc.length + d := by
  induction d with
  | zero => intro s acc; simp [allF]
  | succ d ih =>
    intro s acc
    simp only [allF]
    split
    · simp
    · split
      · have := ih (s.extract (longS s).2.1.toNat s.size) (acc ++ [(longS s).1])
        simp only [List.length_append, List.length_cons, List.length_nil] at this
        omega
      · simp

theorem WordLong : haulagelaw01_WordLong.Pure := by
  intro s hs
  refine Ev.rounds (r := true) ?_
  unfold haulagelaw01_WordLong.f
  refine Ev.bind (f := fun k t130 => _) lives_ev ?_
  by_cases h : (s.size : Int) > 200
  · refine Ev.congr (f := fun _ => some true) (fun k => ?_) (Ev.now _)
    rw [if_pos rfl, if_pos h]
  · refine Ev.congr (fun k => by rw [if_pos rfl, if_neg h]) ?_
    refine Ev.bind (f := fun k bt131 => _) (word_Long_ev s) ?_
    refine Ev.bind (f := fun k bt134 => _) (refLong_ev s) ?_
    refine Ev.bind (f := fun k bt137 => _) (word_All_ev s (by omega)) ?_
    refine Ev.bind (f := fun k bt141 => _) (refAll_ev s (by omega)) ?_
    refine Ev.congr (fun k => by rw [if_pos rfl, if_pos rfl, if_pos rfl]) ?_
    have hlen := allF_len s.size s []
    refine Ev.bind (f := fun k t145 => _) (refSame_ev _ (by simp only [List.length_nil] at hlen; omega)) ?_
    refine Ev.congr (f := fun _ => some true) (fun k => ?_) (Ev.now _)
    rw [if_pos rfl]
    simp

end Go.Proofs.Ytjkjpjbohiggaaa.Pure

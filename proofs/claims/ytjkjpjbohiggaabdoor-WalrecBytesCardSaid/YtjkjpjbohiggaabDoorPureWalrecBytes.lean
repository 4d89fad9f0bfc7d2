/- For every record and every text: whether it is right, its bytes, and the record of any text, or why none, are what the reference says; no condition but that the table holds what the program's text lays in it. -/
import Derived.Test.YtjkjpjbohiggaabDoorHWalrecBytesx9
set_option linter.unusedVariables false
set_option linter.unusedSimpArgs false
namespace Go.Proofs.YtjkjpjbohiggaabDoor.Pure
open Go.RowKit Go.Proofs.YtjkjpjbohiggaabDoor.HWalrecBytes Go.Proofs.YtjkjpjbohiggaabDoorW.PrintWords Go.Proofs.YtjkjpjbohiggaabDoorW.PrintLast Go.Proofs.YtjkjpjbohiggaabDoorW.PrintMore
/- piece base -/
theorem tmod_nonneg_eq (a b : Int) (ha : 0 ≤ a) : Int.tmod a b = a % b := Int.tmod_eq_emod_of_nonneg ha
theorem tdiv_nonneg_eq (a b : Int) (ha : 0 ≤ a) : Int.tdiv a b = a / b := Int.tdiv_eq_ediv_of_nonneg ha
theorem u64_id (n : Int) (h0 : 0 ≤ n) (h1 : n < 18446744073709551616) : IntKind.u64.wrap n = n := by
  simp only [IntKind.wrap, IntKind.bits, IntKind.signed]
  simp
  omega

theorem i64_eq (n : Int) : IntKind.i64.wrap n = wrap64 n := by unfold wrap64; exact Go.IntKind.wrap_i64 n
theorem u64_eq (n : Int) : IntKind.u64.wrap n = n % 18446744073709551616 := by simp [IntKind.wrap, IntKind.bits, IntKind.signed]

theorem wf_parts {k : IntKind} {x : Int} (h : (Lit.int k x).wf = true) : k.min ≤ x ∧ x ≤ k.max := by
  unfold Lit.wf at h
  rw [Bool.and_eq_true, decide_eq_true_eq, decide_eq_true_eq] at h
  exact h
theorem wf_i64 {x : Int} (h : (Lit.int .i64 x).wf = true) : -9223372036854775808 ≤ x ∧ x ≤ 9223372036854775807 := by
  have := wf_parts h
  rw [show IntKind.min .i64 = -9223372036854775808 by decide, show IntKind.max .i64 = 9223372036854775807 by decide] at this
  exact this
theorem wf_u64 {x : Int} (h : (Lit.int .u64 x).wf = true) : 0 ≤ x ∧ x ≤ 18446744073709551615 := by
  have := wf_parts h
  rw [show IntKind.min .u64 = 0 by decide, show IntKind.max .u64 = 18446744073709551615 by decide] at this
  exact this
theorem wf_u32 {x : Int} (h : (Lit.int .u32 x).wf = true) : 0 ≤ x ∧ x ≤ 4294967295 := by
  have := wf_parts h
  rw [show IntKind.min .u32 = 0 by decide, show IntKind.max .u32 = 4294967295 by decide] at this
  exact this
theorem wf_u16 {x : Int} (h : (Lit.int .u16 x).wf = true) : 0 ≤ x ∧ x ≤ 65535 := by
  have := wf_parts h
  rw [show IntKind.min .u16 = 0 by decide, show IntKind.max .u16 = 65535 by decide] at this
  exact this
theorem wf_u8 {x : Int} (h : (Lit.int .u8 x).wf = true) : 0 ≤ x ∧ x ≤ 255 := by
  have := wf_parts h
  rw [show IntKind.min .u8 = 0 by decide, show IntKind.max .u8 = 255 by decide] at this
  exact this

/- piece byt -/
/-! ### a text as a list of numbers -/
def byt (s : ByteArray) : List Int := s.data.toList.map fun c => (c.toNat : Int)
/-- All are bytes. -/
def Bytes (l : List Int) : Prop := ∀ x ∈ l, 0 ≤ x ∧ x ≤ 255

theorem byt_len (s : ByteArray) : (byt s).length = s.size := by
  unfold byt
  rw [List.length_map, Array.length_toList]
  rfl
theorem byt_bytes (s : ByteArray) : Bytes (byt s) := by
  intro x hx
  obtain ⟨c, _, rfl⟩ := List.mem_map.1 hx
  have := c.toNat_lt
  omega
theorem str_byt (s : ByteArray) : strOfNums (byt s) = s := by
  apply ByteArray.ext
  unfold strOfNums byt
  rw [List.map_map]
  have : ((fun n : Int => UInt8.ofNat n.toNat) ∘ fun c : UInt8 => (c.toNat : Int)) = id := by
    funext c
    simp
  rw [this]
  simp
theorem byt_str {l : List Int} (h : Bytes l) : byt (strOfNums l) = l := by
  unfold strOfNums byt
  rw [List.toList_toArray, List.map_map]
  have : ∀ x ∈ l, ((fun c : UInt8 => (c.toNat : Int)) ∘ fun n : Int => UInt8.ofNat n.toNat) x = x := by
    intro x hx
    have := h x hx
    simp only [Function.comp]
    rw [UInt8.toNat_ofNat', Nat.mod_eq_of_lt (by omega)]
    omega
  rw [List.map_congr_left this]
  simp
theorem byt_append (a b : ByteArray) : byt (a ++ b) = byt a ++ byt b := by
  unfold byt
  rw [show (a ++ b).data.toList = a.data.toList ++ b.data.toList by simp, List.map_append]
theorem byt_inj {a b : ByteArray} (h : byt a = byt b) : a = b := by rw [← str_byt a, h, str_byt]
theorem byt_extract (s : ByteArray) (a b : Nat) : byt (s.extract a b) = ((byt s).drop a).take (b - a) := by
  unfold byt
  rw [show (s.extract a b).data.toList = (s.data.toList.drop a).take (b - a) by simp [ByteArray.data_extract, Array.toList_extract, List.extract_eq_take_drop], List.map_take, List.map_drop]
theorem byt_cut (s : ByteArray) (a : Nat) : byt (s.extract a s.size) = (byt s).drop a := by
  rw [byt_extract, ← byt_len, List.take_of_length_le (by simp)]
theorem byt_to (s : ByteArray) (b : Nat) : byt (s.extract 0 b) = (byt s).take b := by
  rw [byt_extract]; simp
theorem bt_byt (s : ByteArray) (i : Nat) (h : i < s.size) : bt s (i : Int) = (byt s)[i]'(by rw [byt_len]; exact h) := by
  unfold bt byt
  simp [h]
  rfl
theorem Bytes.append {a b : List Int} (h : Bytes a) (k : Bytes b) : Bytes (a ++ b) := by
  intro x hx
  rcases List.mem_append.1 hx with h1 | h1
  · exact h x h1
  · exact k x h1
theorem Bytes.take {a : List Int} (h : Bytes a) (n : Nat) : Bytes (a.take n) := fun x hx => h x (List.mem_of_mem_take hx)
theorem Bytes.drop {a : List Int} (h : Bytes a) (n : Nat) : Bytes (a.drop n) := fun x hx => h x (List.mem_of_mem_drop hx)
theorem toList_eq_iff (a b : ByteArray) : a.toList = b.toList ↔ a = b := by
  rw [ByteArray.toList_eq, ByteArray.toList_eq]
  exact ⟨fun h => ByteArray.ext (Array.toList_inj.1 h), fun h => by rw [h]⟩
theorem beq_toList (a b : ByteArray) : (a.toList == b.toList) = decide (a = b) := by
  rw [Bool.eq_iff_iff, beq_iff_eq, decide_eq_true_iff, toList_eq_iff]

/- piece short -/
/-! ### short bytes -/
/-- The short bytes of a number. -/
def sb (n : Nat) : List Int := if n < 128 then [(n : Int)] else (((n % 128 + 128 : Nat) : Int)) :: sb (n / 128)
termination_by n
decreasing_by omega

theorem sb_small {n : Nat} (h : n < 128) : sb n = [(n : Int)] := by rw [sb, if_pos h]
theorem sb_big {n : Nat} (h : ¬ n < 128) : sb n = (((n % 128 + 128 : Nat) : Int)) :: sb (n / 128) := by rw [sb, if_neg h]

theorem sb_len (m : Nat) : ∀ n, n < 128 ^ (m + 1) → (sb n).length ≤ m + 1 := by
  induction m with
  | zero => intro n h; rw [sb_small (by simpa using h)]; simp
  | succ m ih =>
    intro n h
    by_cases h1 : n < 128
    · rw [sb_small h1]; simp
    · rw [sb_big h1]
      have : n / 128 < 128 ^ (m + 1) := by
        rw [Nat.div_lt_iff_lt_mul (by decide)]
        rw [Nat.pow_succ] at h
        exact h
      have := ih _ this
      simp only [List.length_cons]
      omega

theorem sb_len10 {n : Nat} (h : n < 18446744073709551616) : (sb n).length ≤ 10 := sb_len 9 n (Nat.lt_of_lt_of_le h (by decide))
theorem sb_pos (n : Nat) : 0 < (sb n).length := by
  by_cases h : n < 128
  · rw [sb_small h]; simp
  · rw [sb_big h]; simp

theorem or128_fin : ∀ a : Fin 256, (a.val ||| 128) = a.val % 128 + 128 := by decide +kernel

theorem or128 (x : Int) (h : 0 ≤ x) : Go.bits .or .u8 (x % 256) 128 = x % 128 + 128 := by
  obtain ⟨n, rfl⟩ := Int.eq_ofNat_of_zero_le h
  have e : ((n : Int) % 256) = ((n % 256 : Nat) : Int) := by omega
  have := (Go.bits_nat .u8 8 (by decide) Go.wraps_u8 (n % 256) 128 (by omega) (by decide)).2
  rw [e]
  refine this.trans ?_
  have h2 := or128_fin ⟨n % 256, by omega⟩
  simp only at h2
  rw [h2]
  omega

theorem short_l1 (l : List Int) (len i : Int) (r : ByteArray) (n : Nat) : ∀ acc : List Int, acc.length + (sb n).length ≤ 140737488355328 →
    Ev (fun k => word_Short.l0 k (acc ++ sb n) l len (wrap64 (i + 1))) r → Ev (fun k => word_Short.l1 k acc (n : Int) l len i) r := by
  induction n using Nat.strongRecOn with
  | _ n ih =>
    intro acc hb hk
    by_cases h : n < 128
    · rw [sb_small h] at hb hk
      simp only [List.length_cons, List.length_nil] at hb
      refine Ev.step (f := fun k => word_Short.l0 k (acc ++ [(n : Int)]) l len (wrap64 (i + 1))) (fun k => ?_) hk
      simp only [word_Short.l1]
      rw [if_neg (by omega), if_pos (by omega), show ((n : Int) % 256) = n by omega]
    · rw [sb_big h] at hb hk
      simp only [List.length_cons] at hb
      refine Ev.step (f := fun k => word_Short.l1 k (acc ++ [((n % 128 + 128 : Nat) : Int)]) ((n / 128 : Nat) : Int) l len i) (fun k => ?_) (ih (n / 128) (by omega) _ (by simp only [List.length_append, List.length_cons, List.length_nil]; omega) ?_)
      · simp only [word_Short.l1]
        rw [if_pos (by omega), if_pos (by omega), or128 _ (by omega), show ((n : Int) % 128 + 128) = ((n % 128 + 128 : Nat) : Int) by omega, show ((n : Int) / 128) = ((n / 128 : Nat) : Int) by omega]
      · rw [List.append_assoc]; exact hk

/-- The short bytes of several. -/
def sbs (l : List Int) : List Int := l.flatMap fun x => sb x.toNat

theorem sbs_cons (x : Int) (l : List Int) : sbs (x :: l) = sb x.toNat ++ sbs l := by simp [sbs]
theorem sbs_len (l : List Int) (h : ∀ x ∈ l, 0 ≤ x ∧ x < 18446744073709551616) : (sbs l).length ≤ 10 * l.length := by
  induction l with
  | nil => simp [sbs]
  | cons x l ih =>
    have := ih (fun y hy => h y (by simp [hy]))
    have h1 := h x (by simp)
    have := sb_len10 (n := x.toNat) (by omega)
    rw [sbs_cons]
    simp only [List.length_append, List.length_cons]
    omega

theorem rd_at (l : List Int) (i : Nat) (h : i < l.length) : rd l (i : Int) = l[i] := by
  simp [rd, h]

theorem short_l0 (l : List Int) (hl : l.length ≤ 1000000000000) (hr : ∀ x ∈ l, 0 ≤ x ∧ x < 18446744073709551616) (d : Nat) : ∀ (i : Nat) (acc : List Int), l.length = i + d → acc.length ≤ 10 * i →
    Ev (fun k => word_Short.l0 k acc l (l.length : Int) (i : Int)) (strOfNums (acc ++ sbs (l.drop i))) := by
  induction d with
  | zero =>
    intro i acc hi ha
    refine Ev.step (f := fun _ => some (strOfNums acc)) (fun k => ?_) ?_
    · simp only [word_Short.l0]
      rw [if_neg (by omega)]
    · rw [show l.drop i = [] from List.drop_eq_nil_of_le (by omega)]
      simpa [sbs] using Ev.now (strOfNums acc)
  | succ d ih =>
    intro i acc hi ha
    have hlt : i < l.length := by omega
    have hx := hr l[i] (List.getElem_mem hlt)
    have h10 := sb_len10 (n := l[i].toNat) (by omega)
    refine Ev.step (f := fun k => word_Short.l1 k acc ((l[i].toNat : Nat) : Int) l (l.length : Int) (i : Int)) (fun k => ?_) ?_
    · simp only [word_Short.l0]
      rw [if_pos (by omega), if_pos (by omega), if_pos (by omega), rd_at l i hlt, show ((l[i].toNat : Nat) : Int) = l[i] by omega]
    · refine short_l1 l _ _ _ _ _ (by omega) ?_
      have := ih (i + 1) (acc ++ sb l[i].toNat) (by omega) (by simp only [List.length_append]; omega)
      rw [show l.drop i = l[i] :: l.drop (i + 1) from List.drop_eq_getElem_cons hlt, sbs_cons, ← List.append_assoc]
      rw [show wrap64 ((i : Int) + 1) = ((i + 1 : Nat) : Int) by unfold wrap64; omega]
      exact this

theorem word_Short_ev (l : List Int) (hl : l.length ≤ 1000000000000) (hr : ∀ x ∈ l, 0 ≤ x ∧ x < 18446744073709551616) :
    Ev (fun k => word_Short.f k l) (strOfNums (sbs l)) := by
  have := short_l0 l hl hr l.length 0 [] (by omega) (by simp)
  simpa [word_Short.f] using this

theorem strOfNums_append (a b : List Int) : strOfNums (a ++ b) = strOfNums a ++ strOfNums b := by
  apply ByteArray.ext
  simp [strOfNums]
theorem strOfNums_size (a : List Int) : (strOfNums a).size = a.length := by simp [strOfNums, ByteArray.size]


/- piece refword -/
theorem refOne_ev (n : Nat) : n < 18446744073709551616 → Ev (fun k => haulageref01_One.f k (n : Int)) (strOfNums (sb n)) := by
  induction n using Nat.strongRecOn with
  | _ n ih =>
    intro hn
    by_cases h : n < 128
    · rw [sb_small h]
      refine Ev.step (f := fun _ => some (strOfNums [(n : Int)])) (fun k => ?_) (Ev.now _)
      simp only [haulageref01_One.f]
      rw [if_pos (by omega), show ((n : Int) % 256) = n by omega]
    · rw [sb_big h]
      refine Ev.step (f := fun k => (haulageref01_One.f k ((n / 128 : Nat) : Int)).bind fun t => if (strOfNums [((n % 128 + 128 : Nat) : Int)]).size + t.size ≤ 9223372036854775807 then some (strOfNums [((n % 128 + 128 : Nat) : Int)] ++ t) else none) (fun k => ?_) ?_
      · simp only [haulageref01_One.f, Option.bind_some]
        rw [if_neg (by omega), tmod_nonneg_eq _ _ (by omega), tdiv_nonneg_eq _ _ (by omega), u64_id _ (by omega) (by omega), u64_id _ (by omega) (by omega),
          show (((n : Int) % 128 + 128) % 256) = ((n % 128 + 128 : Nat) : Int) by omega, show ((n : Int) / 128) = ((n / 128 : Nat) : Int) by omega]
      · refine Ev.bind (ih (n / 128) (by omega) (by omega)) ?_
        have := sb_len10 (n := n / 128) (by omega)
        rw [if_pos (by rw [strOfNums_size, strOfNums_size]; simp only [List.length_cons, List.length_nil]; omega)]
        rw [← strOfNums_append]
        exact Ev.now _

/- piece long -/
/-! ### the number that a text begins with -/
theorem btr (s : ByteArray) (i : Int) : 0 ≤ bt s i ∧ bt s i ≤ 255 := bt_range s i

/-- The number of the first bytes' low seven bits. -/
def val (s : ByteArray) : Nat → Int
  | 0 => 0
  | i + 1 => val s i + bt s (i : Int) % 128 * 128 ^ i

theorem p128_pos (i : Nat) : (0 : Int) < 128 ^ i := Int.pow_pos (by decide)

theorem val_range (s : ByteArray) (i : Nat) : 0 ≤ val s i ∧ val s i < 128 ^ i := by
  induction i with
  | zero => simp [val]
  | succ i ih =>
    have hp := p128_pos i
    have h1 : 0 ≤ bt s (i : Int) % 128 := by omega
    have h2 : bt s (i : Int) % 128 ≤ 127 := by omega
    have h3 : 0 ≤ bt s (i : Int) % 128 * 128 ^ i := Int.mul_nonneg h1 (Int.le_of_lt hp)
    have h4 : bt s (i : Int) % 128 * 128 ^ i ≤ 127 * 128 ^ i := Int.mul_le_mul_of_nonneg_right h2 (Int.le_of_lt hp)
    simp only [val, Int.pow_succ]
    omega

/-- How many short bytes a text begins with, from a place on; or the error's number. -/
def ends (s : ByteArray) (i : Nat) : Int × Int :=
  if _h : i < s.size ∧ i < 10 then
    if bt s (i : Int) < 128 then (if (0 < i ∧ bt s (i : Int) = 0) ∨ (i = 9 ∧ 1 < bt s (i : Int)) then (0, 5) else (((i + 1 : Nat) : Int), 0)) else ends s (i + 1)
  else if s.size < 10 then (0, 4) else (0, 5)
termination_by 10 - i
decreasing_by omega

theorem ends_stop {s : ByteArray} {i : Nat} (h : ¬ (i < s.size ∧ i < 10)) : ends s i = if s.size < 10 then (0, 4) else (0, 5) := by rw [ends, dif_neg h]
theorem ends_more {s : ByteArray} {i : Nat} (h : i < s.size ∧ i < 10) (hc : ¬ bt s (i : Int) < 128) : ends s i = ends s (i + 1) := by rw [ends, dif_pos h, if_neg hc]
theorem ends_last {s : ByteArray} {i : Nat} (h : i < s.size ∧ i < 10) (hc : bt s (i : Int) < 128) : ends s i = if (0 < i ∧ bt s (i : Int) = 0) ∨ (i = 9 ∧ 1 < bt s (i : Int)) then (0, 5) else (((i + 1 : Nat) : Int), 0) := by rw [ends, dif_pos h, if_pos hc]

/-- What is known where it ends. -/
theorem ends_ok (s : ByteArray) (d : Nat) : ∀ i, i + d = 10 → (ends s i).2 = 0 → ∃ m : Nat, (ends s i).1 = ((m + 1 : Nat) : Int) ∧ i ≤ m ∧ m < 10 ∧ m < s.size ∧ bt s (m : Int) < 128 ∧ (0 < m → bt s (m : Int) ≠ 0) ∧ (m = 9 → bt s (m : Int) ≤ 1) ∧ ∀ j : Nat, i ≤ j → j < m → 128 ≤ bt s (j : Int) := by
  induction d with
  | zero =>
    intro i hi h
    rw [ends_stop (by omega)] at h
    split at h <;> simp at h
  | succ d ih =>
    intro i hi h
    by_cases h1 : i < s.size ∧ i < 10
    · by_cases hc : bt s (i : Int) < 128
      · rw [ends_last h1 hc] at h ⊢
        split at h
        · simp at h
        · rename_i hn
          rw [if_neg hn]
          exact ⟨i, rfl, Nat.le_refl _, h1.2, h1.1, hc, fun h0 h2 => hn (.inl ⟨h0, h2⟩), fun h9 => by
            by_cases h : 1 < bt s (i : Int)
            · exact absurd (.inr ⟨h9, h⟩) hn
            · omega, fun j hj hj' => by omega⟩
      · rw [ends_more h1 hc] at h ⊢
        obtain ⟨m, e, h2, h3, h4, h5, h6, h7, h8⟩ := ih (i + 1) (by omega) h
        exact ⟨m, e, by omega, h3, h4, h5, h6, h7, fun j hj hj' => by
          by_cases e : j = i
          · subst e; omega
          · exact h8 j (by omega) hj'⟩
    · rw [ends_stop h1] at h
      split at h <;> simp at h

theorem ends_err (s : ByteArray) (d : Nat) : ∀ i, i + d = 10 → (ends s i).2 ≠ 0 → (ends s i).1 = 0 ∧ ((ends s i).2 = 4 ∨ (ends s i).2 = 5) := by
  induction d with
  | zero =>
    intro i hi h
    rw [ends_stop (by omega)] at h ⊢
    split <;> simp
  | succ d ih =>
    intro i hi h
    by_cases h1 : i < s.size ∧ i < 10
    · by_cases hc : bt s (i : Int) < 128
      · rw [ends_last h1 hc] at h ⊢
        split at h
        · rename_i hn; rw [if_pos hn]; simp
        · simp at h
      · rw [ends_more h1 hc] at h ⊢
        exact ih (i + 1) (by omega) h
    · rw [ends_stop h1] at h ⊢
      split <;> simp

/-- The number that a text begins with, how many bytes; or the error's number. -/
def longS (s : ByteArray) : Int × Int × Int := if (ends s 0).2 = 0 then (val s (ends s 0).1.toNat, (ends s 0).1, 0) else (0, 0, (ends s 0).2)

theorem val_lt (s : ByteArray) (m : Nat) (h : m < 10) (h9 : m = 9 → bt s (m : Int) ≤ 1) (hc : bt s (m : Int) < 128) : 0 ≤ val s (m + 1) ∧ val s (m + 1) < 18446744073709551616 := by
  refine ⟨(val_range s (m + 1)).1, ?_⟩
  by_cases e : m = 9
  · subst e
    have h1 := val_range s 9
    have h2 := h9 rfl
    have h3 := btr s ((9 : Nat) : Int)
    simp only [val] at h1 ⊢
    have : (128 : Int) ^ 9 = 9223372036854775808 := by decide
    simp only [this] at h1 ⊢
    omega
  · have h1 := (val_range s (m + 1)).2
    have h2 : (128 : Int) ^ (m + 1) ≤ 128 ^ 9 := by
      have : (128 : Nat) ^ (m + 1) ≤ 128 ^ 9 := Nat.pow_le_pow_right (by decide) (by omega)
      exact_mod_cast this
    have : (128 : Int) ^ 9 = 9223372036854775808 := by decide
    omega

theorem longS_ok (s : ByteArray) (h : (longS s).2.2 = 0) : ∃ m : Nat, longS s = (val s (m + 1), ((m + 1 : Nat) : Int), 0) ∧ m < 10 ∧ m < s.size ∧ 0 ≤ val s (m + 1) ∧ val s (m + 1) < 18446744073709551616 ∧ bt s (m : Int) < 128 ∧ (0 < m → bt s (m : Int) ≠ 0) ∧ (∀ j : Nat, j < m → 128 ≤ bt s (j : Int)) := by
  unfold longS at h ⊢
  by_cases e : (ends s 0).2 = 0
  · obtain ⟨m, e1, _, h3, h4, h5, h6, h7, h8⟩ := ends_ok s 10 0 rfl e
    have hv := val_lt s m h3 h7 h5
    rw [if_pos e, e1]
    exact ⟨m, by simp, h3, h4, hv.1, hv.2, h5, h6, fun j hj => h8 j (Nat.zero_le _) hj⟩
  · rw [if_neg e] at h
    exact absurd h e
theorem longS_err (s : ByteArray) (h : (longS s).2.2 ≠ 0) : longS s = (0, 0, (longS s).2.2) ∧ ((longS s).2.2 = 4 ∨ (longS s).2.2 = 5) := by
  unfold longS at h ⊢
  by_cases e : (ends s 0).2 = 0
  · rw [if_pos e] at h
    exact absurd rfl h
  · rw [if_neg e]
    exact ⟨rfl, (ends_err s 10 0 rfl e).2⟩

theorem or_comm_u64 (x y : Int) : Go.bits .or .u64 x y = Go.bits .or .u64 y x := by
  unfold Go.bits
  simp only
  rw [BitVec.or_comm]

theorem wraps_u64 (n : Int) (h0 : 0 ≤ n) (h1 : n < 2 ^ 64) : IntKind.u64.wrap n = n := by
  simp only [IntKind.wrap, IntKind.bits, IntKind.signed]
  simp
  omega

theorem p128 (i : Nat) : (128 : Int) ^ i = 2 ^ (7 * i) := by
  rw [show (128 : Int) = 2 ^ 7 by decide, ← Int.pow_mul]

theorem or_shl (a c : Int) (i : Nat) (hi : i ≤ 9) (ha0 : 0 ≤ a) (ha : a < 128 ^ i) (hc0 : 0 ≤ c) (hc1 : c ≤ 255) (hcc : c % 128 * 128 ^ i < 18446744073709551616) :
    Go.bits .or .u64 a (shl .u64 (IntKind.u64.wrap (Go.bits .and .u8 c 127)) (wrap64 (7 * (i : Int)))) = a + c % 128 * 128 ^ i := by
  have hm : Go.bits .and .u8 c 127 = c % 128 := Go.bits_mask .u8 8 (by decide) Go.wraps_u8 7 (by decide) c hc0 (by omega)
  have hp := p128_pos i
  have h1 : 0 ≤ c % 128 := by omega
  have h3 : 0 ≤ c % 128 * 128 ^ i := Int.mul_nonneg h1 (Int.le_of_lt hp)
  have e64 : (2 : Int) ^ 64 = 18446744073709551616 := by decide
  have hw : wrap64 (7 * (i : Int)) = ((7 * i : Nat) : Int) := by unfold wrap64; omega
  have hs : shl .u64 (IntKind.u64.wrap (Go.bits .and .u8 c 127)) (wrap64 (7 * (i : Int))) = c % 128 * 128 ^ i := by
    unfold shl
    rw [hm, hw, wraps_u64 (c % 128) h1 (by omega)]
    have : min (((7 * i : Nat) : Int)).toNat (IntKind.bits .u64) = 7 * i := by simp [IntKind.bits]; omega
    rw [this, ← p128]
    exact wraps_u64 _ h3 (by omega)
  rw [hs, or_comm_u64]
  have hlt : a < 18446744073709551616 := by
    have h2 : (128 : Int) ^ i ≤ 128 ^ 9 := by
      have : (128 : Nat) ^ i ≤ 128 ^ 9 := Nat.pow_le_pow_right (by decide) hi
      exact_mod_cast this
    have : (128 : Int) ^ 9 = 9223372036854775808 := by decide
    omega
  rw [Go.bits_join .u64 64 (by decide) wraps_u64 (7 * i) (c % 128 * 128 ^ i) a h3 (by rw [p128]; exact Int.mul_emod_left _ _) (by omega) ha0 (by rw [← p128]; exact ha) (by omega)]
  omega

theorem long_stop (s : ByteArray) (a : Int) (i : Nat) (b : Bool) (hb : b = decide ((i : Int) < 10)) (h : ¬ (i < s.size ∧ i < 10)) :
    Ev (fun k => word_Long.l0 k s a (i : Int)) (0, 0, if s.size < 10 then 4 else 5) := by
  refine Ev.step (f := fun k => word_Long.j1 k s a (i : Int) false) (fun k => ?_) (Ev.step (f := fun _ => some (0, 0, if s.size < 10 then 4 else 5)) (fun k => ?_) (Ev.now _))
  · simp only [word_Long.l0]
    by_cases h1 : i < s.size
    · rw [if_pos (by omega), show decide ((i : Int) < 10) = false by simp; omega]
    · rw [if_neg (by omega)]
  · simp only [word_Long.j1]
    rw [if_neg (by decide)]
    by_cases h1 : s.size < 10
    · rw [if_pos (by omega), if_pos h1]
    · rw [if_neg (by omega), if_neg h1]

theorem long_l0 (s : ByteArray) (d : Nat) : ∀ i, i + d = 10 → ∀ a, (i ≤ 9 → a = val s i) →
    Ev (fun k => word_Long.l0 k s a (i : Int)) (if (ends s i).2 = 0 then (val s (ends s i).1.toNat, (ends s i).1, 0) else (0, 0, (ends s i).2)) := by
  induction d with
  | zero =>
    intro i hi a ha
    have := long_stop s a i _ rfl (by omega)
    rw [ends_stop (by omega)]
    by_cases h1 : s.size < 10
    · simpa [h1] using this
    · simpa [h1] using this
  | succ d ih =>
    intro i hi a ha
    by_cases h : i < s.size ∧ i < 10
    · have ha' := ha (by omega)
      have hb := btr s (i : Int)
      have hv := val_range s i
      have hw : wrap64 (7 * (i : Int)) = 7 * (i : Int) := by unfold wrap64; omega
      have hw1 : wrap64 ((i : Int) + 1) = ((i + 1 : Nat) : Int) := by unfold wrap64; omega
      by_cases hc : bt s (i : Int) < 128
      · -- the last one
        refine Ev.step (f := fun k => word_Long.j1 k s a (i : Int) true) (fun k => ?_) (Ev.step (f := fun _ => some (if (ends s i).2 = 0 then (val s (ends s i).1.toNat, (ends s i).1, 0) else (0, 0, (ends s i).2))) (fun k => ?_) (Ev.now _))
        · simp only [word_Long.l0]
          rw [if_pos (by omega), show decide ((i : Int) < 10) = true by simp; omega]
        · simp only [word_Long.j1]
          rw [if_pos (by trivial), if_pos (by omega), if_pos (by omega), if_pos (by rw [hw]; omega), if_neg (by omega), ends_last h hc, hw1]
          by_cases hbad : (0 < i ∧ bt s (i : Int) = 0) ∨ (i = 9 ∧ 1 < bt s (i : Int))
          · rw [if_pos hbad]
            simp only [if_neg (show ¬ ((5 : Int) = 0) by decide)]
            rcases hbad with ⟨h0, h1⟩ | ⟨h0, h1⟩
            · rw [if_pos (by omega), if_pos h1]
            · rw [if_pos (by omega), if_neg (by omega), if_pos (by omega), if_pos (by omega)]
          · rw [if_neg hbad]
            simp only [if_true]
            have hval : Go.bits .or .u64 a (shl .u64 (IntKind.u64.wrap (Go.bits .and .u8 (bt s (i : Int)) 127)) (wrap64 (7 * (i : Int)))) = val s (((i + 1 : Nat) : Int)).toNat := by
              have hlt := val_lt s i (by omega) (fun e => by
                by_cases h : 1 < bt s (i : Int)
                · exact absurd (.inr ⟨e, h⟩) hbad
                · omega) hc
              have : (((i + 1 : Nat) : Int)).toNat = i + 1 := by omega
              rw [this]
              simp only [val] at hlt ⊢
              rw [or_shl a _ i (by omega) (by omega) (by omega) hb.1 hb.2 (by omega), ha']
            rw [hval]
            by_cases h0 : i = 0
            · rw [if_neg (by omega), if_neg (by omega)]
            · have hn0 : ¬ bt s (i : Int) = 0 := fun e => hbad (.inl ⟨by omega, e⟩)
              rw [if_pos (by omega), if_neg hn0]
              by_cases h9 : i = 9
              · have hn9 : ¬ bt s (i : Int) > 1 := fun e => hbad (.inr ⟨h9, e⟩)
                rw [if_pos (by omega), if_neg hn9]
              · rw [if_neg (by omega)]
      · -- one more
        rw [ends_more h hc]
        refine Ev.step (f := fun k => word_Long.j1 k s a (i : Int) true) (fun k => ?_) (Ev.step (f := fun k => word_Long.l0 k s (Go.bits .or .u64 a (shl .u64 (IntKind.u64.wrap (Go.bits .and .u8 (bt s (i : Int)) 127)) (wrap64 (7 * (i : Int))))) ((i + 1 : Nat) : Int)) (fun k => ?_) (ih (i + 1) (by omega) _ (fun h9 => ?_)))
        · simp only [word_Long.l0]
          rw [if_pos (by omega), show decide ((i : Int) < 10) = true by simp; omega]
        · simp only [word_Long.j1]
          rw [if_pos (by trivial), if_pos (by omega), if_pos (by omega), if_pos (by rw [hw]; omega), if_pos (by omega), hw1]
        · have h2 := (val_range s (i + 1)).2
          have h3 : (128 : Int) ^ (i + 1) ≤ 128 ^ 9 := by
            have : (128 : Nat) ^ (i + 1) ≤ 128 ^ 9 := Nat.pow_le_pow_right (by decide) (by omega)
            exact_mod_cast this
          have : (128 : Int) ^ 9 = 9223372036854775808 := by decide
          simp only [val] at h2 ⊢
          rw [or_shl a _ i (by omega) (by omega) (by omega) hb.1 hb.2 (by omega), ha']
    · have := long_stop s a i _ rfl h
      rw [ends_stop h]
      by_cases h1 : s.size < 10
      · simpa [h1] using this
      · simpa [h1] using this

theorem word_Long_ev (s : ByteArray) : Ev (fun k => word_Long.f k s) (longS s) := by
  have := long_l0 s 10 0 rfl 0 (fun _ => rfl)
  simpa [word_Long.f, longS] using this

/- piece reflong -/
theorem refEnds_stop (s : ByteArray) (i : Nat) (h : ¬ (i < s.size ∧ i < 10)) :
    Ev (fun k => haulageref01_Ends.l0 k s (i : Int)) (0, if s.size < 10 then 4 else 5) := by
  refine Ev.step (f := fun k => haulageref01_Ends.j1 k s (i : Int) false) (fun k => ?_) (Ev.step (f := fun _ => some (0, if s.size < 10 then 4 else 5)) (fun k => ?_) (Ev.now _))
  · simp only [haulageref01_Ends.l0]
    by_cases h1 : i < s.size
    · rw [if_pos (by omega), show decide ((i : Int) < 10) = false by simp; omega]
    · rw [if_neg (by omega)]
  · simp only [haulageref01_Ends.j1]
    rw [if_neg (by decide)]
    by_cases h1 : s.size < 10
    · rw [if_pos (by omega), if_pos h1]
    · rw [if_neg (by omega), if_neg h1]

theorem refEnds_l0 (s : ByteArray) (d : Nat) : ∀ i, i + d = 10 → Ev (fun k => haulageref01_Ends.l0 k s (i : Int)) (ends s i) := by
  induction d with
  | zero =>
    intro i hi
    have := refEnds_stop s i (by omega)
    rw [ends_stop (by omega)]
    by_cases h1 : s.size < 10
    · simpa [h1] using this
    · simpa [h1] using this
  | succ d ih =>
    intro i hi
    by_cases h : i < s.size ∧ i < 10
    · have hb := btr s (i : Int)
      have hw1 : wrap64 ((i : Int) + 1) = ((i + 1 : Nat) : Int) := by unfold wrap64; omega
      by_cases hc : bt s (i : Int) < 128
      · refine Ev.step (f := fun k => haulageref01_Ends.j1 k s (i : Int) true) (fun k => ?_) (Ev.step (f := fun _ => some (ends s i)) (fun k => ?_) (Ev.now _))
        · simp only [haulageref01_Ends.l0]
          rw [if_pos (by omega), show decide ((i : Int) < 10) = true by simp; omega]
        · simp only [haulageref01_Ends.j1]
          rw [if_pos (by trivial), if_pos (by omega), if_pos (by omega), if_pos hc, ends_last h hc, hw1]
          by_cases hbad : (0 < i ∧ bt s (i : Int) = 0) ∨ (i = 9 ∧ 1 < bt s (i : Int))
          · rw [if_pos hbad]
            rcases hbad with ⟨h0, h1⟩ | ⟨h0, h1⟩
            · rw [if_pos (by omega), if_pos h1]
            · rw [if_pos (by omega), if_neg (by omega), if_pos (by omega), if_pos (by omega)]
          · rw [if_neg hbad]
            by_cases h0 : i = 0
            · rw [if_neg (by omega), if_neg (by omega)]
            · have hn0 : ¬ bt s (i : Int) = 0 := fun e => hbad (.inl ⟨by omega, e⟩)
              rw [if_pos (by omega), if_neg hn0]
              by_cases h9 : i = 9
              · have hn9 : ¬ bt s (i : Int) > 1 := fun e => hbad (.inr ⟨h9, e⟩)
                rw [if_pos (by omega), if_neg hn9]
              · rw [if_neg (by omega)]
      · rw [ends_more h hc]
        refine Ev.step (f := fun k => haulageref01_Ends.j1 k s (i : Int) true) (fun k => ?_) (Ev.step (f := fun k => haulageref01_Ends.l0 k s ((i + 1 : Nat) : Int)) (fun k => ?_) (ih (i + 1) (by omega)))
        · simp only [haulageref01_Ends.l0]
          rw [if_pos (by omega), show decide ((i : Int) < 10) = true by simp; omega]
        · simp only [haulageref01_Ends.j1]
          rw [if_pos (by trivial), if_pos (by omega), if_pos (by omega), if_neg hc, hw1]
    · have := refEnds_stop s i h
      rw [ends_stop h]
      by_cases h1 : s.size < 10
      · simpa [h1] using this
      · simpa [h1] using this

theorem refLong_l0 (s : ByteArray) (size : Int) (V : Int) (hV : V < 18446744073709551616) (i : Nat) : i ≤ s.size → i ≤ 10 → ∀ n : Int, 0 ≤ n → val s i + n * 128 ^ i = V →
    Ev (fun k => haulageref01_Long.l0 k s size n ((i : Int) - 1)) (V, size, 0) := by
  induction i with
  | zero =>
    intro _ _ n hn h
    refine Ev.step (f := fun _ => some (V, size, 0)) (fun k => ?_) (Ev.now _)
    simp only [haulageref01_Long.l0]
    simp only [val] at h
    rw [if_neg (by omega), show n = V by omega]
  | succ i ih =>
    intro hs h10 n hn h
    have hb := btr s (i : Int)
    have hp := p128_pos i
    have e1 : (((i + 1 : Nat) : Int) - 1) = (i : Int) := by omega
    rw [e1]
    have h1 : 0 ≤ bt s (i : Int) % 128 := by omega
    have hn' : val s i + (n * 128 + bt s (i : Int) % 128) * 128 ^ i = V := by
      rw [← h]
      simp only [val, Int.pow_succ, Int.add_mul, Int.mul_assoc]
      rw [Int.mul_comm 128 (128 ^ i)]
      omega
    have hle : (n * 128 + bt s (i : Int) % 128) ≤ (n * 128 + bt s (i : Int) % 128) * 128 ^ i := by
      have : (n * 128 + bt s (i : Int) % 128) * 1 ≤ (n * 128 + bt s (i : Int) % 128) * 128 ^ i := Int.mul_le_mul_of_nonneg_left (by omega) (by omega)
      omega
    have hv := val_range s i
    refine Ev.step (f := fun k => haulageref01_Long.l0 k s size (n * 128 + bt s (i : Int) % 128) ((i : Int) - 1)) (fun k => ?_) (ih (by omega) (by omega) _ (by omega) hn')
    simp only [haulageref01_Long.l0]
    rw [if_pos (by omega), if_pos (by omega), if_pos (by omega), tmod_nonneg_eq _ _ (by omega), u64_id (n * 128) (by omega) (by omega), u64_id (bt s (i : Int) % 128) (by omega) (by omega), u64_id (n * 128 + bt s (i : Int) % 128) (by omega) (by omega),
      show wrap64 ((i : Int) - 1) = (i : Int) - 1 by unfold wrap64; omega]

theorem refLong_ev (s : ByteArray) : Ev (fun k => haulageref01_Long.f k s) (longS s) := by
  unfold haulageref01_Long.f
  have he : Ev (fun k => haulageref01_Ends.f k s) (ends s 0) := by simpa [haulageref01_Ends.f] using refEnds_l0 s 10 0 rfl
  refine Ev.bind he ?_
  unfold longS
  by_cases e : (ends s 0).2 = 0
  · obtain ⟨m, e1, _, h3, h4, h5, h6, h7, h8⟩ := ends_ok s 10 0 rfl e
    have hv := val_lt s m h3 h7 h5
    have := refLong_l0 s (ends s 0).1 (val s (m + 1)) hv.2 (m + 1) (by omega) (by omega) 0 (by omega) (by omega)
    rw [if_pos e]
    refine Ev.congr (f := fun k => haulageref01_Long.l0 k s (ends s 0).1 0 (((m + 1 : Nat) : Int) - 1)) (fun k => ?_) ?_
    · rw [if_pos e, e1, show wrap64 (((m + 1 : Nat) : Int) - 1) = ((m + 1 : Nat) : Int) - 1 by unfold wrap64; omega]
    · rw [e1] at this ⊢
      simpa using this
  · rw [if_neg e]
    refine Ev.congr (f := fun _ => some (0, 0, (ends s 0).2)) (fun k => ?_) (Ev.now _)
    rw [if_neg e]

/- piece num -/
/-! ### small things of texts, and the number that a text begins with -/
theorem nil_iff (s : ByteArray) : s.toList = ([] : List UInt8) ↔ s.size = 0 := by
  rw [ByteArray.toList_eq]
  constructor
  · intro h
    have := congrArg List.length h
    rw [Array.length_toList] at this
    exact this
  · intro h
    exact List.length_eq_zero_iff.1 (by rw [Array.length_toList]; exact h)

theorem sb_len_i (b : Int) (h : 0 ≤ b) (h2 : b ≤ 9223372036854775807) : (sb b.toNat).length ≤ 10 := sb_len10 (by omega)
theorem sbs_one (b : Int) : sbs [b] = sb b.toNat := by simp [sbs]
theorem sizeApp (a b : ByteArray) : (a ++ b).size = a.size + b.size := ByteArray.size_append

theorem short_one (b : Int) (h : 0 ≤ b) (h2 : b ≤ 9223372036854775807) : Ev (fun k => word_Short.f k ([IntKind.u64.wrap b] : List Int)) (strOfNums (sb b.toNat)) := by
  have := word_Short_ev [IntKind.u64.wrap b] (by simp) (fun x hx => by
    rw [List.mem_singleton] at hx
    subst hx
    rw [u64_eq]; omega)
  rw [sbs_one, u64_id b h (by omega)] at this
  rw [u64_id b h (by omega)]
  exact this

/-- The number that a text begins with, one that an int has. -/
def numS (s : ByteArray) : Int × Int × Int :=
  if (longS s).2.2 = 0 then (if (longS s).1 < 9223372036854775808 then (longS s).1 else 0, if (longS s).1 < 9223372036854775808 then (longS s).2.1 else 0, if (longS s).1 < 9223372036854775808 then 0 else 5) else (0, 0, (longS s).2.2)
/-- What stands behind it. -/
def numR (s : ByteArray) : ByteArray := if (numS s).2.2 = 0 then s.extract (numS s).2.1.toNat s.size else ⟨#[]⟩

theorem longS_two (s : ByteArray) (h : (longS s).2.2 = 0) : 0 ≤ (longS s).1 ∧ (longS s).1 < 18446744073709551616 ∧ 0 < (longS s).2.1 ∧ (longS s).2.1 ≤ (s.size : Int) ∧ (longS s).2.1 ≤ 10 := by
  obtain ⟨m, e, h1, h2, h3, h4, _⟩ := longS_ok s h
  rw [e]
  simp only
  omega


/- piece rec -/
/-! ### a record -/
def rowB (n : Int) : Bool := decide (n = 2 ∨ n = 3 ∨ n = 4)
def imgB (n : Int) : Bool := decide (n = 2 ∨ n = 3 ∨ n = 4 ∨ n = 5)
theorem ofRow_eq (n : Int) : walrec_ofRow.f n = some (rowB n) := by
  unfold walrec_ofRow.f rowB
  by_cases h2 : n = 2
  · simp [h2]
  · by_cases h3 : n = 3
    · simp [h3]
    · by_cases h4 : n = 4
      · simp [h4]
      · simp [h2, h3, h4]
theorem imaged_eq (n : Int) : walrec_imaged.f n = some (imgB n) := by
  unfold walrec_imaged.f imgB
  rw [ofRow_eq, Option.bind_some]
  unfold rowB
  by_cases h : n = 2 ∨ n = 3 ∨ n = 4
  · rw [if_pos (by simpa using h)]
    congr 1
    rcases h with h | h | h <;> simp [h]
  · rw [if_neg (by simpa using h)]
    congr 1
    have h2 : ¬ n = 2 := fun e => h (.inl e)
    have h3 : ¬ n = 3 := fun e => h (.inr (.inl e))
    have h4 : ¬ n = 4 := fun e => h (.inr (.inr e))
    rw [Bool.eq_iff_iff]
    simp [h2, h3, h4]

/-- Is it right? -/
def rightB (a b c : Int) (s : ByteArray) : Bool :=
  decide (1 ≤ a ∧ a ≤ 8 ∧ 0 ≤ b ∧ 0 ≤ c ∧ (a = 8 → b = 0) ∧ (c = 0 ∨ rowB a = true) ∧ (s.size = 0 ∨ (imgB a = true ∧ (s.size : Int) ≤ 65535)))

theorem right_j1 (x : Bool) (a b c : Int) (s : ByteArray) (h : 1 ≤ a ∧ a ≤ 8 ∧ 0 ≤ b ∧ 0 ≤ c) (hx : x = decide (a = 8 ∧ b ≠ 0)) : Ev (fun k => walrec_Right.j1 k x a b c s) (rightB a b c s) := by
  refine Ev.step (f := fun _ => some (rightB a b c s)) (fun k => ?_) (Ev.now _)
  simp only [walrec_Right.j1]
  rw [imaged_eq, ofRow_eq, Option.bind_some, Option.bind_some, hx]
  unfold rightB
  by_cases h1 : a = 8 ∧ b ≠ 0
  · rw [if_pos (by simpa using h1)]
    congr 1
    symm
    simp only [decide_eq_false_iff_not]
    exact fun h => h1.2 (h.2.2.2.2.1 h1.1)
  · rw [if_neg (by simpa using h1)]
    have h1' : a = 8 → b = 0 := fun e => Classical.byContradiction fun hb => h1 ⟨e, hb⟩
    by_cases h2 : c = 0
    · rw [if_pos h2]
      by_cases h3 : s.size = 0
      · rw [if_pos ((nil_iff s).2 h3)]; congr 1; symm; simp only [decide_eq_true_iff]; exact ⟨h.1, h.2.1, h.2.2.1, h.2.2.2, h1', .inl h2, .inl h3⟩
      · rw [if_neg (fun e => h3 ((nil_iff s).1 e))]
        cases hi : imgB a
        · rw [if_neg (by decide)]; congr 1; symm; simp only [decide_eq_false_iff_not]; intro hh; rcases hh.2.2.2.2.2.2 with q | q
          · exact h3 q
          · exact absurd q.1 (by decide)
        · rw [if_pos (by trivial)]; congr 1; rw [Bool.eq_iff_iff, decide_eq_true_iff, decide_eq_true_iff]
          exact ⟨fun q => ⟨h.1, h.2.1, h.2.2.1, h.2.2.2, h1', .inl h2, .inr ⟨by trivial, q⟩⟩, fun hh => by rcases hh.2.2.2.2.2.2 with q | q <;> omega⟩
    · rw [if_neg h2]
      cases hr : rowB a
      · rw [if_neg (by decide)]; congr 1; symm; simp only [decide_eq_false_iff_not]; intro hh; rcases hh.2.2.2.2.2.1 with q | q
        · exact h2 q
        · exact absurd q (by decide)
      · rw [if_pos (by trivial)]
        by_cases h3 : s.size = 0
        · rw [if_pos ((nil_iff s).2 h3)]; congr 1; symm; simp only [decide_eq_true_iff]; exact ⟨h.1, h.2.1, h.2.2.1, h.2.2.2, h1', .inr (by trivial), .inl h3⟩
        · rw [if_neg (fun e => h3 ((nil_iff s).1 e))]
          cases hi : imgB a
          · rw [if_neg (by decide)]; congr 1; symm; simp only [decide_eq_false_iff_not]; intro hh; rcases hh.2.2.2.2.2.2 with q | q
            · exact h3 q
            · exact absurd q.1 (by decide)
          · rw [if_pos (by trivial)]; congr 1; rw [Bool.eq_iff_iff, decide_eq_true_iff, decide_eq_true_iff]
            exact ⟨fun q => ⟨h.1, h.2.1, h.2.2.1, h.2.2.2, h1', .inr (by trivial), .inr ⟨by trivial, q⟩⟩, fun hh => by rcases hh.2.2.2.2.2.2 with q | q <;> omega⟩

theorem right_ev (a b c : Int) (s : ByteArray) : Ev (fun k => walrec_Right.f k a b c s) (rightB a b c s) := by
  have hbad : ¬ (1 ≤ a ∧ a ≤ 8 ∧ 0 ≤ b ∧ 0 ≤ c) → rightB a b c s = false := fun h => by
    unfold rightB
    simp only [decide_eq_false_iff_not]
    exact fun q => h ⟨q.1, q.2.1, q.2.2.1, q.2.2.2.1⟩
  have hj : ∀ x : Bool, x = decide (¬ (1 ≤ a ∧ a ≤ 8 ∧ 0 ≤ b ∧ 0 ≤ c)) → Ev (fun k => walrec_Right.j0 k x a b c s) (rightB a b c s) := by
    intro x hx
    by_cases h : 1 ≤ a ∧ a ≤ 8 ∧ 0 ≤ b ∧ 0 ≤ c
    · by_cases h8 : a = 8
      · refine Ev.step (fun k => by simp only [walrec_Right.j0]; rw [hx, if_neg (by rw [decide_eq_true_iff]; exact fun q => q h), if_pos h8]) (right_j1 _ a b c s h ?_)
        rw [Bool.eq_iff_iff, bne_iff_ne, decide_eq_true_iff]
        exact ⟨fun q => ⟨h8, q⟩, fun q => q.2⟩
      · refine Ev.step (fun k => by simp only [walrec_Right.j0]; rw [hx, if_neg (by rw [decide_eq_true_iff]; exact fun q => q h), if_neg h8]) (right_j1 _ a b c s h ?_)
        symm
        simp only [decide_eq_false_iff_not]
        exact fun q => h8 q.1
    · rw [hbad h]
      exact Ev.step (fun k => by simp only [walrec_Right.j0]; rw [hx, if_pos (by rw [decide_eq_true_iff]; exact h)]) (Ev.now _)
  unfold walrec_Right.f
  by_cases h1 : a < 1
  · exact Ev.congr (fun k => by rw [if_pos h1]) (hj _ (by symm; simp only [decide_eq_true_iff]; omega))
  · by_cases h2 : a > 8
    · exact Ev.congr (fun k => by rw [if_neg h1, if_pos h2]) (hj _ (by symm; simp only [decide_eq_true_iff]; omega))
    · by_cases h3 : b < 0
      · exact Ev.congr (fun k => by rw [if_neg h1, if_neg h2, if_pos h3]) (hj _ (by symm; simp only [decide_eq_true_iff]; omega))
      · refine Ev.congr (fun k => by rw [if_neg h1, if_neg h2, if_neg h3]) (hj _ ?_)
        rw [Bool.eq_iff_iff, decide_eq_true_iff, decide_eq_true_iff]
        omega

/-- The bytes of a right one. -/
def recN (a b : Int) : List Int := a % 256 :: if a = 8 then [] else sb b.toNat
def recM (a c : Int) : List Int := if rowB a = true then sb c.toNat else []
def recE (a b c : Int) (s : ByteArray) : ByteArray := (strOfNums (recN a b) ++ strOfNums (recM a c)) ++ s

theorem recN_len (a b : Int) (h : 0 ≤ b) (h2 : b ≤ 9223372036854775807) : (recN a b).length ≤ 11 := by
  unfold recN
  have := sb_len_i b h h2
  split
  · simp
  · simp; omega
theorem recM_len (a b : Int) (h : 0 ≤ b) (h2 : b ≤ 9223372036854775807) : (recM a b).length ≤ 10 := by
  unfold recM
  have := sb_len_i b h h2
  split
  · exact this
  · simp
theorem encode_ev (a b c : Int) (s : ByteArray) (hb : b ≤ 9223372036854775807) (hc : c ≤ 9223372036854775807) (hs : s.size ≤ 1000000) :
    Ev (fun k => walrec_Encode.f k a b c s) (if rightB a b c s = true then (recE a b c s, 0) else ((⟨#[]⟩ : ByteArray), 2)) := by
  unfold walrec_Encode.f
  refine Ev.bind (right_ev a b c s) ?_
  by_cases h : rightB a b c s = true
  · rw [if_pos h]
    have hh := h
    unfold rightB at hh
    rw [decide_eq_true_iff] at hh
    obtain ⟨h1, h2, h3, h4, _⟩ := hh
    have hj : Ev (fun k => walrec_Encode.j0 k (strOfNums (recN a b)) a b c s) (recE a b c s, 0) := by
      have hl := recN_len a b h3 hb
      have hz := strOfNums_size (recN a b)
      unfold recE recM
      by_cases hr : rowB a = true
      · refine Ev.step (f := fun k => (word_Short.f k ([IntKind.u64.wrap c] : List Int)).bind fun t126 => _) (fun k => by simp only [walrec_Encode.j0]; rw [ofRow_eq, Option.bind_some, if_pos hr]) ?_
        refine Ev.bind (short_one c h4 hc) ?_
        have hl2 := sb_len_i c h4 hc
        have hz2 := strOfNums_size (sb c.toNat)
        refine Ev.congr (fun k => by rw [if_pos (by omega), if_pos (by rw [sizeApp]; omega)]) ?_
        rw [if_pos hr]
        exact Ev.now _
      · refine Ev.step (f := fun _ => some (strOfNums (recN a b) ++ s, 0)) (fun k => by simp only [walrec_Encode.j0]; rw [ofRow_eq, Option.bind_some, if_neg hr, if_pos (by omega)]) ?_
        rw [if_neg hr, show strOfNums [] = ByteArray.empty from rfl, ByteArray.append_empty]
        exact Ev.now _
    refine Ev.congr (fun k => by rw [if_pos h, Option.bind_some]) ?_
    by_cases h8 : a = 8
    · refine Ev.congr (fun k => by rw [if_pos h8]) ?_
      rw [show recN a b = [a % 256] by unfold recN; rw [if_pos h8]] at hj
      exact hj
    · refine Ev.congr (fun k => by rw [if_neg h8]) ?_
      refine Ev.bind (short_one b h3 hb) ?_
      have hl2 := sb_len_i b h3 hb
      refine Ev.congr (fun k => by rw [if_pos (by rw [strOfNums_size, strOfNums_size]; simp; omega), ← strOfNums_append]) ?_
      rw [show recN a b = [a % 256] ++ sb b.toNat by unfold recN; rw [if_neg h8]; rfl] at hj
      exact hj
  · rw [if_neg h]
    exact Ev.congr (fun k => by rw [if_neg h]) (Ev.now _)

/-! ### a record's bytes, read -/
theorem number_ev (s : ByteArray) : Ev (fun k => walrec_number.f k s) ((numS s).1, numR s, (numS s).2.2) := by
  unfold walrec_number.f
  refine Ev.bind (word_Long_ev s) ?_
  unfold numR numS
  by_cases h : (longS s).2.2 = 0
  · obtain ⟨h1, h2, h3, h4, _⟩ := longS_two s h
    by_cases hv : (longS s).1 < 9223372036854775808
    · refine Ev.congr (f := fun _ => _) (fun k => by rw [if_pos h, if_pos (by omega), if_pos (by omega), if_pos (by omega)]) ?_
      simp only [if_pos h, if_pos hv, if_true]
      rw [show wrap64 (longS s).1 = (longS s).1 by unfold wrap64; omega]
      exact Ev.now _
    · refine Ev.congr (f := fun _ => _) (fun k => by rw [if_pos h, if_neg (by omega)]) ?_
      simp only [if_pos h, if_neg hv, if_neg (show ¬ (5 : Int) = 0 by decide)]
      exact Ev.now _
  · refine Ev.congr (f := fun _ => _) (fun k => by rw [if_neg h]) ?_
    simp only [if_neg h]
    exact Ev.now _

def finS (a b c : Int) (s : ByteArray) : Int × Int × Int × ByteArray × Int :=
  if ¬ s.size = 0 ∧ imgB a = false then (0, 0, 0, (⟨#[]⟩ : ByteArray), 6) else if (s.size : Int) > 65535 then (0, 0, 0, (⟨#[]⟩ : ByteArray), 3) else (a, b, c, s, 0)
def midS (a b : Int) (s : ByteArray) : Int × Int × Int × ByteArray × Int :=
  if rowB a = true then (if (numS s).2.2 = 0 then finS a b (numS s).1 (numR s) else (0, 0, 0, (⟨#[]⟩ : ByteArray), (numS s).2.2)) else finS a b 0 s
/-- The record of a text, or the error's number. -/
def decS (s : ByteArray) : Int × Int × Int × ByteArray × Int :=
  if s.size = 0 then (0, 0, 0, (⟨#[]⟩ : ByteArray), 4) else
  if bt s 0 < 1 ∨ bt s 0 > 8 then (0, 0, 0, (⟨#[]⟩ : ByteArray), 5) else
  if bt s 0 = 8 then midS 8 0 (s.extract 1 s.size) else
  if (numS (s.extract 1 s.size)).2.2 = 0 then midS (bt s 0) (numS (s.extract 1 s.size)).1 (numR (s.extract 1 s.size)) else (0, 0, 0, (⟨#[]⟩ : ByteArray), (numS (s.extract 1 s.size)).2.2)

theorem decode_j3 (s : ByteArray) (a b c : Int) (z : ByteArray) : Ev (fun k => walrec_Decode.j3 k s 0 a b c z) (finS a b c s) := by
  have hj : ∀ x : Bool, x = decide (¬ s.size = 0 ∧ imgB a = false) → Ev (fun k => walrec_Decode.j4 k s x a b c z) (finS a b c s) := by
    intro x hx
    refine Ev.step (f := fun _ => some (finS a b c s)) (fun k => ?_) (Ev.now _)
    simp only [walrec_Decode.j4]
    unfold finS
    by_cases h : ¬ s.size = 0 ∧ imgB a = false
    · rw [hx, if_pos (by simpa using h), if_pos h]
    · rw [hx, if_neg (by rw [decide_eq_true_iff]; exact h), if_neg h]
      split <;> rfl
  by_cases h : s.size = 0
  · exact Ev.step (fun k => by simp only [walrec_Decode.j3]; rw [if_pos (by trivial), if_pos ((nil_iff s).2 h)]) (hj _ (by symm; simp only [decide_eq_false_iff_not]; exact fun q => q.1 h))
  · refine Ev.step (fun k => by simp only [walrec_Decode.j3]; rw [if_pos (by trivial), if_neg (fun e => h ((nil_iff s).1 e)), imaged_eq, Option.bind_some]) (hj _ ?_)
    cases imgB a <;> simp [h]
theorem decode_j3e (s : ByteArray) (e : Int) (he : ¬ e = 0) (a b c : Int) (z : ByteArray) : Ev (fun k => walrec_Decode.j3 k s e a b c z) (0, 0, 0, (⟨#[]⟩ : ByteArray), e) :=
  Ev.step (fun k => by simp only [walrec_Decode.j3]; rw [if_neg he]) (Ev.now _)
theorem decode_j1 (s : ByteArray) (a b : Int) (z : ByteArray) : Ev (fun k => walrec_Decode.j1 k s 0 a b 0 z) (midS a b s) := by
  refine Ev.step (f := fun k => walrec_Decode.j2 k s 0 (rowB a) a b 0 z) (fun k => by simp only [walrec_Decode.j1]; rw [if_pos (by trivial), ofRow_eq, Option.bind_some]) ?_
  unfold midS
  by_cases h : rowB a = true
  · rw [if_pos h]
    refine Ev.step (fun k => by simp only [walrec_Decode.j2]; rw [if_pos h]) ?_
    refine Ev.bind (number_ev s) ?_
    by_cases he : (numS s).2.2 = 0
    · rw [if_pos he]
      simp only [he]
      exact decode_j3 _ _ _ _ _
    · rw [if_neg he]
      exact decode_j3e _ _ he _ _ _ _
  · rw [if_neg h]
    exact Ev.step (fun k => by simp only [walrec_Decode.j2]; rw [if_neg h]) (decode_j3 _ _ _ _ _)
theorem decode_j1e (s : ByteArray) (e : Int) (he : ¬ e = 0) (a b c : Int) (z : ByteArray) : Ev (fun k => walrec_Decode.j1 k s e a b c z) (0, 0, 0, (⟨#[]⟩ : ByteArray), e) :=
  Ev.step (fun k => by simp only [walrec_Decode.j1]; rw [if_neg he]) (Ev.step (fun k => by simp only [walrec_Decode.j2]; rw [if_neg (by decide)]) (decode_j3e s e he a b c z))

theorem decode_ev (s : ByteArray) : Ev (fun k => walrec_Decode.f k s) (decS s) := by
  unfold walrec_Decode.f decS
  by_cases h0 : s.size = 0
  · rw [if_pos h0]
    exact Ev.congr (fun k => by rw [if_pos ((nil_iff s).2 h0)]) (Ev.now _)
  · rw [if_neg h0]
    have hb := btr s 0
    have hw : wrap64 (bt s 0) = bt s 0 := by unfold wrap64; omega
    refine Ev.congr (fun k => by rw [if_neg (fun e => h0 ((nil_iff s).1 e)), if_pos (by omega), hw]) ?_
    by_cases hk : bt s 0 < 1 ∨ bt s 0 > 8
    · rw [if_pos hk]
      by_cases h1 : bt s 0 < 1
      · exact Ev.congr (fun k => by rw [if_pos h1]) (Ev.step (fun k => by simp only [walrec_Decode.j0]; rw [if_pos (by trivial)]) (Ev.now _))
      · exact Ev.congr (fun k => by rw [if_neg h1]) (Ev.step (fun k => by simp only [walrec_Decode.j0]; rw [if_pos (by simp; omega)]) (Ev.now _))
    · rw [if_neg hk]
      refine Ev.congr (fun k => by rw [if_neg (by omega)]) ?_
      by_cases h8 : bt s 0 = 8
      · rw [if_pos h8]
        refine Ev.step (fun k => by simp only [walrec_Decode.j0]; rw [if_neg (by simp; omega), if_pos (by omega), if_pos h8]) ?_
        rw [h8]
        exact decode_j1 _ _ _ _
      · rw [if_neg h8]
        refine Ev.step (fun k => by simp only [walrec_Decode.j0]; rw [if_neg (by simp; omega), if_pos (by omega), if_neg h8]) ?_
        refine Ev.bind (number_ev _) ?_
        by_cases he : (numS (s.extract 1 s.size)).2.2 = 0
        · rw [if_pos he]
          simp only [he]
          exact decode_j1 _ _ _ _
        · rw [if_neg he]
          exact decode_j1e _ _ he _ _ _ _

/- piece reader -/
theorem one_i (b : Int) (h : 0 ≤ b) (h2 : b ≤ 9223372036854775807) : Ev (fun k => haulageref01_One.f k (IntKind.u64.wrap b)) (strOfNums (sb b.toNat)) := by
  have := refOne_ev b.toNat (by omega)
  rw [u64_id b h (by omega), show b = ((b.toNat : Nat) : Int) by omega]
  exact this

/-! ### the reference's reader -/
theorem bad_eq (s : ByteArray) (p e n : Int) : haulageref11_R_bad.f s p e n = some (s, p, if e = 0 then n else e) := by
  unfold haulageref11_R_bad.f
  split <;> rfl

/-- A number, read where nothing is wrong yet: what is read, where it stands then, what is wrong. -/
theorem rnumber_ev (s : ByteArray) (p : Nat) (hp : p ≤ s.size) (hs : s.size ≤ 1000000) :
    ∃ q : Int, ((numS (s.extract p s.size)).2.2 = 0 → q = (p : Int) + (numS (s.extract p s.size)).2.1) ∧ Ev (fun k => haulageref11_R_Number.f k s (p : Int) 0 9223372036854775807) ((numS (s.extract p s.size)).1, s, q, (numS (s.extract p s.size)).2.2) := by
  have hsz : (s.extract p s.size).size = s.size - p := by simp
  have hraw : Ev (fun k => haulageref11_R_Raw.f k s (p : Int) 0) ((longS (s.extract p s.size)).1, s, wrap64 ((p : Int) + (longS (s.extract p s.size)).2.1), (longS (s.extract p s.size)).2.2) := by
    unfold haulageref11_R_Raw.f
    refine Ev.congr (fun k => by rw [if_pos rfl, if_pos (by omega), if_pos (by omega), Int.toNat_natCast]) ?_
    refine Ev.bind (refLong_ev _) ?_
    refine Ev.congr (f := fun _ => _) (fun k => by rw [bad_eq, Option.bind_some, if_pos rfl]) ?_
    exact Ev.now _
  have hmax : IntKind.u64.wrap 9223372036854775807 = 9223372036854775807 := by rw [u64_eq]; omega
  unfold haulageref11_R_Number.f numS
  by_cases h : (longS (s.extract p s.size)).2.2 = 0
  · obtain ⟨h1, h2, h3, h4, h5⟩ := longS_two _ h
    have hw : wrap64 ((p : Int) + (longS (s.extract p s.size)).2.1) = (p : Int) + (longS (s.extract p s.size)).2.1 := by unfold wrap64; omega
    rw [hw] at hraw
    refine ⟨(p : Int) + (longS (s.extract p s.size)).2.1, fun h_ => ?_, ?_⟩
    · simp only [if_pos h] at h_ ⊢
      by_cases hv : (longS (s.extract p s.size)).1 < 9223372036854775808
      · rw [if_pos hv]
      · rw [if_neg hv] at h_
        exact absurd h_ (by decide)
    · refine Ev.bind hraw ?_
      refine Ev.congr (fun k => by rw [if_pos h, hmax]) ?_
      simp only [if_pos h]
      by_cases hv : (longS (s.extract p s.size)).1 < 9223372036854775808
      · simp only [if_pos hv]
        refine Ev.step (f := fun _ => _) (fun k => by simp only [haulageref11_R_Number.j0]; rw [if_neg (by simp; omega), if_pos h]) ?_
        rw [show wrap64 (longS (s.extract p s.size)).1 = (longS (s.extract p s.size)).1 by unfold wrap64; omega, h]
        exact Ev.now _
      · simp only [if_neg hv]
        refine Ev.step (f := fun _ => _) (fun k => by simp only [haulageref11_R_Number.j0]; rw [if_pos (by simp; omega), bad_eq, Option.bind_some, h, if_pos rfl]) ?_
        exact Ev.now _
  · obtain ⟨e, _⟩ := longS_err _ h
    refine ⟨wrap64 ((p : Int) + (longS (s.extract p s.size)).2.1), fun h_ => ?_, ?_⟩
    · exact absurd (by simpa only [if_neg h] using h_) h
    · refine Ev.bind hraw ?_
      refine Ev.congr (fun k => by rw [if_neg h]) ?_
      simp only [if_neg h]
      refine Ev.step (f := fun _ => _) (fun k => by simp only [haulageref11_R_Number.j0]; rw [if_neg (by decide), if_neg h]) ?_
      exact Ev.now _
/-- Where something is wrong already nothing is read. -/
theorem rnumber_bad (s : ByteArray) (p e : Int) (he : ¬ e = 0) : Ev (fun k => haulageref11_R_Number.f k s p e 9223372036854775807) (0, s, p, e) := by
  unfold haulageref11_R_Number.f haulageref11_R_Raw.f
  refine Ev.congr (fun k => by rw [if_neg he, Option.bind_some, if_neg he]) ?_
  exact Ev.step (f := fun _ => _) (fun k => by simp only [haulageref11_R_Number.j0]; rw [if_neg (by decide), if_neg he]) (Ev.now _)

theorem cut_cut (s : ByteArray) (p n : Nat) : (s.extract p s.size).extract n (s.extract p s.size).size = s.extract (p + n) s.size := by
  apply byt_inj
  rw [byt_cut, byt_cut, byt_cut, List.drop_drop]

theorem rbyte_ev (s : ByteArray) (lo hi : Int) : Ev (fun k => haulageref11_R_Byte.f k s 0 0 lo hi) (if s.size = 0 then (0, s, 0, 4) else if bt s 0 < lo ∨ bt s 0 > hi then (0, s, 0, 5) else (bt s 0, s, 1, 0)) := by
  unfold haulageref11_R_Byte.f
  have hb := btr s 0
  have hw : wrap64 (bt s 0) = bt s 0 := by unfold wrap64; omega
  by_cases h0 : s.size = 0
  · rw [if_pos h0]
    refine Ev.congr (fun k => by rw [if_pos rfl]) (Ev.step (fun k => by simp only [haulageref11_R_Byte.j0]; rw [if_pos (by rw [decide_eq_true_iff]; omega), bad_eq, Option.bind_some, if_pos rfl]) (Ev.step (f := fun _ => some (0, s, 0, 4)) (fun k => by simp only [haulageref11_R_Byte.j1]; rw [if_neg (show ¬ (4 : Int) = 0 by decide)]) (Ev.now _)))
  · rw [if_neg h0]
    refine Ev.congr (fun k => by rw [if_pos rfl]) (Ev.step (fun k => by simp only [haulageref11_R_Byte.j0]; rw [if_neg (by rw [decide_eq_true_iff]; omega)]) ?_)
    refine Ev.step (f := fun _ => some (if bt s 0 < lo ∨ bt s 0 > hi then (0, s, 0, 5) else (bt s 0, s, 1, 0))) (fun k => ?_) (Ev.now _)
    simp only [haulageref11_R_Byte.j1]
    rw [if_pos (by trivial), if_pos (by omega), if_pos (by omega), hw, bad_eq, Option.bind_some]
    by_cases h1 : bt s 0 < lo
    · rw [if_pos h1, if_pos (show bt s 0 < lo ∨ bt s 0 > hi from .inl h1)]; rfl
    · rw [if_neg h1]
      by_cases h2 : bt s 0 > hi
      · rw [if_pos h2, if_pos (show bt s 0 < lo ∨ bt s 0 > hi from .inr h2)]; rfl
      · rw [if_neg h2, if_neg (by omega), show wrap64 (0 + 1) = 1 by unfold wrap64; omega]


/- piece refrec -/
/-! ### the reference's record -/
theorem rrows_eq (n : Int) : haulageref18_rows.f n = some (rowB n) := by
  unfold haulageref18_rows.f rowB
  by_cases h : n ≥ 2
  · rw [if_pos h]; congr 1; rw [Bool.eq_iff_iff, decide_eq_true_iff, decide_eq_true_iff]; omega
  · rw [if_neg h]; congr 1; symm; simp only [decide_eq_false_iff_not]; omega

theorem rright_ev (a b c : Int) (s : ByteArray) : Ev (fun k => haulageref18_Right.f k a b c s) (rightB a b c s) := by
  have hbad : ¬ (1 ≤ a ∧ a ≤ 8 ∧ 0 ≤ b ∧ 0 ≤ c ∧ (s.size : Int) ≤ 65535) → rightB a b c s = false := fun h => by
    unfold rightB
    simp only [decide_eq_false_iff_not]
    exact fun q => h ⟨q.1, q.2.1, q.2.2.1, q.2.2.2.1, by rcases q.2.2.2.2.2.2 with r | r <;> omega⟩
  have hj : ∀ x : Bool, x = decide (¬ (1 ≤ a ∧ a ≤ 8 ∧ 0 ≤ b ∧ 0 ≤ c ∧ (s.size : Int) ≤ 65535)) → Ev (fun k => haulageref18_Right.j0 k x a b c s) (rightB a b c s) := by
    intro x hx
    refine Ev.step (f := fun _ => some (rightB a b c s)) (fun k => ?_) (Ev.now _)
    simp only [haulageref18_Right.j0]
    by_cases h : 1 ≤ a ∧ a ≤ 8 ∧ 0 ≤ b ∧ 0 ≤ c ∧ (s.size : Int) ≤ 65535
    · rw [hx, if_neg (by rw [decide_eq_true_iff]; exact fun q => q h), rrows_eq]
      simp only [Option.bind_some, nil_iff]
      obtain ⟨h1, h2, h3, h4, h5⟩ := h
      have himg : imgB a = (rowB a || (a == 5)) := by
        unfold imgB rowB
        rw [Bool.eq_iff_iff, Bool.or_eq_true, decide_eq_true_iff, decide_eq_true_iff, beq_iff_eq]
        omega
      unfold rightB
      rw [himg]
      by_cases h8 : a = 8
      · have hr8 : rowB a = false := by rw [h8]; decide
        by_cases hb : b = 0
        · by_cases hc : c = 0
          · by_cases hs : s.size = 0
            · simp [h8, hb, hc, hs]
            · simp [h8, hb, hc, hs, hr8, show rowB 8 = false by decide]
          · simp [h8, hb, hc, show rowB 8 = false by decide]
        · simp [h8, hb]
      · by_cases hc : c = 0
        · by_cases hs : s.size = 0
          · simp [h8, hc, hs, h1, h2, h3]
          · cases hr : rowB a
            · simp [h8, hc, hs, h1, h2, h3, h5, hr]
              rw [Bool.eq_iff_iff, beq_iff_eq, decide_eq_true_iff]
            · simp [h8, hc, hs, h1, h2, h3, h5, hr]
        · cases hr : rowB a
          · simp [h8, hc, hr]
          · by_cases hs : s.size = 0
            · simp [h8, hc, hs, h1, h2, h3, h4, hr]
            · simp [h8, hc, hs, h1, h2, h3, h4, h5, hr]
    · rw [hx, if_pos (by rw [decide_eq_true_iff]; exact h), hbad h]
  unfold haulageref18_Right.f
  by_cases h1 : a < 1
  · exact Ev.congr (fun k => by rw [if_pos h1]) (hj _ (by symm; simp only [decide_eq_true_iff]; omega))
  · by_cases h2 : a > 8
    · exact Ev.congr (fun k => by rw [if_neg h1, if_pos h2]) (hj _ (by symm; simp only [decide_eq_true_iff]; omega))
    · by_cases h3 : b < 0
      · exact Ev.congr (fun k => by rw [if_neg h1, if_neg h2, if_pos h3]) (hj _ (by symm; simp only [decide_eq_true_iff]; omega))
      · by_cases h4 : c < 0
        · exact Ev.congr (fun k => by rw [if_neg h1, if_neg h2, if_neg h3, if_pos h4]) (hj _ (by symm; simp only [decide_eq_true_iff]; omega))
        · refine Ev.congr (fun k => by rw [if_neg h1, if_neg h2, if_neg h3, if_neg h4]) (hj _ ?_)
          rw [Bool.eq_iff_iff, decide_eq_true_iff, decide_eq_true_iff]
          omega

theorem rencode_ev (a b c : Int) (s : ByteArray) (hb : b ≤ 9223372036854775807) (hc : c ≤ 9223372036854775807) (hs : s.size ≤ 1000000) (h : rightB a b c s = true) :
    Ev (fun k => haulageref18_Encode.f k a b c s) (recE a b c s) := by
  have hh := h
  unfold rightB at hh
  rw [decide_eq_true_iff] at hh
  obtain ⟨h1, h2, h3, h4, _⟩ := hh
  have hj : Ev (fun k => haulageref18_Encode.j0 k (strOfNums (recN a b)) a b c s) (recE a b c s) := by
    have hl := recN_len a b h3 hb
    have hz := strOfNums_size (recN a b)
    unfold recE recM
    by_cases hr : rowB a = true
    · refine Ev.step (f := fun k => (haulageref01_One.f k (IntKind.u64.wrap c)).bind fun t126 => _) (fun k => by simp only [haulageref18_Encode.j0]; rw [rrows_eq, Option.bind_some, if_pos hr]) ?_
      refine Ev.bind (one_i c h4 hc) ?_
      have hl2 := sb_len_i c h4 hc
      have hz2 := strOfNums_size (sb c.toNat)
      refine Ev.congr (fun k => by rw [if_pos (by omega), if_pos (by rw [sizeApp]; omega)]) ?_
      rw [if_pos hr]
      exact Ev.now _
    · refine Ev.step (f := fun _ => some (strOfNums (recN a b) ++ s)) (fun k => by simp only [haulageref18_Encode.j0]; rw [rrows_eq, Option.bind_some, if_neg hr, if_pos (by omega)]) ?_
      rw [if_neg hr, show strOfNums [] = ByteArray.empty from rfl, ByteArray.append_empty]
      exact Ev.now _
  unfold haulageref18_Encode.f
  refine Ev.congr (fun k => by rw [Option.bind_some]) ?_
  by_cases h8 : a = 8
  · refine Ev.congr (fun k => by rw [if_pos h8]) ?_
    rw [show recN a b = [a % 256] by unfold recN; rw [if_pos h8]] at hj
    exact hj
  · refine Ev.congr (fun k => by rw [if_neg h8]) ?_
    refine Ev.bind (one_i b h3 hb) ?_
    have hl2 := sb_len_i b h3 hb
    refine Ev.congr (fun k => by rw [if_pos (by rw [strOfNums_size, strOfNums_size]; simp; omega), ← strOfNums_append]) ?_
    rw [show recN a b = [a % 256] ++ sb b.toNat by unfold recN; rw [if_neg h8]; rfl] at hj
    exact hj

theorem rdec_j1 (s : ByteArray) (p : Nat) (hp : p ≤ s.size) (a b c : Int) (z : ByteArray) : Ev (fun k => haulageref18_Decode.j1 k s 0 0 0 (⟨#[]⟩ : ByteArray) s (p : Int) 0 a b c z) (finS a b c (s.extract p s.size)) := by
  have himg : imgB a = (rowB a || (a == 5)) := by
    unfold imgB rowB
    rw [Bool.eq_iff_iff, Bool.or_eq_true, decide_eq_true_iff, decide_eq_true_iff, beq_iff_eq]
    omega
  have hj : ∀ x : Bool, x = decide (¬ (s.extract p s.size).size = 0 ∧ imgB a = false) → Ev (fun k => haulageref18_Decode.j2 k x 0 0 0 (⟨#[]⟩ : ByteArray) a b c (s.extract p s.size)) (finS a b c (s.extract p s.size)) := by
    intro x hx
    refine Ev.step (f := fun _ => some (finS a b c (s.extract p s.size))) (fun k => ?_) (Ev.now _)
    simp only [haulageref18_Decode.j2]
    unfold finS
    by_cases h : ¬ (s.extract p s.size).size = 0 ∧ imgB a = false
    · rw [hx, if_pos (by rw [decide_eq_true_iff]; exact h), if_pos h]
    · rw [hx, if_neg (by rw [decide_eq_true_iff]; exact h), if_neg h]
      split <;> rfl
  by_cases h : (s.extract p s.size).size = 0
  · exact Ev.step (fun k => by simp only [haulageref18_Decode.j1]; rw [if_pos (by trivial), if_pos (by omega), if_pos (by omega), Int.toNat_natCast, if_pos ((nil_iff _).2 h)]) (hj _ (by symm; simp only [decide_eq_false_iff_not]; exact fun q => q.1 h))
  · cases hr : rowB a
    · refine Ev.step (fun k => by simp only [haulageref18_Decode.j1]; rw [if_pos (by trivial), if_pos (by omega), if_pos (by omega), Int.toNat_natCast, if_neg (fun e => h ((nil_iff _).1 e)), rrows_eq, Option.bind_some, hr, if_neg (by decide)]) (hj _ ?_)
      rw [show imgB a = (a == 5) by rw [himg, hr]; rfl, Bool.eq_iff_iff, decide_eq_true_iff, bne_iff_ne, beq_eq_false_iff_ne]
      exact ⟨fun q => ⟨h, q⟩, fun q => q.2⟩
    · refine Ev.step (fun k => by simp only [haulageref18_Decode.j1]; rw [if_pos (by trivial), if_pos (by omega), if_pos (by omega), Int.toNat_natCast, if_neg (fun e => h ((nil_iff _).1 e)), rrows_eq, Option.bind_some, hr, if_pos (by trivial)]) (hj _ ?_)
      rw [himg, hr]
      simp
theorem rdec_j1e (s t : ByteArray) (p e : Int) (he : ¬ e = 0) (a b c : Int) (z : ByteArray) : Ev (fun k => haulageref18_Decode.j1 k s 0 0 0 (⟨#[]⟩ : ByteArray) t p e a b c z) (0, 0, 0, (⟨#[]⟩ : ByteArray), e) :=
  Ev.step (fun k => by simp only [haulageref18_Decode.j1]; rw [if_neg he]) (Ev.now _)
theorem rdec_j0 (s : ByteArray) (p : Nat) (hp : p ≤ s.size) (hs : s.size ≤ 1000000) (a b : Int) (z : ByteArray) : Ev (fun k => haulageref18_Decode.j0 k s 0 0 0 (⟨#[]⟩ : ByteArray) s (p : Int) 0 a b 0 z) (midS a b (s.extract p s.size)) := by
  unfold midS
  by_cases h : rowB a = true
  · rw [if_pos h]
    refine Ev.step (fun k => by simp only [haulageref18_Decode.j0]; rw [rrows_eq, Option.bind_some, if_pos h]) ?_
    obtain ⟨q, hq, hev⟩ := rnumber_ev s p hp hs
    refine Ev.bind hev ?_
    by_cases he : (numS (s.extract p s.size)).2.2 = 0
    · rw [if_pos he]
      have e := hq he
      subst e
      simp only [he]
      unfold numR
      rw [if_pos he, cut_cut]
      have hsz : (s.extract p s.size).size = s.size - p := by simp
      have hn : 0 ≤ (numS (s.extract p s.size)).2.1 ∧ (numS (s.extract p s.size)).2.1 ≤ ((s.extract p s.size).size : Int) := by
        unfold numS
        by_cases hl : (longS (s.extract p s.size)).2.2 = 0
        · obtain ⟨h1, h2, h3, h4, h5⟩ := longS_two _ hl
          simp only [if_pos hl]
          split <;> omega
        · simp only [if_neg hl]
          omega
      rw [show (p : Int) + (numS (s.extract p s.size)).2.1 = ((p + (numS (s.extract p s.size)).2.1.toNat : Nat) : Int) by omega]
      exact rdec_j1 s _ (by omega) _ _ _ _
    · rw [if_neg he]
      exact rdec_j1e _ _ _ _ he _ _ _ _
  · rw [if_neg h]
    exact Ev.step (fun k => by simp only [haulageref18_Decode.j0]; rw [rrows_eq, Option.bind_some, if_neg h]) (rdec_j1 s p hp _ _ _ _)
theorem rdec_j0e (s t : ByteArray) (p e : Int) (he : ¬ e = 0) (a b c : Int) (z : ByteArray) : Ev (fun k => haulageref18_Decode.j0 k s 0 0 0 (⟨#[]⟩ : ByteArray) t p e a b c z) (0, 0, 0, (⟨#[]⟩ : ByteArray), e) := by
  by_cases h : rowB a = true
  · refine Ev.step (fun k => by simp only [haulageref18_Decode.j0]; rw [rrows_eq, Option.bind_some, if_pos h]) ?_
    refine Ev.bind (rnumber_bad t p e he) ?_
    exact rdec_j1e _ _ _ _ he _ _ _ _
  · exact Ev.step (fun k => by simp only [haulageref18_Decode.j0]; rw [rrows_eq, Option.bind_some, if_neg h]) (rdec_j1e _ _ _ _ he _ _ _ _)

theorem rdecode_ev (s : ByteArray) (hs : s.size ≤ 1000000) : Ev (fun k => haulageref18_Decode.f k s) (decS s) := by
  unfold haulageref18_Decode.f
  refine Ev.bind (rbyte_ev s 1 8) ?_
  unfold decS
  by_cases h0 : s.size = 0
  · simp only [if_pos h0]
    refine Ev.congr (fun k => by rw [if_neg (show ¬ (0 : Int) = 8 by decide)]) ?_
    refine Ev.bind (rnumber_bad s 0 4 (by decide)) ?_
    exact rdec_j0e _ _ _ 4 (by decide) _ _ _ _
  · simp only [if_neg h0]
    by_cases hk : bt s 0 < 1 ∨ bt s 0 > 8
    · simp only [if_pos hk]
      refine Ev.congr (fun k => by rw [if_neg (show ¬ (0 : Int) = 8 by decide)]) ?_
      refine Ev.bind (rnumber_bad s 0 5 (by decide)) ?_
      exact rdec_j0e _ _ _ 5 (by decide) _ _ _ _
    · simp only [if_neg hk]
      by_cases h8 : bt s 0 = 8
      · simp only [if_pos h8]
        have := rdec_j0 s 1 (by omega) hs (bt s 0) 0 ⟨#[]⟩
        rw [h8] at this ⊢
        exact this
      · simp only [if_neg h8]
        obtain ⟨q, hq, hev⟩ := rnumber_ev s 1 (by omega) hs
        refine Ev.bind hev ?_
        by_cases he : (numS (s.extract 1 s.size)).2.2 = 0
        · rw [if_pos he]
          have e := hq he
          subst e
          simp only [he]
          unfold numR
          rw [if_pos he, cut_cut]
          have hsz : (s.extract 1 s.size).size = s.size - 1 := by simp
          have hn : 0 ≤ (numS (s.extract 1 s.size)).2.1 ∧ (numS (s.extract 1 s.size)).2.1 ≤ ((s.extract 1 s.size).size : Int) := by
            unfold numS
            by_cases hl : (longS (s.extract 1 s.size)).2.2 = 0
            · obtain ⟨h1, h2, h3, h4, h5⟩ := longS_two _ hl
              simp only [if_pos hl]
              split <;> omega
            · simp only [if_neg hl]
              omega
          rw [show ((1 : Nat) : Int) + (numS (s.extract 1 s.size)).2.1 = ((1 + (numS (s.extract 1 s.size)).2.1.toNat : Nat) : Int) by omega]
          exact rdec_j0 s _ (by omega) hs _ _ _
        · rw [if_neg he]
          exact rdec_j0e _ _ _ _ he _ _ _ _

theorem lives_ev : Ev (fun k => haulagelaw18_lives.f k) true := Ev.of haulagelaw18_lives.mono (k := 30) (by decide +kernel)

theorem haulagelaw18_WalrecBytes : ∀ (a0_0 : Int) (a0_1 : Int) (a0_2 : Int) (a0_3 : ByteArray) (a1 : ByteArray), (Lit.int .i64 a0_0).wf = true → (Lit.int .i64 a0_1).wf = true → (Lit.int .i64 a0_2).wf = true → a0_3.size ≤ maxLen → a1.size ≤ 140737488351232 → ∃ k, haulagelaw18_WalrecBytes.f k a0_0 a0_1 a0_2 a0_3 a1 = some true := by
  intro a b c z s ha hb hc hz hs
  replace ha := wf_i64 ha
  replace hb := wf_i64 hb
  replace hc := wf_i64 hc
  refine Ev.rounds (r := true) ?_
  unfold haulagelaw18_WalrecBytes.f
  refine Ev.bind lives_ev ?_
  refine Ev.congr (fun k => by rw [if_pos rfl]) ?_
  unfold haulagelaw18_Few.f
  refine Ev.congr (fun k => by rw [Option.bind_some]) ?_
  by_cases h1 : (z.size : Int) ≤ 70000
  · refine Ev.congr (fun k => by rw [if_pos (by simpa using h1)]) ?_
    by_cases h2 : (s.size : Int) > 70000
    · exact Ev.step (fun k => by simp only [haulagelaw18_WalrecBytes.j0]; rw [if_pos (by simpa using h2)]) (Ev.now _)
    · refine Ev.step (fun k => by simp only [haulagelaw18_WalrecBytes.j0]; rw [if_neg (by simpa using h2)]) ?_
      refine Ev.bind (encode_ev a b c z hb.2 hc.2 (by omega)) ?_
      refine Ev.bind (decode_ev s) ?_
      refine Ev.bind (rdecode_ev s (by omega)) ?_
      refine Ev.bind (rright_ev a b c z) ?_
      refine Ev.bind (right_ev a b c z) ?_
      refine Ev.congr (fun k => by rw [if_neg (by simp), if_neg (by simp)]) ?_
      refine Ev.step (fun k => by simp only [haulagelaw18_WalrecBytes.j1]; rw [if_neg (by simp)]) ?_
      by_cases hr : rightB a b c z = true
      · refine Ev.congr (fun k => by rw [if_pos hr]) ?_
        refine Ev.bind (rencode_ev a b c z hb.2 hc.2 (by omega) hr) ?_
        refine Ev.congr (f := fun _ => some true) (fun k => ?_) (Ev.now _)
        simp only [if_pos hr]
        rfl
      · refine Ev.congr (f := fun _ => some true) (fun k => ?_) (Ev.now _)
        simp only [if_neg hr]
        rw [if_pos ((nil_iff ⟨#[]⟩).2 rfl)]
        rfl
  · refine Ev.congr (fun k => by rw [if_neg (by simpa using h1)]) ?_
    exact Ev.step (fun k => by simp only [haulagelaw18_WalrecBytes.j0]; rw [if_pos (by trivial)]) (Ev.now _)

end Go.Proofs.YtjkjpjbohiggaabDoor.Pure

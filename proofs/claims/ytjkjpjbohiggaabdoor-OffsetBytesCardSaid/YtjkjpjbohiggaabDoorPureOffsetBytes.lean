/- For every offset and every text: whether it is right, its bytes, and the offset of any text, or why none, are what the reference says, and lead back; no condition but that the table holds what the program's text lays in it. -/
import Derived.Test.YtjkjpjbohiggaabDoorHOffsetBytesx7
set_option linter.unusedVariables false
set_option linter.unusedSimpArgs false
namespace Go.Proofs.YtjkjpjbohiggaabDoor.Pure
open Go.RowKit Go.Proofs.YtjkjpjbohiggaabDoor.HOffsetBytes Go.Proofs.YtjkjpjbohiggaabDoorW.PrintWords Go.Proofs.YtjkjpjbohiggaabDoorW.PrintLast Go.Proofs.YtjkjpjbohiggaabDoorW.PrintMore
/- piece base -/
theorem tmod_nonneg_eq (a b : Int) (ha : 0 ≤ a) : Int.tmod a b = a % b := Int.tmod_eq_emod_of_nonneg ha
theorem tdiv_nonneg_eq (a b : Int) (ha : 0 ≤ a) : Int.tdiv a b = a / b := Int.tdiv_eq_ediv_of_nonneg ha
theorem u64_id (n : Int) (h0 : 0 ≤ n) (h1 : n < 18446744073709551616) : IntKind.u64.wrap n = n := by
  simp only [IntKind.wrap, IntKind.bits, IntKind.signed]
  simp
  omega

theorem i64_eq (n : Int) : IntKind.i64.wrap n = wrap64 n := by unfold wrap64; exact Go.IntKind.wrap_i64 n
theorem u64_eq (n : Int) : IntKind.u64.wrap n = n % 18446744073709551616 := by simp [IntKind.wrap, IntKind.bits, IntKind.signed]

theorem wf_parts {k : IntKind} {x : Int} (h : (Lit.int k x).wf = true) : k.min ≤ x ∧ x ≤ k.max := by
  unfold Lit.wf at h
  rw [Bool.and_eq_true, decide_eq_true_eq, decide_eq_true_eq] at h
  exact h
theorem wf_i64 {x : Int} (h : (Lit.int .i64 x).wf = true) : -9223372036854775808 ≤ x ∧ x ≤ 9223372036854775807 := by
  have := wf_parts h
  rw [show IntKind.min .i64 = -9223372036854775808 by decide, show IntKind.max .i64 = 9223372036854775807 by decide] at this
  exact this
theorem wf_u64 {x : Int} (h : (Lit.int .u64 x).wf = true) : 0 ≤ x ∧ x ≤ 18446744073709551615 := by
  have := wf_parts h
  rw [show IntKind.min .u64 = 0 by decide, show IntKind.max .u64 = 18446744073709551615 by decide] at this
  exact this
theorem wf_u32 {x : Int} (h : (Lit.int .u32 x).wf = true) : 0 ≤ x ∧ x ≤ 4294967295 := by
  have := wf_parts h
  rw [show IntKind.min .u32 = 0 by decide, show IntKind.max .u32 = 4294967295 by decide] at this
  exact this
theorem wf_u16 {x : Int} (h : (Lit.int .u16 x).wf = true) : 0 ≤ x ∧ x ≤ 65535 := by
  have := wf_parts h
  rw [show IntKind.min .u16 = 0 by decide, show IntKind.max .u16 = 65535 by decide] at this
  exact this
theorem wf_u8 {x : Int} (h : (Lit.int .u8 x).wf = true) : 0 ≤ x ∧ x ≤ 255 := by
  have := wf_parts h
  rw [show IntKind.min .u8 = 0 by decide, show IntKind.max .u8 = 255 by decide] at this
  exact this

/- piece byt -/
/-! ### a text as a list of numbers -/
def byt (s : ByteArray) : List Int := s.data.toList.map fun c => (c.toNat : Int)
/-- All are bytes. -/
def Bytes (l : List Int) : Prop := ∀ x ∈ l, 0 ≤ x ∧ x ≤ 255

theorem byt_len (s : ByteArray) : (byt s).length = s.size := by
  unfold byt
  rw [List.length_map, Array.length_toList]
  rfl
theorem byt_bytes (s : ByteArray) : Bytes (byt s) := by
  intro x hx
  obtain ⟨c, _, rfl⟩ := List.mem_map.1 hx
  have := c.toNat_lt
  omega
theorem str_byt (s : ByteArray) : strOfNums (byt s) = s := by
  apply ByteArray.ext
  unfold strOfNums byt
  rw [List.map_map]
  have : ((fun n : Int => UInt8.ofNat n.toNat) ∘ fun c : UInt8 => (c.toNat : Int)) = id := by
    funext c
    simp
  rw [this]
  simp
theorem byt_str {l : List Int} (h : Bytes l) : byt (strOfNums l) = l := by
  unfold strOfNums byt
  rw [List.toList_toArray, List.map_map]
  have : ∀ x ∈ l, ((fun c : UInt8 => (c.toNat : Int)) ∘ fun n : Int => UInt8.ofNat n.toNat) x = x := by
    intro x hx
    have := h x hx
    simp only [Function.comp]
    rw [UInt8.toNat_ofNat', Nat.mod_eq_of_lt (by omega)]
    omega
  rw [List.map_congr_left this]
  simp
theorem byt_append (a b : ByteArray) : byt (a ++ b) = byt a ++ byt b := by
  unfold byt
  rw [show (a ++ b).data.toList = a.data.toList ++ b.data.toList by simp, List.map_append]
theorem byt_inj {a b : ByteArray} (h : byt a = byt b) : a = b := by rw [← str_byt a, h, str_byt]
theorem byt_extract (s : ByteArray) (a b : Nat) : byt (s.extract a b) = ((byt s).drop a).take (b - a) := by
  unfold byt
  rw [show (s.extract a b).data.toList = (s.data.toList.drop a).take (b - a) by simp [ByteArray.data_extract, Array.toList_extract, List.extract_eq_take_drop], List.map_take, List.map_drop]
theorem byt_cut (s : ByteArray) (a : Nat) : byt (s.extract a s.size) = (byt s).drop a := by
  rw [byt_extract, ← byt_len, List.take_of_length_le (by simp)]
theorem byt_to (s : ByteArray) (b : Nat) : byt (s.extract 0 b) = (byt s).take b := by
  rw [byt_extract]; simp
theorem bt_byt (s : ByteArray) (i : Nat) (h : i < s.size) : bt s (i : Int) = (byt s)[i]'(by rw [byt_len]; exact h) := by
  unfold bt byt
  simp [h]
  rfl
theorem Bytes.append {a b : List Int} (h : Bytes a) (k : Bytes b) : Bytes (a ++ b) := by
  intro x hx
  rcases List.mem_append.1 hx with h1 | h1
  · exact h x h1
  · exact k x h1
theorem Bytes.take {a : List Int} (h : Bytes a) (n : Nat) : Bytes (a.take n) := fun x hx => h x (List.mem_of_mem_take hx)
theorem Bytes.drop {a : List Int} (h : Bytes a) (n : Nat) : Bytes (a.drop n) := fun x hx => h x (List.mem_of_mem_drop hx)
theorem toList_eq_iff (a b : ByteArray) : a.toList = b.toList ↔ a = b := by
  rw [ByteArray.toList_eq, ByteArray.toList_eq]
  exact ⟨fun h => ByteArray.ext (Array.toList_inj.1 h), fun h => by rw [h]⟩
theorem beq_toList (a b : ByteArray) : (a.toList == b.toList) = decide (a = b) := by
  rw [Bool.eq_iff_iff, beq_iff_eq, decide_eq_true_iff, toList_eq_iff]

/- piece short -/
/-! ### short bytes -/
/-- The short bytes of a number. -/
def sb (n : Nat) : List Int := if n < 128 then [(n : Int)] else (((n % 128 + 128 : Nat) : Int)) :: sb (n / 128)
termination_by n
decreasing_by omega

theorem sb_small {n : Nat} (h : n < 128) : sb n = [(n : Int)] := by rw [sb, if_pos h]
theorem sb_big {n : Nat} (h : ¬ n < 128) : sb n = (((n % 128 + 128 : Nat) : Int)) :: sb (n / 128) := by rw [sb, if_neg h]

theorem sb_len (m : Nat) : ∀ n, n < 128 ^ (m + 1) → (sb n).length ≤ m + 1 := by
  induction m with
  | zero => intro n h; rw [sb_small (by simpa using h)]; simp
  | succ m ih =>
    intro n h
    by_cases h1 : n < 128
    · rw [sb_small h1]; simp
    · rw [sb_big h1]
      have : n / 128 < 128 ^ (m + 1) := by
        rw [Nat.div_lt_iff_lt_mul (by decide)]
        rw [Nat.pow_succ] at h
        exact h
      have := ih _ this
      simp only [List.length_cons]
      omega

theorem sb_len10 {n : Nat} (h : n < 18446744073709551616) : (sb n).length ≤ 10 := sb_len 9 n (Nat.lt_of_lt_of_le h (by decide))
theorem sb_pos (n : Nat) : 0 < (sb n).length := by
  by_cases h : n < 128
  · rw [sb_small h]; simp
  · rw [sb_big h]; simp

theorem or128_fin : ∀ a : Fin 256, (a.val ||| 128) = a.val % 128 + 128 := by decide +kernel

theorem or128 (x : Int) (h : 0 ≤ x) : Go.bits .or .u8 (x % 256) 128 = x % 128 + 128 := by
  obtain ⟨n, rfl⟩ := Int.eq_ofNat_of_zero_le h
  have e : ((n : Int) % 256) = ((n % 256 : Nat) : Int) := by omega
  have := (Go.bits_nat .u8 8 (by decide) Go.wraps_u8 (n % 256) 128 (by omega) (by decide)).2
  rw [e]
  refine this.trans ?_
  have h2 := or128_fin ⟨n % 256, by omega⟩
  simp only at h2
  rw [h2]
  omega

theorem short_l1 (l : List Int) (len i : Int) (r : ByteArray) (n : Nat) : ∀ acc : List Int, acc.length + (sb n).length ≤ 140737488355328 →
    Ev (fun k => word_Short.l0 k (acc ++ sb n) l len (wrap64 (i + 1))) r → Ev (fun k => word_Short.l1 k acc (n : Int) l len i) r := by
  induction n using Nat.strongRecOn with
  | _ n ih =>
    intro acc hb hk
    by_cases h : n < 128
    · rw [sb_small h] at hb hk
      simp only [List.length_cons, List.length_nil] at hb
      refine Ev.step (f := fun k => word_Short.l0 k (acc ++ [(n : Int)]) l len (wrap64 (i + 1))) (fun k => ?_) hk
      simp only [word_Short.l1]
      rw [if_neg (by omega), if_pos (by omega), show ((n : Int) % 256) = n by omega]
    · rw [sb_big h] at hb hk
      simp only [List.length_cons] at hb
      refine Ev.step (f := fun k => word_Short.l1 k (acc ++ [((n % 128 + 128 : Nat) : Int)]) ((n / 128 : Nat) : Int) l len i) (fun k => ?_) (ih (n / 128) (by omega) _ (by simp only [List.length_append, List.length_cons, List.length_nil]; omega) ?_)
      · simp only [word_Short.l1]
        rw [if_pos (by omega), if_pos (by omega), or128 _ (by omega), show ((n : Int) % 128 + 128) = ((n % 128 + 128 : Nat) : Int) by omega, show ((n : Int) / 128) = ((n / 128 : Nat) : Int) by omega]
      · rw [List.append_assoc]; exact hk

/-- The short bytes of several. -/
def sbs (l : List Int) : List Int := l.flatMap fun x => sb x.toNat

theorem sbs_cons (x : Int) (l : List Int) : sbs (x :: l) = sb x.toNat ++ sbs l := by simp [sbs]
theorem sbs_len (l : List Int) (h : ∀ x ∈ l, 0 ≤ x ∧ x < 18446744073709551616) : (sbs l).length ≤ 10 * l.length := by
  induction l with
  | nil => simp [sbs]
  | cons x l ih =>
    have := ih (fun y hy => h y (by simp [hy]))
    have h1 := h x (by simp)
    have := sb_len10 (n := x.toNat) (by omega)
    rw [sbs_cons]
    simp only [List.length_append, List.length_cons]
    omega

theorem rd_at (l : List Int) (i : Nat) (h : i < l.length) : rd l (i : Int) = l[i] := by
  simp [rd, h]

theorem short_l0 (l : List Int) (hl : l.length ≤ 1000000000000) (hr : ∀ x ∈ l, 0 ≤ x ∧ x < 18446744073709551616) (d : Nat) : ∀ (i : Nat) (acc : List Int), l.length = i + d → acc.length ≤ 10 * i →
    Ev (fun k => word_Short.l0 k acc l (l.length : Int) (i : Int)) (strOfNums (acc ++ sbs (l.drop i))) := by
  induction d with
  | zero =>
    intro i acc hi ha
    refine Ev.step (f := fun _ => some (strOfNums acc)) (fun k => ?_) ?_
    · simp only [word_Short.l0]
      rw [if_neg (by omega)]
    · rw [show l.drop i = [] from List.drop_eq_nil_of_le (by omega)]
      simpa [sbs] using Ev.now (strOfNums acc)
  | succ d ih =>
    intro i acc hi ha
    have hlt : i < l.length := by omega
    have hx := hr l[i] (List.getElem_mem hlt)
    have h10 := sb_len10 (n := l[i].toNat) (by omega)
    refine Ev.step (f := fun k => word_Short.l1 k acc ((l[i].toNat : Nat) : Int) l (l.length : Int) (i : Int)) (fun k => ?_) ?_
    · simp only [word_Short.l0]
      rw [if_pos (by omega), if_pos (by omega), if_pos (by omega), rd_at l i hlt, show ((l[i].toNat : Nat) : Int) = l[i] by omega]
    · refine short_l1 l _ _ _ _ _ (by omega) ?_
      have := ih (i + 1) (acc ++ sb l[i].toNat) (by omega) (by simp only [List.length_append]; omega)
      rw [show l.drop i = l[i] :: l.drop (i + 1) from List.drop_eq_getElem_cons hlt, sbs_cons, ← List.append_assoc]
      rw [show wrap64 ((i : Int) + 1) = ((i + 1 : Nat) : Int) by unfold wrap64; omega]
      exact this

theorem word_Short_ev (l : List Int) (hl : l.length ≤ 1000000000000) (hr : ∀ x ∈ l, 0 ≤ x ∧ x < 18446744073709551616) :
    Ev (fun k => word_Short.f k l) (strOfNums (sbs l)) := by
  have := short_l0 l hl hr l.length 0 [] (by omega) (by simp)
  simpa [word_Short.f] using this

theorem strOfNums_append (a b : List Int) : strOfNums (a ++ b) = strOfNums a ++ strOfNums b := by
  apply ByteArray.ext
  simp [strOfNums]
theorem strOfNums_size (a : List Int) : (strOfNums a).size = a.length := by simp [strOfNums, ByteArray.size]


/- piece refword -/
theorem refOne_ev (n : Nat) : n < 18446744073709551616 → Ev (fun k => haulageref01_One.f k (n : Int)) (strOfNums (sb n)) := by
  induction n using Nat.strongRecOn with
  | _ n ih =>
    intro hn
    by_cases h : n < 128
    · rw [sb_small h]
      refine Ev.step (f := fun _ => some (strOfNums [(n : Int)])) (fun k => ?_) (Ev.now _)
      simp only [haulageref01_One.f]
      rw [if_pos (by omega), show ((n : Int) % 256) = n by omega]
    · rw [sb_big h]
      refine Ev.step (f := fun k => (haulageref01_One.f k ((n / 128 : Nat) : Int)).bind fun t => if (strOfNums [((n % 128 + 128 : Nat) : Int)]).size + t.size ≤ 9223372036854775807 then some (strOfNums [((n % 128 + 128 : Nat) : Int)] ++ t) else none) (fun k => ?_) ?_
      · simp only [haulageref01_One.f, Option.bind_some]
        rw [if_neg (by omega), tmod_nonneg_eq _ _ (by omega), tdiv_nonneg_eq _ _ (by omega), u64_id _ (by omega) (by omega), u64_id _ (by omega) (by omega),
          show (((n : Int) % 128 + 128) % 256) = ((n % 128 + 128 : Nat) : Int) by omega, show ((n : Int) / 128) = ((n / 128 : Nat) : Int) by omega]
      · refine Ev.bind (ih (n / 128) (by omega) (by omega)) ?_
        have := sb_len10 (n := n / 128) (by omega)
        rw [if_pos (by rw [strOfNums_size, strOfNums_size]; simp only [List.length_cons, List.length_nil]; omega)]
        rw [← strOfNums_append]
        exact Ev.now _

/- piece long -/
/-! ### the number that a text begins with -/
theorem btr (s : ByteArray) (i : Int) : 0 ≤ bt s i ∧ bt s i ≤ 255 := bt_range s i

/-- The number of the first bytes' low seven bits. -/
def val (s : ByteArray) : Nat → Int
  | 0 => 0
  | i + 1 => val s i + bt s (i : Int) % 128 * 128 ^ i

theorem p128_pos (i : Nat) : (0 : Int) < 128 ^ i := Int.pow_pos (by decide)

theorem val_range (s : ByteArray) (i : Nat) : 0 ≤ val s i ∧ val s i < 128 ^ i := by
  induction i with
  | zero => simp [val]
  | succ i ih =>
    have hp := p128_pos i
    have h1 : 0 ≤ bt s (i : Int) % 128 := by omega
    have h2 : bt s (i : Int) % 128 ≤ 127 := by omega
    have h3 : 0 ≤ bt s (i : Int) % 128 * 128 ^ i := Int.mul_nonneg h1 (Int.le_of_lt hp)
    have h4 : bt s (i : Int) % 128 * 128 ^ i ≤ 127 * 128 ^ i := Int.mul_le_mul_of_nonneg_right h2 (Int.le_of_lt hp)
    simp only [val, Int.pow_succ]
    omega

/-- How many short bytes a text begins with, from a place on; or the error's number. -/
def ends (s : ByteArray) (i : Nat) : Int × Int :=
  if _h : i < s.size ∧ i < 10 then
    if bt s (i : Int) < 128 then (if (0 < i ∧ bt s (i : Int) = 0) ∨ (i = 9 ∧ 1 < bt s (i : Int)) then (0, 5) else (((i + 1 : Nat) : Int), 0)) else ends s (i + 1)
  else if s.size < 10 then (0, 4) else (0, 5)
termination_by 10 - i
decreasing_by omega

theorem ends_stop {s : ByteArray} {i : Nat} (h : ¬ (i < s.size ∧ i < 10)) : ends s i = if s.size < 10 then (0, 4) else (0, 5) := by rw [ends, dif_neg h]
theorem ends_more {s : ByteArray} {i : Nat} (h : i < s.size ∧ i < 10) (hc : ¬ bt s (i : Int) < 128) : ends s i = ends s (i + 1) := by rw [ends, dif_pos h, if_neg hc]
theorem ends_last {s : ByteArray} {i : Nat} (h : i < s.size ∧ i < 10) (hc : bt s (i : Int) < 128) : ends s i = if (0 < i ∧ bt s (i : Int) = 0) ∨ (i = 9 ∧ 1 < bt s (i : Int)) then (0, 5) else (((i + 1 : Nat) : Int), 0) := by rw [ends, dif_pos h, if_pos hc]

/-- What is known where it ends. -/
theorem ends_ok (s : ByteArray) (d : Nat) : ∀ i, i + d = 10 → (ends s i).2 = 0 → ∃ m : Nat, (ends s i).1 = ((m + 1 : Nat) : Int) ∧ i ≤ m ∧ m < 10 ∧ m < s.size ∧ bt s (m : Int) < 128 ∧ (0 < m → bt s (m : Int) ≠ 0) ∧ (m = 9 → bt s (m : Int) ≤ 1) ∧ ∀ j : Nat, i ≤ j → j < m → 128 ≤ bt s (j : Int) := by
  induction d with
  | zero =>
    intro i hi h
    rw [ends_stop (by omega)] at h
    split at h <;> simp at h
  | succ d ih =>
    intro i hi h
    by_cases h1 : i < s.size ∧ i < 10
    · by_cases hc : bt s (i : Int) < 128
      · rw [ends_last h1 hc] at h ⊢
        split at h
        · simp at h
        · rename_i hn
          rw [if_neg hn]
          exact ⟨i, rfl, Nat.le_refl _, h1.2, h1.1, hc, fun h0 h2 => hn (.inl ⟨h0, h2⟩), fun h9 => by
            by_cases h : 1 < bt s (i : Int)
            · exact absurd (.inr ⟨h9, h⟩) hn
            · omega, fun j hj hj' => by omega⟩
      · rw [ends_more h1 hc] at h ⊢
        obtain ⟨m, e, h2, h3, h4, h5, h6, h7, h8⟩ := ih (i + 1) (by omega) h
        exact ⟨m, e, by omega, h3, h4, h5, h6, h7, fun j hj hj' => by
          by_cases e : j = i
          · subst e; omega
          · exact h8 j (by omega) hj'⟩
    · rw [ends_stop h1] at h
      split at h <;> simp at h

theorem ends_err (s : ByteArray) (d : Nat) : ∀ i, i + d = 10 → (ends s i).2 ≠ 0 → (ends s i).1 = 0 ∧ ((ends s i).2 = 4 ∨ (ends s i).2 = 5) := by
  induction d with
  | zero =>
    intro i hi h
    rw [ends_stop (by omega)] at h ⊢
    split <;> simp
  | succ d ih =>
    intro i hi h
    by_cases h1 : i < s.size ∧ i < 10
    · by_cases hc : bt s (i : Int) < 128
      · rw [ends_last h1 hc] at h ⊢
        split at h
        · rename_i hn; rw [if_pos hn]; simp
        · simp at h
      · rw [ends_more h1 hc] at h ⊢
        exact ih (i + 1) (by omega) h
    · rw [ends_stop h1] at h ⊢
      split <;> simp

/-- The number that a text begins with, how many bytes; or the error's number. -/
def longS (s : ByteArray) : Int × Int × Int := if (ends s 0).2 = 0 then (val s (ends s 0).1.toNat, (ends s 0).1, 0) else (0, 0, (ends s 0).2)

theorem val_lt (s : ByteArray) (m : Nat) (h : m < 10) (h9 : m = 9 → bt s (m : Int) ≤ 1) (hc : bt s (m : Int) < 128) : 0 ≤ val s (m + 1) ∧ val s (m + 1) < 18446744073709551616 := by
  refine ⟨(val_range s (m + 1)).1, ?_⟩
  by_cases e : m = 9
  · subst e
    have h1 := val_range s 9
    have h2 := h9 rfl
    have h3 := btr s ((9 : Nat) : Int)
    simp only [val] at h1 ⊢
    have : (128 : Int) ^ 9 = 9223372036854775808 := by decide
    simp only [this] at h1 ⊢
    omega
  · have h1 := (val_range s (m + 1)).2
    have h2 : (128 : Int) ^ (m + 1) ≤ 128 ^ 9 := by
      have : (128 : Nat) ^ (m + 1) ≤ 128 ^ 9 := Nat.pow_le_pow_right (by decide) (by omega)
      exact_mod_cast this
    have : (128 : Int) ^ 9 = 9223372036854775808 := by decide
    omega

theorem longS_ok (s : ByteArray) (h : (longS s).2.2 = 0) : ∃ m : Nat, longS s = (val s (m + 1), ((m + 1 : Nat) : Int), 0) ∧ m < 10 ∧ m < s.size ∧ 0 ≤ val s (m + 1) ∧ val s (m + 1) < 18446744073709551616 ∧ bt s (m : Int) < 128 ∧ (0 < m → bt s (m : Int) ≠ 0) ∧ (∀ j : Nat, j < m → 128 ≤ bt s (j : Int)) := by
  unfold longS at h ⊢
  by_cases e : (ends s 0).2 = 0
  · obtain ⟨m, e1, _, h3, h4, h5, h6, h7, h8⟩ := ends_ok s 10 0 rfl e
    have hv := val_lt s m h3 h7 h5
    rw [if_pos e, e1]
    exact ⟨m, by simp, h3, h4, hv.1, hv.2, h5, h6, fun j hj => h8 j (Nat.zero_le _) hj⟩
  · rw [if_neg e] at h
    exact absurd h e
theorem longS_err (s : ByteArray) (h : (longS s).2.2 ≠ 0) : longS s = (0, 0, (longS s).2.2) ∧ ((longS s).2.2 = 4 ∨ (longS s).2.2 = 5) := by
  unfold longS at h ⊢
  by_cases e : (ends s 0).2 = 0
  · rw [if_pos e] at h
    exact absurd rfl h
  · rw [if_neg e]
    exact ⟨rfl, (ends_err s 10 0 rfl e).2⟩

theorem or_comm_u64 (x y : Int) : Go.bits .or .u64 x y = Go.bits .or .u64 y x := by
  unfold Go.bits
  simp only
  rw [BitVec.or_comm]

theorem wraps_u64 (n : Int) (h0 : 0 ≤ n) (h1 : n < 2 ^ 64) : IntKind.u64.wrap n = n := by
  simp only [IntKind.wrap, IntKind.bits, IntKind.signed]
  simp
  omega

theorem p128 (i : Nat) : (128 : Int) ^ i = 2 ^ (7 * i) := by
  rw [show (128 : Int) = 2 ^ 7 by decide, ← Int.pow_mul]

theorem or_shl (a c : Int) (i : Nat) (hi : i ≤ 9) (ha0 : 0 ≤ a) (ha : a < 128 ^ i) (hc0 : 0 ≤ c) (hc1 : c ≤ 255) (hcc : c % 128 * 128 ^ i < 18446744073709551616) :
    Go.bits .or .u64 a (shl .u64 (IntKind.u64.wrap (Go.bits .and .u8 c 127)) (wrap64 (7 * (i : Int)))) = a + c % 128 * 128 ^ i := by
  have hm : Go.bits .and .u8 c 127 = c % 128 := Go.bits_mask .u8 8 (by decide) Go.wraps_u8 7 (by decide) c hc0 (by omega)
  have hp := p128_pos i
  have h1 : 0 ≤ c % 128 := by omega
  have h3 : 0 ≤ c % 128 * 128 ^ i := Int.mul_nonneg h1 (Int.le_of_lt hp)
  have e64 : (2 : Int) ^ 64 = 18446744073709551616 := by decide
  have hw : wrap64 (7 * (i : Int)) = ((7 * i : Nat) : Int) := by unfold wrap64; omega
  have hs : shl .u64 (IntKind.u64.wrap (Go.bits .and .u8 c 127)) (wrap64 (7 * (i : Int))) = c % 128 * 128 ^ i := by
    unfold shl
    rw [hm, hw, wraps_u64 (c % 128) h1 (by omega)]
    have : min (((7 * i : Nat) : Int)).toNat (IntKind.bits .u64) = 7 * i := by simp [IntKind.bits]; omega
    rw [this, ← p128]
    exact wraps_u64 _ h3 (by omega)
  rw [hs, or_comm_u64]
  have hlt : a < 18446744073709551616 := by
    have h2 : (128 : Int) ^ i ≤ 128 ^ 9 := by
      have : (128 : Nat) ^ i ≤ 128 ^ 9 := Nat.pow_le_pow_right (by decide) hi
      exact_mod_cast this
    have : (128 : Int) ^ 9 = 9223372036854775808 := by decide
    omega
  rw [Go.bits_join .u64 64 (by decide) wraps_u64 (7 * i) (c % 128 * 128 ^ i) a h3 (by rw [p128]; exact Int.mul_emod_left _ _) (by omega) ha0 (by rw [← p128]; exact ha) (by omega)]
  omega

theorem long_stop (s : ByteArray) (a : Int) (i : Nat) (b : Bool) (hb : b = decide ((i : Int) < 10)) (h : ¬ (i < s.size ∧ i < 10)) :
    Ev (fun k => word_Long.l0 k s a (i : Int)) (0, 0, if s.size < 10 then 4 else 5) := by
  refine Ev.step (f := fun k => word_Long.j1 k s a (i : Int) false) (fun k => ?_) (Ev.step (f := fun _ => some (0, 0, if s.size < 10 then 4 else 5)) (fun k => ?_) (Ev.now _))
  · simp only [word_Long.l0]
    by_cases h1 : i < s.size
    · rw [if_pos (by omega), show decide ((i : Int) < 10) = false by simp; omega]
    · rw [if_neg (by omega)]
  · simp only [word_Long.j1]
    rw [if_neg (by decide)]
    by_cases h1 : s.size < 10
    · rw [if_pos (by omega), if_pos h1]
    · rw [if_neg (by omega), if_neg h1]

theorem long_l0 (s : ByteArray) (d : Nat) : ∀ i, i + d = 10 → ∀ a, (i ≤ 9 → a = val s i) →
    Ev (fun k => word_Long.l0 k s a (i : Int)) (if (ends s i).2 = 0 then (val s (ends s i).1.toNat, (ends s i).1, 0) else (0, 0, (ends s i).2)) := by
  induction d with
  | zero =>
    intro i hi a ha
    have := long_stop s a i _ rfl (by omega)
    rw [ends_stop (by omega)]
    by_cases h1 : s.size < 10
    · simpa [h1] using this
    · simpa [h1] using this
  | succ d ih =>
    intro i hi a ha
    by_cases h : i < s.size ∧ i < 10
    · have ha' := ha (by omega)
      have hb := btr s (i : Int)
      have hv := val_range s i
      have hw : wrap64 (7 * (i : Int)) = 7 * (i : Int) := by unfold wrap64; omega
      have hw1 : wrap64 ((i : Int) + 1) = ((i + 1 : Nat) : Int) := by unfold wrap64; omega
      by_cases hc : bt s (i : Int) < 128
      · -- the last one
        refine Ev.step (f := fun k => word_Long.j1 k s a (i : Int) true) (fun k => ?_) (Ev.step (f := fun _ => some (if (ends s i).2 = 0 then (val s (ends s i).1.toNat, (ends s i).1, 0) else (0, 0, (ends s i).2))) (fun k => ?_) (Ev.now _))
        · simp only [word_Long.l0]
          rw [if_pos (by omega), show decide ((i : Int) < 10) = true by simp; omega]
        · simp only [word_Long.j1]
          rw [if_pos (by trivial), if_pos (by omega), if_pos (by omega), if_pos (by rw [hw]; omega), if_neg (by omega), ends_last h hc, hw1]
          by_cases hbad : (0 < i ∧ bt s (i : Int) = 0) ∨ (i = 9 ∧ 1 < bt s (i : Int))
          · rw [if_pos hbad]
            simp only [if_neg (show ¬ ((5 : Int) = 0) by decide)]
            rcases hbad with ⟨h0, h1⟩ | ⟨h0, h1⟩
            · rw [if_pos (by omega), if_pos h1]
            · rw [if_pos (by omega), if_neg (by omega), if_pos (by omega), if_pos (by omega)]
          · rw [if_neg hbad]
            simp only [if_true]
            have hval : Go.bits .or .u64 a (shl .u64 (IntKind.u64.wrap (Go.bits .and .u8 (bt s (i : Int)) 127)) (wrap64 (7 * (i : Int)))) = val s (((i + 1 : Nat) : Int)).toNat := by
              have hlt := val_lt s i (by omega) (fun e => by
                by_cases h : 1 < bt s (i : Int)
                · exact absurd (.inr ⟨e, h⟩) hbad
                · omega) hc
              have : (((i + 1 : Nat) : Int)).toNat = i + 1 := by omega
              rw [this]
              simp only [val] at hlt ⊢
              rw [or_shl a _ i (by omega) (by omega) (by omega) hb.1 hb.2 (by omega), ha']
            rw [hval]
            by_cases h0 : i = 0
            · rw [if_neg (by omega), if_neg (by omega)]
            · have hn0 : ¬ bt s (i : Int) = 0 := fun e => hbad (.inl ⟨by omega, e⟩)
              rw [if_pos (by omega), if_neg hn0]
              by_cases h9 : i = 9
              · have hn9 : ¬ bt s (i : Int) > 1 := fun e => hbad (.inr ⟨h9, e⟩)
                rw [if_pos (by omega), if_neg hn9]
              · rw [if_neg (by omega)]
      · -- one more
        rw [ends_more h hc]
        refine Ev.step (f := fun k => word_Long.j1 k s a (i : Int) true) (fun k => ?_) (Ev.step (f := fun k => word_Long.l0 k s (Go.bits .or .u64 a (shl .u64 (IntKind.u64.wrap (Go.bits .and .u8 (bt s (i : Int)) 127)) (wrap64 (7 * (i : Int))))) ((i + 1 : Nat) : Int)) (fun k => ?_) (ih (i + 1) (by omega) _ (fun h9 => ?_)))
        · simp only [word_Long.l0]
          rw [if_pos (by omega), show decide ((i : Int) < 10) = true by simp; omega]
        · simp only [word_Long.j1]
          rw [if_pos (by trivial), if_pos (by omega), if_pos (by omega), if_pos (by rw [hw]; omega), if_pos (by omega), hw1]
        · have h2 := (val_range s (i + 1)).2
          have h3 : (128 : Int) ^ (i + 1) ≤ 128 ^ 9 := by
            have : (128 : Nat) ^ (i + 1) ≤ 128 ^ 9 := Nat.pow_le_pow_right (by decide) (by omega)
            exact_mod_cast this
          have : (128 : Int) ^ 9 = 9223372036854775808 := by decide
          simp only [val] at h2 ⊢
          rw [or_shl a _ i (by omega) (by omega) (by omega) hb.1 hb.2 (by omega), ha']
    · have := long_stop s a i _ rfl h
      rw [ends_stop h]
      by_cases h1 : s.size < 10
      · simpa [h1] using this
      · simpa [h1] using this

theorem word_Long_ev (s : ByteArray) : Ev (fun k => word_Long.f k s) (longS s) := by
  have := long_l0 s 10 0 rfl 0 (fun _ => rfl)
  simpa [word_Long.f, longS] using this

/- piece back0 -/
/-! ### short bytes, there and back -/
/-- The number of low seven bits. -/
def valL : List Int → Int
  | [] => 0
  | x :: xs => x % 128 + 128 * valL xs

theorem valL_snoc (l : List Int) (x : Int) : valL (l ++ [x]) = valL l + x % 128 * 128 ^ l.length := by
  induction l with
  | nil => simp [valL]
  | cons y l ih =>
    simp only [List.cons_append, valL, ih, List.length_cons, Int.pow_succ]
    rw [Int.mul_add, ← Int.mul_assoc, Int.mul_comm 128 (x % 128), Int.mul_assoc, Int.mul_comm 128 (128 ^ l.length)]
    omega

theorem val_valL (s : ByteArray) (i : Nat) (h : i ≤ s.size) : val s i = valL ((byt s).take i) := by
  induction i with
  | zero => simp [val, valL]
  | succ i ih =>
    have hl : i < (byt s).length := by rw [byt_len]; omega
    rw [List.take_succ_eq_append_getElem hl, valL_snoc, ← ih (by omega), List.length_take, Nat.min_eq_left (by omega)]
    simp only [val]
    rw [bt_byt s i (by omega)]

/-- A list of bytes is short bytes. -/
def IsSb : List Int → Prop
  | [] => False
  | [x] => 0 ≤ x ∧ x < 128
  | x :: y :: l => 128 ≤ x ∧ x ≤ 255 ∧ IsSb (y :: l) ∧ (y :: l) ≠ [0]

theorem valL_pos : ∀ l : List Int, IsSb l → 0 ≤ valL l ∧ (l ≠ [0] → 1 ≤ valL l)
  | [], h => h.elim
  | [x], h => by
    simp only [IsSb] at h
    simp only [valL]
    refine ⟨by omega, fun hn => ?_⟩
    have : x ≠ 0 := fun e => hn (by rw [e])
    omega
  | x :: y :: l, h => by
    have := valL_pos (y :: l) h.2.2.1
    have h2 := this.2 h.2.2.2
    rw [valL]
    refine ⟨by omega, fun _ => by omega⟩

theorem sb_valL : ∀ l : List Int, IsSb l → sb (valL l).toNat = l
  | [], h => h.elim
  | [x], h => by
    simp only [IsSb] at h
    simp only [valL]
    rw [sb_small (by omega), show (((x % 128 + 128 * 0).toNat : Nat) : Int) = x by omega]
  | x :: y :: l, h => by
    have h1 := (valL_pos (y :: l) h.2.2.1).2 h.2.2.2
    have ih := sb_valL (y :: l) h.2.2.1
    have hx := h.1
    have hx2 := h.2.1
    rw [valL]
    rw [sb_big (by omega), show (((x % 128 + 128 * valL (y :: l)).toNat % 128 + 128 : Nat) : Int) = x by omega, show (x % 128 + 128 * valL (y :: l)).toNat / 128 = (valL (y :: l)).toNat by omega, ih]

theorem sb_is (n : Nat) : IsSb (sb n) ∧ valL (sb n) = n ∧ (0 < n → sb n ≠ [0]) := by
  induction n using Nat.strongRecOn with
  | _ n ih =>
    by_cases h : n < 128
    · rw [sb_small h]
      refine ⟨⟨by omega, by omega⟩, by simp only [valL]; omega, fun h0 e => ?_⟩
      simp at e
      omega
    · obtain ⟨h1, h2, h3⟩ := ih (n / 128) (by omega)
      rw [sb_big h]
      have hp := sb_pos (n / 128)
      cases e : sb (n / 128) with
      | nil => rw [e] at hp; simp at hp
      | cons y l =>
        rw [e] at h1 h2 h3
        refine ⟨⟨by omega, by omega, h1, h3 (by omega)⟩, ?_, fun _ => by simp⟩
        rw [valL, h2]
        omega

theorem sb_bytes (n : Nat) : Bytes (sb n) := by
  induction n using Nat.strongRecOn with
  | _ n ih =>
    by_cases h : n < 128
    · rw [sb_small h]; intro x hx; simp at hx; omega
    · rw [sb_big h]
      intro x hx
      rcases List.mem_cons.1 hx with rfl | hx
      · omega
      · exact ih _ (by omega) x hx

theorem isSb_at : ∀ (l : List Int) (hl : IsSb l) (m : Nat) (hm : l.length = m + 1), (∀ (j : Nat) (hj : j < m), 128 ≤ l[j]'(by omega)) ∧ l[m]'(by omega) < 128 ∧ (0 < m → l[m]'(by omega) ≠ 0)
  | [], h, _, _ => h.elim
  | [x], h, m, hm => by
    simp at hm
    subst hm
    exact ⟨fun j hj => by omega, h.2, fun h => by omega⟩
  | x :: y :: l, h, m, hm => by
    obtain ⟨k, rfl⟩ : ∃ k, m = k + 1 := ⟨l.length, by simpa using hm.symm⟩
    have ih := isSb_at (y :: l) h.2.2.1 k (by simpa using hm)
    refine ⟨fun j hj => ?_, by simpa using ih.2.1, fun _ => ?_⟩
    · cases j with
      | zero => exact h.1
      | succ j => simpa using ih.1 j (by omega)
    · by_cases hk : 0 < k
      · simpa using ih.2.2 hk
      · have : k = 0 := by omega
        subst this
        simp at hm
        subst hm
        intro e
        simp at e
        exact h.2.2.2 (by rw [e])

theorem isSb_of : ∀ (l : List Int), Bytes l → ∀ (m : Nat) (hm : l.length = m + 1), (∀ (j : Nat) (hj : j < m), 128 ≤ l[j]'(by omega)) → l[m]'(by omega) < 128 → (0 < m → l[m]'(by omega) ≠ 0) → IsSb l
  | [], _, _, hm, _, _, _ => by simp at hm
  | [x], hb, m, hm, h1, h2, h3 => by
    simp at hm
    subst hm
    exact ⟨(hb x (by simp)).1, h2⟩
  | x :: y :: l, hb, m, hm, h1, h2, h3 => by
    obtain ⟨k, rfl⟩ : ∃ k, m = k + 1 := ⟨l.length, by simpa using hm.symm⟩
    refine ⟨h1 0 (by omega), (hb x (by simp)).2, isSb_of (y :: l) (fun z hz => hb z (by simp [hz])) k (by simpa using hm) (fun j hj => by simpa using h1 (j + 1) (by omega)) (by simpa using h2) (fun _ => by simpa using h3 (by omega)), fun e => ?_⟩
    have : y = 0 ∧ l = [] := by simpa using e
    obtain ⟨rfl, rfl⟩ := this
    have : k = 0 := by simpa using hm.symm
    subst this
    exact absurd (by simp) (h3 (by omega))

theorem ends_of (s : ByteArray) (m : Nat) (h1 : m < 10) (h2 : m < s.size) (h3 : ∀ j : Nat, j < m → 128 ≤ bt s (j : Int)) (h4 : bt s (m : Int) < 128) (h5 : 0 < m → bt s (m : Int) ≠ 0) (h6 : m = 9 → bt s (m : Int) ≤ 1) (d : Nat) : ∀ i, i + d = m → ends s i = (((m + 1 : Nat) : Int), 0) := by
  induction d with
  | zero =>
    intro i hi
    have e : i = m := by omega
    subst e
    rw [ends_last ⟨h2, h1⟩ h4, if_neg]
    rintro (⟨h, h'⟩ | ⟨h, h'⟩)
    · exact h5 h h'
    · have := h6 h; omega
  | succ d ih =>
    intro i hi
    have := h3 i (by omega)
    rw [ends_more ⟨by omega, by omega⟩ (by omega)]
    exact ih (i + 1) (by omega)

/-- What short bytes with something behind them tell. -/
theorem longS_sb (n : Nat) (hn : n < 18446744073709551616) (z : ByteArray) : longS (strOfNums (sb n) ++ z) = ((n : Int), ((sb n).length : Int), 0) := by
  obtain ⟨h1, h2, _⟩ := sb_is n
  have hp := sb_pos n
  obtain ⟨m, hm⟩ : ∃ m, (sb n).length = m + 1 := ⟨(sb n).length - 1, by omega⟩
  have h10 := sb_len10 hn
  obtain ⟨a1, a2, a3⟩ := isSb_at _ h1 m hm
  have hby : byt (strOfNums (sb n) ++ z) = sb n ++ byt z := by rw [byt_append, byt_str (sb_bytes n)]
  have hsz : (strOfNums (sb n) ++ z).size = m + 1 + z.size := by rw [← byt_len, hby, List.length_append, hm, byt_len]
  have hbt : ∀ j (hj : j < m + 1), bt (strOfNums (sb n) ++ z) (j : Int) = (sb n)[j]'(by omega) := by
    intro j hj
    rw [bt_byt _ j (by omega)]
    simp only [hby]
    rw [List.getElem_append_left (by omega)]
  have hv : val (strOfNums (sb n) ++ z) (m + 1) = n := by
    rw [val_valL _ _ (by omega), hby, List.take_append_of_le_length (by omega), List.take_of_length_le (by omega), h2]
  have h6 : m = 9 → bt (strOfNums (sb n) ++ z) (m : Int) ≤ 1 := by
    rintro rfl
    have hr := (val_range (strOfNums (sb n) ++ z) 9).1
    simp only [val] at hv
    have e : (128 : Int) ^ 9 = 9223372036854775808 := by decide
    simp only [val, e] at hv hr
    have hb := btr (strOfNums (sb n) ++ z) ((9 : Nat) : Int)
    have h4 := hbt 9 (by omega)
    rw [h4] at hb hv ⊢
    omega
  have he := ends_of (strOfNums (sb n) ++ z) m (by omega) (by omega) (fun j hj => by rw [hbt j (by omega)]; exact a1 j hj) (by rw [hbt m (by omega)]; exact a2) (fun h => by rw [hbt m (by omega)]; exact a3 h) h6 m 0 (by omega)
  unfold longS
  rw [he]
  simp only [if_true]
  rw [show (((m + 1 : Nat) : Int)).toNat = m + 1 by omega, hv, hm]

/-- What is read has just the bytes that it was read of. -/
theorem longS_back (s : ByteArray) (m : Nat) (h : longS s = (val s (m + 1), ((m + 1 : Nat) : Int), 0)) (hm : m < s.size) (hc : bt s (m : Int) < 128) (h0 : 0 < m → bt s (m : Int) ≠ 0) (hj : ∀ j : Nat, j < m → 128 ≤ bt s (j : Int)) : sb (val s (m + 1)).toNat = (byt s).take (m + 1) := by
  have hl : ((byt s).take (m + 1)).length = m + 1 := by rw [List.length_take, byt_len]; omega
  have hg : ∀ j (h : j < m + 1), ((byt s).take (m + 1))[j]'(by omega) = bt s (j : Int) := by
    intro j h
    rw [bt_byt s j (by omega), List.getElem_take]
  have := isSb_of ((byt s).take (m + 1)) ((byt_bytes s).take _) m hl (fun j h => by rw [hg j (by omega)]; exact hj j h) (by rw [hg m (by omega)]; exact hc) (fun h => by rw [hg m (by omega)]; exact h0 h)
  rw [val_valL s (m + 1) (by omega)]
  exact sb_valL _ this

theorem byt_nil {s : ByteArray} (h : s.size = 0) : byt s = [] := List.length_eq_zero_iff.1 (by rw [byt_len]; exact h)


/- piece reflong -/
theorem refEnds_stop (s : ByteArray) (i : Nat) (h : ¬ (i < s.size ∧ i < 10)) :
    Ev (fun k => haulageref01_Ends.l0 k s (i : Int)) (0, if s.size < 10 then 4 else 5) := by
  refine Ev.step (f := fun k => haulageref01_Ends.j1 k s (i : Int) false) (fun k => ?_) (Ev.step (f := fun _ => some (0, if s.size < 10 then 4 else 5)) (fun k => ?_) (Ev.now _))
  · simp only [haulageref01_Ends.l0]
    by_cases h1 : i < s.size
    · rw [if_pos (by omega), show decide ((i : Int) < 10) = false by simp; omega]
    · rw [if_neg (by omega)]
  · simp only [haulageref01_Ends.j1]
    rw [if_neg (by decide)]
    by_cases h1 : s.size < 10
    · rw [if_pos (by omega), if_pos h1]
    · rw [if_neg (by omega), if_neg h1]

theorem refEnds_l0 (s : ByteArray) (d : Nat) : ∀ i, i + d = 10 → Ev (fun k => haulageref01_Ends.l0 k s (i : Int)) (ends s i) := by
  induction d with
  | zero =>
    intro i hi
    have := refEnds_stop s i (by omega)
    rw [ends_stop (by omega)]
    by_cases h1 : s.size < 10
    · simpa [h1] using this
    · simpa [h1] using this
  | succ d ih =>
    intro i hi
    by_cases h : i < s.size ∧ i < 10
    · have hb := btr s (i : Int)
      have hw1 : wrap64 ((i : Int) + 1) = ((i + 1 : Nat) : Int) := by unfold wrap64; omega
      by_cases hc : bt s (i : Int) < 128
      · refine Ev.step (f := fun k => haulageref01_Ends.j1 k s (i : Int) true) (fun k => ?_) (Ev.step (f := fun _ => some (ends s i)) (fun k => ?_) (Ev.now _))
        · simp only [haulageref01_Ends.l0]
          rw [if_pos (by omega), show decide ((i : Int) < 10) = true by simp; omega]
        · simp only [haulageref01_Ends.j1]
          rw [if_pos (by trivial), if_pos (by omega), if_pos (by omega), if_pos hc, ends_last h hc, hw1]
          by_cases hbad : (0 < i ∧ bt s (i : Int) = 0) ∨ (i = 9 ∧ 1 < bt s (i : Int))
          · rw [if_pos hbad]
            rcases hbad with ⟨h0, h1⟩ | ⟨h0, h1⟩
            · rw [if_pos (by omega), if_pos h1]
            · rw [if_pos (by omega), if_neg (by omega), if_pos (by omega), if_pos (by omega)]
          · rw [if_neg hbad]
            by_cases h0 : i = 0
            · rw [if_neg (by omega), if_neg (by omega)]
            · have hn0 : ¬ bt s (i : Int) = 0 := fun e => hbad (.inl ⟨by omega, e⟩)
              rw [if_pos (by omega), if_neg hn0]
              by_cases h9 : i = 9
              · have hn9 : ¬ bt s (i : Int) > 1 := fun e => hbad (.inr ⟨h9, e⟩)
                rw [if_pos (by omega), if_neg hn9]
              · rw [if_neg (by omega)]
      · rw [ends_more h hc]
        refine Ev.step (f := fun k => haulageref01_Ends.j1 k s (i : Int) true) (fun k => ?_) (Ev.step (f := fun k => haulageref01_Ends.l0 k s ((i + 1 : Nat) : Int)) (fun k => ?_) (ih (i + 1) (by omega)))
        · simp only [haulageref01_Ends.l0]
          rw [if_pos (by omega), show decide ((i : Int) < 10) = true by simp; omega]
        · simp only [haulageref01_Ends.j1]
          rw [if_pos (by trivial), if_pos (by omega), if_pos (by omega), if_neg hc, hw1]
    · have := refEnds_stop s i h
      rw [ends_stop h]
      by_cases h1 : s.size < 10
      · simpa [h1] using this
      · simpa [h1] using this

theorem refLong_l0 (s : ByteArray) (size : Int) (V : Int) (hV : V < 18446744073709551616) (i : Nat) : i ≤ s.size → i ≤ 10 → ∀ n : Int, 0 ≤ n → val s i + n * 128 ^ i = V →
    Ev (fun k => haulageref01_Long.l0 k s size n ((i : Int) - 1)) (V, size, 0) := by
  induction i with
  | zero =>
    intro _ _ n hn h
    refine Ev.step (f := fun _ => some (V, size, 0)) (fun k => ?_) (Ev.now _)
    simp only [haulageref01_Long.l0]
    simp only [val] at h
    rw [if_neg (by omega), show n = V by omega]
  | succ i ih =>
    intro hs h10 n hn h
    have hb := btr s (i : Int)
    have hp := p128_pos i
    have e1 : (((i + 1 : Nat) : Int) - 1) = (i : Int) := by omega
    rw [e1]
    have h1 : 0 ≤ bt s (i : Int) % 128 := by omega
    have hn' : val s i + (n * 128 + bt s (i : Int) % 128) * 128 ^ i = V := by
      rw [← h]
      simp only [val, Int.pow_succ, Int.add_mul, Int.mul_assoc]
      rw [Int.mul_comm 128 (128 ^ i)]
      omega
    have hle : (n * 128 + bt s (i : Int) % 128) ≤ (n * 128 + bt s (i : Int) % 128) * 128 ^ i := by
      have : (n * 128 + bt s (i : Int) % 128) * 1 ≤ (n * 128 + bt s (i : Int) % 128) * 128 ^ i := Int.mul_le_mul_of_nonneg_left (by omega) (by omega)
      omega
    have hv := val_range s i
    refine Ev.step (f := fun k => haulageref01_Long.l0 k s size (n * 128 + bt s (i : Int) % 128) ((i : Int) - 1)) (fun k => ?_) (ih (by omega) (by omega) _ (by omega) hn')
    simp only [haulageref01_Long.l0]
    rw [if_pos (by omega), if_pos (by omega), if_pos (by omega), tmod_nonneg_eq _ _ (by omega), u64_id (n * 128) (by omega) (by omega), u64_id (bt s (i : Int) % 128) (by omega) (by omega), u64_id (n * 128 + bt s (i : Int) % 128) (by omega) (by omega),
      show wrap64 ((i : Int) - 1) = (i : Int) - 1 by unfold wrap64; omega]

theorem refLong_ev (s : ByteArray) : Ev (fun k => haulageref01_Long.f k s) (longS s) := by
  unfold haulageref01_Long.f
  have he : Ev (fun k => haulageref01_Ends.f k s) (ends s 0) := by simpa [haulageref01_Ends.f] using refEnds_l0 s 10 0 rfl
  refine Ev.bind he ?_
  unfold longS
  by_cases e : (ends s 0).2 = 0
  · obtain ⟨m, e1, _, h3, h4, h5, h6, h7, h8⟩ := ends_ok s 10 0 rfl e
    have hv := val_lt s m h3 h7 h5
    have := refLong_l0 s (ends s 0).1 (val s (m + 1)) hv.2 (m + 1) (by omega) (by omega) 0 (by omega) (by omega)
    rw [if_pos e]
    refine Ev.congr (f := fun k => haulageref01_Long.l0 k s (ends s 0).1 0 (((m + 1 : Nat) : Int) - 1)) (fun k => ?_) ?_
    · rw [if_pos e, e1, show wrap64 (((m + 1 : Nat) : Int) - 1) = ((m + 1 : Nat) : Int) - 1 by unfold wrap64; omega]
    · rw [e1] at this ⊢
      simpa using this
  · rw [if_neg e]
    refine Ev.congr (f := fun _ => some (0, 0, (ends s 0).2)) (fun k => ?_) (Ev.now _)
    rw [if_neg e]

/- piece num -/
/-! ### small things of texts, and the number that a text begins with -/
theorem nil_iff (s : ByteArray) : s.toList = ([] : List UInt8) ↔ s.size = 0 := by
  rw [ByteArray.toList_eq]
  constructor
  · intro h
    have := congrArg List.length h
    rw [Array.length_toList] at this
    exact this
  · intro h
    exact List.length_eq_zero_iff.1 (by rw [Array.length_toList]; exact h)

theorem sb_len_i (b : Int) (h : 0 ≤ b) (h2 : b ≤ 9223372036854775807) : (sb b.toNat).length ≤ 10 := sb_len10 (by omega)
theorem sbs_one (b : Int) : sbs [b] = sb b.toNat := by simp [sbs]
theorem sizeApp (a b : ByteArray) : (a ++ b).size = a.size + b.size := ByteArray.size_append

theorem short_one (b : Int) (h : 0 ≤ b) (h2 : b ≤ 9223372036854775807) : Ev (fun k => word_Short.f k ([IntKind.u64.wrap b] : List Int)) (strOfNums (sb b.toNat)) := by
  have := word_Short_ev [IntKind.u64.wrap b] (by simp) (fun x hx => by
    rw [List.mem_singleton] at hx
    subst hx
    rw [u64_eq]; omega)
  rw [sbs_one, u64_id b h (by omega)] at this
  rw [u64_id b h (by omega)]
  exact this

/-- The number that a text begins with, one that an int has. -/
def numS (s : ByteArray) : Int × Int × Int :=
  if (longS s).2.2 = 0 then (if (longS s).1 < 9223372036854775808 then (longS s).1 else 0, if (longS s).1 < 9223372036854775808 then (longS s).2.1 else 0, if (longS s).1 < 9223372036854775808 then 0 else 5) else (0, 0, (longS s).2.2)
/-- What stands behind it. -/
def numR (s : ByteArray) : ByteArray := if (numS s).2.2 = 0 then s.extract (numS s).2.1.toNat s.size else ⟨#[]⟩

theorem longS_two (s : ByteArray) (h : (longS s).2.2 = 0) : 0 ≤ (longS s).1 ∧ (longS s).1 < 18446744073709551616 ∧ 0 < (longS s).2.1 ∧ (longS s).2.1 ≤ (s.size : Int) ∧ (longS s).2.1 ≤ 10 := by
  obtain ⟨m, e, h1, h2, h3, h4, _⟩ := longS_ok s h
  rw [e]
  simp only
  omega


/- piece numback -/
/-! ### numbers of bytes, there and back -/
theorem join_cut (a b : ByteArray) (n : Nat) (h : n = a.size) : (a ++ b).extract n (a ++ b).size = b := by
  apply byt_inj
  rw [byt_cut, byt_append, h, ← byt_len a, List.drop_left]
theorem cut_join (s : ByteArray) (n : Nat) (l : List Int) (h : l = (byt s).take n) : strOfNums l ++ s.extract n s.size = s := by
  apply byt_inj
  have hb : Bytes l := by rw [h]; exact (byt_bytes s).take n
  rw [byt_append, byt_str hb, byt_cut, h, List.take_append_drop]

theorem num_sb (n : Nat) (hn : n < 9223372036854775808) (z : ByteArray) : numS (strOfNums (sb n) ++ z) = ((n : Int), ((sb n).length : Int), 0) ∧ numR (strOfNums (sb n) ++ z) = z := by
  have e : numS (strOfNums (sb n) ++ z) = ((n : Int), ((sb n).length : Int), 0) := by
    unfold numS
    rw [longS_sb n (by omega) z]
    simp only [if_true]
    rw [if_pos (by omega), if_pos (by omega), if_pos (by omega)]
  refine ⟨e, ?_⟩
  unfold numR
  rw [e]
  simp only [if_true, Int.toNat_natCast]
  exact join_cut _ _ _ (strOfNums_size _).symm

theorem num_back (s : ByteArray) (h : (numS s).2.2 = 0) : 0 ≤ (numS s).1 ∧ (numS s).1 < 9223372036854775808 ∧ strOfNums (sb (numS s).1.toNat) ++ numR s = s := by
  have hl : (longS s).2.2 = 0 := by
    unfold numS at h
    by_cases hl : (longS s).2.2 = 0
    · exact hl
    · rw [if_neg hl] at h
      exact h
  have hv : (longS s).1 < 9223372036854775808 := by
    unfold numS at h
    rw [if_pos hl] at h
    by_cases hv : (longS s).1 < 9223372036854775808
    · exact hv
    · simp only [if_neg hv] at h
      exact absurd h (by decide)
  have e : numS s = ((longS s).1, (longS s).2.1, 0) := by
    unfold numS
    rw [if_pos hl, if_pos hv, if_pos hv, if_pos hv]
  obtain ⟨m, e1, h1, h2, h3, h4, h5, h6, h7⟩ := longS_ok s hl
  have hb := longS_back s m e1 h2 h5 h6 h7
  rw [e1] at hv e
  unfold numR
  rw [e]
  simp only [if_true, Int.toNat_natCast]
  exact ⟨h3, hv, cut_join s (m + 1) _ hb⟩

theorem empty_of (s : ByteArray) (h : s.size = 0) : s = ⟨#[]⟩ := ByteArray.ext (Array.eq_empty_of_size_eq_zero h)
theorem strNil : strOfNums [] = (⟨#[]⟩ : ByteArray) := rfl
theorem nil_app (s : ByteArray) : (⟨#[]⟩ : ByteArray) ++ s = s := ByteArray.empty_append

theorem bt_head (x : Int) (h : 0 ≤ x ∧ x ≤ 255) (l : List Int) (s : ByteArray) : bt (strOfNums (x :: l) ++ s) 0 = x := by
  have e : strOfNums (x :: l) = strOfNums [x] ++ strOfNums l := by rw [← strOfNums_append]; rfl
  have hsz : 0 < (strOfNums (x :: l) ++ s).size := by rw [sizeApp, strOfNums_size, List.length_cons]; omega
  have := bt_byt (strOfNums (x :: l) ++ s) 0 hsz
  rw [show ((0 : Nat) : Int) = 0 by rfl] at this
  rw [this]
  have h2 : byt (strOfNums (x :: l) ++ s) = x :: (byt (strOfNums l) ++ byt s) := by
    rw [e, byt_append, byt_append, byt_str (l := [x]) (by intro y hy; rw [List.mem_singleton] at hy; subst hy; exact h)]
    rfl
  simp only [h2, List.getElem_cons_zero]
theorem cut_head (x : Int) (l : List Int) (s : ByteArray) : (strOfNums (x :: l) ++ s).extract 1 (strOfNums (x :: l) ++ s).size = strOfNums l ++ s := by
  have e : strOfNums (x :: l) ++ s = strOfNums [x] ++ (strOfNums l ++ s) := by
    rw [← ByteArray.append_assoc, ← strOfNums_append]
    rfl
  rw [e]
  exact join_cut _ _ _ (by rw [strOfNums_size]; rfl)


/- piece put -/
/-! ### bytes of a fixed number -/
theorem p256_pos (i : Nat) : (0 : Int) < 256 ^ i := Int.pow_pos (by decide)
theorem p256 (i : Nat) : (256 : Int) ^ i = 2 ^ (8 * i) := by rw [show (256 : Int) = 2 ^ 8 by decide, ← Int.pow_mul]
theorem p256_le (i j : Nat) (h : i ≤ j) : (256 : Int) ^ i ≤ 256 ^ j := by
  have h2 := Int.ofNat_le.2 (Nat.pow_le_pow_right (n := 256) (by decide) h)
  rw [Int.natCast_pow, Int.natCast_pow] at h2
  exact h2

/-- So many bytes of a number. -/
def putS (n : Int) : Nat → List Int
  | 0 => []
  | i + 1 => putS n i ++ [n / 256 ^ i % 256]
theorem putS_len (n : Int) (i : Nat) : (putS n i).length = i := by induction i with | zero => rfl | succ i ih => simp [putS, ih]
theorem putS_bytes (n : Int) (i : Nat) : Bytes (putS n i) := by
  induction i with
  | zero => intro x hx; simp [putS] at hx
  | succ i ih => exact ih.append fun x hx => by simp at hx; omega

theorem wraps64 (n : Int) (h0 : 0 ≤ n) (h1 : n < 2 ^ 64) : IntKind.u64.wrap n = n := by rw [u64_eq]; omega

theorem word_put_l0 (n : Int) (m : Nat) (hm : m ≤ 8) (d : Nat) : ∀ i, i + d = m → Ev (fun k => word_put.l0 k n (putS n i ++ List.replicate d 0) (m : Int) (i : Int)) (strOfNums (putS n m)) := by
  induction d with
  | zero =>
    intro i hi
    refine Ev.step (f := fun _ => some (strOfNums (putS n m))) (fun k => ?_) (Ev.now _)
    simp only [word_put.l0]
    rw [if_neg (by omega), show i = m by omega]
    simp
  | succ d ih =>
    intro i hi
    refine Ev.step (f := fun k => word_put.l0 k n (putS n (i + 1) ++ List.replicate d 0) (m : Int) ((i + 1 : Nat) : Int)) (fun k => ?_) (ih (i + 1) (by omega))
    have hw : wrap64 (8 * (i : Int)) = ((8 * i : Nat) : Int) := by unfold wrap64; omega
    have hsh : shr .u64 n (wrap64 (8 * (i : Int))) = n / 256 ^ i := by
      unfold shr
      rw [hw]
      have : min (((8 * i : Nat) : Int)).toNat (IntKind.bits .u64) = 8 * i := by simp [IntKind.bits]; omega
      rw [this, ← p256]
    have hset : (putS n i ++ List.replicate (d + 1) 0).set ((i : Int)).toNat (n / 256 ^ i % 256) = putS n (i + 1) ++ List.replicate d 0 := by
      rw [show ((i : Int)).toNat = i by omega, List.set_append_right _ _ (by rw [putS_len]; omega), putS_len, Nat.sub_self, List.replicate_succ, List.set_cons_zero]
      simp [putS]
    simp only [word_put.l0]
    rw [if_pos (by omega), if_pos (by rw [hw]; omega), if_pos (by omega), if_pos (by rw [List.length_append, putS_len, List.length_replicate]; omega), hsh, hset, show wrap64 ((i : Int) + 1) = ((i + 1 : Nat) : Int) by unfold wrap64; omega]

theorem word_put_ev (n : Int) (m : Nat) (hm : m ≤ 8) : Ev (fun k => word_put.f k n (m : Int)) (strOfNums (putS n m)) := by
  unfold word_put.f
  refine Ev.congr (fun k => ?_) (word_put_l0 n m hm m 0 (by omega))
  rw [if_pos (by omega), if_pos (by omega), Option.bind_some, show ((m : Int)).toNat = m by omega, List.length_replicate]
  rfl


/- piece put32 -/
theorem word_Put32_ev (n : Int) (h0 : 0 ≤ n) (h1 : n < 4294967296) : Ev (fun k => word_Put32.f k n) (strOfNums (putS n 4)) := by
  unfold word_Put32.f
  rw [wraps64 n h0 (by omega)]
  exact Ev.bind (word_put_ev n 4 (by decide)) (Ev.now _)

/- piece crc -/
/-! ### sums, as words of 32 bits -/
/-- One bit that goes out. -/
def bitB (c : BitVec 32) : BitVec 32 := (c >>> 1) ^^^ (if c.getLsbD 0 then 2197175160#32 else 0#32)
def bit4 (c : BitVec 32) : BitVec 32 := bitB (bitB (bitB (bitB c)))
/-- One byte more. -/
def byteB (c : BitVec 32) (x : Int) : BitVec 32 := bit4 (bit4 (c ^^^ BitVec.ofInt 32 x))
def foldB (c : BitVec 32) (l : List Int) : BitVec 32 := l.foldl byteB c

theorem xor_swap4 (x y p q : BitVec 32) : (x ^^^ y) ^^^ (p ^^^ q) = (x ^^^ p) ^^^ (y ^^^ q) := by ac_rfl
theorem bitB_xor (a b : BitVec 32) : bitB (a ^^^ b) = bitB a ^^^ bitB b := by
  unfold bitB
  rw [BitVec.ushiftRight_xor_distrib, BitVec.getLsbD_xor, ← xor_swap4]
  congr 1
  cases a.getLsbD 0 <;> cases b.getLsbD 0 <;> decide
theorem bit4_xor (a b : BitVec 32) : bit4 (a ^^^ b) = bit4 a ^^^ bit4 b := by
  unfold bit4
  rw [bitB_xor, bitB_xor, bitB_xor, bitB_xor]

theorem bitB_top (c : BitVec 32) : (bitB c).getLsbD 31 = c.getLsbD 0 := by
  unfold bitB
  rw [BitVec.getLsbD_xor, BitVec.getLsbD_ushiftRight]
  cases h : c.getLsbD 0
  · simp
  · simp [show (2197175160#32).getLsbD 31 = true by decide]
theorem bitB_inj {a b : BitVec 32} (h : bitB a = bitB b) : a = b := by
  have h0 : a.getLsbD 0 = b.getLsbD 0 := by rw [← bitB_top, h, bitB_top]
  have h1 : a >>> 1 = b >>> 1 := by
    unfold bitB at h
    rw [h0] at h
    exact (BitVec.xor_left_inj _).1 h
  apply BitVec.eq_of_getLsbD_eq
  intro i hi
  cases i with
  | zero => exact h0
  | succ i =>
    have := congrArg (fun v => v.getLsbD i) h1
    simp only [BitVec.getLsbD_ushiftRight] at this
    rw [Nat.add_comm i 1]
    exact this
theorem bit4_inj {a b : BitVec 32} (h : bit4 a = bit4 b) : a = b := bitB_inj (bitB_inj (bitB_inj (bitB_inj h)))

theorem byteB_inj {a b : BitVec 32} {x : Int} (h : byteB a x = byteB b x) : a = b := by
  have := bit4_inj (bit4_inj h)
  exact (BitVec.xor_left_inj _).1 this
theorem foldB_inj {a b : BitVec 32} (l : List Int) (h : foldB a l = foldB b l) : a = b := by
  induction l generalizing a b with
  | nil => exact h
  | cons x l ih => exact byteB_inj (ih h)
theorem foldB_append (c : BitVec 32) (a b : List Int) : foldB c (a ++ b) = foldB (foldB c a) b := by simp [foldB, List.foldl_append]

/-- The table: what four bits that go out turn the others by. -/
def tabB (i : Nat) : BitVec 32 := bit4 (BitVec.ofNat 32 i)

theorem nib_split (c : BitVec 32) : c = (c >>> 4) <<< 4 ^^^ (c &&& 15#32) := by
  apply BitVec.eq_of_getLsbD_eq
  intro i hi
  rw [BitVec.getLsbD_xor, BitVec.getLsbD_shiftLeft, BitVec.getLsbD_ushiftRight, BitVec.getLsbD_and]
  by_cases h : i < 4
  · have : (15#32).getLsbD i = true := by
      rcases i with _ | _ | _ | _ | i <;> first | decide | omega
    simp [h, this]
  · have : (15#32).getLsbD i = false := by
      rw [show (15#32) = BitVec.ofNat 32 15 by rfl, BitVec.getLsbD_ofNat]
      have : Nat.testBit 15 i = false := Nat.testBit_lt_two_pow (Nat.lt_of_lt_of_le (by decide : 15 < 2 ^ 4) (Nat.pow_le_pow_right (by decide) (by omega)))
      simp [this]
    have e : 4 + (i - 4) = i := by omega
    rw [this, Bool.and_false, Bool.xor_false, e]
    simp [h, hi]

theorem bitB_even (c : BitVec 32) (h : c.getLsbD 0 = false) : bitB c = c >>> 1 := by unfold bitB; rw [h]; simp
theorem bit4_hi (c : BitVec 32) : bit4 ((c >>> 4) <<< 4) = c >>> 4 := by
  have g : ∀ (j : Nat) (d : BitVec 32), 1 ≤ j → j ≤ 4 → (∀ i, i < j → d.getLsbD i = false) → bitB d = d >>> 1 ∧ ∀ i, i < j - 1 → (d >>> 1).getLsbD i = false := by
    intro j d h1 h4 h
    exact ⟨bitB_even d (h 0 h1), fun i hi => by rw [BitVec.getLsbD_ushiftRight]; exact h (1 + i) (by omega)⟩
  have h4 : ∀ i, i < 4 → ((c >>> 4) <<< 4).getLsbD i = false := by
    intro i hi
    rw [BitVec.getLsbD_shiftLeft]; simp [hi]
  obtain ⟨e1, h3⟩ := g 4 _ (by decide) (by decide) h4
  obtain ⟨e2, h2⟩ := g 3 _ (by decide) (by decide) h3
  obtain ⟨e3, h1⟩ := g 2 _ (by decide) (by decide) h2
  obtain ⟨e4, _⟩ := g 1 _ (by decide) (by decide) h1
  unfold bit4
  rw [e1, e2, e3, e4]
  apply BitVec.eq_of_getLsbD_eq
  intro i hi
  simp only [BitVec.getLsbD_ushiftRight, BitVec.getLsbD_shiftLeft]
  by_cases hb : 1 + (1 + (1 + (1 + i))) < 32
  · have e : 1 + (1 + (1 + (1 + i))) - 4 = i := by omega
    have : ¬ (1 + (1 + (1 + (1 + i))) < 4) := by omega
    simp [hb, this, e]
  · have : c.getLsbD (4 + i) = false := BitVec.getLsbD_of_ge _ _ (by omega)
    simp [hb, this]

/-- Four bits at once. -/
theorem bit4_tab (c : BitVec 32) : bit4 c = (c >>> 4) ^^^ tabB (c &&& 15#32).toNat := by
  have h := congrArg bit4 (nib_split c)
  rw [bit4_xor, bit4_hi] at h
  rw [h]
  congr 1
  unfold tabB
  rw [BitVec.ofNat_toNat]
  simp

/-! numbers of 32 bits and words -/
def nB (c : BitVec 32) : Int := (c.toNat : Int)
theorem nB_range (c : BitVec 32) : 0 ≤ nB c ∧ nB c < 4294967296 := by have := c.isLt; unfold nB; omega
theorem nB_inj {a b : BitVec 32} (h : nB a = nB b) : a = b := BitVec.eq_of_toNat_eq (by unfold nB at h; omega)
theorem nB_of (x : Int) (h0 : 0 ≤ x) (h1 : x < 4294967296) : nB (BitVec.ofInt 32 x) = x := by
  unfold nB; rw [BitVec.toNat_ofInt]; omega
theorem of_nB (c : BitVec 32) : BitVec.ofInt 32 (nB c) = c := nB_inj (nB_of _ (nB_range c).1 (nB_range c).2)
theorem u32_eq (n : Int) : IntKind.u32.wrap n = n % 4294967296 := Go.IntKind.wrap_u32 n
theorem xor_u32 (a b : BitVec 32) : Go.bits .xor .u32 (nB a) (nB b) = nB (a ^^^ b) := by
  have e : Go.bits .xor .u32 (nB a) (nB b) = ((BitVec.ofInt 32 (nB a) ^^^ BitVec.ofInt 32 (nB b)).toNat : Int) % 4294967296 := u32_eq _
  rw [e, of_nB, of_nB]
  have := nB_range (a ^^^ b)
  unfold nB at this ⊢
  omega
theorem and15_u32 (a : BitVec 32) : Go.bits .and .u32 (nB a) 15 = nB (a &&& 15#32) := by
  have e : Go.bits .and .u32 (nB a) 15 = ((BitVec.ofInt 32 (nB a) &&& BitVec.ofInt 32 15).toNat : Int) % 4294967296 := u32_eq _
  rw [e, of_nB, show BitVec.ofInt 32 15 = 15#32 by decide]
  have := nB_range (a &&& 15#32)
  unfold nB at this ⊢
  omega
theorem shr4_u32 (a : BitVec 32) : nB a / (16 : Int) = nB (a >>> 4) := by
  unfold nB
  rw [BitVec.toNat_ushiftRight, Nat.shiftRight_eq_div_pow]
  omega
theorem shr1_u32 (a : BitVec 32) : nB a / (2 : Int) = nB (a >>> 1) := by
  unfold nB
  rw [BitVec.toNat_ushiftRight, Nat.shiftRight_eq_div_pow]
  omega
theorem not_u32 (a : BitVec 32) : 4294967295 - nB a = nB (~~~ a) := by
  unfold nB
  rw [BitVec.toNat_not]
  have := a.isLt
  omega
theorem and15_lt (a : BitVec 32) : (a &&& 15#32).toNat < 16 := by
  rw [BitVec.toNat_and]
  exact Nat.lt_of_le_of_lt (Nat.and_le_right) (by decide)
/-- A sum that goes on, as a word. -/
def moreB (n : BitVec 32) (l : List Int) : BitVec 32 := ~~~ foldB (~~~ n) l
theorem moreB_append (n : BitVec 32) (a b : List Int) : moreB n (a ++ b) = moreB (moreB n a) b := by
  unfold moreB
  rw [foldB_append, BitVec.not_not]

/- piece sumof0 -/
theorem u8_in_u32 (s : ByteArray) (i : Int) : bt s i % 4294967296 = bt s i := by have := bt_range s i; omega
theorem bt_word (s : ByteArray) (i : Int) : bt s i = nB (BitVec.ofInt 32 (bt s i)) := by have := bt_range s i; rw [nB_of _ this.1 (by omega)]

theorem rd_G1 (i : Nat) (h : i < 16) : rd G1 (i : Int) = nB (tabB i) := by
  have : ∀ i : Fin 16, rd G1 (i.val : Int) = nB (tabB i.val) := by decide +kernel
  exact this ⟨i, h⟩

theorem step_G1 (c : BitVec 32) : Go.bits .xor .u32 (nB c / 16) (rd G1 (Go.bits .and .u32 (nB c) 15)) = nB (bit4 c) := by
  rw [and15_u32, show rd G1 (nB (c &&& 15#32)) = nB (tabB (c &&& 15#32).toNat) from rd_G1 _ (and15_lt c), shr4_u32, xor_u32, bit4_tab]

theorem more_l0 (s : ByteArray) (hs : s.size ≤ 1000000000000) (n : BitVec 32) (d : Nat) : ∀ i, i + d = s.size →
    Ev (fun k => sum_More.l0 k s (nB (foldB n ((byt s).take i))) (s.size : Int) (i : Int)) (nB (~~~ foldB n (byt s))) := by
  induction d with
  | zero =>
    intro i hi
    refine Ev.step (f := fun _ => some (nB (~~~ foldB n (byt s)))) (fun k => ?_) (Ev.now _)
    simp only [sum_More.l0]
    rw [if_neg (by omega), List.take_of_length_le (by rw [byt_len]; omega), show (4294967295 : Int) = nB (BitVec.allOnes 32) by decide +kernel, xor_u32, BitVec.allOnes_xor]
  | succ d ih =>
    intro i hi
    have hl : i < (byt s).length := by rw [byt_len]; omega
    refine Ev.step (f := fun k => sum_More.l0 k s (nB (foldB n ((byt s).take (i + 1)))) (s.size : Int) ((i + 1 : Nat) : Int)) (fun k => ?_) (ih (i + 1) (by omega))
    have e : foldB n ((byt s).take (i + 1)) = bit4 (bit4 (foldB n ((byt s).take i) ^^^ BitVec.ofInt 32 (bt s (i : Int)))) := by
      rw [List.take_succ_eq_append_getElem hl, foldB_append, bt_byt s i (by omega)]
      rfl
    have h1 : Go.bits .xor .u32 (nB (foldB n ((byt s).take i))) (bt s (i : Int) % 4294967296) = nB (foldB n ((byt s).take i) ^^^ BitVec.ofInt 32 (bt s (i : Int))) := by
      rw [u8_in_u32, bt_word, xor_u32, ← bt_word]
    simp only [sum_More.l0]
    rw [h1]
    generalize foldB n ((byt s).take i) ^^^ BitVec.ofInt 32 (bt s (i : Int)) = c at *
    have h2 := and15_u32 c
    have h3 := and15_lt c
    have h4 := and15_u32 (bit4 c)
    have h5 := and15_lt (bit4 c)
    rw [if_pos (by omega), if_pos (by omega), if_pos (by omega), if_pos (by rw [h2]; exact (nB_range _).1), if_pos (by rw [h2]; unfold nB; omega), step_G1 c, if_pos (by rw [h4]; exact (nB_range _).1), if_pos (by rw [h4]; unfold nB; omega), step_G1 (bit4 c), e,
      show wrap64 ((i : Int) + 1) = ((i + 1 : Nat) : Int) by unfold wrap64; omega]

theorem sum_More_ev (s : ByteArray) (hs : s.size ≤ 1000000000000) (n : BitVec 32) : Ev (fun k => sum_More.f k (nB n) s) (nB (moreB n (byt s))) := by
  unfold sum_More.f moreB
  have := more_l0 s hs (~~~ n) s.size 0 (by omega)
  rw [show (4294967295 : Int) = nB (BitVec.allOnes 32) by decide +kernel, xor_u32, BitVec.allOnes_xor]
  simpa [foldB] using this

/-- The sum of parts. -/
def partsB (n : BitVec 32) (l : List ByteArray) : BitVec 32 := l.foldl (fun n s => moreB n (byt s)) n

theorem sum_Of_l0 (l : List ByteArray) (hl : l.length ≤ 1000) (hs : ∀ s ∈ l, s.size ≤ 1000000000000) (d : Nat) : ∀ (i : Nat) (n : BitVec 32), i + d = l.length →
    Ev (fun k => sum_Of.l0 k (nB n) l (l.length : Int) (i : Int)) (nB (partsB n (l.drop i))) := by
  induction d with
  | zero =>
    intro i n hi
    refine Ev.step (f := fun _ => some (nB (partsB n (l.drop i)))) (fun k => ?_) (Ev.now _)
    simp only [sum_Of.l0]
    rw [if_neg (by omega), List.drop_eq_nil_of_le (by omega)]
    rfl
  | succ d ih =>
    intro i n hi
    have hlt : i < l.length := by omega
    have hrd : rdOf ByteArray.empty l (i : Int) = l[i] := by simp [rdOf, hlt]
    refine Ev.step (fun k => by simp only [sum_Of.l0]; rw [if_pos (by omega), if_pos (by omega), if_pos (by omega), hrd, show wrap64 ((i : Int) + 1) = ((i + 1 : Nat) : Int) by unfold wrap64; omega]) ?_
    refine Ev.bind (sum_More_ev l[i] (hs _ (List.getElem_mem hlt)) n) ?_
    have := ih (i + 1) (moreB n (byt l[i])) (by omega)
    rw [List.drop_eq_getElem_cons hlt]
    exact this

theorem sum_Of_ev (l : List ByteArray) (hl : l.length ≤ 1000) (hs : ∀ s ∈ l, s.size ≤ 1000000000000) : Ev (fun k => sum_Of.f k l) (nB (partsB 0 l)) := by
  have := sum_Of_l0 l hl hs l.length 0 0 (by omega)
  unfold sum_Of.f
  simpa [nB] using this

theorem sum_Of_one (s : ByteArray) (hs : s.size ≤ 1000000000000) : Ev (fun k => sum_Of.f k [s]) (nB (moreB 0 (byt s))) :=
  sum_Of_ev [s] (by simp) (by simpa using hs)

/-- A text with its sum behind. -/
def sealB (s : ByteArray) : ByteArray := s ++ strOfNums (putS (nB (moreB 0 (byt s))) 4)
theorem sum_Seal_ev (s : ByteArray) (hs : s.size ≤ 1000000000000) : Ev (fun k => sum_Seal.f k s) (sealB s) := by
  unfold sum_Seal.f
  have hr := nB_range (moreB 0 (byt s))
  refine Ev.bind (sum_Of_one s hs) (Ev.bind (word_Put32_ev _ hr.1 hr.2) ?_)
  refine Ev.congr (f := fun _ => some (sealB s)) (fun k => ?_) (Ev.now _)
  rw [if_pos (by rw [strOfNums_size, putS_len]; omega)]
  rfl
theorem sealB_size (s : ByteArray) : (sealB s).size = s.size + 4 := by
  unfold sealB
  rw [ByteArray.size_append, strOfNums_size, putS_len]


/- piece refsum -/
def bitsB : Nat → BitVec 32 → BitVec 32
  | 0, c => c
  | d + 1, c => bitsB d (bitB c)

theorem refOf_l1 (s : ByteArray) (i : Int) (r : Int) (d : Nat) : ∀ (j : Nat) (c : BitVec 32), j + d = 8 → Ev (fun k => haulageref02_Of.l0 k s (nB (bitsB d c)) (wrap64 (i + 1))) r → Ev (fun k => haulageref02_Of.l1 k s (nB c) i (j : Int)) r := by
  induction d with
  | zero =>
    intro j c hj h
    refine Ev.step (fun k => by simp only [haulageref02_Of.l1]; rw [if_neg (by omega)]; rfl) h
  | succ d ih =>
    intro j c hj h
    have hr := nB_range c
    have hd : Int.tdiv (nB c) (2 : Int) % (4294967296 : Int) = nB (c >>> 1) := by
      rw [tdiv_nonneg_eq _ _ hr.1, ← shr1_u32]; omega
    have hm : Int.tmod (nB c) 2 = 1 ↔ c.getLsbD 0 = true := by
      rw [tmod_nonneg_eq _ _ hr.1]
      unfold nB BitVec.getLsbD
      rw [Nat.testBit_zero, decide_eq_true_iff]
      omega
    refine Ev.step (f := fun k => haulageref02_Of.l1 k s (nB (bitB c)) i ((j + 1 : Nat) : Int)) (fun k => ?_) (ih (j + 1) (bitB c) (by omega) h)
    simp only [haulageref02_Of.l1]
    rw [if_pos (by omega), hd, show wrap64 ((j : Int) + 1) = ((j + 1 : Nat) : Int) by unfold wrap64; omega]
    unfold bitB
    cases e : c.getLsbD 0
    · rw [if_neg (by rw [hm, e]; decide)]
      simp
    · rw [if_pos (hm.2 e), show (2197175160 : Int) = nB 2197175160#32 by decide +kernel, xor_u32]
      simp

theorem bitsB8 (c : BitVec 32) : bitsB 8 c = bit4 (bit4 c) := rfl

theorem refOf_l0 (s : ByteArray) (hs : s.size ≤ 1000000000000) (n : BitVec 32) (d : Nat) : ∀ i, i + d = s.size →
    Ev (fun k => haulageref02_Of.l0 k s (nB (foldB n ((byt s).take i))) (i : Int)) (nB (~~~ foldB n (byt s))) := by
  induction d with
  | zero =>
    intro i hi
    refine Ev.step (f := fun _ => some (nB (~~~ foldB n (byt s)))) (fun k => ?_) (Ev.now _)
    simp only [haulageref02_Of.l0]
    have hr := nB_range (~~~ foldB n (byt s))
    rw [if_neg (by omega), List.take_of_length_le (by rw [byt_len]; omega), not_u32, Int.emod_eq_of_lt hr.1 hr.2]
  | succ d ih =>
    intro i hi
    have hl : i < (byt s).length := by rw [byt_len]; omega
    have e : foldB n ((byt s).take (i + 1)) = bit4 (bit4 (foldB n ((byt s).take i) ^^^ BitVec.ofInt 32 (bt s (i : Int)))) := by
      rw [List.take_succ_eq_append_getElem hl, foldB_append, bt_byt s i (by omega)]
      rfl
    have h1 : Go.bits .xor .u32 (nB (foldB n ((byt s).take i))) (bt s (i : Int) % 4294967296) = nB (foldB n ((byt s).take i) ^^^ BitVec.ofInt 32 (bt s (i : Int))) := by
      rw [u8_in_u32, bt_word, xor_u32, ← bt_word]
    refine Ev.step (fun k => by simp only [haulageref02_Of.l0]; rw [if_pos (by omega), if_pos (by omega), h1]) ?_
    refine refOf_l1 s (i : Int) _ 8 0 _ rfl ?_
    rw [bitsB8, ← e, show wrap64 ((i : Int) + 1) = ((i + 1 : Nat) : Int) by unfold wrap64; omega]
    exact ih (i + 1) (by omega)

theorem refOf_ev (s : ByteArray) (hs : s.size ≤ 1000000000000) : Ev (fun k => haulageref02_Of.f k s) (nB (moreB 0 (byt s))) := by
  have := refOf_l0 s hs (BitVec.allOnes 32) s.size 0 (by omega)
  unfold haulageref02_Of.f moreB
  rw [show (4294967295 : Int) = nB (BitVec.allOnes 32) by decide +kernel, show ~~~ (0 : BitVec 32) = BitVec.allOnes 32 by decide]
  simpa [foldB] using this

/- piece refput -/
theorem refPut_l0 (n : Int) (h0 : 0 ≤ n) (h1 : n < 18446744073709551616) (m : Nat) (hm : m ≤ 8) (d : Nat) : ∀ i, i + d = m → Ev (fun k => haulageref01_Put.l0 k (n / 256 ^ i) (m : Int) (strOfNums (putS n i)) (i : Int)) (strOfNums (putS n m)) := by
  induction d with
  | zero =>
    intro i hi
    refine Ev.step (f := fun _ => some (strOfNums (putS n m))) (fun k => ?_) (Ev.now _)
    simp only [haulageref01_Put.l0]
    rw [if_neg (by omega), show i = m by omega]
  | succ d ih =>
    intro i hi
    have hp := p256_pos i
    have hd0 : 0 ≤ n / 256 ^ i := Int.ediv_nonneg h0 (Int.le_of_lt hp)
    have hd1 : n / 256 ^ i ≤ n := Int.ediv_le_self _ h0
    refine Ev.step (f := fun k => haulageref01_Put.l0 k (n / 256 ^ (i + 1)) (m : Int) (strOfNums (putS n (i + 1))) ((i + 1 : Nat) : Int)) (fun k => ?_) (ih (i + 1) (by omega))
    simp only [haulageref01_Put.l0, Option.bind_some]
    rw [if_pos (by omega), tmod_nonneg_eq _ _ hd0, tdiv_nonneg_eq _ _ hd0, show n / 256 ^ i % 256 % 256 = n / 256 ^ i % 256 by omega, u64_id _ (by omega) (by omega), if_pos (by rw [strOfNums_size, strOfNums_size, putS_len]; simp; omega), ← strOfNums_append,
      show wrap64 ((i : Int) + 1) = ((i + 1 : Nat) : Int) by unfold wrap64; omega, Int.pow_succ, Int.ediv_ediv_of_nonneg (Int.le_of_lt hp)]
    rfl

theorem refPut_ev (n : Int) (h0 : 0 ≤ n) (h1 : n < 18446744073709551616) (m : Nat) (hm : m ≤ 8) : Ev (fun k => haulageref01_Put.f k n (m : Int)) (strOfNums (putS n m)) := by
  have := refPut_l0 n h0 h1 m hm m 0 (by omega)
  simpa [haulageref01_Put.f, putS, strOfNums] using this

/- piece refseal -/
theorem refSeal_ev (s : ByteArray) (hs : s.size ≤ 1000000000000) : Ev (fun k => haulageref02_Seal.f k s) (sealB s) := by
  unfold haulageref02_Seal.f
  have hr := nB_range (moreB 0 (byt s))
  refine Ev.bind (refOf_ev s hs) (Ev.bind (refPut_ev _ hr.1 (by omega) 4 (by decide)) ?_)
  refine Ev.congr (f := fun _ => some (sealB s)) (fun k => ?_) (Ev.now _)
  rw [if_pos (by rw [strOfNums_size, putS_len]; omega)]
  rfl

/- piece sopen -/
/-- What a text is that may be opened, or the error's number. -/
def openB (s : ByteArray) : ByteArray × Int := if s.size < 4 then (⟨#[]⟩, 4) else if sealB (s.extract 0 (s.size - 4)) = s then (s.extract 0 (s.size - 4), 0) else (⟨#[]⟩, 7)

theorem cut4 (s : ByteArray) (h : 4 ≤ s.size) : s.extract 0 (s.size - 4) ++ s.extract (s.size - 4) s.size = s := by
  apply byt_inj
  rw [byt_append, byt_to, byt_cut, List.take_append_drop]

theorem app_left_cancel (a b c : ByteArray) (h : a ++ b = a ++ c) : b = c := by
  apply byt_inj
  have := congrArg byt h
  rw [byt_append, byt_append] at this
  exact List.append_cancel_left this

theorem sum_Open_ev (s : ByteArray) (hs : s.size ≤ 1000000000000) : Ev (fun k => sum_Open.f k s) (openB s) := by
  unfold sum_Open.f openB
  have hw : wrap64 ((s.size : Int) - 4) = (s.size : Int) - 4 := by unfold wrap64; omega
  rw [hw]
  by_cases h : s.size < 4
  · refine Ev.congr (f := fun _ => some (⟨#[]⟩, 4)) (fun k => ?_) (by rw [if_pos h]; exact Ev.now _)
    rw [if_pos (by omega)]
  · rw [if_neg h]
    refine Ev.congr (fun k => by rw [if_neg (by omega), if_pos (by omega), if_pos (by omega)]) ?_
    rw [show ((s.size : Int) - 4).toNat = s.size - 4 by omega]
    have hr := nB_range (moreB 0 (byt (s.extract 0 (s.size - 4))))
    have hz : (s.extract 0 (s.size - 4)).size = s.size - 4 := by rw [ByteArray.size_extract]; omega
    refine Ev.bind (sum_Of_one _ (by omega)) (Ev.bind (word_Put32_ev _ hr.1 hr.2) ?_)
    have hc := cut4 s (by omega)
    by_cases e : sealB (s.extract 0 (s.size - 4)) = s
    · rw [if_pos e]
      refine Ev.congr (f := fun _ => some (s.extract 0 (s.size - 4), 0)) (fun k => ?_) (Ev.now _)
      rw [if_pos]
      rw [toList_eq_iff]
      refine app_left_cancel (s.extract 0 (s.size - 4)) _ _ ?_
      rw [hc]
      exact e
    · rw [if_neg e]
      refine Ev.congr (f := fun _ => some (⟨#[]⟩, 7)) (fun k => ?_) (Ev.now _)
      rw [if_neg]
      rw [toList_eq_iff]
      intro h2
      refine e ?_
      have : sealB (s.extract 0 (s.size - 4)) = s.extract 0 (s.size - 4) ++ s.extract (s.size - 4) s.size := by rw [← h2]; rfl
      rw [this, hc]

theorem open_seal (s : ByteArray) : openB (sealB s) = (s, 0) := by
  unfold openB
  have hz := sealB_size s
  have e : (sealB s).extract 0 ((sealB s).size - 4) = s := by
    apply byt_inj
    rw [byt_to, hz]
    unfold sealB
    rw [byt_append, Nat.add_sub_cancel, List.take_append_of_le_length (by rw [byt_len]; omega), List.take_of_length_le (by rw [byt_len]; omega)]
  rw [if_neg (by omega), e, if_pos rfl]


/- piece refopen -/
theorem refOpen_ev (s : ByteArray) (hs : s.size ≤ 1000000000000) : Ev (fun k => haulageref02_Open.f k s) (openB s) := by
  unfold haulageref02_Open.f openB
  have hw : s.size ≥ 4 → wrap64 ((s.size : Int) - 4) = (s.size : Int) - 4 := by intro h; unfold wrap64; omega
  by_cases h : s.size < 4
  · refine Ev.congr (f := fun _ => some (⟨#[]⟩, 4)) (fun k => ?_) (by rw [if_pos h]; exact Ev.now _)
    rw [if_pos (by omega)]
  · rw [if_neg h, hw (by omega)]
    refine Ev.congr (fun k => by rw [if_neg (by omega), if_pos (by omega), if_pos (by omega)]) ?_
    rw [show ((s.size : Int) - 4).toNat = s.size - 4 by omega]
    have hz : (s.extract 0 (s.size - 4)).size = s.size - 4 := by rw [ByteArray.size_extract]; omega
    refine Ev.bind (refSeal_ev _ (by omega)) ?_
    by_cases e : sealB (s.extract 0 (s.size - 4)) = s
    · rw [if_pos e]
      refine Ev.congr (f := fun _ => some (s.extract 0 (s.size - 4), 0)) (fun k => ?_) (Ev.now _)
      rw [if_pos (by rw [toList_eq_iff]; exact e)]
    · rw [if_neg e]
      refine Ev.congr (f := fun _ => some (⟨#[]⟩, 7)) (fun k => ?_) (Ev.now _)
      rw [if_neg (by rw [toList_eq_iff]; exact e)]


/- piece reader -/
theorem one_i (b : Int) (h : 0 ≤ b) (h2 : b ≤ 9223372036854775807) : Ev (fun k => haulageref01_One.f k (IntKind.u64.wrap b)) (strOfNums (sb b.toNat)) := by
  have := refOne_ev b.toNat (by omega)
  rw [u64_id b h (by omega), show b = ((b.toNat : Nat) : Int) by omega]
  exact this

/-! ### the reference's reader -/
theorem bad_eq (s : ByteArray) (p e n : Int) : haulageref11_R_bad.f s p e n = some (s, p, if e = 0 then n else e) := by
  unfold haulageref11_R_bad.f
  split <;> rfl

/-- A number, read where nothing is wrong yet: what is read, where it stands then, what is wrong. -/
theorem rnumber_ev (s : ByteArray) (p : Nat) (hp : p ≤ s.size) (hs : s.size ≤ 1000000) :
    ∃ q : Int, ((numS (s.extract p s.size)).2.2 = 0 → q = (p : Int) + (numS (s.extract p s.size)).2.1) ∧ Ev (fun k => haulageref11_R_Number.f k s (p : Int) 0 9223372036854775807) ((numS (s.extract p s.size)).1, s, q, (numS (s.extract p s.size)).2.2) := by
  have hsz : (s.extract p s.size).size = s.size - p := by simp
  have hraw : Ev (fun k => haulageref11_R_Raw.f k s (p : Int) 0) ((longS (s.extract p s.size)).1, s, wrap64 ((p : Int) + (longS (s.extract p s.size)).2.1), (longS (s.extract p s.size)).2.2) := by
    unfold haulageref11_R_Raw.f
    refine Ev.congr (fun k => by rw [if_pos rfl, if_pos (by omega), if_pos (by omega), Int.toNat_natCast]) ?_
    refine Ev.bind (refLong_ev _) ?_
    refine Ev.congr (f := fun _ => _) (fun k => by rw [bad_eq, Option.bind_some, if_pos rfl]) ?_
    exact Ev.now _
  have hmax : IntKind.u64.wrap 9223372036854775807 = 9223372036854775807 := by rw [u64_eq]; omega
  unfold haulageref11_R_Number.f numS
  by_cases h : (longS (s.extract p s.size)).2.2 = 0
  · obtain ⟨h1, h2, h3, h4, h5⟩ := longS_two _ h
    have hw : wrap64 ((p : Int) + (longS (s.extract p s.size)).2.1) = (p : Int) + (longS (s.extract p s.size)).2.1 := by unfold wrap64; omega
    rw [hw] at hraw
    refine ⟨(p : Int) + (longS (s.extract p s.size)).2.1, fun h_ => ?_, ?_⟩
    · simp only [if_pos h] at h_ ⊢
      by_cases hv : (longS (s.extract p s.size)).1 < 9223372036854775808
      · rw [if_pos hv]
      · rw [if_neg hv] at h_
        exact absurd h_ (by decide)
    · refine Ev.bind hraw ?_
      refine Ev.congr (fun k => by rw [if_pos h, hmax]) ?_
      simp only [if_pos h]
      by_cases hv : (longS (s.extract p s.size)).1 < 9223372036854775808
      · simp only [if_pos hv]
        refine Ev.step (f := fun _ => _) (fun k => by simp only [haulageref11_R_Number.j0]; rw [if_neg (by simp; omega), if_pos h]) ?_
        rw [show wrap64 (longS (s.extract p s.size)).1 = (longS (s.extract p s.size)).1 by unfold wrap64; omega, h]
        exact Ev.now _
      · simp only [if_neg hv]
        refine Ev.step (f := fun _ => _) (fun k => by simp only [haulageref11_R_Number.j0]; rw [if_pos (by simp; omega), bad_eq, Option.bind_some, h, if_pos rfl]) ?_
        exact Ev.now _
  · obtain ⟨e, _⟩ := longS_err _ h
    refine ⟨wrap64 ((p : Int) + (longS (s.extract p s.size)).2.1), fun h_ => ?_, ?_⟩
    · exact absurd (by simpa only [if_neg h] using h_) h
    · refine Ev.bind hraw ?_
      refine Ev.congr (fun k => by rw [if_neg h]) ?_
      simp only [if_neg h]
      refine Ev.step (f := fun _ => _) (fun k => by simp only [haulageref11_R_Number.j0]; rw [if_neg (by decide), if_neg h]) ?_
      exact Ev.now _
/-- Where something is wrong already nothing is read. -/
theorem rnumber_bad (s : ByteArray) (p e : Int) (he : ¬ e = 0) : Ev (fun k => haulageref11_R_Number.f k s p e 9223372036854775807) (0, s, p, e) := by
  unfold haulageref11_R_Number.f haulageref11_R_Raw.f
  refine Ev.congr (fun k => by rw [if_neg he, Option.bind_some, if_neg he]) ?_
  exact Ev.step (f := fun _ => _) (fun k => by simp only [haulageref11_R_Number.j0]; rw [if_neg (by decide), if_neg he]) (Ev.now _)

theorem cut_cut (s : ByteArray) (p n : Nat) : (s.extract p s.size).extract n (s.extract p s.size).size = s.extract (p + n) s.size := by
  apply byt_inj
  rw [byt_cut, byt_cut, byt_cut, List.drop_drop]

theorem rbyte_ev (s : ByteArray) (lo hi : Int) : Ev (fun k => haulageref11_R_Byte.f k s 0 0 lo hi) (if s.size = 0 then (0, s, 0, 4) else if bt s 0 < lo ∨ bt s 0 > hi then (0, s, 0, 5) else (bt s 0, s, 1, 0)) := by
  unfold haulageref11_R_Byte.f
  have hb := btr s 0
  have hw : wrap64 (bt s 0) = bt s 0 := by unfold wrap64; omega
  by_cases h0 : s.size = 0
  · rw [if_pos h0]
    refine Ev.congr (fun k => by rw [if_pos rfl]) (Ev.step (fun k => by simp only [haulageref11_R_Byte.j0]; rw [if_pos (by rw [decide_eq_true_iff]; omega), bad_eq, Option.bind_some, if_pos rfl]) (Ev.step (f := fun _ => some (0, s, 0, 4)) (fun k => by simp only [haulageref11_R_Byte.j1]; rw [if_neg (show ¬ (4 : Int) = 0 by decide)]) (Ev.now _)))
  · rw [if_neg h0]
    refine Ev.congr (fun k => by rw [if_pos rfl]) (Ev.step (fun k => by simp only [haulageref11_R_Byte.j0]; rw [if_neg (by rw [decide_eq_true_iff]; omega)]) ?_)
    refine Ev.step (f := fun _ => some (if bt s 0 < lo ∨ bt s 0 > hi then (0, s, 0, 5) else (bt s 0, s, 1, 0))) (fun k => ?_) (Ev.now _)
    simp only [haulageref11_R_Byte.j1]
    rw [if_pos (by trivial), if_pos (by omega), if_pos (by omega), hw, bad_eq, Option.bind_some]
    by_cases h1 : bt s 0 < lo
    · rw [if_pos h1, if_pos (show bt s 0 < lo ∨ bt s 0 > hi from .inl h1)]; rfl
    · rw [if_neg h1]
      by_cases h2 : bt s 0 > hi
      · rw [if_pos h2, if_pos (show bt s 0 < lo ∨ bt s 0 > hi from .inr h2)]; rfl
      · rw [if_neg h2, if_neg (by omega), show wrap64 (0 + 1) = 1 by unfold wrap64; omega]


/- piece off -/
/-! ### an offset -/
def rightO (a b : Int) : Bool := decide (0 ≤ a ∧ -1 ≤ b ∧ b < 9223372036854775807)
/-- Its bytes, unsealed. -/
def bodyO (a b : Int) : ByteArray := strOfNums ([1] ++ (sb a.toNat ++ sb (b + 1).toNat))
theorem bodyO_size (a b : Int) (ha : 0 ≤ a ∧ a ≤ 9223372036854775807) (hb : -1 ≤ b ∧ b < 9223372036854775807) : (bodyO a b).size ≤ 21 := by
  unfold bodyO
  rw [strOfNums_size, List.length_append, List.length_append]
  have h1 := sb_len_i a ha.1 ha.2
  have h2 := sb_len_i (b + 1) (by omega) (by omega)
  simp
  omega
theorem oright_eq (a b : Int) : offset_Right.f a b = some (rightO a b) := by
  unfold offset_Right.f rightO
  by_cases h1 : a ≥ 0
  · rw [if_pos h1]
    by_cases h2 : b ≥ -1
    · rw [if_pos h2]; congr 1; rw [Bool.eq_iff_iff, decide_eq_true_iff, decide_eq_true_iff]; omega
    · rw [if_neg h2]; congr 1; symm; simp only [decide_eq_false_iff_not]; omega
  · rw [if_neg h1]; congr 1; symm; simp only [decide_eq_false_iff_not]; omega
theorem sbs_three (x y z : Int) : sbs [x, y, z] = sb x.toNat ++ (sb y.toNat ++ sb z.toNat) := by simp [sbs]
theorem oencode_ev (a b : Int) (ha : a ≤ 9223372036854775807) : Ev (fun k => offset_Encode.f k a b) (if rightO a b = true then (sealB (bodyO a b), 0) else ((⟨#[]⟩ : ByteArray), 2)) := by
  unfold offset_Encode.f
  rw [oright_eq]
  refine Ev.congr (fun k => by rw [Option.bind_some]) ?_
  by_cases h : rightO a b = true
  · rw [if_pos h]
    refine Ev.congr (fun k => by rw [if_pos h]) ?_
    have hh : 0 ≤ a ∧ -1 ≤ b ∧ b < 9223372036854775807 := by unfold rightO at h; exact decide_eq_true_iff.1 h
    have hw : wrap64 (b + 1) = b + 1 := by unfold wrap64; omega
    rw [hw, u64_id a hh.1 (by omega), u64_id (b + 1) (by omega) (by omega)]
    have hs := word_Short_ev [1, a, b + 1] (by simp) (fun x hx => by
      simp only [List.mem_cons, List.not_mem_nil, or_false] at hx
      rcases hx with e | e | e <;> subst e <;> omega)
    rw [sbs_three, show sb (1 : Int).toNat = [1] by rw [sb_small (by decide)]; rfl] at hs
    refine Ev.bind hs ?_
    have hz := bodyO_size a b ⟨hh.1, ha⟩ hh.2
    refine Ev.bind (sum_Seal_ev (bodyO a b) (by omega)) ?_
    exact Ev.now _
  · rw [if_neg h]
    exact Ev.congr (fun k => by rw [if_neg h]) (Ev.now _)

/-- Two numbers and nothing behind. -/
def twoO (s : ByteArray) : Int × Int × Int :=
  if (numS s).2.2 = 0 then (if (numS (numR s)).2.2 = 0 then (if (numR (numR s)).size = 0 then ((numS s).1, (numS (numR s)).1 - 1, 0) else (0, 0, 6)) else (0, 0, (numS (numR s)).2.2)) else (0, 0, (numS s).2.2)
def decO (s : ByteArray) : Int × Int × Int :=
  if (openB s).2 = 0 then (if (openB s).1.size = 0 then (0, 0, 4) else if bt (openB s).1 0 = 1 then twoO ((openB s).1.extract 1 (openB s).1.size) else (0, 0, 5)) else (0, 0, (openB s).2)

theorem numS_val (s : ByteArray) : 0 ≤ (numS s).1 ∧ (numS s).1 ≤ 9223372036854775807 := by
  unfold numS
  by_cases h : (longS s).2.2 = 0
  · obtain ⟨h1, h2, _⟩ := longS_two s h
    simp only [if_pos h]
    split <;> omega
  · simp only [if_neg h]
    omega

theorem odec_step (s : ByteArray) (i : Int) (hi : i = 0 ∨ i = 1) (a b : Int) (r : Int × Int × Int)
    (h : (numS s).2.2 = 0 → Ev (fun k => if i = 0 then offset_Decode.l0 k (numR s) 1 (numS s).1 b else offset_Decode.l0 k (numR s) 2 a (numS s).1) r) (he : ¬ (numS s).2.2 = 0 → r = (0, 0, (numS s).2.2)) :
    Ev (fun k => offset_Decode.l0 k s i a b) r := by
  refine Ev.step (fun k => by simp only [offset_Decode.l0]; rw [if_pos (by omega)]) ?_
  refine Ev.bind (word_Long_ev s) ?_
  by_cases hl : (longS s).2.2 = 0
  · obtain ⟨h1, h2, h3, h4, _⟩ := longS_two s hl
    by_cases hv : (longS s).1 < 9223372036854775808
    · have e : numS s = ((longS s).1, (longS s).2.1, 0) := by unfold numS; rw [if_pos hl, if_pos hv, if_pos hv, if_pos hv]
      have e2 : numR s = s.extract (longS s).2.1.toNat s.size := by unfold numR; rw [e]; simp only [if_true]
      rw [e, e2] at h
      have h := h rfl
      simp only at h
      refine Ev.congr (fun k => by rw [if_pos hl, if_pos (by omega), if_pos (by omega), if_pos (by omega), if_pos (by omega), if_pos (by omega), show wrap64 (longS s).1 = (longS s).1 by unfold wrap64; omega]) ?_
      rcases hi with hi | hi
      · subst hi
        refine Ev.congr (fun k => by rw [if_pos rfl, show wrap64 (0 + 1) = 1 by unfold wrap64; omega]) ?_
        exact Ev.congr (fun k => by rw [if_pos rfl]) h
      · subst hi
        refine Ev.congr (fun k => by rw [if_neg (by decide), if_pos rfl, show wrap64 (1 + 1) = 2 by unfold wrap64; omega]) ?_
        exact Ev.congr (fun k => by rw [if_neg (by decide)]) h
    · have e : (numS s).2.2 = 5 := by unfold numS; rw [if_pos hl]; simp only [if_neg hv]
      rw [he (by rw [e]; decide), e]
      exact Ev.congr (fun k => by rw [if_pos hl, if_neg (by omega)]) (Ev.now _)
  · have e : (numS s).2.2 = (longS s).2.2 := by unfold numS; rw [if_neg hl]
    rw [he (by rw [e]; exact hl), e]
    exact Ev.congr (fun k => by rw [if_neg hl]) (Ev.now _)

theorem odec_end (s : ByteArray) (a b : Int) (hb : 0 ≤ b ∧ b ≤ 9223372036854775807) : Ev (fun k => offset_Decode.l0 k s 2 a b) (if s.size = 0 then (a, b - 1, 0) else (0, 0, 6)) := by
  by_cases h : s.size = 0
  · rw [if_pos h]
    exact Ev.step (fun k => by simp only [offset_Decode.l0]; rw [if_neg (by decide), if_pos ((nil_iff s).2 h), show wrap64 (b - 1) = b - 1 by unfold wrap64; omega]) (Ev.now _)
  · rw [if_neg h]
    exact Ev.step (fun k => by simp only [offset_Decode.l0]; rw [if_neg (by decide), if_neg (fun e => h ((nil_iff s).1 e))]) (Ev.now _)

theorem odecode_ev (s : ByteArray) (hs : s.size ≤ 1000000) : Ev (fun k => offset_Decode.f k s) (decO s) := by
  unfold offset_Decode.f decO
  refine Ev.bind (sum_Open_ev s (by omega)) ?_
  by_cases h : (openB s).2 = 0
  · rw [if_pos h]
    by_cases h0 : (openB s).1.size = 0
    · rw [if_pos h0]
      exact Ev.congr (fun k => by rw [if_pos h, if_pos ((nil_iff _).2 h0)]) (Ev.now _)
    · rw [if_neg h0]
      refine Ev.congr (fun k => by rw [if_pos h, if_neg (fun e => h0 ((nil_iff _).1 e)), if_pos (by omega)]) ?_
      by_cases h1 : bt (openB s).1 0 = 1
      · rw [if_pos h1]
        refine Ev.congr (fun k => by rw [if_pos h1, if_pos (by omega)]) ?_
        unfold twoO
        refine odec_step _ 0 (.inl rfl) _ _ _ (fun e => ?_) (fun e => by rw [if_neg e])
        rw [if_pos e]
        refine Ev.congr (fun k => by rw [if_pos rfl]) ?_
        refine odec_step _ 1 (.inr rfl) _ _ _ (fun e => ?_) (fun e => by rw [if_neg e])
        rw [if_pos e]
        refine Ev.congr (fun k => by rw [if_neg (by decide)]) ?_
        exact odec_end _ _ _ (numS_val _)
      · rw [if_neg h1]
        exact Ev.congr (fun k => by rw [if_neg h1]) (Ev.now _)
  · rw [if_neg h]
    exact Ev.congr (fun k => by rw [if_neg h]) (Ev.now _)

/-! ### there and back -/
theorem two_ok (a b : Int) (ha : 0 ≤ a ∧ a ≤ 9223372036854775807) (hb : -1 ≤ b ∧ b < 9223372036854775807) : twoO (strOfNums (sb a.toNat ++ sb (b + 1).toNat)) = (a, b, 0) := by
  unfold twoO
  rw [strOfNums_append]
  obtain ⟨e1, e2⟩ := num_sb a.toNat (by omega) (strOfNums (sb (b + 1).toNat))
  rw [e2, e1]
  obtain ⟨f1, f2⟩ := num_sb (b + 1).toNat (by omega) ⟨#[]⟩
  rw [show strOfNums (sb (b + 1).toNat) ++ (⟨#[]⟩ : ByteArray) = strOfNums (sb (b + 1).toNat) from ByteArray.append_empty] at f1 f2
  rw [f2, f1]
  simp only [if_true]
  rw [if_pos (show (⟨#[]⟩ : ByteArray).size = 0 from rfl), show ((a.toNat : Nat) : Int) = a by omega, show (((b + 1).toNat : Nat) : Int) - 1 = b by omega]
theorem dec_enc (a b : Int) (ha : 0 ≤ a ∧ a ≤ 9223372036854775807) (hb : -1 ≤ b ∧ b < 9223372036854775807) : decO (sealB (bodyO a b)) = (a, b, 0) := by
  unfold decO
  rw [open_seal]
  simp only [if_true]
  have e : bodyO a b = strOfNums (1 :: (sb a.toNat ++ sb (b + 1).toNat)) ++ ⟨#[]⟩ := by
    rw [show strOfNums (1 :: (sb a.toNat ++ sb (b + 1).toNat)) ++ (⟨#[]⟩ : ByteArray) = strOfNums (1 :: (sb a.toNat ++ sb (b + 1).toNat)) from ByteArray.append_empty]
    rfl
  have hz : ¬ (bodyO a b).size = 0 := by rw [e, sizeApp, strOfNums_size, List.length_cons]; omega
  rw [if_neg hz, e, bt_head 1 (by omega), if_pos rfl, cut_head, show strOfNums (sb a.toNat ++ sb (b + 1).toNat) ++ (⟨#[]⟩ : ByteArray) = strOfNums (sb a.toNat ++ sb (b + 1).toNat) from ByteArray.append_empty]
  exact two_ok a b ha hb

theorem two_back (s : ByteArray) (h : (twoO s).2.2 = 0) : ∃ a b, twoO s = (a, b, 0) ∧ (0 ≤ a ∧ a ≤ 9223372036854775807) ∧ (-1 ≤ b ∧ b < 9223372036854775807) ∧ strOfNums (sb a.toNat ++ sb (b + 1).toNat) = s := by
  unfold twoO at h ⊢
  by_cases h1 : (numS s).2.2 = 0
  · rw [if_pos h1] at h ⊢
    by_cases h2 : (numS (numR s)).2.2 = 0
    · rw [if_pos h2] at h ⊢
      by_cases h3 : (numR (numR s)).size = 0
      · rw [if_pos h3]
        obtain ⟨a1, a2, a3⟩ := num_back s h1
        obtain ⟨b1, b2, b3⟩ := num_back _ h2
        refine ⟨_, _, rfl, ⟨a1, by omega⟩, ⟨by omega, by omega⟩, ?_⟩
        rw [show (numS (numR s)).1 - 1 + 1 = (numS (numR s)).1 by omega, strOfNums_append]
        rw [empty_of _ h3, show strOfNums (sb (numS (numR s)).1.toNat) ++ (⟨#[]⟩ : ByteArray) = strOfNums (sb (numS (numR s)).1.toNat) from ByteArray.append_empty] at b3
        rw [b3]
        exact a3
      · rw [if_neg h3] at h
        exact absurd h (by decide)
    · rw [if_neg h2] at h
      exact absurd h h2
  · rw [if_neg h1] at h
    exact absurd h h1
theorem dec_back (s : ByteArray) (h : (decO s).2.2 = 0) : ∃ a b, decO s = (a, b, 0) ∧ (0 ≤ a ∧ a ≤ 9223372036854775807) ∧ (-1 ≤ b ∧ b < 9223372036854775807) ∧ sealB (bodyO a b) = s := by
  unfold decO at h ⊢
  by_cases h1 : (openB s).2 = 0
  · rw [if_pos h1] at h ⊢
    by_cases h0 : (openB s).1.size = 0
    · rw [if_pos h0] at h
      exact absurd h (by decide)
    · rw [if_neg h0] at h ⊢
      by_cases hk : bt (openB s).1 0 = 1
      · rw [if_pos hk] at h ⊢
        obtain ⟨a, b, e, ha, hb, e2⟩ := two_back _ h
        refine ⟨a, b, e, ha, hb, ?_⟩
        have hbody : bodyO a b = (openB s).1 := by
          unfold bodyO
          rw [strOfNums_append, e2]
          refine cut_join _ 1 _ ?_
          have := bt_byt (openB s).1 0 (by omega)
          rw [show ((0 : Nat) : Int) = 0 by rfl, hk] at this
          have hl : 0 < (byt (openB s).1).length := by rw [byt_len]; omega
          rw [List.take_one, List.head?_eq_getElem?, List.getElem?_eq_getElem hl, ← this]
          rfl
        rw [hbody]
        unfold openB at h1 ⊢
        by_cases q : s.size < 4
        · rw [if_pos q] at h1
          exact absurd h1 (by decide)
        · rw [if_neg q] at h1 ⊢
          by_cases q2 : sealB (s.extract 0 (s.size - 4)) = s
          · rw [if_pos q2]
            exact q2
          · rw [if_neg q2] at h1
            exact absurd h1 (by decide)
      · rw [if_neg hk] at h
        exact absurd h (by decide)
  · rw [if_neg h1] at h
    exact absurd h h1

/- piece refoff -/
/-! ### the reference's offset -/
theorem roright_eq (a b : Int) : haulageref26_Right.f a b = some (rightO a b) := by
  unfold haulageref26_Right.f rightO
  by_cases h1 : a ≥ 0
  · rw [if_pos h1]
    by_cases h2 : b ≥ -1
    · rw [if_pos h2]; congr 1; rw [Bool.eq_iff_iff, decide_eq_true_iff, decide_eq_true_iff]; omega
    · rw [if_neg h2]; congr 1; symm; simp only [decide_eq_false_iff_not]; omega
  · rw [if_neg h1]; congr 1; symm; simp only [decide_eq_false_iff_not]; omega
theorem roencode_ev (a b : Int) (ha : 0 ≤ a ∧ a ≤ 9223372036854775807) (hb : -1 ≤ b ∧ b < 9223372036854775807) : Ev (fun k => haulageref26_Encode.f k a b) (sealB (bodyO a b)) := by
  unfold haulageref26_Encode.f
  have h1 := sb_len_i a ha.1 ha.2
  have h2 := sb_len_i (b + 1) (by omega) (by omega)
  have hw : wrap64 (b + 1) = b + 1 := by unfold wrap64; omega
  refine Ev.bind (one_i a ha.1 ha.2) ?_
  refine Ev.congr (fun k => by rw [if_pos (by rw [strOfNums_size]; omega), hw]) ?_
  refine Ev.bind (one_i (b + 1) (by omega) (by omega)) ?_
  have e1 : (⟨#[1]⟩ : ByteArray) = strOfNums [1] := rfl
  have e : ((⟨#[1]⟩ : ByteArray) ++ strOfNums (sb a.toNat)) ++ strOfNums (sb (b + 1).toNat) = bodyO a b := by
    unfold bodyO
    rw [e1, strOfNums_append, strOfNums_append, ByteArray.append_assoc]
  refine Ev.congr (fun k => by rw [if_pos (by rw [e1, sizeApp, strOfNums_size, strOfNums_size, strOfNums_size]; simp; omega), e]) ?_
  have hz := bodyO_size a b ha hb
  refine Ev.bind (refSeal_ev _ (by omega)) ?_
  exact Ev.now _

theorem rodecode_ev (s : ByteArray) (hs : s.size ≤ 1000000) : Ev (fun k => haulageref26_Decode.f k s) (decO s) := by
  unfold haulageref26_Decode.f decO
  refine Ev.bind (refOpen_ev s (by omega)) ?_
  by_cases h : (openB s).2 = 0
  · rw [if_pos h]
    have hz : (openB s).1.size ≤ s.size := by
      unfold openB
      split
      · exact Nat.zero_le _
      · split
        · rw [ByteArray.size_extract]; omega
        · exact Nat.zero_le _
    generalize (openB s).1 = t at hz
    refine Ev.congr (fun k => by rw [if_pos h]) ?_
    refine Ev.bind (rbyte_ev t 1 1) ?_
    have hbad : ∀ e : Int, ¬ e = 0 → Ev (fun k => (haulageref11_R_Number.f k t 0 e 9223372036854775807).bind fun bt184 => ((haulageref11_R_Number.f k bt184.2.1 bt184.2.2.1 bt184.2.2.2 9223372036854775807).bind fun bt188 => (if bt188.2.2.2 = 0 then (if bt188.2.2.1 < (t.size : Int) then (some (0, 0, 6)) else (some (bt184.1, wrap64 (bt188.1 - 1), 0))) else (some (0, 0, bt188.2.2.2))))) (0, 0, e) := by
      intro e he
      refine Ev.bind (rnumber_bad t 0 e he) ?_
      refine Ev.bind (rnumber_bad t 0 e he) ?_
      exact Ev.congr (fun k => by rw [if_neg he]) (Ev.now _)
    by_cases h0 : t.size = 0
    · simp only [if_pos h0]
      exact hbad 4 (by decide)
    · simp only [if_neg h0]
      have hb := btr t 0
      by_cases h1 : bt t 0 = 1
      · simp only [if_neg (show ¬ (bt t 0 < 1 ∨ bt t 0 > 1) by omega), if_pos h1]
        have hsz : (t.extract 1 t.size).size = t.size - 1 := by simp
        have hn : ∀ p : Nat, 0 ≤ (numS (t.extract p t.size)).2.1 ∧ (numS (t.extract p t.size)).2.1 ≤ ((t.size - p : Nat) : Int) := by
          intro p
          have hp : (t.extract p t.size).size = t.size - p := by simp
          unfold numS
          by_cases hl : (longS (t.extract p t.size)).2.2 = 0
          · obtain ⟨h1, h2, h3, h4, h5⟩ := longS_two _ hl
            simp only [if_pos hl]
            split <;> omega
          · simp only [if_neg hl]
            omega
        obtain ⟨q, hq, hev⟩ := rnumber_ev t 1 (by omega) (by omega)
        refine Ev.bind hev ?_
        unfold twoO
        by_cases he : (numS (t.extract 1 t.size)).2.2 = 0
        · rw [if_pos he]
          have e := hq he
          subst e
          simp only [he]
          have hn1 := hn 1
          have e2 : numR (t.extract 1 t.size) = t.extract (1 + (numS (t.extract 1 t.size)).2.1.toNat) t.size := by unfold numR; rw [if_pos he, cut_cut]
          rw [e2]
          rw [show ((1 : Nat) : Int) + (numS (t.extract 1 t.size)).2.1 = ((1 + (numS (t.extract 1 t.size)).2.1.toNat : Nat) : Int) by omega]
          generalize hp : 1 + (numS (t.extract 1 t.size)).2.1.toNat = p
          have hp2 : p ≤ t.size := by omega
          obtain ⟨q, hq, hev⟩ := rnumber_ev t p hp2 (by omega)
          refine Ev.bind hev ?_
          by_cases he2 : (numS (t.extract p t.size)).2.2 = 0
          · rw [if_pos he2]
            have e := hq he2
            subst e
            have hn2 := hn p
            have e3 : (numR (t.extract p t.size)).size = t.size - (p + (numS (t.extract p t.size)).2.1.toNat) := by unfold numR; rw [if_pos he2, cut_cut]; simp
            rw [e3]
            have hv := numS_val (t.extract p t.size)
            simp only [he2, if_true]
            by_cases h6 : t.size - (p + (numS (t.extract p t.size)).2.1.toNat) = 0
            · rw [if_pos h6]
              exact Ev.congr (fun k => by rw [if_neg (by omega), show wrap64 ((numS (t.extract p t.size)).1 - 1) = (numS (t.extract p t.size)).1 - 1 by unfold wrap64; omega]) (Ev.now _)
            · rw [if_neg h6]
              exact Ev.congr (fun k => by rw [if_pos (by omega)]) (Ev.now _)
          · rw [if_neg he2]
            exact Ev.congr (fun k => by rw [if_neg he2]) (Ev.now _)
        · rw [if_neg he]
          refine Ev.bind (rnumber_bad _ _ _ he) ?_
          exact Ev.congr (fun k => by rw [if_neg he]) (Ev.now _)
      · simp only [if_pos (show bt t 0 < 1 ∨ bt t 0 > 1 by omega), if_neg h1]
        exact hbad 5 (by decide)
  · rw [if_neg h]
    exact Ev.congr (fun k => by rw [if_neg h]) (Ev.now _)

theorem lives_ev : Ev (fun k => haulagelaw26_lives.f k) true := by
  unfold haulagelaw26_lives.f
  have h := oencode_ev 2 (-1) (by decide)
  rw [if_pos (by decide)] at h
  have e : bodyO 2 (-1) = ⟨#[1, 2, 0]⟩ := by
    unfold bodyO
    rw [show (2 : Int).toNat = 2 by decide, show (-1 + 1 : Int).toNat = 0 by decide, sb_small (by decide), sb_small (by decide)]
    rfl
  rw [e] at h
  refine Ev.bind h ?_
  refine Ev.congr (fun k => by rw [if_pos rfl]) ?_
  refine Ev.bind (sum_Seal_ev _ (by decide)) ?_
  refine Ev.congr (f := fun _ => some true) (fun k => ?_) (Ev.now _)
  rw [if_pos rfl]
  simp only [sealB_size]
  rfl

theorem haulagelaw26_OffsetBytes : ∀ (a0_0 : Int) (a0_1 : Int) (a1 : ByteArray), (Lit.int .i64 a0_0).wf = true → (Lit.int .i64 a0_1).wf = true → a1.size ≤ 140737488351232 → ∃ k, haulagelaw26_OffsetBytes.f k a0_0 a0_1 a1 = some true := by
  intro a b s ha hb hs
  replace ha := wf_i64 ha
  replace hb := wf_i64 hb
  refine Ev.rounds (r := true) ?_
  unfold haulagelaw26_OffsetBytes.f
  refine Ev.bind lives_ev ?_
  refine Ev.congr (fun k => by rw [if_pos rfl]) ?_
  by_cases h1 : (s.size : Int) > 100
  · exact Ev.congr (fun k => by rw [if_pos h1]) (Ev.now _)
  · refine Ev.congr (fun k => by rw [if_neg h1]) ?_
    refine Ev.bind (oencode_ev a b ha.2) ?_
    refine Ev.bind (odecode_ev s (by omega)) ?_
    refine Ev.bind (rodecode_ev s (by omega)) ?_
    rw [roright_eq, oright_eq]
    refine Ev.congr (fun k => by rw [Option.bind_some, Option.bind_some, if_neg (by simp), if_neg (by simp)]) ?_
    have hj : Ev (fun k => haulagelaw26_OffsetBytes.j1 k (if rightO a b = true then (sealB (bodyO a b), (0 : Int)) else ((⟨#[]⟩ : ByteArray), 2)).1 (if rightO a b = true then (sealB (bodyO a b), (0 : Int)) else ((⟨#[]⟩ : ByteArray), 2)).2 (rightO a b) a b) true := by
      by_cases hr : rightO a b = true
      · have hh : 0 ≤ a ∧ -1 ≤ b ∧ b < 9223372036854775807 := by unfold rightO at hr; exact decide_eq_true_iff.1 hr
        simp only [if_pos hr]
        refine Ev.step (fun k => by simp only [haulagelaw26_OffsetBytes.j1]; rw [if_pos hr]) ?_
        have hz := bodyO_size a b ⟨hh.1, ha.2⟩ hh.2
        have hz2 := sealB_size (bodyO a b)
        refine Ev.bind (odecode_ev _ (by omega)) ?_
        rw [dec_enc a b ⟨hh.1, ha.2⟩ hh.2]
        refine Ev.bind (roencode_ev a b ⟨hh.1, ha.2⟩ hh.2) ?_
        refine Ev.congr (f := fun _ => some true) (fun k => ?_) (Ev.now _)
        simp
      · simp only [if_neg hr]
        refine Ev.step (f := fun _ => some true) (fun k => ?_) (Ev.now _)
        simp only [haulagelaw26_OffsetBytes.j1]
        rw [if_neg hr, if_pos ((nil_iff ⟨#[]⟩).2 rfl)]
        rfl
    refine Ev.step (fun k => by simp only [haulagelaw26_OffsetBytes.j0]; rw [if_neg (by simp)]) ?_
    by_cases hd : (decO s).2.2 = 0
    · obtain ⟨a', b', e, ha', hb', hE⟩ := dec_back s hd
      refine Ev.congr (fun k => by rw [if_pos hd]) ?_
      rw [e]
      have h := oencode_ev a' b' ha'.2
      rw [if_pos (show rightO a' b' = true by unfold rightO; exact decide_eq_true_iff.2 ⟨ha'.1, hb'⟩), hE] at h
      refine Ev.bind h ?_
      exact Ev.congr (fun k => by rw [if_pos rfl, if_pos rfl]) hj
    · exact Ev.congr (fun k => by rw [if_neg hd]) hj

end Go.Proofs.YtjkjpjbohiggaabDoor.Pure

/- For every number of 32 and of 64 bits and every text: the four and eight bytes, and the number of a text's bytes or the error, are the reference's; no condition. -/
import Derived.Test.YtjkjpjbohiggaaaHWordFixedx2
set_option linter.unusedVariables false
set_option linter.unusedSimpArgs false
namespace Go.Proofs.Ytjkjpjbohiggaaa.Pure
open Go.RowKit Go.Proofs.Ytjkjpjbohiggaaa.HWordFixed Go.Proofs.YtjkjpjbohiggaaaW.PrintWords Go.Proofs.YtjkjpjbohiggaaaW.PrintLast Go.Proofs.YtjkjpjbohiggaaaW.PrintMore
/- piece base -/
theorem tmod_nonneg_eq (a b : Int) (ha : 0 ≤ a) : Int.tmod a b = a % b := Int.tmod_eq_emod_of_nonneg ha
theorem tdiv_nonneg_eq (a b : Int) (ha : 0 ≤ a) : Int.tdiv a b = a / b := Int.tdiv_eq_ediv_of_nonneg ha
theorem u64_id (n : Int) (h0 : 0 ≤ n) (h1 : n < 18446744073709551616) : IntKind.u64.wrap n = n := by
  simp only [IntKind.wrap, IntKind.bits, IntKind.signed]
  simp
  omega

theorem i64_eq (n : Int) : IntKind.i64.wrap n = wrap64 n := by unfold wrap64; exact Go.IntKind.wrap_i64 n
theorem u64_eq (n : Int) : IntKind.u64.wrap n = n % 18446744073709551616 := by simp [IntKind.wrap, IntKind.bits, IntKind.signed]

theorem wf_parts {k : IntKind} {x : Int} (h : (Lit.int k x).wf = true) : k.min ≤ x ∧ x ≤ k.max := by
  unfold Lit.wf at h
  rw [Bool.and_eq_true, decide_eq_true_eq, decide_eq_true_eq] at h
  exact h
theorem wf_i64 {x : Int} (h : (Lit.int .i64 x).wf = true) : -9223372036854775808 ≤ x ∧ x ≤ 9223372036854775807 := by
  have := wf_parts h
  rw [show IntKind.min .i64 = -9223372036854775808 by decide, show IntKind.max .i64 = 9223372036854775807 by decide] at this
  exact this
theorem wf_u64 {x : Int} (h : (Lit.int .u64 x).wf = true) : 0 ≤ x ∧ x ≤ 18446744073709551615 := by
  have := wf_parts h
  rw [show IntKind.min .u64 = 0 by decide, show IntKind.max .u64 = 18446744073709551615 by decide] at this
  exact this
theorem wf_u32 {x : Int} (h : (Lit.int .u32 x).wf = true) : 0 ≤ x ∧ x ≤ 4294967295 := by
  have := wf_parts h
  rw [show IntKind.min .u32 = 0 by decide, show IntKind.max .u32 = 4294967295 by decide] at this
  exact this
theorem wf_u16 {x : Int} (h : (Lit.int .u16 x).wf = true) : 0 ≤ x ∧ x ≤ 65535 := by
  have := wf_parts h
  rw [show IntKind.min .u16 = 0 by decide, show IntKind.max .u16 = 65535 by decide] at this
  exact this
theorem wf_u8 {x : Int} (h : (Lit.int .u8 x).wf = true) : 0 ≤ x ∧ x ≤ 255 := by
  have := wf_parts h
  rw [show IntKind.min .u8 = 0 by decide, show IntKind.max .u8 = 255 by decide] at this
  exact this

/- piece word -/
/-! ### short bytes -/
/-- The short bytes of a number. -/
def sb (n : Nat) : List Int := if n < 128 then [(n : Int)] else (((n % 128 + 128 : Nat) : Int)) :: sb (n / 128)
termination_by n
decreasing_by omega

theorem sb_small {n : Nat} (h : n < 128) : sb n = [(n : Int)] := by rw [sb, if_pos h]
theorem sb_big {n : Nat} (h : ¬ n < 128) : sb n = (((n % 128 + 128 : Nat) : Int)) :: sb (n / 128) := by rw [sb, if_neg h]

theorem sb_len (m : Nat) : ∀ n, n < 128 ^ (m + 1) → (sb n).length ≤ m + 1 := by
  induction m with
  | zero => intro n h; rw [sb_small (by simpa using h)]; simp
  | succ m ih =>
    intro n h
    by_cases h1 : n < 128
    · rw [sb_small h1]; simp
    · rw [sb_big h1]
      have : n / 128 < 128 ^ (m + 1) := by
        rw [Nat.div_lt_iff_lt_mul (by decide)]
        rw [Nat.pow_succ] at h
        exact h
      have := ih _ this
      simp only [List.length_cons]
      omega

theorem sb_len10 {n : Nat} (h : n < 18446744073709551616) : (sb n).length ≤ 10 := sb_len 9 n (Nat.lt_of_lt_of_le h (by decide))
theorem sb_pos (n : Nat) : 0 < (sb n).length := by
  by_cases h : n < 128
  · rw [sb_small h]; simp
  · rw [sb_big h]; simp

theorem or128_fin : ∀ a : Fin 256, (a.val ||| 128) = a.val % 128 + 128 := by decide +kernel

theorem or128 (x : Int) (h : 0 ≤ x) : Go.bits .or .u8 (x % 256) 128 = x % 128 + 128 := by
  obtain ⟨n, rfl⟩ := Int.eq_ofNat_of_zero_le h
  have e : ((n : Int) % 256) = ((n % 256 : Nat) : Int) := by omega
  have := (Go.bits_nat .u8 8 (by decide) Go.wraps_u8 (n % 256) 128 (by omega) (by decide)).2
  rw [e]
  refine this.trans ?_
  have h2 := or128_fin ⟨n % 256, by omega⟩
  simp only at h2
  rw [h2]
  omega

theorem short_l1 (l : List Int) (len i : Int) (r : ByteArray) (n : Nat) : ∀ acc : List Int, acc.length + (sb n).length ≤ 140737488355328 →
    Ev (fun k => word_Short.l0 k (acc ++ sb n) l len (wrap64 (i + 1))) r → Ev (fun k => word_Short.l1 k acc (n : Int) l len i) r := by
  induction n using Nat.strongRecOn with
  | _ n ih =>
    intro acc hb hk
    by_cases h : n < 128
    · rw [sb_small h] at hb hk
      simp only [List.length_cons, List.length_nil] at hb
      refine Ev.step (f := fun k => word_Short.l0 k (acc ++ [(n : Int)]) l len (wrap64 (i + 1))) (fun k => ?_) hk
      simp only [word_Short.l1]
      rw [if_neg (by omega), if_pos (by omega), show ((n : Int) % 256) = n by omega]
    · rw [sb_big h] at hb hk
      simp only [List.length_cons] at hb
      refine Ev.step (f := fun k => word_Short.l1 k (acc ++ [((n % 128 + 128 : Nat) : Int)]) ((n / 128 : Nat) : Int) l len i) (fun k => ?_) (ih (n / 128) (by omega) _ (by simp only [List.length_append, List.length_cons, List.length_nil]; omega) ?_)
      · simp only [word_Short.l1]
        rw [if_pos (by omega), if_pos (by omega), or128 _ (by omega), show ((n : Int) % 128 + 128) = ((n % 128 + 128 : Nat) : Int) by omega, show ((n : Int) / 128) = ((n / 128 : Nat) : Int) by omega]
      · rw [List.append_assoc]; exact hk

/-- The short bytes of several. -/
def sbs (l : List Int) : List Int := l.flatMap fun x => sb x.toNat

theorem sbs_cons (x : Int) (l : List Int) : sbs (x :: l) = sb x.toNat ++ sbs l := by simp [sbs]
theorem sbs_len (l : List Int) (h : ∀ x ∈ l, 0 ≤ x ∧ x < 18446744073709551616) : (sbs l).length ≤ 10 * l.length := by
  induction l with
  | nil => simp [sbs]
  | cons x l ih =>
    have := ih (fun y hy => h y (by simp [hy]))
    have h1 := h x (by simp)
    have := sb_len10 (n := x.toNat) (by omega)
    rw [sbs_cons]
    simp only [List.length_append, List.length_cons]
    omega

theorem rd_at (l : List Int) (i : Nat) (h : i < l.length) : rd l (i : Int) = l[i] := by
  simp [rd, h]

theorem short_l0 (l : List Int) (hl : l.length ≤ 1000000000000) (hr : ∀ x ∈ l, 0 ≤ x ∧ x < 18446744073709551616) (d : Nat) : ∀ (i : Nat) (acc : List Int), l.length = i + d → acc.length ≤ 10 * i →
    Ev (fun k => word_Short.l0 k acc l (l.length : Int) (i : Int)) (strOfNums (acc ++ sbs (l.drop i))) := by
  induction d with
  | zero =>
    intro i acc hi ha
    refine Ev.step (f := fun _ => some (strOfNums acc)) (fun k => ?_) ?_
    · simp only [word_Short.l0]
      rw [if_neg (by omega)]
    · rw [show l.drop i = [] from List.drop_eq_nil_of_le (by omega)]
      simpa [sbs] using Ev.now (strOfNums acc)
  | succ d ih =>
    intro i acc hi ha
    have hlt : i < l.length := by omega
    have hx := hr l[i] (List.getElem_mem hlt)
    have h10 := sb_len10 (n := l[i].toNat) (by omega)
    refine Ev.step (f := fun k => word_Short.l1 k acc ((l[i].toNat : Nat) : Int) l (l.length : Int) (i : Int)) (fun k => ?_) ?_
    · simp only [word_Short.l0]
      rw [if_pos (by omega), if_pos (by omega), if_pos (by omega), rd_at l i hlt, show ((l[i].toNat : Nat) : Int) = l[i] by omega]
    · refine short_l1 l _ _ _ _ _ (by omega) ?_
      have := ih (i + 1) (acc ++ sb l[i].toNat) (by omega) (by simp only [List.length_append]; omega)
      rw [show l.drop i = l[i] :: l.drop (i + 1) from List.drop_eq_getElem_cons hlt, sbs_cons, ← List.append_assoc]
      rw [show wrap64 ((i : Int) + 1) = ((i + 1 : Nat) : Int) by unfold wrap64; omega]
      exact this

theorem word_Short_ev (l : List Int) (hl : l.length ≤ 1000000000000) (hr : ∀ x ∈ l, 0 ≤ x ∧ x < 18446744073709551616) :
    Ev (fun k => word_Short.f k l) (strOfNums (sbs l)) := by
  have := short_l0 l hl hr l.length 0 [] (by omega) (by simp)
  simpa [word_Short.f] using this

theorem strOfNums_append (a b : List Int) : strOfNums (a ++ b) = strOfNums a ++ strOfNums b := by
  apply ByteArray.ext
  simp [strOfNums]
theorem strOfNums_size (a : List Int) : (strOfNums a).size = a.length := by simp [strOfNums, ByteArray.size]

theorem lives_Short : Ev (fun k => word_Short.f k ([300] : List Int)) (strOfNums [172, 2]) := by
  have := word_Short_ev [300] (by simp) (by simp)
  rw [show sbs [300] = [172, 2] by simp [sbs, sb_big, sb_small]] at this
  exact this

theorem lives_ev : Ev (fun k => haulagelaw01_lives.f k) true := by
  unfold haulagelaw01_lives.f
  refine Ev.bind (f := fun _ t => _) lives_Short ?_
  rw [if_pos (by decide +kernel)]
  rw [show word_Zig.f (-2) = some 3 by decide +kernel, Option.bind_some, if_pos rfl, show word_Low.f 200 8 = some (-56) by decide +kernel, Option.bind_some]
  exact Ev.now _

/- piece byt -/
/-! ### a text as a list of numbers -/
def byt (s : ByteArray) : List Int := s.data.toList.map fun c => (c.toNat : Int)
/-- All are bytes. -/
def Bytes (l : List Int) : Prop := ∀ x ∈ l, 0 ≤ x ∧ x ≤ 255

theorem byt_len (s : ByteArray) : (byt s).length = s.size := by
  unfold byt
  rw [List.length_map, Array.length_toList]
  rfl
theorem byt_bytes (s : ByteArray) : Bytes (byt s) := by
  intro x hx
  obtain ⟨c, _, rfl⟩ := List.mem_map.1 hx
  have := c.toNat_lt
  omega
theorem str_byt (s : ByteArray) : strOfNums (byt s) = s := by
  apply ByteArray.ext
  unfold strOfNums byt
  rw [List.map_map]
  have : ((fun n : Int => UInt8.ofNat n.toNat) ∘ fun c : UInt8 => (c.toNat : Int)) = id := by
    funext c
    simp
  rw [this]
  simp
theorem byt_str {l : List Int} (h : Bytes l) : byt (strOfNums l) = l := by
  unfold strOfNums byt
  rw [List.toList_toArray, List.map_map]
  have : ∀ x ∈ l, ((fun c : UInt8 => (c.toNat : Int)) ∘ fun n : Int => UInt8.ofNat n.toNat) x = x := by
    intro x hx
    have := h x hx
    simp only [Function.comp]
    rw [UInt8.toNat_ofNat', Nat.mod_eq_of_lt (by omega)]
    omega
  rw [List.map_congr_left this]
  simp
theorem byt_append (a b : ByteArray) : byt (a ++ b) = byt a ++ byt b := by
  unfold byt
  rw [show (a ++ b).data.toList = a.data.toList ++ b.data.toList by simp, List.map_append]
theorem byt_inj {a b : ByteArray} (h : byt a = byt b) : a = b := by rw [← str_byt a, h, str_byt]
theorem byt_extract (s : ByteArray) (a b : Nat) : byt (s.extract a b) = ((byt s).drop a).take (b - a) := by
  unfold byt
  rw [show (s.extract a b).data.toList = (s.data.toList.drop a).take (b - a) by simp [ByteArray.data_extract, Array.toList_extract, List.extract_eq_take_drop], List.map_take, List.map_drop]
theorem byt_cut (s : ByteArray) (a : Nat) : byt (s.extract a s.size) = (byt s).drop a := by
  rw [byt_extract, ← byt_len, List.take_of_length_le (by simp)]
theorem byt_to (s : ByteArray) (b : Nat) : byt (s.extract 0 b) = (byt s).take b := by
  rw [byt_extract]; simp
theorem bt_byt (s : ByteArray) (i : Nat) (h : i < s.size) : bt s (i : Int) = (byt s)[i]'(by rw [byt_len]; exact h) := by
  unfold bt byt
  simp [h]
  rfl
theorem Bytes.append {a b : List Int} (h : Bytes a) (k : Bytes b) : Bytes (a ++ b) := by
  intro x hx
  rcases List.mem_append.1 hx with h1 | h1
  · exact h x h1
  · exact k x h1
theorem Bytes.take {a : List Int} (h : Bytes a) (n : Nat) : Bytes (a.take n) := fun x hx => h x (List.mem_of_mem_take hx)
theorem Bytes.drop {a : List Int} (h : Bytes a) (n : Nat) : Bytes (a.drop n) := fun x hx => h x (List.mem_of_mem_drop hx)
theorem toList_eq_iff (a b : ByteArray) : a.toList = b.toList ↔ a = b := by
  rw [ByteArray.toList_eq, ByteArray.toList_eq]
  exact ⟨fun h => ByteArray.ext (Array.toList_inj.1 h), fun h => by rw [h]⟩
theorem beq_toList (a b : ByteArray) : (a.toList == b.toList) = decide (a = b) := by
  rw [Bool.eq_iff_iff, beq_iff_eq, decide_eq_true_iff, toList_eq_iff]

/- piece fixed -/
/-! ### bytes of a fixed number -/
theorem p256_pos (i : Nat) : (0 : Int) < 256 ^ i := Int.pow_pos (by decide)
theorem p256 (i : Nat) : (256 : Int) ^ i = 2 ^ (8 * i) := by rw [show (256 : Int) = 2 ^ 8 by decide, ← Int.pow_mul]
theorem p256_le (i j : Nat) (h : i ≤ j) : (256 : Int) ^ i ≤ 256 ^ j := by
  have h2 := Int.ofNat_le.2 (Nat.pow_le_pow_right (n := 256) (by decide) h)
  rw [Int.natCast_pow, Int.natCast_pow] at h2
  exact h2

/-- So many bytes of a number. -/
def putS (n : Int) : Nat → List Int
  | 0 => []
  | i + 1 => putS n i ++ [n / 256 ^ i % 256]
theorem putS_len (n : Int) (i : Nat) : (putS n i).length = i := by induction i with | zero => rfl | succ i ih => simp [putS, ih]
theorem putS_bytes (n : Int) (i : Nat) : Bytes (putS n i) := by
  induction i with
  | zero => intro x hx; simp [putS] at hx
  | succ i ih => exact ih.append fun x hx => by simp at hx; omega

/-- The number of bytes. -/
def val8 (s : ByteArray) : Nat → Int
  | 0 => 0
  | i + 1 => val8 s i + bt s (i : Int) * 256 ^ i
theorem val8_range (s : ByteArray) (i : Nat) : 0 ≤ val8 s i ∧ val8 s i < 256 ^ i := by
  induction i with
  | zero => simp [val8]
  | succ i ih =>
    have hp := p256_pos i
    have hb := bt_range s (i : Int)
    have h3 : 0 ≤ bt s (i : Int) * 256 ^ i := Int.mul_nonneg hb.1 (Int.le_of_lt hp)
    have h4 : bt s (i : Int) * 256 ^ i ≤ 255 * 256 ^ i := Int.mul_le_mul_of_nonneg_right hb.2 (Int.le_of_lt hp)
    simp only [val8, Int.pow_succ]
    omega
/-- The number of so many bytes, or the error's number. -/
def getS (s : ByteArray) (m : Nat) : Int × Int := if s.size < m then (0, 4) else if s.size > m then (0, 6) else (val8 s m, 0)

theorem wraps64 (n : Int) (h0 : 0 ≤ n) (h1 : n < 2 ^ 64) : IntKind.u64.wrap n = n := by rw [u64_eq]; omega

theorem or_shl8 (a c : Int) (i : Nat) (hi : i ≤ 7) (ha0 : 0 ≤ a) (ha : a < 256 ^ i) (hc0 : 0 ≤ c) (hc1 : c ≤ 255) :
    Go.bits .or .u64 a (shl .u64 (IntKind.u64.wrap c) (wrap64 (8 * (i : Int)))) = a + c * 256 ^ i := by
  have hp := p256_pos i
  have h3 : 0 ≤ c * 256 ^ i := Int.mul_nonneg hc0 (Int.le_of_lt hp)
  have h4 : c * 256 ^ i ≤ 255 * 256 ^ i := Int.mul_le_mul_of_nonneg_right hc1 (Int.le_of_lt hp)
  have h5 := p256_le i 7 hi
  have e7 : (256 : Int) ^ 7 = 72057594037927936 := by decide
  have e64 : (2 : Int) ^ 64 = 18446744073709551616 := by decide
  have hw : wrap64 (8 * (i : Int)) = ((8 * i : Nat) : Int) := by unfold wrap64; omega
  have hs : shl .u64 (IntKind.u64.wrap c) (wrap64 (8 * (i : Int))) = c * 256 ^ i := by
    unfold shl
    rw [hw, wraps64 c hc0 (by omega)]
    have : min (((8 * i : Nat) : Int)).toNat (IntKind.bits .u64) = 8 * i := by simp [IntKind.bits]; omega
    rw [this, ← p256]
    exact wraps64 _ h3 (by omega)
  rw [hs, show Go.bits .or .u64 a (c * 256 ^ i) = Go.bits .or .u64 (c * 256 ^ i) a by unfold Go.bits; simp only; rw [BitVec.or_comm]]
  rw [Go.bits_join .u64 64 (by decide) wraps64 (8 * i) (c * 256 ^ i) a h3 (by rw [p256]; exact Int.mul_emod_left _ _) (by omega) ha0 (by rw [← p256]; exact ha) (by omega)]
  omega

theorem word_get_l0 (s : ByteArray) (m : Nat) (hm : m ≤ 8) (hs : s.size = m) (d : Nat) : ∀ i, i + d = m → Ev (fun k => word_get.l0 k s (val8 s i) (m : Int) (i : Int)) (val8 s m, 0) := by
  induction d with
  | zero =>
    intro i hi
    refine Ev.step (f := fun _ => some (val8 s m, 0)) (fun k => ?_) (Ev.now _)
    simp only [word_get.l0]
    rw [if_neg (by omega), show i = m by omega]
  | succ d ih =>
    intro i hi
    have hb := bt_range s (i : Int)
    have hv := val8_range s i
    refine Ev.step (f := fun k => word_get.l0 k s (val8 s (i + 1)) (m : Int) ((i + 1 : Nat) : Int)) (fun k => ?_) (ih (i + 1) (by omega))
    simp only [word_get.l0]
    rw [if_pos (by omega), if_pos (by omega), if_pos (by omega), if_pos (by unfold wrap64; omega), or_shl8 _ _ i (by omega) hv.1 hv.2 hb.1 hb.2, show wrap64 ((i : Int) + 1) = ((i + 1 : Nat) : Int) by unfold wrap64; omega]
    rfl

theorem word_get_ev (s : ByteArray) (m : Nat) (hm : m ≤ 8) : Ev (fun k => word_get.f k s (m : Int)) (getS s m) := by
  unfold word_get.f getS
  by_cases h1 : s.size < m
  · refine Ev.congr (f := fun _ => some (0, 4)) (fun k => ?_) (by rw [if_pos h1]; exact Ev.now _)
    rw [if_pos (by omega)]
  · by_cases h2 : s.size > m
    · refine Ev.congr (f := fun _ => some (0, 6)) (fun k => ?_) (by rw [if_neg h1, if_pos h2]; exact Ev.now _)
      rw [if_neg (by omega), if_pos (by omega)]
    · rw [if_neg h1, if_neg h2]
      refine Ev.congr (fun k => ?_) (word_get_l0 s m hm (by omega) m 0 (by omega))
      rw [if_neg (by omega), if_neg (by omega)]
      rfl

theorem getS_range (s : ByteArray) (m : Nat) : 0 ≤ (getS s m).1 ∧ (getS s m).1 < 256 ^ m := by
  have h := val8_range s m
  have := p256_pos m
  unfold getS
  split
  · exact ⟨by omega, by omega⟩
  · split
    · exact ⟨by omega, by omega⟩
    · exact h

theorem word_Get32_ev (s : ByteArray) : Ev (fun k => word_Get32.f k s) (getS s 4) := by
  unfold word_Get32.f
  refine Ev.bind (word_get_ev s 4 (by decide)) ?_
  have h := getS_range s 4
  have e : (256 : Int) ^ 4 = 4294967296 := by decide
  rw [show (getS s 4).1 % 4294967296 = (getS s 4).1 by omega]
  exact Ev.now _
theorem word_Get64_ev (s : ByteArray) : Ev (fun k => word_Get64.f k s) (getS s 8) := by
  unfold word_Get64.f
  exact Ev.bind (word_get_ev s 8 (by decide)) (Ev.now _)

theorem word_put_l0 (n : Int) (m : Nat) (hm : m ≤ 8) (d : Nat) : ∀ i, i + d = m → Ev (fun k => word_put.l0 k n (putS n i ++ List.replicate d 0) (m : Int) (i : Int)) (strOfNums (putS n m)) := by
  induction d with
  | zero =>
    intro i hi
    refine Ev.step (f := fun _ => some (strOfNums (putS n m))) (fun k => ?_) (Ev.now _)
    simp only [word_put.l0]
    rw [if_neg (by omega), show i = m by omega]
    simp
  | succ d ih =>
    intro i hi
    refine Ev.step (f := fun k => word_put.l0 k n (putS n (i + 1) ++ List.replicate d 0) (m : Int) ((i + 1 : Nat) : Int)) (fun k => ?_) (ih (i + 1) (by omega))
    have hw : wrap64 (8 * (i : Int)) = ((8 * i : Nat) : Int) := by unfold wrap64; omega
    have hsh : shr .u64 n (wrap64 (8 * (i : Int))) = n / 256 ^ i := by
      unfold shr
      rw [hw]
      have : min (((8 * i : Nat) : Int)).toNat (IntKind.bits .u64) = 8 * i := by simp [IntKind.bits]; omega
      rw [this, ← p256]
    have hset : (putS n i ++ List.replicate (d + 1) 0).set ((i : Int)).toNat (n / 256 ^ i % 256) = putS n (i + 1) ++ List.replicate d 0 := by
      rw [show ((i : Int)).toNat = i by omega, List.set_append_right _ _ (by rw [putS_len]; omega), putS_len, Nat.sub_self, List.replicate_succ, List.set_cons_zero]
      simp [putS]
    simp only [word_put.l0]
    rw [if_pos (by omega), if_pos (by rw [hw]; omega), if_pos (by omega), if_pos (by rw [List.length_append, putS_len, List.length_replicate]; omega), hsh, hset, show wrap64 ((i : Int) + 1) = ((i + 1 : Nat) : Int) by unfold wrap64; omega]

theorem word_put_ev (n : Int) (m : Nat) (hm : m ≤ 8) : Ev (fun k => word_put.f k n (m : Int)) (strOfNums (putS n m)) := by
  unfold word_put.f
  refine Ev.congr (fun k => ?_) (word_put_l0 n m hm m 0 (by omega))
  rw [if_pos (by omega), if_pos (by omega), Option.bind_some, show ((m : Int)).toNat = m by omega, List.length_replicate]
  rfl

theorem word_Put32_ev (n : Int) (h0 : 0 ≤ n) (h1 : n < 4294967296) : Ev (fun k => word_Put32.f k n) (strOfNums (putS n 4)) := by
  unfold word_Put32.f
  rw [wraps64 n h0 (by omega)]
  exact Ev.bind (word_put_ev n 4 (by decide)) (Ev.now _)
theorem word_Put64_ev (n : Int) : Ev (fun k => word_Put64.f k n) (strOfNums (putS n 8)) := by
  unfold word_Put64.f
  exact Ev.bind (word_put_ev n 8 (by decide)) (Ev.now _)

/-- What is put is got. -/
theorem val8_put (n : Int) (m : Nat) (i : Nat) (h : i ≤ m) : val8 (strOfNums (putS n m)) i = n % 256 ^ i := by
  have hget : ∀ (m i : Nat) (h : i < m), (putS n m)[i]'(by rw [putS_len]; exact h) = n / 256 ^ i % 256 := by
    intro m
    induction m with
    | zero => intro i h; omega
    | succ m ih =>
      intro i h
      simp only [putS]
      by_cases e : i < m
      · rw [List.getElem_append_left (by rw [putS_len]; exact e)]; exact ih i e
      · rw [List.getElem_append_right (by rw [putS_len]; omega)]
        have : i = m := by omega
        subst this
        simp [putS_len]
  induction i with
  | zero => simp [val8, Int.emod_one]
  | succ i ih =>
    simp only [val8]
    rw [ih (by omega), bt_byt _ i (by rw [strOfNums_size, putS_len]; omega)]
    simp only [byt_str (putS_bytes n m)]
    rw [hget m i (by omega)]
    have h1 := Int.emod_add_mul_ediv n (256 ^ i)
    have h2 := Int.emod_add_mul_ediv n (256 ^ (i + 1))
    have h3 : n / 256 ^ (i + 1) = n / 256 ^ i / 256 := by rw [Int.pow_succ, Int.ediv_ediv_of_nonneg (Int.le_of_lt (p256_pos i))]
    have h4 := Int.emod_add_mul_ediv (n / 256 ^ i) 256
    rw [Int.pow_succ] at h2 ⊢
    rw [Int.pow_succ] at h3
    rw [h3] at h2
    generalize (256 : Int) ^ i = p at *
    generalize n / p = q at *
    have h5 : q % 256 * p + p * 256 * (q / 256) = p * q := by
      have : p * (q % 256 + 256 * (q / 256)) = p * q := by rw [h4]
      rw [Int.mul_add, ← Int.mul_assoc] at this
      rw [Int.mul_comm (q % 256) p]
      exact this
    omega

theorem getS_put (n : Int) (m : Nat) (h0 : 0 ≤ n) (h1 : n < 256 ^ m) : getS (strOfNums (putS n m)) m = (n, 0) := by
  unfold getS
  rw [strOfNums_size, putS_len, if_neg (by omega), if_neg (by omega), val8_put n m m (Nat.le_refl _), Int.emod_eq_of_lt h0 h1]

/- piece reffixed -/
theorem refGet_l0 (s : ByteArray) (V : Int) (hV : V < 18446744073709551616) (i : Nat) : i ≤ s.size → i ≤ 8 → ∀ n : Int, 0 ≤ n → val8 s i + n * 256 ^ i = V →
    Ev (fun k => haulageref01_Get.l0 k s n ((i : Int) - 1)) (V, 0) := by
  induction i with
  | zero =>
    intro _ _ n hn h
    refine Ev.step (f := fun _ => some (V, 0)) (fun k => ?_) (Ev.now _)
    simp only [haulageref01_Get.l0]
    simp only [val8] at h
    rw [if_neg (by omega), show n = V by omega]
  | succ i ih =>
    intro hs h10 n hn h
    have hb := bt_range s (i : Int)
    have hp := p256_pos i
    have e1 : (((i + 1 : Nat) : Int) - 1) = (i : Int) := by omega
    rw [e1]
    have hn' : val8 s i + (n * 256 + bt s (i : Int)) * 256 ^ i = V := by
      rw [← h]
      simp only [val8, Int.pow_succ, Int.add_mul, Int.mul_assoc]
      rw [Int.mul_comm 256 (256 ^ i)]
      omega
    have hle : (n * 256 + bt s (i : Int)) ≤ (n * 256 + bt s (i : Int)) * 256 ^ i := by
      have : (n * 256 + bt s (i : Int)) * 1 ≤ (n * 256 + bt s (i : Int)) * 256 ^ i := Int.mul_le_mul_of_nonneg_left (by omega) (by omega)
      omega
    have hv := val8_range s i
    refine Ev.step (f := fun k => haulageref01_Get.l0 k s (n * 256 + bt s (i : Int)) ((i : Int) - 1)) (fun k => ?_) (ih (by omega) (by omega) _ (by omega) hn')
    simp only [haulageref01_Get.l0]
    rw [if_pos (by omega), if_pos (by omega), if_pos (by omega), u64_id (n * 256) (by omega) (by omega), u64_id (bt s (i : Int)) (by omega) (by omega), u64_id (n * 256 + bt s (i : Int)) (by omega) (by omega),
      show wrap64 ((i : Int) - 1) = (i : Int) - 1 by unfold wrap64; omega]

theorem refGet_ev (s : ByteArray) (m : Nat) (hm : m ≤ 8) : Ev (fun k => haulageref01_Get.f k s (m : Int)) (getS s m) := by
  unfold haulageref01_Get.f getS
  by_cases h1 : s.size < m
  · refine Ev.congr (f := fun _ => some (0, 4)) (fun k => ?_) (by rw [if_pos h1]; exact Ev.now _)
    rw [if_pos (by omega)]
  · by_cases h2 : s.size > m
    · refine Ev.congr (f := fun _ => some (0, 6)) (fun k => ?_) (by rw [if_neg h1, if_pos h2]; exact Ev.now _)
      rw [if_neg (by omega), if_pos (by omega)]
    · rw [if_neg h1, if_neg h2]
      have hr := val8_range s m
      have h8 := p256_le m 8 hm
      have e8 : (256 : Int) ^ 8 = 18446744073709551616 := by decide
      refine Ev.congr (fun k => ?_) (refGet_l0 s (val8 s m) (by omega) m (by omega) hm 0 (by omega) (by omega))
      rw [if_neg (by omega), if_neg (by omega), show wrap64 ((m : Int) - 1) = (m : Int) - 1 by unfold wrap64; omega]

theorem refPut_l0 (n : Int) (h0 : 0 ≤ n) (h1 : n < 18446744073709551616) (m : Nat) (hm : m ≤ 8) (d : Nat) : ∀ i, i + d = m → Ev (fun k => haulageref01_Put.l0 k (n / 256 ^ i) (m : Int) (strOfNums (putS n i)) (i : Int)) (strOfNums (putS n m)) := by
  induction d with
  | zero =>
    intro i hi
    refine Ev.step (f := fun _ => some (strOfNums (putS n m))) (fun k => ?_) (Ev.now _)
    simp only [haulageref01_Put.l0]
    rw [if_neg (by omega), show i = m by omega]
  | succ d ih =>
    intro i hi
    have hp := p256_pos i
    have hd0 : 0 ≤ n / 256 ^ i := Int.ediv_nonneg h0 (Int.le_of_lt hp)
    have hd1 : n / 256 ^ i ≤ n := Int.ediv_le_self _ h0
    refine Ev.step (f := fun k => haulageref01_Put.l0 k (n / 256 ^ (i + 1)) (m : Int) (strOfNums (putS n (i + 1))) ((i + 1 : Nat) : Int)) (fun k => ?_) (ih (i + 1) (by omega))
    simp only [haulageref01_Put.l0, Option.bind_some]
    rw [if_pos (by omega), tmod_nonneg_eq _ _ hd0, tdiv_nonneg_eq _ _ hd0, show n / 256 ^ i % 256 % 256 = n / 256 ^ i % 256 by omega, u64_id _ (by omega) (by omega), if_pos (by rw [strOfNums_size, strOfNums_size, putS_len]; simp; omega), ← strOfNums_append,
      show wrap64 ((i : Int) + 1) = ((i + 1 : Nat) : Int) by unfold wrap64; omega, Int.pow_succ, Int.ediv_ediv_of_nonneg (Int.le_of_lt hp)]
    rfl

theorem refPut_ev (n : Int) (h0 : 0 ≤ n) (h1 : n < 18446744073709551616) (m : Nat) (hm : m ≤ 8) : Ev (fun k => haulageref01_Put.f k n (m : Int)) (strOfNums (putS n m)) := by
  have := refPut_l0 n h0 h1 m hm m 0 (by omega)
  simpa [haulageref01_Put.f, putS, strOfNums] using this

theorem WordFixed : haulagelaw01_WordFixed.Pure := by
  intro a b s ha hb hs
  replace ha := wf_u32 ha
  replace hb := wf_u64 hb
  refine Ev.rounds (r := true) ?_
  unfold haulagelaw01_WordFixed.f
  refine Ev.bind lives_ev ?_
  by_cases h : (s.size : Int) > 100
  · refine Ev.congr (f := fun _ => some true) (fun k => ?_) (Ev.now _)
    rw [if_pos rfl, if_pos h]
  · refine Ev.congr (fun k => by rw [if_pos rfl, if_neg h]) ?_
    have r4 := getS_range s 4
    have e4 : (256 : Int) ^ 4 = 4294967296 := by decide
    refine Ev.bind (word_Get32_ev s) (Ev.bind (refGet_ev s 4 (by decide)) (Ev.bind (word_Get64_ev s) (Ev.bind (refGet_ev s 8 (by decide)) (Ev.bind (word_Put32_ev a ha.1 (by omega)) ?_))))
    rw [u64_id a (by omega) (by omega)]
    refine Ev.bind (refPut_ev a ha.1 (by omega) 4 (by decide)) ?_
    refine Ev.congr (fun k => by rw [if_pos rfl]) ?_
    refine Ev.bind (word_Put64_ev b) (Ev.bind (refPut_ev b hb.1 (by omega) 8 (by decide)) ?_)
    refine Ev.congr (f := fun _ => some true) (fun k => ?_) (Ev.now _)
    rw [if_pos rfl, if_pos (u64_id _ (by omega) (by omega)), if_pos rfl, if_pos rfl]
    simp

end Go.Proofs.Ytjkjpjbohiggaaa.Pure

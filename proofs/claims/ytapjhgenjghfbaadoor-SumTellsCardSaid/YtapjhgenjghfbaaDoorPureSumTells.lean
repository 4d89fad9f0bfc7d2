/- For every text, number and four bytes: a text of which four bytes side by side are turned has another sum unless it is the same, and a sealed text so turned is sealed no more unless it is the same; no condition but that the table holds what the program's text lays in it. -/
import Derived.Test.YtapjhgenjghfbaaDoorHSumTellsx3
import Derived.Test.YtapjhgenjghfbaaDoorOpenSumTells
set_option linter.unusedVariables false
set_option linter.unusedSimpArgs false
namespace Go.Proofs.YtapjhgenjghfbaaDoor.Pure
open Go.RowKit Go.Proofs.YtapjhgenjghfbaaDoor.HSumTells Go.Proofs.YtapjhgenjghfbaaDoorW.PrintWords Go.Proofs.YtapjhgenjghfbaaDoorW.PrintLast Go.Proofs.YtapjhgenjghfbaaDoorW.PrintMore
/- piece base -/
theorem tmod_nonneg_eq (a b : Int) (ha : 0 ≤ a) : Int.tmod a b = a % b := Int.tmod_eq_emod_of_nonneg ha
theorem tdiv_nonneg_eq (a b : Int) (ha : 0 ≤ a) : Int.tdiv a b = a / b := Int.tdiv_eq_ediv_of_nonneg ha
theorem u64_id (n : Int) (h0 : 0 ≤ n) (h1 : n < 18446744073709551616) : IntKind.u64.wrap n = n := by
  simp only [IntKind.wrap, IntKind.bits, IntKind.signed]
  simp
  omega

theorem i64_eq (n : Int) : IntKind.i64.wrap n = wrap64 n := by unfold wrap64; exact Go.IntKind.wrap_i64 n
theorem u64_eq (n : Int) : IntKind.u64.wrap n = n % 18446744073709551616 := by simp [IntKind.wrap, IntKind.bits, IntKind.signed]

theorem wf_parts {k : IntKind} {x : Int} (h : (Lit.int k x).wf = true) : k.min ≤ x ∧ x ≤ k.max := by
  unfold Lit.wf at h
  rw [Bool.and_eq_true, decide_eq_true_eq, decide_eq_true_eq] at h
  exact h
theorem wf_i64 {x : Int} (h : (Lit.int .i64 x).wf = true) : -9223372036854775808 ≤ x ∧ x ≤ 9223372036854775807 := by
  have := wf_parts h
  rw [show IntKind.min .i64 = -9223372036854775808 by decide, show IntKind.max .i64 = 9223372036854775807 by decide] at this
  exact this
theorem wf_u64 {x : Int} (h : (Lit.int .u64 x).wf = true) : 0 ≤ x ∧ x ≤ 18446744073709551615 := by
  have := wf_parts h
  rw [show IntKind.min .u64 = 0 by decide, show IntKind.max .u64 = 18446744073709551615 by decide] at this
  exact this
theorem wf_u32 {x : Int} (h : (Lit.int .u32 x).wf = true) : 0 ≤ x ∧ x ≤ 4294967295 := by
  have := wf_parts h
  rw [show IntKind.min .u32 = 0 by decide, show IntKind.max .u32 = 4294967295 by decide] at this
  exact this
theorem wf_u16 {x : Int} (h : (Lit.int .u16 x).wf = true) : 0 ≤ x ∧ x ≤ 65535 := by
  have := wf_parts h
  rw [show IntKind.min .u16 = 0 by decide, show IntKind.max .u16 = 65535 by decide] at this
  exact this
theorem wf_u8 {x : Int} (h : (Lit.int .u8 x).wf = true) : 0 ≤ x ∧ x ≤ 255 := by
  have := wf_parts h
  rw [show IntKind.min .u8 = 0 by decide, show IntKind.max .u8 = 255 by decide] at this
  exact this

/- piece byt -/
/-! ### a text as a list of numbers -/
def byt (s : ByteArray) : List Int := s.data.toList.map fun c => (c.toNat : Int)
/-- All are bytes. -/
def Bytes (l : List Int) : Prop := ∀ x ∈ l, 0 ≤ x ∧ x ≤ 255

theorem byt_len (s : ByteArray) : (byt s).length = s.size := by
  unfold byt
  rw [List.length_map, Array.length_toList]
  rfl
theorem byt_bytes (s : ByteArray) : Bytes (byt s) := by
  intro x hx
  obtain ⟨c, _, rfl⟩ := List.mem_map.1 hx
  have := c.toNat_lt
  omega
theorem str_byt (s : ByteArray) : strOfNums (byt s) = s := by
  apply ByteArray.ext
  unfold strOfNums byt
  rw [List.map_map]
  have : ((fun n : Int => UInt8.ofNat n.toNat) ∘ fun c : UInt8 => (c.toNat : Int)) = id := by
    funext c
    simp
  rw [this]
  simp
theorem byt_str {l : List Int} (h : Bytes l) : byt (strOfNums l) = l := by
  unfold strOfNums byt
  rw [List.toList_toArray, List.map_map]
  have : ∀ x ∈ l, ((fun c : UInt8 => (c.toNat : Int)) ∘ fun n : Int => UInt8.ofNat n.toNat) x = x := by
    intro x hx
    have := h x hx
    simp only [Function.comp]
    rw [UInt8.toNat_ofNat', Nat.mod_eq_of_lt (by omega)]
    omega
  rw [List.map_congr_left this]
  simp
theorem byt_append (a b : ByteArray) : byt (a ++ b) = byt a ++ byt b := by
  unfold byt
  rw [show (a ++ b).data.toList = a.data.toList ++ b.data.toList by simp, List.map_append]
theorem byt_inj {a b : ByteArray} (h : byt a = byt b) : a = b := by rw [← str_byt a, h, str_byt]
theorem byt_extract (s : ByteArray) (a b : Nat) : byt (s.extract a b) = ((byt s).drop a).take (b - a) := by
  unfold byt
  rw [show (s.extract a b).data.toList = (s.data.toList.drop a).take (b - a) by simp [ByteArray.data_extract, Array.toList_extract, List.extract_eq_take_drop], List.map_take, List.map_drop]
theorem byt_cut (s : ByteArray) (a : Nat) : byt (s.extract a s.size) = (byt s).drop a := by
  rw [byt_extract, ← byt_len, List.take_of_length_le (by simp)]
theorem byt_to (s : ByteArray) (b : Nat) : byt (s.extract 0 b) = (byt s).take b := by
  rw [byt_extract]; simp
theorem bt_byt (s : ByteArray) (i : Nat) (h : i < s.size) : bt s (i : Int) = (byt s)[i]'(by rw [byt_len]; exact h) := by
  unfold bt byt
  simp [h]
  rfl
theorem Bytes.append {a b : List Int} (h : Bytes a) (k : Bytes b) : Bytes (a ++ b) := by
  intro x hx
  rcases List.mem_append.1 hx with h1 | h1
  · exact h x h1
  · exact k x h1
theorem Bytes.take {a : List Int} (h : Bytes a) (n : Nat) : Bytes (a.take n) := fun x hx => h x (List.mem_of_mem_take hx)
theorem Bytes.drop {a : List Int} (h : Bytes a) (n : Nat) : Bytes (a.drop n) := fun x hx => h x (List.mem_of_mem_drop hx)
theorem toList_eq_iff (a b : ByteArray) : a.toList = b.toList ↔ a = b := by
  rw [ByteArray.toList_eq, ByteArray.toList_eq]
  exact ⟨fun h => ByteArray.ext (Array.toList_inj.1 h), fun h => by rw [h]⟩
theorem beq_toList (a b : ByteArray) : (a.toList == b.toList) = decide (a = b) := by
  rw [Bool.eq_iff_iff, beq_iff_eq, decide_eq_true_iff, toList_eq_iff]

/- piece strlib -/
theorem strOfNums_append (a b : List Int) : strOfNums (a ++ b) = strOfNums a ++ strOfNums b := by
  apply ByteArray.ext
  simp [strOfNums]
theorem strOfNums_size (a : List Int) : (strOfNums a).size = a.length := by simp [strOfNums, ByteArray.size]

/- piece put -/
/-! ### bytes of a fixed number -/
theorem p256_pos (i : Nat) : (0 : Int) < 256 ^ i := Int.pow_pos (by decide)
theorem p256 (i : Nat) : (256 : Int) ^ i = 2 ^ (8 * i) := by rw [show (256 : Int) = 2 ^ 8 by decide, ← Int.pow_mul]
theorem p256_le (i j : Nat) (h : i ≤ j) : (256 : Int) ^ i ≤ 256 ^ j := by
  have h2 := Int.ofNat_le.2 (Nat.pow_le_pow_right (n := 256) (by decide) h)
  rw [Int.natCast_pow, Int.natCast_pow] at h2
  exact h2

/-- So many bytes of a number. -/
def putS (n : Int) : Nat → List Int
  | 0 => []
  | i + 1 => putS n i ++ [n / 256 ^ i % 256]
theorem putS_len (n : Int) (i : Nat) : (putS n i).length = i := by induction i with | zero => rfl | succ i ih => simp [putS, ih]
theorem putS_bytes (n : Int) (i : Nat) : Bytes (putS n i) := by
  induction i with
  | zero => intro x hx; simp [putS] at hx
  | succ i ih => exact ih.append fun x hx => by simp at hx; omega

theorem wraps64 (n : Int) (h0 : 0 ≤ n) (h1 : n < 2 ^ 64) : IntKind.u64.wrap n = n := by rw [u64_eq]; omega

theorem word_put_l0 (n : Int) (m : Nat) (hm : m ≤ 8) (d : Nat) : ∀ i, i + d = m → Ev (fun k => word_put.l0 k n (putS n i ++ List.replicate d 0) (m : Int) (i : Int)) (strOfNums (putS n m)) := by
  induction d with
  | zero =>
    intro i hi
    refine Ev.step (f := fun _ => some (strOfNums (putS n m))) (fun k => ?_) (Ev.now _)
    simp only [word_put.l0]
    rw [if_neg (by omega), show i = m by omega]
    simp
  | succ d ih =>
    intro i hi
    refine Ev.step (f := fun k => word_put.l0 k n (putS n (i + 1) ++ List.replicate d 0) (m : Int) ((i + 1 : Nat) : Int)) (fun k => ?_) (ih (i + 1) (by omega))
    have hw : wrap64 (8 * (i : Int)) = ((8 * i : Nat) : Int) := by unfold wrap64; omega
    have hsh : shr .u64 n (wrap64 (8 * (i : Int))) = n / 256 ^ i := by
      unfold shr
      rw [hw]
      have : min (((8 * i : Nat) : Int)).toNat (IntKind.bits .u64) = 8 * i := by simp [IntKind.bits]; omega
      rw [this, ← p256]
    have hset : (putS n i ++ List.replicate (d + 1) 0).set ((i : Int)).toNat (n / 256 ^ i % 256) = putS n (i + 1) ++ List.replicate d 0 := by
      rw [show ((i : Int)).toNat = i by omega, List.set_append_right _ _ (by rw [putS_len]; omega), putS_len, Nat.sub_self, List.replicate_succ, List.set_cons_zero]
      simp [putS]
    simp only [word_put.l0]
    rw [if_pos (by omega), if_pos (by rw [hw]; omega), if_pos (by omega), if_pos (by rw [List.length_append, putS_len, List.length_replicate]; omega), hsh, hset, show wrap64 ((i : Int) + 1) = ((i + 1 : Nat) : Int) by unfold wrap64; omega]

theorem word_put_ev (n : Int) (m : Nat) (hm : m ≤ 8) : Ev (fun k => word_put.f k n (m : Int)) (strOfNums (putS n m)) := by
  unfold word_put.f
  refine Ev.congr (fun k => ?_) (word_put_l0 n m hm m 0 (by omega))
  rw [if_pos (by omega), if_pos (by omega), Option.bind_some, show ((m : Int)).toNat = m by omega, List.length_replicate]
  rfl


/- piece put32 -/
theorem word_Put32_ev (n : Int) (h0 : 0 ≤ n) (h1 : n < 4294967296) : Ev (fun k => word_Put32.f k n) (strOfNums (putS n 4)) := by
  unfold word_Put32.f
  rw [wraps64 n h0 (by omega)]
  exact Ev.bind (word_put_ev n 4 (by decide)) (Ev.now _)

/- piece crc -/
/-! ### sums, as words of 32 bits -/
/-- One bit that goes out. -/
def bitB (c : BitVec 32) : BitVec 32 := (c >>> 1) ^^^ (if c.getLsbD 0 then 2197175160#32 else 0#32)
def bit4 (c : BitVec 32) : BitVec 32 := bitB (bitB (bitB (bitB c)))
/-- One byte more. -/
def byteB (c : BitVec 32) (x : Int) : BitVec 32 := bit4 (bit4 (c ^^^ BitVec.ofInt 32 x))
def foldB (c : BitVec 32) (l : List Int) : BitVec 32 := l.foldl byteB c

theorem xor_swap4 (x y p q : BitVec 32) : (x ^^^ y) ^^^ (p ^^^ q) = (x ^^^ p) ^^^ (y ^^^ q) := by ac_rfl
theorem bitB_xor (a b : BitVec 32) : bitB (a ^^^ b) = bitB a ^^^ bitB b := by
  unfold bitB
  rw [BitVec.ushiftRight_xor_distrib, BitVec.getLsbD_xor, ← xor_swap4]
  congr 1
  cases a.getLsbD 0 <;> cases b.getLsbD 0 <;> decide
theorem bit4_xor (a b : BitVec 32) : bit4 (a ^^^ b) = bit4 a ^^^ bit4 b := by
  unfold bit4
  rw [bitB_xor, bitB_xor, bitB_xor, bitB_xor]

theorem bitB_top (c : BitVec 32) : (bitB c).getLsbD 31 = c.getLsbD 0 := by
  unfold bitB
  rw [BitVec.getLsbD_xor, BitVec.getLsbD_ushiftRight]
  cases h : c.getLsbD 0
  · simp
  · simp [show (2197175160#32).getLsbD 31 = true by decide]
theorem bitB_inj {a b : BitVec 32} (h : bitB a = bitB b) : a = b := by
  have h0 : a.getLsbD 0 = b.getLsbD 0 := by rw [← bitB_top, h, bitB_top]
  have h1 : a >>> 1 = b >>> 1 := by
    unfold bitB at h
    rw [h0] at h
    exact (BitVec.xor_left_inj _).1 h
  apply BitVec.eq_of_getLsbD_eq
  intro i hi
  cases i with
  | zero => exact h0
  | succ i =>
    have := congrArg (fun v => v.getLsbD i) h1
    simp only [BitVec.getLsbD_ushiftRight] at this
    rw [Nat.add_comm i 1]
    exact this
theorem bit4_inj {a b : BitVec 32} (h : bit4 a = bit4 b) : a = b := bitB_inj (bitB_inj (bitB_inj (bitB_inj h)))

theorem byteB_inj {a b : BitVec 32} {x : Int} (h : byteB a x = byteB b x) : a = b := by
  have := bit4_inj (bit4_inj h)
  exact (BitVec.xor_left_inj _).1 this
theorem foldB_inj {a b : BitVec 32} (l : List Int) (h : foldB a l = foldB b l) : a = b := by
  induction l generalizing a b with
  | nil => exact h
  | cons x l ih => exact byteB_inj (ih h)
theorem foldB_append (c : BitVec 32) (a b : List Int) : foldB c (a ++ b) = foldB (foldB c a) b := by simp [foldB, List.foldl_append]

/-- The table: what four bits that go out turn the others by. -/
def tabB (i : Nat) : BitVec 32 := bit4 (BitVec.ofNat 32 i)

theorem nib_split (c : BitVec 32) : c = (c >>> 4) <<< 4 ^^^ (c &&& 15#32) := by
  apply BitVec.eq_of_getLsbD_eq
  intro i hi
  rw [BitVec.getLsbD_xor, BitVec.getLsbD_shiftLeft, BitVec.getLsbD_ushiftRight, BitVec.getLsbD_and]
  by_cases h : i < 4
  · have : (15#32).getLsbD i = true := by
      rcases i with _ | _ | _ | _ | i <;> first | decide | omega
    simp [h, this]
  · have : (15#32).getLsbD i = false := by
      rw [show (15#32) = BitVec.ofNat 32 15 by rfl, BitVec.getLsbD_ofNat]
      have : Nat.testBit 15 i = false := Nat.testBit_lt_two_pow (Nat.lt_of_lt_of_le (by decide : 15 < 2 ^ 4) (Nat.pow_le_pow_right (by decide) (by omega)))
      simp [this]
    have e : 4 + (i - 4) = i := by omega
    rw [this, Bool.and_false, Bool.xor_false, e]
    simp [h, hi]

theorem bitB_even (c : BitVec 32) (h : c.getLsbD 0 = false) : bitB c = c >>> 1 := by unfold bitB; rw [h]; simp
theorem bit4_hi (c : BitVec 32) : bit4 ((c >>> 4) <<< 4) = c >>> 4 := by
  have g : ∀ (j : Nat) (d : BitVec 32), 1 ≤ j → j ≤ 4 → (∀ i, i < j → d.getLsbD i = false) → bitB d = d >>> 1 ∧ ∀ i, i < j - 1 → (d >>> 1).getLsbD i = false := by
    intro j d h1 h4 h
    exact ⟨bitB_even d (h 0 h1), fun i hi => by rw [BitVec.getLsbD_ushiftRight]; exact h (1 + i) (by omega)⟩
  have h4 : ∀ i, i < 4 → ((c >>> 4) <<< 4).getLsbD i = false := by
    intro i hi
    rw [BitVec.getLsbD_shiftLeft]; simp [hi]
  obtain ⟨e1, h3⟩ := g 4 _ (by decide) (by decide) h4
  obtain ⟨e2, h2⟩ := g 3 _ (by decide) (by decide) h3
  obtain ⟨e3, h1⟩ := g 2 _ (by decide) (by decide) h2
  obtain ⟨e4, _⟩ := g 1 _ (by decide) (by decide) h1
  unfold bit4
  rw [e1, e2, e3, e4]
  apply BitVec.eq_of_getLsbD_eq
  intro i hi
  simp only [BitVec.getLsbD_ushiftRight, BitVec.getLsbD_shiftLeft]
  by_cases hb : 1 + (1 + (1 + (1 + i))) < 32
  · have e : 1 + (1 + (1 + (1 + i))) - 4 = i := by omega
    have : ¬ (1 + (1 + (1 + (1 + i))) < 4) := by omega
    simp [hb, this, e]
  · have : c.getLsbD (4 + i) = false := BitVec.getLsbD_of_ge _ _ (by omega)
    simp [hb, this]

/-- Four bits at once. -/
theorem bit4_tab (c : BitVec 32) : bit4 c = (c >>> 4) ^^^ tabB (c &&& 15#32).toNat := by
  have h := congrArg bit4 (nib_split c)
  rw [bit4_xor, bit4_hi] at h
  rw [h]
  congr 1
  unfold tabB
  rw [BitVec.ofNat_toNat]
  simp

/-! numbers of 32 bits and words -/
def nB (c : BitVec 32) : Int := (c.toNat : Int)
theorem nB_range (c : BitVec 32) : 0 ≤ nB c ∧ nB c < 4294967296 := by have := c.isLt; unfold nB; omega
theorem nB_inj {a b : BitVec 32} (h : nB a = nB b) : a = b := BitVec.eq_of_toNat_eq (by unfold nB at h; omega)
theorem nB_of (x : Int) (h0 : 0 ≤ x) (h1 : x < 4294967296) : nB (BitVec.ofInt 32 x) = x := by
  unfold nB; rw [BitVec.toNat_ofInt]; omega
theorem of_nB (c : BitVec 32) : BitVec.ofInt 32 (nB c) = c := nB_inj (nB_of _ (nB_range c).1 (nB_range c).2)
theorem u32_eq (n : Int) : IntKind.u32.wrap n = n % 4294967296 := Go.IntKind.wrap_u32 n
theorem xor_u32 (a b : BitVec 32) : Go.bits .xor .u32 (nB a) (nB b) = nB (a ^^^ b) := by
  have e : Go.bits .xor .u32 (nB a) (nB b) = ((BitVec.ofInt 32 (nB a) ^^^ BitVec.ofInt 32 (nB b)).toNat : Int) % 4294967296 := u32_eq _
  rw [e, of_nB, of_nB]
  have := nB_range (a ^^^ b)
  unfold nB at this ⊢
  omega
theorem and15_u32 (a : BitVec 32) : Go.bits .and .u32 (nB a) 15 = nB (a &&& 15#32) := by
  have e : Go.bits .and .u32 (nB a) 15 = ((BitVec.ofInt 32 (nB a) &&& BitVec.ofInt 32 15).toNat : Int) % 4294967296 := u32_eq _
  rw [e, of_nB, show BitVec.ofInt 32 15 = 15#32 by decide]
  have := nB_range (a &&& 15#32)
  unfold nB at this ⊢
  omega
theorem shr4_u32 (a : BitVec 32) : nB a / (16 : Int) = nB (a >>> 4) := by
  unfold nB
  rw [BitVec.toNat_ushiftRight, Nat.shiftRight_eq_div_pow]
  omega
theorem shr1_u32 (a : BitVec 32) : nB a / (2 : Int) = nB (a >>> 1) := by
  unfold nB
  rw [BitVec.toNat_ushiftRight, Nat.shiftRight_eq_div_pow]
  omega
theorem not_u32 (a : BitVec 32) : 4294967295 - nB a = nB (~~~ a) := by
  unfold nB
  rw [BitVec.toNat_not]
  have := a.isLt
  omega
theorem and15_lt (a : BitVec 32) : (a &&& 15#32).toNat < 16 := by
  rw [BitVec.toNat_and]
  exact Nat.lt_of_le_of_lt (Nat.and_le_right) (by decide)
/-- A sum that goes on, as a word. -/
def moreB (n : BitVec 32) (l : List Int) : BitVec 32 := ~~~ foldB (~~~ n) l
theorem moreB_append (n : BitVec 32) (a b : List Int) : moreB n (a ++ b) = moreB (moreB n a) b := by
  unfold moreB
  rw [foldB_append, BitVec.not_not]

/- piece sumof -/
theorem u8_in_u32 (s : ByteArray) (i : Int) : bt s i % 4294967296 = bt s i := by have := bt_range s i; omega
theorem bt_word (s : ByteArray) (i : Int) : bt s i = nB (BitVec.ofInt 32 (bt s i)) := by have := bt_range s i; rw [nB_of _ this.1 (by omega)]

theorem rd_G0 (i : Nat) (h : i < 16) : rd G0 (i : Int) = nB (tabB i) := by
  have : ∀ i : Fin 16, rd G0 (i.val : Int) = nB (tabB i.val) := by decide +kernel
  exact this ⟨i, h⟩

theorem step_G0 (c : BitVec 32) : Go.bits .xor .u32 (nB c / 16) (rd G0 (Go.bits .and .u32 (nB c) 15)) = nB (bit4 c) := by
  rw [and15_u32, show rd G0 (nB (c &&& 15#32)) = nB (tabB (c &&& 15#32).toNat) from rd_G0 _ (and15_lt c), shr4_u32, xor_u32, bit4_tab]

theorem more_l0 (s : ByteArray) (hs : s.size ≤ 1000000000000) (n : BitVec 32) (d : Nat) : ∀ i, i + d = s.size →
    Ev (fun k => sum_More.l0 k s (nB (foldB n ((byt s).take i))) (s.size : Int) (i : Int)) (nB (~~~ foldB n (byt s))) := by
  induction d with
  | zero =>
    intro i hi
    refine Ev.step (f := fun _ => some (nB (~~~ foldB n (byt s)))) (fun k => ?_) (Ev.now _)
    simp only [sum_More.l0]
    rw [if_neg (by omega), List.take_of_length_le (by rw [byt_len]; omega), show (4294967295 : Int) = nB (BitVec.allOnes 32) by decide +kernel, xor_u32, BitVec.allOnes_xor]
  | succ d ih =>
    intro i hi
    have hl : i < (byt s).length := by rw [byt_len]; omega
    refine Ev.step (f := fun k => sum_More.l0 k s (nB (foldB n ((byt s).take (i + 1)))) (s.size : Int) ((i + 1 : Nat) : Int)) (fun k => ?_) (ih (i + 1) (by omega))
    have e : foldB n ((byt s).take (i + 1)) = bit4 (bit4 (foldB n ((byt s).take i) ^^^ BitVec.ofInt 32 (bt s (i : Int)))) := by
      rw [List.take_succ_eq_append_getElem hl, foldB_append, bt_byt s i (by omega)]
      rfl
    have h1 : Go.bits .xor .u32 (nB (foldB n ((byt s).take i))) (bt s (i : Int) % 4294967296) = nB (foldB n ((byt s).take i) ^^^ BitVec.ofInt 32 (bt s (i : Int))) := by
      rw [u8_in_u32, bt_word, xor_u32, ← bt_word]
    simp only [sum_More.l0]
    rw [h1]
    generalize foldB n ((byt s).take i) ^^^ BitVec.ofInt 32 (bt s (i : Int)) = c at *
    have h2 := and15_u32 c
    have h3 := and15_lt c
    have h4 := and15_u32 (bit4 c)
    have h5 := and15_lt (bit4 c)
    rw [if_pos (by omega), if_pos (by omega), if_pos (by omega), if_pos (by rw [h2]; exact (nB_range _).1), if_pos (by rw [h2]; unfold nB; omega), step_G0 c, if_pos (by rw [h4]; exact (nB_range _).1), if_pos (by rw [h4]; unfold nB; omega), step_G0 (bit4 c), e,
      show wrap64 ((i : Int) + 1) = ((i + 1 : Nat) : Int) by unfold wrap64; omega]

theorem sum_More_ev (s : ByteArray) (hs : s.size ≤ 1000000000000) (n : BitVec 32) : Ev (fun k => sum_More.f k (nB n) s) (nB (moreB n (byt s))) := by
  unfold sum_More.f moreB
  have := more_l0 s hs (~~~ n) s.size 0 (by omega)
  rw [show (4294967295 : Int) = nB (BitVec.allOnes 32) by decide +kernel, xor_u32, BitVec.allOnes_xor]
  simpa [foldB] using this

/-- The sum of parts. -/
def partsB (n : BitVec 32) (l : List ByteArray) : BitVec 32 := l.foldl (fun n s => moreB n (byt s)) n

theorem sum_Of_l0 (l : List ByteArray) (hl : l.length ≤ 1000) (hs : ∀ s ∈ l, s.size ≤ 1000000000000) (d : Nat) : ∀ (i : Nat) (n : BitVec 32), i + d = l.length →
    Ev (fun k => sum_Of.l0 k (nB n) l (l.length : Int) (i : Int)) (nB (partsB n (l.drop i))) := by
  induction d with
  | zero =>
    intro i n hi
    refine Ev.step (f := fun _ => some (nB (partsB n (l.drop i)))) (fun k => ?_) (Ev.now _)
    simp only [sum_Of.l0]
    rw [if_neg (by omega), List.drop_eq_nil_of_le (by omega)]
    rfl
  | succ d ih =>
    intro i n hi
    have hlt : i < l.length := by omega
    have hrd : rdOf ByteArray.empty l (i : Int) = l[i] := by simp [rdOf, hlt]
    refine Ev.step (fun k => by simp only [sum_Of.l0]; rw [if_pos (by omega), if_pos (by omega), if_pos (by omega), hrd, show wrap64 ((i : Int) + 1) = ((i + 1 : Nat) : Int) by unfold wrap64; omega]) ?_
    refine Ev.bind (sum_More_ev l[i] (hs _ (List.getElem_mem hlt)) n) ?_
    have := ih (i + 1) (moreB n (byt l[i])) (by omega)
    rw [List.drop_eq_getElem_cons hlt]
    exact this

theorem sum_Of_ev (l : List ByteArray) (hl : l.length ≤ 1000) (hs : ∀ s ∈ l, s.size ≤ 1000000000000) : Ev (fun k => sum_Of.f k l) (nB (partsB 0 l)) := by
  have := sum_Of_l0 l hl hs l.length 0 0 (by omega)
  unfold sum_Of.f
  simpa [nB] using this

theorem sum_Of_one (s : ByteArray) (hs : s.size ≤ 1000000000000) : Ev (fun k => sum_Of.f k [s]) (nB (moreB 0 (byt s))) :=
  sum_Of_ev [s] (by simp) (by simpa using hs)

/-- A text with its sum behind. -/
def sealB (s : ByteArray) : ByteArray := s ++ strOfNums (putS (nB (moreB 0 (byt s))) 4)
theorem sum_Seal_ev (s : ByteArray) (hs : s.size ≤ 1000000000000) : Ev (fun k => sum_Seal.f k s) (sealB s) := by
  unfold sum_Seal.f
  have hr := nB_range (moreB 0 (byt s))
  refine Ev.bind (sum_Of_one s hs) (Ev.bind (word_Put32_ev _ hr.1 hr.2) ?_)
  refine Ev.congr (f := fun _ => some (sealB s)) (fun k => ?_) (Ev.now _)
  rw [if_pos (by rw [strOfNums_size, putS_len]; omega)]
  rfl
theorem sealB_size (s : ByteArray) : (sealB s).size = s.size + 4 := by
  unfold sealB
  rw [ByteArray.size_append, strOfNums_size, putS_len]

theorem lives_ev : Ev (fun k => haulagelaw02_lives.f k) true := by
  unfold haulagelaw02_lives.f
  refine Ev.bind (sum_Of_one _ (by decide)) ?_
  refine Ev.congr (fun k => by rw [if_pos (by decide +kernel)]) ?_
  refine Ev.bind (sum_Seal_ev _ (by decide)) ?_
  refine Ev.congr (f := fun _ => some true) (fun k => ?_) (Ev.now _)
  rw [sealB_size]
  rfl

/- piece sopen -/
/-- What a text is that may be opened, or the error's number. -/
def openB (s : ByteArray) : ByteArray × Int := if s.size < 4 then (⟨#[]⟩, 4) else if sealB (s.extract 0 (s.size - 4)) = s then (s.extract 0 (s.size - 4), 0) else (⟨#[]⟩, 7)

theorem cut4 (s : ByteArray) (h : 4 ≤ s.size) : s.extract 0 (s.size - 4) ++ s.extract (s.size - 4) s.size = s := by
  apply byt_inj
  rw [byt_append, byt_to, byt_cut, List.take_append_drop]

theorem app_left_cancel (a b c : ByteArray) (h : a ++ b = a ++ c) : b = c := by
  apply byt_inj
  have := congrArg byt h
  rw [byt_append, byt_append] at this
  exact List.append_cancel_left this

theorem sum_Open_ev (s : ByteArray) (hs : s.size ≤ 1000000000000) : Ev (fun k => sum_Open.f k s) (openB s) := by
  unfold sum_Open.f openB
  have hw : wrap64 ((s.size : Int) - 4) = (s.size : Int) - 4 := by unfold wrap64; omega
  rw [hw]
  by_cases h : s.size < 4
  · refine Ev.congr (f := fun _ => some (⟨#[]⟩, 4)) (fun k => ?_) (by rw [if_pos h]; exact Ev.now _)
    rw [if_pos (by omega)]
  · rw [if_neg h]
    refine Ev.congr (fun k => by rw [if_neg (by omega), if_pos (by omega), if_pos (by omega)]) ?_
    rw [show ((s.size : Int) - 4).toNat = s.size - 4 by omega]
    have hr := nB_range (moreB 0 (byt (s.extract 0 (s.size - 4))))
    have hz : (s.extract 0 (s.size - 4)).size = s.size - 4 := by rw [ByteArray.size_extract]; omega
    refine Ev.bind (sum_Of_one _ (by omega)) (Ev.bind (word_Put32_ev _ hr.1 hr.2) ?_)
    have hc := cut4 s (by omega)
    by_cases e : sealB (s.extract 0 (s.size - 4)) = s
    · rw [if_pos e]
      refine Ev.congr (f := fun _ => some (s.extract 0 (s.size - 4), 0)) (fun k => ?_) (Ev.now _)
      rw [if_pos]
      rw [toList_eq_iff]
      refine app_left_cancel (s.extract 0 (s.size - 4)) _ _ ?_
      rw [hc]
      exact e
    · rw [if_neg e]
      refine Ev.congr (f := fun _ => some (⟨#[]⟩, 7)) (fun k => ?_) (Ev.now _)
      rw [if_neg]
      rw [toList_eq_iff]
      intro h2
      refine e ?_
      have : sealB (s.extract 0 (s.size - 4)) = s.extract 0 (s.size - 4) ++ s.extract (s.size - 4) s.size := by rw [← h2]; rfl
      rw [this, hc]

theorem open_seal (s : ByteArray) : openB (sealB s) = (s, 0) := by
  unfold openB
  have hz := sealB_size s
  have e : (sealB s).extract 0 ((sealB s).size - 4) = s := by
    apply byt_inj
    rw [byt_to, hz]
    unfold sealB
    rw [byt_append, Nat.add_sub_cancel, List.take_append_of_le_length (by rw [byt_len]; omega), List.take_of_length_le (by rw [byt_len]; omega)]
  rw [if_neg (by omega), e, if_pos rfl]


def bit8 (c : BitVec 32) : BitVec 32 := bit4 (bit4 c)
theorem bit8_xor (a b : BitVec 32) : bit8 (a ^^^ b) = bit8 a ^^^ bit8 b := by unfold bit8; rw [bit4_xor, bit4_xor]
theorem bit8_inj {a b : BitVec 32} (h : bit8 a = bit8 b) : a = b := bit4_inj (bit4_inj h)
theorem bit4_low (z : BitVec 32) (h : z = (z >>> 4) <<< 4) : bit4 z = z >>> 4 := by
  have := bit4_hi z
  rw [← h] at this
  exact this
theorem bit8_hi (u : BitVec 32) : bit8 ((u >>> 8) <<< 8) = u >>> 8 := by
  unfold bit8
  have e : ((u >>> 8) <<< 8) >>> 4 = (u >>> 8) <<< 4 := by
    apply BitVec.eq_of_getLsbD_eq
    intro i hi
    simp only [BitVec.getLsbD_ushiftRight, BitVec.getLsbD_shiftLeft]
    by_cases h4 : i < 4
    · simp [h4, show 4 + i < 8 by omega]
    · by_cases hb : 4 + i < 32
      · simp [h4, hb, hi, show ¬ 4 + i < 8 by omega, show 8 + (4 + i - 8) = 8 + (i - 4) by omega]
      · have : u.getLsbD (8 + (i - 4)) = false := BitVec.getLsbD_of_ge _ _ (by omega)
        simp [hb, this]
  have h1 : (u >>> 8) <<< 8 = (((u >>> 8) <<< 8) >>> 4) <<< 4 := by
    rw [e]
    apply BitVec.eq_of_getLsbD_eq
    intro i hi
    simp only [BitVec.getLsbD_ushiftRight, BitVec.getLsbD_shiftLeft]
    by_cases h8 : i < 8
    · by_cases h4 : i < 4
      · simp [h8, h4]
      · simp [h8, h4, show i - 4 < 4 by omega]
    · simp [h8, hi, show ¬ i < 4 by omega, show ¬ i - 4 < 4 by omega, show i - 4 < 32 by omega, show 8 + (i - 8) = 8 + (i - 4 - 4) by omega]
  have h2 : (u >>> 8) <<< 4 = (((u >>> 8) <<< 4) >>> 4) <<< 4 := by
    apply BitVec.eq_of_getLsbD_eq
    intro i hi
    simp only [BitVec.getLsbD_ushiftRight, BitVec.getLsbD_shiftLeft]
    by_cases h4 : i < 4
    · simp [h4]
    · simp [h4, hi, show 4 + (i - 4) < 32 by omega, show ¬ 4 + (i - 4) < 4 by omega, show 4 + (i - 4) - 4 = i - 4 by omega]
  rw [bit4_low _ h1, e, bit4_low _ h2]
  apply BitVec.eq_of_getLsbD_eq
  intro i hi
  simp only [BitVec.getLsbD_ushiftRight, BitVec.getLsbD_shiftLeft]
  by_cases hb : 4 + i < 32
  · simp [hb]
  · have : u.getLsbD (8 + i) = false := BitVec.getLsbD_of_ge _ _ (by omega)
    simp [hb, this]
theorem split8 (u : BitVec 32) : u ^^^ BitVec.ofInt 32 (nB u % 256) = (u >>> 8) <<< 8 := by
  have e : BitVec.ofInt 32 (nB u % 256) = u &&& 255#32 := by
    apply BitVec.eq_of_toNat_eq
    rw [BitVec.toNat_and, show (255#32).toNat = 2 ^ 8 - 1 by rfl, Nat.and_two_pow_sub_one_eq_mod, BitVec.toNat_ofInt]
    unfold nB
    omega
  rw [e]
  apply BitVec.eq_of_getLsbD_eq
  intro i hi
  rw [BitVec.getLsbD_xor, BitVec.getLsbD_and, BitVec.getLsbD_shiftLeft, BitVec.getLsbD_ushiftRight, show (255#32) = BitVec.ofNat 32 (2 ^ 8 - 1) by rfl, BitVec.getLsbD_ofNat, Nat.testBit_two_pow_sub_one]
  by_cases h : i < 8
  · simp [h, hi]
  · simp [h, hi, show 8 + (i - 8) = i by omega]
/-- One byte of a word goes in. -/
theorem byte_in (x u : BitVec 32) : byteB (x ^^^ u) (nB u % 256) = bit8 x ^^^ (u >>> 8) := by
  unfold byteB
  rw [BitVec.xor_assoc, split8]
  show bit8 _ = _
  rw [bit8_xor, bit8_hi]
theorem putS4 (v : BitVec 32) : putS (nB v) 4 = [nB v % 256, nB (v >>> 8) % 256, nB (v >>> 8 >>> 8) % 256, nB (v >>> 8 >>> 8 >>> 8) % 256] := by
  have e : ∀ u : BitVec 32, nB (u >>> 8) = nB u / 256 := by
    intro u
    unfold nB
    rw [BitVec.toNat_ushiftRight, Nat.shiftRight_eq_div_pow]
    omega
  simp only [putS, e]
  simp only [List.nil_append, List.cons_append]
  congr 1
  · omega
  · congr 1
    congr 1
    · omega
    · congr 1
      omega
theorem fold4 (c v : BitVec 32) : foldB c (putS (nB v) 4) = bit8 (bit8 (bit8 (bit8 (c ^^^ v)))) := by
  rw [putS4]
  have e0 : c = (c ^^^ v) ^^^ v := by rw [BitVec.xor_assoc, BitVec.xor_self, BitVec.xor_zero]
  generalize hx : c ^^^ v = x at *
  rw [e0]
  simp only [foldB, List.foldl_cons, List.foldl_nil]
  rw [byte_in, byte_in, byte_in, byte_in]
  have z : v >>> 8 >>> 8 >>> 8 >>> 8 = 0#32 := by
    apply BitVec.eq_of_toNat_eq
    simp only [BitVec.toNat_ushiftRight, Nat.shiftRight_eq_div_pow]
    have := v.isLt
    simp
    omega
  rw [z, BitVec.xor_zero]
theorem bytes4 (w : List Int) (h : w.length = 4) (hb : Bytes w) : ∃ v : BitVec 32, w = putS (nB v) 4 := by
  match w, h with
  | [a, b, c, d], _ =>
    have ha := hb a (by simp)
    have hb' := hb b (by simp)
    have hc := hb c (by simp)
    have hd := hb d (by simp)
    refine ⟨BitVec.ofInt 32 (a + 256 * b + 65536 * c + 16777216 * d), ?_⟩
    rw [nB_of _ (by omega) (by omega)]
    simp only [putS, List.nil_append, List.cons_append]
    congr 1
    · omega
    · congr 1
      · omega
      · congr 1
        · omega
        · congr 1
          omega
theorem burst (c : BitVec 32) (l l' : List Int) (p : Nat) (hl : p + 4 ≤ l.length) (e : l'.length = l.length) (hb : Bytes l) (hb' : Bytes l') (h1 : l'.take p = l.take p) (h2 : l'.drop (p + 4) = l.drop (p + 4)) (h : foldB c l' = foldB c l) : l' = l := by
  have d : ∀ x : List Int, x = x.take p ++ ((x.drop p).take 4 ++ x.drop (p + 4)) := by
    intro x
    rw [← List.drop_drop, List.take_append_drop, List.take_append_drop]
  have hw : ((l.drop p).take 4).length = 4 := by rw [List.length_take, List.length_drop]; omega
  have hw' : ((l'.drop p).take 4).length = 4 := by rw [List.length_take, List.length_drop]; omega
  obtain ⟨v, hv⟩ := bytes4 _ hw ((hb.drop p).take 4)
  obtain ⟨v', hv'⟩ := bytes4 _ hw' ((hb'.drop p).take 4)
  rw [d l, d l', h1, h2, hv, hv'] at h
  rw [foldB_append, foldB_append, foldB_append, foldB_append] at h
  have h3 := foldB_inj _ h
  rw [fold4, fold4] at h3
  have h4 := bit8_inj (bit8_inj (bit8_inj (bit8_inj h3)))
  have h5 : v' = v := (BitVec.xor_right_inj _).1 h4
  rw [d l, d l', h1, h2, hv, hv', h5]
/-- What the sum of any sealed text leads to. -/
theorem seal_fold (m : ByteArray) : foldB (~~~ 0) (byt (sealB m)) = bit8 (bit8 (bit8 (bit8 (BitVec.allOnes 32)))) := by
  unfold sealB
  rw [byt_append, byt_str (putS_bytes _ _), foldB_append, fold4]
  unfold moreB
  generalize foldB (~~~ 0) (byt m) = c
  congr 4
  rw [← BitVec.xor_allOnes, ← BitVec.xor_assoc, BitVec.xor_self, BitVec.zero_xor]

theorem turnL_bytes (s : ByteArray) (p : Nat) (b0 b1 b2 b3 : Int) : Bytes (turnL s p b0 b1 b2 b3) := by
  intro x hx
  obtain ⟨j, _, rfl⟩ := List.mem_map.1 hx
  exact turnV_range s p b0 b1 b2 b3 j
theorem turnL_len (s : ByteArray) (p : Nat) (b0 b1 b2 b3 : Int) : (turnL s p b0 b1 b2 b3).length = s.size := by simp [turnL]
theorem turnL_far (s : ByteArray) (p : Nat) (b0 b1 b2 b3 : Int) (j : Nat) (hj : j < s.size) (h : j < p ∨ p + 4 ≤ j) : (turnL s p b0 b1 b2 b3)[j]'(by rw [turnL_len]; exact hj) = (byt s)[j]'(by rw [byt_len]; exact hj) := by
  rw [← bt_byt s j hj]
  simp only [turnL, List.getElem_map, List.getElem_range]
  unfold turnV
  rw [if_neg (by omega), if_neg (by omega), if_neg (by omega), if_neg (by omega)]
theorem turnL_take (s : ByteArray) (p : Nat) (b0 b1 b2 b3 : Int) : (turnL s p b0 b1 b2 b3).take p = (byt s).take p := by
  apply List.ext_getElem
  · rw [List.length_take, List.length_take, turnL_len, byt_len]
  · intro j h1 h2
    rw [List.getElem_take, List.getElem_take]
    rw [List.length_take, byt_len] at h2
    exact turnL_far s p b0 b1 b2 b3 j (by omega) (.inl (by omega))
theorem turnL_drop (s : ByteArray) (p : Nat) (b0 b1 b2 b3 : Int) : (turnL s p b0 b1 b2 b3).drop (p + 4) = (byt s).drop (p + 4) := by
  apply List.ext_getElem
  · rw [List.length_drop, List.length_drop, turnL_len, byt_len]
  · intro j h1 h2
    rw [List.getElem_drop, List.getElem_drop]
    rw [List.length_drop, byt_len] at h2
    exact turnL_far s p b0 b1 b2 b3 _ (by omega) (.inr (by omega))
theorem turned_far (s : ByteArray) (p : Nat) (b0 b1 b2 b3 : Int) (hp : p + 4 ≤ s.size) (h : foldB (~~~ 0) (byt (strOfNums (turnL s p b0 b1 b2 b3))) = foldB (~~~ 0) (byt s)) : strOfNums (turnL s p b0 b1 b2 b3) = s := by
  rw [byt_str (turnL_bytes _ _ _ _ _ _)] at h
  apply byt_inj
  rw [byt_str (turnL_bytes _ _ _ _ _ _)]
  exact burst (~~~ 0) (byt s) _ p (by rw [byt_len]; exact hp) (by rw [turnL_len, byt_len]) (byt_bytes s) (turnL_bytes _ _ _ _ _ _) (turnL_take _ _ _ _ _ _) (turnL_drop _ _ _ _ _ _) h
theorem opens_seal (t m : ByteArray) (h : (openB t).2 = 0) : ∃ m, t = sealB m := by
  unfold openB at h
  split at h
  · exact absurd h (by simp)
  · split at h
    · rename_i e
      exact ⟨_, e.symm⟩
    · exact absurd h (by simp)
theorem turned_ev (s : ByteArray) (a b0 b1 b2 b3 : Int) (h4 : 4 ≤ s.size) (hs : s.size ≤ 1000000000) (h0 : 0 ≤ a) (h1 : a < 65536) : Ev (fun k => haulagelaw02_turned.f k s a b0 b1 b2 b3) (strOfNums (turnL s (a % ((s.size : Int) - 3)).toNat b0 b1 b2 b3)) := by
  refine Ev.congr (fun k => ?_) (Ev.now _)
  unfold haulagelaw02_turned.f
  rw [if_pos ⟨h4, hs, h0, h1⟩]
theorem at_lt (n : Nat) (a : Int) (h : 4 ≤ n) : (a % ((n : Int) - 3)).toNat + 4 ≤ n := by
  have h1 := Int.emod_nonneg a (show (n : Int) - 3 ≠ 0 by omega)
  have h2 := Int.emod_lt_of_pos a (show (0 : Int) < (n : Int) - 3 by omega)
  omega
theorem haulagelaw02_SumTells : ∀ (a0 : ByteArray) (a1 : Int) (x2 : S23), a0.size ≤ 140737488351232 → (Lit.int .u16 a1).wf = true → Ok23 x2 → ∃ k, haulagelaw02_SumTells.f k a0 a1 x2.f0 x2.f1 x2.f2 x2.f3 = some true := by
  intro s a x hs ha hx
  have hr : 0 ≤ a ∧ a < 65536 := by
    have : IntKind.u16.min ≤ a ∧ a ≤ IntKind.u16.max := by simpa [Lit.wf] using ha
    have e1 : IntKind.u16.min = 0 := by decide
    have e2 : IntKind.u16.max = 65535 := by decide
    omega
  refine Ev.rounds (r := true) ?_
  unfold haulagelaw02_SumTells.f
  refine Ev.bind lives_ev ?_
  refine Ev.congr (fun k => by rw [if_pos rfl]) ?_
  by_cases h3 : s.size > 300
  · exact Ev.congr (fun k => by rw [if_pos (show (s.size : Int) > 300 by omega)]) (Ev.now _)
  refine Ev.congr (fun k => by rw [if_neg (show ¬ (s.size : Int) > 300 by omega)]) ?_
  have hz := sealB_size s
  refine Ev.bind (sum_Seal_ev s (by omega)) (Ev.bind (turned_ev _ _ _ _ _ _ (by omega) (by omega) hr.1 hr.2) ?_)
  have hp := at_lt (sealB s).size a (by omega)
  generalize (a % (((sealB s).size : Int) - 3)).toNat = p at hp ⊢
  have htz : (strOfNums (turnL (sealB s) p x.f0 x.f1 x.f2 x.f3)).size = (sealB s).size := by rw [strOfNums_size, turnL_len]
  have key : (openB (strOfNums (turnL (sealB s) p x.f0 x.f1 x.f2 x.f3))).2 = 0 ↔ strOfNums (turnL (sealB s) p x.f0 x.f1 x.f2 x.f3) = sealB s := by
    constructor
    · intro h
      obtain ⟨m, hm⟩ := opens_seal _ s h
      refine turned_far _ _ _ _ _ _ hp ?_
      rw [hm, seal_fold, seal_fold]
    · intro h
      rw [h, open_seal]
  generalize strOfNums (turnL (sealB s) p x.f0 x.f1 x.f2 x.f3) = t at key htz ⊢
  refine Ev.bind (sum_Open_ev t (by omega)) (Ev.bind (sum_Seal_ev s (by omega)) ?_)
  have hk : (((openB t).2 == 0) != (t.toList == (sealB s).toList)) = false := by
    rw [beq_toList]
    by_cases e : t = sealB s
    · rw [decide_eq_true e, key.2 e]; rfl
    · have : ¬ (openB t).2 = 0 := fun h => e (key.1 h)
      rw [decide_eq_false e, beq_false_of_ne this]; rfl
  rw [hk]
  refine Ev.congr (fun k => by rw [if_neg (by simp)]) ?_
  by_cases h4 : s.size < 4
  · exact Ev.congr (fun k => by rw [if_pos (show (s.size : Int) < 4 by omega)]) (Ev.now _)
  refine Ev.congr (fun k => by rw [if_neg (show ¬ (s.size : Int) < 4 by omega)]) ?_
  refine Ev.bind (turned_ev _ _ _ _ _ _ (by omega) (by omega) hr.1 hr.2) ?_
  have hp2 := at_lt s.size a (by omega)
  generalize (a % ((s.size : Int) - 3)).toNat = q at hp2 ⊢
  have huz : (strOfNums (turnL s q x.f0 x.f1 x.f2 x.f3)).size = s.size := by rw [strOfNums_size, turnL_len]
  refine Ev.bind (sum_Of_one _ (by omega)) (Ev.bind (sum_Of_one _ (by omega)) ?_)
  have k2 : ((nB (moreB 0 (byt (strOfNums (turnL s q x.f0 x.f1 x.f2 x.f3)))) == nB (moreB 0 (byt s))) == ((strOfNums (turnL s q x.f0 x.f1 x.f2 x.f3)).toList == s.toList)) = true := by
    rw [beq_toList]
    by_cases e : strOfNums (turnL s q x.f0 x.f1 x.f2 x.f3) = s
    · rw [e, decide_eq_true rfl]; simp
    · have : ¬ nB (moreB 0 (byt (strOfNums (turnL s q x.f0 x.f1 x.f2 x.f3)))) = nB (moreB 0 (byt s)) := by
        intro h
        refine e (turned_far _ _ _ _ _ _ hp2 ?_)
        have h1 := nB_inj h
        unfold moreB at h1
        have h2 := congrArg (fun z => ~~~ z) h1
        simpa only [BitVec.not_not] using h2
      rw [decide_eq_false e, beq_false_of_ne this]; rfl
  rw [k2]
  exact Ev.now true

end Go.Proofs.YtapjhgenjghfbaaDoor.Pure

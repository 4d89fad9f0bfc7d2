/- What the functions' Lean texts come to; no condition but those that each theorem states. -/
import Derived.Test.YtgefikclhfjcgaaGreatDoorFWalrecPacks
set_option linter.unusedVariables false
set_option linter.unusedSimpArgs false
set_option maxRecDepth 100000
namespace Go.Proofs.YtgefikclhfjcgaaGreatDoor.EWalrecPacks
open Go Go.Proofs.YtgefikclhfjcgaaGreatDoorEv
def wrap64 (n : Int) : Int := (n + 9223372036854775808) % 18446744073709551616 - 9223372036854775808
def Ev {α : Type} (g : Nat → Option α) (r : α) : Prop := ∃ K, ∀ k, K ≤ k → g k = some r
theorem Ev.now {α : Type} (r : α) : Ev (fun _ => some r) r := ⟨0, fun _ _ => rfl⟩
theorem Ev.bind {α β : Type} {g : Nat → Option α} {f : Nat → α → Option β} {a : α} {r : β} (h : Ev g a) (k : Ev (fun n => f n a) r) : Ev (fun n => (g n).bind (f n)) r := by
  obtain ⟨K, h⟩ := h
  obtain ⟨K', k⟩ := k
  refine ⟨max K K', fun n hn => ?_⟩
  have h1 := h n (by omega)
  have h2 := k n (by omega)
  simp only [h1, Option.bind_some]
  exact h2
theorem Ev.step {α : Type} {g f : Nat → Option α} {r : α} (h : ∀ k, g (k + 1) = f k) (k : Ev f r) : Ev g r := by
  obtain ⟨K, k⟩ := k
  refine ⟨K + 1, fun n hn => ?_⟩
  obtain ⟨m, rfl⟩ : ∃ m, n = m + 1 := ⟨n - 1, by omega⟩
  rw [h]
  exact k m (by omega)
theorem Ev.congr {α : Type} {g f : Nat → Option α} {r : α} (h : ∀ k, g k = f k) (k : Ev f r) : Ev g r := by
  obtain ⟨K, k⟩ := k
  exact ⟨K, fun n hn => (h n).trans (k n hn)⟩
theorem Ev.pure {α : Type} {g : Nat → Option α} {r : α} (h : ∀ k, g k = some r) : Ev g r := ⟨0, fun n _ => h n⟩
theorem Ev.ite {α : Type} {c : Prop} [Decidable c] {g f : Nat → Option α} {r : α} (h1 : c → Ev g r) (h2 : ¬ c → Ev f r) : Ev (fun k => if c then g k else f k) r := by
  by_cases h : c
  · exact Ev.congr (fun k => if_pos h) (h1 h)
  · exact Ev.congr (fun k => if_neg h) (h2 h)
theorem Ev.yes {α : Type} {c : Prop} [Decidable c] {g f : Nat → Option α} {r : α} (h : c) (h1 : Ev g r) : Ev (fun k => if c then g k else f k) r := Ev.congr (fun k => if_pos h) h1
theorem Ev.no {α : Type} {c : Prop} [Decidable c] {g f : Nat → Option α} {r : α} (h : ¬ c) (h1 : Ev f r) : Ev (fun k => if c then g k else f k) r := Ev.congr (fun k => if_neg h) h1
theorem Ev.flat0 {α : Type} {g : Nat → Option α} {r : α} (d : Nat) (h : ∀ m, g (m + d) = some r) : Ev g r :=
  ⟨d, fun k hk => by obtain ⟨m, rfl⟩ : ∃ m, k = m + d := ⟨k - d, by omega⟩; exact h m⟩
theorem Ev.flat1 {α β : Type} {g : Nat → Option α} {r : α} {f1 : Nat → Option β} {v1 : β} (d : Nat) (h1 : Ev f1 v1) (h : ∀ m, (∀ j, f1 (m + j) = some v1) → g (m + d) = some r) : Ev g r := by
  obtain ⟨K1, e1⟩ := h1
  refine ⟨K1 + d, fun k hk => ?_⟩
  obtain ⟨m, rfl⟩ : ∃ m, k = m + d := ⟨k - d, by omega⟩
  exact h m (fun j => e1 _ (by omega))
theorem Ev.flat2 {α β γ : Type} {g : Nat → Option α} {r : α} {f1 : Nat → Option β} {v1 : β} {f2 : Nat → Option γ} {v2 : γ} (d : Nat) (h1 : Ev f1 v1) (h2 : Ev f2 v2)
    (h : ∀ m, (∀ j, f1 (m + j) = some v1) → (∀ j, f2 (m + j) = some v2) → g (m + d) = some r) : Ev g r := by
  obtain ⟨K1, e1⟩ := h1
  obtain ⟨K2, e2⟩ := h2
  refine ⟨K1 + K2 + d, fun k hk => ?_⟩
  obtain ⟨m, rfl⟩ : ∃ m, k = m + d := ⟨k - d, by omega⟩
  exact h m (fun j => e1 _ (by omega)) (fun j => e2 _ (by omega))
theorem Ev.flat3 {α β γ δ : Type} {g : Nat → Option α} {r : α} {f1 : Nat → Option β} {v1 : β} {f2 : Nat → Option γ} {v2 : γ} {f3 : Nat → Option δ} {v3 : δ} (d : Nat) (h1 : Ev f1 v1) (h2 : Ev f2 v2) (h3 : Ev f3 v3)
    (h : ∀ m, (∀ j, f1 (m + j) = some v1) → (∀ j, f2 (m + j) = some v2) → (∀ j, f3 (m + j) = some v3) → g (m + d) = some r) : Ev g r := by
  obtain ⟨K1, e1⟩ := h1
  obtain ⟨K2, e2⟩ := h2
  obtain ⟨K3, e3⟩ := h3
  refine ⟨K1 + K2 + K3 + d, fun k hk => ?_⟩
  obtain ⟨m, rfl⟩ : ∃ m, k = m + d := ⟨k - d, by omega⟩
  exact h m (fun j => e1 _ (by omega)) (fun j => e2 _ (by omega)) (fun j => e3 _ (by omega))
theorem Ev.eq {α : Type} {g : Nat → Option α} {r s : α} (h : Ev g r) (e : r = s) : Ev g s := e ▸ h
theorem wrap_id (n : Int) (h0 : -9223372036854775808 ≤ n) (h1 : n ≤ 9223372036854775807) : wrap64 n = n := by
  unfold wrap64
  omega
theorem wrap_succ (n : Nat) (h : n < 9223372036854775807) : wrap64 ((n : Int) + 1) = ((n + 1 : Nat) : Int) := by
  rw [wrap_id _ (by omega) (by omega)]
  omega
theorem down {P : Nat → Prop} {n : Nat} (h0 : P n) (hs : ∀ i, i < n → P (i + 1) → P i) : ∀ i, i ≤ n → P i := by
  intro i hi
  obtain ⟨d, rfl⟩ : ∃ d, n = i + d := ⟨n - i, by omega⟩
  clear hi
  induction d generalizing i with
  | zero => exact h0
  | succ d ih => exact hs i (by omega) (ih (i + 1) (by rw [show i + 1 + d = i + (d + 1) by omega]; exact h0) (by rw [show i + 1 + d = i + (d + 1) by omega]; exact hs))
theorem beq_dec (a b : Int) : (a == b) = decide (a = b) := by rw [Bool.eq_iff_iff, beq_iff_eq, decide_eq_true_iff]
theorem ba_inj {a b : ByteArray} (h : a.toList = b.toList) : a = b := by
  rw [ByteArray.toList_eq, ByteArray.toList_eq] at h
  exact ByteArray.ext (Array.toList_inj.1 h)
theorem ba_iff (a b : ByteArray) : a.toList = b.toList ↔ a = b := ⟨ba_inj, fun h => by rw [h]⟩
theorem ba_beq (a b : ByteArray) : (a.toList == b.toList) = decide (a = b) := by
  by_cases h : a = b
  · subst h; simp
  · have : ¬ a.toList = b.toList := fun e => h (ba_inj e)
    simp [h, this]
theorem ba_nil (a : ByteArray) : a.toList = ([] : List UInt8) ↔ a.size = 0 := by
  rw [ByteArray.toList_eq, ← List.length_eq_zero_iff, Array.length_toList]
  exact Iff.rfl
theorem tmod_nonneg_eq (a b : Int) (ha : 0 ≤ a) : Int.tmod a b = a % b := Int.tmod_eq_emod_of_nonneg ha
theorem tdiv_nonneg_eq (a b : Int) (ha : 0 ≤ a) : Int.tdiv a b = a / b := Int.tdiv_eq_ediv_of_nonneg ha
theorem u64_id (n : Int) (h0 : 0 ≤ n) (h1 : n < 18446744073709551616) : IntKind.u64.wrap n = n := by
  simp only [IntKind.wrap, IntKind.bits, IntKind.signed]
  simp
  omega

theorem i64_eq (n : Int) : IntKind.i64.wrap n = wrap64 n := by unfold wrap64; exact Go.IntKind.wrap_i64 n
theorem u64_eq (n : Int) : IntKind.u64.wrap n = n % 18446744073709551616 := by simp [IntKind.wrap, IntKind.bits, IntKind.signed]

theorem wf_parts {k : IntKind} {x : Int} (h : (Lit.int k x).wf = true) : k.min ≤ x ∧ x ≤ k.max := by
  unfold Lit.wf at h
  rw [Bool.and_eq_true, decide_eq_true_eq, decide_eq_true_eq] at h
  exact h
theorem wf_i64 {x : Int} (h : (Lit.int .i64 x).wf = true) : -9223372036854775808 ≤ x ∧ x ≤ 9223372036854775807 := by
  have := wf_parts h
  rw [show IntKind.min .i64 = -9223372036854775808 by decide, show IntKind.max .i64 = 9223372036854775807 by decide] at this
  exact this
def strOfNums (l : List Int) : ByteArray := ⟨(l.map fun n => UInt8.ofNat n.toNat).toArray⟩
theorem strOf_eq (l : List Int) : strOf l = strOfNums l := rfl
def byt (s : ByteArray) : List Int := s.data.toList.map fun c => (c.toNat : Int)
/-- All are bytes. -/
def Bytes (l : List Int) : Prop := ∀ x ∈ l, 0 ≤ x ∧ x ≤ 255

theorem byt_len (s : ByteArray) : (byt s).length = s.size := by
  unfold byt
  rw [List.length_map, Array.length_toList]
  rfl
theorem byt_bytes (s : ByteArray) : Bytes (byt s) := by
  intro x hx
  obtain ⟨c, _, rfl⟩ := List.mem_map.1 hx
  have := c.toNat_lt
  omega
theorem str_byt (s : ByteArray) : strOfNums (byt s) = s := by
  apply ByteArray.ext
  unfold strOfNums byt
  rw [List.map_map]
  have : ((fun n : Int => UInt8.ofNat n.toNat) ∘ fun c : UInt8 => (c.toNat : Int)) = id := by
    funext c
    simp
  rw [this]
  simp
theorem byt_str {l : List Int} (h : Bytes l) : byt (strOfNums l) = l := by
  unfold strOfNums byt
  rw [List.toList_toArray, List.map_map]
  have : ∀ x ∈ l, ((fun c : UInt8 => (c.toNat : Int)) ∘ fun n : Int => UInt8.ofNat n.toNat) x = x := by
    intro x hx
    have := h x hx
    simp only [Function.comp]
    rw [UInt8.toNat_ofNat', Nat.mod_eq_of_lt (by omega)]
    omega
  rw [List.map_congr_left this]
  simp
theorem byt_append (a b : ByteArray) : byt (a ++ b) = byt a ++ byt b := by
  unfold byt
  rw [show (a ++ b).data.toList = a.data.toList ++ b.data.toList by simp, List.map_append]
theorem byt_inj {a b : ByteArray} (h : byt a = byt b) : a = b := by rw [← str_byt a, h, str_byt]
theorem byt_extract (s : ByteArray) (a b : Nat) : byt (s.extract a b) = ((byt s).drop a).take (b - a) := by
  unfold byt
  rw [show (s.extract a b).data.toList = (s.data.toList.drop a).take (b - a) by simp [ByteArray.data_extract, Array.toList_extract, List.extract_eq_take_drop], List.map_take, List.map_drop]
theorem byt_cut (s : ByteArray) (a : Nat) : byt (s.extract a s.size) = (byt s).drop a := by
  rw [byt_extract, ← byt_len, List.take_of_length_le (by simp)]
theorem byt_to (s : ByteArray) (b : Nat) : byt (s.extract 0 b) = (byt s).take b := by
  rw [byt_extract]; simp
theorem bt_byt (s : ByteArray) (i : Nat) (h : i < s.size) : bt s (i : Int) = (byt s)[i]'(by rw [byt_len]; exact h) := by
  unfold bt byt
  simp [h]
  rfl
theorem Bytes.append {a b : List Int} (h : Bytes a) (k : Bytes b) : Bytes (a ++ b) := by
  intro x hx
  rcases List.mem_append.1 hx with h1 | h1
  · exact h x h1
  · exact k x h1
theorem Bytes.take {a : List Int} (h : Bytes a) (n : Nat) : Bytes (a.take n) := fun x hx => h x (List.mem_of_mem_take hx)
theorem Bytes.drop {a : List Int} (h : Bytes a) (n : Nat) : Bytes (a.drop n) := fun x hx => h x (List.mem_of_mem_drop hx)
theorem strOfNums_append (a b : List Int) : strOfNums (a ++ b) = strOfNums a ++ strOfNums b := by
  apply ByteArray.ext
  simp [strOfNums]
theorem strOfNums_size (a : List Int) : (strOfNums a).size = a.length := by simp [strOfNums, ByteArray.size]
/-- The place of the first that is so, from i on. -/
def scan {α : Type} (p : α → Bool) : List α → Nat → Int × Bool
  | [], _ => (0, false)
  | x :: r, i => if p x = true then ((i : Int), true) else scan p r (i + 1)
/-- .. as the reference tells it. -/
def scanR {α : Type} (p : α → Bool) : List α → Nat → Int
  | [], _ => -1
  | x :: r, i => if p x = true then (i : Int) else scanR p r (i + 1)
theorem scan_or {α : Type} (p : α → Bool) : ∀ (l : List α) (i : Nat), (scan p l i = (scanR p l i, true) ∧ (i : Int) ≤ scanR p l i ∧ scanR p l i < (i : Int) + l.length) ∨ (scan p l i = (0, false) ∧ scanR p l i = -1)
  | [], i => .inr ⟨rfl, rfl⟩
  | x :: r, i => by
    by_cases h : p x = true
    · refine .inl ?_
      simp only [scan, scanR, if_pos h, List.length_cons]
      exact ⟨trivial, by omega, by omega⟩
    · simp only [scan, scanR, if_neg h, List.length_cons]
      rcases scan_or p r (i + 1) with ⟨h1, h2, h3⟩ | h1
      · exact .inl ⟨h1, by omega, by omega⟩
      · exact .inr h1
theorem scanR_iff {α : Type} (p : α → Bool) : ∀ (l : List α) (i : Nat), scanR p l i = -1 ↔ ∀ x ∈ l, p x = false
  | [], i => by simp [scanR]
  | x :: r, i => by
    by_cases h : p x = true
    · simp only [scanR, if_pos h]
      constructor
      · intro e; omega
      · intro e; have := e x (by simp); rw [h] at this; cases this
    · simp only [scanR, if_neg h, List.mem_cons, forall_eq_or_imp]
      rw [scanR_iff p r (i + 1)]
      simp [h]
theorem bytesOf_byt (s : ByteArray) : bytesOf s = byt s := by unfold bytesOf byt; rw [ByteArray.toList_eq]
theorem i64w (n : Int) (h0 : -9223372036854775808 ≤ n) (h1 : n ≤ 9223372036854775807) : IntKind.i64.wrap n = n := by rw [i64_eq]; exact wrap_id n h0 h1
theorem i64w_succ (n : Nat) (h : n < 9223372036854775807) : IntKind.i64.wrap ((n : Int) + 1) = ((n + 1 : Nat) : Int) := by rw [i64_eq]; exact wrap_succ n h
abbrev nilB : ByteArray := ⟨#[]⟩
theorem nilB_toList : (⟨#[]⟩ : ByteArray).toList = [] := by rw [ByteArray.toList_eq]
theorem ba_nil0 (a : ByteArray) : a.toList = (⟨#[]⟩ : ByteArray).toList ↔ a.size = 0 := by rw [nilB_toList]; exact ba_nil a
theorem btr (s : ByteArray) (i : Int) : 0 ≤ bt s i ∧ bt s i ≤ 255 := by
  unfold bt
  split
  · rename_i h
    have := (s[i.toNat]'h).toNat_lt
    omega
  · omega

/-- The number of the first bytes' low seven bits. -/
def val (s : ByteArray) : Nat → Int
  | 0 => 0
  | i + 1 => val s i + bt s (i : Int) % 128 * 128 ^ i

theorem p128_pos (i : Nat) : (0 : Int) < 128 ^ i := Int.pow_pos (by decide)

theorem val_range (s : ByteArray) (i : Nat) : 0 ≤ val s i ∧ val s i < 128 ^ i := by
  induction i with
  | zero => simp [val]
  | succ i ih =>
    have hp := p128_pos i
    have h1 : 0 ≤ bt s (i : Int) % 128 := by omega
    have h2 : bt s (i : Int) % 128 ≤ 127 := by omega
    have h3 : 0 ≤ bt s (i : Int) % 128 * 128 ^ i := Int.mul_nonneg h1 (Int.le_of_lt hp)
    have h4 : bt s (i : Int) % 128 * 128 ^ i ≤ 127 * 128 ^ i := Int.mul_le_mul_of_nonneg_right h2 (Int.le_of_lt hp)
    simp only [val, Int.pow_succ]
    omega

/-- How many short bytes a text begins with, from a place on; or the error's number. -/
def ends (s : ByteArray) (i : Nat) : Int × Int :=
  if _h : i < s.size ∧ i < 10 then
    if bt s (i : Int) < 128 then (if (0 < i ∧ bt s (i : Int) = 0) ∨ (i = 9 ∧ 1 < bt s (i : Int)) then (0, 5) else (((i + 1 : Nat) : Int), 0)) else ends s (i + 1)
  else if s.size < 10 then (0, 4) else (0, 5)
termination_by 10 - i
decreasing_by omega

theorem ends_more {s : ByteArray} {i : Nat} (h : i < s.size ∧ i < 10) (hc : ¬ bt s (i : Int) < 128) : ends s i = ends s (i + 1) := by rw [ends, dif_pos h, if_neg hc]
theorem ends_last {s : ByteArray} {i : Nat} (h : i < s.size ∧ i < 10) (hc : bt s (i : Int) < 128) : ends s i = if (0 < i ∧ bt s (i : Int) = 0) ∨ (i = 9 ∧ 1 < bt s (i : Int)) then (0, 5) else (((i + 1 : Nat) : Int), 0) := by rw [ends, dif_pos h, if_pos hc]

/-- The number that a text begins with, how many bytes; or the error's number. -/
def longS (s : ByteArray) : Int × Int × Int := if (ends s 0).2 = 0 then (val s (ends s 0).1.toNat, (ends s 0).1, 0) else (0, 0, (ends s 0).2)

/-- A number's turned one. -/
def zigS (n : Int) : Int := if 0 ≤ n then 2 * n else -2 * n - 1
/-- The number of a turned one. -/
def zagS (u : Int) : Int := if u % 2 = 0 then u / 2 else -1 - u / 2

theorem xor_u64 (x y : Int) : Go.bits .xor .u64 x y = ((BitVec.ofInt 64 x ^^^ BitVec.ofInt 64 y).toNat : Int) % 18446744073709551616 := u64_eq _
theorem xor_u64_zero (x : Int) (h0 : 0 ≤ x) (h1 : x < 18446744073709551616) : Go.bits .xor .u64 x 0 = x := by
  rw [xor_u64, show (BitVec.ofInt 64 0) = 0#64 by rfl, BitVec.xor_zero, BitVec.toNat_ofInt]
  omega

theorem xor_u64_ones (x : Int) (h0 : 0 ≤ x) (h1 : x < 18446744073709551616) : Go.bits .xor .u64 x 18446744073709551615 = 18446744073709551615 - x := by
  rw [xor_u64, show (BitVec.ofInt 64 18446744073709551615) = BitVec.allOnes 64 by decide, BitVec.xor_allOnes, BitVec.toNat_not, BitVec.toNat_ofInt]
  omega

theorem word_Zig_eq (k : Nat) (n : Int) (h0 : -9223372036854775808 ≤ n) (h1 : n ≤ 9223372036854775807) : word_Zig k n = some (zigS n) := by
  unfold word_Zig zigS
  have e1 : Go.Proofs.YtgefikclhfjcgaaGreatDoorEv.shr .i64 n 63 = n / 9223372036854775808 := by unfold Go.Proofs.YtgefikclhfjcgaaGreatDoorEv.shr; rfl
  have e2 : Go.Proofs.YtgefikclhfjcgaaGreatDoorEv.shl .u64 (IntKind.u64.wrap n) 1 = n * 2 % 18446744073709551616 := by
    unfold Go.Proofs.YtgefikclhfjcgaaGreatDoorEv.shl
    rw [u64_eq, u64_eq, show (2 : Int) ^ min (1 : Int).toNat (IntKind.bits .u64) = 2 by decide]
    omega
  rw [e1, e2]
  simp only [u64_eq]
  by_cases h : 0 ≤ n
  · rw [if_pos h, show n / 9223372036854775808 % 18446744073709551616 = 0 by omega, xor_u64_zero _ (by omega) (by omega)]
    congr 1
    omega
  · rw [if_neg h, show n / 9223372036854775808 % 18446744073709551616 = 18446744073709551615 by omega, xor_u64_ones _ (by omega) (by omega)]
    congr 1
    omega
theorem zigS_range (n : Int) (h0 : -9223372036854775808 ≤ n) (h1 : n ≤ 9223372036854775807) : 0 ≤ zigS n ∧ zigS n ≤ 18446744073709551615 := by unfold zigS; split <;> omega
theorem zag_zig (n : Int) : zagS (zigS n) = n := by unfold zagS zigS; split <;> split <;> omega
/-- The short bytes of a number. -/
def sb (n : Nat) : List Int := if n < 128 then [(n : Int)] else (((n % 128 + 128 : Nat) : Int)) :: sb (n / 128)
termination_by n
decreasing_by omega

theorem sb_small {n : Nat} (h : n < 128) : sb n = [(n : Int)] := by rw [sb, if_pos h]
theorem sb_big {n : Nat} (h : ¬ n < 128) : sb n = (((n % 128 + 128 : Nat) : Int)) :: sb (n / 128) := by rw [sb, if_neg h]

theorem sb_len (m : Nat) : ∀ n, n < 128 ^ (m + 1) → (sb n).length ≤ m + 1 := by
  induction m with
  | zero => intro n h; rw [sb_small (by simpa using h)]; simp
  | succ m ih =>
    intro n h
    by_cases h1 : n < 128
    · rw [sb_small h1]; simp
    · rw [sb_big h1]
      have : n / 128 < 128 ^ (m + 1) := by
        rw [Nat.div_lt_iff_lt_mul (by decide)]
        rw [Nat.pow_succ] at h
        exact h
      have := ih _ this
      simp only [List.length_cons]
      omega

theorem sb_len10 {n : Nat} (h : n < 18446744073709551616) : (sb n).length ≤ 10 := sb_len 9 n (Nat.lt_of_lt_of_le h (by decide))
theorem sb_pos (n : Nat) : 0 < (sb n).length := by
  by_cases h : n < 128
  · rw [sb_small h]; simp
  · rw [sb_big h]; simp

theorem or128_fin : ∀ a : Fin 256, (a.val ||| 128) = a.val % 128 + 128 := by decide +kernel

theorem or128 (x : Int) (h : 0 ≤ x) : Go.bits .or .u8 (x % 256) 128 = x % 128 + 128 := by
  obtain ⟨n, rfl⟩ := Int.eq_ofNat_of_zero_le h
  have e : ((n : Int) % 256) = ((n % 256 : Nat) : Int) := by omega
  have := (Go.bits_nat .u8 8 (by decide) Go.wraps_u8 (n % 256) 128 (by omega) (by decide)).2
  rw [e]
  refine this.trans ?_
  have h2 := or128_fin ⟨n % 256, by omega⟩
  simp only at h2
  rw [h2]
  omega

theorem u8w (n : Int) : IntKind.u8.wrap n = n % 256 := by simp [IntKind.wrap, IntKind.bits, IntKind.signed]
theorem u64s7 (n : Int) : Go.Proofs.YtgefikclhfjcgaaGreatDoorEv.shr .u64 n 7 = n / 128 := by unfold Go.Proofs.YtgefikclhfjcgaaGreatDoorEv.shr; rfl
theorem short_l1 (l : List Int) (len i : Int) (r : ByteArray) (n : Nat) : ∀ acc : List Int, acc.length + (sb n).length ≤ 140737488355328 →
    Ev (fun k => word_Short.l0 k (acc ++ sb n) l len (IntKind.i64.wrap (i + 1))) r → Ev (fun k => word_Short.l1 k acc (n : Int) l len i) r := by
  induction n using Nat.strongRecOn with
  | _ n ih =>
    intro acc hb hk
    by_cases h : n < 128
    · rw [sb_small h] at hb hk
      simp only [List.length_cons, List.length_nil] at hb
      refine Ev.step (f := fun k => word_Short.l0 k (acc ++ [(n : Int)]) l len (IntKind.i64.wrap (i + 1))) (fun k => ?_) hk
      simp only [word_Short.l1]
      rw [if_neg (by omega), if_pos (by omega), u8w _, show ((n : Int) % 256) = n by omega]
    · rw [sb_big h] at hb hk
      simp only [List.length_cons] at hb
      refine Ev.step (f := fun k => word_Short.l1 k (acc ++ [((n % 128 + 128 : Nat) : Int)]) ((n / 128 : Nat) : Int) l len i) (fun k => ?_) (ih (n / 128) (by omega) _ (by simp only [List.length_append, List.length_cons, List.length_nil]; omega) ?_)
      · simp only [word_Short.l1]
        rw [if_pos (by omega), if_pos (by omega), u8w _, or128 _ (by omega), u64s7, show ((n : Int) % 128 + 128) = ((n % 128 + 128 : Nat) : Int) by omega, show ((n : Int) / 128) = ((n / 128 : Nat) : Int) by omega]
      · rw [List.append_assoc]; exact hk

/-- The short bytes of several. -/
def sbs (l : List Int) : List Int := l.flatMap fun x => sb x.toNat

theorem sbs_cons (x : Int) (l : List Int) : sbs (x :: l) = sb x.toNat ++ sbs l := by simp [sbs]
theorem rd_at (l : List Int) (i : Nat) (h : i < l.length) : r_u64 l (i : Int) = l[i] := by
  simp [r_u64, rd, h]

theorem short_l0 (l : List Int) (hl : l.length ≤ 1000000000000) (hr : ∀ x ∈ l, 0 ≤ x ∧ x < 18446744073709551616) (d : Nat) : ∀ (i : Nat) (acc : List Int), l.length = i + d → acc.length ≤ 10 * i →
    Ev (fun k => word_Short.l0 k acc l (l.length : Int) (i : Int)) (strOfNums (acc ++ sbs (l.drop i))) := by
  induction d with
  | zero =>
    intro i acc hi ha
    refine Ev.step (f := fun _ => some (strOfNums acc)) (fun k => ?_) ?_
    · simp only [word_Short.l0]
      rw [if_neg (by omega)]
      rfl
    · rw [show l.drop i = [] from List.drop_eq_nil_of_le (by omega)]
      simpa [sbs] using Ev.now (strOfNums acc)
  | succ d ih =>
    intro i acc hi ha
    have hlt : i < l.length := by omega
    have hx := hr l[i] (List.getElem_mem hlt)
    have h10 := sb_len10 (n := l[i].toNat) (by omega)
    refine Ev.step (f := fun k => word_Short.l1 k acc ((l[i].toNat : Nat) : Int) l (l.length : Int) (i : Int)) (fun k => ?_) ?_
    · simp only [word_Short.l0]
      rw [if_pos (by omega), if_pos (by omega), if_pos (by omega), rd_at l i hlt, show ((l[i].toNat : Nat) : Int) = l[i] by omega]
    · refine short_l1 l _ _ _ _ _ (by omega) ?_
      have := ih (i + 1) (acc ++ sb l[i].toNat) (by omega) (by simp only [List.length_append]; omega)
      rw [show l.drop i = l[i] :: l.drop (i + 1) from List.drop_eq_getElem_cons hlt, sbs_cons, ← List.append_assoc]
      rw [show IntKind.i64.wrap ((i : Int) + 1) = ((i + 1 : Nat) : Int) by rw [i64_eq]; unfold wrap64; omega]
      exact this

theorem word_Short_ev (l : List Int) (hl : l.length ≤ 1000000000000) (hr : ∀ x ∈ l, 0 ≤ x ∧ x < 18446744073709551616) :
    Ev (fun k => word_Short k l) (strOfNums (sbs l)) := by
  have := short_l0 l hl hr l.length 0 [] (by omega) (by simp)
  simpa [word_Short] using this


/-- A number's lowest bits, signed. -/
def lowS (n : Int) (b : Nat) : Int := (n + 2 ^ (b - 1)) % 2 ^ b - 2 ^ (b - 1)

theorem p2_pos (b : Nat) : (0 : Int) < 2 ^ b := Int.pow_pos (by decide)
theorem p2_half (b : Nat) (h : 1 ≤ b) : (2 : Int) ^ b = 2 * 2 ^ (b - 1) := by
  obtain ⟨m, rfl⟩ : ∃ m, b = m + 1 := ⟨b - 1, by omega⟩
  simp only [Nat.add_sub_cancel, Int.pow_succ]
  omega
theorem lowS_range (n : Int) (b : Nat) (h : 1 ≤ b) : -2 ^ (b - 1) ≤ lowS n b ∧ lowS n b < 2 ^ (b - 1) := by
  have hp := p2_pos b
  have h1 := Int.emod_nonneg (n + 2 ^ (b - 1)) (Int.ne_of_gt hp)
  have h2 := Int.emod_lt_of_pos (n + 2 ^ (b - 1)) hp
  have h3 := p2_half b h
  unfold lowS
  omega
theorem lowS_of (n r q : Int) (b : Nat) (h : 1 ≤ b) (e : n = r + 2 ^ b * q) (h0 : -2 ^ (b - 1) ≤ r) (h1 : r < 2 ^ (b - 1)) : lowS n b = r := by
  have h3 := p2_half b h
  unfold lowS
  rw [e, show r + 2 ^ b * q + 2 ^ (b - 1) = (r + 2 ^ (b - 1)) + 2 ^ b * q by omega, Int.add_mul_emod_self_left, Int.emod_eq_of_lt (by omega) (by omega)]
  omega
theorem lowS_id (n : Int) (b : Nat) (h : 1 ≤ b) (h0 : -2 ^ (b - 1) ≤ n) (h1 : n < 2 ^ (b - 1)) : lowS n b = n := lowS_of n n 0 b h (by omega) h0 h1
theorem lowS_iff (n : Int) (b : Nat) (h : 1 ≤ b) : lowS n b = n ↔ -2 ^ (b - 1) ≤ n ∧ n < 2 ^ (b - 1) :=
  ⟨fun e => by have := lowS_range n b h; rw [e] at this; exact this, fun h2 => lowS_id n b h h2.1 h2.2⟩

theorem word_Low_eq (k : Nat) (n : Int) (b : Nat) (h1 : 1 ≤ b) (h2 : b ≤ 64) : word_Low k n (b : Int) = some (lowS n b) := by
  unfold word_Low
  have hw : wrap64 (64 - (b : Int)) = ((64 - b : Nat) : Int) := by unfold wrap64; omega
  rw [if_neg (by omega), if_neg (by omega), i64_eq (64 - (b : Int)), hw, if_neg (by omega), if_neg (by omega)]
  congr 1
  have hm : min (((64 - b : Nat) : Int)).toNat (IntKind.bits .i64) = 64 - b := by simp [IntKind.bits]
  unfold shr shl
  rw [hm, i64_eq]
  unfold wrap64 lowS
  have hu := p2_pos (64 - b)
  have e63 : (9223372036854775808 : Int) = 2 ^ (b - 1) * 2 ^ (64 - b) := by
    rw [← Int.pow_add, show b - 1 + (64 - b) = 63 by omega]; decide
  have e64 : (18446744073709551616 : Int) = 2 ^ b * 2 ^ (64 - b) := by
    rw [← Int.pow_add, show b + (64 - b) = 64 by omega]; decide
  rw [e63, e64, ← Int.add_mul, Int.mul_comm _ (2 ^ (64 - b)), Int.mul_comm (2 ^ b) (2 ^ (64 - b)), Int.mul_emod_mul_of_pos _ _ hu, Int.mul_comm (2 ^ (b - 1)) (2 ^ (64 - b)), ← Int.mul_sub]
  exact Int.mul_ediv_cancel_left _ (Int.ne_of_gt hu)

theorem word_Fits_eq (k : Nat) (n : Int) (b : Nat) (h1 : 1 ≤ b) (h2 : b ≤ 64) : word_Fits k n (b : Int) = some (lowS n b == n) := by
  unfold word_Fits
  rw [if_neg (by omega), if_neg (by omega), word_Low_eq k n b h1 h2]
  simp [beq_dec]

/-- Is a number a sign? -/
def isB (n : Int) : Bool := decide (0 ≤ n ∧ n ≤ 1114111 ∧ (n < 55296 ∨ 57343 < n))
theorem isB_iff (n : Int) : isB n = true ↔ 0 ≤ n ∧ n ≤ 1114111 ∧ (n < 55296 ∨ 57343 < n) := by simp [isB]
/-- A sign of so many bytes, if it is none of fewer. -/
def finU (n lo size : Int) : Int × Int × Bool := if isB n = true ∧ lo ≤ n then (n, size, true) else (0, 0, false)
/-- The sign that bytes begin with, and how many bytes it has. -/
def sgn : List Int → Int × Int × Bool
  | [] => (0, 0, false)
  | c :: r =>
    if c < 128 then (c, 1, true)
    else if c / 32 = 6 then (match r with | b1 :: _ => if b1 / 64 = 2 then finU ((c - 192) * 64 + (b1 - 128)) 128 2 else (0, 0, false) | [] => (0, 0, false))
    else if c / 16 = 14 then (match r with | b1 :: b2 :: _ => if b1 / 64 = 2 then (if b2 / 64 = 2 then finU (((c - 224) * 64 + (b1 - 128)) * 64 + (b2 - 128)) 2048 3 else (0, 0, false)) else (0, 0, false) | _ => (0, 0, false))
    else if c / 8 = 30 then (match r with | b1 :: b2 :: b3 :: _ => if b1 / 64 = 2 then (if b2 / 64 = 2 then (if b3 / 64 = 2 then finU ((((c - 240) * 64 + (b1 - 128)) * 64 + (b2 - 128)) * 64 + (b3 - 128)) 65536 4 else (0, 0, false)) else (0, 0, false)) else (0, 0, false) | _ => (0, 0, false))
    else (0, 0, false)
theorem byt_at {s : ByteArray} {l : List Int} (h : byt s = l) (i : Nat) (x : Int) (hx : l[i]? = some x) : bt s (i : Int) = x := by
  subst h
  obtain ⟨h1, h2⟩ := List.getElem?_eq_some_iff.1 hx
  rw [bt_byt s i (by rw [byt_len] at h1; exact h1)]
  exact h2
theorem uis_eq (k : Nat) (n : Int) : utf_is k n = some (isB n) := by
  unfold utf_is isB
  simp only [ge_iff_le, gt_iff_lt]
  by_cases h1 : 0 ≤ n <;> by_cases h2 : n ≤ 1114111 <;> by_cases h3 : n < 55296 <;> simp [h1, h2, h3]
/-- How many bytes a sign has. -/
def widU (n : Int) : Int := if 65536 ≤ n then 4 else if 2048 ≤ n then 3 else if 128 ≤ n then 2 else 1
theorem uwidth_ev (n : Int) : Ev (fun k => utf_width k n) (widU n) := by
  refine Ev.flat0 6 (fun m => ?_)
  unfold widU
  simp only [utf_width, utf_width.l0]
  have e3 : IntKind.i64.wrap (4 - 1) = 3 := by decide +kernel
  have e2 : IntKind.i64.wrap (3 - 1) = 2 := by decide +kernel
  have e1 : IntKind.i64.wrap (2 - 1) = 1 := by decide +kernel
  rw [e3, e2, e1]
  have r4 : r_i64 G1 4 = 65536 := by decide
  have r3 : r_i64 G1 3 = 2048 := by decide
  have r2 : r_i64 G1 2 = 128 := by decide
  have gl : (G1.length : Int) = 5 := by decide
  rw [r4, r3, r2, gl]
  by_cases h1 : 65536 ≤ n
  · simp [h1]
  · by_cases h2 : 2048 ≤ n
    · simp [h1, h2]
    · by_cases h3 : 128 ≤ n
      · simp [h1, h2, h3]
      · simp [h1, h2, h3]
theorem u8m (c : Int) (h0 : 0 ≤ c) (h1 : c ≤ 255) : Go.bits .and .u8 c 31 = c % 32 ∧ Go.bits .and .u8 c 15 = c % 16 ∧ Go.bits .and .u8 c 7 = c % 8 ∧ Go.bits .and .u8 c 63 = c % 64 := by
  have m := fun i hi => Go.bits_mask .u8 8 (by decide) Go.wraps_u8 i hi c h0 (by omega)
  exact ⟨m 5 (by decide), m 4 (by decide), m 3 (by decide), m 6 (by decide)⟩
theorem ulead_eq (k : Nat) (c : Int) (h0 : 0 ≤ c) (h1 : c ≤ 255) : utf_lead k c = some (if c < 128 then (1, c) else if c / 32 = 6 then (2, c - 192) else if c / 16 = 14 then (3, c - 224) else if c / 8 = 30 then (4, c - 240) else (0, 0)) := by
  unfold utf_lead
  obtain ⟨m1, m2, m3, _⟩ := u8m c h0 h1
  have s5 : Go.Proofs.YtgefikclhfjcgaaGreatDoorEv.shr .u8 c 5 = c / 32 := by unfold Go.Proofs.YtgefikclhfjcgaaGreatDoorEv.shr; rfl
  have s4 : Go.Proofs.YtgefikclhfjcgaaGreatDoorEv.shr .u8 c 4 = c / 16 := by unfold Go.Proofs.YtgefikclhfjcgaaGreatDoorEv.shr; rfl
  have s3 : Go.Proofs.YtgefikclhfjcgaaGreatDoorEv.shr .u8 c 3 = c / 8 := by unfold Go.Proofs.YtgefikclhfjcgaaGreatDoorEv.shr; rfl
  rw [m1, m2, m3, s5, s4, s3, i64w c (by omega) (by omega), i64w (c % 32) (by omega) (by omega), i64w (c % 16) (by omega) (by omega), i64w (c % 8) (by omega) (by omega)]
  split
  · rfl
  · split
    · rw [show c % 32 = c - 192 by omega]
    · split
      · rw [show c % 16 = c - 224 by omega]
      · split
        · rw [show c % 8 = c - 240 by omega]
        · rfl
theorem wraps_i64p (n : Int) (h0 : 0 ≤ n) (h1 : n < 2 ^ 63) : IntKind.i64.wrap n = n := by rw [Go.IntKind.wrap_i64]; omega
theorem uacc (n b : Int) (hn : 0 ≤ n) (hn1 : n < 10000000) (hb : b / 64 = 2) : Go.bits .or .i64 (Go.Proofs.YtgefikclhfjcgaaGreatDoorEv.shl .i64 n 6) (IntKind.i64.wrap (Go.bits .and .u8 b 63)) = n * 64 + (b - 128) := by
  have e : Go.Proofs.YtgefikclhfjcgaaGreatDoorEv.shl .i64 n 6 = n * 64 := by
    unfold Go.Proofs.YtgefikclhfjcgaaGreatDoorEv.shl
    rw [show (2 : Int) ^ min (6 : Int).toNat (IntKind.bits .i64) = 64 by decide, i64w _ (by omega) (by omega)]
  rw [e, (u8m b (by omega) (by omega)).2.2.2, i64w (b % 64) (by omega) (by omega), show b % 64 = b - 128 by omega]
  exact Go.bits_join .i64 63 (by decide) wraps_i64p 6 (n * 64) (b - 128) (by omega) (by omega) (by omega) (by omega) (by omega) (by omega)
theorem u8s6 (b : Int) : Go.Proofs.YtgefikclhfjcgaaGreatDoorEv.shr .u8 b 6 = b / 64 := by unfold Go.Proofs.YtgefikclhfjcgaaGreatDoorEv.shr; rfl
theorem ul0_end (s : ByteArray) (n size i : Int) (h : ¬ i < size) : Ev (fun k => utf_Read.l0 k s n size i) (if isB n = true then (if widU n = size then (n, size, true) else (0, 0, false)) else (0, 0, false)) := by
  refine Ev.step (f := fun k => if isB n = true then ((utf_width k n).bind fun t => if t = size then some (n, size, true) else some (0, 0, false)) else some (0, 0, false)) (fun k => ?_) ?_
  · simp only [utf_Read.l0]
    rw [if_neg h, uis_eq, Option.bind_some]
  · by_cases h1 : isB n = true
    · rw [if_pos h1]
      refine Ev.congr (fun k => by rw [if_pos h1]) (Ev.bind (uwidth_ev n) ?_)
      split
      · exact Ev.now _
      · exact Ev.now _
    · rw [if_neg h1]
      exact Ev.congr (f := fun _ => some (0, 0, false)) (fun k => by rw [if_neg h1]) (Ev.now _)
theorem ul0_step (s : ByteArray) (n size : Int) (i : Nat) (b : Int) (r : Int × Int × Bool) (h : (i : Int) < size) (hi : i < s.size) (hs : s.size ≤ 9223372036854775807) (hb : bt s (i : Int) = b) (hn : 0 ≤ n) (hn1 : n < 10000000)
    (hk : b / 64 = 2 → Ev (fun k => utf_Read.l0 k s (n * 64 + (b - 128)) size ((i + 1 : Nat) : Int)) r) (hx : ¬ b / 64 = 2 → r = (0, 0, false)) : Ev (fun k => utf_Read.l0 k s n size (i : Int)) r := by
  by_cases h2 : b / 64 = 2
  · refine Ev.step (fun k => ?_) (hk h2)
    simp only [utf_Read.l0]
    rw [if_pos h, if_pos (by omega), if_pos (by omega), hb, u8s6, if_pos h2, if_pos (by omega), if_pos (by omega), uacc n b hn hn1 h2, i64w_succ _ (by omega)]
  · rw [hx h2]
    refine Ev.step (f := fun _ => some (0, 0, false)) (fun k => ?_) (Ev.now _)
    simp only [utf_Read.l0]
    rw [if_pos h, if_pos (by omega), if_pos (by omega), hb, u8s6, if_neg h2]
theorem finU_wid (n lo hi size : Int) (h : n < hi) (hw : ∀ n, 0 ≤ n → n < hi → (widU n = size ↔ lo ≤ n)) : (if isB n = true then (if widU n = size then (n, size, true) else ((0 : Int), (0 : Int), false)) else (0, 0, false)) = finU n lo size := by
  unfold finU
  by_cases h1 : isB n = true
  · rw [if_pos h1]
    have h0 := ((isB_iff n).1 h1).1
    by_cases h2 : lo ≤ n
    · rw [if_pos ((hw n h0 h).2 h2), if_pos ⟨h1, h2⟩]
    · rw [if_neg (fun e => h2 ((hw n h0 h).1 e)), if_neg (fun e => h2 e.2)]
  · rw [if_neg h1, if_neg (fun e => h1 e.1)]
theorem uread_ev (s : ByteArray) (hs : s.size ≤ 9223372036854775807) : Ev (fun k => utf_Read k s) (sgn (byt s)) := by
  have hlen := byt_len s
  have hby := byt_bytes s
  unfold utf_Read
  generalize hl : byt s = l at hlen hby
  cases l with
  | nil =>
    exact Ev.congr (f := fun _ => some (0, 0, false)) (fun k => by rw [if_pos ((ba_nil0 s).2 (by rw [← hlen]; rfl))]) (Ev.now _)
  | cons c r =>
    have hz : s.size = r.length + 1 := by rw [← hlen]; rfl
    have hc := hby c (by simp)
    have e0 : bt s 0 = c := byt_at hl 0 c rfl
    refine Ev.congr (fun k => by rw [if_neg (fun e => by have := (ba_nil0 s).1 e; omega), if_pos (by omega), e0, ulead_eq k c hc.1 hc.2, Option.bind_some]) ?_
    have hbad : ∀ n size : Int, size ≠ 0 → (size : Int) > (s.size : Int) → Ev (fun k => if (size, n).1 = 0 then some ((0 : Int), (0 : Int), false) else if (size, n).1 > (s.size : Int) then some (0, 0, false) else utf_Read.l0 k s (size, n).2 (size, n).1 1) (0, 0, false) := fun n size hz h =>
      Ev.no hz (Ev.yes h (Ev.now _))
    have hgo : ∀ (n size : Int) (r), size ≠ 0 → ¬ (size : Int) > (s.size : Int) → Ev (fun k => utf_Read.l0 k s n size ((1 : Nat) : Int)) r → Ev (fun k => if (size, n).1 = 0 then some ((0 : Int), (0 : Int), false) else if (size, n).1 > (s.size : Int) then some (0, 0, false) else utf_Read.l0 k s (size, n).2 (size, n).1 1) r := fun n size r hz h hk =>
      Ev.no hz (Ev.no h hk)
    simp only [sgn]
    by_cases h1 : c < 128
    · simp only [if_pos h1]
      refine (hgo _ _ _ (by decide) (by omega) ?_)
      refine Ev.eq (ul0_end s c 1 ((1 : Nat) : Int) (by omega)) ?_
      rw [if_pos ((isB_iff c).2 (by omega)), if_pos (by unfold widU; rw [if_neg (by omega), if_neg (by omega), if_neg (by omega)])]
    · simp only [if_neg h1]
      by_cases h2 : c / 32 = 6
      · simp only [if_pos h2]
        cases r with
        | nil => exact hbad _ _ (by decide) (by simp at hz; omega)
        | cons b1 r =>
          simp only [List.length_cons] at hz
          dsimp only
          have q1 := hby b1 (by simp)
          refine hgo _ _ _ (by decide) (by omega) (ul0_step s _ _ 1 b1 _ (by omega) (by omega) hs (byt_at hl 1 b1 rfl) (by omega) (by omega) (fun e1 => ?_) (fun e1 => if_neg e1))
          rw [if_pos e1]
          exact Ev.eq (ul0_end s _ 2 ((2 : Nat) : Int) (by omega)) (finU_wid _ 128 2048 2 (by omega) (fun n _ _ => by unfold widU; split <;> (try split) <;> (try split) <;> omega))
      · simp only [if_neg h2]
        by_cases h3 : c / 16 = 14
        · simp only [if_pos h3]
          cases r with
          | nil => exact hbad _ _ (by decide) (by simp at hz; omega)
          | cons b1 r =>
            cases r with
            | nil => exact hbad _ _ (by decide) (by simp at hz; omega)
            | cons b2 r =>
              simp only [List.length_cons] at hz
              dsimp only
              have q1 := hby b1 (by simp)
              have q2 := hby b2 (by simp)
              refine hgo _ _ _ (by decide) (by omega) (ul0_step s _ _ 1 b1 _ (by omega) (by omega) hs (byt_at hl 1 b1 rfl) (by omega) (by omega) (fun e1 => ?_) (fun e1 => if_neg e1))
              rw [if_pos e1]
              refine ul0_step s _ _ 2 b2 _ (by omega) (by omega) hs (byt_at hl 2 b2 rfl) (by omega) (by omega) (fun e2 => ?_) (fun e2 => if_neg e2)
              rw [if_pos e2]
              exact Ev.eq (ul0_end s _ 3 ((3 : Nat) : Int) (by omega)) (finU_wid _ 2048 65536 3 (by omega) (fun n _ _ => by unfold widU; split <;> (try split) <;> (try split) <;> omega))
        · simp only [if_neg h3]
          by_cases h4 : c / 8 = 30
          · simp only [if_pos h4]
            cases r with
            | nil => exact hbad _ _ (by decide) (by simp at hz; omega)
            | cons b1 r =>
              cases r with
              | nil => exact hbad _ _ (by decide) (by simp at hz; omega)
              | cons b2 r =>
                cases r with
                | nil => exact hbad _ _ (by decide) (by simp at hz; omega)
                | cons b3 r =>
                  simp only [List.length_cons] at hz
                  dsimp only
                  have q1 := hby b1 (by simp)
                  have q2 := hby b2 (by simp)
                  have q3 := hby b3 (by simp)
                  refine hgo _ _ _ (by decide) (by omega) (ul0_step s _ _ 1 b1 _ (by omega) (by omega) hs (byt_at hl 1 b1 rfl) (by omega) (by omega) (fun e1 => ?_) (fun e1 => if_neg e1))
                  rw [if_pos e1]
                  refine ul0_step s _ _ 2 b2 _ (by omega) (by omega) hs (byt_at hl 2 b2 rfl) (by omega) (by omega) (fun e2 => ?_) (fun e2 => if_neg e2)
                  rw [if_pos e2]
                  refine ul0_step s _ _ 3 b3 _ (by omega) (by omega) hs (byt_at hl 3 b3 rfl) (by omega) (by omega) (fun e3 => ?_) (fun e3 => if_neg e3)
                  rw [if_pos e3]
                  exact Ev.eq (ul0_end s _ 4 ((4 : Nat) : Int) (by omega)) (finU_wid _ 65536 100000000 4 (by omega) (fun n _ _ => by unfold widU; split <;> (try split) <;> (try split) <;> omega))
          · simp only [if_neg h4]
            exact Ev.yes trivial (Ev.now _)
theorem sgn_ok (l : List Int) : (sgn l).2.2 = true → 1 ≤ (sgn l).2.1 ∧ (sgn l).2.1 ≤ (l.length : Int) := by
  have hf : ∀ n lo size len : Int, 1 ≤ size → size ≤ len → (finU n lo size).2.2 = true → 1 ≤ (finU n lo size).2.1 ∧ (finU n lo size).2.1 ≤ len := fun n lo size len h1 h2 h => by
    unfold finU at h ⊢
    by_cases e : isB n = true ∧ lo ≤ n
    · rw [if_pos e]
      exact ⟨h1, h2⟩
    · rw [if_neg e] at h
      cases h
  have hb : ∀ len : Int, ((0 : Int), (0 : Int), false).2.2 = true → 1 ≤ ((0 : Int), (0 : Int), false).2.1 ∧ ((0 : Int), (0 : Int), false).2.1 ≤ len := fun _ h => by cases h
  cases l with
  | nil => exact hb _
  | cons c r =>
    simp only [sgn]
    by_cases h1 : c < 128
    · simp only [if_pos h1, List.length_cons]
      intro _
      omega
    · simp only [if_neg h1]
      by_cases h2 : c / 32 = 6
      · simp only [if_pos h2]
        cases r with
        | nil => exact hb _
        | cons b1 r =>
          dsimp only
          by_cases e1 : b1 / 64 = 2
          · rw [if_pos e1]
            exact hf _ _ _ _ (by omega) (by simp only [List.length_cons]; omega)
          · rw [if_neg e1]
            exact hb _
      · simp only [if_neg h2]
        by_cases h3 : c / 16 = 14
        · simp only [if_pos h3]
          cases r with
          | nil => exact hb _
          | cons b1 r =>
            cases r with
            | nil => exact hb _
            | cons b2 r =>
              dsimp only
              by_cases e1 : b1 / 64 = 2
              · rw [if_pos e1]
                by_cases e2 : b2 / 64 = 2
                · rw [if_pos e2]
                  exact hf _ _ _ _ (by omega) (by simp only [List.length_cons]; omega)
                · rw [if_neg e2]
                  exact hb _
              · rw [if_neg e1]
                exact hb _
        · simp only [if_neg h3]
          by_cases h4 : c / 8 = 30
          · simp only [if_pos h4]
            cases r with
            | nil => exact hb _
            | cons b1 r =>
              cases r with
              | nil => exact hb _
              | cons b2 r =>
                cases r with
                | nil => exact hb _
                | cons b3 r =>
                  dsimp only
                  by_cases e1 : b1 / 64 = 2
                  · rw [if_pos e1]
                    by_cases e2 : b2 / 64 = 2
                    · rw [if_pos e2]
                      by_cases e3 : b3 / 64 = 2
                      · rw [if_pos e3]
                        exact hf _ _ _ _ (by omega) (by simp only [List.length_cons]; omega)
                      · rw [if_neg e3]
                        exact hb _
                    · rw [if_neg e2]
                      exact hb _
                  · rw [if_neg e1]
                    exact hb _
          · simp only [if_neg h4]
            exact hb _
/-- Is a text right? (with so many rounds) -/
def utfD : Nat → List Int → Bool
  | 0, l => l.isEmpty
  | d + 1, l => if l = [] then true else if (sgn l).2.2 = true then utfD d (l.drop (sgn l).2.1.toNat) else false
def utfB (s : ByteArray) : Bool := utfD s.size (byt s)
/-- How many signs, from so many on. -/
def utfN : Nat → List Int → Int → Bool × Int
  | 0, l, n => (l.isEmpty, n)
  | d + 1, l, n => if l = [] then (true, n) else if (sgn l).2.2 = true then utfN d (l.drop (sgn l).2.1.toNat) (n + 1) else (false, n)
theorem utfN_fst (d : Nat) : ∀ l n, (utfN d l n).1 = utfD d l := by
  induction d with
  | zero => intro l n; rfl
  | succ d ih =>
    intro l n
    simp only [utfN, utfD]
    split
    · rfl
    · split
      · exact ih _ _
      · rfl
theorem utfN_snd (d : Nat) : ∀ l (n : Int), n ≤ (utfN d l n).2 := by
  induction d with
  | zero => intro l n; exact Int.le_refl _
  | succ d ih =>
    intro l n
    simp only [utfN]
    split
    · exact Int.le_refl _
    · split
      · have := ih (l.drop (sgn l).2.1.toNat) (n + 1)
        omega
      · exact Int.le_refl _
theorem uwalk_l0 (s : ByteArray) (hs : s.size ≤ 1000000000) (d : Nat) : ∀ (i : Nat) (n : Int), s.size - i ≤ d → i ≤ s.size → 0 ≤ n → n + (s.size - i : Nat) ≤ 2000000000 →
    Ev (fun k => utf_walk.l0 k s (i : Int) n) (utfN d ((byt s).drop i) n) := by
  induction d with
  | zero =>
    intro i n hd hi h0 hn
    refine Ev.step (f := fun _ => some (true, n)) (fun k => by simp only [utf_walk.l0]; rw [if_neg (by omega)]) ?_
    have e : (byt s).drop i = [] := List.drop_eq_nil_of_le (by rw [byt_len]; omega)
    rw [e]
    exact Ev.now _
  | succ d ih =>
    intro i n hd hi h0 hn
    by_cases h : i < s.size
    · have hne : ¬ (byt s).drop i = [] := fun e => by
        have := List.drop_eq_nil_iff.1 e
        rw [byt_len] at this
        omega
      have hcut := byt_cut s i
      have hlen : ((byt s).drop i).length = s.size - i := by rw [List.length_drop, byt_len]
      have hok := sgn_ok ((byt s).drop i)
      refine Ev.step (f := fun k => (utf_Read k (s.extract i s.size)).bind fun bt => if bt.2.2 = true then ((utf_Count_1 k (i : Int) bt.1 n).bind fun t => utf_walk.l0 k s (IntKind.i64.wrap ((i : Int) + bt.2.1)) t.2) else some (false, n)) (fun k => ?_) ?_
      · simp only [utf_walk.l0]
        rw [if_pos (by omega), if_pos (by omega), if_pos (by omega), show ((i : Int)).toNat = i by omega, show ((s.size : Int)).toNat = s.size by omega]
      · refine Ev.bind (uread_ev _ (by rw [ByteArray.size_extract]; omega)) ?_
        rw [hcut]
        simp only [utfN]
        rw [if_neg hne]
        by_cases h1 : (sgn ((byt s).drop i)).2.2 = true
        · rw [if_pos h1]
          obtain ⟨h2, h3⟩ := hok h1
          have := ih (i + (sgn ((byt s).drop i)).2.1.toNat) (n + 1) (by omega) (by omega) (by omega) (by omega)
          rw [← List.drop_drop] at this
          refine Ev.congr (fun k => ?_) this
          rw [if_pos h1]
          simp only [utf_Count_1, Option.bind_some]
          rw [i64w (n + 1) (by omega) (by omega), i64w _ (by omega) (by omega), show (i : Int) + (sgn ((byt s).drop i)).2.1 = ((i + (sgn ((byt s).drop i)).2.1.toNat : Nat) : Int) by omega]
        · rw [if_neg h1]
          exact Ev.congr (f := fun _ => some (false, n)) (fun k => by rw [if_neg h1]) (Ev.now _)
    · have e : (byt s).drop i = [] := List.drop_eq_nil_of_le (by rw [byt_len]; omega)
      rw [e]
      simp only [utfN]
      rw [if_pos (by trivial)]
      exact Ev.step (f := fun _ => some (true, n)) (fun k => by simp only [utf_walk.l0]; rw [if_neg (by omega)]) (Ev.now _)
theorem uright_ev (s : ByteArray) (hs : s.size ≤ 1000000000) : Ev (fun k => utf_Right k s) (utfB s) := by
  have h := uwalk_l0 s hs s.size 0 0 (by omega) (by omega) (by omega) (by omega)
  rw [List.drop_zero] at h
  have h1 := utfN_fst s.size (byt s) 0
  have h2 := utfN_snd s.size (byt s) 0
  unfold utf_Right utf_Count utf_walk
  refine Ev.bind (a := if (utfN s.size (byt s) 0).1 = true then (utfN s.size (byt s) 0).2 else -1) (Ev.bind h ?_) ?_
  · by_cases e : (utfN s.size (byt s) 0).1 = true
    · exact Ev.congr (f := fun _ => some _) (fun k => by rw [if_pos e, if_pos e]) (Ev.now _)
    · exact Ev.congr (f := fun _ => some _) (fun k => by rw [if_neg e, if_neg e]) (Ev.now _)
  · refine Ev.congr (f := fun _ => some (utfB s)) (fun k => ?_) (Ev.now _)
    congr 1
    unfold utfB
    rw [← h1]
    by_cases e : (utfN s.size (byt s) 0).1 = true
    · rw [if_pos e, e]
      simpa using h2
    · rw [if_neg e]
      simp at e
      rw [e]
      decide

def fits32 (n : Int) : Bool := decide (-2147483648 ≤ n ∧ n < 2147483648)
theorem lowS32 (n : Int) : (lowS n 32 == n) = fits32 n := by
  have h := lowS_iff n 32 (by decide)
  have e : (2 : Int) ^ (32 - 1) = 2147483648 := by decide
  rw [e] at h
  unfold fits32
  rw [Bool.eq_iff_iff, beq_iff_eq, h, decide_eq_true_iff]
theorem wfits32 (k : Nat) (n : Int) : word_Fits k n 32 = some (fits32 n) := by
  have := word_Fits_eq k n 32 (by decide) (by decide)
  rw [lowS32] at this
  exact this
/-- Is a value right? -/
def valB (kind n : Int) (s : ByteArray) : Bool :=
  if kind = 0 then decide (n = 0) && decide (s.size = 0)
  else if kind = 1 then fits32 n && decide (s.size = 0)
  else if kind = 2 then decide (s.size = 0)
  else if kind = 3 then decide (n = 0) && (decide (s.size ≤ 120) && utfB s)
  else if kind = 4 then decide (n = 0) && decide (s.size ≤ 120)
  else false
theorem utfB_nil (s : ByteArray) (h : s.size = 0) : utfB s = true := by
  have : byt s = [] := List.length_eq_zero_iff.1 (by rw [byt_len]; exact h)
  unfold utfB
  rw [h, this]
  rfl
theorem val_ev (kind n : Int) (s : ByteArray) (hs : s.size ≤ 1000000000) : Ev (fun k => value_Right k kind n s) (valB kind n s) := by
  refine Ev.flat1 0 (uright_ev s hs) (fun m h => ?_)
  have h0 := h 0
  simp only [Nat.add_zero] at h0 ⊢
  unfold valB
  have e120 : ((s.size : Int) > 120) = ¬ s.size ≤ 120 := propext ⟨fun h => by omega, fun h => by omega⟩
  simp only [value_Right, ba_nil0, wfits32, Option.bind_some, h0, e120]
  have f0 : fits32 0 = true := by decide
  have u0 := utfB_nil s
  by_cases k0 : kind = 0
  · subst k0
    by_cases h1 : n = 0 <;> by_cases h2 : s.size = 0 <;> simp [h1, h2]
  by_cases k1 : kind = 1
  · subst k1
    by_cases h1 : n = 0 <;> by_cases h2 : s.size = 0 <;> by_cases h3 : fits32 n = true <;> simp_all
  by_cases k2 : kind = 2
  · subst k2
    by_cases h1 : n = 0 <;> by_cases h2 : s.size = 0 <;> simp [h1, h2]
  by_cases k3 : kind = 3
  · subst k3
    by_cases h1 : n = 0 <;> by_cases h2 : s.size = 0 <;> by_cases h3 : utfB s = true <;> by_cases h4 : s.size ≤ 120 <;> simp_all
  by_cases k4 : kind = 4
  · subst k4
    by_cases h1 : n = 0 <;> by_cases h2 : s.size = 0 <;> by_cases h4 : s.size ≤ 120 <;> simp_all
  simp [k0, k1, k2, k3, k4]
/-- Is a type right? -/
def typB (kind mx : Int) : Bool := if kind = 1 ∨ kind = 2 then decide (mx = 0) else if kind = 3 ∨ kind = 4 then decide (1 ≤ mx ∧ mx ≤ 120) else false
theorem typ_eq (k : Nat) (kind mx : Int) : typ_Right k kind mx = some (typB kind mx) := by
  unfold typB
  simp only [typ_Right, ge_iff_le]
  by_cases h1 : kind = 1
  · simp [h1, beq_dec]
  · by_cases h2 : kind = 2
    · simp [h2, beq_dec]
    · by_cases h3 : kind = 3
      · subst h3
        by_cases h5 : 1 ≤ mx <;> simp [h5]
      · by_cases h4 : kind = 4
        · subst h4
          by_cases h5 : 1 ≤ mx <;> simp [h5]
        · simp [h1, h2, h3, h4]
/-- Does a value fit a type? -/
def fitB (tk tm vk vn : Int) (vs : ByteArray) : Bool := typB tk tm && (decide (vk = tk) && (valB vk vn vs && (decide (tk < 3) || decide ((vs.size : Int) ≤ tm))))
theorem fit_ev (tk tm vk vn : Int) (vs : ByteArray) (hs : vs.size ≤ 1000000000) : Ev (fun k => typ_Fits k tk tm vk vn vs) (fitB tk tm vk vn vs) := by
  refine Ev.flat1 0 (val_ev vk vn vs hs) (fun m h => ?_)
  have h0 := h 0
  simp only [Nat.add_zero] at h0 ⊢
  unfold fitB
  simp only [typ_Fits, typ_eq, Option.bind_some, h0, typ_long]
  by_cases h1 : typB tk tm = true
  · have ht : tk = 1 ∨ tk = 2 ∨ tk = 3 ∨ tk = 4 := by
      unfold typB at h1
      split at h1
      · omega
      · split at h1
        · omega
        · cases h1
    by_cases h2 : vk = tk
    · by_cases h3 : valB vk vn vs = true
      · rcases ht with rfl | rfl | rfl | rfl <;> simp_all
      · simp [h1, h2, h3]
        subst h2
        simp [h3]
    · simp [h1, h2]
  · simp [h1]

theorem wf64 {n : Int} (h : (Lit.int .i64 n).wf = true) : -9223372036854775808 ≤ n ∧ n ≤ 9223372036854775807 := wf_i64 h
theorem sb_bytes (n : Nat) : Bytes (sb n) := by
  induction n using Nat.strongRecOn with
  | _ n ih =>
    by_cases h : n < 128
    · rw [sb_small h]
      intro x hx
      rw [List.mem_singleton] at hx
      omega
    · rw [sb_big h]
      intro x hx
      rcases List.mem_cons.1 hx with e | e
      · omega
      · exact ih (n / 128) (by omega) x e
theorem jcut (a b : ByteArray) (n : Nat) (h : n = a.size) : (a ++ b).extract n (a ++ b).size = b := by
  apply byt_inj
  rw [byt_cut, byt_append, h, ← byt_len a, List.drop_left]
theorem ba_of0 (s : ByteArray) (h : s.size = 0) : s = ⟨#[]⟩ := ByteArray.ext (Array.eq_empty_of_size_eq_zero h)
theorem short1 (x : Int) (h0 : 0 ≤ x) (h1 : x ≤ 18446744073709551615) : Ev (fun k => word_Short k ([x] : List Int)) (strOfNums (sb x.toNat)) := by
  have := word_Short_ev [x] (by simp) (fun y hy => by
    rw [List.mem_singleton] at hy
    omega)
  rw [show sbs [x] = sb x.toNat by simp [sbs]] at this
  exact this

/-- May a byte be in a name, at a place? -/
def partB (c i : Int) : Bool := if 97 ≤ c ∧ c ≤ 122 then true else if (48 ≤ c ∧ c ≤ 57) ∨ c = 95 then decide (0 < i) else false
theorem part_eq (k : Nat) (c i : Int) : name_part k c i = some (partB c i) := by
  unfold partB
  simp only [name_part, ge_iff_le, gt_iff_lt]
  by_cases h1 : 97 ≤ c <;> by_cases h2 : c ≤ 122 <;> by_cases h3 : 48 ≤ c <;> by_cases h4 : c ≤ 57 <;> by_cases h5 : c = 95 <;> simp [h1, h2, h3, h4, h5] <;> omega
theorem part_ev (c i : Int) : Ev (fun k => name_part k c i) (partB c i) := Ev.pure fun k => part_eq k c i
/-- How many bytes go on as names do: from i on, with so many left. -/
def rdn (s : ByteArray) : Nat → Nat → Int
  | 0, i => (i : Int)
  | n + 1, i => if partB (bt s (i : Int)) (i : Int) = true then rdn s n (i + 1) else (i : Int)
theorem nread_ev (s : ByteArray) (hs : s.size ≤ 9223372036854775807) : Ev (fun k => name_Read k s) (rdn s s.size 0) := by
  have h := down (P := fun i => Ev (fun k => name_Read.l0 k s (s.size : Int) (i : Int)) (rdn s (s.size - i) i)) (n := s.size)
    (by rw [Nat.sub_self]; exact Ev.step (f := fun _ => some (s.size : Int)) (fun k => by simp only [name_Read.l0]; rw [if_neg (by omega)]) (Ev.now _))
    (fun i hi ih => by
      rw [show s.size - i = (s.size - (i + 1)) + 1 by omega]
      refine Ev.step (f := fun k => (name_part k (bt s (i : Int)) (i : Int)).bind fun t => if t = true then name_Read.l0 k s (s.size : Int) ((i + 1 : Nat) : Int) else some (i : Int)) (fun k => ?_) ?_
      · simp only [name_Read.l0]
        rw [if_pos (by omega), if_pos (by omega), if_pos (by omega), i64w_succ _ (by omega)]
      · refine Ev.bind (part_ev _ _) ?_
        simp only [rdn]
        split
        · exact ih
        · exact Ev.now _) 0 (Nat.zero_le _)
  exact h
/-- Is a text a name? -/
def nameB (s : ByteArray) : Bool := decide (0 < s.size) && (decide (s.size ≤ 16) && (rdn s s.size 0 == (s.size : Int)))
theorem name_ev (s : ByteArray) (hs : s.size ≤ 9223372036854775807) : Ev (fun k => name_Right k s) (nameB s) := by
  unfold name_Right nameB
  by_cases h0 : s.size = 0
  · refine Ev.congr (f := fun _ => some false) (fun k => by rw [if_pos ((ba_nil0 s).2 h0)]) ?_
    rw [decide_eq_false (by omega), Bool.false_and]
    exact Ev.now _
  · rw [decide_eq_true (by omega), Bool.true_and]
    by_cases h1 : s.size ≤ 16
    · rw [decide_eq_true h1, Bool.true_and]
      refine Ev.congr (fun k => by rw [if_neg (fun e => h0 ((ba_nil0 s).1 e)), if_pos (by omega)]) ?_
      exact Ev.bind (nread_ev s hs) (Ev.now _)
    · rw [decide_eq_false h1, Bool.false_and]
      exact Ev.congr (f := fun _ => some false) (fun k => by rw [if_neg (fun e => h0 ((ba_nil0 s).1 e)), if_neg (by omega)]) (Ev.now _)

def zeroV (v : S_Value) : Bool := v.f0 == 0 && (v.f1 == 0 && (v.f2.toList == ([] : List UInt8)))
/-- What is known of a column that is tried. -/
def OkCol (c : S_Column) : Prop := c.f1.size ≤ 1000000000 ∧ c.f4.f2.size ≤ 1000000000 ∧ (Lit.int .i64 c.f4.f1).wf = true
/-- Is a column right? -/
def colB (c : S_Column) : Bool := decide (0 ≤ c.f0 ∧ c.f0 < 200) && (nameB c.f1 && (typB c.f2.f0 c.f2.f1 && (zeroV c.f4 || fitB c.f2.f0 c.f2.f1 c.f4.f0 c.f4.f1 c.f4.f2)))
theorem zeroV_text (v : S_Value) : ((v.f0 == 0) && ((v.f1 == 0) && (v.f2.toList == (⟨#[]⟩ : ByteArray).toList))) = zeroV v := by unfold zeroV; rw [nilB_toList]
theorem column_ev (c : S_Column) (h : OkCol c) : Ev (fun k => schema_RightColumn k c.f0 c.f1 c.f2.f0 c.f2.f1 c.f3 c.f4.f0 c.f4.f1 c.f4.f2) (colB c) := by
  refine Ev.flat2 0 (name_ev c.f1 (by have := h.1; omega)) (fit_ev c.f2.f0 c.f2.f1 c.f4.f0 c.f4.f1 c.f4.f2 h.2.1) (fun m h1 h2 => ?_)
  have h1 := h1 0
  have h2 := h2 0
  simp only [Nat.add_zero] at h1 h2 ⊢
  unfold colB
  simp only [schema_RightColumn, typ_eq, h1, h2, Option.bind_some, zeroV_text]
  by_cases q0 : c.f0 < 0
  · simp [q0]; omega
  by_cases q1 : c.f0 ≥ 200
  · simp [q0, q1]; omega
  have q2 : 0 ≤ c.f0 ∧ c.f0 < 200 := by omega
  cases nameB c.f1 <;> cases typB c.f2.f0 c.f2.f1 <;> cases zeroV c.f4 <;> simp [q0, q1, q2]
def hpHas (l : List ByteArray) (s : ByteArray) : Bool := l.any (fun t => decide (t = s))
/-- The columns, one behind the other: the last number, whether the key column may stand, the names. -/
def tabGo (next key : Int) : List S_Column → Int → Bool → List ByteArray → Bool
  | [], _, kf, _ => kf
  | c :: r, last, kf, ns => if colB c = true ∧ last < c.f0 ∧ c.f0 < next ∧ hpHas ns c.f1 = false then tabGo next key r c.f0 (if c.f0 = key then !c.f3 else kf) (ns ++ [c.f1]) else false
/-- Is a table right? -/
def tabB (id : Int) (name : ByteArray) (key next : Int) (l : List S_Column) : Bool := decide (0 ≤ id ∧ next ≤ 200 ∧ 1 ≤ l.length ∧ l.length ≤ 10) && (nameB name && tabGo next key l (-1) false [])
/-- A set of names, as a map. -/
def hpMap (ns : List ByteArray) : List (ByteArray × Bool) := ns.map fun n => (n, true)
theorem hp_get (s : ByteArray) : ∀ ns : List ByteArray, (mget (fun (q : ByteArray) => (s.toList == q.toList)) (hpMap ns)).getD false = hpHas ns s
  | [] => rfl
  | n :: ns => by
    have ih := hp_get s ns
    unfold hpMap hpHas at ih ⊢
    simp only [List.map_cons, mget, List.any_cons, ba_beq]
    by_cases h : s = n
    · subst h; simp
    · have h' : ¬ n = s := fun e => h e.symm
      simp only [h, h', decide_false, Bool.false_or]
      simpa [ba_beq] using ih
theorem hp_put (s : ByteArray) : ∀ ns : List ByteArray, hpHas ns s = false → mput (fun (q : ByteArray) => (s.toList == q.toList)) s true (hpMap ns) = hpMap (ns ++ [s])
  | [], _ => rfl
  | n :: ns, h => by
    unfold hpHas at h
    simp only [List.any_cons, Bool.or_eq_false_iff, decide_eq_false_iff_not] at h
    have ih := hp_put s ns h.2
    unfold hpMap at ih ⊢
    have h' : ¬ s = n := fun e => h.1 e.symm
    simp only [List.map_cons, List.cons_append, mput, ba_beq, h', decide_false]
    rw [if_neg (by simp)]
    simp only [ba_beq] at ih
    rw [ih]
theorem table_ev (id : Int) (name : ByteArray) (key next : Int) (l : List S_Column) (hn : name.size ≤ 1000000000) (hok : ∀ c ∈ l, OkCol c) : Ev (fun k => schema_RightTable k id name key next l) (tabB id name key next l) := by
  have hl0 : l.length ≤ 10 → Ev (fun k => schema_RightTable.l0 k (-1) false l (l.length : Int) 0 id name key next l ([] : List (ByteArray × Bool))) (tabGo next key l (-1) false []) := fun hlen => by
    have h := down (P := fun i => ∀ (last : Int) (kf : Bool) (ns : List ByteArray), Ev (fun k => schema_RightTable.l0 k last kf l (l.length : Int) (i : Int) id name key next l (hpMap ns)) (tabGo next key (l.drop i) last kf ns)) (n := l.length)
      (fun last kf ns => by
        rw [List.drop_length]
        exact Ev.step (f := fun _ => some kf) (fun k => by simp only [schema_RightTable.l0]; rw [if_neg (by omega)]) (Ev.now _))
      (fun i hi ih last kf ns => by
        rw [List.drop_eq_getElem_cons hi]
        have hc := hok _ (List.getElem_mem hi)
        generalize hci : l[i] = c at hc
        have hrd : r_Column l (i : Int) = c := by rw [← hci]; simp [r_Column, rd, List.getD, hi]
        refine Ev.step (fun k => by
          simp only [schema_RightTable.l0]
          rw [if_pos (by omega), if_pos (by omega), if_pos (by omega), hrd, hp_get, i64w_succ _ (by omega)]) (Ev.bind (column_ev c hc) ?_)
        simp only [tabGo]
        by_cases h1 : colB c = true
        · refine Ev.yes h1 (Ev.ite (fun h2 => ?_) (fun h2 => Ev.ite (fun h3 => ?_) (fun h3 => Ev.ite (fun h4 => ?_) (fun h4 => ?_))))
          · rw [if_neg (by omega)]; exact Ev.now _
          · rw [if_neg (by omega)]; exact Ev.now _
          · rw [if_neg (fun e => by rw [h4] at e; exact absurd e.2.2.2 (by simp))]; exact Ev.now _
          · have h4' : hpHas ns c.f1 = false := by simpa using h4
            rw [if_pos ⟨h1, by omega, by omega, h4'⟩, hp_put c.f1 ns h4']
            refine Ev.ite (fun h5 => ?_) (fun h5 => ?_)
            · rw [if_pos h5]; exact ih _ _ _
            · rw [if_neg h5]; exact ih _ _ _
        · rw [if_neg (fun e => h1 e.1)]
          exact Ev.no h1 (Ev.now _)) 0 (Nat.zero_le _)
    exact h (-1) false []
  unfold schema_RightTable tabB
  refine Ev.ite (fun h0 => ?_) (fun h0 => Ev.ite (fun h1 => ?_) (fun h1 => Ev.ite (fun h2 => ?_) (fun h2 => Ev.ite (fun h3 => ?_) (fun h3 => ?_))))
  · rw [decide_eq_false (by omega), Bool.false_and]; exact Ev.now _
  · rw [decide_eq_false (by omega), Bool.false_and]; exact Ev.now _
  · rw [decide_eq_false (by omega), Bool.false_and]; exact Ev.now _
  · rw [decide_eq_false (by omega), Bool.false_and]; exact Ev.now _
  · rw [decide_eq_true (by omega), Bool.true_and]
    refine Ev.bind (name_ev name (by omega)) ?_
    cases nameB name
    · exact Ev.no (by simp) (Ev.now _)
    · exact Ev.yes rfl (hl0 (by omega))

/-- The number of low seven bits. -/
def valL : List Int → Int
  | [] => 0
  | x :: xs => x % 128 + 128 * valL xs

theorem valL_snoc (l : List Int) (x : Int) : valL (l ++ [x]) = valL l + x % 128 * 128 ^ l.length := by
  induction l with
  | nil => simp [valL]
  | cons y l ih =>
    simp only [List.cons_append, valL, ih, List.length_cons, Int.pow_succ]
    rw [Int.mul_add, ← Int.mul_assoc, Int.mul_comm 128 (x % 128), Int.mul_assoc, Int.mul_comm 128 (128 ^ l.length)]
    omega

theorem val_valL (s : ByteArray) (i : Nat) (h : i ≤ s.size) : val s i = valL ((byt s).take i) := by
  induction i with
  | zero => simp [val, valL]
  | succ i ih =>
    have hl : i < (byt s).length := by rw [byt_len]; omega
    rw [List.take_succ_eq_append_getElem hl, valL_snoc, ← ih (by omega), List.length_take, Nat.min_eq_left (by omega)]
    simp only [val]
    rw [bt_byt s i (by omega)]

/-- A list of bytes is short bytes. -/
def IsSb : List Int → Prop
  | [] => False
  | [x] => 0 ≤ x ∧ x < 128
  | x :: y :: l => 128 ≤ x ∧ x ≤ 255 ∧ IsSb (y :: l) ∧ (y :: l) ≠ [0]

theorem sb_is (n : Nat) : IsSb (sb n) ∧ valL (sb n) = n ∧ (0 < n → sb n ≠ [0]) := by
  induction n using Nat.strongRecOn with
  | _ n ih =>
    by_cases h : n < 128
    · rw [sb_small h]
      refine ⟨⟨by omega, by omega⟩, by simp only [valL]; omega, fun h0 e => ?_⟩
      simp at e
      omega
    · obtain ⟨h1, h2, h3⟩ := ih (n / 128) (by omega)
      rw [sb_big h]
      have hp := sb_pos (n / 128)
      cases e : sb (n / 128) with
      | nil => rw [e] at hp; simp at hp
      | cons y l =>
        rw [e] at h1 h2 h3
        refine ⟨⟨by omega, by omega, h1, h3 (by omega)⟩, ?_, fun _ => by simp⟩
        rw [valL, h2]
        omega

theorem isSb_at : ∀ (l : List Int) (hl : IsSb l) (m : Nat) (hm : l.length = m + 1), (∀ (j : Nat) (hj : j < m), 128 ≤ l[j]'(by omega)) ∧ l[m]'(by omega) < 128 ∧ (0 < m → l[m]'(by omega) ≠ 0)
  | [], h, _, _ => h.elim
  | [x], h, m, hm => by
    simp at hm
    subst hm
    exact ⟨fun j hj => by omega, h.2, fun h => by omega⟩
  | x :: y :: l, h, m, hm => by
    obtain ⟨k, rfl⟩ : ∃ k, m = k + 1 := ⟨l.length, by simpa using hm.symm⟩
    have ih := isSb_at (y :: l) h.2.2.1 k (by simpa using hm)
    refine ⟨fun j hj => ?_, by simpa using ih.2.1, fun _ => ?_⟩
    · cases j with
      | zero => exact h.1
      | succ j => simpa using ih.1 j (by omega)
    · by_cases hk : 0 < k
      · simpa using ih.2.2 hk
      · have : k = 0 := by omega
        subst this
        simp at hm
        subst hm
        intro e
        simp at e
        exact h.2.2.2 (by rw [e])

theorem ends_of (s : ByteArray) (m : Nat) (h1 : m < 10) (h2 : m < s.size) (h3 : ∀ j : Nat, j < m → 128 ≤ bt s (j : Int)) (h4 : bt s (m : Int) < 128) (h5 : 0 < m → bt s (m : Int) ≠ 0) (h6 : m = 9 → bt s (m : Int) ≤ 1) (d : Nat) : ∀ i, i + d = m → ends s i = (((m + 1 : Nat) : Int), 0) := by
  induction d with
  | zero =>
    intro i hi
    have e : i = m := by omega
    subst e
    rw [ends_last ⟨h2, h1⟩ h4, if_neg]
    rintro (⟨h, h'⟩ | ⟨h, h'⟩)
    · exact h5 h h'
    · have := h6 h; omega
  | succ d ih =>
    intro i hi
    have := h3 i (by omega)
    rw [ends_more ⟨by omega, by omega⟩ (by omega)]
    exact ih (i + 1) (by omega)

/-- What short bytes with something behind them tell. -/
theorem longS_sb (n : Nat) (hn : n < 18446744073709551616) (z : ByteArray) : longS (strOfNums (sb n) ++ z) = ((n : Int), ((sb n).length : Int), 0) := by
  obtain ⟨h1, h2, _⟩ := sb_is n
  have hp := sb_pos n
  obtain ⟨m, hm⟩ : ∃ m, (sb n).length = m + 1 := ⟨(sb n).length - 1, by omega⟩
  have h10 := sb_len10 hn
  obtain ⟨a1, a2, a3⟩ := isSb_at _ h1 m hm
  have hby : byt (strOfNums (sb n) ++ z) = sb n ++ byt z := by rw [byt_append, byt_str (sb_bytes n)]
  have hsz : (strOfNums (sb n) ++ z).size = m + 1 + z.size := by rw [← byt_len, hby, List.length_append, hm, byt_len]
  have hbt : ∀ j (hj : j < m + 1), bt (strOfNums (sb n) ++ z) (j : Int) = (sb n)[j]'(by omega) := by
    intro j hj
    rw [bt_byt _ j (by omega)]
    simp only [hby]
    rw [List.getElem_append_left (by omega)]
  have hv : val (strOfNums (sb n) ++ z) (m + 1) = n := by
    rw [val_valL _ _ (by omega), hby, List.take_append_of_le_length (by omega), List.take_of_length_le (by omega), h2]
  have h6 : m = 9 → bt (strOfNums (sb n) ++ z) (m : Int) ≤ 1 := by
    rintro rfl
    have hr := (val_range (strOfNums (sb n) ++ z) 9).1
    simp only [val] at hv
    have e : (128 : Int) ^ 9 = 9223372036854775808 := by decide
    simp only [val, e] at hv hr
    have hb := btr (strOfNums (sb n) ++ z) ((9 : Nat) : Int)
    have h4 := hbt 9 (by omega)
    rw [h4] at hb hv ⊢
    omega
  have he := ends_of (strOfNums (sb n) ++ z) m (by omega) (by omega) (fun j hj => by rw [hbt j (by omega)]; exact a1 j hj) (by rw [hbt m (by omega)]; exact a2) (fun h => by rw [hbt m (by omega)]; exact a3 h) h6 m 0 (by omega)
  unfold longS
  rw [he]
  simp only [if_true]
  rw [show (((m + 1 : Nat) : Int)).toNat = m + 1 by omega, hv, hm]

abbrev St := ByteArray × Int

def fl (e : Int) (q : St) : St := if q.2 = 0 then (nilB, e) else q
def rest (s : ByteArray) (n : Nat) : ByteArray := s.extract n s.size
def oneP (lo hi : Int) (q : St) : Int × St :=
  if q.2 = 0 then (if q.1.size = 0 then (0, (nilB, 4)) else if bt q.1 0 < lo ∨ hi < bt q.1 0 then (0, (nilB, 5)) else (bt q.1 0, (rest q.1 1, 0))) else (0, q)
def rawP (q : St) : Int × St :=
  if q.2 = 0 then (if (longS q.1).2.2 = 0 then ((longS q.1).1, (rest q.1 (longS q.1).2.1.toNat, 0)) else (0, (nilB, (longS q.1).2.2))) else (0, q)
def numP (most : Int) (q : St) : Int × St := if most < (rawP q).1 then (0, fl 5 (rawP q).2) else rawP q
def textP (most : Int) (q : St) : ByteArray × St :=
  if (numP most q).2.2 = 0 then (if ((numP most q).2.1.size : Int) < (numP most q).1 then (nilB, (nilB, 4)) else ((numP most q).2.1.extract 0 (numP most q).1.toNat, (rest (numP most q).2.1 (numP most q).1.toNat, 0))) else (nilB, (numP most q).2)
def chk (b : Bool) (q : St) : St := if b = true then q else fl 5 q
def valP (q : St) : S_Value × St :=
  if (oneP 0 4 q).1 = 1 ∨ (oneP 0 4 q).1 = 2 then (⟨(oneP 0 4 q).1, zagS (rawP (oneP 0 4 q).2).1, nilB⟩, chk (decide ((oneP 0 4 q).1 = 2) || fits32 (zagS (rawP (oneP 0 4 q).2).1)) (rawP (oneP 0 4 q).2).2)
  else if (oneP 0 4 q).1 = 3 ∨ (oneP 0 4 q).1 = 4 then (⟨(oneP 0 4 q).1, 0, (textP 120 (oneP 0 4 q).2).1⟩, chk (decide ((oneP 0 4 q).1 = 4) || utfB (textP 120 (oneP 0 4 q).2).1) (textP 120 (oneP 0 4 q).2).2)
  else (⟨(oneP 0 4 q).1, 0, nilB⟩, (oneP 0 4 q).2)
def kindP (q : St) : S_Type × St := (⟨(oneP 1 4 q).1, (numP 120 (oneP 1 4 q).2).1⟩, (numP 120 (oneP 1 4 q).2).2)
/-- 'l stands at the head of q': q is without fault, and taking l off leaves r. -/
def Takes (q : St) (l : List Int) (r : St) : Prop := q.2 = 0 ∧ r.2 = 0 ∧ Bytes l ∧ q.1 = strOfNums l ++ r.1
theorem nil_app (z : ByteArray) : strOfNums [] ++ z = z := by
  apply byt_inj
  rw [byt_append, byt_str (fun _ h => by simp at h), List.nil_append]
theorem Takes.nil {q : St} (h : q.2 = 0) : Takes q [] q := ⟨h, h, fun _ h => by simp at h, (nil_app q.1).symm⟩
theorem Takes.nil_eq {q r : St} (h : Takes q [] r) : q = r := by
  refine Prod.ext ?_ (h.1.trans h.2.1.symm)
  rw [h.2.2.2, nil_app]
theorem Takes.trans {q r t : St} {a b : List Int} (h : Takes q a r) (k : Takes r b t) : Takes q (a ++ b) t := by
  refine ⟨h.1, k.2.1, h.2.2.1.append k.2.2.1, ?_⟩
  rw [strOfNums_append, ByteArray.append_assoc, ← k.2.2.2, h.2.2.2]
theorem rest_head (l : List Int) (z : ByteArray) : rest (strOfNums l ++ z) l.length = z := jcut _ _ _ (strOfNums_size l).symm

theorem rest_at {q : St} {l : List Int} {r : St} (h : Takes q l r) (n : Nat) (hn : n = l.length) : (rest q.1 n, (0 : Int)) = r := by
  obtain ⟨h1, h2, h3, h4⟩ := h
  subst hn
  rw [h4, rest_head]
  exact Prod.ext rfl h2.symm
theorem oneP_fwd {lo hi b : Int} {q r : St} (h : Takes q [b] r) (h1 : lo ≤ b) (h2 : b ≤ hi) : oneP lo hi q = (b, r) := by
  have hz : q.1.size = 1 + r.1.size := by rw [h.2.2.2, ByteArray.size_append, strOfNums_size]; rfl
  have hb : bt q.1 0 = b := by
    have := bt_byt q.1 0 (by omega)
    rw [show ((0 : Nat) : Int) = 0 by rfl] at this
    rw [this]
    simp only [h.2.2.2, byt_append, byt_str h.2.2.1]
    rfl
  unfold oneP
  rw [if_pos h.1, if_neg (show ¬ q.1.size = 0 by omega), hb, if_neg (show ¬ (b < lo ∨ hi < b) by omega), rest_at h 1 rfl]
theorem rawP_fwd {n : Nat} {q r : St} (h : Takes q (sb n) r) (hn : n < 18446744073709551616) : rawP q = ((n : Int), r) := by
  have hL := longS_sb n hn r.1
  rw [← h.2.2.2] at hL
  unfold rawP
  rw [if_pos h.1, hL, if_pos rfl]
  simp only [Int.toNat_natCast]
  rw [rest_at h _ rfl]
theorem numP_fwd {m : Int} {n : Nat} {q r : St} (h : Takes q (sb n) r) (hn : n < 18446744073709551616) (hm : (n : Int) ≤ m) : numP m q = ((n : Int), r) := by
  unfold numP
  rw [rawP_fwd h hn, if_neg (show ¬ m < (n : Int) by omega)]
def textE (s : ByteArray) : List Int := sb s.size ++ byt s
theorem textE_bytes (s : ByteArray) : Bytes (textE s) := (sb_bytes _).append (byt_bytes _)
theorem Takes.split {q r : St} {a b : List Int} (h : Takes q (a ++ b) r) : Takes q a (strOfNums b ++ r.1, 0) ∧ Takes (strOfNums b ++ r.1, 0) b r := by
  obtain ⟨h1, h2, h3, h4⟩ := h
  have ha : Bytes a := fun x hx => h3 x (List.mem_append_left _ hx)
  have hb : Bytes b := fun x hx => h3 x (List.mem_append_right _ hx)
  exact ⟨⟨h1, rfl, ha, by rw [h4, strOfNums_append, ByteArray.append_assoc]⟩, ⟨rfl, h2, hb, rfl⟩⟩
theorem textP_fwd {m : Int} {t : ByteArray} {q r : St} (h : Takes q (textE t) r) (hm : (t.size : Int) ≤ m) (hs : t.size ≤ 1000000000) : textP m q = (t, r) := by
  unfold textE at h
  obtain ⟨k1, k2⟩ := h.split
  unfold textP
  rw [numP_fwd k1 (by omega) hm, if_pos rfl]
  simp only [Int.toNat_natCast]
  have hz : (strOfNums (byt t) ++ r.1).size = t.size + r.1.size := by rw [ByteArray.size_append, strOfNums_size, byt_len]
  rw [if_neg (by omega), rest_at k2 t.size (byt_len t).symm, str_byt]
  congr 1
  apply byt_inj
  rw [byt_to, byt_append, ← byt_len t, List.take_left]
def valT (k n : Int) (s : ByteArray) : List Int := if k = 1 ∨ k = 2 then sb (zigS n).toNat else if k = 3 ∨ k = 4 then textE s else []
def valE (v : S_Value) : List Int := v.f0 :: valT v.f0 v.f1 v.f2
theorem valP_fwd {v : S_Value} {q r : St} (h : Takes q (valE v) r) (hv : valB v.f0 v.f1 v.f2 = true) (hw : (Lit.int .i64 v.f1).wf = true) : valP q = (v, r) := by
  have hw := wf64 hw
  have hz := zigS_range v.f1 hw.1 hw.2
  obtain ⟨k, n, s⟩ := v
  simp only at hv hw hz
  have h : Takes q ([k] ++ valT k n s) r := h
  obtain ⟨k1, k2⟩ := h.split
  generalize hm : (strOfNums (valT k n s) ++ r.1, (0 : Int)) = m at k1 k2
  clear hm h
  have hs0 : s.size = 0 → s = nilB := fun e => ba_of0 s e
  have hzn : (((zigS n).toNat : Nat) : Int) = zigS n := by omega
  have t12 : k = 1 ∨ k = 2 → Takes m (sb (zigS n).toNat) r := fun e => by unfold valT at k2; rwa [if_pos e] at k2
  have t34 : k = 3 ∨ k = 4 → Takes m (textE s) r := fun e => by unfold valT at k2; rwa [if_neg (by omega), if_pos e] at k2
  have t0 : k = 0 → m = r := fun e => by unfold valT at k2; rw [if_neg (by omega), if_neg (by omega)] at k2; exact k2.nil_eq
  unfold valB at hv
  have h04 : 0 ≤ k ∧ k ≤ 4 := by
    by_cases e0 : k = 0
    · omega
    · rw [if_neg e0] at hv
      by_cases e1 : k = 1
      · omega
      · rw [if_neg e1] at hv
        by_cases e2 : k = 2
        · omega
        · rw [if_neg e2] at hv
          by_cases e3 : k = 3
          · omega
          · rw [if_neg e3] at hv
            by_cases e4 : k = 4
            · omega
            · rw [if_neg e4] at hv
              cases hv
  unfold valP
  rw [oneP_fwd k1 h04.1 h04.2]
  simp only
  by_cases e0 : k = 0
  · rw [if_pos e0, Bool.and_eq_true, decide_eq_true_iff, decide_eq_true_iff] at hv
    rw [if_neg (by omega), if_neg (by omega), t0 e0, hv.1, hs0 hv.2]
  rw [if_neg e0] at hv
  by_cases e1 : k = 1
  · rw [if_pos e1, Bool.and_eq_true, decide_eq_true_iff] at hv
    rw [if_pos (.inl e1), rawP_fwd (t12 (.inl e1)) (by omega)]
    simp only
    rw [hzn, zag_zig, hs0 hv.2]
    unfold chk
    rw [if_pos (by rw [hv.1]; simp)]
  rw [if_neg e1] at hv
  by_cases e2 : k = 2
  · rw [if_pos e2, decide_eq_true_iff] at hv
    rw [if_pos (.inr e2), rawP_fwd (t12 (.inr e2)) (by omega)]
    simp only
    rw [hzn, zag_zig, hs0 hv]
    unfold chk
    rw [if_pos (by rw [decide_eq_true e2]; rfl)]
  rw [if_neg e2] at hv
  by_cases e3 : k = 3
  · rw [if_pos e3, Bool.and_eq_true, Bool.and_eq_true, decide_eq_true_iff, decide_eq_true_iff] at hv
    obtain ⟨hv1, hv2, hv3⟩ := hv
    rw [if_neg (by omega), if_pos (.inl e3), textP_fwd (t34 (.inl e3)) (by omega) (by omega)]
    simp only
    unfold chk
    rw [if_pos (by rw [hv3]; simp), hv1]
  rw [if_neg e3] at hv
  by_cases e4 : k = 4
  · rw [if_pos e4, Bool.and_eq_true, decide_eq_true_iff, decide_eq_true_iff] at hv
    obtain ⟨hv1, hv2⟩ := hv
    rw [if_neg (by omega), if_pos (.inr e4), textP_fwd (t34 (.inr e4)) (by omega) (by omega)]
    simp only
    unfold chk
    rw [if_pos (by rw [decide_eq_true e4]; rfl), hv1]
  omega
def kindE (t : S_Type) : List Int := t.f0 :: sb t.f1.toNat
theorem kindP_fwd {t : S_Type} {q r : St} (h : Takes q (kindE t) r) (h1 : 1 ≤ t.f0) (h2 : t.f0 ≤ 4) (h3 : 0 ≤ t.f1) (h4 : t.f1 ≤ 120) : kindP q = (t, r) := by
  unfold kindE at h
  obtain ⟨k1, k2⟩ := Takes.split (a := [t.f0]) h
  unfold kindP
  rw [oneP_fwd k1 h1 h2]
  simp only
  rw [numP_fwd k2 (by omega) (by omega)]
  simp only
  rw [Int.toNat_of_nonneg h3]
def manyP {α : Type} (p : St → α × St) : Nat → St → List α × St
  | 0, q => ([], q)
  | n + 1, q => if q.2 = 0 then ((p q).1 :: (manyP p n (p q).2).1, (manyP p n (p q).2).2) else ([], q)
theorem many_fwd {α : Type} {p : St → α × St} {enc : α → List Int} {ok : α → Prop} (h : ∀ x q r, ok x → Takes q (enc x) r → p q = (x, r)) : ∀ (l : List α) (q r : St), (∀ x ∈ l, ok x) → Takes q (l.flatMap enc) r → manyP p l.length q = (l, r)
  | [], q, r, _, ht => by
    rw [Takes.nil_eq ht]
    rfl
  | x :: l, q, r, hok, ht => by
    rw [List.flatMap_cons] at ht
    obtain ⟨k1, k2⟩ := ht.split
    have hx := h x q _ (hok x (by simp)) k1
    have ih := many_fwd h l _ r (fun y hy => hok y (by simp [hy])) k2
    simp only [List.length_cons, manyP]
    rw [if_pos ht.1, hx, ih]
def bodyE (c : S_Column) : List Int := textE c.f1 ++ (kindE c.f2 ++ ([if c.f3 = true then 1 else 0] ++ valE c.f4))
def bodyP (q : St) : S_Column × St :=
  (⟨0, (textP 16 q).1, (kindP (textP 16 q).2).1, (oneP 0 1 (kindP (textP 16 q).2).2).1 == 1, (valP (oneP 0 1 (kindP (textP 16 q).2).2).2).1⟩, (valP (oneP 0 1 (kindP (textP 16 q).2).2).2).2)
/-- What a column's body is read back of. -/
def BodyOk (c : S_Column) : Prop := c.f1.size ≤ 16 ∧ (1 ≤ c.f2.f0 ∧ c.f2.f0 ≤ 4 ∧ 0 ≤ c.f2.f1 ∧ c.f2.f1 ≤ 120) ∧ valB c.f4.f0 c.f4.f1 c.f4.f2 = true ∧ (Lit.int .i64 c.f4.f1).wf = true
theorem bodyP_fwd (c : S_Column) (q r : St) (h : BodyOk c) (ht : Takes q (bodyE c) r) : bodyP q = ({ c with f0 := 0 }, r) := by
  obtain ⟨h1, ⟨h2, h3, h4, h5⟩, h6, h7⟩ := h
  unfold bodyE at ht
  obtain ⟨k1, k⟩ := ht.split
  obtain ⟨k2, k⟩ := k.split
  obtain ⟨k3, k4⟩ := k.split
  unfold bodyP
  rw [textP_fwd k1 (by omega) (by omega)]
  simp only
  rw [kindP_fwd k2 h2 h3 h4 h5]
  simp only
  rw [oneP_fwd k3 (by split <;> decide) (by split <;> decide)]
  simp only
  rw [valP_fwd k4 h6 h7]
  congr 1
  obtain ⟨c0, c1, c2, c3, c4⟩ := c
  simp only
  congr 1
  cases c3 <;> rfl
def maxN : Int := 9223372036854775807
/-- The end of all: nothing may be left, and what was read has to be right. -/
def endP (right : Bool) (q : St) : Int := if (if q.1.size = 0 then q else fl 6 q).2 = 0 then (if right = true then 0 else 5) else (if q.1.size = 0 then q else fl 6 q).2
theorem valB_size {k n : Int} {s : ByteArray} (h : valB k n s = true) : s.size ≤ 120 := by
  unfold valB at h
  repeat' split at h
  all_goals first | (simp only [Bool.and_eq_true, decide_eq_true_eq] at h; omega) | (exact absurd h (by simp))
theorem refZig_eq (k : Nat) (n : Int) (h0 : -9223372036854775808 ≤ n) (h1 : n ≤ 9223372036854775807) : haulageref01_Zig k n = some (zigS n) := by
  unfold haulageref01_Zig zigS
  simp only [u64_eq]
  by_cases h : 0 ≤ n
  · rw [if_pos (show n ≥ 0 from h), if_pos h]
    congr 1
    omega
  · rw [if_neg (show ¬ n ≥ 0 from h), if_neg h, i64w ((-1) - n) (by omega) (by omega)]
    congr 1
    omega

theorem ris_eq (k : Nat) (n : Int) : haulageref03_Is k n = some (isB n) := by
  unfold haulageref03_Is isB
  simp only [ge_iff_le, gt_iff_lt]
  by_cases h1 : 0 ≤ n <;> by_cases h2 : n ≤ 1114111 <;> by_cases h3 : n < 55296 <;> simp [h1, h2, h3]
/-- The bytes of a sign. -/
def putU (n : Int) : List Int :=
  if n < 128 then [n] else if n < 2048 then [192 + n / 64, 128 + n % 64] else if n < 65536 then [224 + n / 4096, 128 + n / 64 % 64, 128 + n % 64] else [240 + n / 262144, 128 + n / 4096 % 64, 128 + n / 64 % 64, 128 + n % 64]
theorem putU_bytes (n : Int) (h : isB n = true) : Bytes (putU n) := by
  have h := (isB_iff n).1 h
  unfold putU
  intro x hx
  split at hx
  · simp only [List.mem_cons, List.not_mem_nil, or_false] at hx
    omega
  · split at hx
    · simp only [List.mem_cons, List.not_mem_nil, or_false] at hx
      rcases hx with rfl | rfl <;> omega
    · split at hx
      · simp only [List.mem_cons, List.not_mem_nil, or_false] at hx
        rcases hx with rfl | rfl | rfl <;> omega
      · simp only [List.mem_cons, List.not_mem_nil, or_false] at hx
        rcases hx with rfl | rfl | rfl | rfl <;> omega
theorem one_eq (k : Nat) (n : Int) (h0 : 0 ≤ n) (h1 : n ≤ 255) : haulageref03_one k n = some (strOfNums [n]) := by
  unfold haulageref03_one
  rw [show IntKind.u8.wrap n = n by simp [IntKind.wrap, IntKind.bits, IntKind.signed]; omega]
  rfl
theorem rput_eq (k : Nat) (n : Int) (h : isB n = true) : haulageref03_Put k n = some (strOfNums (putU n)) := by
  have h := (isB_iff n).1 h
  unfold haulageref03_Put putU
  have t1 : Int.tdiv n 64 = n / 64 := Int.tdiv_eq_ediv_of_nonneg h.1
  have t2 : Int.tdiv n 4096 = n / 4096 := Int.tdiv_eq_ediv_of_nonneg h.1
  have t3 : Int.tdiv n 262144 = n / 262144 := Int.tdiv_eq_ediv_of_nonneg h.1
  have t4 : Int.tmod n 64 = n % 64 := Int.tmod_eq_emod_of_nonneg h.1
  have t5 : Int.tmod (n / 64) 64 = n / 64 % 64 := Int.tmod_eq_emod_of_nonneg (by omega)
  have t6 : Int.tmod (n / 4096) 64 = n / 4096 % 64 := Int.tmod_eq_emod_of_nonneg (by omega)
  have hz : ∀ l : List Int, (strOfNums l).size = l.length := strOfNums_size
  by_cases h1 : n < 128
  · rw [if_pos h1, if_pos h1, one_eq k n h.1 (by omega), Option.bind_some]
  · rw [if_neg h1, if_neg h1]
    rw [t1, t2, t3, t4, i64w (n / 64) (by omega) (by omega), i64w (n / 4096) (by omega) (by omega), i64w (n / 262144) (by omega) (by omega), t5, t6,
      i64w (192 + n / 64) (by omega) (by omega), i64w (128 + n % 64) (by omega) (by omega), i64w (224 + n / 4096) (by omega) (by omega), i64w (128 + n / 64 % 64) (by omega) (by omega), i64w (240 + n / 262144) (by omega) (by omega), i64w (128 + n / 4096 % 64) (by omega) (by omega)]
    by_cases h2 : n < 2048
    · rw [if_pos h2, if_pos h2, one_eq k _ (by omega) (by omega), one_eq k (128 + n % 64) (by omega) (by omega)]
      simp only [Option.bind_some]
      rw [if_pos (by rw [hz, hz]; simp), ← strOfNums_append]
      rfl
    · rw [if_neg h2, if_neg h2]
      by_cases h3 : n < 65536
      · rw [if_pos h3, if_pos h3, one_eq k _ (by omega) (by omega), one_eq k (128 + n / 64 % 64) (by omega) (by omega), one_eq k (128 + n % 64) (by omega) (by omega)]
        simp only [Option.bind_some]
        rw [if_pos (by rw [hz, hz]; simp), ← strOfNums_append, if_pos (by rw [hz, hz]; simp), ← strOfNums_append]
        rfl
      · rw [if_neg h3, if_neg h3, one_eq k _ (by omega) (by omega), one_eq k (128 + n / 4096 % 64) (by omega) (by omega), one_eq k (128 + n / 64 % 64) (by omega) (by omega), one_eq k (128 + n % 64) (by omega) (by omega)]
        simp only [Option.bind_some]
        rw [if_pos (by rw [hz, hz]; simp), ← strOfNums_append, if_pos (by rw [hz, hz]; simp), ← strOfNums_append, if_pos (by rw [hz, hz]; simp), ← strOfNums_append]
        rfl
/-- What the reference's loop over a size's bytes comes to: found, or on with the next size. -/
theorem rl1_end (s : ByteArray) (size : Nat) (n i : Int) (h : ¬ i < (size : Int)) (hz : size ≤ s.size) (h4 : size ≤ 4) (r : Int × Int × Bool)
    (hy : isB n = true → putU n = (byt s).take size → r = (n, (size : Int), true)) (hn : ¬ (isB n = true ∧ putU n = (byt s).take size) → Ev (fun k => haulageref03_Read.l0 k s ((size + 1 : Nat) : Int)) r) : Ev (fun k => haulageref03_Read.l1 k s (size : Int) n i) r := by
  by_cases h1 : isB n = true
  · have hc : (strOfNums (putU n)).toList = (s.extract 0 size).toList ↔ putU n = (byt s).take size := by
      rw [ba_iff]
      constructor
      · intro e
        have := congrArg byt e
        rw [byt_str (putU_bytes n h1), byt_to] at this
        exact this
      · intro e
        rw [e, ← byt_to, str_byt]
    by_cases h2 : putU n = (byt s).take size
    · rw [hy h1 h2]
      refine Ev.step (f := fun _ => some (n, (size : Int), true)) (fun k => ?_) (Ev.now _)
      simp only [haulageref03_Read.l1]
      rw [if_neg h, ris_eq, Option.bind_some, if_pos h1, rput_eq k n h1, Option.bind_some, if_pos (by omega), if_pos (by omega), show ((size : Int)).toNat = size by omega, show (0 : Int).toNat = 0 from rfl, if_pos (hc.2 h2)]
    · refine Ev.step (fun k => ?_) (hn (fun e => h2 e.2))
      simp only [haulageref03_Read.l1]
      rw [if_neg h, ris_eq, Option.bind_some, if_pos h1, rput_eq k n h1, Option.bind_some, if_pos (by omega), if_pos (by omega), show ((size : Int)).toNat = size by omega, show (0 : Int).toNat = 0 from rfl, if_neg (fun e => h2 (hc.1 e)), i64w_succ _ (by omega)]
  · refine Ev.step (fun k => ?_) (hn (fun e => h1 e.1))
    simp only [haulageref03_Read.l1]
    rw [if_neg h, ris_eq, Option.bind_some, if_neg h1, i64w_succ _ (by omega)]
theorem rl1_step (s : ByteArray) (size : Int) (n b : Int) (i : Nat) (h : (i : Int) < size) (hi : i < s.size) (hs : s.size ≤ 9223372036854775807) (hb : bt s (i : Int) = b) (hb0 : 0 ≤ b) (hb1 : b ≤ 255) (hn0 : -1000000000 ≤ n) (hn : n ≤ 1000000000) (r : Int × Int × Bool)
    (hk : Ev (fun k => haulageref03_Read.l1 k s size (n * 64 + (b - 128)) ((i + 1 : Nat) : Int)) r) : Ev (fun k => haulageref03_Read.l1 k s size n (i : Int)) r := by
  refine Ev.step (fun k => ?_) hk
  simp only [haulageref03_Read.l1]
  rw [if_pos h, if_pos (by omega), if_pos (by omega), hb, i64w (n * 64) (by omega) (by omega), i64w b (by omega) (by omega), i64w (n * 64 + b) (by omega) (by omega), i64w (n * 64 + b - 128) (by omega) (by omega), i64w_succ _ (by omega), show n * 64 + b - 128 = n * 64 + (b - 128) by omega]
/-- A size's turn. -/
theorem rl0_go (s : ByteArray) (size : Nat) (h0 : 1 ≤ size) (h4 : size ≤ 4) (hz : size ≤ s.size) (c : Int) (hc : bt s 0 = c) (hc0 : 0 ≤ c) (hc1 : c ≤ 255) (r : Int × Int × Bool)
    (hk : Ev (fun k => haulageref03_Read.l1 k s (size : Int) (if size = 2 then c - 192 else if size = 3 then c - 224 else if size = 4 then c - 240 else c) ((1 : Nat) : Int)) r) : Ev (fun k => haulageref03_Read.l0 k s (size : Int)) r := by
  have w : IntKind.i64.wrap c = c := i64w c (by omega) (by omega)
  refine Ev.step (fun k => ?_) hk
  simp only [haulageref03_Read.l0]
  rw [if_pos (by omega), if_pos (by omega), if_pos (by omega), hc, w, i64w (c - 192) (by omega) (by omega)]
  by_cases e2 : size = 2
  · subst e2; rfl
  by_cases e3 : size = 3
  · subst e3; simp only; rw [i64w (c - 224) (by omega) (by omega)]; rfl
  by_cases e4 : size = 4
  · subst e4; simp only; rw [i64w (c - 240) (by omega) (by omega)]; rfl
  rw [if_neg (by omega), if_neg (by omega), if_neg (by omega), if_neg e2, if_neg e3, if_neg e4]
  rfl
theorem rl0_stop (s : ByteArray) (size : Nat) (h : 4 < size ∨ s.size < size) : Ev (fun k => haulageref03_Read.l0 k s (size : Int)) (0, 0, false) := by
  refine Ev.step (f := fun _ => some (0, 0, false)) (fun k => ?_) (Ev.now _)
  simp only [haulageref03_Read.l0]
  by_cases h4 : size ≤ 4
  · rw [if_pos (by omega), if_neg (by omega)]
  · rw [if_neg (by omega)]
theorem put1 (c : Int) (hc : 0 ≤ c ∧ c ≤ 255) : putU c = [c] ↔ c < 128 := by
  unfold putU
  split
  · simp_all
  · split
    · simp; omega
    · split
      · simp; omega
      · simp; omega
theorem put2 (c b1 : Int) (hc : 0 ≤ c ∧ c ≤ 255) (h1 : 0 ≤ b1 ∧ b1 ≤ 255) : (isB ((c - 192) * 64 + (b1 - 128)) = true ∧ putU ((c - 192) * 64 + (b1 - 128)) = [c, b1]) ↔ (c / 32 = 6 ∧ b1 / 64 = 2 ∧ isB ((c - 192) * 64 + (b1 - 128)) = true ∧ 128 ≤ (c - 192) * 64 + (b1 - 128)) := by
  generalize hn : (c - 192) * 64 + (b1 - 128) = n
  rw [isB_iff]
  unfold putU
  split
  · simp; omega
  · split
    · simp only [List.cons.injEq, and_true]
      omega
    · split
      · simp; omega
      · simp; omega
theorem put3 (c b1 b2 : Int) (hc : 0 ≤ c ∧ c ≤ 255) (h1 : 0 ≤ b1 ∧ b1 ≤ 255) (h2 : 0 ≤ b2 ∧ b2 ≤ 255) : (isB (((c - 224) * 64 + (b1 - 128)) * 64 + (b2 - 128)) = true ∧ putU (((c - 224) * 64 + (b1 - 128)) * 64 + (b2 - 128)) = [c, b1, b2]) ↔ (c / 16 = 14 ∧ b1 / 64 = 2 ∧ b2 / 64 = 2 ∧ isB (((c - 224) * 64 + (b1 - 128)) * 64 + (b2 - 128)) = true ∧ 2048 ≤ ((c - 224) * 64 + (b1 - 128)) * 64 + (b2 - 128)) := by
  generalize hn : ((c - 224) * 64 + (b1 - 128)) * 64 + (b2 - 128) = n
  rw [isB_iff]
  unfold putU
  split
  · simp; omega
  · split
    · simp; omega
    · split
      · simp only [List.cons.injEq, and_true]
        omega
      · simp; omega
theorem put4 (c b1 b2 b3 : Int) (hc : 0 ≤ c ∧ c ≤ 255) (h1 : 0 ≤ b1 ∧ b1 ≤ 255) (h2 : 0 ≤ b2 ∧ b2 ≤ 255) (h3 : 0 ≤ b3 ∧ b3 ≤ 255) : (isB ((((c - 240) * 64 + (b1 - 128)) * 64 + (b2 - 128)) * 64 + (b3 - 128)) = true ∧ putU ((((c - 240) * 64 + (b1 - 128)) * 64 + (b2 - 128)) * 64 + (b3 - 128)) = [c, b1, b2, b3]) ↔ (c / 8 = 30 ∧ b1 / 64 = 2 ∧ b2 / 64 = 2 ∧ b3 / 64 = 2 ∧ isB ((((c - 240) * 64 + (b1 - 128)) * 64 + (b2 - 128)) * 64 + (b3 - 128)) = true ∧ 65536 ≤ (((c - 240) * 64 + (b1 - 128)) * 64 + (b2 - 128)) * 64 + (b3 - 128)) := by
  generalize hn : (((c - 240) * 64 + (b1 - 128)) * 64 + (b2 - 128)) * 64 + (b3 - 128) = n
  rw [isB_iff]
  unfold putU
  split
  · simp; omega
  · split
    · simp; omega
    · split
      · simp; omega
      · simp only [List.cons.injEq, and_true]
        omega
theorem rread_ev (s : ByteArray) (hs : s.size ≤ 9223372036854775807) : Ev (fun k => haulageref03_Read k s) (sgn (byt s)) := by
  have hlen := byt_len s
  have hby := byt_bytes s
  unfold haulageref03_Read
  show Ev (fun k => haulageref03_Read.l0 k s ((1 : Nat) : Int)) (sgn (byt s))
  generalize hl : byt s = l at hlen hby
  cases l with
  | nil => exact rl0_stop s 1 (.inr (by rw [← hlen]; decide))
  | cons c r =>
    have hz : s.size = r.length + 1 := by rw [← hlen]; rfl
    have hc := hby c (by simp)
    have e0 : bt s 0 = c := byt_at hl 0 c rfl
    refine rl0_go s 1 (by omega) (by omega) (by omega) c e0 hc.1 hc.2 _ ?_
    refine rl1_end s 1 c _ (by omega) (by omega) (by omega) _ (fun hb hp => ?_) (fun hno => ?_)
    · rw [hl] at hp
      have h1 := (put1 c hc).1 hp
      simp only [sgn, if_pos h1]
      rfl
    · rw [hl] at hno
      have h1 : ¬ c < 128 := fun h => hno ⟨(isB_iff c).2 (by omega), (put1 c hc).2 h⟩
      simp only [sgn, if_neg h1]
      show Ev (fun k => haulageref03_Read.l0 k s ((2 : Nat) : Int)) _
      cases r with
      | nil =>
        refine Ev.eq (rl0_stop s 2 (.inr (by simp at hz; omega))) ?_
        dsimp only
        split <;> (try split) <;> (try split) <;> rfl
      | cons b1 r =>
        simp only [List.length_cons] at hz
        have q1 := hby b1 (by simp)
        refine rl0_go s 2 (by omega) (by omega) (by omega) c e0 hc.1 hc.2 _ ?_
        rw [if_pos rfl]
        refine rl1_step s _ _ b1 1 (by omega) (by omega) hs (byt_at hl 1 b1 rfl) q1.1 q1.2 (by omega) (by omega) _ ?_
        have p2 := put2 c b1 hc q1
        refine rl1_end s 2 _ _ (by omega) (by omega) (by omega) _ (fun hb hp => ?_) (fun hno => ?_)
        · rw [hl] at hp
          obtain ⟨a1, a2, a3, a4⟩ := p2.1 ⟨hb, hp⟩
          rw [if_pos a1]
          dsimp only
          rw [if_pos a2]
          unfold finU
          rw [if_pos ⟨a3, a4⟩]
          rfl
        · rw [hl] at hno
          have hno : ¬ (c / 32 = 6 ∧ b1 / 64 = 2 ∧ isB ((c - 192) * 64 + (b1 - 128)) = true ∧ 128 ≤ (c - 192) * 64 + (b1 - 128)) := fun h => hno (p2.2 h)
          show Ev (fun k => haulageref03_Read.l0 k s ((3 : Nat) : Int)) _
          have hk : Ev (fun k => haulageref03_Read.l0 k s ((3 : Nat) : Int)) (if c / 16 = 14 then (match b1 :: r with | b1 :: b2 :: _ => if b1 / 64 = 2 then (if b2 / 64 = 2 then finU (((c - 224) * 64 + (b1 - 128)) * 64 + (b2 - 128)) 2048 3 else (0, 0, false)) else (0, 0, false) | _ => (0, 0, false))
              else if c / 8 = 30 then (match b1 :: r with | b1 :: b2 :: b3 :: _ => if b1 / 64 = 2 then (if b2 / 64 = 2 then (if b3 / 64 = 2 then finU ((((c - 240) * 64 + (b1 - 128)) * 64 + (b2 - 128)) * 64 + (b3 - 128)) 65536 4 else (0, 0, false)) else (0, 0, false)) else (0, 0, false) | _ => (0, 0, false)) else (0, 0, false)) := by
            cases r with
            | nil =>
              refine Ev.eq (rl0_stop s 3 (.inr (by simp at hz; omega))) ?_
              dsimp only
              split <;> (try split) <;> rfl
            | cons b2 r =>
              simp only [List.length_cons] at hz
              have q2 := hby b2 (by simp)
              refine rl0_go s 3 (by omega) (by omega) (by omega) c e0 hc.1 hc.2 _ ?_
              rw [if_neg (by decide), if_pos rfl]
              refine rl1_step s _ _ b1 1 (by omega) (by omega) hs (byt_at hl 1 b1 rfl) q1.1 q1.2 (by omega) (by omega) _ ?_
              refine rl1_step s _ _ b2 2 (by omega) (by omega) hs (byt_at hl 2 b2 rfl) q2.1 q2.2 (by omega) (by omega) _ ?_
              have p3 := put3 c b1 b2 hc q1 q2
              refine rl1_end s 3 _ _ (by omega) (by omega) (by omega) _ (fun hb hp => ?_) (fun hno3 => ?_)
              · rw [hl] at hp
                obtain ⟨a1, a2, a3, a4, a5⟩ := p3.1 ⟨hb, hp⟩
                rw [if_pos a1]
                dsimp only
                rw [if_pos a2, if_pos a3]
                unfold finU
                rw [if_pos ⟨a4, a5⟩]
                rfl
              · rw [hl] at hno3
                have hno3 : ¬ (c / 16 = 14 ∧ b1 / 64 = 2 ∧ b2 / 64 = 2 ∧ isB (((c - 224) * 64 + (b1 - 128)) * 64 + (b2 - 128)) = true ∧ 2048 ≤ ((c - 224) * 64 + (b1 - 128)) * 64 + (b2 - 128)) := fun h => hno3 (p3.2 h)
                show Ev (fun k => haulageref03_Read.l0 k s ((4 : Nat) : Int)) _
                have hk4 : Ev (fun k => haulageref03_Read.l0 k s ((4 : Nat) : Int)) (if c / 8 = 30 then (match b1 :: b2 :: r with | b1 :: b2 :: b3 :: _ => if b1 / 64 = 2 then (if b2 / 64 = 2 then (if b3 / 64 = 2 then finU ((((c - 240) * 64 + (b1 - 128)) * 64 + (b2 - 128)) * 64 + (b3 - 128)) 65536 4 else (0, 0, false)) else (0, 0, false)) else (0, 0, false) | _ => (0, 0, false)) else (0, 0, false)) := by
                  cases r with
                  | nil =>
                    refine Ev.eq (rl0_stop s 4 (.inr (by simp at hz; omega))) ?_
                    dsimp only
                    split <;> rfl
                  | cons b3 r =>
                    simp only [List.length_cons] at hz
                    have q3 := hby b3 (by simp)
                    refine rl0_go s 4 (by omega) (by omega) (by omega) c e0 hc.1 hc.2 _ ?_
                    rw [if_neg (by decide), if_neg (by decide), if_pos rfl]
                    refine rl1_step s _ _ b1 1 (by omega) (by omega) hs (byt_at hl 1 b1 rfl) q1.1 q1.2 (by omega) (by omega) _ ?_
                    refine rl1_step s _ _ b2 2 (by omega) (by omega) hs (byt_at hl 2 b2 rfl) q2.1 q2.2 (by omega) (by omega) _ ?_
                    refine rl1_step s _ _ b3 3 (by omega) (by omega) hs (byt_at hl 3 b3 rfl) q3.1 q3.2 (by omega) (by omega) _ ?_
                    have p4 := put4 c b1 b2 b3 hc q1 q2 q3
                    refine rl1_end s 4 _ _ (by omega) (by omega) (by omega) _ (fun hb hp => ?_) (fun hno4 => ?_)
                    · rw [hl] at hp
                      obtain ⟨a1, a2, a3, a4, a5, a6⟩ := p4.1 ⟨hb, hp⟩
                      rw [if_pos a1]
                      dsimp only
                      rw [if_pos a2, if_pos a3, if_pos a4]
                      unfold finU
                      rw [if_pos ⟨a5, a6⟩]
                      rfl
                    · rw [hl] at hno4
                      have hno4 : ¬ (c / 8 = 30 ∧ b1 / 64 = 2 ∧ b2 / 64 = 2 ∧ b3 / 64 = 2 ∧ isB ((((c - 240) * 64 + (b1 - 128)) * 64 + (b2 - 128)) * 64 + (b3 - 128)) = true ∧ 65536 ≤ (((c - 240) * 64 + (b1 - 128)) * 64 + (b2 - 128)) * 64 + (b3 - 128)) := fun h => hno4 (p4.2 h)
                      refine Ev.eq (rl0_stop s 5 (.inl (by omega))) ?_
                      dsimp only
                      by_cases x1 : c / 8 = 30
                      · rw [if_pos x1]
                        by_cases x2 : b1 / 64 = 2
                        · rw [if_pos x2]
                          by_cases x3 : b2 / 64 = 2
                          · rw [if_pos x3]
                            by_cases x4 : b3 / 64 = 2
                            · rw [if_pos x4]
                              unfold finU
                              rw [if_neg (fun e => hno4 ⟨x1, x2, x3, x4, e⟩)]
                            · rw [if_neg x4]
                          · rw [if_neg x3]
                        · rw [if_neg x2]
                      · rw [if_neg x1]
                by_cases x0 : c / 16 = 14
                · rw [if_pos x0]
                  rw [if_neg (by omega)] at hk4
                  refine Ev.eq hk4 ?_
                  dsimp only
                  by_cases x2 : b1 / 64 = 2
                  · rw [if_pos x2]
                    by_cases x3 : b2 / 64 = 2
                    · rw [if_pos x3]
                      unfold finU
                      rw [if_neg (fun e => hno3 ⟨x0, x2, x3, e⟩)]
                    · rw [if_neg x3]
                  · rw [if_neg x2]
                · rw [if_neg x0]
                  exact hk4
          by_cases x0 : c / 32 = 6
          · rw [if_pos x0]
            rw [if_neg (by omega), if_neg (by omega)] at hk
            refine Ev.eq hk ?_
            dsimp only
            by_cases x2 : b1 / 64 = 2
            · rw [if_pos x2]
              unfold finU
              rw [if_neg (fun e => hno ⟨x0, x2, e⟩)]
            · rw [if_neg x2]
          · rw [if_neg x0]
            exact hk
theorem rsigns_l0 (d : Nat) : ∀ (s : ByteArray) (acc : List Int), s.size ≤ d → s.size ≤ 1000000000 → acc.length + s.size < 17592186044416 → Ev (fun k => (haulageref03_Signs.l0 k s acc).bind fun b => some b.2) (utfD d (byt s)) := by
  induction d with
  | zero =>
    intro s acc hd _ _
    have hz : s.size = 0 := by omega
    refine Ev.bind (a := (acc, true)) (Ev.step (f := fun _ => some (acc, true)) (fun k => ?_) (Ev.now _)) ?_
    · simp only [haulageref03_Signs.l0]
      rw [if_pos ((ba_nil0 s).2 hz)]
    · have : byt s = [] := List.length_eq_zero_iff.1 (by rw [byt_len]; exact hz)
      rw [this]
      exact Ev.now _
  | succ d ih =>
    intro s acc hd hs ha
    by_cases hz : s.size = 0
    · have : byt s = [] := List.length_eq_zero_iff.1 (by rw [byt_len]; exact hz)
      rw [this]
      simp only [utfD]
      rw [if_pos (by trivial)]
      refine Ev.bind (a := (acc, true)) (Ev.step (f := fun _ => some (acc, true)) (fun k => ?_) (Ev.now _)) (Ev.now _)
      simp only [haulageref03_Signs.l0]
      rw [if_pos ((ba_nil0 s).2 hz)]
    · have hne : ¬ byt s = [] := fun e => hz (by rw [← byt_len, e]; rfl)
      simp only [utfD]
      rw [if_neg hne]
      have hok := sgn_ok (byt s)
      rw [byt_len] at hok
      obtain ⟨K, hK⟩ := rread_ev s (by omega)
      by_cases h1 : (sgn (byt s)).2.2 = true
      · rw [if_pos h1]
        obtain ⟨h2, h3⟩ := hok h1
        have hc := byt_cut s (sgn (byt s)).2.1.toNat
        have := ih (s.extract (sgn (byt s)).2.1.toNat s.size) (acc ++ [(sgn (byt s)).1]) (by rw [ByteArray.size_extract]; omega) (by rw [ByteArray.size_extract]; omega) (by rw [List.length_append, List.length_singleton, ByteArray.size_extract]; omega)
        rw [hc] at this
        obtain ⟨K2, hK2⟩ := this
        refine ⟨K + K2 + 1, fun k hk => ?_⟩
        obtain ⟨m, rfl⟩ : ∃ m, k = m + 1 := ⟨k - 1, by omega⟩
        have e1 : haulageref03_Read m s = some (sgn (byt s)) := hK m (by omega)
        have e2 := hK2 m (by omega)
        simp only [haulageref03_Signs.l0]
        rw [if_neg (fun e => hz ((ba_nil0 s).1 e)), e1, Option.bind_some, if_pos h1, if_pos (by omega), if_pos (by omega), if_pos (by omega)]
        exact e2
      · rw [if_neg h1]
        refine ⟨K + 1, fun k hk => ?_⟩
        obtain ⟨m, rfl⟩ : ∃ m, k = m + 1 := ⟨k - 1, by omega⟩
        have e1 : haulageref03_Read m s = some (sgn (byt s)) := hK m (by omega)
        simp only [haulageref03_Signs.l0]
        rw [if_neg (fun e => hz ((ba_nil0 s).1 e)), e1, Option.bind_some, if_neg h1]
        rfl
theorem rutf_ev (s : ByteArray) (hs : s.size ≤ 1000000000) : Ev (fun k => haulageref03_Right k s) (utfB s) := rsigns_l0 s.size s [] (Nat.le_refl _) hs (by simp; omega)

theorem refHalf_l0 (b : Nat) (hb : b ≤ 63) (d : Nat) : ∀ i : Nat, i + d = b → 1 ≤ i → Ev (fun k => haulageref01_Half.l0 k (b : Int) (2 ^ (i - 1)) (i : Int)) (2 ^ (b - 1)) := by
  induction d with
  | zero =>
    intro i hi h1
    refine Ev.step (f := fun _ => some (2 ^ (b - 1))) (fun k => ?_) (Ev.now _)
    simp only [haulageref01_Half.l0]
    rw [if_neg (by omega), show i = b by omega]
  | succ d ih =>
    intro i hi h1
    refine Ev.step (f := fun k => haulageref01_Half.l0 k (b : Int) (2 ^ (i + 1 - 1)) ((i + 1 : Nat) : Int)) (fun k => ?_) (ih (i + 1) (by omega) (by omega))
    simp only [haulageref01_Half.l0]
    have h3 : (2 : Int) ^ i ≤ 2 ^ 62 := by
      have : (2 : Nat) ^ i ≤ 2 ^ 62 := Nat.pow_le_pow_right (by decide) (by omega)
      exact_mod_cast this
    have h4 := p2_pos i
    have h5 := p2_half i h1
    have h6 : (2 : Int) ^ 62 = 4611686018427387904 := by decide
    rw [if_pos (by omega), show IntKind.i64.wrap ((i : Int) + 1) = ((i + 1 : Nat) : Int) by rw [i64_eq]; unfold wrap64; omega, show IntKind.i64.wrap (2 * 2 ^ (i - 1)) = 2 ^ (i + 1 - 1) by rw [Nat.add_sub_cancel, ← h5, i64_eq]; unfold wrap64; omega]

theorem refHalf_ev (b : Nat) (h1 : 1 ≤ b) (hb : b ≤ 63) : Ev (fun k => haulageref01_Half k (b : Int)) (2 ^ (b - 1)) := by
  have := refHalf_l0 b hb (b - 1) 1 (by omega) (by omega)
  simpa [haulageref01_Half] using this

theorem p2_le62 (b : Nat) (hb : b ≤ 62) : (2 : Int) ^ b ≤ 4611686018427387904 := by
  have h3 : (2 : Int) ^ b ≤ 2 ^ 62 := by
    have : (2 : Nat) ^ b ≤ 2 ^ 62 := Nat.pow_le_pow_right (by decide) hb
    exact_mod_cast this
  have h6 : (2 : Int) ^ 62 = 4611686018427387904 := by decide
  omega

theorem refFits_ev (n : Int) (b : Nat) (h1 : 1 ≤ b) (h2 : b ≤ 64) (hn0 : -9223372036854775808 ≤ n) (hn1 : n ≤ 9223372036854775807) : Ev (fun k => haulageref01_Fits k n (b : Int)) (lowS n b == n) := by
  unfold haulageref01_Fits
  refine Ev.no (by omega) (Ev.no (by omega) ?_)
  by_cases e : b = 64
  · subst e
    refine Ev.yes (by omega) ?_
    rw [lowS_id n 64 (by decide) (by simp; omega) (by simp; omega)]
    rw [show (n == n) = true by simp]
    exact Ev.now _
  · have h3 := p2_le62 (b - 1) (by omega)
    have h4 := p2_pos (b - 1)
    refine Ev.no (by omega) (Ev.bind (refHalf_ev b h1 (by omega)) ?_)
    rw [show IntKind.i64.wrap (0 - 2 ^ (b - 1)) = -2 ^ (b - 1) by rw [i64_eq]; unfold wrap64; omega]
    have hi := lowS_iff n b h1
    refine Ev.ite (fun c => Ev.bind (refHalf_ev b h1 (by omega)) ?_) (fun c => ?_)
    · rw [show decide (n < 2 ^ (b - 1)) = (lowS n b == n) by
        rw [Bool.eq_iff_iff, decide_eq_true_iff, beq_iff_eq, hi]; exact ⟨fun h => ⟨c, h⟩, fun h => h.2⟩]
      exact Ev.now _
    · rw [show (lowS n b == n) = false by rw [beq_eq_false_iff_ne]; exact fun h => c (hi.1 h).1]
      exact Ev.now _

theorem rfits32_ev (n : Int) (h : (Lit.int .i64 n).wf = true) : Ev (fun k => haulageref01_Fits k n 32) (fits32 n) := by
  have h := wf_i64 h
  have := refFits_ev n 32 (by decide) (by decide) h.1 h.2
  rw [lowS32] at this
  exact this
theorem rtyp_eq (k : Nat) (kind mx : Int) : haulageref06_Right k kind mx = some (typB kind mx) := by
  unfold typB
  simp only [haulageref06_Right, ge_iff_le]
  by_cases h1 : kind = 1
  · simp [h1, beq_dec]
  · by_cases h2 : kind = 2
    · simp [h2, beq_dec]
    · by_cases h3 : kind = 3
      · subst h3
        by_cases h5 : 1 ≤ mx <;> simp [h5]
      · by_cases h4 : kind = 4
        · subst h4
          by_cases h5 : 1 ≤ mx <;> simp [h5]
        · simp [h1, h2, h3, h4]
theorem nil_dec (s : ByteArray) : (s.toList == ([] : List UInt8)) = decide (s.size = 0) := by
  rw [Bool.eq_iff_iff, beq_iff_eq, ba_nil, decide_eq_true_iff]
theorem rval_ev (kind n : Int) (s : ByteArray) (hs : s.size ≤ 1000000000) (hn : (Lit.int .i64 n).wf = true) : Ev (fun k => haulageref05_Right k kind n s) (valB kind n s) := by
  refine Ev.flat2 0 (rfits32_ev n hn) (rutf_ev s hs) (fun m h1 h2 => ?_)
  have h1 := h1 0
  have h2 := h2 0
  simp only [Nat.add_zero] at h1 h2 ⊢
  have e120 : ((s.size : Int) ≤ 120) = (s.size ≤ 120) := propext ⟨fun h => by omega, fun h => by omega⟩
  unfold valB
  simp only [haulageref05_Right, h1, h2, Option.bind_some, ba_nil0, e120]
  by_cases k0 : kind = 0
  · subst k0; by_cases q : n = 0 <;> simp [q]
  by_cases k1 : kind = 1
  · subst k1; cases fits32 n <;> simp
  by_cases k2 : kind = 2
  · subst k2; simp
  by_cases k3 : kind = 3
  · subst k3; by_cases q : n = 0 <;> by_cases r : s.size ≤ 120 <;> simp [q, r]
  by_cases k4 : kind = 4
  · subst k4; by_cases q : n = 0 <;> simp [q]
  simp [k0, k1, k2, k3, k4]
theorem rfit_ev (tk tm vk vn : Int) (vs : ByteArray) (hs : vs.size ≤ 1000000000) (hn : (Lit.int .i64 vn).wf = true) : Ev (fun k => haulageref06_Fits k tk tm vk vn vs) (fitB tk tm vk vn vs) := by
  refine Ev.flat1 0 (rval_ev vk vn vs hs hn) (fun m h1 => ?_)
  have h1 := h1 0
  simp only [Nat.add_zero] at h1 ⊢
  unfold fitB
  simp only [haulageref06_Fits, rtyp_eq, h1, Option.bind_some]
  cases typB tk tm <;> cases hv : valB vk vn vs <;> by_cases q : vk = tk <;> by_cases r : tk < 3 <;> simp [q, r]

theorem letter_eq (k : Nat) (c : Int) : haulageref04_letter k c = some (decide (97 ≤ c ∧ c ≤ 122)) := by
  unfold haulageref04_letter
  simp only [ge_iff_le]
  by_cases h1 : 97 ≤ c <;> simp [h1]
theorem rpart_eq (k : Nat) (c : Int) : haulageref04_Part k c = some (decide ((97 ≤ c ∧ c ≤ 122) ∨ (48 ≤ c ∧ c ≤ 57) ∨ c = 95)) := by
  unfold haulageref04_Part
  rw [letter_eq, Option.bind_some]
  simp only [ge_iff_le]
  by_cases h1 : 97 ≤ c ∧ c ≤ 122
  · simp [h1]
  · by_cases h3 : 48 ≤ c <;> by_cases h4 : c ≤ 57 <;> by_cases h5 : c = 95 <;> simp [h1, h3, h4, h5]
theorem rnread_ev (s : ByteArray) (hs : s.size ≤ 9223372036854775807) : Ev (fun k => haulageref04_Read k s) (rdn s s.size 0) := by
  have h := down (P := fun i => Ev (fun k => haulageref04_Read.l0 k s (i : Int)) (rdn s (s.size - i) i)) (n := s.size)
    (by
      rw [Nat.sub_self]
      exact Ev.step (f := fun _ => some (s.size : Int)) (fun k => by simp only [haulageref04_Read.l0]; rw [if_neg (by omega)]) (Ev.now _))
    (fun i hi ih => by
      rw [show s.size - i = (s.size - (i + 1)) + 1 by omega]
      refine Ev.step (f := fun k => if partB (bt s (i : Int)) (i : Int) = true then haulageref04_Read.l0 k s ((i + 1 : Nat) : Int) else some (i : Int)) (fun k => ?_) (by
        simp only [rdn]
        exact Ev.ite (fun e => by rw [if_pos e]; exact ih) (fun e => by rw [if_neg e]; exact Ev.now _))
      simp only [haulageref04_Read.l0]
      rw [if_pos (by omega), if_pos (by omega), if_pos (by omega), rpart_eq, Option.bind_some, i64w_succ _ (by omega)]
      by_cases h1 : (97 ≤ bt s (i : Int) ∧ bt s (i : Int) ≤ 122) ∨ (48 ≤ bt s (i : Int) ∧ bt s (i : Int) ≤ 57) ∨ bt s (i : Int) = 95
      · rw [if_pos (by simpa using h1)]
        by_cases h2 : i = 0
        · subst h2
          rw [if_neg (by omega), if_pos (by omega), letter_eq, Option.bind_some]
          unfold partB
          by_cases h3 : 97 ≤ bt s 0 ∧ bt s 0 ≤ 122
          · have h3' : 97 ≤ bt s ((0 : Nat) : Int) ∧ bt s ((0 : Nat) : Int) ≤ 122 := h3
            rw [if_pos (by simpa using h3), if_pos h3', if_pos rfl]
          · have h3' : ¬ (97 ≤ bt s ((0 : Nat) : Int) ∧ bt s ((0 : Nat) : Int) ≤ 122) := h3
            rw [if_neg (by simpa using h3), if_neg h3']
            simp
        · rw [if_pos (by omega)]
          have : partB (bt s (i : Int)) (i : Int) = true := by
            unfold partB
            by_cases h3 : 97 ≤ bt s (i : Int) ∧ bt s (i : Int) ≤ 122
            · rw [if_pos h3]
            · rw [if_neg h3, if_pos (by rcases h1 with h1 | h1; exact absurd h1 h3; exact h1), decide_eq_true (by omega)]
          rw [if_pos this]
      · rw [if_neg (by simpa using h1)]
        have : partB (bt s (i : Int)) (i : Int) = false := by
          unfold partB
          rw [if_neg (fun e => h1 (.inl e)), if_neg (fun e => h1 (.inr e))]
        rw [if_neg (by rw [this]; simp)]) 0 (Nat.zero_le _)
  exact h
theorem rname_ev (s : ByteArray) (hs : s.size ≤ 9223372036854775807) : Ev (fun k => haulageref04_Right k s) (nameB s) := by
  unfold haulageref04_Right nameB
  by_cases h0 : s.size = 0
  · refine Ev.congr (f := fun _ => some false) (fun k => by rw [if_neg (by omega)]) ?_
    rw [decide_eq_false (by omega), Bool.false_and]
    exact Ev.now _
  · rw [decide_eq_true (by omega), Bool.true_and]
    by_cases h1 : s.size ≤ 16
    · rw [decide_eq_true h1, Bool.true_and]
      refine Ev.congr (fun k => by rw [if_pos (by omega), if_pos (by omega)]) ?_
      exact Ev.bind (rnread_ev s hs) (Ev.now _)
    · rw [decide_eq_false h1, Bool.false_and]
      exact Ev.congr (f := fun _ => some false) (fun k => by rw [if_pos (by omega), if_neg (by omega)]) (Ev.now _)

theorem rd_col (l : List S_Column) (i : Nat) (hi : i < l.length) : r_Column l (i : Int) = l[i] := by simp [r_Column, rd, List.getD, hi]
theorem rcol_l0 (a0 : Int) (a1 : ByteArray) (a2 a3 : Int) (nm : ByteArray) (l : List S_Column) (hb : l.length ≤ 9223372036854775807) : Ev (fun k => haulageref08_Col.l0 k nm (0 : Int) a0 a1 a2 a3 l) (scanR (fun c => decide (c.f1 = nm)) l 0) := by
  have h := down (P := fun i => Ev (fun k => haulageref08_Col.l0 k nm (i : Int) a0 a1 a2 a3 l) (scanR (fun c => decide (c.f1 = nm)) (l.drop i) i)) (n := l.length)
    (by rw [List.drop_length]; exact Ev.step (f := fun _ => some (-1)) (fun k => by simp only [haulageref08_Col.l0]; rw [if_neg (by omega)]) (Ev.now _))
    (fun i hi ih => by
      rw [List.drop_eq_getElem_cons hi]
      refine Ev.step (f := fun k => if (decide (l[i].f1 = nm)) = true then some (i : Int) else haulageref08_Col.l0 k nm ((i + 1 : Nat) : Int) a0 a1 a2 a3 l) (fun k => ?_) ?_
      · simp only [haulageref08_Col.l0]
        rw [if_pos (by omega), if_pos (by omega), if_pos (by omega), rd_col l i hi, i64w_succ _ (by omega)]
        simp only [ba_iff, decide_eq_true_eq]
      · simp only [scanR]
        split
        · exact Ev.now _
        · exact ih) 0 (Nat.zero_le _)
  exact h

theorem rcol_ev (a0 : Int) (a1 : ByteArray) (a2 a3 : Int) (l : List S_Column) (nm : ByteArray) (hb : l.length ≤ 9223372036854775807) : Ev (fun k => haulageref08_Col k a0 a1 a2 a3 l nm) (scanR (fun c => decide (c.f1 = nm)) l 0) := rcol_l0 a0 a1 a2 a3 nm l hb

theorem rcolumn_ev (c : S_Column) (h : OkCol c) : Ev (fun k => haulageref08_Column k c.f0 c.f1 c.f2.f0 c.f2.f1 c.f3 c.f4.f0 c.f4.f1 c.f4.f2) (colB c) := by
  refine Ev.flat2 0 (rname_ev c.f1 (by have := h.1; omega)) (rfit_ev c.f2.f0 c.f2.f1 c.f4.f0 c.f4.f1 c.f4.f2 h.2.1 h.2.2) (fun m h1 h2 => ?_)
  have h1 := h1 0
  have h2 := h2 0
  simp only [Nat.add_zero] at h1 h2 ⊢
  unfold colB
  simp only [haulageref08_Column, rtyp_eq, h1, h2, Option.bind_some, zeroV_text]
  by_cases q0 : c.f0 ≥ 0
  · by_cases q1 : c.f0 < 200
    · have q2 : 0 ≤ c.f0 ∧ c.f0 < 200 := by omega
      cases nameB c.f1 <;> cases typB c.f2.f0 c.f2.f1 <;> cases zeroV c.f4 <;> simp [q0, q1, q2]
    · simp [q0, q1]
  · simp [q0]
theorem scanR_mid {α : Type} (p : α → Bool) (c : α) (hc : p c = true) (r : List α) : ∀ (pre : List α) (off : Nat), scanR p (pre ++ c :: r) off = ((off + pre.length : Nat) : Int) ↔ pre.any p = false
  | [], off => by simp [scanR, hc]
  | x :: q, off => by
    have ih := scanR_mid p c hc r q (off + 1)
    simp only [List.cons_append, scanR, List.any_cons]
    by_cases h : p x = true
    · rw [if_pos h, h]
      simp only [List.length_cons, Bool.true_or, Bool.true_eq_false, iff_false]
      omega
    · rw [if_neg h]
      rw [Bool.not_eq_true] at h
      rw [h, Bool.false_or, ← ih, List.length_cons, show off + 1 + q.length = off + (q.length + 1) by omega]
theorem colB_id (c : S_Column) (h : colB c = true) : 0 ≤ c.f0 := by
  unfold colB at h
  rw [Bool.and_eq_true, decide_eq_true_iff] at h
  exact h.1.1
theorem rtable_ev (id : Int) (name : ByteArray) (key next : Int) (l : List S_Column) (hn : name.size ≤ 1000000000) (hok : ∀ c ∈ l, OkCol c) (hl : l.length ≤ 1000000000) : Ev (fun k => haulageref08_Table k id name key next l) (tabB id name key next l) := by
  have hl0 : Ev (fun k => haulageref08_Table.l0 k false 0 id name key next l) (tabGo next key l (-1) false []) := by
    have h := down (P := fun i => ∀ (last : Int) (kf : Bool), (i = 0 → last = -1) → (∀ (_ : 0 < i) (h : i - 1 < l.length), last = l[i - 1].f0) → (∀ j (h : j < l.length), j < i → l[j].f0 ≤ last) → (kf = true → ∃ j, ∃ h : j < l.length, j < i ∧ l[j].f0 = key) →
        Ev (fun k => haulageref08_Table.l0 k kf (i : Int) id name key next l) (tabGo next key (l.drop i) last kf ((l.take i).map (·.f1)))) (n := l.length)
      (fun last kf _ _ _ _ => by
        rw [List.drop_length]
        exact Ev.step (f := fun _ => some kf) (fun k => by simp only [haulageref08_Table.l0]; rw [if_neg (by omega)]) (Ev.now _))
      (fun i hi ih last kf hl1 hl2 hl3 hkf => by
        rw [List.drop_eq_getElem_cons hi]
        have hc := hok _ (List.getElem_mem hi)
        have hsplit : l = l.take i ++ l[i] :: l.drop (i + 1) := by rw [← List.drop_eq_getElem_cons hi, List.take_append_drop]
        have htk : (l.take i).map (·.f1) ++ [l[i].f1] = (l.take (i + 1)).map (·.f1) := by rw [List.take_succ_eq_append_getElem hi, List.map_append]; rfl
        generalize hci : l[i] = c at hc hsplit htk
        have hrd : r_Column l (i : Int) = c := by rw [rd_col l i hi, hci]
        have hfirst : scanR (fun x => decide (x.f1 = c.f1)) l 0 = (i : Int) ↔ hpHas ((l.take i).map (·.f1)) c.f1 = false := by
          have h1 := scanR_mid (fun x : S_Column => decide (x.f1 = c.f1)) c (by simp) (l.drop (i + 1)) (l.take i) 0
          rw [← hsplit, List.length_take, Nat.min_eq_left (by omega), Nat.zero_add] at h1
          rw [h1]
          unfold hpHas
          rw [List.any_map]
          rfl
        have hcolev : Ev (fun k => haulageref08_Col k id name key next l c.f1) (scanR (fun x => decide (x.f1 = c.f1)) l 0) := rcol_ev id name key next l c.f1 (by omega)
        have hfin : colB c = true → last < c.f0 → c.f0 < next → Ev (fun k => (haulageref08_Col k id name key next l c.f1).bind fun t => if t = (i : Int) then (if kf = true then haulageref08_Table.l0 k true ((i + 1 : Nat) : Int) id name key next l else if c.f0 = key then haulageref08_Table.l0 k (!c.f3) ((i + 1 : Nat) : Int) id name key next l else haulageref08_Table.l0 k false ((i + 1 : Nat) : Int) id name key next l) else some false) (tabGo next key (c :: l.drop (i + 1)) last kf ((l.take i).map (·.f1))) := fun g1 g2 g3 => by
          refine Ev.bind hcolev ?_
          simp only [tabGo]
          by_cases h4 : hpHas ((l.take i).map (·.f1)) c.f1 = false
          · rw [if_pos ⟨g1, g2, g3, h4⟩, htk]
            refine Ev.yes (hfirst.2 h4) ?_
            have hkey : c.f0 = key → kf = false := fun e => by
              cases hkv : kf
              · rfl
              · obtain ⟨j, hj, hji, he⟩ := hkf hkv
                have := hl3 j hj hji
                omega
            have hih : ∀ kf2 : Bool, (kf2 = true → kf = true ∨ c.f0 = key) → Ev (fun k => haulageref08_Table.l0 k kf2 ((i + 1 : Nat) : Int) id name key next l) (tabGo next key (l.drop (i + 1)) c.f0 kf2 ((l.take (i + 1)).map (·.f1))) := fun kf2 hk2 => by
              refine ih c.f0 kf2 (fun e => by omega) (fun _ h => ?_) (fun j hj hji => ?_) (fun e => ?_)
              · simp only [Nat.add_sub_cancel]
                rw [hci]
              · by_cases hje : j = i
                · subst hje
                  rw [hci]
                  exact Int.le_refl _
                · have := hl3 j hj (by omega)
                  omega
              · rcases hk2 e with e1 | e1
                · obtain ⟨j, hj, hji, he⟩ := hkf e1
                  exact ⟨j, hj, by omega, he⟩
                · exact ⟨i, hi, by omega, by rw [hci]; exact e1⟩
            by_cases hkt : kf = true
            · have hk : ¬ c.f0 = key := fun e => by rw [hkey e] at hkt; cases hkt
              rw [if_neg hk, hkt]
              exact Ev.yes rfl (hih true (fun _ => .inl hkt))
            · refine Ev.no hkt ?_
              by_cases hk : c.f0 = key
              · rw [if_pos hk]
                exact Ev.yes hk (hih _ (fun _ => .inr hk))
              · rw [if_neg hk]
                rw [Bool.not_eq_true] at hkt
                rw [hkt]
                exact Ev.no hk (hih false (fun e => by cases e))
          · rw [if_neg (fun e => h4 e.2.2.2)]
            exact Ev.no (fun e => h4 (hfirst.1 e)) (Ev.now _)
        refine Ev.step (fun k => by simp only [haulageref08_Table.l0]; rw [if_pos (by omega), if_pos (by omega), if_pos (by omega), hrd, i64w_succ _ (by omega), i64w ((i : Int) - 1) (by omega) (by omega)]) (Ev.bind (rcolumn_ev c hc) ?_)
        by_cases h1 : colB c = true
        · refine Ev.yes h1 (Ev.ite (fun h3 => ?_) (fun h3 => ?_))
          · simp only [tabGo]; rw [if_neg (by omega)]; exact Ev.now _
          · have hid := colB_id c h1
            refine Ev.ite (fun h5 => ?_) (fun h5 => ?_)
            · refine Ev.yes (by omega) (Ev.yes (by omega) ?_)
              have hrd2 : r_Column l ((i : Int) - 1) = l[i - 1] := by
                have := rd_col l (i - 1) (by omega)
                rw [← this]; congr 1; omega
              have hlast := hl2 (by omega) (by omega)
              rw [hrd2, ← hlast]
              refine Ev.ite (fun h6 => ?_) (fun h6 => hfin h1 (by omega) (by omega))
              simp only [tabGo]; rw [if_neg (by omega)]; exact Ev.now _
            · have := hl1 (by omega)
              exact hfin h1 (by omega) (by omega)
        · refine Ev.no h1 ?_
          simp only [tabGo]
          rw [if_neg (fun e => h1 e.1)]
          exact Ev.now _) 0 (Nat.zero_le _)
    exact h (-1) false (fun _ => rfl) (fun h => by omega) (fun j _ h => by omega) (fun h => by cases h)
  unfold haulageref08_Table tabB
  refine Ev.ite (fun h0 => ?_) (fun h0 => Ev.bind (rname_ev name (by omega)) ?_)
  · rw [decide_eq_false (by omega), Bool.false_and]; exact Ev.now _
  · cases nameB name
    · rw [Bool.false_and, Bool.and_false]; exact Ev.no (by simp) (Ev.now _)
    · refine Ev.yes rfl (Ev.ite (fun h1 => ?_) (fun h1 => Ev.ite (fun h2 => ?_) (fun h2 => Ev.ite (fun h3 => ?_) (fun h3 => ?_))))
      · rw [decide_eq_false (by omega), Bool.false_and]; exact Ev.now _
      · rw [decide_eq_false (by omega), Bool.false_and]; exact Ev.now _
      · rw [decide_eq_false (by omega), Bool.false_and]; exact Ev.now _
      · rw [decide_eq_true (by omega), Bool.true_and, Bool.true_and]; exact hl0

theorem refOne_ev (n : Nat) : n < 18446744073709551616 → Ev (fun k => haulageref01_One k (n : Int)) (strOfNums (sb n)) := by
  induction n using Nat.strongRecOn with
  | _ n ih =>
    intro hn
    by_cases h : n < 128
    · rw [sb_small h]
      refine Ev.step (f := fun _ => some (strOfNums [(n : Int)])) (fun k => ?_) (Ev.now _)
      simp only [haulageref01_One]
      rw [if_pos (by omega), u8w, strOf_eq, show ((n : Int) % 256) = n by omega]
    · rw [sb_big h]
      refine Ev.step (f := fun k => (haulageref01_One k ((n / 128 : Nat) : Int)).bind fun t => if (strOfNums [((n % 128 + 128 : Nat) : Int)]).size + t.size ≤ 9223372036854775807 then some (strOfNums [((n % 128 + 128 : Nat) : Int)] ++ t) else none) (fun k => ?_) ?_
      · simp only [haulageref01_One, strOf_eq, u8w]
        rw [if_neg (by omega), tmod_nonneg_eq _ _ (by omega), tdiv_nonneg_eq _ _ (by omega), u64_id _ (by omega) (by omega), u64_id _ (by omega) (by omega),
          show (((n : Int) % 128 + 128) % 256) = ((n % 128 + 128 : Nat) : Int) by omega, show ((n : Int) / 128) = ((n / 128 : Nat) : Int) by omega]
      · refine Ev.bind (ih (n / 128) (by omega) (by omega)) ?_
        have := sb_len10 (n := n / 128) (by omega)
        rw [if_pos (by rw [strOfNums_size, strOfNums_size]; simp only [List.length_cons, List.length_nil]; omega)]
        rw [← strOfNums_append]
        exact Ev.now _

theorem bytesOf_sb (n : Nat) : bytesOf (strOfNums (sb n)) = sb n := by rw [bytesOf_byt]; exact byt_str (sb_bytes n)
theorem number_w (acc : List Int) (n : Int) (h0 : 0 ≤ n) (h1 : n ≤ 9223372036854775807) (ha : acc.length ≤ 100000000000) : Ev (fun k => catcode_number k acc n) (acc ++ sb n.toNat) := by
  have hl := sb_len10 (n := n.toNat) (by omega)
  unfold catcode_number
  rw [u64_id n h0 (by omega)]
  refine Ev.bind (short1 n h0 (by omega)) (Ev.congr (f := fun _ => some (acc ++ sb n.toNat)) (fun k => ?_) (Ev.now _))
  rw [strOfNums_size, if_pos (by omega), bytesOf_sb]
theorem text_w (acc : List Int) (s : ByteArray) (hs : s.size ≤ 1000000000) (ha : acc.length ≤ 100000000000) : Ev (fun k => catcode_text k acc s) (acc ++ textE s) := by
  have hl := sb_len10 (n := s.size) (by omega)
  unfold catcode_text
  rw [u64_id (s.size : Int) (by omega) (by omega)]
  have h1 := short1 (s.size : Int) (by omega) (by omega)
  rw [Int.toNat_natCast] at h1
  refine Ev.bind h1 (Ev.congr (f := fun _ => some (acc ++ textE s)) (fun k => ?_) (Ev.now _))
  rw [strOfNums_size, if_pos (by omega), bytesOf_sb, if_pos (by rw [List.length_append]; omega)]
  unfold textE
  rw [List.append_assoc, bytesOf_byt]
theorem text_len (s : ByteArray) (hs : s.size ≤ 1000000000) : (textE s).length ≤ s.size + 10 := by
  have hl := sb_len10 (n := s.size) (by omega)
  unfold textE
  rw [List.length_append, byt_len]
  omega
theorem put_w (acc : List Int) (v : S_Value) (hk : 0 ≤ v.f0 ∧ v.f0 ≤ 255) (hs : v.f2.size ≤ 1000000000) (hw : (Lit.int .i64 v.f1).wf = true) (ha : acc.length ≤ 10000000000) : Ev (fun k => catcode_put k acc v.f0 v.f1 v.f2) (acc ++ valE v) := by
  have hz := wf64 hw
  have hr := zigS_range v.f1 hz.1 hz.2
  have hm : IntKind.u8.wrap v.f0 = v.f0 := by rw [u8w]; omega
  have hlen : (acc ++ [v.f0]).length ≤ 100000000000 := by rw [List.length_append]; simp; omega
  have he : acc ++ valE v = (acc ++ [v.f0]) ++ valT v.f0 v.f1 v.f2 := by unfold valE; rw [List.append_assoc]; rfl
  have t1 := text_w (acc ++ [v.f0]) v.f2 hs hlen
  have s1 := short1 (zigS v.f1) hr.1 hr.2
  have hl := sb_len10 (n := (zigS v.f1).toNat) (by omega)
  rw [he]
  refine Ev.flat2 0 t1 s1 (fun m h1 h2 => ?_)
  have h1 := h1 0
  have h2 := h2 0
  simp only [Nat.add_zero] at h1 h2 ⊢
  have hc : (acc ++ [v.f0]).length + (sb (zigS v.f1).toNat).length < 140737488355328 := by omega
  simp only [catcode_put, if_pos (show acc.length < 140737488355328 by omega), hm, h1, word_Zig_eq m v.f1 hz.1 hz.2, Option.bind_some, h2, strOfNums_size, bytesOf_sb, if_pos hc, valT]
  by_cases c1 : v.f0 = 1
  · simp [c1]
  · by_cases c2 : v.f0 = 2
    · simp [c2]
    · by_cases c3 : v.f0 = 3
      · simp [c3]
      · by_cases c4 : v.f0 = 4 <;> simp [c1, c2, c3, c4]
theorem rone_w (k : Nat) (n : Int) (h0 : 0 ≤ n) (h1 : n ≤ 255) : haulageref11_one k n = some (strOfNums [n]) := by
  unfold haulageref11_one
  rw [u8w, show n % 256 = n by omega]
  rfl
theorem rnumber_w (n : Int) (h0 : 0 ≤ n) (h1 : n ≤ 9223372036854775807) : Ev (fun k => haulageref11_number k n) (strOfNums (sb n.toNat)) := by
  unfold haulageref11_number
  rw [u64_id n h0 (by omega)]
  have := refOne_ev n.toNat (by omega)
  rw [Int.toNat_of_nonneg h0] at this
  exact Ev.bind this (Ev.now _)
theorem rtext_w (s : ByteArray) (hs : s.size ≤ 1000000000) : Ev (fun k => haulageref11_text k s) (strOfNums (textE s)) := by
  have hl := sb_len10 (n := s.size) (by omega)
  unfold haulageref11_text
  have h := rnumber_w (s.size : Int) (by omega) (by omega)
  rw [Int.toNat_natCast] at h
  refine Ev.bind h (Ev.congr (f := fun _ => some (strOfNums (textE s))) (fun k => ?_) (Ev.now _))
  rw [strOfNums_size, if_pos (by omega)]
  unfold textE
  rw [strOfNums_append, str_byt]
theorem rval_w (v : S_Value) (hk : 0 ≤ v.f0 ∧ v.f0 ≤ 4) (hs : v.f2.size ≤ 1000000000) (hw : (Lit.int .i64 v.f1).wf = true) : Ev (fun k => haulageref11_Value k v.f0 v.f1 v.f2) (strOfNums (valE v)) := by
  have hz := wf64 hw
  have hr := zigS_range v.f1 hz.1 hz.2
  have he : strOfNums (valE v) = strOfNums [v.f0] ++ strOfNums (valT v.f0 v.f1 v.f2) := by rw [← strOfNums_append]; rfl
  have h1s : (strOfNums [v.f0]).size = 1 := by rw [strOfNums_size]; rfl
  have t1 := rtext_w v.f2 hs
  have hl := sb_len10 (n := (zigS v.f1).toNat) (by omega)
  have hlt := text_len v.f2 hs
  have s1 := refOne_ev (zigS v.f1).toNat (by omega)
  rw [Int.toNat_of_nonneg hr.1] at s1
  rw [he]
  refine Ev.flat2 0 t1 s1 (fun m h1 h2 => ?_)
  have h1 := h1 0
  have h2 := h2 0
  simp only [Nat.add_zero] at h1 h2 ⊢
  simp only [haulageref11_Value, rone_w m v.f0 (by omega) (by omega), h1, refZig_eq m v.f1 hz.1 hz.2, Option.bind_some, h2, valT, strOfNums_size (textE v.f2), strOfNums_size (sb (zigS v.f1).toNat), h1s, if_pos (show 1 + (textE v.f2).length ≤ 9223372036854775807 by omega), if_pos (show 1 + (sb (zigS v.f1).toNat).length ≤ 9223372036854775807 by omega)]
  by_cases c1 : v.f0 = 1
  · simp [c1]
  · by_cases c2 : v.f0 = 2
    · simp [c2]
    · by_cases c3 : v.f0 = 3
      · simp [c3]
      · by_cases c4 : v.f0 = 4
        · simp [c4]
        · have c0 : v.f0 = 0 := by omega
          simp only [c0, rone_w m 0 (by decide) (by decide)]
          simp [← strOfNums_append]

def WCol (c : S_Column) : Prop := (0 ≤ c.f0 ∧ c.f0 ≤ maxN) ∧ c.f1.size ≤ 200 ∧ (0 ≤ c.f2.f0 ∧ c.f2.f0 ≤ 4 ∧ 0 ≤ c.f2.f1 ∧ c.f2.f1 ≤ maxN) ∧ (0 ≤ c.f4.f0 ∧ c.f4.f0 ≤ 4) ∧ c.f4.f2.size ≤ 200 ∧ (Lit.int .i64 c.f4.f1).wf = true
theorem maxN_eq : maxN = 9223372036854775807 := rfl
theorem kind_w (acc : List Int) (t : S_Type) (h0 : 0 ≤ t.f0 ∧ t.f0 ≤ 255) (h1 : 0 ≤ t.f1 ∧ t.f1 ≤ maxN) (ha : acc.length ≤ 1000000000) : Ev (fun k => catcode_kind k acc t.f0 t.f1) (acc ++ kindE t) := by
  have := maxN_eq
  have hm : IntKind.u8.wrap t.f0 = t.f0 := by rw [u8w]; omega
  have hn := number_w (acc ++ [t.f0]) t.f1 h1.1 (by omega) (by rw [List.length_append]; simp; omega)
  rw [List.append_assoc] at hn
  unfold catcode_kind
  rw [hm]
  refine Ev.congr (fun k => by rw [if_pos (by omega)]) (Ev.bind hn ?_)
  exact Ev.now _
theorem val_len (v : S_Value) (hs : v.f2.size ≤ 1000000000) (hw : (Lit.int .i64 v.f1).wf = true) : (valE v).length ≤ v.f2.size + 20 := by
  have hz := wf64 hw
  have hr := zigS_range v.f1 hz.1 hz.2
  have h1 := text_len v.f2 hs
  have h2 := sb_len10 (n := (zigS v.f1).toNat) (by omega)
  unfold valE valT
  split
  · simp only [List.length_cons]; omega
  · split
    · simp only [List.length_cons]; omega
    · simp
theorem body_len (c : S_Column) (h : WCol c) : (bodyE c).length ≤ 500 := by
  have := maxN_eq
  obtain ⟨_, h1, h2, h3, h4, h5⟩ := h
  have e1 := text_len c.f1 (by omega)
  have e2 := val_len c.f4 (by omega) h5
  have e3 := sb_len10 (n := c.f2.f1.toNat) (by omega)
  unfold bodyE kindE
  simp only [List.length_append, List.length_cons, List.length_nil]
  omega
theorem body_w (acc : List Int) (c : S_Column) (h : WCol c) (ha : acc.length ≤ 100000000) : Ev (fun k => catcode_body k acc c.f0 c.f1 c.f2.f0 c.f2.f1 c.f3 c.f4.f0 c.f4.f1 c.f4.f2) (acc ++ bodyE c) := by
  have := maxN_eq
  obtain ⟨_, h1, h2, h3, h4, h5⟩ := h
  have e1 := text_len c.f1 (by omega)
  have e3 := sb_len10 (n := c.f2.f1.toNat) (by omega)
  have ek : (kindE c.f2).length ≤ 11 := by unfold kindE; simp only [List.length_cons]; omega
  have l1 : (acc ++ textE c.f1).length ≤ 200000000 := by rw [List.length_append]; omega
  have l2 : ((acc ++ textE c.f1) ++ kindE c.f2).length ≤ 300000000 := by rw [List.length_append]; omega
  have hj : ∀ (x : Int), Ev (fun k => (catcode_put k (((acc ++ textE c.f1) ++ kindE c.f2) ++ [x]) c.f4.f0 c.f4.f1 c.f4.f2).bind fun t => some t) (acc ++ (textE c.f1 ++ (kindE c.f2 ++ ([x] ++ valE c.f4)))) := fun x => by
    have hp := put_w ((((acc ++ textE c.f1) ++ kindE c.f2) ++ [x])) c.f4 (by omega) (by omega) h5 (by rw [List.length_append]; simp only [List.length_cons, List.length_nil]; omega)
    refine Ev.bind hp ?_
    simp only [List.append_assoc]
    exact Ev.now _
  unfold catcode_body bodyE
  refine Ev.bind (text_w acc c.f1 (by omega) (by omega)) (Ev.bind (kind_w _ c.f2 (by omega) (by omega) (by omega)) ?_)
  cases c.f3
  · refine Ev.congr (fun k => by rw [if_neg (by simp), if_pos (by omega)]) ?_
    rw [if_neg (by simp)]
    exact hj 0
  · refine Ev.congr (fun k => by rw [if_pos (by trivial), if_pos (by omega)]) ?_
    rw [if_pos rfl]
    exact hj 1
theorem flat_len {α : Type} (f : α → List Int) (n : Nat) : ∀ l : List α, (∀ x ∈ l, (f x).length ≤ n) → (l.flatMap f).length ≤ l.length * n
  | [], _ => by simp
  | x :: l, h => by
    have e1 := flat_len f n l (fun y hy => h y (List.mem_cons_of_mem _ hy))
    have e2 := h x (List.mem_cons_self ..)
    rw [List.flatMap_cons, List.length_append, List.length_cons, Nat.add_mul]
    omega
theorem name16 {s : ByteArray} (h : nameB s = true) : s.size ≤ 16 := by
  unfold nameB at h
  rw [Bool.and_eq_true, Bool.and_eq_true, decide_eq_true_iff, decide_eq_true_iff] at h
  exact h.2.1
theorem typ4 {k m : Int} (h : typB k m = true) : 1 ≤ k ∧ k ≤ 4 ∧ 0 ≤ m ∧ m ≤ 120 := by
  unfold typB at h
  split at h
  · have := of_decide_eq_true h
    omega
  · split at h
    · have := of_decide_eq_true h
      omega
    · cases h
theorem rkind_w (t : S_Type) (h0 : 0 ≤ t.f0 ∧ t.f0 ≤ 255) (h1 : 0 ≤ t.f1 ∧ t.f1 ≤ maxN) : Ev (fun k => haulageref11_kind k t.f0 t.f1) (strOfNums (kindE t)) := by
  have := maxN_eq
  have e3 := sb_len10 (n := t.f1.toNat) (by omega)
  refine Ev.flat1 0 (rnumber_w t.f1 h1.1 (by omega)) (fun m h => ?_)
  have h := h 0
  simp only [Nat.add_zero] at h ⊢
  simp only [haulageref11_kind, rone_w m t.f0 h0.1 h0.2, h, Option.bind_some, strOfNums_size, List.length_cons, List.length_nil]
  rw [if_pos (by omega), ← strOfNums_append]
  rfl
theorem rflag_w (k : Nat) (b : Bool) : haulageref11_flag k b = some (strOfNums [if b = true then 1 else 0]) := by
  cases b <;> simp [haulageref11_flag, rone_w]
theorem rbody_w (c : S_Column) (h : WCol c) : Ev (fun k => haulageref11_body k c.f0 c.f1 c.f2.f0 c.f2.f1 c.f3 c.f4.f0 c.f4.f1 c.f4.f2) (strOfNums (bodyE c)) := by
  have := maxN_eq
  have hl := body_len c h
  obtain ⟨_, h1, h2, h3, h4, h5⟩ := h
  refine Ev.flat3 0 (rtext_w c.f1 (by omega)) (rkind_w c.f2 (by omega) (by omega)) (rval_w c.f4 h3 (by omega) h5) (fun m g1 g2 g3 => ?_)
  have g1 := g1 0
  have g2 := g2 0
  have g3 := g3 0
  simp only [Nat.add_zero] at g1 g2 g3 ⊢
  unfold bodyE at hl ⊢
  simp only [List.length_append, List.length_cons, List.length_nil] at hl
  simp only [haulageref11_body, g1, g2, rflag_w, g3, Option.bind_some, ← strOfNums_append, strOfNums_size, List.length_append, List.length_cons, List.length_nil]
  rw [if_pos (by omega), if_pos (by omega), if_pos (by omega)]
  simp only [List.append_assoc]
structure S_DDL where
  f0 : Int
  f1 : ByteArray
  f2 : ByteArray
  f3 : ByteArray
  f4 : ByteArray
  f5 : S_Type
  f6 : Bool
  f7 : S_Value
  f8 : List S_Column
def zV : S_Value := ⟨0, 0, nilB⟩
def zT : S_Type := ⟨0, 0⟩
def bareD (op : Int) (t : ByteArray) : S_DDL := ⟨op, t, nilB, nilB, nilB, zT, false, zV, []⟩
/-- What stands behind the table's name. -/
def moreP (op : Int) (t : ByteArray) (q : St) : S_DDL × St :=
  if op = 1 then let a := textP 16 q; let m := numP 10 a.2; let l := manyP bodyP m.1.toNat m.2; ({ bareD op t with f4 := a.1, f8 := l.1 }, l.2)
  else if op = 3 then ({ bareD op t with f3 := (textP 16 q).1 }, (textP 16 q).2)
  else if op = 4 then ({ bareD op t with f2 := (bodyP q).1.f1, f5 := (bodyP q).1.f2, f6 := (bodyP q).1.f3, f7 := (bodyP q).1.f4 }, (bodyP q).2)
  else if op = 5 then ({ bareD op t with f2 := (textP 16 q).1 }, (textP 16 q).2)
  else if op = 6 then ({ bareD op t with f2 := (textP 16 q).1, f3 := (textP 16 (textP 16 q).2).1 }, (textP 16 (textP 16 q).2).2)
  else if op = 7 then ({ bareD op t with f2 := (textP 16 q).1, f5 := (kindP (textP 16 q).2).1 }, (kindP (textP 16 q).2).2)
  else if op = 8 then ({ bareD op t with f2 := (textP 16 q).1, f7 := (valP (textP 16 q).2).1 }, (valP (textP 16 q).2).2)
  else (bareD op t, q)
def ddlP (q : St) : S_DDL × St := moreP (oneP 1 8 (oneP 1 1 q).2).1 (textP 16 (oneP 1 8 (oneP 1 1 q).2).2).1 (textP 16 (oneP 1 8 (oneP 1 1 q).2).2).2
def addC (d : S_DDL) : S_Column := ⟨0, d.f2, d.f5, d.f6, d.f7⟩
def moreE (d : S_DDL) : List Int :=
  if d.f0 = 1 then textE d.f4 ++ (sb d.f8.length ++ d.f8.flatMap bodyE)
  else if d.f0 = 3 then textE d.f3
  else if d.f0 = 4 then bodyE (addC d)
  else if d.f0 = 5 then textE d.f2
  else if d.f0 = 6 then textE d.f2 ++ textE d.f3
  else if d.f0 = 7 then textE d.f2 ++ kindE d.f5
  else if d.f0 = 8 then textE d.f2 ++ valE d.f7
  else []
def ddlE (d : S_DDL) : List Int := [1] ++ ([d.f0] ++ (textE d.f1 ++ moreE d))
def nE (s : ByteArray) : Bool := decide (s.size = 0)
def nT (t : S_Type) : Bool := decide (t.f0 = 0) && decide (t.f1 = 0)
/-- Nothing that the Op doesn't have. -/
def plainB (d : S_DDL) : Bool :=
  if d.f0 = 1 then d.f8.all (fun c => decide (c.f0 = 0)) && (nE d.f2 && (nE d.f3 && (nT d.f5 && (!d.f6 && zeroV d.f7))))
  else decide (d.f8.length = 0) && (nE d.f4 &&
    (if d.f0 = 2 then nE d.f2 && (nE d.f3 && (nT d.f5 && (!d.f6 && zeroV d.f7)))
    else if d.f0 = 3 then nE d.f2 && (nT d.f5 && (!d.f6 && zeroV d.f7))
    else if d.f0 = 4 then nE d.f3
    else if d.f0 = 5 then nE d.f3 && (nT d.f5 && (!d.f6 && zeroV d.f7))
    else if d.f0 = 6 then nT d.f5 && (!d.f6 && zeroV d.f7)
    else if d.f0 = 7 then nE d.f3 && (!d.f6 && zeroV d.f7)
    else if d.f0 = 8 then nE d.f3 && (nT d.f5 && !d.f6)
    else false))
/-- Can a column be written? -/
def canC (c : S_Column) : Bool := nameB c.f1 && (typB c.f2.f0 c.f2.f1 && valB c.f4.f0 c.f4.f1 c.f4.f2)
def canM (d : S_DDL) : Bool :=
  if d.f0 = 1 then d.f8.all canC && (nameB d.f4 && decide (1 ≤ d.f8.length ∧ d.f8.length ≤ 10))
  else if d.f0 = 3 then nameB d.f3
  else if d.f0 = 4 then canC (addC d)
  else if d.f0 = 5 then nameB d.f2
  else if d.f0 = 6 then nameB d.f2 && nameB d.f3
  else if d.f0 = 7 then nameB d.f2 && typB d.f5.f0 d.f5.f1
  else if d.f0 = 8 then nameB d.f2 && valB d.f7.f0 d.f7.f1 d.f7.f2
  else true
def canB (d : S_DDL) : Bool := plainB d && (nameB d.f1 && canM d)
def readddlS (s : ByteArray) : S_DDL × Int := if endP (canB (ddlP (s, 0)).1) (ddlP (s, 0)).2 = 0 then ((ddlP (s, 0)).1, 0) else (bareD 0 nilB, endP (canB (ddlP (s, 0)).1) (ddlP (s, 0)).2)
theorem nE_eq {s : ByteArray} (h : nE s = true) : s = nilB := ba_of0 s (of_decide_eq_true h)
theorem nT_eq {t : S_Type} (h : nT t = true) : t = zT := by
  unfold nT at h
  rw [Bool.and_eq_true, decide_eq_true_iff, decide_eq_true_iff] at h
  obtain ⟨a, b⟩ := t
  obtain ⟨h1, h2⟩ := h
  simp only at h1 h2
  subst h1 h2
  rfl
theorem zV_eq {v : S_Value} (h : zeroV v = true) : v = zV := by
  unfold zeroV at h
  rw [Bool.and_eq_true, Bool.and_eq_true, beq_iff_eq, beq_iff_eq] at h
  obtain ⟨a, b, c⟩ := v
  simp only at h
  have := h.2.2
  rw [nil_dec, decide_eq_true_iff] at this
  rw [h.1, h.2.1, ba_of0 c this]
  rfl
theorem canC_ok {c : S_Column} (h : canC c = true) (hw : (Lit.int .i64 c.f4.f1).wf = true) : BodyOk c := by
  unfold canC at h
  rw [Bool.and_eq_true, Bool.and_eq_true] at h
  exact ⟨name16 h.1, typ4 h.2.1, h.2.2, hw⟩
theorem moreP_fwd (d : S_DDL) (q r : St) (hp : plainB d = true) (hc : canM d = true) (hw : (Lit.int .i64 d.f7.f1).wf = true) (hws : ∀ c ∈ d.f8, (Lit.int .i64 c.f4.f1).wf = true) (ht : Takes q (moreE d) r) : moreP d.f0 d.f1 q = (d, r) := by
  obtain ⟨op, tb, co, to, ke, ty, nu, de, cs⟩ := d
  simp only at hw hws
  unfold plainB at hp
  unfold canM at hc
  unfold moreE at ht
  unfold moreP
  simp only at hp hc ht ⊢
  by_cases h1 : op = 1
  · rw [if_pos h1] at hp hc ht ⊢
    rw [Bool.and_eq_true, Bool.and_eq_true, decide_eq_true_iff] at hc
    rw [Bool.and_eq_true, Bool.and_eq_true, Bool.and_eq_true, Bool.and_eq_true, Bool.and_eq_true, Bool.not_eq_true'] at hp
    obtain ⟨p0, p1, p2, p3, p4, p5⟩ := hp
    obtain ⟨k1, k⟩ := ht.split
    obtain ⟨k2, k3⟩ := k.split
    have hk := name16 hc.2.1
    rw [textP_fwd k1 (by omega) (by omega)]
    simp only
    rw [numP_fwd k2 (by omega) (by omega)]
    simp only [Int.toNat_natCast]
    have hm := many_fwd (p := bodyP) (enc := bodyE) (ok := fun c => BodyOk c ∧ c.f0 = 0) (fun c q r h t => by
      rw [bodyP_fwd c q r h.1 t]
      obtain ⟨c0, c1, c2, c3, c4⟩ := c
      have := h.2
      simp only at this
      subst this
      rfl) cs _ r (fun c hc2 => ⟨canC_ok (List.all_eq_true.1 hc.1 c hc2) (hws c hc2), of_decide_eq_true (List.all_eq_true.1 p0 c hc2)⟩) k3
    rw [hm, nE_eq p1, nE_eq p2, nT_eq p3, p4, zV_eq p5]
    rfl
  rw [if_neg h1] at hp hc ht ⊢
  rw [Bool.and_eq_true, Bool.and_eq_true, decide_eq_true_iff] at hp
  obtain ⟨p0, p1, hp⟩ := hp
  rw [List.length_eq_zero_iff.1 p0, nE_eq p1]
  by_cases h2 : op = 2
  · subst h2
    simp only [show ¬ (2 : Int) = 3 by decide, show ¬ (2 : Int) = 4 by decide, show ¬ (2 : Int) = 5 by decide, show ¬ (2 : Int) = 6 by decide, show ¬ (2 : Int) = 7 by decide, show ¬ (2 : Int) = 8 by decide, if_false, if_true] at hp ht ⊢
    rw [Bool.and_eq_true, Bool.and_eq_true, Bool.and_eq_true, Bool.and_eq_true, Bool.not_eq_true'] at hp
    obtain ⟨p2, p3, p4, p5, p6⟩ := hp
    rw [nE_eq p2, nE_eq p3, nT_eq p4, p5, zV_eq p6, Takes.nil_eq ht]
    rfl
  rw [if_neg h2] at hp
  by_cases h3 : op = 3
  · rw [if_pos h3] at hp hc ht ⊢
    rw [Bool.and_eq_true, Bool.and_eq_true, Bool.and_eq_true, Bool.not_eq_true'] at hp
    obtain ⟨p2, p4, p5, p6⟩ := hp
    have := name16 hc
    rw [textP_fwd ht (by omega) (by omega), nE_eq p2, nT_eq p4, p5, zV_eq p6]
    rfl
  rw [if_neg h3] at hp hc ht ⊢
  by_cases h4 : op = 4
  · rw [if_pos h4] at hp hc ht ⊢
    rw [bodyP_fwd _ _ _ (canC_ok hc hw) ht, nE_eq hp]
    rfl
  rw [if_neg h4] at hp hc ht ⊢
  by_cases h5 : op = 5
  · rw [if_pos h5] at hp hc ht ⊢
    rw [Bool.and_eq_true, Bool.and_eq_true, Bool.and_eq_true, Bool.not_eq_true'] at hp
    obtain ⟨p2, p4, p5, p6⟩ := hp
    have := name16 hc
    rw [textP_fwd ht (by omega) (by omega), nE_eq p2, nT_eq p4, p5, zV_eq p6]
    rfl
  rw [if_neg h5] at hp hc ht ⊢
  by_cases h6 : op = 6
  · rw [if_pos h6] at hp hc ht ⊢
    rw [Bool.and_eq_true, Bool.and_eq_true, Bool.not_eq_true'] at hp
    rw [Bool.and_eq_true] at hc
    obtain ⟨p4, p5, p6⟩ := hp
    have g1 := name16 hc.1
    have g2 := name16 hc.2
    obtain ⟨k1, k2⟩ := ht.split
    rw [textP_fwd k1 (by omega) (by omega)]
    simp only
    rw [textP_fwd k2 (by omega) (by omega), nT_eq p4, p5, zV_eq p6]
    rfl
  rw [if_neg h6] at hp hc ht ⊢
  by_cases h7 : op = 7
  · rw [if_pos h7] at hp hc ht ⊢
    rw [Bool.and_eq_true, Bool.and_eq_true, Bool.not_eq_true'] at hp
    rw [Bool.and_eq_true] at hc
    obtain ⟨p2, p5, p6⟩ := hp
    have g1 := name16 hc.1
    obtain ⟨g2, g3, g4, g5⟩ := typ4 hc.2
    obtain ⟨k1, k2⟩ := ht.split
    rw [textP_fwd k1 (by omega) (by omega)]
    simp only
    rw [kindP_fwd k2 g2 g3 g4 g5, nE_eq p2, p5, zV_eq p6]
    rfl
  rw [if_neg h7] at hp hc ht ⊢
  by_cases h8 : op = 8
  · rw [if_pos h8] at hp hc ht ⊢
    rw [Bool.and_eq_true, Bool.and_eq_true, Bool.not_eq_true'] at hp
    rw [Bool.and_eq_true] at hc
    obtain ⟨p2, p4, p5⟩ := hp
    have g1 := name16 hc.1
    obtain ⟨k1, k2⟩ := ht.split
    rw [textP_fwd k1 (by omega) (by omega)]
    simp only
    rw [valP_fwd k2 hc.2 hw, nE_eq p2, nT_eq p4, p5]
    rfl
  rw [if_neg h8] at hp
  cases hp
theorem plain_op {d : S_DDL} (h : plainB d = true) : 1 ≤ d.f0 ∧ d.f0 ≤ 8 := by
  unfold plainB at h
  by_cases h1 : d.f0 = 1
  · omega
  rw [if_neg h1, Bool.and_eq_true, Bool.and_eq_true] at h
  have h := h.2.2
  by_cases h2 : d.f0 = 2
  · omega
  rw [if_neg h2] at h
  by_cases h3 : d.f0 = 3
  · omega
  rw [if_neg h3] at h
  by_cases h4 : d.f0 = 4
  · omega
  rw [if_neg h4] at h
  by_cases h5 : d.f0 = 5
  · omega
  rw [if_neg h5] at h
  by_cases h6 : d.f0 = 6
  · omega
  rw [if_neg h6] at h
  by_cases h7 : d.f0 = 7
  · omega
  rw [if_neg h7] at h
  by_cases h8 : d.f0 = 8
  · omega
  rw [if_neg h8] at h
  cases h
theorem ddlP_fwd (d : S_DDL) (q r : St) (h : canB d = true) (hw : (Lit.int .i64 d.f7.f1).wf = true) (hws : ∀ c ∈ d.f8, (Lit.int .i64 c.f4.f1).wf = true) (ht : Takes q (ddlE d) r) : ddlP q = (d, r) := by
  unfold canB at h
  rw [Bool.and_eq_true, Bool.and_eq_true] at h
  obtain ⟨h1, h2, h3⟩ := h
  unfold ddlE at ht
  obtain ⟨k1, k⟩ := ht.split
  obtain ⟨k2, k⟩ := k.split
  obtain ⟨k3, k4⟩ := k.split
  have hop := plain_op h1
  have hn := name16 h2
  unfold ddlP
  rw [oneP_fwd k1 (by decide) (by decide)]
  simp only
  rw [oneP_fwd k2 hop.1 hop.2]
  simp only
  rw [textP_fwd k3 (by omega) (by omega)]
  exact moreP_fwd d _ r h1 h3 hw hws k4
theorem rrd_col (l : List S_Column) (i : Nat) (h : i < l.length) : r_Column l (i : Int) = l[i] := by simp [r_Column, rd, h]
/-- Are two lists alike, element by element? -/
def same2 {α : Type} (q : α → α → Bool) : List α → List α → Bool
  | [], _ => true
  | _ :: _, [] => false
  | x :: r, y :: s => if q x y = true then same2 q r s else false
theorem same2_refl {α : Type} (q : α → α → Bool) : ∀ l : List α, (∀ x ∈ l, q x x = true) → same2 q l l = true
  | [], _ => rfl
  | x :: r, h => by
    simp only [same2]
    rw [if_pos (h x (by simp))]
    exact same2_refl q r (fun y hy => h y (by simp [hy]))
def colEq (x y : S_Column) : Bool := x.f0 == y.f0 && (x.f1.toList == y.f1.toList && ((x.f2.f0 == y.f2.f0 && (x.f2.f1 == y.f2.f1)) && (x.f3 == y.f3 && ((x.f4.f0 == y.f4.f0 && (x.f4.f1 == y.f4.f1 && (x.f4.f2.toList == y.f4.f2.toList)))))))
theorem colEq_refl (x : S_Column) : colEq x x = true := by simp [colEq]
def colsEq (l m : List S_Column) : Bool := decide (l.length = m.length) && same2 colEq l m
theorem colsEq_refl (l : List S_Column) : colsEq l l = true := by
  unfold colsEq
  rw [same2_refl _ _ (fun x _ => colEq_refl x)]
  simp
theorem rsamecols_ev (l m : List S_Column) (hb : l.length ≤ 9223372036854775807) : Ev (fun k => haulageref08_SameCols k l m) (colsEq l m) := by
  unfold haulageref08_SameCols colsEq
  by_cases hl : l.length = m.length
  · refine Ev.congr (fun k => by rw [if_pos (by omega)]) ?_
    rw [decide_eq_true hl, Bool.true_and]
    have h := down (P := fun i => Ev (fun k => haulageref08_SameCols.l0 k l m (i : Int)) (same2 colEq (l.drop i) (m.drop i))) (n := l.length)
      (by rw [List.drop_length]; exact Ev.step (f := fun _ => some true) (fun k => by simp only [haulageref08_SameCols.l0]; rw [if_neg (by omega)]) (Ev.now _))
      (fun i hi ih => by
        rw [List.drop_eq_getElem_cons hi, List.drop_eq_getElem_cons (show i < m.length by omega)]
        refine Ev.step (f := fun k => if colEq l[i] m[i] = true then haulageref08_SameCols.l0 k l m ((i + 1 : Nat) : Int) else some false) (fun k => ?_) ?_
        · simp only [haulageref08_SameCols.l0]
          rw [if_pos (by omega), if_pos (by omega), if_pos (by omega), if_pos (by omega), if_pos (by omega), rrd_col l i hi, rrd_col m i (by omega), i64w_succ _ (by omega)]
          rfl
        · simp only [same2]
          split
          · exact ih
          · exact Ev.now _) 0 (Nat.zero_le _)
    exact h
  · rw [decide_eq_false hl, Bool.false_and]
    exact Ev.congr (f := fun _ => some false) (fun k => by rw [if_neg (by omega)]) (Ev.now _)
/-- What is known of a change. -/
def OkD (d : S_DDL) : Prop := d.f1.size ≤ 1000000000 ∧ d.f2.size ≤ 1000000000 ∧ d.f3.size ≤ 1000000000 ∧ d.f4.size ≤ 1000000000 ∧ d.f7.f2.size ≤ 1000000000 ∧ (Lit.int .i64 d.f7.f1).wf = true ∧ d.f8.length ≤ 1000000000 ∧ ∀ c ∈ d.f8, OkCol c
theorem nE_text (s : ByteArray) : (s.toList == (⟨#[]⟩ : ByteArray).toList) = nE s := by rw [nilB_toList, nil_dec]; rfl
theorem nT_text (t : S_Type) : ((t.f0 == 0) && (t.f1 == 0)) = nT t := by rw [beq_dec, beq_dec]; rfl
theorem nN_text (b : Bool) : (b == false) = !b := by cases b <;> rfl
theorem zV_text (v : S_Value) : ((v.f0 == 0) && ((v.f1 == 0) && (v.f2.toList == (⟨#[]⟩ : ByteArray).toList))) = zeroV v := zeroV_text v
theorem zV_text2 (v : S_Value) : ((v.f0 == 0) && ((v.f1 == 0) && nE v.f2)) = zeroV v := by rw [← nE_text]; exact zV_text v
theorem nE_nil : nE (⟨#[]⟩ : ByteArray) = true := rfl
theorem plain_ev (d : S_DDL) (h : d.f8.length ≤ 1000000000) : Ev (fun k => ddl_Plain k d.f0 d.f1 d.f2 d.f3 d.f4 d.f5.f0 d.f5.f1 d.f6 d.f7.f0 d.f7.f1 d.f7.f2 d.f8) (plainB d) := by
  have hl := down (P := fun i => Ev (fun k => ddl_Plain.l0 k d.f8 (d.f8.length : Int) (i : Int) d.f0 d.f1 d.f2 d.f3 d.f4 d.f5.f0 d.f5.f1 d.f6 d.f7.f0 d.f7.f1 d.f7.f2 d.f8 0 (⟨#[]⟩ : ByteArray) d.f2 d.f3 d.f4 d.f5.f0 d.f5.f1 d.f6 d.f7.f0 d.f7.f1 d.f7.f2) ((d.f8.drop i).all (fun c => decide (c.f0 = 0)) && (nE d.f2 && (nE d.f3 && (nT d.f5 && (!d.f6 && zeroV d.f7)))))) (n := d.f8.length)
    (by
      rw [List.drop_length]
      refine Ev.step (f := fun _ => some (nE d.f2 && (nE d.f3 && (nT d.f5 && (!d.f6 && zeroV d.f7))))) (fun k => ?_) (Ev.now _)
      simp only [ddl_Plain.l0]
      rw [if_neg (by omega), zV_text]
      simp only [nE_text, nT_text, nN_text, nE_nil, Bool.true_and]
      rfl)
    (fun i hi ih => by
      rw [List.drop_eq_getElem_cons hi, List.all_cons]
      refine Ev.step (f := fun k => if d.f8[i].f0 = 0 then ddl_Plain.l0 k d.f8 (d.f8.length : Int) ((i + 1 : Nat) : Int) d.f0 d.f1 d.f2 d.f3 d.f4 d.f5.f0 d.f5.f1 d.f6 d.f7.f0 d.f7.f1 d.f7.f2 d.f8 0 (⟨#[]⟩ : ByteArray) d.f2 d.f3 d.f4 d.f5.f0 d.f5.f1 d.f6 d.f7.f0 d.f7.f1 d.f7.f2 else some false) (fun k => ?_) ?_
      · simp only [ddl_Plain.l0]
        rw [if_pos (by omega), if_pos (by omega), if_pos (by omega), rrd_col _ i hi, i64w_succ _ (by omega)]
      · by_cases h0 : d.f8[i].f0 = 0
        · simp only [h0, if_true, decide_true, Bool.true_and]
          exact ih
        · simp only [h0, if_false, decide_false, Bool.false_and]
          exact Ev.now _) 0 (Nat.zero_le _)
  obtain ⟨op, tb, co, to, ke, ty, nu, de, cs⟩ := d
  simp only at hl h ⊢
  simp only [ddl_Plain, ddl_flat, Option.bind_some, nE_text, nT_text, nN_text, zV_text2, nE_nil, Bool.true_and]
  have hz : ((cs.length : Int) = 0) = (cs.length = 0) := propext ⟨fun h => by omega, fun h => by omega⟩
  simp only [hz]
  by_cases h1 : op = 1
  · subst h1
    simp only [Int.reduceEq, if_false, if_true, plainB]
    rw [List.drop_zero] at hl
    exact hl
  refine Ev.flat0 0 (fun k => ?_)
  unfold plainB
  simp only [if_neg h1]
  by_cases h2 : op = 2
  · subst h2
    by_cases hc : cs.length = 0 <;> cases nE ke <;> cases nE co <;> cases nE to <;> simp [hc]
  by_cases h3 : op = 3
  · subst h3
    by_cases hc : cs.length = 0 <;> cases nE ke <;> cases nE co <;> cases nE to <;> simp [hc]
  by_cases h4 : op = 4
  · subst h4
    by_cases hc : cs.length = 0 <;> cases nE ke <;> cases nE co <;> cases nE to <;> simp [hc]
  by_cases h5 : op = 5
  · subst h5
    by_cases hc : cs.length = 0 <;> cases nE ke <;> cases nE co <;> cases nE to <;> simp [hc]
  by_cases h6 : op = 6
  · subst h6
    by_cases hc : cs.length = 0 <;> cases nE ke <;> cases nE co <;> cases nE to <;> simp [hc]
  by_cases h7 : op = 7
  · subst h7
    by_cases hc : cs.length = 0 <;> cases nE ke <;> cases nE co <;> cases nE to <;> simp [hc]
  by_cases h8 : op = 8
  · subst h8
    by_cases hc : cs.length = 0 <;> cases nE ke <;> cases nE co <;> cases nE to <;> simp [hc]
  · simp [h2, h3, h4, h5, h6, h7, h8]
theorem names_ev (l : List ByteArray) (h : ∀ s ∈ l, s.size ≤ 1000000000) (hn : l.length ≤ 1000) : Ev (fun k => ddltext_names k l) (l.all nameB) := by
  have hl := down (P := fun i => Ev (fun k => ddltext_names.l0 k l (l.length : Int) (i : Int)) ((l.drop i).all nameB)) (n := l.length)
    (by
      rw [List.drop_length]
      exact Ev.step (f := fun _ => some true) (fun k => by simp only [ddltext_names.l0]; rw [if_neg (by omega)]) (Ev.now _))
    (fun i hi ih => by
      rw [List.drop_eq_getElem_cons hi, List.all_cons]
      have hrd : r_str l (i : Int) = l[i] := by simp [r_str, rd, hi]
      refine Ev.step (fun k => by simp only [ddltext_names.l0]; rw [if_pos (by omega), if_pos (by omega), if_pos (by omega), hrd, i64w_succ _ (by omega)]) (Ev.bind (name_ev l[i] (by have := h _ (List.getElem_mem hi); omega)) ?_)
      cases nameB l[i]
      · exact Ev.now _
      · exact ih) 0 (Nat.zero_le _)
  exact hl
theorem names1 (s : ByteArray) (h : s.size ≤ 1000000000) : Ev (fun k => ddltext_names k [s]) (nameB s) := by
  have := names_ev [s] (by simpa using h) (by simp)
  simpa using this
theorem names2 (s t : ByteArray) (h : s.size ≤ 1000000000) (h2 : t.size ≤ 1000000000) : Ev (fun k => ddltext_names k [s, t]) (nameB s && nameB t) := by
  have := names_ev [s, t] (by simpa using ⟨h, h2⟩) (by simp)
  simpa using this
theorem canc_ev (c : S_Column) (h1 : c.f1.size ≤ 1000000000) (h2 : c.f4.f2.size ≤ 1000000000) : Ev (fun k => ddltext_column k c.f0 c.f1 c.f2.f0 c.f2.f1 c.f3 c.f4.f0 c.f4.f1 c.f4.f2) (canC c) := by
  refine Ev.flat2 0 (names1 c.f1 h1) (val_ev c.f4.f0 c.f4.f1 c.f4.f2 h2) (fun m g1 g2 => ?_)
  have g1 := g1 0
  have g2 := g2 0
  simp only [Nat.add_zero] at g1 g2 ⊢
  simp only [ddltext_column, g1, g2, typ_eq, Option.bind_some, canC]
  cases nameB c.f1 <;> cases typB c.f2.f0 c.f2.f1 <;> simp
theorem canl_ev (l : List S_Column) (ke : ByteArray) (hk : ke.size ≤ 1000000000) (hl : l.length ≤ 1000000000) (hc : ∀ c ∈ l, OkCol c) (v0 : Int) (v1 v2 v3 : ByteArray) (v5 v6 : Int) (v7 : Bool) (v8 v9 : Int) (v10 : ByteArray) :
    Ev (fun k => ddltext_Can.l0 k l (l.length : Int) 0 v0 v1 v2 v3 ke v5 v6 v7 v8 v9 v10 l) (l.all canC && (nameB ke && decide (1 ≤ l.length ∧ l.length ≤ 10))) := by
  have h := down (P := fun i => Ev (fun k => ddltext_Can.l0 k l (l.length : Int) (i : Int) v0 v1 v2 v3 ke v5 v6 v7 v8 v9 v10 l) ((l.drop i).all canC && (nameB ke && decide (1 ≤ l.length ∧ l.length ≤ 10)))) (n := l.length)
    (by
      rw [List.drop_length]
      refine Ev.step (fun k => by simp only [ddltext_Can.l0]; rw [if_neg (by omega)]) (Ev.bind (names1 ke hk) ?_)
      cases nameB ke
      · exact Ev.now _
      · refine Ev.flat0 0 (fun k => ?_)
        by_cases h1 : 1 ≤ l.length
        · simp only [if_pos (show (l.length : Int) > 0 by omega), if_true, Bool.true_and]
          rw [show decide ((l.length : Int) ≤ 10) = decide (1 ≤ l.length ∧ l.length ≤ 10) from decide_eq_decide.2 (by omega)]
          rfl
        · simp only [if_neg (show ¬ (l.length : Int) > 0 by omega), if_true, Bool.true_and]
          rw [decide_eq_false (by omega)]
          rfl)
    (fun i hi ih => by
      rw [List.drop_eq_getElem_cons hi, List.all_cons]
      have hcc := hc _ (List.getElem_mem hi)
      refine Ev.step (fun k => by simp only [ddltext_Can.l0]; rw [if_pos (by omega), if_pos (by omega), if_pos (by omega), rrd_col l i hi, i64w_succ _ (by omega)]) (Ev.bind (canc_ev l[i] hcc.1 hcc.2.1) ?_)
      cases canC l[i]
      · exact Ev.now _
      · exact ih) 0 (Nat.zero_le _)
  rw [List.drop_zero] at h
  exact h
theorem can_ev (d : S_DDL) (h : OkD d) : Ev (fun k => ddltext_Can k d.f0 d.f1 d.f2 d.f3 d.f4 d.f5.f0 d.f5.f1 d.f6 d.f7.f0 d.f7.f1 d.f7.f2 d.f8) (canB d) := by
  obtain ⟨h1, h2, h3, h4, h5, _, h6, h7⟩ := h
  unfold ddltext_Can canB
  refine Ev.bind (plain_ev d h6) ?_
  cases plainB d
  · exact Ev.now _
  refine Ev.congr (fun k => if_pos rfl) (Ev.bind (names1 d.f1 h1) ?_)
  cases nameB d.f1
  · exact Ev.now _
  refine Ev.congr (fun k => if_pos rfl) ?_
  rw [Bool.true_and, Bool.true_and]
  have hv := val_ev d.f7.f0 d.f7.f1 d.f7.f2 h5
  obtain ⟨op, tb, co, to, ke, ty, nu, de, cs⟩ := d
  simp only at h1 h2 h3 h4 h5 h6 h7 hv ⊢
  unfold canM
  by_cases c1 : op = 1
  · subst c1
    simp only [Int.reduceEq, if_true]
    exact canl_ev cs ke h4 h6 h7 _ _ _ _ _ _ _ _ _ _
  simp only [if_neg c1]
  by_cases c3 : op = 3
  · subst c3
    simp only [Int.reduceEq, if_true, if_false]
    exact Ev.bind (names1 to h3) (Ev.now _)
  simp only [if_neg c3]
  by_cases c4 : op = 4
  · subst c4
    simp only [Int.reduceEq, if_true, if_false, ddltext_added, Option.bind_some]
    exact Ev.bind (canc_ev (addC ⟨4, tb, co, to, ke, ty, nu, de, cs⟩) h2 h5) (Ev.now _)
  simp only [if_neg c4]
  by_cases c5 : op = 5
  · subst c5
    simp only [Int.reduceEq, if_true, if_false]
    exact Ev.bind (names1 co h2) (Ev.now _)
  simp only [if_neg c5]
  by_cases c6 : op = 6
  · subst c6
    simp only [Int.reduceEq, if_true, if_false]
    exact Ev.bind (names2 co to h2 h3) (Ev.now _)
  simp only [if_neg c6]
  by_cases c7 : op = 7
  · subst c7
    simp only [Int.reduceEq, if_true, if_false]
    refine Ev.bind (names1 co h2) ?_
    cases nameB co
    · exact Ev.now _
    · exact Ev.congr (f := fun _ => some (typB ty.f0 ty.f1)) (fun k => by rw [if_pos rfl, typ_eq]; rfl) (Ev.now _)
  simp only [if_neg c7]
  by_cases c8 : op = 8
  · subst c8
    simp only [Int.reduceEq, if_true, if_false]
    refine Ev.bind (names1 co h2) ?_
    cases nameB co
    · exact Ev.now _
    · exact Ev.congr (fun k => if_pos rfl) (Ev.bind hv (Ev.now _))
  simp only [if_neg c8]
  exact Ev.now _

theorem nE_text' (s : ByteArray) : ((⟨#[]⟩ : ByteArray).toList == s.toList) = nE s := by rw [BEq.comm, nE_text]
theorem nT_text' (t : S_Type) : (((0 : Int) == t.f0) && ((0 : Int) == t.f1)) = nT t := by rw [BEq.comm (a := (0 : Int)) (b := t.f0), BEq.comm (a := (0 : Int)) (b := t.f1), nT_text]
theorem nN_text' (b : Bool) : (false == b) = !b := by cases b <;> rfl
theorem zV_text' (v : S_Value) : (((0 : Int) == v.f0) && (((0 : Int) == v.f1) && ((⟨#[]⟩ : ByteArray).toList == v.f2.toList))) = zeroV v := by
  rw [BEq.comm (a := (0 : Int)) (b := v.f0), BEq.comm (a := (0 : Int)) (b := v.f1), BEq.comm (a := (⟨#[]⟩ : ByteArray).toList), zV_text]
theorem zV_text2' (v : S_Value) : (((0 : Int) == v.f0) && (((0 : Int) == v.f1) && nE v.f2)) = zeroV v := by rw [← nE_text']; exact zV_text' v
/-- Are two changes alike? -/
def sameD (d e : S_DDL) : Bool := (d.f0 == e.f0) && ((d.f1.toList == e.f1.toList) && ((d.f2.toList == e.f2.toList) && ((d.f3.toList == e.f3.toList) && ((d.f4.toList == e.f4.toList) && (((d.f5.f0 == e.f5.f0) && (d.f5.f1 == e.f5.f1)) && ((d.f6 == e.f6) && (((d.f7.f0 == e.f7.f0) && ((d.f7.f1 == e.f7.f1) && (d.f7.f2.toList == e.f7.f2.toList))) && colsEq d.f8 e.f8)))))))
theorem if_and {p : Prop} [Decidable p] (b : Bool) : (if p then some b else some false) = some (decide p && b) := by
  by_cases h : p <;> simp [h]
theorem rsameD_ev (d e : S_DDL) (h : d.f8.length ≤ 1000000000) : Ev (fun k => haulageref09_Same k d.f0 d.f1 d.f2 d.f3 d.f4 d.f5.f0 d.f5.f1 d.f6 d.f7.f0 d.f7.f1 d.f7.f2 d.f8 e.f0 e.f1 e.f2 e.f3 e.f4 e.f5.f0 e.f5.f1 e.f6 e.f7.f0 e.f7.f1 e.f7.f2 e.f8) (sameD d e) := by
  refine Ev.flat1 0 (rsamecols_ev d.f8 e.f8 (by omega)) (fun m h1 => ?_)
  have h1 := h1 0
  simp only [Nat.add_zero] at h1 ⊢
  simp only [haulageref09_Same, h1, Option.bind_some, if_and, sameD]
  congr 1
  simp only [← Bool.beq_eq_decide_eq]
  simp [beq_dec]
theorem rplain_ev (d : S_DDL) (h : d.f8.length ≤ 1000000000) : Ev (fun k => haulageref09_Plain k d.f0 d.f1 d.f2 d.f3 d.f4 d.f5.f0 d.f5.f1 d.f6 d.f7.f0 d.f7.f1 d.f7.f2 d.f8) (plainB d) := by
  have hl : ∀ c : S_DDL, c.f8.length ≤ 1000000000 → Ev (fun k => haulageref09_Plain.l0 k 0 d.f0 d.f1 d.f2 d.f3 d.f4 d.f5.f0 d.f5.f1 d.f6 d.f7.f0 d.f7.f1 d.f7.f2 d.f8 c.f0 c.f1 c.f2 c.f3 c.f4 c.f5.f0 c.f5.f1 c.f6 c.f7.f0 c.f7.f1 c.f7.f2 c.f8) (d.f8.all (fun c => decide (c.f0 = 0)) && sameD c d) := fun c hc => by
    have hl := down (P := fun i => Ev (fun k => haulageref09_Plain.l0 k (i : Int) d.f0 d.f1 d.f2 d.f3 d.f4 d.f5.f0 d.f5.f1 d.f6 d.f7.f0 d.f7.f1 d.f7.f2 d.f8 c.f0 c.f1 c.f2 c.f3 c.f4 c.f5.f0 c.f5.f1 c.f6 c.f7.f0 c.f7.f1 c.f7.f2 c.f8) ((d.f8.drop i).all (fun c => decide (c.f0 = 0)) && sameD c d)) (n := d.f8.length)
      (by
        rw [List.drop_length]
        refine Ev.step (fun k => by simp only [haulageref09_Plain.l0]; rw [if_neg (by omega)]) (Ev.bind (rsameD_ev c d hc) ?_)
        exact Ev.now _)
      (fun i hi ih => by
        rw [List.drop_eq_getElem_cons hi, List.all_cons]
        refine Ev.step (f := fun k => if d.f8[i].f0 = 0 then haulageref09_Plain.l0 k ((i + 1 : Nat) : Int) d.f0 d.f1 d.f2 d.f3 d.f4 d.f5.f0 d.f5.f1 d.f6 d.f7.f0 d.f7.f1 d.f7.f2 d.f8 c.f0 c.f1 c.f2 c.f3 c.f4 c.f5.f0 c.f5.f1 c.f6 c.f7.f0 c.f7.f1 c.f7.f2 c.f8 else some false) (fun k => ?_) ?_
        · simp only [haulageref09_Plain.l0]
          rw [if_pos (by omega), if_pos (by omega), if_pos (by omega), rrd_col _ i hi, i64w_succ _ (by omega)]
        · by_cases h0 : d.f8[i].f0 = 0
          · simp only [h0, if_true, decide_true, Bool.true_and]
            exact ih
          · simp only [h0, if_false, decide_false, Bool.false_and]
            exact Ev.now _) 0 (Nat.zero_le _)
    rw [List.drop_zero] at hl
    exact hl
  have hs : ∀ c : S_DDL, c.f8.length ≤ 1000000000 → ∀ b, sameD c d = b → Ev (fun k => (haulageref09_Same k c.f0 c.f1 c.f2 c.f3 c.f4 c.f5.f0 c.f5.f1 c.f6 c.f7.f0 c.f7.f1 c.f7.f2 c.f8 d.f0 d.f1 d.f2 d.f3 d.f4 d.f5.f0 d.f5.f1 d.f6 d.f7.f0 d.f7.f1 d.f7.f2 d.f8).bind fun t => some t) b := fun c hc b hb => by
    rw [← hb]
    exact Ev.bind (rsameD_ev c d hc) (Ev.now _)
  have he : colsEq [] d.f8 = decide (d.f8.length = 0) := by
    unfold colsEq
    simp only [same2, Bool.and_true]
    exact decide_eq_decide.2 (by simp [eq_comm])
  obtain ⟨op, tb, co, to, ke, ty, nu, de, cs⟩ := d
  simp only at hl h hs he ⊢
  unfold haulageref09_Plain plainB
  by_cases h1 : op = 1
  · subst h1
    simp only [if_true]
    have := hl ⟨1, tb, ⟨#[]⟩, ⟨#[]⟩, ke, ⟨0, 0⟩, false, ⟨0, 0, ⟨#[]⟩⟩, cs⟩ h
    refine Ev.eq this ?_
    simp only [sameD, colsEq_refl, beq_self_eq_true, Bool.true_and, Bool.and_true, nE_text', nT_text', nN_text', zV_text2']
  simp only [if_neg h1]
  by_cases h2 : op = 2
  · subst h2
    simp only [if_true, Int.reduceEq, if_false]
    refine hs ⟨2, tb, ⟨#[]⟩, ⟨#[]⟩, ⟨#[]⟩, ⟨0, 0⟩, false, ⟨0, 0, ⟨#[]⟩⟩, []⟩ (by simp) _ ?_
    simp only [sameD, he, beq_self_eq_true, Bool.true_and, Bool.and_true, nE_text', nT_text', nN_text', zV_text2']
    cases decide (cs.length = 0) <;> cases nE ke <;> cases nE co <;> cases nE to <;> simp
  simp only [if_neg h2]
  by_cases h3 : op = 3
  · subst h3
    simp only [if_true, Int.reduceEq, if_false]
    refine hs ⟨3, tb, ⟨#[]⟩, to, ⟨#[]⟩, ⟨0, 0⟩, false, ⟨0, 0, ⟨#[]⟩⟩, []⟩ (by simp) _ ?_
    simp only [sameD, he, beq_self_eq_true, Bool.true_and, Bool.and_true, nE_text', nT_text', nN_text', zV_text2']
    cases decide (cs.length = 0) <;> cases nE ke <;> cases nE co <;> cases nE to <;> simp
  simp only [if_neg h3]
  by_cases h4 : op = 4
  · subst h4
    simp only [if_true, Int.reduceEq, if_false]
    refine hs ⟨4, tb, co, ⟨#[]⟩, ⟨#[]⟩, ty, nu, de, []⟩ (by simp) _ ?_
    simp only [sameD, he, beq_self_eq_true, Bool.true_and, Bool.and_true, nE_text', nT_text', nN_text', zV_text2']
    cases decide (cs.length = 0) <;> cases nE ke <;> cases nE co <;> cases nE to <;> simp
  simp only [if_neg h4]
  by_cases h5 : op = 5
  · subst h5
    simp only [if_true, Int.reduceEq, if_false]
    refine hs ⟨5, tb, co, ⟨#[]⟩, ⟨#[]⟩, ⟨0, 0⟩, false, ⟨0, 0, ⟨#[]⟩⟩, []⟩ (by simp) _ ?_
    simp only [sameD, he, beq_self_eq_true, Bool.true_and, Bool.and_true, nE_text', nT_text', nN_text', zV_text2']
    cases decide (cs.length = 0) <;> cases nE ke <;> cases nE co <;> cases nE to <;> simp
  simp only [if_neg h5]
  by_cases h6 : op = 6
  · subst h6
    simp only [if_true, Int.reduceEq, if_false]
    refine hs ⟨6, tb, co, to, ⟨#[]⟩, ⟨0, 0⟩, false, ⟨0, 0, ⟨#[]⟩⟩, []⟩ (by simp) _ ?_
    simp only [sameD, he, beq_self_eq_true, Bool.true_and, Bool.and_true, nE_text', nT_text', nN_text', zV_text2']
    cases decide (cs.length = 0) <;> cases nE ke <;> cases nE co <;> cases nE to <;> simp
  simp only [if_neg h6]
  by_cases h7 : op = 7
  · subst h7
    simp only [if_true, Int.reduceEq, if_false]
    refine hs ⟨7, tb, co, ⟨#[]⟩, ⟨#[]⟩, ty, false, ⟨0, 0, ⟨#[]⟩⟩, []⟩ (by simp) _ ?_
    simp only [sameD, he, beq_self_eq_true, Bool.true_and, Bool.and_true, nE_text', nT_text', nN_text', zV_text2']
    cases decide (cs.length = 0) <;> cases nE ke <;> cases nE co <;> cases nE to <;> simp
  simp only [if_neg h7]
  by_cases h8 : op = 8
  · subst h8
    simp only [if_true, Int.reduceEq, if_false]
    refine hs ⟨8, tb, co, ⟨#[]⟩, ⟨#[]⟩, ⟨0, 0⟩, false, de, []⟩ (by simp) _ ?_
    simp only [sameD, he, beq_self_eq_true, Bool.true_and, Bool.and_true, nE_text', nT_text', nN_text', zV_text2']
    cases decide (cs.length = 0) <;> cases nE ke <;> cases nE co <;> cases nE to <;> simp
  simp only [if_neg h8]
  simp only [Bool.and_false]
  exact Ev.now _
theorem rcanc_ev (c : S_Column) (h1 : c.f1.size ≤ 1000000000) (h2 : c.f4.f2.size ≤ 1000000000) (h3 : (Lit.int .i64 c.f4.f1).wf = true) : Ev (fun k => haulageref10_column k c.f0 c.f1 c.f2.f0 c.f2.f1 c.f3 c.f4.f0 c.f4.f1 c.f4.f2) (canC c) := by
  refine Ev.flat2 0 (rname_ev c.f1 (by omega)) (rval_ev c.f4.f0 c.f4.f1 c.f4.f2 h2 h3) (fun m g1 g2 => ?_)
  have g1 := g1 0
  have g2 := g2 0
  simp only [Nat.add_zero] at g1 g2 ⊢
  simp only [haulageref10_column, g1, g2, rtyp_eq, Option.bind_some, canC]
  cases nameB c.f1 <;> cases typB c.f2.f0 c.f2.f1 <;> simp
theorem rcanl_ev (l : List S_Column) (ke : ByteArray) (hk : ke.size ≤ 1000000000) (hl : l.length ≤ 1000000000) (hc : ∀ c ∈ l, OkCol c) (v0 : Int) (v1 v2 v3 : ByteArray) (v5 v6 : Int) (v7 : Bool) (v8 v9 : Int) (v10 : ByteArray) :
    Ev (fun k => haulageref10_Can.l0 k 0 v0 v1 v2 v3 ke v5 v6 v7 v8 v9 v10 l) (l.all canC && (nameB ke && decide (1 ≤ l.length ∧ l.length ≤ 10))) := by
  have h := down (P := fun i => Ev (fun k => haulageref10_Can.l0 k (i : Int) v0 v1 v2 v3 ke v5 v6 v7 v8 v9 v10 l) ((l.drop i).all canC && (nameB ke && decide (1 ≤ l.length ∧ l.length ≤ 10)))) (n := l.length)
    (by
      rw [List.drop_length]
      refine Ev.step (fun k => by simp only [haulageref10_Can.l0]; rw [if_neg (by omega)]) (Ev.bind (rname_ev ke (by omega)) ?_)
      cases nameB ke
      · exact Ev.now _
      · refine Ev.flat0 0 (fun k => ?_)
        by_cases h1 : 1 ≤ l.length
        · simp only [if_pos (show (l.length : Int) ≥ 1 by omega), if_true, Bool.true_and]
          rw [show decide ((l.length : Int) ≤ 10) = decide (1 ≤ l.length ∧ l.length ≤ 10) from decide_eq_decide.2 (by omega)]
          rfl
        · simp only [if_neg (show ¬ (l.length : Int) ≥ 1 by omega), if_true, Bool.true_and]
          rw [decide_eq_false (by omega)]
          rfl)
    (fun i hi ih => by
      rw [List.drop_eq_getElem_cons hi, List.all_cons]
      have hcc := hc _ (List.getElem_mem hi)
      refine Ev.step (fun k => by simp only [haulageref10_Can.l0]; rw [if_pos (by omega), if_pos (by omega), if_pos (by omega), rrd_col l i hi, i64w_succ _ (by omega)]) (Ev.bind (rcanc_ev l[i] hcc.1 hcc.2.1 hcc.2.2) ?_)
      cases canC l[i]
      · exact Ev.now _
      · exact ih) 0 (Nat.zero_le _)
  exact h
theorem rcan_ev (d : S_DDL) (h : OkD d) : Ev (fun k => haulageref10_Can k d.f0 d.f1 d.f2 d.f3 d.f4 d.f5.f0 d.f5.f1 d.f6 d.f7.f0 d.f7.f1 d.f7.f2 d.f8) (canB d) := by
  obtain ⟨h1, h2, h3, h4, h5, hw, h6, h7⟩ := h
  unfold haulageref10_Can canB
  refine Ev.bind (rplain_ev d h6) ?_
  cases plainB d
  · exact Ev.now _
  refine Ev.congr (fun k => if_pos rfl) (Ev.bind (rname_ev d.f1 (by omega)) ?_)
  cases nameB d.f1
  · exact Ev.now _
  refine Ev.congr (fun k => if_pos rfl) ?_
  rw [Bool.true_and, Bool.true_and]
  have hv := rval_ev d.f7.f0 d.f7.f1 d.f7.f2 h5 hw
  have n2 := rname_ev d.f2 (by omega)
  have n3 := rname_ev d.f3 (by omega)
  obtain ⟨op, tb, co, to, ke, ty, nu, de, cs⟩ := d
  simp only at h1 h2 h3 h4 h5 h6 h7 hv n2 n3 ⊢
  unfold canM
  by_cases c1 : op = 1
  · subst c1
    simp only [Int.reduceEq, if_true]
    exact rcanl_ev cs ke h4 h6 h7 _ _ _ _ _ _ _ _ _ _
  simp only [if_neg c1]
  by_cases c3 : op = 3
  · subst c3
    simp only [Int.reduceEq, if_true, if_false]
    exact Ev.bind n3 (Ev.now _)
  simp only [if_neg c3]
  by_cases c4 : op = 4
  · subst c4
    simp only [Int.reduceEq, if_true, if_false]
    refine Ev.flat2 0 n2 hv (fun m g1 g2 => ?_)
    have g1 := g1 0
    have g2 := g2 0
    simp only [Nat.add_zero] at g1 g2 ⊢
    simp only [g1, g2, rtyp_eq, Option.bind_some, canC, addC]
    cases nameB co <;> cases typB ty.f0 ty.f1 <;> simp
  simp only [if_neg c4]
  by_cases c5 : op = 5
  · subst c5
    simp only [Int.reduceEq, if_true, if_false]
    exact Ev.bind n2 (Ev.now _)
  simp only [if_neg c5]
  by_cases c6 : op = 6
  · subst c6
    simp only [Int.reduceEq, if_true, if_false]
    refine Ev.bind n2 ?_
    cases nameB co
    · exact Ev.now _
    · exact Ev.congr (fun k => if_pos rfl) (Ev.bind n3 (Ev.now _))
  simp only [if_neg c6]
  by_cases c7 : op = 7
  · subst c7
    simp only [Int.reduceEq, if_true, if_false]
    refine Ev.bind n2 ?_
    cases nameB co
    · exact Ev.now _
    · exact Ev.congr (f := fun _ => some (typB ty.f0 ty.f1)) (fun k => by rw [if_pos rfl, rtyp_eq]; rfl) (Ev.now _)
  simp only [if_neg c7]
  by_cases c8 : op = 8
  · subst c8
    simp only [Int.reduceEq, if_true, if_false]
    refine Ev.bind n2 ?_
    cases nameB co
    · exact Ev.now _
    · exact Ev.congr (fun k => if_pos rfl) (Ev.bind hv (Ev.now _))
  simp only [if_neg c8]
  exact Ev.now _

theorem val_kind {k n : Int} {s : ByteArray} (h : valB k n s = true) : 0 ≤ k ∧ k ≤ 4 := by
  unfold valB at h
  split at h
  · omega
  · split at h
    · omega
    · split at h
      · omega
      · split at h
        · omega
        · split at h
          · omega
          · cases h
theorem canC_w {c : S_Column} (h : canC c = true) (h0 : c.f0 = 0) (hw : (Lit.int .i64 c.f4.f1).wf = true) : WCol c := by
  unfold canC at h
  rw [Bool.and_eq_true, Bool.and_eq_true] at h
  have h1 := name16 h.1
  have h2 := typ4 h.2.1
  have h3 := val_kind h.2.2
  have h4 := valB_size h.2.2
  have hm := maxN_eq
  exact ⟨by omega, by omega, by omega, h3, by omega, hw⟩
theorem dw_l0 (l : List S_Column) (hl : l.length ≤ 1000) (hc : ∀ c ∈ l, WCol c) (v0 : Int) (v1 v2 v3 v4 : ByteArray) (v5 v6 : Int) (v7 : Bool) (v8 v9 : Int) (v10 : ByteArray) (v11 : List S_Column) : ∀ (n j : Nat) (acc : List Int), j + n = l.length → acc.length + n * 510 ≤ 50000000 →
    Ev (fun k => catcode_DDL.l0 k acc l (l.length : Int) (j : Int) v0 v1 v2 v3 v4 v5 v6 v7 v8 v9 v10 v11) (strOfNums (acc ++ (l.drop j).flatMap bodyE), 0)
  | 0, j, acc, hj, ha => by
    refine Ev.step (fun k => by simp only [catcode_DDL.l0]; rw [if_neg (by omega)]) ?_
    rw [List.drop_eq_nil_of_le (by omega)]
    show Ev (fun _ => some (strOfNums acc, (0 : Int))) _
    simpa using Ev.now (strOfNums acc, (0 : Int))
  | n + 1, j, acc, hj, ha => by
    have hlt : j < l.length := by omega
    have hcw := hc _ (List.getElem_mem hlt)
    have e2 := body_w acc l[j] hcw (by omega)
    have cl := body_len _ hcw
    have ih := dw_l0 l hl hc v0 v1 v2 v3 v4 v5 v6 v7 v8 v9 v10 v11 n (j + 1) (acc ++ bodyE l[j]) (by omega) (by rw [List.length_append]; omega)
    rw [List.append_assoc] at ih
    rw [List.drop_eq_getElem_cons hlt, List.flatMap_cons]
    refine Ev.step (fun k => by simp only [catcode_DDL.l0]; rw [if_pos (by omega), if_pos (by omega), if_pos (by omega), rrd_col l j hlt]) (Ev.bind e2 ?_)
    rw [i64w_succ j (by omega)]
    exact ih
theorem can_parts {d : S_DDL} (h : canB d = true) : plainB d = true ∧ d.f1.size ≤ 16 ∧ canM d = true := by
  unfold canB at h
  rw [Bool.and_eq_true, Bool.and_eq_true] at h
  exact ⟨h.1, name16 h.2.1, h.2.2⟩
theorem pre_eq (op : Int) (t : List Int) (m : List Int) : [1, op] ++ t ++ m = [1] ++ ([op] ++ (t ++ m)) := by simp
theorem ddl_w (d : S_DDL) (hd : OkD d) : Ev (fun k => catcode_DDL k d.f0 d.f1 d.f2 d.f3 d.f4 d.f5.f0 d.f5.f1 d.f6 d.f7.f0 d.f7.f1 d.f7.f2 d.f8) (if canB d = true then (strOfNums (ddlE d), 0) else (nilB, 2)) := by
  unfold catcode_DDL
  refine Ev.bind (can_ev d hd) ?_
  cases hc : canB d
  · refine Ev.congr (f := fun _ => some (nilB, 2)) (fun k => by rw [if_neg (by simp)]) (by rw [if_neg (by simp)]; exact Ev.now _)
  obtain ⟨hp, h1, hm⟩ := can_parts hc
  have hop := plain_op hp
  have hx := maxN_eq
  obtain ⟨_, _, _, _, _, hw, _, hws⟩ := hd
  refine Ev.congr (fun k => if_pos rfl) ?_
  rw [if_pos rfl]
  clear hc
  unfold ddlE
  have hu : IntKind.u8.wrap d.f0 = d.f0 := by rw [u8w]; omega
  rw [hu]
  have ht := text_w [1, d.f0] d.f1 (by omega) (by simp)
  refine Ev.bind ht ?_
  have hl : ([1, d.f0] ++ textE d.f1).length ≤ 100 := by
    have := text_len d.f1 (by omega)
    rw [List.length_append]
    simp only [List.length_cons, List.length_nil]
    omega
  rw [← pre_eq]
  generalize [1, d.f0] ++ textE d.f1 = b at hl
  clear ht
  obtain ⟨op, tb, co, to, ke, ty, nu, de, cs⟩ := d
  simp only at hp h1 hm hop hw hws hu ⊢
  unfold plainB at hp
  unfold canM at hm
  unfold moreE
  simp only at hp hm ⊢
  have hk : op = 1 ∨ op = 2 ∨ op = 3 ∨ op = 4 ∨ op = 5 ∨ op = 6 ∨ op = 7 ∨ op = 8 := by omega
  rcases hk with e | e | e | e | e | e | e | e
  · subst e
    simp only [Int.reduceEq, if_true, if_false] at hp hm ⊢
    rw [Bool.and_eq_true, Bool.and_eq_true, decide_eq_true_iff] at hm
    rw [Bool.and_eq_true] at hp
    have hk := name16 hm.2.1
    have z1 := text_len ke (by omega)
    have z2 := sb_len10 (n := cs.length) (by omega)
    have l1 : (b ++ textE ke).length ≤ 200 := by rw [List.length_append]; omega
    refine Ev.bind (text_w b ke (by omega) (by omega)) (Ev.bind (number_w (b ++ textE ke) (cs.length : Int) (by omega) (by omega) (by omega)) ?_)
    rw [Int.toNat_natCast]
    have := dw_l0 cs (by omega) (fun c hc => canC_w (List.all_eq_true.1 hm.1 c hc) (of_decide_eq_true (List.all_eq_true.1 hp.1 c hc)) (hws c hc).2.2) 1 tb co to ke ty.f0 ty.f1 nu de.f0 de.f1 de.f2 cs cs.length 0 (b ++ textE ke ++ sb cs.length) (by omega) (by rw [List.length_append]; omega)
    rw [List.drop_zero] at this
    refine Ev.eq this ?_
    simp only [List.append_assoc]
  · subst e
    simp only [Int.reduceEq, if_true, if_false, List.append_nil] at hp hm ⊢
    exact Ev.now _
  · subst e
    simp only [Int.reduceEq, if_true, if_false] at hp hm ⊢
    have hk := name16 hm
    exact Ev.bind (text_w b to (by omega) (by omega)) (Ev.now _)
  · subst e
    simp only [Int.reduceEq, if_true, if_false] at hp hm ⊢
    exact Ev.bind (body_w b (addC ⟨4, tb, co, to, ke, ty, nu, de, cs⟩) (canC_w hm rfl hw) (by omega)) (Ev.now _)
  · subst e
    simp only [Int.reduceEq, if_true, if_false] at hp hm ⊢
    have hk := name16 hm
    exact Ev.bind (text_w b co (by omega) (by omega)) (Ev.now _)
  · subst e
    simp only [Int.reduceEq, if_true, if_false] at hp hm ⊢
    rw [Bool.and_eq_true] at hm
    have hk := name16 hm.1
    have hk2 := name16 hm.2
    have z1 := text_len co (by omega)
    refine Ev.bind (text_w b co (by omega) (by omega)) (Ev.bind (text_w (b ++ textE co) to (by omega) (by rw [List.length_append]; omega)) ?_)
    rw [List.append_assoc]
    exact Ev.now _
  · subst e
    simp only [Int.reduceEq, if_true, if_false] at hp hm ⊢
    rw [Bool.and_eq_true] at hm
    have hk := name16 hm.1
    have hk2 := typ4 hm.2
    have z1 := text_len co (by omega)
    refine Ev.bind (text_w b co (by omega) (by omega)) (Ev.bind (kind_w (b ++ textE co) ty (by omega) (by omega) (by rw [List.length_append]; omega)) ?_)
    rw [List.append_assoc]
    exact Ev.now _
  · subst e
    simp only [Int.reduceEq, if_true, if_false] at hp hm ⊢
    rw [Bool.and_eq_true] at hm
    have hk := name16 hm.1
    have hk2 := val_kind hm.2
    have hk3 := valB_size hm.2
    have z1 := text_len co (by omega)
    refine Ev.bind (text_w b co (by omega) (by omega)) (Ev.bind (put_w (b ++ textE co) de (by omega) (by omega) hw (by rw [List.length_append]; omega)) ?_)
    rw [List.append_assoc]
    exact Ev.now _
theorem rdw_l0 (l : List S_Column) (hl : l.length ≤ 1000) (hc : ∀ c ∈ l, WCol c) (v0 : Int) (v1 v2 v3 v4 : ByteArray) (v5 v6 : Int) (v7 : Bool) (v8 v9 : Int) (v10 : ByteArray) : ∀ (n j : Nat) (acc : List Int), j + n = l.length → acc.length + n * 510 ≤ 50000000 →
    Ev (fun k => haulageref11_DDL.l0 k (strOfNums acc) (j : Int) v0 v1 v2 v3 v4 v5 v6 v7 v8 v9 v10 l) (strOfNums (acc ++ (l.drop j).flatMap bodyE))
  | 0, j, acc, hj, ha => by
    refine Ev.step (fun k => by simp only [haulageref11_DDL.l0]; rw [if_neg (by omega)]) ?_
    rw [List.drop_eq_nil_of_le (by omega)]
    simpa using Ev.now (strOfNums acc)
  | n + 1, j, acc, hj, ha => by
    have hlt : j < l.length := by omega
    have hcw := hc _ (List.getElem_mem hlt)
    have e2 := rbody_w l[j] hcw
    have cl := body_len _ hcw
    have ih := rdw_l0 l hl hc v0 v1 v2 v3 v4 v5 v6 v7 v8 v9 v10 n (j + 1) (acc ++ bodyE l[j]) (by omega) (by rw [List.length_append]; omega)
    rw [List.append_assoc] at ih
    rw [List.drop_eq_getElem_cons hlt, List.flatMap_cons]
    refine Ev.step (fun k => by simp only [haulageref11_DDL.l0]; rw [if_pos (by omega), if_pos (by omega), if_pos (by omega), rrd_col l j hlt]) (Ev.bind e2 ?_)
    refine Ev.congr (fun k => by rw [strOfNums_size, strOfNums_size, if_pos (by omega), ← strOfNums_append, i64w_succ j (by omega)]) ih
theorem rddl_w (d : S_DDL) (hd : OkD d) (hc : canB d = true) : Ev (fun k => haulageref11_DDL k d.f0 d.f1 d.f2 d.f3 d.f4 d.f5.f0 d.f5.f1 d.f6 d.f7.f0 d.f7.f1 d.f7.f2 d.f8) (strOfNums (ddlE d)) := by
  obtain ⟨hp, h1, hm⟩ := can_parts hc
  have hop := plain_op hp
  have hx := maxN_eq
  obtain ⟨_, _, _, _, _, hw, _, hws⟩ := hd
  clear hc
  unfold haulageref11_DDL ddlE
  have ht := rtext_w d.f1 (by omega)
  have hl0 := text_len d.f1 (by omega)
  refine Ev.congr (fun k => by rw [rone_w k 1 (by decide) (by decide), Option.bind_some, rone_w k d.f0 (by omega) (by omega), Option.bind_some, strOfNums_size, strOfNums_size, if_pos (by simp only [List.length_cons, List.length_nil]; omega)]) ?_
  refine Ev.bind ht ?_
  have hl : ([1, d.f0] ++ textE d.f1).length ≤ 100 := by
    rw [List.length_append]
    simp only [List.length_cons, List.length_nil]
    omega
  refine Ev.congr (fun k => by rw [← strOfNums_append, strOfNums_size, strOfNums_size, if_pos (by simp only [List.length_append, List.length_cons, List.length_nil]; omega), ← strOfNums_append, show [1] ++ [d.f0] ++ textE d.f1 = [1, d.f0] ++ textE d.f1 from rfl]) ?_
  rw [← pre_eq]
  generalize [1, d.f0] ++ textE d.f1 = b at hl
  clear ht
  obtain ⟨op, tb, co, to, ke, ty, nu, de, cs⟩ := d
  simp only at hp h1 hm hop hw hws hl0 ⊢
  unfold plainB at hp
  unfold canM at hm
  unfold moreE
  simp only at hp hm ⊢
  have one : ∀ (f : Nat → Option ByteArray) (l : List Int), l.length ≤ 1000000 → Ev f (strOfNums l) → Ev (fun k => (f k).bind fun t => if (strOfNums b).size + t.size ≤ 9223372036854775807 then some (strOfNums b ++ t) else none) (strOfNums (b ++ l)) := fun f l hll hf => by
    refine Ev.bind hf (Ev.congr (f := fun _ => some (strOfNums (b ++ l))) (fun k => ?_) (Ev.now _))
    rw [strOfNums_size, strOfNums_size, if_pos (by omega), ← strOfNums_append]
  have hk : op = 1 ∨ op = 2 ∨ op = 3 ∨ op = 4 ∨ op = 5 ∨ op = 6 ∨ op = 7 ∨ op = 8 := by omega
  rcases hk with e | e | e | e | e | e | e | e
  · subst e
    simp only [Int.reduceEq, if_true, if_false] at hp hm ⊢
    rw [Bool.and_eq_true, Bool.and_eq_true, decide_eq_true_iff] at hm
    rw [Bool.and_eq_true] at hp
    have hk := name16 hm.2.1
    have z1 := text_len ke (by omega)
    have z2 := sb_len10 (n := cs.length) (by omega)
    have l1 : (b ++ textE ke).length ≤ 200 := by rw [List.length_append]; omega
    have hn := rnumber_w (cs.length : Int) (by omega) (by omega)
    rw [Int.toNat_natCast] at hn
    refine Ev.bind (rtext_w ke (by omega)) ?_
    refine Ev.congr (fun k => by rw [strOfNums_size, strOfNums_size, if_pos (by omega), ← strOfNums_append]) (Ev.bind hn ?_)
    refine Ev.congr (fun k => by rw [strOfNums_size, strOfNums_size, if_pos (by omega), ← strOfNums_append]) ?_
    have := rdw_l0 cs (by omega) (fun c hc => canC_w (List.all_eq_true.1 hm.1 c hc) (of_decide_eq_true (List.all_eq_true.1 hp.1 c hc)) (hws c hc).2.2) 1 tb co to ke ty.f0 ty.f1 nu de.f0 de.f1 de.f2 cs.length 0 (b ++ textE ke ++ sb cs.length) (by omega) (by rw [List.length_append]; omega)
    rw [List.drop_zero] at this
    refine Ev.eq this ?_
    simp only [List.append_assoc]
  · subst e
    simp only [Int.reduceEq, if_true, if_false, List.append_nil] at hp hm ⊢
    exact Ev.now _
  · subst e
    simp only [Int.reduceEq, if_true, if_false] at hp hm ⊢
    have hk := name16 hm
    have z1 := text_len to (by omega)
    exact one _ _ (by omega) (rtext_w to (by omega))
  · subst e
    simp only [Int.reduceEq, if_true, if_false] at hp hm ⊢
    have hW := canC_w (c := addC ⟨4, tb, co, to, ke, ty, nu, de, cs⟩) hm rfl hw
    have hbl := body_len _ hW
    have hk := hW.2.1
    have hk2 := hW.2.2.1
    have hk3 := hW.2.2.2
    simp only [addC] at hk hk2 hk3
    unfold bodyE at hbl ⊢
    simp only [addC, List.length_append, List.length_cons, List.length_nil] at hbl ⊢
    refine Ev.flat3 0 (rtext_w co (by omega)) (rkind_w ty (by omega) (by omega)) (rval_w de hk3.1 (by omega) hw) (fun m g1 g2 g3 => ?_)
    have g1 := g1 0
    have g2 := g2 0
    have g3 := g3 0
    simp only [Nat.add_zero] at g1 g2 g3 ⊢
    simp only [g1, g2, rflag_w, g3, Option.bind_some, ← strOfNums_append, strOfNums_size, List.length_append, List.length_cons, List.length_nil]
    rw [if_pos (by omega), if_pos (by omega), if_pos (by omega), if_pos (by omega)]
    simp only [List.append_assoc]
    rfl
  · subst e
    simp only [Int.reduceEq, if_true, if_false] at hp hm ⊢
    have hk := name16 hm
    have z1 := text_len co (by omega)
    exact one _ _ (by omega) (rtext_w co (by omega))
  · subst e
    simp only [Int.reduceEq, if_true, if_false] at hp hm ⊢
    rw [Bool.and_eq_true] at hm
    have hk := name16 hm.1
    have hk2 := name16 hm.2
    have z1 := text_len co (by omega)
    have z2 := text_len to (by omega)
    refine Ev.flat2 0 (rtext_w co (by omega)) (rtext_w to (by omega)) (fun m g1 g2 => ?_)
    have g1 := g1 0
    have g2 := g2 0
    simp only [Nat.add_zero] at g1 g2 ⊢
    simp only [g1, g2, Option.bind_some, ← strOfNums_append, strOfNums_size, List.length_append]
    rw [if_pos (by omega), if_pos (by omega), List.append_assoc]
  · subst e
    simp only [Int.reduceEq, if_true, if_false] at hp hm ⊢
    rw [Bool.and_eq_true] at hm
    have hk := name16 hm.1
    have hk2 := typ4 hm.2
    have z1 := text_len co (by omega)
    have z2 := sb_len10 (n := ty.f1.toNat) (by omega)
    have z3 : (kindE ty).length ≤ 11 := by unfold kindE; simp only [List.length_cons]; omega
    refine Ev.flat2 0 (rtext_w co (by omega)) (rkind_w ty (by omega) (by omega)) (fun m g1 g2 => ?_)
    have g1 := g1 0
    have g2 := g2 0
    simp only [Nat.add_zero] at g1 g2 ⊢
    simp only [g1, g2, Option.bind_some, ← strOfNums_append, strOfNums_size, List.length_append]
    rw [if_pos (by omega), if_pos (by omega), List.append_assoc]
  · subst e
    simp only [Int.reduceEq, if_true, if_false] at hp hm ⊢
    rw [Bool.and_eq_true] at hm
    have hk := name16 hm.1
    have hk2 := val_kind hm.2
    have hk3 := valB_size hm.2
    have z1 := text_len co (by omega)
    have z2 := val_len de (by omega) hw
    refine Ev.flat2 0 (rtext_w co (by omega)) (rval_w de hk2 (by omega) hw) (fun m g1 g2 => ?_)
    have g1 := g1 0
    have g2 := g2 0
    simp only [Nat.add_zero] at g1 g2 ⊢
    simp only [g1, g2, Option.bind_some, ← strOfNums_append, strOfNums_size, List.length_append]
    rw [if_pos (by omega), if_pos (by omega), List.append_assoc]

/-- Is a table tried? -/
def fewC (c : S_Column) : Bool := decide (c.f1.size ≤ 200) && decide (c.f4.f2.size ≤ 200)
def fewB (a1 : ByteArray) (l : List S_Column) : Bool := decide (l.length ≤ 20) && (decide (a1.size ≤ 200) && l.all fewC)
theorem few_ev (a0 : Int) (a1 : ByteArray) (a2 a3 : Int) (l : List S_Column) (hl : l.length ≤ 9223372036854775807) : Ev (fun k => haulagelaw08_Few k a0 a1 a2 a3 l) (fewB a1 l) := by
  have hs : ∀ (k : Nat) (s : ByteArray), haulagelaw08_short k s = some (decide (s.size ≤ 200)) := fun k s => by
    unfold haulagelaw08_short
    congr 1
    by_cases h : s.size ≤ 200
    · rw [decide_eq_true (show (s.size : Int) ≤ 200 by omega), decide_eq_true h]
    · rw [decide_eq_false (show ¬ (s.size : Int) ≤ 200 by omega), decide_eq_false h]
  have h := down (P := fun i => Ev (fun k => haulagelaw08_Few.l0 k (i : Int) a0 a1 a2 a3 l) ((l.drop i).all fewC)) (n := l.length)
    (by rw [List.drop_length]; exact Ev.step (f := fun _ => some true) (fun k => by simp only [haulagelaw08_Few.l0]; rw [if_neg (by omega)]) (Ev.now _))
    (fun i hi ih => by
      rw [List.drop_eq_getElem_cons hi, List.all_cons]
      refine Ev.step (f := fun k => if decide (l[i].f1.size ≤ 200) = true then (if decide (l[i].f4.f2.size ≤ 200) = true then haulagelaw08_Few.l0 k ((i + 1 : Nat) : Int) a0 a1 a2 a3 l else some false) else some false) (fun k => ?_) ?_
      · simp only [haulagelaw08_Few.l0]
        rw [if_pos (by omega), if_pos (by omega), if_pos (by omega), if_pos (by omega), if_pos (by omega), rrd_col l i hi, i64w_succ _ (by omega), hs, hs, Option.bind_some, Option.bind_some]
      · unfold fewC
        by_cases h1 : l[i].f1.size ≤ 200
        · by_cases h2 : l[i].f4.f2.size ≤ 200
          · simp only [h1, h2, decide_true, if_true, Bool.true_and]
            exact ih
          · simp only [h1, h2, decide_true, decide_false, if_true, Bool.false_eq_true, if_false, Bool.and_false, Bool.false_and]
            exact Ev.now _
        · simp only [h1, decide_false, Bool.false_eq_true, if_false, Bool.false_and]
          exact Ev.now _) 0 (Nat.zero_le _)
  unfold haulagelaw08_Few fewB
  by_cases h1 : l.length ≤ 20
  · refine Ev.congr (fun k => by rw [if_neg (by omega), hs, Option.bind_some]) ?_
    rw [decide_eq_true h1, Bool.true_and]
    by_cases h2 : a1.size ≤ 200
    · rw [decide_eq_true h2, Bool.true_and]
      exact Ev.congr (fun k => if_pos rfl) h
    · rw [decide_eq_false h2, Bool.false_and]
      exact Ev.congr (f := fun _ => some false) (fun k => if_neg (by simp)) (Ev.now _)
  · rw [decide_eq_false h1, Bool.false_and]
    exact Ev.congr (f := fun _ => some false) (fun k => by rw [if_pos (by omega)]) (Ev.now _)
theorem fewB_iff (a1 : ByteArray) (l : List S_Column) : fewB a1 l = true ↔ l.length ≤ 20 ∧ a1.size ≤ 200 ∧ ∀ c ∈ l, c.f1.size ≤ 200 ∧ c.f4.f2.size ≤ 200 := by
  simp [fewB, fewC, List.all_eq_true]

def fewD (d : S_DDL) : Bool := decide (d.f1.size + d.f2.size + d.f3.size + d.f4.size + d.f7.f2.size ≤ 600) && fewB nilB d.f8
theorem fewd_ev (d : S_DDL) (h1 : d.f1.size ≤ 140737488351232) (h2 : d.f2.size ≤ 140737488351232) (h3 : d.f3.size ≤ 140737488351232) (h4 : d.f4.size ≤ 140737488351232) (h5 : d.f7.f2.size ≤ 140737488351232) (hl : d.f8.length ≤ 140737488351232) :
    Ev (fun k => haulagelaw09_Few k d.f0 d.f1 d.f2 d.f3 d.f4 d.f5.f0 d.f5.f1 d.f6 d.f7.f0 d.f7.f1 d.f7.f2 d.f8) (fewD d) := by
  unfold haulagelaw09_Few fewD
  have w1 : IntKind.i64.wrap ((d.f1.size : Int) + (d.f2.size : Int)) = (d.f1.size : Int) + (d.f2.size : Int) := i64w _ (by omega) (by omega)
  have w2 : IntKind.i64.wrap ((d.f1.size : Int) + (d.f2.size : Int) + (d.f3.size : Int)) = (d.f1.size : Int) + (d.f2.size : Int) + (d.f3.size : Int) := i64w _ (by omega) (by omega)
  have w3 : IntKind.i64.wrap ((d.f1.size : Int) + (d.f2.size : Int) + (d.f3.size : Int) + (d.f4.size : Int)) = (d.f1.size : Int) + (d.f2.size : Int) + (d.f3.size : Int) + (d.f4.size : Int) := i64w _ (by omega) (by omega)
  have w4 : IntKind.i64.wrap ((d.f1.size : Int) + (d.f2.size : Int) + (d.f3.size : Int) + (d.f4.size : Int) + (d.f7.f2.size : Int)) = (d.f1.size : Int) + (d.f2.size : Int) + (d.f3.size : Int) + (d.f4.size : Int) + (d.f7.f2.size : Int) := i64w _ (by omega) (by omega)
  rw [w1, w2, w3, w4]
  by_cases h : d.f1.size + d.f2.size + d.f3.size + d.f4.size + d.f7.f2.size ≤ 600
  · rw [decide_eq_true h, Bool.true_and]
    exact Ev.congr (fun k => if_pos (by omega)) (Ev.bind (few_ev 0 nilB 0 0 d.f8 (by omega)) (Ev.now _))
  · rw [decide_eq_false h, Bool.false_and]
    exact Ev.congr (f := fun _ => some false) (fun k => if_neg (by omega)) (Ev.now _)
theorem few_okD {d : S_DDL} (h : fewD d = true) (hw : (Lit.int .i64 d.f7.f1).wf = true) (hc : ∀ c ∈ d.f8, (Lit.int .i64 c.f4.f1).wf = true) : OkD d := by
  unfold fewD at h
  rw [Bool.and_eq_true, decide_eq_true_iff] at h
  have hb := (fewB_iff nilB d.f8).1 h.2
  refine ⟨by omega, by omega, by omega, by omega, by omega, hw, by omega, fun c hm => ?_⟩
  have := hb.2.2 c hm
  exact ⟨by omega, by omega, hc c hm⟩

/-- Is a record right? -/
def recR (a b c : Int) (s : ByteArray) : Bool := decide (1 ≤ a ∧ a ≤ 8 ∧ 0 ≤ b ∧ 0 ≤ c ∧ (a ≠ 8 ∨ b = 0) ∧ (c = 0 ∨ (2 ≤ a ∧ a ≤ 4)) ∧ (s.size = 0 ∨ (2 ≤ a ∧ a ≤ 5 ∧ s.size ≤ 65535)))
def rowB (n : Int) : Bool := decide (2 ≤ n ∧ n ≤ 4)
def imgB (n : Int) : Bool := decide (2 ≤ n ∧ n ≤ 5)
theorem dec_iff {p q : Prop} [Decidable p] [Decidable q] (h : p ↔ q) : decide p = decide q := by rw [decide_eq_decide]; exact h
theorem ofRow_eq (k : Nat) (n : Int) : walrec_ofRow k n = some (rowB n) := by
  unfold walrec_ofRow rowB
  by_cases h2 : n = 2
  · subst h2; simp
  · by_cases h3 : n = 3
    · subst h3; simp
    · by_cases h4 : n = 4
      · subst h4; simp
      · simp only [if_neg h2, if_neg h3, if_neg h4]
        rw [decide_eq_false (by omega)]
theorem imaged_eq (k : Nat) (n : Int) : walrec_imaged k n = some (imgB n) := by
  unfold walrec_imaged imgB
  rw [ofRow_eq, Option.bind_some]
  unfold rowB
  by_cases h : 2 ≤ n ∧ n ≤ 4
  · rw [decide_eq_true h, if_pos rfl, decide_eq_true (by omega)]
  · rw [decide_eq_false h, if_neg (by simp)]
    congr 1
    exact dec_iff (by omega)
theorem wright_eq (k : Nat) (a b c : Int) (s : ByteArray) : walrec_Right k a b c s = some (recR a b c s) := by
  have img : (if s.toList = (⟨#[]⟩ : ByteArray).toList then some true else (walrec_imaged k a).bind fun t => if t = true then some (decide ((s.size : Int) ≤ 65535)) else some false) = some (decide (s.size = 0 ∨ (2 ≤ a ∧ a ≤ 5 ∧ s.size ≤ 65535))) := by
    rw [imaged_eq, Option.bind_some]
    unfold imgB
    by_cases h0 : s.size = 0
    · rw [if_pos ((ba_nil0 s).2 h0), decide_eq_true (.inl h0)]
    · rw [if_neg (fun e => h0 ((ba_nil0 s).1 e))]
      by_cases h : 2 ≤ a ∧ a ≤ 5
      · rw [decide_eq_true h, if_pos rfl]
        congr 1
        exact dec_iff (by omega)
      · rw [decide_eq_false h, if_neg (by simp), decide_eq_false (by omega)]
  unfold walrec_Right
  simp only [img, ofRow_eq, Option.bind_some]
  unfold recR
  by_cases h1 : a < 1
  · rw [if_pos h1, decide_eq_false (by omega)]
  rw [if_neg h1]
  by_cases h2 : a > 8
  · rw [if_pos h2, decide_eq_false (by omega)]
  rw [if_neg h2]
  by_cases h3 : b < 0
  · rw [if_pos h3, decide_eq_false (by omega)]
  rw [if_neg h3]
  by_cases h4 : c < 0
  · rw [if_pos h4, decide_eq_false (by omega)]
  rw [if_neg h4]
  by_cases h5 : a = 8
  · rw [if_pos h5]
    by_cases h6 : b = 0
    · rw [if_pos h6]
      by_cases h7 : c = 0
      · rw [if_pos h7]
        congr 1
        exact dec_iff (by omega)
      · rw [if_neg h7]
        unfold rowB
        rw [decide_eq_false (by omega), if_neg (by simp), decide_eq_false (by omega)]
    · rw [if_neg h6, decide_eq_false (by omega)]
  · rw [if_neg h5]
    by_cases h7 : c = 0
    · rw [if_pos h7]
      congr 1
      exact dec_iff (by omega)
    · rw [if_neg h7]
      unfold rowB
      by_cases h8 : 2 ≤ a ∧ a ≤ 4
      · rw [decide_eq_true h8, if_pos rfl]
        congr 1
        exact dec_iff (by omega)
      · rw [decide_eq_false h8, if_neg (by simp), decide_eq_false (by omega)]
theorem rd_val (l : List S_Value) (i : Nat) (hi : i < l.length) : r_Value l (i : Int) = l[i] := by simp [r_Value, rd, List.getD, hi]
/-- What is known of a value that is tried. -/
def OkVal (v : S_Value) : Prop := v.f2.size ≤ 1000000000 ∧ (Lit.int .i64 v.f1).wf = true
/-- Why a value doesn't fit a column; 0. -/
def oneE (c : S_Column) (v : S_Value) : Int := if zeroV v = true then (if c.f3 = true then 0 else 11) else if fitB c.f2.f0 c.f2.f1 v.f0 v.f1 v.f2 = true then 0 else 10
theorem one_ev (c : S_Column) (v : S_Value) (h : OkVal v) : Ev (fun k => schema_one k c.f0 c.f1 c.f2.f0 c.f2.f1 c.f3 c.f4.f0 c.f4.f1 c.f4.f2 v.f0 v.f1 v.f2) (oneE c v) := by
  unfold schema_one oneE
  simp only [zeroV_text]
  by_cases hz : zeroV v = true
  · refine Ev.congr (f := fun _ => some (if c.f3 = true then 0 else 11)) (fun k => ?_) (Ev.eq (Ev.now _) (by rw [if_pos hz]))
    rw [if_pos hz, if_pos hz]
    split <;> rfl
  · refine Ev.congr (fun k => by rw [if_neg hz, if_neg hz]) (Ev.bind (fit_ev c.f2.f0 c.f2.f1 v.f0 v.f1 v.f2 h.1) ?_)
    rw [if_neg hz]
    split
    · exact Ev.now _
    · exact Ev.now _
/-- The first that doesn't fit tells why. -/
def rowGo : List S_Column → List S_Value → Int
  | _, [] => 0
  | [], _ :: _ => 0
  | c :: r, v :: s => if oneE c v = 0 then rowGo r s else oneE c v
def fitsE (l : List S_Column) (row : List S_Value) : Int := if row.length = l.length then rowGo l row else 5
theorem fits_ev (id : Int) (name : ByteArray) (key next : Int) (l : List S_Column) (row : List S_Value) (hr : row.length ≤ 1000000000) (hok : ∀ v ∈ row, OkVal v) : Ev (fun k => schema_fits k id name key next l row) (fitsE l row) := by
  unfold schema_fits fitsE
  by_cases hl : row.length = l.length
  · rw [if_pos hl]
    refine Ev.congr (fun k => by rw [if_pos (by omega)]) ?_
    have h := down (P := fun i => Ev (fun k => schema_fits.l0 k row (row.length : Int) (i : Int) id name key next l) (rowGo (l.drop i) (row.drop i))) (n := row.length)
      (by
        rw [List.drop_length]
        refine Ev.eq (Ev.step (f := fun _ => some 0) (fun k => by simp only [schema_fits.l0]; rw [if_neg (by omega)]) (Ev.now _)) ?_
        unfold rowGo
        rfl)
      (fun i hi ih => by
        rw [List.drop_eq_getElem_cons hi, List.drop_eq_getElem_cons (show i < l.length by omega)]
        refine Ev.step (fun k => by simp only [schema_fits.l0]; rw [if_pos (by omega), if_pos (by omega), if_pos (by omega), if_pos (by omega), if_pos (by omega), rd_val row i hi, rd_col l i (by omega), i64w_succ _ (by omega)]) ?_
        refine Ev.bind (one_ev _ _ (hok _ (List.getElem_mem hi))) ?_
        simp only [rowGo]
        split
        · exact ih
        · exact Ev.now _) 0 (Nat.zero_le _)
    exact h
  · rw [if_neg hl]
    exact Ev.congr (f := fun _ => some 5) (fun k => by rw [if_neg (by omega)]) (Ev.now _)
/-- Why a row doesn't fit a table; 0. -/
def rowE (id : Int) (name : ByteArray) (key next : Int) (l : List S_Column) (row : List S_Value) : Int := if tabB id name key next l = true then fitsE l row else 2
theorem row_ev (id : Int) (name : ByteArray) (key next : Int) (l : List S_Column) (row : List S_Value) (hn : name.size ≤ 1000000000) (hok : ∀ c ∈ l, OkCol c) (hr : row.length ≤ 1000000000) (hv : ∀ v ∈ row, OkVal v) : Ev (fun k => schema_Row k id name key next l row) (rowE id name key next l row) := by
  unfold schema_Row rowE
  refine Ev.bind (table_ev id name key next l hn hok) ?_
  by_cases h : tabB id name key next l = true
  · rw [if_pos h]
    exact Ev.congr (fun k => by rw [if_pos h]) (Ev.bind (fits_ev id name key next l row hr hv) (Ev.now _))
  · rw [if_neg h]
    exact Ev.congr (f := fun _ => some 2) (fun k => by rw [if_neg h]) (Ev.now _)

theorem tabGo_rise (next key : Int) : ∀ (l : List S_Column) (last : Int) (kf : Bool) (ns : List ByteArray), tabGo next key l last kf ns = true → (∀ c ∈ l, last < c.f0) ∧ l.Pairwise (fun c d => c.f0 < d.f0) ∧ (kf = true ∨ ∃ c ∈ l, c.f0 = key)
  | [], last, kf, ns, h => ⟨by simp, List.Pairwise.nil, .inl h⟩
  | c :: r, last, kf, ns, h => by
    simp only [tabGo] at h
    split at h
    · rename_i e
      obtain ⟨h1, h2, h3⟩ := tabGo_rise next key r _ _ _ h
      refine ⟨?_, ?_, ?_⟩
      · intro d hd
        rcases List.mem_cons.1 hd with hd | hd
        · rw [hd]; exact e.2.1
        · have := h1 d hd
          omega
      · exact List.pairwise_cons.2 ⟨h1, h2⟩
      · by_cases hk : c.f0 = key
        · exact .inr ⟨c, by simp, hk⟩
        · rw [if_neg hk] at h3
          rcases h3 with h3 | ⟨d, hd, e⟩
          · exact .inl h3
          · exact .inr ⟨d, by simp [hd], e⟩
    · cases h
theorem tabB_more {id : Int} {name : ByteArray} {key next : Int} {l : List S_Column} (h : tabB id name key next l = true) : l.length ≤ 10 ∧ l.Pairwise (fun c d => c.f0 < d.f0) ∧ ∃ c ∈ l, c.f0 = key := by
  unfold tabB at h
  rw [Bool.and_eq_true, Bool.and_eq_true, decide_eq_true_iff] at h
  obtain ⟨h1, h2, h3⟩ := tabGo_rise _ _ _ _ _ _ h.2.2
  refine ⟨h.1.2.2.2, h2, ?_⟩
  rcases h3 with h3 | h3
  · cases h3
  · exact h3
theorem rowE_zero {id : Int} {name : ByteArray} {key next : Int} {l : List S_Column} {row : List S_Value} (h : rowE id name key next l row = 0) : tabB id name key next l = true ∧ row.length = l.length := by
  unfold rowE fitsE at h
  split at h
  · rename_i e
    split at h
    · rename_i e2
      exact ⟨e, e2⟩
    · exact absurd h (by decide)
  · exact absurd h (by decide)

theorem rd_cell (l : List S_Cell) (i : Nat) (hi : i < l.length) : r_Cell l (i : Int) = l[i] := by simp [r_Cell, rd, List.getD, hi]
/-- The bytes of a value that isn't null. -/
def oneV (v : S_Value) : List Int := if v.f0 = 1 ∨ v.f0 = 2 then sb (zigS v.f1).toNat else sb v.f2.size ++ byt v.f2
theorem oneV_len (v : S_Value) (h : OkVal v) : (oneV v).length ≤ 1000000010 := by
  have hz := wf64 h.2
  unfold oneV
  split
  · have := zigS_range v.f1 hz.1 hz.2
    have := sb_len10 (n := (zigS v.f1).toNat) (by omega)
    omega
  · have := sb_len10 (n := v.f2.size) (by have := h.1; omega)
    rw [List.length_append, byt_len]
    have := h.1
    omega
theorem rput_ev (acc : List Int) (v : S_Value) (h : OkVal v) (ha : acc.length ≤ 100000000000) : Ev (fun k => rowcode_put k acc v.f0 v.f1 v.f2) (acc ++ oneV v) := by
  have hz := wf64 h.2
  have hr := zigS_range v.f1 hz.1 hz.2
  have hs := h.1
  by_cases hp : v.f0 = 1 ∨ v.f0 = 2
  · have hl := sb_len10 (n := (zigS v.f1).toNat) (by omega)
    have h1 := short1 (zigS v.f1) hr.1 hr.2
    have hb2 : bytesOf (strOfNums (sb (zigS v.f1).toNat)) = sb (zigS v.f1).toNat := by rw [bytesOf_byt]; exact byt_str (sb_bytes _)
    have ho : oneV v = sb (zigS v.f1).toNat := by unfold oneV; rw [if_pos hp]
    refine Ev.flat1 0 h1 (fun m g => ?_)
    have g := g 0
    simp only [Nat.add_zero] at g ⊢
    simp only [rowcode_put, word_Zig_eq _ v.f1 hz.1 hz.2, Option.bind_some, g, strOfNums_size, hb2, ho]
    have hc : acc.length + (sb (zigS v.f1).toNat).length < 140737488355328 := by omega
    rcases hp with e | e
    · simp only [e, if_true, if_pos hc]
    · simp only [e, Int.reduceEq, if_true, if_false, if_pos hc]
  · have hl := sb_len10 (n := v.f2.size) (by omega)
    have hu : IntKind.u64.wrap (v.f2.size : Int) = (v.f2.size : Int) := by rw [u64_eq]; omega
    have h1 := short1 (v.f2.size : Int) (by omega) (by omega)
    rw [Int.toNat_natCast] at h1
    have hb2 : byt (strOfNums (sb v.f2.size)) = sb v.f2.size := byt_str (sb_bytes _)
    have ho : oneV v = sb v.f2.size ++ byt v.f2 := by unfold oneV; rw [if_neg hp]
    refine Ev.flat1 0 h1 (fun m g => ?_)
    have g := g 0
    simp only [Nat.add_zero] at g ⊢
    have n1 : ¬ v.f0 = 1 := fun e => hp (.inl e)
    have n2 : ¬ v.f0 = 2 := fun e => hp (.inr e)
    simp only [rowcode_put, if_neg n1, if_neg n2, hu, Option.bind_some, g, strOfNums_size, hb2, ho, bytesOf_byt]
    rw [if_pos (by omega), if_pos (by rw [List.length_append]; omega), List.append_assoc]
theorem rput1_ev (acc : List Int) (v : S_Value) (h : OkVal v) (ha : acc.length ≤ 100000000000) : Ev (fun k => rowcode_put_1 k acc v.f0 v.f1 v.f2) (acc ++ oneV v) := by
  have hz := wf64 h.2
  have hr := zigS_range v.f1 hz.1 hz.2
  have hs := h.1
  by_cases hp : v.f0 = 1 ∨ v.f0 = 2
  · have hl := sb_len10 (n := (zigS v.f1).toNat) (by omega)
    have h1 := short1 (zigS v.f1) hr.1 hr.2
    have hb2 : bytesOf (strOfNums (sb (zigS v.f1).toNat)) = sb (zigS v.f1).toNat := by rw [bytesOf_byt]; exact byt_str (sb_bytes _)
    have ho : oneV v = sb (zigS v.f1).toNat := by unfold oneV; rw [if_pos hp]
    refine Ev.flat1 0 h1 (fun m g => ?_)
    have g := g 0
    simp only [Nat.add_zero] at g ⊢
    simp only [rowcode_put_1, word_Zig_eq _ v.f1 hz.1 hz.2, Option.bind_some, g, hb2, ho]
    have hc : acc.length + (sb (zigS v.f1).toNat).length ≤ 140737488355328 := by omega
    rcases hp with e | e
    · simp only [e, if_true, if_pos hc]
    · simp only [e, Int.reduceEq, if_true, if_false, if_pos hc]
  · have hl := sb_len10 (n := v.f2.size) (by omega)
    have hu : IntKind.u64.wrap (v.f2.size : Int) = (v.f2.size : Int) := by rw [u64_eq]; omega
    have h1 := short1 (v.f2.size : Int) (by omega) (by omega)
    rw [Int.toNat_natCast] at h1
    have hb2 : byt (strOfNums (sb v.f2.size)) = sb v.f2.size := byt_str (sb_bytes _)
    have ho : oneV v = sb v.f2.size ++ byt v.f2 := by unfold oneV; rw [if_neg hp]
    refine Ev.flat1 0 h1 (fun m g => ?_)
    have g := g 0
    simp only [Nat.add_zero] at g ⊢
    have n1 : ¬ v.f0 = 1 := fun e => hp (.inl e)
    have n2 : ¬ v.f0 = 2 := fun e => hp (.inr e)
    simp only [rowcode_put_1, if_neg n1, if_neg n2, hu, Option.bind_some, g, hb2, ho, bytesOf_byt]
    rw [if_pos (by omega), if_pos (by rw [List.length_append, byt_len]; omega), List.append_assoc]
/-- Eight values' map, the first one lowest. -/
def mapN : List S_Value → Int
  | [] => 0
  | v :: r => (if v.f0 = 0 then 1 else 0) + 2 * mapN r
theorem mapN_range : ∀ l : List S_Value, 0 ≤ mapN l ∧ mapN l < 2 ^ l.length
  | [] => by simp [mapN]
  | v :: r => by
    have := mapN_range r
    simp only [mapN, List.length_cons, Int.pow_succ]
    split <;> omega
theorem mapN_snoc (v : S_Value) : ∀ l : List S_Value, mapN (l ++ [v]) = mapN l + 2 ^ l.length * (if v.f0 = 0 then 1 else 0)
  | [] => by simp [mapN]
  | u :: r => by
    have := mapN_snoc v r
    simp only [List.cons_append, mapN, List.length_cons, Int.pow_succ, this]
    rw [Int.mul_add, Int.mul_comm (2 ^ r.length) 2, Int.mul_assoc]
    omega
/-- The values of a byte of the map, of the first so many. -/
def ck (row : List S_Value) (i j : Nat) : List S_Value := ((row.take i).drop (8 * j)).take 8
theorem ck_step (row : List S_Value) (i j : Nat) (hi : i < row.length) : ck row (i + 1) j = if j = i / 8 then ck row i j ++ [row[i]] else ck row i j := by
  unfold ck
  rw [List.take_succ_eq_append_getElem hi, List.drop_append]
  have hlen : (row.take i).length = i := by rw [List.length_take]; omega
  rw [hlen]
  by_cases h : j = i / 8
  · rw [if_pos h, show 8 * j - i = 0 by omega, List.drop_zero]
    have hx : ((row.take i).drop (8 * j)).length = i % 8 := by rw [List.length_drop, hlen]; omega
    rw [List.take_of_length_le (by rw [List.length_append, hx, List.length_singleton]; omega), List.take_of_length_le (l := (row.take i).drop (8 * j)) (by omega)]
  · rw [if_neg h]
    by_cases h2 : j < i / 8
    · have hx : 8 ≤ ((row.take i).drop (8 * j)).length := by rw [List.length_drop, hlen]; omega
      rw [List.take_append_of_le_length hx]
    · rw [show [row[i]].drop (8 * j - i) = [] from List.drop_eq_nil_of_le (by rw [List.length_singleton]; omega), List.append_nil]
theorem ck_at (row : List S_Value) (i : Nat) (hi : i ≤ row.length) : (ck row i (i / 8)).length = i % 8 := by
  unfold ck
  rw [List.length_take, List.length_drop, List.length_take]
  omega
/-- The map of the first so many values. -/
def mapM (row : List S_Value) (i sz : Nat) : List Int := (List.range sz).map fun j => mapN (ck row i j)
theorem mapM_len (row : List S_Value) (i sz : Nat) : (mapM row i sz).length = sz := by simp [mapM]
theorem mapM_get (row : List S_Value) (i sz j : Nat) (hj : j < sz) : (mapM row i sz)[j]? = some (mapN (ck row i j)) := by
  unfold mapM
  simp [hj]
theorem mapM_zero (row : List S_Value) (sz : Nat) : mapM row 0 sz = List.replicate sz 0 := by
  unfold mapM ck
  simp only [List.take_zero, List.drop_nil, List.take_nil, mapN]
  rw [List.map_const', List.length_range]
theorem mapM_step (row : List S_Value) (i sz : Nat) (hi : i < row.length) : mapM row (i + 1) sz = if row[i].f0 = 0 then (mapM row i sz).set (i / 8) (mapN (ck row i (i / 8)) + 2 ^ (i % 8)) else mapM row i sz := by
  have key : ∀ j, mapN (ck row (i + 1) j) = if j = i / 8 then mapN (ck row i j) + 2 ^ (i % 8) * (if row[i].f0 = 0 then 1 else 0) else mapN (ck row i j) := fun j => by
    rw [ck_step row i j hi]
    by_cases h : j = i / 8
    · rw [if_pos h, if_pos h, mapN_snoc]
      subst h
      rw [ck_at row i (by omega)]
    · rw [if_neg h, if_neg h]
  apply List.ext_getElem
  · split <;> simp [mapM]
  · intro j h1 h2
    have hj : j < sz := by simpa [mapM] using h1
    have e1 : (mapM row (i + 1) sz)[j] = mapN (ck row (i + 1) j) := by simp [mapM]
    rw [e1, key]
    by_cases hn : row[i].f0 = 0
    · simp only [if_pos hn]
      rw [List.getElem_set]
      by_cases h : j = i / 8
      · rw [if_pos h, if_pos h.symm, h]
        omega
      · rw [if_neg h, if_neg (fun e => h e.symm)]
        simp [mapM]
    · simp only [if_neg hn]
      rw [Int.mul_zero, Int.add_zero]
      simp [mapM]
/-- The values' bytes, of the first so many. -/
def valsT (row : List S_Value) (i : Nat) : List Int := (row.take i).flatMap fun v => if v.f0 = 0 then [] else oneV v
theorem valsT_step (row : List S_Value) (i : Nat) (hi : i < row.length) : valsT row (i + 1) = valsT row i ++ (if row[i].f0 = 0 then [] else oneV row[i]) := by
  unfold valsT
  rw [List.take_succ_eq_append_getElem hi, List.flatMap_append]
  simp
theorem valsT_len (row : List S_Value) (h : ∀ v ∈ row, OkVal v) : ∀ i, i ≤ row.length → (valsT row i).length ≤ i * 1000000010
  | 0, _ => by simp [valsT]
  | i + 1, hi => by
    have := valsT_len row h i (by omega)
    rw [valsT_step row i (by omega), List.length_append]
    have h2 := oneV_len row[i] (h _ (List.getElem_mem (by omega)))
    split
    · rw [List.length_nil, Nat.add_zero, Nat.succ_mul]
      exact Nat.le_add_right_of_le this
    · omega
/-- A row's image. -/
def encS (row : List S_Value) : List Int := mapM row row.length ((row.length + 7) / 8) ++ valsT row row.length
theorem and7 (i : Nat) (h : i < 16) : Go.bits .and .i64 (i : Int) 7 = ((i % 8 : Nat) : Int) := by
  have : ∀ i : Fin 16, Go.bits .and .i64 (i.val : Int) 7 = ((i.val % 8 : Nat) : Int) := by decide +kernel
  exact this ⟨i, h⟩
set_option maxRecDepth 100000 in
theorem orbit (a : Int) (j : Nat) (hj : j < 8) (h0 : 0 ≤ a) (h1 : a < 2 ^ j) : Go.bits .or .u8 a (shl .u8 1 ((j : Nat) : Int)) = a + 2 ^ j := by
  have : ∀ j : Fin 8, ∀ a : Fin 128, (a.val : Int) < 2 ^ j.val → Go.bits .or .u8 (a.val : Int) (shl .u8 1 ((j.val : Nat) : Int)) = (a.val : Int) + 2 ^ j.val := by decide +kernel
  obtain ⟨n, rfl⟩ := Int.eq_ofNat_of_zero_le h0
  have h128 : n < 128 := by
    have h3 : (2 : Int) ^ j ≤ 2 ^ 7 := by
      have : (2 : Nat) ^ j ≤ 2 ^ 7 := Nat.pow_le_pow_right (by decide) (by omega)
      exact_mod_cast this
    omega
  exact this ⟨j, hj⟩ ⟨n, h128⟩ h1
theorem s3n (i : Nat) : Go.Proofs.YtgefikclhfjcgaaGreatDoorEv.shr .i64 (i : Int) 3 = ((i / 8 : Nat) : Int) := by
  have : Go.Proofs.YtgefikclhfjcgaaGreatDoorEv.shr .i64 (i : Int) 3 = (i : Int) / 8 := by unfold Go.Proofs.YtgefikclhfjcgaaGreatDoorEv.shr; rfl
  rw [this]
  omega
theorem enc_l0 (id : Int) (name : ByteArray) (key next : Int) (cols : List S_Column) (row : List S_Value) (hr : row.length ≤ 10) (hv : ∀ v ∈ row, OkVal v) : Ev (fun k => rowcode_Encode.l0 k row (row.length : Int) 0 id name key next cols (List.replicate ((row.length + 7) / 8) 0)) (strOfNums (encS row), 0) := by
  have h := down (P := fun i => Ev (fun k => rowcode_Encode.l0 k row (row.length : Int) (i : Int) id name key next cols (mapM row i ((row.length + 7) / 8) ++ valsT row i)) (strOfNums (encS row), 0)) (n := row.length)
    (Ev.step (f := fun _ => some (strOfNums (encS row), 0)) (fun k => by simp only [rowcode_Encode.l0]; rw [if_neg (by omega)]; rfl) (Ev.now _))
    (fun i hi ih => by
      have hl := valsT_len row hv i (by omega)
      have hm := mapM_len row i ((row.length + 7) / 8)
      rw [mapM_step row i _ hi, valsT_step row i hi] at ih
      have hvi := hv _ (List.getElem_mem hi)
      generalize hre : row[i] = v at ih hvi
      have hrd : r_Value row (i : Int) = v := by rw [rd_val row i hi, hre]
      by_cases hn : v.f0 = 0
      · rw [if_pos hn, if_pos hn, List.append_nil] at ih
        refine Ev.step (fun k => ?_) ih
        have ha := and7 i (by omega)
        have hd := s3n i
        have hg : (mapM row i ((row.length + 7) / 8) ++ valsT row i).getD (i / 8) dft_u8 = mapN (ck row i (i / 8)) := by
          rw [List.getD_eq_getElem?_getD, List.getElem?_append_left (by omega), mapM_get _ _ _ _ (by omega), Option.getD_some]
        have hmr := mapN_range (ck row i (i / 8))
        rw [ck_at row i (by omega)] at hmr
        simp only [rowcode_Encode.l0]
        rw [hd, ha, hrd, if_pos (by omega), if_pos (by omega), if_pos (by omega), if_pos hn, if_neg (by omega), if_pos (by omega), if_pos (by rw [List.length_append, hm]; omega), if_pos (by omega), if_pos (by rw [List.length_append, hm]; omega), Int.toNat_natCast, hg, orbit _ _ (by omega) hmr.1 hmr.2, i64w_succ _ (by omega)]
        rw [List.set_append_left _ _ (by omega)]
      · rw [if_neg hn, if_neg hn, ← List.append_assoc] at ih
        refine Ev.step (f := fun k => (rowcode_put_1 k (mapM row i ((row.length + 7) / 8) ++ valsT row i) v.f0 v.f1 v.f2).bind fun t => rowcode_Encode.l0 k row (row.length : Int) ((i + 1 : Nat) : Int) id name key next cols t) (fun k => ?_) (Ev.bind (rput1_ev _ v hvi (by rw [List.length_append, hm]; omega)) ih)
        simp only [rowcode_Encode.l0]
        rw [hrd, if_pos (by omega), if_pos (by omega), if_pos (by omega), if_neg hn, i64w_succ _ (by omega)]) 0 (Nat.zero_le _)
  rw [mapM_zero] at h
  simpa [valsT] using h
/-- What the writing of a row answers. -/
def encE (id : Int) (name : ByteArray) (key next : Int) (cols : List S_Column) (row : List S_Value) : ByteArray × Int := if rowE id name key next cols row = 0 then (strOfNums (encS row), 0) else (⟨#[]⟩, rowE id name key next cols row)
theorem encode_ev (id : Int) (name : ByteArray) (key next : Int) (cols : List S_Column) (row : List S_Value) (hn : name.size ≤ 1000000000) (hok : ∀ c ∈ cols, OkCol c) (hr : row.length ≤ 1000000) (hv : ∀ v ∈ row, OkVal v) :
    Ev (fun k => rowcode_Encode k id name key next cols row) (encE id name key next cols row) := by
  unfold rowcode_Encode encE
  refine Ev.bind (row_ev id name key next cols row hn hok (by omega) hv) ?_
  by_cases h : rowE id name key next cols row = 0
  · rw [if_pos h]
    obtain ⟨ht, hl⟩ := rowE_zero h
    obtain ⟨h10, _, _⟩ := tabB_more ht
    have hz : ∀ k, rowcode_size k (row.length : Int) = some (((row.length + 7) / 8 : Nat) : Int) := fun k => by
      unfold rowcode_size
      rw [i64w _ (by omega) (by omega), show ((row.length : Int) + 7) = ((row.length + 7 : Nat) : Int) by omega, s3n]
    refine Ev.congr (fun k => by rw [if_pos h, hz, Option.bind_some, if_pos (by omega), if_pos (by rw [Int.toNat_natCast]; omega), Int.toNat_natCast]) ?_
    exact enc_l0 id name key next cols row (by omega) hv
  · rw [if_neg h]
    exact Ev.congr (f := fun _ => some ((⟨#[]⟩ : ByteArray), rowE id name key next cols row)) (fun k => by rw [if_neg h]) (Ev.now _)

theorem tabGo_types (next key : Int) : ∀ (l : List S_Column) (last : Int) (kf : Bool) (ns : List ByteArray), tabGo next key l last kf ns = true → ∀ c ∈ l, typB c.f2.f0 c.f2.f1 = true
  | [], _, _, _, _, c, hc => by simp at hc
  | c :: r, last, kf, ns, h, d, hd => by
    simp only [tabGo] at h
    split at h
    · rename_i e
      rcases List.mem_cons.1 hd with e2 | e2
      · subst e2
        have := e.1
        unfold colB at this
        rw [Bool.and_eq_true, Bool.and_eq_true, Bool.and_eq_true] at this
        exact this.2.2.1
      · exact tabGo_types next key r _ _ _ h d e2
    · cases h
theorem tabB_types {id : Int} {name : ByteArray} {key next : Int} {l : List S_Column} (h : tabB id name key next l = true) : ∀ c ∈ l, typB c.f2.f0 c.f2.f1 = true := by
  unfold tabB at h
  rw [Bool.and_eq_true, Bool.and_eq_true] at h
  exact tabGo_types _ _ _ _ _ _ h.2.2

def nilV : S_Value := ⟨0, 0, ⟨#[]⟩⟩
set_option maxRecDepth 100000 in
theorem placekey_ev (a0 : Int) (a1 : ByteArray) (a2 a3 : Int) (m l : List S_Column) (hb : l.length ≤ 9223372036854775807) : Ev (fun k => schema_place_api_Column k l a0 a1 a2 a3 m) (scan (fun c => decide (c.f0 = a2)) l 0, (a0, a1, a2, a3, m)) := by
  have h := down (P := fun i => Ev (fun k => schema_place_api_Column.l0 k l (l.length : Int) (i : Int) a0 a1 a2 a3 m) (scan (fun c => decide (c.f0 = a2)) (l.drop i) i, (a0, a1, a2, a3, m))) (n := l.length)
    (by rw [List.drop_length]; exact Ev.step (f := fun _ => some ((0, false), (a0, a1, a2, a3, m))) (fun k => by simp only [schema_place_api_Column.l0]; rw [if_neg (by omega)]) (Ev.now _))
    (fun i hi ih => by
      rw [List.drop_eq_getElem_cons hi]
      refine Ev.step (f := fun k => if (decide (l[i].f0 = a2)) = true then some (((i : Int), true), (a0, a1, a2, a3, m)) else schema_place_api_Column.l0 k l (l.length : Int) ((i + 1 : Nat) : Int) a0 a1 a2 a3 m) (fun k => ?_) ?_
      · simp only [schema_place_api_Column.l0]
        rw [if_pos (by omega), if_pos (by omega), if_pos (by omega), rd_col l i hi, i64w_succ _ (by omega)]
        simp [schema_Key_1]
      · simp only [scan]
        split
        · exact Ev.now _
        · exact ih) 0 (Nat.zero_le _)
  exact h
theorem key_ev (a0 : Int) (a1 : ByteArray) (a2 a3 : Int) (l : List S_Column) (hb : l.length ≤ 9223372036854775807) : Ev (fun k => schema_Key k a0 a1 a2 a3 l) (scan (fun c => decide (c.f0 = a2)) l 0) :=
  Ev.bind (placekey_ev a0 a1 a2 a3 l l hb) (Ev.now _)

theorem rkey_l0 (a0 : Int) (a1 : ByteArray) (a2 a3 : Int) (l : List S_Column) (hb : l.length ≤ 9223372036854775807) : Ev (fun k => haulageref08_Key.l0 k (0 : Int) a0 a1 a2 a3 l) (scanR (fun c => decide (c.f0 = a2)) l 0) := by
  have h := down (P := fun i => Ev (fun k => haulageref08_Key.l0 k (i : Int) a0 a1 a2 a3 l) (scanR (fun c => decide (c.f0 = a2)) (l.drop i) i)) (n := l.length)
    (by rw [List.drop_length]; exact Ev.step (f := fun _ => some (-1)) (fun k => by simp only [haulageref08_Key.l0]; rw [if_neg (by omega)]) (Ev.now _))
    (fun i hi ih => by
      rw [List.drop_eq_getElem_cons hi]
      refine Ev.step (f := fun k => if (decide (l[i].f0 = a2)) = true then some (i : Int) else haulageref08_Key.l0 k ((i + 1 : Nat) : Int) a0 a1 a2 a3 l) (fun k => ?_) ?_
      · simp only [haulageref08_Key.l0]
        rw [if_pos (by omega), if_pos (by omega), if_pos (by omega), rd_col l i hi, i64w_succ _ (by omega)]
        simp only [ba_iff, decide_eq_true_eq]
      · simp only [scanR]
        split
        · exact Ev.now _
        · exact ih) 0 (Nat.zero_le _)
  exact h

theorem rkey_ev (a0 : Int) (a1 : ByteArray) (a2 a3 : Int) (l : List S_Column) (hb : l.length ≤ 9223372036854775807) : Ev (fun k => haulageref08_Key k a0 a1 a2 a3 l) (scanR (fun c => decide (c.f0 = a2)) l 0) := rkey_l0 a0 a1 a2 a3 l hb

theorem oneV_small (v : S_Value) (h : OkVal v) (hs : v.f2.size ≤ 300) : (oneV v).length ≤ 1000 := by
  have hz := wf64 h.2
  unfold oneV
  split
  · have := zigS_range v.f1 hz.1 hz.2
    have := sb_len10 (n := (zigS v.f1).toNat) (by omega)
    omega
  · have := sb_len10 (n := v.f2.size) (by omega)
    rw [List.length_append, byt_len]
    omega
theorem key_at {id : Int} {name : ByteArray} {key next : Int} {l : List S_Column} (h : tabB id name key next l = true) :
    ∃ (i : Nat) (hi : i < l.length), scan (fun c : S_Column => decide (c.f0 = key)) l 0 = ((i : Int), true) ∧ scanR (fun c : S_Column => decide (c.f0 = key)) l 0 = (i : Int) := by
  obtain ⟨h10, _, c, hc, hk⟩ := tabB_more h
  rcases scan_or (fun c : S_Column => decide (c.f0 = key)) l 0 with ⟨h1, h2, h3⟩ | ⟨_, h2⟩
  · obtain ⟨i, e⟩ := Int.eq_ofNat_of_zero_le (show 0 ≤ scanR (fun c : S_Column => decide (c.f0 = key)) l 0 by omega)
    rw [e] at h1 h3
    exact ⟨i, by omega, h1, e⟩
  · have := (scanR_iff (fun c : S_Column => decide (c.f0 = key)) l 0).1 h2 c hc
    rw [decide_eq_false_iff_not] at this
    exact absurd hk this
theorem key_type_ev {id : Int} {name : ByteArray} {key next : Int} {l : List S_Column} (hn : name.size ≤ 1000000000) (hok : ∀ c ∈ l, OkCol c) (hl : l.length ≤ 1000000000) (h : tabB id name key next l = true) (i : Nat) (hi : i < l.length) (he : scan (fun c : S_Column => decide (c.f0 = key)) l 0 = ((i : Int), true)) :
    Ev (fun k => rowcode_key k id name key next l) ((l[i].f2.f0, l[i].f2.f1), 0) := by
  unfold rowcode_key
  refine Ev.bind (table_ev id name key next l hn hok) (Ev.congr (fun k => by rw [if_pos h]) (Ev.bind (key_ev id name key next l (by omega)) ?_))
  rw [he]
  exact Ev.congr (f := fun _ => some ((l[i].f2.f0, l[i].f2.f1), 0)) (fun k => by rw [if_pos (by omega), if_pos (by simp only; omega), rd_col l i hi]) (Ev.now _)
theorem rowkey_ev {id : Int} {name : ByteArray} {key next : Int} {l : List S_Column} {kd mx : Int} (hk : Ev (fun k => rowcode_key k id name key next l) ((kd, mx), 0)) (v : S_Value) (hv : OkVal v) :
    Ev (fun k => rowcode_Key k id name key next l v.f0 v.f1 v.f2) (if fitB kd mx v.f0 v.f1 v.f2 = true then (strOfNums (oneV v), 0) else (⟨#[]⟩, 10)) := by
  unfold rowcode_Key
  refine Ev.bind hk (Ev.congr (fun k => by rw [if_pos rfl]) (Ev.bind (fit_ev kd mx v.f0 v.f1 v.f2 hv.1) ?_))
  by_cases h : fitB kd mx v.f0 v.f1 v.f2 = true
  · rw [if_pos h]
    exact Ev.congr (fun k => by rw [if_pos h]) (Ev.bind (rput_ev [] v hv (by simp)) (Ev.now _))
  · rw [if_neg h]
    exact Ev.congr (f := fun _ => some (⟨#[]⟩, 10)) (fun k => by rw [if_neg h]) (Ev.now _)

theorem rrow_ev (id : Int) (name : ByteArray) (key next : Int) (l : List S_Column) (row : List S_Value) (hn : name.size ≤ 1000000000) (hok : ∀ c ∈ l, OkCol c) (hl : l.length ≤ 1000000000) (hr : row.length ≤ 1000000000) (hv : ∀ v ∈ row, OkVal v) : Ev (fun k => haulageref08_Row k id name key next l row) (rowE id name key next l row) := by
  unfold haulageref08_Row rowE fitsE
  refine Ev.bind (rtable_ev id name key next l hn hok hl) ?_
  by_cases ht : tabB id name key next l = true
  · rw [if_pos ht]
    refine Ev.congr (fun k => by rw [if_pos ht]) ?_
    by_cases hlen : row.length = l.length
    · rw [if_pos hlen]
      refine Ev.congr (fun k => by rw [if_pos (by omega)]) ?_
      have h := down (P := fun i => Ev (fun k => haulageref08_Row.l0 k row (i : Int) id name key next l) (rowGo (l.drop i) (row.drop i))) (n := row.length)
        (by
          rw [List.drop_length]
          refine Ev.eq (Ev.step (f := fun _ => some 0) (fun k => by simp only [haulageref08_Row.l0]; rw [if_neg (by omega)]) (Ev.now _)) ?_
          unfold rowGo
          rfl)
        (fun i hi ih => by
          rw [List.drop_eq_getElem_cons hi, List.drop_eq_getElem_cons (show i < l.length by omega)]
          have hvi := hv _ (List.getElem_mem hi)
          generalize hrv : row[i] = v at hvi
          generalize hlc : l[i] = c
          have e1 : r_Value row (i : Int) = v := by rw [rd_val row i hi, hrv]
          have e2 : r_Column l (i : Int) = c := by rw [rd_col l i (by omega), hlc]
          simp only [rowGo]
          unfold oneE
          by_cases hz : zeroV v = true
          · rw [if_pos hz]
            refine Ev.step (f := fun k => if c.f3 = true then haulageref08_Row.l0 k row ((i + 1 : Nat) : Int) id name key next l else some 11) (fun k => ?_) ?_
            · simp only [haulageref08_Row.l0]
              rw [e1, e2, zeroV_text, if_pos (by omega), if_pos (by omega), if_pos (by omega), if_pos hz, if_pos (by omega), if_pos (by omega), i64w_succ _ (by omega)]
            · by_cases h3 : c.f3 = true
              · rw [if_pos h3, if_pos rfl]
                exact Ev.congr (fun k => by rw [if_pos h3]) ih
              · rw [if_neg h3, if_neg (by decide)]
                exact Ev.congr (f := fun _ => some 11) (fun k => by rw [if_neg h3]) (Ev.now _)
          · rw [if_neg hz]
            refine Ev.step (f := fun k => (haulageref06_Fits k c.f2.f0 c.f2.f1 v.f0 v.f1 v.f2).bind fun t => if t = true then haulageref08_Row.l0 k row ((i + 1 : Nat) : Int) id name key next l else some 10) (fun k => ?_) ?_
            · simp only [haulageref08_Row.l0]
              rw [e1, e2, zeroV_text, if_pos (by omega), if_pos (by omega), if_pos (by omega), if_neg hz, if_pos (by omega), if_pos (by omega), if_pos (by omega), if_pos (by omega), i64w_succ _ (by omega)]
            · refine Ev.bind (rfit_ev c.f2.f0 c.f2.f1 v.f0 v.f1 v.f2 hvi.1 hvi.2) ?_
              by_cases h3 : fitB c.f2.f0 c.f2.f1 v.f0 v.f1 v.f2 = true
              · rw [if_pos h3, if_pos rfl]
                exact Ev.congr (fun k => by rw [if_pos h3]) ih
              · rw [if_neg h3, if_neg (by decide)]
                exact Ev.congr (f := fun _ => some 10) (fun k => by rw [if_neg h3]) (Ev.now _)) 0 (Nat.zero_le _)
      exact h
    · rw [if_neg hlen]
      exact Ev.congr (f := fun _ => some 5) (fun k => by rw [if_neg (by omega)]) (Ev.now _)
  · rw [if_neg ht]
    exact Ev.congr (f := fun _ => some 2) (fun k => by rw [if_neg ht]) (Ev.now _)

theorem fit_kind {tk tm vk vn : Int} {vs : ByteArray} (h : fitB tk tm vk vn vs = true) : vk = tk ∧ (tk = 1 ∨ tk = 2 ∨ tk = 3 ∨ tk = 4) := by
  unfold fitB at h
  rw [Bool.and_eq_true, Bool.and_eq_true, decide_eq_true_iff] at h
  refine ⟨h.2.1, ?_⟩
  have := h.1
  unfold typB at this
  split at this
  · omega
  · split at this
    · omega
    · cases this

theorem fit_parts {tk tm vk vn : Int} {vs : ByteArray} (h : fitB tk tm vk vn vs = true) : typB tk tm = true ∧ vk = tk ∧ valB vk vn vs = true ∧ (tk < 3 ∨ (vs.size : Int) ≤ tm) := by
  unfold fitB at h
  rw [Bool.and_eq_true, Bool.and_eq_true, Bool.and_eq_true, Bool.or_eq_true, decide_eq_true_iff, decide_eq_true_iff, decide_eq_true_iff] at h
  exact ⟨h.1, h.2.1, h.2.2.1, h.2.2.2⟩
/-- A change. -/
structure Chg where
  k : Int
  lsn : Int
  tb : ByteArray
  v : S_Value
  cl : List S_Cell
  d : S_DDL
/-- Is a change tried? -/
def fewK (x : S_Cell) : Bool := decide (x.f0.size + x.f2.f2.size ≤ 400)
def fewCh (c : Chg) : Bool := decide (c.tb.size + c.v.f2.size ≤ 400) && (decide (c.cl.length ≤ 20) && (fewD c.d && c.cl.all fewK))
/-- What a change's parts come to when a caller hands it in. -/
def WfC (c : Chg) : Prop := c.tb.size ≤ 140737488351232 ∧ c.v.f2.size ≤ 140737488351232 ∧ (Lit.int .i64 c.v.f1).wf = true ∧ c.cl.length ≤ 140737488351232 ∧
  (∀ x ∈ c.cl, x.f0.size ≤ 140737488351232 ∧ x.f2.f2.size ≤ 140737488351232 ∧ (Lit.int .i64 x.f2.f1).wf = true) ∧
  c.d.f1.size ≤ 140737488351232 ∧ c.d.f2.size ≤ 140737488351232 ∧ c.d.f3.size ≤ 140737488351232 ∧ c.d.f4.size ≤ 140737488351232 ∧ c.d.f7.f2.size ≤ 140737488351232 ∧
  c.d.f8.length ≤ 140737488351232 ∧ (Lit.int .i64 c.d.f7.f1).wf = true ∧ ∀ x ∈ c.d.f8, (Lit.int .i64 x.f4.f1).wf = true
theorem fewch_ev (c : Chg) (h : WfC c) :
    Ev (fun k => haulagelaw15_FewChange k c.k c.lsn c.tb c.v.f0 c.v.f1 c.v.f2 c.cl c.d.f0 c.d.f1 c.d.f2 c.d.f3 c.d.f4 c.d.f5.f0 c.d.f5.f1 c.d.f6 c.d.f7.f0 c.d.f7.f1 c.d.f7.f2 c.d.f8) (fewCh c) := by
  obtain ⟨h1, h2, _, h4, h5, d1, d2, d3, d4, d5, d6, _, _⟩ := h
  have hl := down (P := fun i => Ev (fun k => haulagelaw15_FewChange.l0 k (i : Int) c.k c.lsn c.tb c.v.f0 c.v.f1 c.v.f2 c.cl c.d.f0 c.d.f1 c.d.f2 c.d.f3 c.d.f4 c.d.f5.f0 c.d.f5.f1 c.d.f6 c.d.f7.f0 c.d.f7.f1 c.d.f7.f2 c.d.f8) ((c.cl.drop i).all fewK)) (n := c.cl.length)
    (by rw [List.drop_length]; exact Ev.step (f := fun _ => some true) (fun k => by simp only [haulagelaw15_FewChange.l0]; rw [if_neg (by omega)]) (Ev.now _))
    (fun i hi ih => by
      rw [List.drop_eq_getElem_cons hi, List.all_cons]
      have hx := h5 _ (List.getElem_mem hi)
      have w : IntKind.i64.wrap ((c.cl[i].f0.size : Int) + (c.cl[i].f2.f2.size : Int)) = (c.cl[i].f0.size : Int) + (c.cl[i].f2.f2.size : Int) := i64w _ (by omega) (by omega)
      by_cases hk : c.cl[i].f0.size + c.cl[i].f2.f2.size ≤ 400
      · rw [show fewK c.cl[i] = true from decide_eq_true hk, Bool.true_and]
        refine Ev.step (fun k => ?_) ih
        simp only [haulagelaw15_FewChange.l0]
        rw [if_pos (by omega), if_pos (by omega), if_pos (by omega), if_pos (by omega), if_pos (by omega), rd_cell c.cl i hi, w, if_neg (by omega), i64w_succ _ (by omega)]
      · rw [show fewK c.cl[i] = false from decide_eq_false hk, Bool.false_and]
        refine Ev.step (f := fun _ => some false) (fun k => ?_) (Ev.now _)
        simp only [haulagelaw15_FewChange.l0]
        rw [if_pos (by omega), if_pos (by omega), if_pos (by omega), if_pos (by omega), if_pos (by omega), rd_cell c.cl i hi, w, if_pos (by omega)]) 0 (Nat.zero_le _)
  have w : IntKind.i64.wrap ((c.tb.size : Int) + (c.v.f2.size : Int)) = (c.tb.size : Int) + (c.v.f2.size : Int) := i64w _ (by omega) (by omega)
  unfold haulagelaw15_FewChange fewCh
  rw [w]
  by_cases e1 : c.tb.size + c.v.f2.size ≤ 400
  case neg =>
    rw [decide_eq_false e1, Bool.false_and]
    exact Ev.congr (f := fun _ => some false) (fun k => if_pos (by omega)) (Ev.now _)
  rw [decide_eq_true e1, Bool.true_and]
  refine Ev.congr (fun k => if_neg (by omega)) ?_
  by_cases e2 : c.cl.length ≤ 20
  case neg =>
    rw [decide_eq_false e2, Bool.false_and]
    exact Ev.congr (f := fun _ => some false) (fun k => if_pos (by omega)) (Ev.now _)
  rw [decide_eq_true e2, Bool.true_and]
  refine Ev.congr (fun k => if_neg (by omega)) (Ev.bind (fewd_ev c.d d1 d2 d3 d4 d5 d6) ?_)
  cases fewD c.d
  · exact Ev.congr (f := fun _ => some false) (fun k => if_neg (by simp)) (Ev.now _)
  · exact Ev.congr (fun k => if_pos rfl) hl
theorem fewch_ok {c : Chg} (hf : fewCh c = true) (h : WfC c) : c.tb.size ≤ 400 ∧ OkVal c.v ∧ c.v.f2.size ≤ 400 ∧ c.cl.length ≤ 20 ∧ (∀ x ∈ c.cl, x.f0.size ≤ 400 ∧ OkVal x.f2) ∧ OkD c.d := by
  unfold fewCh at hf
  rw [Bool.and_eq_true, Bool.and_eq_true, Bool.and_eq_true, decide_eq_true_iff, decide_eq_true_iff, List.all_eq_true] at hf
  obtain ⟨f1, f2, f3, f4⟩ := hf
  obtain ⟨_, _, h3, _, h5, _, _, _, _, _, _, w1, w2⟩ := h
  refine ⟨by omega, ⟨by omega, h3⟩, by omega, f2, fun x hx => ?_, few_okD f3 w1 w2⟩
  have := f4 x hx
  unfold fewK at this
  rw [decide_eq_true_iff] at this
  exact ⟨by omega, by omega, (h5 x hx).2.2⟩

theorem eqcols_ev (l m : List S_Column) (hb : l.length ≤ 9223372036854775807) : Ev (fun k => slices_Equal_api_Column_api_Column k l m) (colsEq l m) := by
  unfold slices_Equal_api_Column_api_Column colsEq
  by_cases hl : l.length = m.length
  · refine Ev.congr (fun k => by rw [if_pos (by omega)]) ?_
    rw [decide_eq_true hl, Bool.true_and]
    have h := down (P := fun i => Ev (fun k => slices_Equal_api_Column_api_Column.l0 k l m (l.length : Int) (i : Int)) (same2 colEq (l.drop i) (m.drop i))) (n := l.length)
      (by rw [List.drop_length]; exact Ev.step (f := fun _ => some true) (fun k => by simp only [slices_Equal_api_Column_api_Column.l0]; rw [if_neg (by omega)]) (Ev.now _))
      (fun i hi ih => by
        rw [List.drop_eq_getElem_cons hi, List.drop_eq_getElem_cons (show i < m.length by omega)]
        refine Ev.step (f := fun k => if colEq l[i] m[i] = true then slices_Equal_api_Column_api_Column.l0 k l m (l.length : Int) ((i + 1 : Nat) : Int) else some false) (fun k => ?_) ?_
        · simp only [slices_Equal_api_Column_api_Column.l0]
          rw [if_pos (by omega), if_pos (by omega), if_pos (by omega), if_pos (by omega), if_pos (by omega), rrd_col l i hi, rrd_col m i (by omega), i64w_succ _ (by omega)]
          rfl
        · simp only [same2]
          split
          · exact ih
          · exact Ev.now _) 0 (Nat.zero_le _)
    exact h
  · rw [decide_eq_false hl, Bool.false_and]
    exact Ev.congr (f := fun _ => some false) (fun k => by rw [if_neg (by omega)]) (Ev.now _)
theorem sameD_ev (d e : S_DDL) (h : d.f8.length ≤ 1000000000) : Ev (fun k => ddl_Same k d.f0 d.f1 d.f2 d.f3 d.f4 d.f5.f0 d.f5.f1 d.f6 d.f7.f0 d.f7.f1 d.f7.f2 d.f8 e.f0 e.f1 e.f2 e.f3 e.f4 e.f5.f0 e.f5.f1 e.f6 e.f7.f0 e.f7.f1 e.f7.f2 e.f8) (sameD d e) := by
  refine Ev.flat1 0 (eqcols_ev d.f8 e.f8 (by omega)) (fun m h1 => ?_)
  have h1 := h1 0
  simp only [Nat.add_zero] at h1 ⊢
  simp only [ddl_Same, ddl_flat, h1, Option.bind_some]
  unfold sameD
  cases colsEq d.f8 e.f8
  · simp
  · simp [Bool.and_assoc]
/-- Has a change nothing that its kind doesn't have? -/
def plainC (c : Chg) : Bool := decide (0 ≤ c.lsn) && (if c.k = 1 ∨ c.k = 2 then sameD c.d (bareD 0 nilB) else if c.k = 3 then (sameD c.d (bareD 0 nilB) && decide (c.cl.length = 0)) else if c.k = 4 then (decide (c.tb = c.d.f1) && (zeroV c.v && decide (c.cl.length = 0))) else false)
theorem plainC_ev (c : Chg) (h : c.d.f8.length ≤ 1000000000) : Ev (fun k => state_PlainChange k c.k c.lsn c.tb c.v.f0 c.v.f1 c.v.f2 c.cl c.d.f0 c.d.f1 c.d.f2 c.d.f3 c.d.f4 c.d.f5.f0 c.d.f5.f1 c.d.f6 c.d.f7.f0 c.d.f7.f1 c.d.f7.f2 c.d.f8) (plainC c) := by
  refine Ev.flat1 0 (sameD_ev c.d (bareD 0 nilB) h) (fun m g => ?_)
  have g := g 0
  simp only [Nat.add_zero] at g ⊢
  replace g : ddl_Same m c.d.f0 c.d.f1 c.d.f2 c.d.f3 c.d.f4 c.d.f5.f0 c.d.f5.f1 c.d.f6 c.d.f7.f0 c.d.f7.f1 c.d.f7.f2 c.d.f8 0 (⟨#[]⟩ : ByteArray) (⟨#[]⟩ : ByteArray) (⟨#[]⟩ : ByteArray) (⟨#[]⟩ : ByteArray) 0 0 false 0 0 (⟨#[]⟩ : ByteArray) [] = some (sameD c.d (bareD 0 nilB)) := g
  unfold state_PlainChange plainC
  simp only [g, Option.bind_some, zeroV_text, ba_iff]
  by_cases h0 : c.lsn < 0
  · rw [if_pos h0, decide_eq_false (show ¬ 0 ≤ c.lsn by omega), Bool.false_and]
  rw [if_neg h0, decide_eq_true (show 0 ≤ c.lsn by omega), Bool.true_and]
  by_cases h1 : c.k = 1
  · simp only [h1, if_true, true_or]
  by_cases h2 : c.k = 2
  · simp only [h2, if_true, or_true, Int.reduceEq, if_false]
  have h12 : ¬ (c.k = 1 ∨ c.k = 2) := by omega
  simp only [if_neg h1, if_neg h2, if_neg h12]
  by_cases h3 : c.k = 3
  · simp only [h3, if_true]
    by_cases h4 : c.cl.length = 0
    · rw [if_pos (by omega), decide_eq_true h4, Bool.and_true]
    · rw [if_neg (by omega), decide_eq_false h4, Bool.and_false]
  simp only [if_neg h3]
  by_cases h4 : c.k = 4
  · simp only [h4, if_true]
    by_cases h5 : c.tb = c.d.f1
    · rw [if_pos h5, decide_eq_true h5, Bool.true_and]
      cases zeroV c.v
      · simp
      · rw [if_pos rfl, Bool.true_and]
        congr 1
        exact dec_iff (by omega)
    · rw [if_neg h5, decide_eq_false h5, Bool.false_and]
  · rw [if_neg h4, if_neg h4]
theorem rplainC_ev (c : Chg) (h : c.d.f8.length ≤ 1000000000) : Ev (fun k => haulageref15_PlainChange k c.k c.lsn c.tb c.v.f0 c.v.f1 c.v.f2 c.cl c.d.f0 c.d.f1 c.d.f2 c.d.f3 c.d.f4 c.d.f5.f0 c.d.f5.f1 c.d.f6 c.d.f7.f0 c.d.f7.f1 c.d.f7.f2 c.d.f8) (plainC c) := by
  refine Ev.flat1 0 (rsameD_ev c.d (bareD 0 nilB) h) (fun m g => ?_)
  have g := g 0
  simp only [Nat.add_zero] at g ⊢
  replace g : haulageref09_Same m c.d.f0 c.d.f1 c.d.f2 c.d.f3 c.d.f4 c.d.f5.f0 c.d.f5.f1 c.d.f6 c.d.f7.f0 c.d.f7.f1 c.d.f7.f2 c.d.f8 0 (⟨#[]⟩ : ByteArray) (⟨#[]⟩ : ByteArray) (⟨#[]⟩ : ByteArray) (⟨#[]⟩ : ByteArray) 0 0 false 0 0 (⟨#[]⟩ : ByteArray) [] = some (sameD c.d (bareD 0 nilB)) := g
  unfold haulageref15_PlainChange plainC
  simp only [g, Option.bind_some, zeroV_text, ba_iff]
  by_cases h0 : c.lsn < 0
  · rw [if_pos h0, decide_eq_false (show ¬ 0 ≤ c.lsn by omega), Bool.false_and]
  rw [if_neg h0, decide_eq_true (show 0 ≤ c.lsn by omega), Bool.true_and]
  by_cases h1 : c.k = 1
  · simp only [h1, if_true, true_or]
  by_cases h2 : c.k = 2
  · simp only [h2, if_true, or_true, Int.reduceEq, if_false]
  have h12 : ¬ (c.k = 1 ∨ c.k = 2) := by omega
  simp only [if_neg h1, if_neg h2, if_neg h12]
  by_cases h3 : c.k = 3
  · simp only [h3, if_true]
    cases sameD c.d (bareD 0 nilB)
    · simp
    · rw [if_pos rfl, Bool.true_and]
      congr 1
      exact dec_iff (by omega)
  simp only [if_neg h3]
  by_cases h4 : c.k = 4
  · simp only [h4, if_true]
    by_cases h5 : c.tb = c.d.f1
    · rw [if_pos h5, decide_eq_true h5, Bool.true_and]
      cases zeroV c.v
      · simp
      · rw [if_pos rfl, Bool.true_and]
        congr 1
        exact dec_iff (by omega)
    · rw [if_neg h5, decide_eq_false h5, Bool.false_and]
  · rw [if_neg h4, if_neg h4]

theorem rone_ev (v : S_Value) (h : OkVal v) (hk : v.f0 = 1 ∨ v.f0 = 2 ∨ 3 ≤ v.f0) : Ev (fun k => haulageref12_One k v.f0 v.f1 v.f2) (strOfNums (oneV v)) := by
  have hz := wf64 h.2
  have hr := zigS_range v.f1 hz.1 hz.2
  have hs := h.1
  unfold haulageref12_One oneV
  by_cases h1 : v.f0 < 3
  · rw [if_pos (show v.f0 = 1 ∨ v.f0 = 2 by omega)]
    refine Ev.congr (fun k => by rw [if_pos h1, refZig_eq _ v.f1 hz.1 hz.2, Option.bind_some]) ?_
    have := refOne_ev (zigS v.f1).toNat (by omega)
    rw [show (((zigS v.f1).toNat : Nat) : Int) = zigS v.f1 by omega] at this
    exact Ev.bind this (Ev.now _)
  · rw [if_neg (show ¬ (v.f0 = 1 ∨ v.f0 = 2) by omega)]
    have hu : IntKind.u64.wrap (v.f2.size : Int) = (v.f2.size : Int) := by rw [u64_eq]; omega
    have hl := sb_len10 (n := v.f2.size) (by omega)
    refine Ev.congr (fun k => by rw [if_neg h1, hu]) (Ev.bind (refOne_ev v.f2.size (by omega)) ?_)
    refine Ev.congr (f := fun _ => some (strOfNums (sb v.f2.size ++ byt v.f2))) (fun k => ?_) (Ev.now _)
    rw [strOfNums_size, if_pos (by omega), strOfNums_append, str_byt]
theorem pow2_le (t : Nat) (h : t ≤ 8) : (1 : Int) ≤ 2 ^ t ∧ (2 : Int) ^ t ≤ 256 := by
  have : ∀ t : Fin 9, (1 : Int) ≤ 2 ^ t.val ∧ (2 : Int) ^ t.val ≤ 256 := by decide
  exact this ⟨t, by omega⟩
theorem rmap_l1 (row : List S_Value) (hr : row.length ≤ 1000) (j : Nat) (hj : 8 * j < row.length) (acc : List Int) (ha : acc.length ≤ 1000) (R : ByteArray)
    (hR : Ev (fun k => haulageref12_Map.l0 k row (strOfNums (acc ++ [mapN (ck row row.length j)])) ((8 * (j + 1) : Nat) : Int)) R) :
    Ev (fun k => haulageref12_Map.l1 k row (strOfNums acc) ((8 * j : Nat) : Int) 0 1 ((8 * j : Nat) : Int)) R := by
  have hck : ck row row.length j = (row.drop (8 * j)).take 8 := by unfold ck; rw [List.take_length]
  rw [hck] at hR
  generalize hc : (row.drop (8 * j)).take 8 = c at hR
  have hcl : c.length = min 8 (row.length - 8 * j) := by rw [← hc, List.length_take, List.length_drop]
  have hget : ∀ t (ht : t < c.length), c[t] = row[8 * j + t]'(by omega) := fun t ht => by
    subst hc
    rw [List.getElem_take, List.getElem_drop]
  have hmr := mapN_range c
  have hp2 := pow2_le c.length (by omega)
  have hend : ∀ k, (if (strOfNums acc).size + (strOf [IntKind.u8.wrap (mapN c)]).size ≤ 9223372036854775807 then haulageref12_Map.l0 k row (strOfNums acc ++ strOf [IntKind.u8.wrap (mapN c)]) (IntKind.i64.wrap (((8 * j : Nat) : Int) + 8)) else none) = haulageref12_Map.l0 k row (strOfNums (acc ++ [mapN c])) ((8 * (j + 1) : Nat) : Int) := fun k => by
    rw [strOf_eq, strOfNums_size, strOfNums_size, u8w, show mapN c % 256 = mapN c by omega, if_pos (by simp; omega), ← strOfNums_append, i64w _ (by omega) (by omega), show ((8 * j : Nat) : Int) + 8 = ((8 * (j + 1) : Nat) : Int) by omega]
  have h := down (P := fun t => Ev (fun k => haulageref12_Map.l1 k row (strOfNums acc) ((8 * j : Nat) : Int) (mapN (c.take t)) (2 ^ t) ((8 * j + t : Nat) : Int)) R) (n := c.length)
    (by
      rw [List.take_length]
      refine Ev.step (fun k => ?_) hR
      simp only [haulageref12_Map.l1]
      rw [hend]
      by_cases h8 : c.length = 8
      · rw [i64w _ (by omega) (by omega), if_neg (by omega)]
      · rw [i64w _ (by omega) (by omega), if_pos (by omega), if_neg (by omega)])
    (fun t ht ih => by
      have h1 := mapN_range (c.take t)
      have h2 := pow2_le t (by omega)
      have h3 := pow2_le (t + 1) (by omega)
      have htl : (c.take t).length = t := by rw [List.length_take]; omega
      rw [htl] at h1
      have hrd : r_Value row ((8 * j + t : Nat) : Int) = c[t] := by rw [rd_val row _ (by omega), hget t ht]
      have hsn : mapN (c.take (t + 1)) = mapN (c.take t) + 2 ^ t * (if c[t].f0 = 0 then 1 else 0) := by rw [List.take_succ_eq_append_getElem ht, mapN_snoc, htl]
      rw [hsn, Int.pow_succ] at ih
      rw [Int.pow_succ] at h3
      have e8 : IntKind.i64.wrap (((8 * j : Nat) : Int) + 8) = ((8 * j : Nat) : Int) + 8 := i64w _ (by omega) (by omega)
      have e2 : IntKind.i64.wrap (2 * (2 : Int) ^ t) = 2 ^ t * 2 := by rw [i64w _ (by omega) (by omega), Int.mul_comm]
      have e1 : IntKind.i64.wrap (mapN (c.take t) + 2 ^ t) = mapN (c.take t) + 2 ^ t := i64w _ (by omega) (by omega)
      have e3 : IntKind.i64.wrap (((8 * j + t : Nat) : Int) + 1) = ((8 * j + (t + 1) : Nat) : Int) := i64w_succ _ (by omega)
      by_cases hn : c[t].f0 = 0
      · rw [if_pos hn, Int.mul_one] at ih
        refine Ev.step (fun k => ?_) ih
        simp only [haulageref12_Map.l1]
        rw [hrd, e8, e2, e1, e3, if_pos (by omega), if_pos (by omega), if_pos (by omega), if_pos (by omega), if_pos hn]
      · rw [if_neg hn, Int.mul_zero, Int.add_zero] at ih
        refine Ev.step (fun k => ?_) ih
        simp only [haulageref12_Map.l1]
        rw [hrd, e8, e2, e3, if_pos (by omega), if_pos (by omega), if_pos (by omega), if_pos (by omega), if_neg hn]) 0 (Nat.zero_le _)
  simpa [mapN] using h
theorem mapM_take (row : List S_Value) (sz : Nat) : mapM row row.length (sz + 1) = mapM row row.length sz ++ [mapN (ck row row.length sz)] := by
  unfold mapM
  rw [List.range_succ, List.map_append]
  rfl
theorem rmap_ev (row : List S_Value) (hr : row.length ≤ 1000) : Ev (fun k => haulageref12_Map k row) (strOfNums (mapM row row.length ((row.length + 7) / 8))) := by
  have h := down (P := fun j => Ev (fun k => haulageref12_Map.l0 k row (strOfNums (mapM row row.length j)) ((8 * j : Nat) : Int)) (strOfNums (mapM row row.length ((row.length + 7) / 8)))) (n := (row.length + 7) / 8)
    (Ev.step (f := fun _ => some (strOfNums (mapM row row.length ((row.length + 7) / 8)))) (fun k => by simp only [haulageref12_Map.l0]; rw [if_neg (by omega)]) (Ev.now _))
    (fun j hj ih => by
      rw [mapM_take] at ih
      refine Ev.step (fun k => by simp only [haulageref12_Map.l0]; rw [if_pos (by omega)]) (rmap_l1 row hr j (by omega) _ (by rw [mapM_len]; omega) _ ih)) 0 (Nat.zero_le _)
  simpa [haulageref12_Map, mapM, strOfNums] using h
theorem rencode_ev (row : List S_Value) (hr : row.length ≤ 1000) (hv : ∀ v ∈ row, OkVal v) (hk : ∀ v ∈ row, v.f0 = 0 ∨ v.f0 = 1 ∨ v.f0 = 2 ∨ 3 ≤ v.f0) : Ev (fun k => haulageref12_Encode k row) (strOfNums (encS row)) := by
  unfold haulageref12_Encode
  refine Ev.bind (rmap_ev row hr) ?_
  have hm := mapM_len row row.length ((row.length + 7) / 8)
  have h := down (P := fun i => Ev (fun k => haulageref12_Encode.l0 k row (strOfNums (mapM row row.length ((row.length + 7) / 8) ++ valsT row i)) (i : Int)) (strOfNums (encS row))) (n := row.length)
    (Ev.step (f := fun _ => some (strOfNums (encS row))) (fun k => by simp only [haulageref12_Encode.l0]; rw [if_neg (by omega)]; rfl) (Ev.now _))
    (fun i hi ih => by
      have hl := valsT_len row hv i (by omega)
      rw [valsT_step row i hi] at ih
      have hvi := hv _ (List.getElem_mem hi)
      have hki := hk _ (List.getElem_mem hi)
      generalize hre : row[i] = v at ih hvi hki
      have hrd : r_Value row (i : Int) = v := by rw [rd_val row i hi, hre]
      by_cases hn : v.f0 = 0
      · rw [if_pos hn, List.append_nil] at ih
        refine Ev.step (fun k => ?_) ih
        simp only [haulageref12_Encode.l0]
        rw [hrd, if_pos (by omega), if_pos (by omega), if_pos (by omega), if_pos hn, i64w_succ _ (by omega)]
      · rw [if_neg hn, ← List.append_assoc, strOfNums_append] at ih
        have ho := oneV_len v hvi
        refine Ev.step (fun k => by simp only [haulageref12_Encode.l0]; rw [hrd, if_pos (by omega), if_pos (by omega), if_pos (by omega), if_neg hn, if_pos (by omega), if_pos (by omega), i64w_succ _ (by omega)]) (Ev.bind (rone_ev v hvi (by omega)) (Ev.congr (fun k => ?_) ih))
        rw [strOfNums_size, strOfNums_size, if_pos (by rw [List.length_append, hm]; omega)]) 0 (Nat.zero_le _)
  simpa [valsT] using h
theorem rowGo_kind : ∀ (l : List S_Column) (row : List S_Value), row.length = l.length → rowGo l row = 0 → ∀ v ∈ row, v.f0 = 0 ∨ v.f0 = 1 ∨ v.f0 = 2 ∨ 3 ≤ v.f0
  | [], [], _, _, v, hv => by simp at hv
  | [], _ :: _, h, _, _, _ => by simp at h
  | _ :: _, [], h, _, _, _ => by simp at h
  | c :: r, u :: s, hl, h, v, hv => by
    simp only [rowGo] at h
    split at h
    · rename_i e
      rcases List.mem_cons.1 hv with e2 | e2
      · subst e2
        unfold oneE at e
        split at e
        · rename_i hz
          left
          unfold zeroV at hz
          rw [Bool.and_eq_true, beq_iff_eq] at hz
          exact hz.1
        · split at e
          · rename_i hf
            have := fit_kind hf
            omega
          · exact absurd e (by decide)
      · exact rowGo_kind r s (by simpa using hl) h v e2
    · exact absurd h (by assumption)
theorem row_kinds {id : Int} {name : ByteArray} {key next : Int} {l : List S_Column} {row : List S_Value} (h : rowE id name key next l row = 0) : ∀ v ∈ row, v.f0 = 0 ∨ v.f0 = 1 ∨ v.f0 = 2 ∨ 3 ≤ v.f0 := by
  obtain ⟨ht, hl⟩ := rowE_zero h
  unfold rowE fitsE at h
  rw [if_pos ht, if_pos hl] at h
  exact rowGo_kind l row hl h

theorem kindE_bytes {t : S_Type} (h : 0 ≤ t.f0 ∧ t.f0 ≤ 4) : Bytes (kindE t) := by
  unfold kindE
  intro x hx
  rcases List.mem_cons.1 hx with e | e
  · omega
  · exact sb_bytes _ x e
theorem valE_bytes {v : S_Value} (h : 0 ≤ v.f0 ∧ v.f0 ≤ 4) : Bytes (valE v) := by
  unfold valE valT
  intro x hx
  rcases List.mem_cons.1 hx with e | e
  · omega
  · split at e
    · exact sb_bytes _ x e
    · split at e
      · exact textE_bytes _ x e
      · cases e
theorem one_bytes {n : Int} (h : 0 ≤ n ∧ n ≤ 255) : Bytes [n] := fun x hx => by
  rw [List.mem_singleton] at hx
  omega
theorem bodyE_bytes {c : S_Column} (h : WCol c) : Bytes (bodyE c) := by
  obtain ⟨_, _, h2, h3, _, _⟩ := h
  unfold bodyE
  exact (textE_bytes _).append ((kindE_bytes (by omega)).append ((one_bytes (by split <;> omega)).append (valE_bytes h3)))
theorem flat_bytes {α : Type} (f : α → List Int) (l : List α) (h : ∀ x ∈ l, Bytes (f x)) : Bytes (l.flatMap f) := fun x hx => by
  obtain ⟨y, hy, hxy⟩ := List.mem_flatMap.1 hx
  exact h y hy x hxy
theorem takes_all (l : List Int) (h : Bytes l) : Takes (strOfNums l, 0) l (nilB, 0) := by
  refine ⟨rfl, rfl, h, ?_⟩
  apply byt_inj
  rw [byt_append, show byt nilB = [] from rfl, List.append_nil]
theorem readddl_fwd (d : S_DDL) (hc : canB d = true) (hd : OkD d) : readddlS (strOfNums (ddlE d)) = (d, 0) ∧ (ddlE d).length ≤ 60000 := by
  obtain ⟨hp, h1, hm⟩ := can_parts hc
  have hop := plain_op hp
  have hx := maxN_eq
  have hw := hd.2.2.2.2.2.1
  have hws := hd.2.2.2.2.2.2.2
  have z1 := text_len d.f1 (by omega)
  have key : Bytes (moreE d) ∧ (moreE d).length ≤ 50000 := by
    obtain ⟨op, tb, co, to, ke, ty, nu, de, cs⟩ := d
    simp only at hp h1 hm hop hw hws ⊢
    unfold plainB at hp
    unfold canM at hm
    unfold moreE
    simp only at hp hm ⊢
    have hk : op = 1 ∨ op = 2 ∨ op = 3 ∨ op = 4 ∨ op = 5 ∨ op = 6 ∨ op = 7 ∨ op = 8 := by omega
    rcases hk with e | e | e | e | e | e | e | e
    · subst e
      simp only [Int.reduceEq, if_true, if_false] at hp hm ⊢
      rw [Bool.and_eq_true, Bool.and_eq_true, decide_eq_true_iff] at hm
      rw [Bool.and_eq_true] at hp
      have hW : ∀ c ∈ cs, WCol c := fun c hc => canC_w (List.all_eq_true.1 hm.1 c hc) (of_decide_eq_true (List.all_eq_true.1 hp.1 c hc)) (hws c hc).2.2
      have hk := name16 hm.2.1
      have z2 := text_len ke (by omega)
      have z3 := sb_len10 (n := cs.length) (by omega)
      have z4 := flat_len bodyE 500 cs (fun c hc => body_len c (hW c hc))
      refine ⟨(textE_bytes _).append ((sb_bytes _).append (flat_bytes _ _ fun c hc => bodyE_bytes (hW c hc))), ?_⟩
      simp only [List.length_append]
      omega
    · subst e
      simp only [Int.reduceEq, if_true, if_false]
      exact ⟨fun x hx => (by cases hx), by simp⟩
    · subst e
      simp only [Int.reduceEq, if_true, if_false] at hm ⊢
      have hk := name16 hm
      have z2 := text_len to (by omega)
      exact ⟨textE_bytes _, by omega⟩
    · subst e
      simp only [Int.reduceEq, if_true, if_false] at hm ⊢
      have hW := canC_w (c := addC ⟨4, tb, co, to, ke, ty, nu, de, cs⟩) hm rfl hw
      have := body_len _ hW
      exact ⟨bodyE_bytes hW, by omega⟩
    · subst e
      simp only [Int.reduceEq, if_true, if_false] at hm ⊢
      have hk := name16 hm
      have z2 := text_len co (by omega)
      exact ⟨textE_bytes _, by omega⟩
    · subst e
      simp only [Int.reduceEq, if_true, if_false] at hm ⊢
      rw [Bool.and_eq_true] at hm
      have hk := name16 hm.1
      have hk2 := name16 hm.2
      have z2 := text_len co (by omega)
      have z3 := text_len to (by omega)
      exact ⟨(textE_bytes _).append (textE_bytes _), by rw [List.length_append]; omega⟩
    · subst e
      simp only [Int.reduceEq, if_true, if_false] at hm ⊢
      rw [Bool.and_eq_true] at hm
      have hk := name16 hm.1
      have hk2 := typ4 hm.2
      have z2 := text_len co (by omega)
      have z3 := sb_len10 (n := ty.f1.toNat) (by omega)
      have z4 : (kindE ty).length ≤ 11 := by unfold kindE; simp only [List.length_cons]; omega
      exact ⟨(textE_bytes _).append (kindE_bytes (by omega)), by rw [List.length_append]; omega⟩
    · subst e
      simp only [Int.reduceEq, if_true, if_false] at hm ⊢
      rw [Bool.and_eq_true] at hm
      have hk := name16 hm.1
      have hk2 := val_kind hm.2
      have hk3 := valB_size hm.2
      have z2 := text_len co (by omega)
      have z3 := val_len de (by omega) hw
      exact ⟨(textE_bytes _).append (valE_bytes hk2), by rw [List.length_append]; omega⟩
  have hb : Bytes (ddlE d) := by
    unfold ddlE
    exact (one_bytes (by decide)).append ((one_bytes (by omega)).append ((textE_bytes _).append key.1))
  constructor
  · have := ddlP_fwd d (strOfNums (ddlE d), 0) (nilB, 0) hc hw (fun c hc => (hws c hc).2.2) (takes_all _ hb)
    unfold readddlS
    rw [this]
    have he : endP (canB d) (nilB, 0) = 0 := by rw [hc]; rfl
    simp only [if_pos he]
  · unfold ddlE
    simp only [List.length_append, List.length_cons, List.length_nil]
    omega

theorem tabB_id {id : Int} {name : ByteArray} {key next : Int} {l : List S_Column} (h : tabB id name key next l = true) : 0 ≤ id := by
  unfold tabB at h
  rw [Bool.and_eq_true, decide_eq_true_iff] at h
  exact h.1.1
/-- The cells have the table's names and types. -/
def cellB (c : S_Column) (x : S_Cell) : Bool := decide (x.f0 = c.f1) && ((x.f1.f0 == c.f2.f0) && (x.f1.f1 == c.f2.f1))
def laidB : List S_Column → List S_Cell → Bool
  | c :: r, x :: s => cellB c x && laidB r s
  | _, _ => true
def rowOfCells (cl : List S_Cell) : List S_Value := cl.map (·.f2)
theorem laid_ev (id : Int) (name : ByteArray) (key next : Int) (l : List S_Column) (cl : List S_Cell) (hb : l.length ≤ 1000000) (hc : cl.length ≤ 1000000) :
    Ev (fun k => walrec_laid k id name key next l cl) (if cl.length = l.length then (if laidB l cl = true then (rowOfCells cl, 0) else ([], 5)) else ([], 5)) := by
  unfold walrec_laid
  by_cases hl : cl.length = l.length
  case neg =>
    rw [if_neg hl]
    exact Ev.congr (f := fun _ => some ([], 5)) (fun k => if_neg (by omega)) (Ev.now _)
  rw [if_pos hl]
  refine Ev.congr (fun k => if_pos (by omega)) ?_
  have h := down (P := fun i => ∀ acc : List S_Value, acc.length = i → Ev (fun k => walrec_laid.l0 k cl acc l (l.length : Int) (i : Int) id name key next l) (if laidB (l.drop i) (cl.drop i) = true then (acc ++ rowOfCells (cl.drop i), 0) else ([], 5))) (n := l.length)
    (fun acc _ => by
      rw [List.drop_length, ← hl, List.drop_length]
      simp only [laidB, rowOfCells, List.map_nil, List.append_nil, if_true]
      exact Ev.step (f := fun _ => some (acc, 0)) (fun k => by simp only [walrec_laid.l0]; rw [if_neg (by omega)]) (Ev.now _))
    (fun i hi ih acc ha => by
      rw [List.drop_eq_getElem_cons hi, List.drop_eq_getElem_cons (show i < cl.length by omega)]
      have e1 : r_Cell cl (i : Int) = cl[i] := rd_cell cl i (by omega)
      have e2 : r_Column l (i : Int) = l[i] := rd_col l i hi
      generalize cl[i] = x at e1
      generalize l[i] = c at e2
      by_cases h1 : x.f0 = c.f1
      case neg =>
        rw [show laidB (c :: l.drop (i + 1)) (x :: cl.drop (i + 1)) = false by simp only [laidB]; rw [show cellB c x = false by unfold cellB; rw [decide_eq_false h1]; rfl, Bool.false_and], if_neg (by simp)]
        refine Ev.step (f := fun _ => some ([], 5)) (fun k => ?_) (Ev.now _)
        simp only [walrec_laid.l0, ba_iff]
        rw [e1, e2, if_pos (by omega), if_pos (by omega), if_pos (by omega), if_pos (by omega), if_pos (by omega), if_neg h1]
      by_cases h2 : ((x.f1.f0 == c.f2.f0) && (x.f1.f1 == c.f2.f1)) = true
      case neg =>
        rw [show laidB (c :: l.drop (i + 1)) (x :: cl.drop (i + 1)) = false by simp only [laidB]; rw [show cellB c x = false by unfold cellB; rw [decide_eq_true h1, Bool.true_and]; exact Bool.eq_false_iff.2 h2, Bool.false_and], if_neg (by simp)]
        refine Ev.step (f := fun _ => some ([], 5)) (fun k => ?_) (Ev.now _)
        simp only [walrec_laid.l0, ba_iff]
        rw [e1, e2, if_pos (by omega), if_pos (by omega), if_pos (by omega), if_pos (by omega), if_pos (by omega), if_pos h1, if_pos (by omega), if_pos (by omega), if_neg h2]
      rw [show laidB (c :: l.drop (i + 1)) (x :: cl.drop (i + 1)) = laidB (l.drop (i + 1)) (cl.drop (i + 1)) by simp only [laidB]; rw [show cellB c x = true by unfold cellB; rw [decide_eq_true h1, Bool.true_and]; exact h2, Bool.true_and]]
      have := ih (acc ++ [x.f2]) (by simp [ha])
      refine Ev.step (fun k => ?_) (Ev.eq this ?_)
      · simp only [walrec_laid.l0, ba_iff]
        rw [e1, e2, if_pos (by omega), if_pos (by omega), if_pos (by omega), if_pos (by omega), if_pos (by omega), if_pos h1, if_pos (by omega), if_pos (by omega), if_pos h2, if_pos (by omega), if_pos (by omega), if_pos (by omega), i64w_succ _ (by omega)]
      · simp only [rowOfCells, List.map_cons, List.append_assoc, List.singleton_append]) 0 (Nat.zero_le _)
  have h2 := h [] rfl
  rw [List.drop_zero, List.drop_zero, List.nil_append] at h2
  exact h2
theorem valsT_small (row : List S_Value) (h : ∀ v ∈ row, v.f0 = 0 ∨ (oneV v).length ≤ 1000) : ∀ i, i ≤ row.length → (valsT row i).length ≤ i * 1000
  | 0, _ => by simp [valsT]
  | i + 1, hi => by
    have := valsT_small row h i (by omega)
    rw [valsT_step row i (by omega), List.length_append]
    have h2 := h row[i] (List.getElem_mem (by omega))
    split
    · rw [List.length_nil]; omega
    · rename_i q
      have := h2.resolve_left q
      omega
theorem rowGo_small : ∀ (l : List S_Column) (row : List S_Value), row.length = l.length → rowGo l row = 0 → (∀ v ∈ row, OkVal v) → ∀ v ∈ row, v.f0 = 0 ∨ (oneV v).length ≤ 1000
  | [], [], _, _, _, v, hv => by simp at hv
  | [], _ :: _, h, _, _, _, _ => by simp at h
  | _ :: _, [], h, _, _, _, _ => by simp at h
  | c :: r, u :: s, hl, h, ho, v, hv => by
    simp only [rowGo] at h
    split at h
    · rename_i e
      rcases List.mem_cons.1 hv with e2 | e2
      · subst e2
        unfold oneE at e
        split at e
        · rename_i hz
          left
          unfold zeroV at hz
          rw [Bool.and_eq_true, beq_iff_eq] at hz
          exact hz.1
        · split at e
          · rename_i hf
            right
            have := valB_size (fit_parts hf).2.2.1
            exact oneV_small v (ho v (List.mem_cons_self ..)) (by omega)
          · exact absurd e (by decide)
      · exact rowGo_small r s (by simpa using hl) h (fun w hw => ho w (List.mem_cons_of_mem _ hw)) v e2
    · exact absurd h (by assumption)
theorem encS_short {id : Int} {name : ByteArray} {key next : Int} {l : List S_Column} {row : List S_Value} (h : rowE id name key next l row = 0) (ho : ∀ v ∈ row, OkVal v) : (encS row).length ≤ 20000 := by
  obtain ⟨ht, hl⟩ := rowE_zero h
  have h10 := (tabB_more ht).1
  unfold rowE fitsE at h
  rw [if_pos ht, if_pos hl] at h
  have := valsT_small row (rowGo_small l row hl h ho) row.length (Nat.le_refl _)
  unfold encS
  rw [List.length_append, mapM_len]
  omega
/-- Two values are alike. -/
def valEq (u v : S_Value) : Bool := (u.f0 == v.f0) && ((u.f1 == v.f1) && (u.f2.toList == v.f2.toList))
/-- What the packing of a change of a row comes to, behind its cells. -/
def packR (txn id : Int) (k : Int) (key : S_Value) (e : Int) (row : List S_Value) (i : Nat) : (Int × Int × Int × ByteArray) × Int :=
  if e = 0 then (if valEq (row.getD i nilV) key = true then ((k + 1, txn, id, strOfNums (encS row)), 0) else ((0, 0, 0, nilB), 15)) else ((0, 0, 0, nilB), e)
theorem rpack_l0 (txn : Int) (id : Int) (name : ByteArray) (key next : Int) (l : List S_Column) (c : Chg) (i0 : Nat) (hi0 : i0 < l.length) (hn : name.size ≤ 1000000000) (hok : ∀ c ∈ l, OkCol c) (hb : l.length ≤ 1000) (hl : c.cl.length = l.length) (hv : ∀ v ∈ rowOfCells c.cl, OkVal v)
    (hk : -9223372036854775808 ≤ c.k ∧ c.k < 9223372036854775807) (hrl : (rowOfCells c.cl).length = l.length) :
    Ev (fun k => haulageref18_Pack.l0 k txn (i0 : Int) [] 0 id name key next l c.k c.lsn c.tb c.v.f0 c.v.f1 c.v.f2 c.cl c.d.f0 c.d.f1 c.d.f2 c.d.f3 c.d.f4 c.d.f5.f0 c.d.f5.f1 c.d.f6 c.d.f7.f0 c.d.f7.f1 c.d.f7.f2 c.d.f8 0 0 0 nilB 0 0 0 nilB)
      (if laidB l c.cl = true then packR txn id c.k c.v (rowE id name key next l (rowOfCells c.cl)) (rowOfCells c.cl) i0 else ((0, 0, 0, nilB), 5)) := by
  have hend : Ev (fun k => haulageref18_Pack.l0 k txn (i0 : Int) (rowOfCells c.cl) (l.length : Int) id name key next l c.k c.lsn c.tb c.v.f0 c.v.f1 c.v.f2 c.cl c.d.f0 c.d.f1 c.d.f2 c.d.f3 c.d.f4 c.d.f5.f0 c.d.f5.f1 c.d.f6 c.d.f7.f0 c.d.f7.f1 c.d.f7.f2 c.d.f8 0 0 0 nilB 0 0 0 nilB)
      (packR txn id c.k c.v (rowE id name key next l (rowOfCells c.cl)) (rowOfCells c.cl) i0) := by
    have hr := rrow_ev id name key next l (rowOfCells c.cl) hn hok (by omega) (by omega) hv
    have hg : r_Value (rowOfCells c.cl) (i0 : Int) = (rowOfCells c.cl).getD i0 nilV := by
      rw [rd_val _ i0 (by omega), List.getD_eq_getElem?_getD, List.getElem?_eq_getElem (by omega)]; rfl
    refine Ev.step (f := fun k => (haulageref08_Row k id name key next l (rowOfCells c.cl)).bind fun t1 => (if t1 = 0 then (if valEq ((rowOfCells c.cl).getD i0 nilV) c.v = true then ((haulageref12_Encode k (rowOfCells c.cl)).bind fun t2 => some ((c.k + 1, txn, id, t2), 0)) else some ((0, 0, 0, nilB), 15)) else some ((0, 0, 0, nilB), t1))) (fun k => ?_) ?_
    · simp only [haulageref18_Pack.l0]
      rw [if_neg (by omega)]
      simp only [hg, i64w (c.k + 1) (by omega) (by omega)]
      rw [if_pos (show (0 : Int) ≤ (i0 : Int) by omega), if_pos (show (i0 : Int) < ((rowOfCells c.cl).length : Int) by omega)]
      rfl
    · refine Ev.bind hr ?_
      unfold packR
      by_cases h0 : rowE id name key next l (rowOfCells c.cl) = 0
      · rw [if_pos h0]
        refine Ev.congr (fun k => if_pos h0) ?_
        cases h1 : valEq ((rowOfCells c.cl).getD i0 nilV) c.v
        · exact Ev.congr (f := fun _ => some ((0, 0, 0, nilB), 15)) (fun k => if_neg (by simp)) (by rw [if_neg (by simp)]; exact Ev.now _)
        · rw [if_pos rfl]
          exact Ev.congr (fun k => if_pos rfl) (Ev.bind (rencode_ev _ (by omega) hv (row_kinds h0)) (Ev.now _))
      · rw [if_neg h0]
        exact Ev.congr (f := fun _ => some ((0, 0, 0, nilB), rowE id name key next l (rowOfCells c.cl))) (fun k => if_neg h0) (Ev.now _)
  have h := down (P := fun i => ∀ acc : List S_Value, acc.length = i → acc ++ rowOfCells (c.cl.drop i) = rowOfCells c.cl → Ev (fun k => haulageref18_Pack.l0 k txn (i0 : Int) acc (i : Int) id name key next l c.k c.lsn c.tb c.v.f0 c.v.f1 c.v.f2 c.cl c.d.f0 c.d.f1 c.d.f2 c.d.f3 c.d.f4 c.d.f5.f0 c.d.f5.f1 c.d.f6 c.d.f7.f0 c.d.f7.f1 c.d.f7.f2 c.d.f8 0 0 0 nilB 0 0 0 nilB)
      (if laidB (l.drop i) (c.cl.drop i) = true then packR txn id c.k c.v (rowE id name key next l (rowOfCells c.cl)) (rowOfCells c.cl) i0 else ((0, 0, 0, nilB), 5))) (n := l.length)
    (fun acc _ hacc => by
      rw [← hl, List.drop_length] at hacc
      simp only [rowOfCells, List.map_nil, List.append_nil] at hacc
      rw [List.drop_length, ← hl, List.drop_length]
      simp only [laidB, if_true]
      rw [hacc, hl]
      exact hend)
    (fun i hi ih acc ha hacc => by
      have hlt : i < c.cl.length := by omega
      rw [List.drop_eq_getElem_cons hi, List.drop_eq_getElem_cons hlt]
      rw [List.drop_eq_getElem_cons hlt] at hacc
      have e1 : r_Cell c.cl (i : Int) = c.cl[i] := rd_cell c.cl i hlt
      have e2 : r_Column l (i : Int) = l[i] := rd_col l i hi
      generalize hx : c.cl[i] = x at e1 hacc
      generalize l[i] = d at e2
      by_cases h1 : x.f0 = d.f1
      case neg =>
        rw [show laidB (d :: l.drop (i + 1)) (x :: c.cl.drop (i + 1)) = false by simp only [laidB]; rw [show cellB d x = false by unfold cellB; rw [decide_eq_false h1]; rfl, Bool.false_and], if_neg (by simp)]
        refine Ev.step (f := fun _ => some ((0, 0, 0, nilB), 5)) (fun k => ?_) (Ev.now _)
        simp only [haulageref18_Pack.l0, ba_iff]
        rw [e1, e2, if_pos (by omega), if_pos (by omega), if_pos (by omega), if_pos (by omega), if_pos (by omega), if_neg h1]
      by_cases h2 : ((x.f1.f0 == d.f2.f0) && (x.f1.f1 == d.f2.f1)) = true
      case neg =>
        rw [show laidB (d :: l.drop (i + 1)) (x :: c.cl.drop (i + 1)) = false by simp only [laidB]; rw [show cellB d x = false by unfold cellB; rw [decide_eq_true h1, Bool.true_and]; exact Bool.eq_false_iff.2 h2, Bool.false_and], if_neg (by simp)]
        refine Ev.step (f := fun _ => some ((0, 0, 0, nilB), 5)) (fun k => ?_) (Ev.now _)
        simp only [haulageref18_Pack.l0, ba_iff]
        rw [e1, e2, if_pos (by omega), if_pos (by omega), if_pos (by omega), if_pos (by omega), if_pos (by omega), if_pos h1, if_pos (by omega), if_pos (by omega), if_pos (by omega), if_pos (by omega), if_neg h2]
      rw [show laidB (d :: l.drop (i + 1)) (x :: c.cl.drop (i + 1)) = laidB (l.drop (i + 1)) (c.cl.drop (i + 1)) by simp only [laidB]; rw [show cellB d x = true by unfold cellB; rw [decide_eq_true h1, Bool.true_and]; exact h2, Bool.true_and]]
      have := ih (acc ++ [x.f2]) (by simp [ha]) (by
        simp only [rowOfCells, List.map_cons] at hacc ⊢
        rw [List.append_assoc, List.singleton_append]
        exact hacc)
      refine Ev.step (fun k => ?_) this
      simp only [haulageref18_Pack.l0, ba_iff]
      rw [e1, e2, if_pos (by omega), if_pos (by omega), if_pos (by omega), if_pos (by omega), if_pos (by omega), if_pos h1, if_pos (by omega), if_pos (by omega), if_pos (by omega), if_pos (by omega), if_pos h2, if_pos (by omega), if_pos (by omega), if_pos (by omega), i64w_succ _ (by omega)]) 0 (Nat.zero_le _)
  have h2 := h [] rfl (by rw [List.drop_zero, List.nil_append])
  rw [List.drop_zero, List.drop_zero] at h2
  exact h2

theorem word6 (k : Nat) : walrec_Word k 6 = some (⟨#[99, 111, 109, 109, 105, 116]⟩ : ByteArray) := rfl
theorem lives18_ev : Ev (fun k => haulagelaw18_lives k) true := by
  have h1 := short1 5 (by decide) (by decide)
  rw [show sb (5 : Int).toNat = [5] from sb_small (by decide)] at h1
  have e2 : strOfNums [5] = (⟨#[5]⟩ : ByteArray) := rfl
  rw [e2] at h1
  have he : Ev (fun k => walrec_Encode k 6 5 0 (⟨#[]⟩ : ByteArray)) ((⟨#[6, 5]⟩ : ByteArray), 0) := by
    refine Ev.flat1 0 h1 (fun m g => ?_)
    have g := g 0
    simp only [Nat.add_zero] at g ⊢
    simp only [walrec_Encode, wright_eq, ofRow_eq, Option.bind_some, show recR 6 5 0 (⟨#[]⟩ : ByteArray) = true from by decide, show IntKind.u64.wrap 5 = 5 from by decide, g, show rowB 6 = false from by decide, if_true, Int.reduceEq, if_false, Bool.false_eq_true]
    decide +kernel
  unfold haulagelaw18_lives
  refine Ev.bind he ?_
  refine Ev.congr (f := fun _ => some true) (fun k => ?_) (Ev.now _)
  simp only [if_true, word6, Option.bind_some]
  rfl

/-- A record as a tuple. -/
abbrev RT := Int × Int × Int × ByteArray
theorem recR_mk {a b c : Int} {s : ByteArray} (h : 1 ≤ a ∧ a ≤ 8 ∧ 0 ≤ b ∧ 0 ≤ c ∧ (a ≠ 8 ∨ b = 0) ∧ (c = 0 ∨ (2 ≤ a ∧ a ≤ 4)) ∧ (s.size = 0 ∨ (2 ≤ a ∧ a ≤ 5 ∧ s.size ≤ 65535))) : recR a b c s = true := decide_eq_true h
/-- What must be known of a change that is packed. -/
def OkChg (c : Chg) : Prop := OkVal c.v ∧ c.cl.length ≤ 1000 ∧ (∀ x ∈ c.cl, OkVal x.f2) ∧ OkD c.d
theorem image_ev (id : Int) (name : ByteArray) (key next : Int) (l : List S_Column) (c : Chg) (i : Nat) (hi : i < l.length) (hn : name.size ≤ 1000000000) (hok : ∀ c ∈ l, OkCol c) (hb : l.length ≤ 1000) (hc : OkChg c) (ht : tabB id name key next l = true)
    (hk1 : scan (fun c : S_Column => decide (c.f0 = key)) l 0 = ((i : Int), true)) (h3 : ¬ c.k = 3) :
    Ev (fun k => walrec_image k id name key next l c.k c.lsn c.tb c.v.f0 c.v.f1 c.v.f2 c.cl c.d.f0 c.d.f1 c.d.f2 c.d.f3 c.d.f4 c.d.f5.f0 c.d.f5.f1 c.d.f6 c.d.f7.f0 c.d.f7.f1 c.d.f7.f2 c.d.f8)
      (if c.cl.length = l.length then (if laidB l c.cl = true then (if rowE id name key next l (rowOfCells c.cl) = 0 then (if valEq ((rowOfCells c.cl).getD i nilV) c.v = true then (strOfNums (encS (rowOfCells c.cl)), 0) else (nilB, 15)) else (nilB, rowE id name key next l (rowOfCells c.cl))) else (nilB, 5)) else (nilB, 5)) := by
  unfold walrec_image
  refine Ev.congr (fun k => if_neg h3) (Ev.bind (laid_ev id name key next l c.cl (by omega) (by have := hc.2.1; omega)) ?_)
  by_cases hl : c.cl.length = l.length
  case neg =>
    simp only [if_neg hl]
    exact Ev.congr (f := fun _ => some (nilB, 5)) (fun k => if_neg (by simp)) (Ev.now _)
  simp only [if_pos hl]
  cases hL : laidB l c.cl
  · exact Ev.congr (f := fun _ => some (nilB, 5)) (fun k => if_neg (by simp)) (Ev.now _)
  have hrl : (rowOfCells c.cl).length = l.length := by simp [rowOfCells, hl]
  have hv : ∀ v ∈ rowOfCells c.cl, OkVal v := fun v hv => by
    obtain ⟨x, hx, rfl⟩ := List.mem_map.1 hv
    exact hc.2.2.1 x hx
  refine Ev.congr (fun k => if_pos rfl) (Ev.bind (encode_ev id name key next l (rowOfCells c.cl) hn hok (by omega) hv) ?_)
  unfold encE
  have hg : r_Value (rowOfCells c.cl) (i : Int) = (rowOfCells c.cl).getD i nilV := by
    rw [rd_val _ i (by omega), List.getD_eq_getElem?_getD, List.getElem?_eq_getElem (by omega)]; rfl
  by_cases h0 : rowE id name key next l (rowOfCells c.cl) = 0
  · simp only [if_pos h0, if_true]
    refine Ev.bind (key_ev id name key next l (by omega)) ?_
    rw [hk1]
    refine Ev.congr (f := fun _ => some (if valEq ((rowOfCells c.cl).getD i nilV) c.v = true then (strOfNums (encS (rowOfCells c.cl)), 0) else (nilB, 15))) (fun k => ?_) (Ev.now _)
    simp only [hg]
    rw [if_pos (show (0 : Int) ≤ (i : Int) by omega), if_pos (show (i : Int) < ((rowOfCells c.cl).length : Int) by omega)]
    show (if valEq _ c.v = true then _ else _) = _
    split <;> rfl
  · simp only [if_neg h0, if_true]
    exact Ev.congr (f := fun _ => some (nilB, rowE id name key next l (rowOfCells c.cl))) (fun k => by first | rfl | exact if_neg h0) (Ev.now _)
theorem pack_both (txn : Int) (id : Int) (name : ByteArray) (key next : Int) (l : List S_Column) (c : Chg) (hn : name.size ≤ 1000000000) (hok : ∀ c ∈ l, OkCol c) (hb : l.length ≤ 1000) (hc : OkChg c) :
    ∃ (r : RT) (e : Int), (e = 0 → recR r.1 r.2.1 r.2.2.1 r.2.2.2 = true) ∧
      Ev (fun k => walrec_Pack k txn id name key next l c.k c.lsn c.tb c.v.f0 c.v.f1 c.v.f2 c.cl c.d.f0 c.d.f1 c.d.f2 c.d.f3 c.d.f4 c.d.f5.f0 c.d.f5.f1 c.d.f6 c.d.f7.f0 c.d.f7.f1 c.d.f7.f2 c.d.f8) (r, e) ∧
      Ev (fun k => haulageref18_Pack k txn id name key next l c.k c.lsn c.tb c.v.f0 c.v.f1 c.v.f2 c.cl c.d.f0 c.d.f1 c.d.f2 c.d.f3 c.d.f4 c.d.f5.f0 c.d.f5.f1 c.d.f6 c.d.f7.f0 c.d.f7.f1 c.d.f7.f2 c.d.f8) (r, e) := by
  obtain ⟨hcv, hcl, hcc, hcd⟩ := hc
  by_cases h0 : txn < 0
  · refine ⟨(0, 0, 0, nilB), 2, fun e => absurd e (by decide), Ev.pure fun k => ?_, Ev.pure fun k => ?_⟩
    · unfold walrec_Pack; rw [if_pos h0]
    · unfold haulageref18_Pack; rw [if_pos h0]
  have p1 := plainC_ev c hcd.2.2.2.2.2.2.1
  have p2 := rplainC_ev c hcd.2.2.2.2.2.2.1
  cases hp : plainC c
  · rw [hp] at p1 p2
    refine ⟨(0, 0, 0, nilB), 2, fun e => absurd e (by decide), ?_, ?_⟩
    · unfold walrec_Pack
      exact Ev.congr (fun k => if_neg h0) (Ev.bind p1 (Ev.congr (f := fun _ => some ((0, 0, 0, nilB), 2)) (fun k => if_neg (by simp)) (Ev.now _)))
    · unfold haulageref18_Pack
      exact Ev.congr (fun k => if_neg h0) (Ev.bind p2 (Ev.congr (f := fun _ => some ((0, 0, 0, nilB), 2)) (fun k => if_neg (by simp)) (Ev.now _)))
  rw [hp] at p1 p2
  by_cases h4 : c.k = 4
  · have d1 := ddl_w c.d hcd
    have d2 := rcan_ev c.d hcd
    cases hcan : canB c.d
    · rw [hcan, if_neg (by simp)] at d1
      rw [hcan] at d2
      refine ⟨(0, 0, 0, nilB), 2, fun e => absurd e (by decide), ?_, ?_⟩
      · unfold walrec_Pack
        exact Ev.congr (fun k => if_neg h0) (Ev.bind p1 (Ev.congr (fun k => if_pos rfl) (Ev.congr (fun k => if_pos h4) (Ev.bind d1 (Ev.congr (f := fun _ => some ((0, 0, 0, nilB), 2)) (fun k => if_neg (by simp)) (Ev.now _))))))
      · unfold haulageref18_Pack
        exact Ev.congr (fun k => if_neg h0) (Ev.bind p2 (Ev.congr (fun k => if_pos rfl) (Ev.congr (fun k => if_pos h4) (Ev.bind d2 (Ev.congr (f := fun _ => some ((0, 0, 0, nilB), 2)) (fun k => if_neg (by simp)) (Ev.now _))))))
    · rw [hcan, if_pos rfl] at d1
      rw [hcan] at d2
      have hsz := (readddl_fwd c.d hcan hcd).2
      refine ⟨(5, txn, 0, strOfNums (ddlE c.d)), 0, fun _ => recR_mk (a := 5) (b := txn) (c := 0) (s := strOfNums (ddlE c.d)) ?_, ?_, ?_⟩
      · exact ⟨by decide, by decide, by omega, by decide, Or.inl (by decide), Or.inl rfl, Or.inr ⟨by decide, by decide, by simp only [strOfNums_size]; omega⟩⟩
      · unfold walrec_Pack
        exact Ev.congr (fun k => if_neg h0) (Ev.bind p1 (Ev.congr (fun k => if_pos rfl) (Ev.congr (fun k => if_pos h4) (Ev.bind d1 (Ev.congr (f := fun _ => some ((5, txn, 0, strOfNums (ddlE c.d)), 0)) (fun k => if_pos rfl) (Ev.now _))))))
      · unfold haulageref18_Pack
        exact Ev.congr (fun k => if_neg h0) (Ev.bind p2 (Ev.congr (fun k => if_pos rfl) (Ev.congr (fun k => if_pos h4) (Ev.bind d2 (Ev.congr (fun k => if_pos rfl) (Ev.bind (rddl_w c.d hcd hcan) (Ev.now _)))))))
  have hk : c.k = 1 ∨ c.k = 2 ∨ c.k = 3 := by
    unfold plainC at hp
    rw [Bool.and_eq_true] at hp
    by_cases q : c.k = 1 ∨ c.k = 2
    · omega
    · have := hp.2
      rw [if_neg q] at this
      by_cases q3 : c.k = 3
      · omega
      · rw [if_neg q3, if_neg h4] at this
        cases this
  have t1 := table_ev id name key next l hn hok
  have t2 := rtable_ev id name key next l hn hok (by omega)
  by_cases ht : tabB id name key next l = true
  case neg =>
    rw [Bool.eq_false_iff.2 ht] at t1 t2
    refine ⟨(0, 0, 0, nilB), 2, fun e => absurd e (by decide), ?_, ?_⟩
    · unfold walrec_Pack
      exact Ev.congr (fun k => if_neg h0) (Ev.bind p1 (Ev.congr (fun k => if_pos rfl) (Ev.congr (fun k => if_neg h4) (Ev.bind t1 (Ev.congr (f := fun _ => some ((0, 0, 0, nilB), 2)) (fun k => if_neg (by simp)) (Ev.now _))))))
    · unfold haulageref18_Pack
      exact Ev.congr (fun k => if_neg h0) (Ev.bind p2 (Ev.congr (fun k => if_pos rfl) (Ev.congr (fun k => if_neg h4) (Ev.bind t2 (Ev.congr (f := fun _ => some ((0, 0, 0, nilB), 2)) (fun k => if_neg (by simp)) (Ev.now _))))))
  rw [ht] at t1 t2
  have hid := tabB_id ht
  by_cases hname : name = c.tb
  case neg =>
    have hname' : ¬ name.toList = c.tb.toList := fun e => hname (ba_inj e)
    refine ⟨(0, 0, 0, nilB), 12, fun e => absurd e (by decide), ?_, ?_⟩
    · unfold walrec_Pack
      exact Ev.congr (fun k => if_neg h0) (Ev.bind p1 (Ev.congr (fun k => if_pos rfl) (Ev.congr (fun k => if_neg h4) (Ev.bind t1 (Ev.congr (fun k => if_pos rfl) (Ev.congr (f := fun _ => some ((0, 0, 0, nilB), 12)) (fun k => if_neg hname') (Ev.now _)))))))
    · unfold haulageref18_Pack
      exact Ev.congr (fun k => if_neg h0) (Ev.bind p2 (Ev.congr (fun k => if_pos rfl) (Ev.congr (fun k => if_neg h4) (Ev.bind t2 (Ev.congr (fun k => if_pos rfl) (Ev.congr (f := fun _ => some ((0, 0, 0, nilB), 12)) (fun k => if_neg hname') (Ev.now _)))))))
  have hname' : name.toList = c.tb.toList := by rw [hname]
  obtain ⟨i, hil, hk1, hk2⟩ := key_at ht
  have hty := tabB_types ht
  have kk := rkey_ev id name key next l (by omega)
  rw [hk2] at kk
  have hw : IntKind.i64.wrap (IntKind.i64.wrap (c.k - 1) + 2) = c.k + 1 := by rw [i64w (c.k - 1) (by omega) (by omega), i64w _ (by omega) (by omega)]; omega
  by_cases h3 : c.k = 3
  · have kt := key_type_ev (next := next) hn hok (by omega) ht i hil hk1
    have r1 := rowkey_ev kt c.v hcv
    have f1 := rfit_ev l[i].f2.f0 l[i].f2.f1 c.v.f0 c.v.f1 c.v.f2 hcv.1 hcv.2
    have him : Ev (fun k => walrec_image k id name key next l c.k c.lsn c.tb c.v.f0 c.v.f1 c.v.f2 c.cl c.d.f0 c.d.f1 c.d.f2 c.d.f3 c.d.f4 c.d.f5.f0 c.d.f5.f1 c.d.f6 c.d.f7.f0 c.d.f7.f1 c.d.f7.f2 c.d.f8) (if fitB l[i].f2.f0 l[i].f2.f1 c.v.f0 c.v.f1 c.v.f2 = true then (strOfNums (oneV c.v), 0) else (⟨#[]⟩, 10)) := by
      unfold walrec_image
      exact Ev.congr (fun k => if_pos h3) (Ev.bind r1 (Ev.now _))
    cases hf : fitB l[i].f2.f0 l[i].f2.f1 c.v.f0 c.v.f1 c.v.f2
    · rw [hf, if_neg (by simp)] at him
      rw [hf] at f1
      refine ⟨(0, 0, 0, nilB), 10, fun e => absurd e (by decide), ?_, ?_⟩
      · unfold walrec_Pack
        exact Ev.congr (fun k => if_neg h0) (Ev.bind p1 (Ev.congr (fun k => if_pos rfl) (Ev.congr (fun k => if_neg h4) (Ev.bind t1 (Ev.congr (fun k => if_pos rfl) (Ev.congr (fun k => if_pos hname') (Ev.bind him (Ev.congr (f := fun _ => some ((0, 0, 0, nilB), 10)) (fun k => if_neg (by simp)) (Ev.now _)))))))))
      · unfold haulageref18_Pack
        refine Ev.congr (fun k => if_neg h0) (Ev.bind p2 (Ev.congr (fun k => if_pos rfl) (Ev.congr (fun k => if_neg h4) (Ev.bind t2 (Ev.congr (fun k => if_pos rfl) (Ev.congr (fun k => if_pos hname') (Ev.bind kk (Ev.congr (fun k => if_pos h3) ?_))))))))
        refine Ev.congr (fun k => by rw [if_pos (show (0 : Int) ≤ (i : Int) by omega), if_pos (show (i : Int) < (l.length : Int) by omega), rd_col l i hil]) (Ev.bind f1 ?_)
        exact Ev.congr (f := fun _ => some ((0, 0, 0, nilB), 10)) (fun k => if_neg (by simp)) (Ev.now _)
    · rw [hf, if_pos rfl] at him
      rw [hf] at f1
      have hkind := fit_kind hf
      have hs := oneV_small c.v hcv (by have := valB_size (fit_parts hf).2.2.1; omega)
      refine ⟨(4, txn, id, strOfNums (oneV c.v)), 0, fun _ => recR_mk (a := 4) (b := txn) (c := id) (s := strOfNums (oneV c.v)) ?_, ?_, ?_⟩
      · simp only [strOfNums_size]
        omega
      · unfold walrec_Pack
        refine Ev.congr (fun k => if_neg h0) (Ev.bind p1 (Ev.congr (fun k => if_pos rfl) (Ev.congr (fun k => if_neg h4) (Ev.bind t1 (Ev.congr (fun k => if_pos rfl) (Ev.congr (fun k => if_pos hname') (Ev.bind him ?_)))))))
        exact Ev.congr (f := fun _ => some ((4, txn, id, strOfNums (oneV c.v)), 0)) (fun k => by rw [if_pos rfl, hw, h3]; rfl) (Ev.now _)
      · unfold haulageref18_Pack
        refine Ev.congr (fun k => if_neg h0) (Ev.bind p2 (Ev.congr (fun k => if_pos rfl) (Ev.congr (fun k => if_neg h4) (Ev.bind t2 (Ev.congr (fun k => if_pos rfl) (Ev.congr (fun k => if_pos hname') (Ev.bind kk (Ev.congr (fun k => if_pos h3) ?_))))))))
        refine Ev.congr (fun k => by rw [if_pos (show (0 : Int) ≤ (i : Int) by omega), if_pos (show (i : Int) < (l.length : Int) by omega), rd_col l i hil]) (Ev.bind f1 ?_)
        exact Ev.congr (fun k => if_pos rfl) (Ev.bind (rone_ev c.v hcv (by omega)) (Ev.now _))
  have him := image_ev id name key next l c i hil hn hok hb ⟨hcv, hcl, hcc, hcd⟩ ht hk1 h3
  have hbase : ∀ (r : RT) (e : Int) (s : ByteArray), Ev (fun k => walrec_image k id name key next l c.k c.lsn c.tb c.v.f0 c.v.f1 c.v.f2 c.cl c.d.f0 c.d.f1 c.d.f2 c.d.f3 c.d.f4 c.d.f5.f0 c.d.f5.f1 c.d.f6 c.d.f7.f0 c.d.f7.f1 c.d.f7.f2 c.d.f8) (s, e) → r = (if e = 0 then (c.k + 1, txn, id, s) else (0, 0, 0, nilB)) →
      Ev (fun k => walrec_Pack k txn id name key next l c.k c.lsn c.tb c.v.f0 c.v.f1 c.v.f2 c.cl c.d.f0 c.d.f1 c.d.f2 c.d.f3 c.d.f4 c.d.f5.f0 c.d.f5.f1 c.d.f6 c.d.f7.f0 c.d.f7.f1 c.d.f7.f2 c.d.f8) (r, e) := fun r e s hi hr => by
    subst hr
    unfold walrec_Pack
    refine Ev.congr (fun k => if_neg h0) (Ev.bind p1 (Ev.congr (fun k => if_pos rfl) (Ev.congr (fun k => if_neg h4) (Ev.bind t1 (Ev.congr (fun k => if_pos rfl) (Ev.congr (fun k => if_pos hname') (Ev.bind hi ?_)))))))
    by_cases he : e = 0
    · subst he
      exact Ev.congr (f := fun _ => some ((c.k + 1, txn, id, s), 0)) (fun k => by rw [if_pos rfl, hw]) (Ev.now _)
    · refine Ev.congr (f := fun _ => some ((0, 0, 0, nilB), e)) (fun k => if_neg he) ?_
      rw [if_neg he]
      exact Ev.now _
  have hpre : ∀ (r : RT) (e : Int), Ev (fun k => if (c.cl.length : Int) = (l.length : Int) then haulageref18_Pack.l0 k txn (i : Int) [] 0 id name key next l c.k c.lsn c.tb c.v.f0 c.v.f1 c.v.f2 c.cl c.d.f0 c.d.f1 c.d.f2 c.d.f3 c.d.f4 c.d.f5.f0 c.d.f5.f1 c.d.f6 c.d.f7.f0 c.d.f7.f1 c.d.f7.f2 c.d.f8 0 0 0 nilB 0 0 0 nilB else some ((0, 0, 0, nilB), 5)) (r, e) →
      Ev (fun k => haulageref18_Pack k txn id name key next l c.k c.lsn c.tb c.v.f0 c.v.f1 c.v.f2 c.cl c.d.f0 c.d.f1 c.d.f2 c.d.f3 c.d.f4 c.d.f5.f0 c.d.f5.f1 c.d.f6 c.d.f7.f0 c.d.f7.f1 c.d.f7.f2 c.d.f8) (r, e) := fun r e h => by
    unfold haulageref18_Pack
    exact Ev.congr (fun k => if_neg h0) (Ev.bind p2 (Ev.congr (fun k => if_pos rfl) (Ev.congr (fun k => if_neg h4) (Ev.bind t2 (Ev.congr (fun k => if_pos rfl) (Ev.congr (fun k => if_pos hname') (Ev.bind kk (Ev.congr (fun k => if_neg h3) h))))))))
  by_cases hl : c.cl.length = l.length
  case neg =>
    rw [if_neg hl] at him
    exact ⟨(0, 0, 0, nilB), 5, fun e => absurd e (by decide), hbase _ _ _ him rfl, hpre _ _ (Ev.congr (f := fun _ => some ((0, 0, 0, nilB), 5)) (fun k => if_neg (by omega)) (Ev.now _))⟩
  rw [if_pos hl] at him
  have hrl : (rowOfCells c.cl).length = l.length := by simp [rowOfCells, hl]
  have hv : ∀ v ∈ rowOfCells c.cl, OkVal v := fun v hv => by
    obtain ⟨x, hx, rfl⟩ := List.mem_map.1 hv
    exact hcc x hx
  have hl0 := rpack_l0 txn id name key next l c i hil hn hok hb hl hv (by omega) hrl
  have hpre' : ∀ (r : RT) (e : Int), (if laidB l c.cl = true then packR txn id c.k c.v (rowE id name key next l (rowOfCells c.cl)) (rowOfCells c.cl) i else ((0, 0, 0, nilB), 5)) = (r, e) → _ := fun r e q => hpre r e (Ev.congr (fun k => if_pos (by omega)) (q ▸ hl0))
  cases hL : laidB l c.cl
  · rw [hL, if_neg (by simp)] at him
    exact ⟨(0, 0, 0, nilB), 5, fun e => absurd e (by decide), hbase _ _ _ him rfl, hpre' _ _ (by rw [hL, if_neg (by simp)])⟩
  rw [hL, if_pos rfl] at him
  by_cases hE : rowE id name key next l (rowOfCells c.cl) = 0
  case neg =>
    rw [if_neg hE] at him
    exact ⟨(0, 0, 0, nilB), _, fun e => absurd e hE, hbase _ _ _ him (by rw [if_neg hE]), hpre' _ _ (by rw [hL, if_pos rfl]; unfold packR; rw [if_neg hE])⟩
  rw [if_pos hE] at him
  cases hV : valEq ((rowOfCells c.cl).getD i nilV) c.v
  · rw [hV, if_neg (by simp)] at him
    exact ⟨(0, 0, 0, nilB), 15, fun e => absurd e (by decide), hbase _ _ _ him rfl, hpre' _ _ (by rw [hL, if_pos rfl]; unfold packR; rw [if_pos hE, hV, if_neg (by simp)])⟩
  · rw [hV, if_pos rfl] at him
    have hsz := encS_short hE hv
    refine ⟨(c.k + 1, txn, id, strOfNums (encS (rowOfCells c.cl))), 0, fun _ => recR_mk (a := c.k + 1) (b := txn) (c := id) (s := strOfNums (encS (rowOfCells c.cl))) ?_, hbase _ _ _ him rfl, hpre' _ _ (by rw [hL, if_pos rfl]; unfold packR; rw [if_pos hE, hV, if_pos rfl])⟩
    simp only [strOfNums_size]
    omega

theorem law_ev (txn : Int) (id : Int) (name : ByteArray) (key next : Int) (l : List S_Column) (c : Chg) (hl : l.length ≤ 9223372036854775807) (hw : ∀ c ∈ l, (Lit.int .i64 c.f4.f1).wf = true) (hc : WfC c) :
    Ev (fun k => haulagelaw18_WalrecPacks k txn id name key next l c.k c.lsn c.tb c.v.f0 c.v.f1 c.v.f2 c.cl c.d.f0 c.d.f1 c.d.f2 c.d.f3 c.d.f4 c.d.f5.f0 c.d.f5.f1 c.d.f6 c.d.f7.f0 c.d.f7.f1 c.d.f7.f2 c.d.f8) true := by
  unfold haulagelaw18_WalrecPacks
  refine Ev.bind lives18_ev (Ev.congr (fun k => if_pos rfl) ?_)
  refine Ev.bind (few_ev id name key next l hl) ?_
  cases hf : fewB name l
  · exact Ev.congr (f := fun _ => some true) (fun k => if_neg (by simp)) (Ev.now _)
  refine Ev.congr (fun k => if_pos rfl) ?_
  refine Ev.bind (fewch_ev c hc) ?_
  cases hg : fewCh c
  · exact Ev.congr (f := fun _ => some true) (fun k => if_neg (by simp)) (Ev.now _)
  refine Ev.congr (fun k => if_pos rfl) ?_
  have hb := (fewB_iff name l).1 hf
  obtain ⟨_, g2, _, g4, g5, g6⟩ := fewch_ok hg hc
  obtain ⟨r, e, h0, p1, p2⟩ := pack_both txn id name key next l c (by omega) (fun c hc => by have := hb.2.2 c hc; exact ⟨by omega, by omega, hw c hc⟩) (by omega) ⟨g2, by omega, fun x hx => (g5 x hx).2, g6⟩
  refine Ev.bind p1 (Ev.bind p2 ?_)
  refine Ev.congr (f := fun k => if e = 0 then ((walrec_Right k r.1 r.2.1 r.2.2.1 r.2.2.2).bind fun t6 => (some t6)) else some true) (fun k => ?_) ?_
  · simp
  by_cases he : e = 0
  · refine Ev.congr (f := fun _ => some true) (fun k => ?_) (Ev.now _)
    rw [if_pos he, wright_eq, h0 he, Option.bind_some]
  · exact Ev.congr (f := fun _ => some true) (fun k => if_neg he) (Ev.now _)

end Go.Proofs.YtgefikclhfjcgaaGreatDoor.EWalrecPacks

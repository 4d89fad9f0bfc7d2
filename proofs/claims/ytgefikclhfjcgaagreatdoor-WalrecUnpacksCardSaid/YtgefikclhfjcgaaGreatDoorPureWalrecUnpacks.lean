/- What the functions' Lean texts come to; no condition but those that each theorem states. -/
import Derived.Test.YtgefikclhfjcgaaGreatDoorFWalrecUnpacks
set_option linter.unusedVariables false
set_option linter.unusedSimpArgs false
set_option maxRecDepth 100000
namespace Go.Proofs.YtgefikclhfjcgaaGreatDoor.EWalrecUnpacks
open Go Go.Proofs.YtgefikclhfjcgaaGreatDoorEv
def wrap64 (n : Int) : Int := (n + 9223372036854775808) % 18446744073709551616 - 9223372036854775808
def Ev {α : Type} (g : Nat → Option α) (r : α) : Prop := ∃ K, ∀ k, K ≤ k → g k = some r
theorem Ev.now {α : Type} (r : α) : Ev (fun _ => some r) r := ⟨0, fun _ _ => rfl⟩
theorem Ev.bind {α β : Type} {g : Nat → Option α} {f : Nat → α → Option β} {a : α} {r : β} (h : Ev g a) (k : Ev (fun n => f n a) r) : Ev (fun n => (g n).bind (f n)) r := by
  obtain ⟨K, h⟩ := h
  obtain ⟨K', k⟩ := k
  refine ⟨max K K', fun n hn => ?_⟩
  have h1 := h n (by omega)
  have h2 := k n (by omega)
  simp only [h1, Option.bind_some]
  exact h2
theorem Ev.step {α : Type} {g f : Nat → Option α} {r : α} (h : ∀ k, g (k + 1) = f k) (k : Ev f r) : Ev g r := by
  obtain ⟨K, k⟩ := k
  refine ⟨K + 1, fun n hn => ?_⟩
  obtain ⟨m, rfl⟩ : ∃ m, n = m + 1 := ⟨n - 1, by omega⟩
  rw [h]
  exact k m (by omega)
theorem Ev.congr {α : Type} {g f : Nat → Option α} {r : α} (h : ∀ k, g k = f k) (k : Ev f r) : Ev g r := by
  obtain ⟨K, k⟩ := k
  exact ⟨K, fun n hn => (h n).trans (k n hn)⟩
theorem Ev.pure {α : Type} {g : Nat → Option α} {r : α} (h : ∀ k, g k = some r) : Ev g r := ⟨0, fun n _ => h n⟩
theorem Ev.ite {α : Type} {c : Prop} [Decidable c] {g f : Nat → Option α} {r : α} (h1 : c → Ev g r) (h2 : ¬ c → Ev f r) : Ev (fun k => if c then g k else f k) r := by
  by_cases h : c
  · exact Ev.congr (fun k => if_pos h) (h1 h)
  · exact Ev.congr (fun k => if_neg h) (h2 h)
theorem Ev.yes {α : Type} {c : Prop} [Decidable c] {g f : Nat → Option α} {r : α} (h : c) (h1 : Ev g r) : Ev (fun k => if c then g k else f k) r := Ev.congr (fun k => if_pos h) h1
theorem Ev.no {α : Type} {c : Prop} [Decidable c] {g f : Nat → Option α} {r : α} (h : ¬ c) (h1 : Ev f r) : Ev (fun k => if c then g k else f k) r := Ev.congr (fun k => if_neg h) h1
theorem Ev.flat0 {α : Type} {g : Nat → Option α} {r : α} (d : Nat) (h : ∀ m, g (m + d) = some r) : Ev g r :=
  ⟨d, fun k hk => by obtain ⟨m, rfl⟩ : ∃ m, k = m + d := ⟨k - d, by omega⟩; exact h m⟩
theorem Ev.flat1 {α β : Type} {g : Nat → Option α} {r : α} {f1 : Nat → Option β} {v1 : β} (d : Nat) (h1 : Ev f1 v1) (h : ∀ m, (∀ j, f1 (m + j) = some v1) → g (m + d) = some r) : Ev g r := by
  obtain ⟨K1, e1⟩ := h1
  refine ⟨K1 + d, fun k hk => ?_⟩
  obtain ⟨m, rfl⟩ : ∃ m, k = m + d := ⟨k - d, by omega⟩
  exact h m (fun j => e1 _ (by omega))
theorem Ev.flat2 {α β γ : Type} {g : Nat → Option α} {r : α} {f1 : Nat → Option β} {v1 : β} {f2 : Nat → Option γ} {v2 : γ} (d : Nat) (h1 : Ev f1 v1) (h2 : Ev f2 v2)
    (h : ∀ m, (∀ j, f1 (m + j) = some v1) → (∀ j, f2 (m + j) = some v2) → g (m + d) = some r) : Ev g r := by
  obtain ⟨K1, e1⟩ := h1
  obtain ⟨K2, e2⟩ := h2
  refine ⟨K1 + K2 + d, fun k hk => ?_⟩
  obtain ⟨m, rfl⟩ : ∃ m, k = m + d := ⟨k - d, by omega⟩
  exact h m (fun j => e1 _ (by omega)) (fun j => e2 _ (by omega))
theorem Ev.flat3 {α β γ δ : Type} {g : Nat → Option α} {r : α} {f1 : Nat → Option β} {v1 : β} {f2 : Nat → Option γ} {v2 : γ} {f3 : Nat → Option δ} {v3 : δ} (d : Nat) (h1 : Ev f1 v1) (h2 : Ev f2 v2) (h3 : Ev f3 v3)
    (h : ∀ m, (∀ j, f1 (m + j) = some v1) → (∀ j, f2 (m + j) = some v2) → (∀ j, f3 (m + j) = some v3) → g (m + d) = some r) : Ev g r := by
  obtain ⟨K1, e1⟩ := h1
  obtain ⟨K2, e2⟩ := h2
  obtain ⟨K3, e3⟩ := h3
  refine ⟨K1 + K2 + K3 + d, fun k hk => ?_⟩
  obtain ⟨m, rfl⟩ : ∃ m, k = m + d := ⟨k - d, by omega⟩
  exact h m (fun j => e1 _ (by omega)) (fun j => e2 _ (by omega)) (fun j => e3 _ (by omega))
theorem Ev.eq {α : Type} {g : Nat → Option α} {r s : α} (h : Ev g r) (e : r = s) : Ev g s := e ▸ h
theorem wrap_id (n : Int) (h0 : -9223372036854775808 ≤ n) (h1 : n ≤ 9223372036854775807) : wrap64 n = n := by
  unfold wrap64
  omega
theorem wrap_succ (n : Nat) (h : n < 9223372036854775807) : wrap64 ((n : Int) + 1) = ((n + 1 : Nat) : Int) := by
  rw [wrap_id _ (by omega) (by omega)]
  omega
theorem down {P : Nat → Prop} {n : Nat} (h0 : P n) (hs : ∀ i, i < n → P (i + 1) → P i) : ∀ i, i ≤ n → P i := by
  intro i hi
  obtain ⟨d, rfl⟩ : ∃ d, n = i + d := ⟨n - i, by omega⟩
  clear hi
  induction d generalizing i with
  | zero => exact h0
  | succ d ih => exact hs i (by omega) (ih (i + 1) (by rw [show i + 1 + d = i + (d + 1) by omega]; exact h0) (by rw [show i + 1 + d = i + (d + 1) by omega]; exact hs))
theorem beq_dec (a b : Int) : (a == b) = decide (a = b) := by rw [Bool.eq_iff_iff, beq_iff_eq, decide_eq_true_iff]
theorem ba_inj {a b : ByteArray} (h : a.toList = b.toList) : a = b := by
  rw [ByteArray.toList_eq, ByteArray.toList_eq] at h
  exact ByteArray.ext (Array.toList_inj.1 h)
theorem ba_iff (a b : ByteArray) : a.toList = b.toList ↔ a = b := ⟨ba_inj, fun h => by rw [h]⟩
theorem ba_beq (a b : ByteArray) : (a.toList == b.toList) = decide (a = b) := by
  by_cases h : a = b
  · subst h; simp
  · have : ¬ a.toList = b.toList := fun e => h (ba_inj e)
    simp [h, this]
theorem ba_nil (a : ByteArray) : a.toList = ([] : List UInt8) ↔ a.size = 0 := by
  rw [ByteArray.toList_eq, ← List.length_eq_zero_iff, Array.length_toList]
  exact Iff.rfl
theorem tmod_nonneg_eq (a b : Int) (ha : 0 ≤ a) : Int.tmod a b = a % b := Int.tmod_eq_emod_of_nonneg ha
theorem tdiv_nonneg_eq (a b : Int) (ha : 0 ≤ a) : Int.tdiv a b = a / b := Int.tdiv_eq_ediv_of_nonneg ha
theorem u64_id (n : Int) (h0 : 0 ≤ n) (h1 : n < 18446744073709551616) : IntKind.u64.wrap n = n := by
  simp only [IntKind.wrap, IntKind.bits, IntKind.signed]
  simp
  omega

theorem i64_eq (n : Int) : IntKind.i64.wrap n = wrap64 n := by unfold wrap64; exact Go.IntKind.wrap_i64 n
theorem u64_eq (n : Int) : IntKind.u64.wrap n = n % 18446744073709551616 := by simp [IntKind.wrap, IntKind.bits, IntKind.signed]

theorem wf_parts {k : IntKind} {x : Int} (h : (Lit.int k x).wf = true) : k.min ≤ x ∧ x ≤ k.max := by
  unfold Lit.wf at h
  rw [Bool.and_eq_true, decide_eq_true_eq, decide_eq_true_eq] at h
  exact h
theorem wf_i64 {x : Int} (h : (Lit.int .i64 x).wf = true) : -9223372036854775808 ≤ x ∧ x ≤ 9223372036854775807 := by
  have := wf_parts h
  rw [show IntKind.min .i64 = -9223372036854775808 by decide, show IntKind.max .i64 = 9223372036854775807 by decide] at this
  exact this
def strOfNums (l : List Int) : ByteArray := ⟨(l.map fun n => UInt8.ofNat n.toNat).toArray⟩
def byt (s : ByteArray) : List Int := s.data.toList.map fun c => (c.toNat : Int)
/-- All are bytes. -/
def Bytes (l : List Int) : Prop := ∀ x ∈ l, 0 ≤ x ∧ x ≤ 255

theorem byt_len (s : ByteArray) : (byt s).length = s.size := by
  unfold byt
  rw [List.length_map, Array.length_toList]
  rfl
theorem byt_bytes (s : ByteArray) : Bytes (byt s) := by
  intro x hx
  obtain ⟨c, _, rfl⟩ := List.mem_map.1 hx
  have := c.toNat_lt
  omega
theorem str_byt (s : ByteArray) : strOfNums (byt s) = s := by
  apply ByteArray.ext
  unfold strOfNums byt
  rw [List.map_map]
  have : ((fun n : Int => UInt8.ofNat n.toNat) ∘ fun c : UInt8 => (c.toNat : Int)) = id := by
    funext c
    simp
  rw [this]
  simp
theorem byt_str {l : List Int} (h : Bytes l) : byt (strOfNums l) = l := by
  unfold strOfNums byt
  rw [List.toList_toArray, List.map_map]
  have : ∀ x ∈ l, ((fun c : UInt8 => (c.toNat : Int)) ∘ fun n : Int => UInt8.ofNat n.toNat) x = x := by
    intro x hx
    have := h x hx
    simp only [Function.comp]
    rw [UInt8.toNat_ofNat', Nat.mod_eq_of_lt (by omega)]
    omega
  rw [List.map_congr_left this]
  simp
theorem byt_append (a b : ByteArray) : byt (a ++ b) = byt a ++ byt b := by
  unfold byt
  rw [show (a ++ b).data.toList = a.data.toList ++ b.data.toList by simp, List.map_append]
theorem byt_inj {a b : ByteArray} (h : byt a = byt b) : a = b := by rw [← str_byt a, h, str_byt]
theorem byt_extract (s : ByteArray) (a b : Nat) : byt (s.extract a b) = ((byt s).drop a).take (b - a) := by
  unfold byt
  rw [show (s.extract a b).data.toList = (s.data.toList.drop a).take (b - a) by simp [ByteArray.data_extract, Array.toList_extract, List.extract_eq_take_drop], List.map_take, List.map_drop]
theorem byt_cut (s : ByteArray) (a : Nat) : byt (s.extract a s.size) = (byt s).drop a := by
  rw [byt_extract, ← byt_len, List.take_of_length_le (by simp)]
theorem byt_to (s : ByteArray) (b : Nat) : byt (s.extract 0 b) = (byt s).take b := by
  rw [byt_extract]; simp
theorem bt_byt (s : ByteArray) (i : Nat) (h : i < s.size) : bt s (i : Int) = (byt s)[i]'(by rw [byt_len]; exact h) := by
  unfold bt byt
  simp [h]
  rfl
theorem Bytes.append {a b : List Int} (h : Bytes a) (k : Bytes b) : Bytes (a ++ b) := by
  intro x hx
  rcases List.mem_append.1 hx with h1 | h1
  · exact h x h1
  · exact k x h1
theorem Bytes.take {a : List Int} (h : Bytes a) (n : Nat) : Bytes (a.take n) := fun x hx => h x (List.mem_of_mem_take hx)
theorem Bytes.drop {a : List Int} (h : Bytes a) (n : Nat) : Bytes (a.drop n) := fun x hx => h x (List.mem_of_mem_drop hx)
theorem strOfNums_append (a b : List Int) : strOfNums (a ++ b) = strOfNums a ++ strOfNums b := by
  apply ByteArray.ext
  simp [strOfNums]
theorem strOfNums_size (a : List Int) : (strOfNums a).size = a.length := by simp [strOfNums, ByteArray.size]
/-- The place of the first that is so, from i on. -/
def scan {α : Type} (p : α → Bool) : List α → Nat → Int × Bool
  | [], _ => (0, false)
  | x :: r, i => if p x = true then ((i : Int), true) else scan p r (i + 1)
/-- .. as the reference tells it. -/
def scanR {α : Type} (p : α → Bool) : List α → Nat → Int
  | [], _ => -1
  | x :: r, i => if p x = true then (i : Int) else scanR p r (i + 1)
theorem scan_or {α : Type} (p : α → Bool) : ∀ (l : List α) (i : Nat), (scan p l i = (scanR p l i, true) ∧ (i : Int) ≤ scanR p l i ∧ scanR p l i < (i : Int) + l.length) ∨ (scan p l i = (0, false) ∧ scanR p l i = -1)
  | [], i => .inr ⟨rfl, rfl⟩
  | x :: r, i => by
    by_cases h : p x = true
    · refine .inl ?_
      simp only [scan, scanR, if_pos h, List.length_cons]
      exact ⟨trivial, by omega, by omega⟩
    · simp only [scan, scanR, if_neg h, List.length_cons]
      rcases scan_or p r (i + 1) with ⟨h1, h2, h3⟩ | h1
      · exact .inl ⟨h1, by omega, by omega⟩
      · exact .inr h1
theorem scanR_iff {α : Type} (p : α → Bool) : ∀ (l : List α) (i : Nat), scanR p l i = -1 ↔ ∀ x ∈ l, p x = false
  | [], i => by simp [scanR]
  | x :: r, i => by
    by_cases h : p x = true
    · simp only [scanR, if_pos h]
      constructor
      · intro e; omega
      · intro e; have := e x (by simp); rw [h] at this; cases this
    · simp only [scanR, if_neg h, List.mem_cons, forall_eq_or_imp]
      rw [scanR_iff p r (i + 1)]
      simp [h]
theorem i64w (n : Int) (h0 : -9223372036854775808 ≤ n) (h1 : n ≤ 9223372036854775807) : IntKind.i64.wrap n = n := by rw [i64_eq]; exact wrap_id n h0 h1
theorem i64w_succ (n : Nat) (h : n < 9223372036854775807) : IntKind.i64.wrap ((n : Int) + 1) = ((n + 1 : Nat) : Int) := by rw [i64_eq]; exact wrap_succ n h
abbrev nilB : ByteArray := ⟨#[]⟩
theorem nilB_toList : (⟨#[]⟩ : ByteArray).toList = [] := by rw [ByteArray.toList_eq]
theorem ba_nil0 (a : ByteArray) : a.toList = (⟨#[]⟩ : ByteArray).toList ↔ a.size = 0 := by rw [nilB_toList]; exact ba_nil a
/-- Is a record right? -/
def recR (a b c : Int) (s : ByteArray) : Bool := decide (1 ≤ a ∧ a ≤ 8 ∧ 0 ≤ b ∧ 0 ≤ c ∧ (a ≠ 8 ∨ b = 0) ∧ (c = 0 ∨ (2 ≤ a ∧ a ≤ 4)) ∧ (s.size = 0 ∨ (2 ≤ a ∧ a ≤ 5 ∧ s.size ≤ 65535)))
def rowB (n : Int) : Bool := decide (2 ≤ n ∧ n ≤ 4)
def imgB (n : Int) : Bool := decide (2 ≤ n ∧ n ≤ 5)
theorem dec_iff {p q : Prop} [Decidable p] [Decidable q] (h : p ↔ q) : decide p = decide q := by rw [decide_eq_decide]; exact h
theorem ofRow_eq (k : Nat) (n : Int) : walrec_ofRow k n = some (rowB n) := by
  unfold walrec_ofRow rowB
  by_cases h2 : n = 2
  · subst h2; simp
  · by_cases h3 : n = 3
    · subst h3; simp
    · by_cases h4 : n = 4
      · subst h4; simp
      · simp only [if_neg h2, if_neg h3, if_neg h4]
        rw [decide_eq_false (by omega)]
theorem imaged_eq (k : Nat) (n : Int) : walrec_imaged k n = some (imgB n) := by
  unfold walrec_imaged imgB
  rw [ofRow_eq, Option.bind_some]
  unfold rowB
  by_cases h : 2 ≤ n ∧ n ≤ 4
  · rw [decide_eq_true h, if_pos rfl, decide_eq_true (by omega)]
  · rw [decide_eq_false h, if_neg (by simp)]
    congr 1
    exact dec_iff (by omega)
theorem wright_eq (k : Nat) (a b c : Int) (s : ByteArray) : walrec_Right k a b c s = some (recR a b c s) := by
  have img : (if s.toList = (⟨#[]⟩ : ByteArray).toList then some true else (walrec_imaged k a).bind fun t => if t = true then some (decide ((s.size : Int) ≤ 65535)) else some false) = some (decide (s.size = 0 ∨ (2 ≤ a ∧ a ≤ 5 ∧ s.size ≤ 65535))) := by
    rw [imaged_eq, Option.bind_some]
    unfold imgB
    by_cases h0 : s.size = 0
    · rw [if_pos ((ba_nil0 s).2 h0), decide_eq_true (.inl h0)]
    · rw [if_neg (fun e => h0 ((ba_nil0 s).1 e))]
      by_cases h : 2 ≤ a ∧ a ≤ 5
      · rw [decide_eq_true h, if_pos rfl]
        congr 1
        exact dec_iff (by omega)
      · rw [decide_eq_false h, if_neg (by simp), decide_eq_false (by omega)]
  unfold walrec_Right
  simp only [img, ofRow_eq, Option.bind_some]
  unfold recR
  by_cases h1 : a < 1
  · rw [if_pos h1, decide_eq_false (by omega)]
  rw [if_neg h1]
  by_cases h2 : a > 8
  · rw [if_pos h2, decide_eq_false (by omega)]
  rw [if_neg h2]
  by_cases h3 : b < 0
  · rw [if_pos h3, decide_eq_false (by omega)]
  rw [if_neg h3]
  by_cases h4 : c < 0
  · rw [if_pos h4, decide_eq_false (by omega)]
  rw [if_neg h4]
  by_cases h5 : a = 8
  · rw [if_pos h5]
    by_cases h6 : b = 0
    · rw [if_pos h6]
      by_cases h7 : c = 0
      · rw [if_pos h7]
        congr 1
        exact dec_iff (by omega)
      · rw [if_neg h7]
        unfold rowB
        rw [decide_eq_false (by omega), if_neg (by simp), decide_eq_false (by omega)]
    · rw [if_neg h6, decide_eq_false (by omega)]
  · rw [if_neg h5]
    by_cases h7 : c = 0
    · rw [if_pos h7]
      congr 1
      exact dec_iff (by omega)
    · rw [if_neg h7]
      unfold rowB
      by_cases h8 : 2 ≤ a ∧ a ≤ 4
      · rw [decide_eq_true h8, if_pos rfl]
        congr 1
        exact dec_iff (by omega)
      · rw [decide_eq_false h8, if_neg (by simp), decide_eq_false (by omega)]
theorem rrows_eq (k : Nat) (n : Int) : haulageref18_rows k n = some (rowB n) := by
  unfold haulageref18_rows rowB
  by_cases h : n ≥ 2
  · rw [if_pos h]
    congr 1
    exact dec_iff (by omega)
  · rw [if_neg h, decide_eq_false (by omega)]
theorem rright_eq (k : Nat) (a b c : Int) (s : ByteArray) : haulageref18_Right k a b c s = some (recR a b c s) := by
  have img : (if s.toList = (⟨#[]⟩ : ByteArray).toList then some true else (haulageref18_rows k a).bind fun t => if t = true then some true else some (decide (a = 5))) = some (decide (s.size = 0 ∨ (2 ≤ a ∧ a ≤ 5))) := by
    rw [rrows_eq, Option.bind_some]
    unfold rowB
    by_cases h0 : s.size = 0
    · rw [if_pos ((ba_nil0 s).2 h0), decide_eq_true (.inl h0)]
    · rw [if_neg (fun e => h0 ((ba_nil0 s).1 e))]
      by_cases h : 2 ≤ a ∧ a ≤ 4
      · rw [decide_eq_true h, if_pos rfl, decide_eq_true (by omega)]
      · rw [decide_eq_false h, if_neg (by simp)]
        congr 1
        exact dec_iff (by omega)
  unfold haulageref18_Right
  simp only [img]
  simp only [rrows_eq, Option.bind_some]
  unfold recR
  by_cases h1 : a < 1
  · rw [if_pos h1, decide_eq_false (by omega)]
  rw [if_neg h1]
  by_cases h2 : a > 8
  · rw [if_pos h2, decide_eq_false (by omega)]
  rw [if_neg h2]
  by_cases h3 : b < 0
  · rw [if_pos h3, decide_eq_false (by omega)]
  rw [if_neg h3]
  by_cases h4 : c < 0
  · rw [if_pos h4, decide_eq_false (by omega)]
  rw [if_neg h4]
  by_cases h9 : (s.size : Int) > 65535
  · rw [if_pos h9, decide_eq_false (by omega)]
  rw [if_neg h9]
  by_cases h5 : a = 8
  · rw [if_pos h5]
    by_cases h6 : b = 0
    · rw [if_pos h6]
      by_cases h7 : c = 0
      · rw [if_pos h7]
        congr 1
        exact dec_iff (by omega)
      · rw [if_neg h7]
        unfold rowB
        rw [decide_eq_false (by omega), if_neg (by simp), decide_eq_false (by omega)]
    · rw [if_neg h6, decide_eq_false (by omega)]
  · rw [if_neg h5]
    by_cases h7 : c = 0
    · rw [if_pos h7]
      congr 1
      exact dec_iff (by omega)
    · rw [if_neg h7]
      unfold rowB
      by_cases h8 : 2 ≤ a ∧ a ≤ 4
      · rw [decide_eq_true h8, if_pos rfl]
        congr 1
        exact dec_iff (by omega)
      · rw [decide_eq_false h8, if_neg (by simp), decide_eq_false (by omega)]

/-- May a byte be in a name, at a place? -/
def partB (c i : Int) : Bool := if 97 ≤ c ∧ c ≤ 122 then true else if (48 ≤ c ∧ c ≤ 57) ∨ c = 95 then decide (0 < i) else false
theorem part_eq (k : Nat) (c i : Int) : name_part k c i = some (partB c i) := by
  unfold partB
  simp only [name_part, ge_iff_le, gt_iff_lt]
  by_cases h1 : 97 ≤ c <;> by_cases h2 : c ≤ 122 <;> by_cases h3 : 48 ≤ c <;> by_cases h4 : c ≤ 57 <;> by_cases h5 : c = 95 <;> simp [h1, h2, h3, h4, h5] <;> omega
theorem part_ev (c i : Int) : Ev (fun k => name_part k c i) (partB c i) := Ev.pure fun k => part_eq k c i
/-- How many bytes go on as names do: from i on, with so many left. -/
def rdn (s : ByteArray) : Nat → Nat → Int
  | 0, i => (i : Int)
  | n + 1, i => if partB (bt s (i : Int)) (i : Int) = true then rdn s n (i + 1) else (i : Int)
theorem nread_ev (s : ByteArray) (hs : s.size ≤ 9223372036854775807) : Ev (fun k => name_Read k s) (rdn s s.size 0) := by
  have h := down (P := fun i => Ev (fun k => name_Read.l0 k s (s.size : Int) (i : Int)) (rdn s (s.size - i) i)) (n := s.size)
    (by rw [Nat.sub_self]; exact Ev.step (f := fun _ => some (s.size : Int)) (fun k => by simp only [name_Read.l0]; rw [if_neg (by omega)]) (Ev.now _))
    (fun i hi ih => by
      rw [show s.size - i = (s.size - (i + 1)) + 1 by omega]
      refine Ev.step (f := fun k => (name_part k (bt s (i : Int)) (i : Int)).bind fun t => if t = true then name_Read.l0 k s (s.size : Int) ((i + 1 : Nat) : Int) else some (i : Int)) (fun k => ?_) ?_
      · simp only [name_Read.l0]
        rw [if_pos (by omega), if_pos (by omega), if_pos (by omega), i64w_succ _ (by omega)]
      · refine Ev.bind (part_ev _ _) ?_
        simp only [rdn]
        split
        · exact ih
        · exact Ev.now _) 0 (Nat.zero_le _)
  exact h
/-- Is a text a name? -/
def nameB (s : ByteArray) : Bool := decide (0 < s.size) && (decide (s.size ≤ 16) && (rdn s s.size 0 == (s.size : Int)))
theorem name_ev (s : ByteArray) (hs : s.size ≤ 9223372036854775807) : Ev (fun k => name_Right k s) (nameB s) := by
  unfold name_Right nameB
  by_cases h0 : s.size = 0
  · refine Ev.congr (f := fun _ => some false) (fun k => by rw [if_pos ((ba_nil0 s).2 h0)]) ?_
    rw [decide_eq_false (by omega), Bool.false_and]
    exact Ev.now _
  · rw [decide_eq_true (by omega), Bool.true_and]
    by_cases h1 : s.size ≤ 16
    · rw [decide_eq_true h1, Bool.true_and]
      refine Ev.congr (fun k => by rw [if_neg (fun e => h0 ((ba_nil0 s).1 e)), if_pos (by omega)]) ?_
      exact Ev.bind (nread_ev s hs) (Ev.now _)
    · rw [decide_eq_false h1, Bool.false_and]
      exact Ev.congr (f := fun _ => some false) (fun k => by rw [if_neg (fun e => h0 ((ba_nil0 s).1 e)), if_neg (by omega)]) (Ev.now _)

/-- A number's lowest bits, signed. -/
def lowS (n : Int) (b : Nat) : Int := (n + 2 ^ (b - 1)) % 2 ^ b - 2 ^ (b - 1)

theorem p2_pos (b : Nat) : (0 : Int) < 2 ^ b := Int.pow_pos (by decide)
theorem p2_half (b : Nat) (h : 1 ≤ b) : (2 : Int) ^ b = 2 * 2 ^ (b - 1) := by
  obtain ⟨m, rfl⟩ : ∃ m, b = m + 1 := ⟨b - 1, by omega⟩
  simp only [Nat.add_sub_cancel, Int.pow_succ]
  omega
theorem lowS_range (n : Int) (b : Nat) (h : 1 ≤ b) : -2 ^ (b - 1) ≤ lowS n b ∧ lowS n b < 2 ^ (b - 1) := by
  have hp := p2_pos b
  have h1 := Int.emod_nonneg (n + 2 ^ (b - 1)) (Int.ne_of_gt hp)
  have h2 := Int.emod_lt_of_pos (n + 2 ^ (b - 1)) hp
  have h3 := p2_half b h
  unfold lowS
  omega
theorem lowS_of (n r q : Int) (b : Nat) (h : 1 ≤ b) (e : n = r + 2 ^ b * q) (h0 : -2 ^ (b - 1) ≤ r) (h1 : r < 2 ^ (b - 1)) : lowS n b = r := by
  have h3 := p2_half b h
  unfold lowS
  rw [e, show r + 2 ^ b * q + 2 ^ (b - 1) = (r + 2 ^ (b - 1)) + 2 ^ b * q by omega, Int.add_mul_emod_self_left, Int.emod_eq_of_lt (by omega) (by omega)]
  omega
theorem lowS_id (n : Int) (b : Nat) (h : 1 ≤ b) (h0 : -2 ^ (b - 1) ≤ n) (h1 : n < 2 ^ (b - 1)) : lowS n b = n := lowS_of n n 0 b h (by omega) h0 h1
theorem lowS_iff (n : Int) (b : Nat) (h : 1 ≤ b) : lowS n b = n ↔ -2 ^ (b - 1) ≤ n ∧ n < 2 ^ (b - 1) :=
  ⟨fun e => by have := lowS_range n b h; rw [e] at this; exact this, fun h2 => lowS_id n b h h2.1 h2.2⟩

theorem word_Low_eq (k : Nat) (n : Int) (b : Nat) (h1 : 1 ≤ b) (h2 : b ≤ 64) : word_Low k n (b : Int) = some (lowS n b) := by
  unfold word_Low
  have hw : wrap64 (64 - (b : Int)) = ((64 - b : Nat) : Int) := by unfold wrap64; omega
  rw [if_neg (by omega), if_neg (by omega), i64_eq (64 - (b : Int)), hw, if_neg (by omega), if_neg (by omega)]
  congr 1
  have hm : min (((64 - b : Nat) : Int)).toNat (IntKind.bits .i64) = 64 - b := by simp [IntKind.bits]
  unfold shr shl
  rw [hm, i64_eq]
  unfold wrap64 lowS
  have hu := p2_pos (64 - b)
  have e63 : (9223372036854775808 : Int) = 2 ^ (b - 1) * 2 ^ (64 - b) := by
    rw [← Int.pow_add, show b - 1 + (64 - b) = 63 by omega]; decide
  have e64 : (18446744073709551616 : Int) = 2 ^ b * 2 ^ (64 - b) := by
    rw [← Int.pow_add, show b + (64 - b) = 64 by omega]; decide
  rw [e63, e64, ← Int.add_mul, Int.mul_comm _ (2 ^ (64 - b)), Int.mul_comm (2 ^ b) (2 ^ (64 - b)), Int.mul_emod_mul_of_pos _ _ hu, Int.mul_comm (2 ^ (b - 1)) (2 ^ (64 - b)), ← Int.mul_sub]
  exact Int.mul_ediv_cancel_left _ (Int.ne_of_gt hu)

theorem word_Fits_eq (k : Nat) (n : Int) (b : Nat) (h1 : 1 ≤ b) (h2 : b ≤ 64) : word_Fits k n (b : Int) = some (lowS n b == n) := by
  unfold word_Fits
  rw [if_neg (by omega), if_neg (by omega), word_Low_eq k n b h1 h2]
  simp [beq_dec]

/-- Is a number a sign? -/
def isB (n : Int) : Bool := decide (0 ≤ n ∧ n ≤ 1114111 ∧ (n < 55296 ∨ 57343 < n))
theorem isB_iff (n : Int) : isB n = true ↔ 0 ≤ n ∧ n ≤ 1114111 ∧ (n < 55296 ∨ 57343 < n) := by simp [isB]
/-- A sign of so many bytes, if it is none of fewer. -/
def finU (n lo size : Int) : Int × Int × Bool := if isB n = true ∧ lo ≤ n then (n, size, true) else (0, 0, false)
/-- The sign that bytes begin with, and how many bytes it has. -/
def sgn : List Int → Int × Int × Bool
  | [] => (0, 0, false)
  | c :: r =>
    if c < 128 then (c, 1, true)
    else if c / 32 = 6 then (match r with | b1 :: _ => if b1 / 64 = 2 then finU ((c - 192) * 64 + (b1 - 128)) 128 2 else (0, 0, false) | [] => (0, 0, false))
    else if c / 16 = 14 then (match r with | b1 :: b2 :: _ => if b1 / 64 = 2 then (if b2 / 64 = 2 then finU (((c - 224) * 64 + (b1 - 128)) * 64 + (b2 - 128)) 2048 3 else (0, 0, false)) else (0, 0, false) | _ => (0, 0, false))
    else if c / 8 = 30 then (match r with | b1 :: b2 :: b3 :: _ => if b1 / 64 = 2 then (if b2 / 64 = 2 then (if b3 / 64 = 2 then finU ((((c - 240) * 64 + (b1 - 128)) * 64 + (b2 - 128)) * 64 + (b3 - 128)) 65536 4 else (0, 0, false)) else (0, 0, false)) else (0, 0, false) | _ => (0, 0, false))
    else (0, 0, false)
theorem byt_at {s : ByteArray} {l : List Int} (h : byt s = l) (i : Nat) (x : Int) (hx : l[i]? = some x) : bt s (i : Int) = x := by
  subst h
  obtain ⟨h1, h2⟩ := List.getElem?_eq_some_iff.1 hx
  rw [bt_byt s i (by rw [byt_len] at h1; exact h1)]
  exact h2
theorem uis_eq (k : Nat) (n : Int) : utf_is k n = some (isB n) := by
  unfold utf_is isB
  simp only [ge_iff_le, gt_iff_lt]
  by_cases h1 : 0 ≤ n <;> by_cases h2 : n ≤ 1114111 <;> by_cases h3 : n < 55296 <;> simp [h1, h2, h3]
/-- How many bytes a sign has. -/
def widU (n : Int) : Int := if 65536 ≤ n then 4 else if 2048 ≤ n then 3 else if 128 ≤ n then 2 else 1
theorem uwidth_ev (n : Int) : Ev (fun k => utf_width k n) (widU n) := by
  refine Ev.flat0 6 (fun m => ?_)
  unfold widU
  simp only [utf_width, utf_width.l0]
  have e3 : IntKind.i64.wrap (4 - 1) = 3 := by decide +kernel
  have e2 : IntKind.i64.wrap (3 - 1) = 2 := by decide +kernel
  have e1 : IntKind.i64.wrap (2 - 1) = 1 := by decide +kernel
  rw [e3, e2, e1]
  have r4 : r_i64 G1 4 = 65536 := by decide
  have r3 : r_i64 G1 3 = 2048 := by decide
  have r2 : r_i64 G1 2 = 128 := by decide
  have gl : (G1.length : Int) = 5 := by decide
  rw [r4, r3, r2, gl]
  by_cases h1 : 65536 ≤ n
  · simp [h1]
  · by_cases h2 : 2048 ≤ n
    · simp [h1, h2]
    · by_cases h3 : 128 ≤ n
      · simp [h1, h2, h3]
      · simp [h1, h2, h3]
theorem u8m (c : Int) (h0 : 0 ≤ c) (h1 : c ≤ 255) : Go.bits .and .u8 c 31 = c % 32 ∧ Go.bits .and .u8 c 15 = c % 16 ∧ Go.bits .and .u8 c 7 = c % 8 ∧ Go.bits .and .u8 c 63 = c % 64 := by
  have m := fun i hi => Go.bits_mask .u8 8 (by decide) Go.wraps_u8 i hi c h0 (by omega)
  exact ⟨m 5 (by decide), m 4 (by decide), m 3 (by decide), m 6 (by decide)⟩
theorem ulead_eq (k : Nat) (c : Int) (h0 : 0 ≤ c) (h1 : c ≤ 255) : utf_lead k c = some (if c < 128 then (1, c) else if c / 32 = 6 then (2, c - 192) else if c / 16 = 14 then (3, c - 224) else if c / 8 = 30 then (4, c - 240) else (0, 0)) := by
  unfold utf_lead
  obtain ⟨m1, m2, m3, _⟩ := u8m c h0 h1
  have s5 : Go.Proofs.YtgefikclhfjcgaaGreatDoorEv.shr .u8 c 5 = c / 32 := by unfold Go.Proofs.YtgefikclhfjcgaaGreatDoorEv.shr; rfl
  have s4 : Go.Proofs.YtgefikclhfjcgaaGreatDoorEv.shr .u8 c 4 = c / 16 := by unfold Go.Proofs.YtgefikclhfjcgaaGreatDoorEv.shr; rfl
  have s3 : Go.Proofs.YtgefikclhfjcgaaGreatDoorEv.shr .u8 c 3 = c / 8 := by unfold Go.Proofs.YtgefikclhfjcgaaGreatDoorEv.shr; rfl
  rw [m1, m2, m3, s5, s4, s3, i64w c (by omega) (by omega), i64w (c % 32) (by omega) (by omega), i64w (c % 16) (by omega) (by omega), i64w (c % 8) (by omega) (by omega)]
  split
  · rfl
  · split
    · rw [show c % 32 = c - 192 by omega]
    · split
      · rw [show c % 16 = c - 224 by omega]
      · split
        · rw [show c % 8 = c - 240 by omega]
        · rfl
theorem wraps_i64p (n : Int) (h0 : 0 ≤ n) (h1 : n < 2 ^ 63) : IntKind.i64.wrap n = n := by rw [Go.IntKind.wrap_i64]; omega
theorem uacc (n b : Int) (hn : 0 ≤ n) (hn1 : n < 10000000) (hb : b / 64 = 2) : Go.bits .or .i64 (Go.Proofs.YtgefikclhfjcgaaGreatDoorEv.shl .i64 n 6) (IntKind.i64.wrap (Go.bits .and .u8 b 63)) = n * 64 + (b - 128) := by
  have e : Go.Proofs.YtgefikclhfjcgaaGreatDoorEv.shl .i64 n 6 = n * 64 := by
    unfold Go.Proofs.YtgefikclhfjcgaaGreatDoorEv.shl
    rw [show (2 : Int) ^ min (6 : Int).toNat (IntKind.bits .i64) = 64 by decide, i64w _ (by omega) (by omega)]
  rw [e, (u8m b (by omega) (by omega)).2.2.2, i64w (b % 64) (by omega) (by omega), show b % 64 = b - 128 by omega]
  exact Go.bits_join .i64 63 (by decide) wraps_i64p 6 (n * 64) (b - 128) (by omega) (by omega) (by omega) (by omega) (by omega) (by omega)
theorem u8s6 (b : Int) : Go.Proofs.YtgefikclhfjcgaaGreatDoorEv.shr .u8 b 6 = b / 64 := by unfold Go.Proofs.YtgefikclhfjcgaaGreatDoorEv.shr; rfl
theorem ul0_end (s : ByteArray) (n size i : Int) (h : ¬ i < size) : Ev (fun k => utf_Read.l0 k s n size i) (if isB n = true then (if widU n = size then (n, size, true) else (0, 0, false)) else (0, 0, false)) := by
  refine Ev.step (f := fun k => if isB n = true then ((utf_width k n).bind fun t => if t = size then some (n, size, true) else some (0, 0, false)) else some (0, 0, false)) (fun k => ?_) ?_
  · simp only [utf_Read.l0]
    rw [if_neg h, uis_eq, Option.bind_some]
  · by_cases h1 : isB n = true
    · rw [if_pos h1]
      refine Ev.congr (fun k => by rw [if_pos h1]) (Ev.bind (uwidth_ev n) ?_)
      split
      · exact Ev.now _
      · exact Ev.now _
    · rw [if_neg h1]
      exact Ev.congr (f := fun _ => some (0, 0, false)) (fun k => by rw [if_neg h1]) (Ev.now _)
theorem ul0_step (s : ByteArray) (n size : Int) (i : Nat) (b : Int) (r : Int × Int × Bool) (h : (i : Int) < size) (hi : i < s.size) (hs : s.size ≤ 9223372036854775807) (hb : bt s (i : Int) = b) (hn : 0 ≤ n) (hn1 : n < 10000000)
    (hk : b / 64 = 2 → Ev (fun k => utf_Read.l0 k s (n * 64 + (b - 128)) size ((i + 1 : Nat) : Int)) r) (hx : ¬ b / 64 = 2 → r = (0, 0, false)) : Ev (fun k => utf_Read.l0 k s n size (i : Int)) r := by
  by_cases h2 : b / 64 = 2
  · refine Ev.step (fun k => ?_) (hk h2)
    simp only [utf_Read.l0]
    rw [if_pos h, if_pos (by omega), if_pos (by omega), hb, u8s6, if_pos h2, if_pos (by omega), if_pos (by omega), uacc n b hn hn1 h2, i64w_succ _ (by omega)]
  · rw [hx h2]
    refine Ev.step (f := fun _ => some (0, 0, false)) (fun k => ?_) (Ev.now _)
    simp only [utf_Read.l0]
    rw [if_pos h, if_pos (by omega), if_pos (by omega), hb, u8s6, if_neg h2]
theorem finU_wid (n lo hi size : Int) (h : n < hi) (hw : ∀ n, 0 ≤ n → n < hi → (widU n = size ↔ lo ≤ n)) : (if isB n = true then (if widU n = size then (n, size, true) else ((0 : Int), (0 : Int), false)) else (0, 0, false)) = finU n lo size := by
  unfold finU
  by_cases h1 : isB n = true
  · rw [if_pos h1]
    have h0 := ((isB_iff n).1 h1).1
    by_cases h2 : lo ≤ n
    · rw [if_pos ((hw n h0 h).2 h2), if_pos ⟨h1, h2⟩]
    · rw [if_neg (fun e => h2 ((hw n h0 h).1 e)), if_neg (fun e => h2 e.2)]
  · rw [if_neg h1, if_neg (fun e => h1 e.1)]
theorem uread_ev (s : ByteArray) (hs : s.size ≤ 9223372036854775807) : Ev (fun k => utf_Read k s) (sgn (byt s)) := by
  have hlen := byt_len s
  have hby := byt_bytes s
  unfold utf_Read
  generalize hl : byt s = l at hlen hby
  cases l with
  | nil =>
    exact Ev.congr (f := fun _ => some (0, 0, false)) (fun k => by rw [if_pos ((ba_nil0 s).2 (by rw [← hlen]; rfl))]) (Ev.now _)
  | cons c r =>
    have hz : s.size = r.length + 1 := by rw [← hlen]; rfl
    have hc := hby c (by simp)
    have e0 : bt s 0 = c := byt_at hl 0 c rfl
    refine Ev.congr (fun k => by rw [if_neg (fun e => by have := (ba_nil0 s).1 e; omega), if_pos (by omega), e0, ulead_eq k c hc.1 hc.2, Option.bind_some]) ?_
    have hbad : ∀ n size : Int, size ≠ 0 → (size : Int) > (s.size : Int) → Ev (fun k => if (size, n).1 = 0 then some ((0 : Int), (0 : Int), false) else if (size, n).1 > (s.size : Int) then some (0, 0, false) else utf_Read.l0 k s (size, n).2 (size, n).1 1) (0, 0, false) := fun n size hz h =>
      Ev.no hz (Ev.yes h (Ev.now _))
    have hgo : ∀ (n size : Int) (r), size ≠ 0 → ¬ (size : Int) > (s.size : Int) → Ev (fun k => utf_Read.l0 k s n size ((1 : Nat) : Int)) r → Ev (fun k => if (size, n).1 = 0 then some ((0 : Int), (0 : Int), false) else if (size, n).1 > (s.size : Int) then some (0, 0, false) else utf_Read.l0 k s (size, n).2 (size, n).1 1) r := fun n size r hz h hk =>
      Ev.no hz (Ev.no h hk)
    simp only [sgn]
    by_cases h1 : c < 128
    · simp only [if_pos h1]
      refine (hgo _ _ _ (by decide) (by omega) ?_)
      refine Ev.eq (ul0_end s c 1 ((1 : Nat) : Int) (by omega)) ?_
      rw [if_pos ((isB_iff c).2 (by omega)), if_pos (by unfold widU; rw [if_neg (by omega), if_neg (by omega), if_neg (by omega)])]
    · simp only [if_neg h1]
      by_cases h2 : c / 32 = 6
      · simp only [if_pos h2]
        cases r with
        | nil => exact hbad _ _ (by decide) (by simp at hz; omega)
        | cons b1 r =>
          simp only [List.length_cons] at hz
          dsimp only
          have q1 := hby b1 (by simp)
          refine hgo _ _ _ (by decide) (by omega) (ul0_step s _ _ 1 b1 _ (by omega) (by omega) hs (byt_at hl 1 b1 rfl) (by omega) (by omega) (fun e1 => ?_) (fun e1 => if_neg e1))
          rw [if_pos e1]
          exact Ev.eq (ul0_end s _ 2 ((2 : Nat) : Int) (by omega)) (finU_wid _ 128 2048 2 (by omega) (fun n _ _ => by unfold widU; split <;> (try split) <;> (try split) <;> omega))
      · simp only [if_neg h2]
        by_cases h3 : c / 16 = 14
        · simp only [if_pos h3]
          cases r with
          | nil => exact hbad _ _ (by decide) (by simp at hz; omega)
          | cons b1 r =>
            cases r with
            | nil => exact hbad _ _ (by decide) (by simp at hz; omega)
            | cons b2 r =>
              simp only [List.length_cons] at hz
              dsimp only
              have q1 := hby b1 (by simp)
              have q2 := hby b2 (by simp)
              refine hgo _ _ _ (by decide) (by omega) (ul0_step s _ _ 1 b1 _ (by omega) (by omega) hs (byt_at hl 1 b1 rfl) (by omega) (by omega) (fun e1 => ?_) (fun e1 => if_neg e1))
              rw [if_pos e1]
              refine ul0_step s _ _ 2 b2 _ (by omega) (by omega) hs (byt_at hl 2 b2 rfl) (by omega) (by omega) (fun e2 => ?_) (fun e2 => if_neg e2)
              rw [if_pos e2]
              exact Ev.eq (ul0_end s _ 3 ((3 : Nat) : Int) (by omega)) (finU_wid _ 2048 65536 3 (by omega) (fun n _ _ => by unfold widU; split <;> (try split) <;> (try split) <;> omega))
        · simp only [if_neg h3]
          by_cases h4 : c / 8 = 30
          · simp only [if_pos h4]
            cases r with
            | nil => exact hbad _ _ (by decide) (by simp at hz; omega)
            | cons b1 r =>
              cases r with
              | nil => exact hbad _ _ (by decide) (by simp at hz; omega)
              | cons b2 r =>
                cases r with
                | nil => exact hbad _ _ (by decide) (by simp at hz; omega)
                | cons b3 r =>
                  simp only [List.length_cons] at hz
                  dsimp only
                  have q1 := hby b1 (by simp)
                  have q2 := hby b2 (by simp)
                  have q3 := hby b3 (by simp)
                  refine hgo _ _ _ (by decide) (by omega) (ul0_step s _ _ 1 b1 _ (by omega) (by omega) hs (byt_at hl 1 b1 rfl) (by omega) (by omega) (fun e1 => ?_) (fun e1 => if_neg e1))
                  rw [if_pos e1]
                  refine ul0_step s _ _ 2 b2 _ (by omega) (by omega) hs (byt_at hl 2 b2 rfl) (by omega) (by omega) (fun e2 => ?_) (fun e2 => if_neg e2)
                  rw [if_pos e2]
                  refine ul0_step s _ _ 3 b3 _ (by omega) (by omega) hs (byt_at hl 3 b3 rfl) (by omega) (by omega) (fun e3 => ?_) (fun e3 => if_neg e3)
                  rw [if_pos e3]
                  exact Ev.eq (ul0_end s _ 4 ((4 : Nat) : Int) (by omega)) (finU_wid _ 65536 100000000 4 (by omega) (fun n _ _ => by unfold widU; split <;> (try split) <;> (try split) <;> omega))
          · simp only [if_neg h4]
            exact Ev.yes trivial (Ev.now _)
theorem sgn_ok (l : List Int) : (sgn l).2.2 = true → 1 ≤ (sgn l).2.1 ∧ (sgn l).2.1 ≤ (l.length : Int) := by
  have hf : ∀ n lo size len : Int, 1 ≤ size → size ≤ len → (finU n lo size).2.2 = true → 1 ≤ (finU n lo size).2.1 ∧ (finU n lo size).2.1 ≤ len := fun n lo size len h1 h2 h => by
    unfold finU at h ⊢
    by_cases e : isB n = true ∧ lo ≤ n
    · rw [if_pos e]
      exact ⟨h1, h2⟩
    · rw [if_neg e] at h
      cases h
  have hb : ∀ len : Int, ((0 : Int), (0 : Int), false).2.2 = true → 1 ≤ ((0 : Int), (0 : Int), false).2.1 ∧ ((0 : Int), (0 : Int), false).2.1 ≤ len := fun _ h => by cases h
  cases l with
  | nil => exact hb _
  | cons c r =>
    simp only [sgn]
    by_cases h1 : c < 128
    · simp only [if_pos h1, List.length_cons]
      intro _
      omega
    · simp only [if_neg h1]
      by_cases h2 : c / 32 = 6
      · simp only [if_pos h2]
        cases r with
        | nil => exact hb _
        | cons b1 r =>
          dsimp only
          by_cases e1 : b1 / 64 = 2
          · rw [if_pos e1]
            exact hf _ _ _ _ (by omega) (by simp only [List.length_cons]; omega)
          · rw [if_neg e1]
            exact hb _
      · simp only [if_neg h2]
        by_cases h3 : c / 16 = 14
        · simp only [if_pos h3]
          cases r with
          | nil => exact hb _
          | cons b1 r =>
            cases r with
            | nil => exact hb _
            | cons b2 r =>
              dsimp only
              by_cases e1 : b1 / 64 = 2
              · rw [if_pos e1]
                by_cases e2 : b2 / 64 = 2
                · rw [if_pos e2]
                  exact hf _ _ _ _ (by omega) (by simp only [List.length_cons]; omega)
                · rw [if_neg e2]
                  exact hb _
              · rw [if_neg e1]
                exact hb _
        · simp only [if_neg h3]
          by_cases h4 : c / 8 = 30
          · simp only [if_pos h4]
            cases r with
            | nil => exact hb _
            | cons b1 r =>
              cases r with
              | nil => exact hb _
              | cons b2 r =>
                cases r with
                | nil => exact hb _
                | cons b3 r =>
                  dsimp only
                  by_cases e1 : b1 / 64 = 2
                  · rw [if_pos e1]
                    by_cases e2 : b2 / 64 = 2
                    · rw [if_pos e2]
                      by_cases e3 : b3 / 64 = 2
                      · rw [if_pos e3]
                        exact hf _ _ _ _ (by omega) (by simp only [List.length_cons]; omega)
                      · rw [if_neg e3]
                        exact hb _
                    · rw [if_neg e2]
                      exact hb _
                  · rw [if_neg e1]
                    exact hb _
          · simp only [if_neg h4]
            exact hb _
/-- Is a text right? (with so many rounds) -/
def utfD : Nat → List Int → Bool
  | 0, l => l.isEmpty
  | d + 1, l => if l = [] then true else if (sgn l).2.2 = true then utfD d (l.drop (sgn l).2.1.toNat) else false
def utfB (s : ByteArray) : Bool := utfD s.size (byt s)
/-- How many signs, from so many on. -/
def utfN : Nat → List Int → Int → Bool × Int
  | 0, l, n => (l.isEmpty, n)
  | d + 1, l, n => if l = [] then (true, n) else if (sgn l).2.2 = true then utfN d (l.drop (sgn l).2.1.toNat) (n + 1) else (false, n)
theorem utfN_fst (d : Nat) : ∀ l n, (utfN d l n).1 = utfD d l := by
  induction d with
  | zero => intro l n; rfl
  | succ d ih =>
    intro l n
    simp only [utfN, utfD]
    split
    · rfl
    · split
      · exact ih _ _
      · rfl
theorem utfN_snd (d : Nat) : ∀ l (n : Int), n ≤ (utfN d l n).2 := by
  induction d with
  | zero => intro l n; exact Int.le_refl _
  | succ d ih =>
    intro l n
    simp only [utfN]
    split
    · exact Int.le_refl _
    · split
      · have := ih (l.drop (sgn l).2.1.toNat) (n + 1)
        omega
      · exact Int.le_refl _
theorem uwalk_l0 (s : ByteArray) (hs : s.size ≤ 1000000000) (d : Nat) : ∀ (i : Nat) (n : Int), s.size - i ≤ d → i ≤ s.size → 0 ≤ n → n + (s.size - i : Nat) ≤ 2000000000 →
    Ev (fun k => utf_walk.l0 k s (i : Int) n) (utfN d ((byt s).drop i) n) := by
  induction d with
  | zero =>
    intro i n hd hi h0 hn
    refine Ev.step (f := fun _ => some (true, n)) (fun k => by simp only [utf_walk.l0]; rw [if_neg (by omega)]) ?_
    have e : (byt s).drop i = [] := List.drop_eq_nil_of_le (by rw [byt_len]; omega)
    rw [e]
    exact Ev.now _
  | succ d ih =>
    intro i n hd hi h0 hn
    by_cases h : i < s.size
    · have hne : ¬ (byt s).drop i = [] := fun e => by
        have := List.drop_eq_nil_iff.1 e
        rw [byt_len] at this
        omega
      have hcut := byt_cut s i
      have hlen : ((byt s).drop i).length = s.size - i := by rw [List.length_drop, byt_len]
      have hok := sgn_ok ((byt s).drop i)
      refine Ev.step (f := fun k => (utf_Read k (s.extract i s.size)).bind fun bt => if bt.2.2 = true then ((utf_Count_1 k (i : Int) bt.1 n).bind fun t => utf_walk.l0 k s (IntKind.i64.wrap ((i : Int) + bt.2.1)) t.2) else some (false, n)) (fun k => ?_) ?_
      · simp only [utf_walk.l0]
        rw [if_pos (by omega), if_pos (by omega), if_pos (by omega), show ((i : Int)).toNat = i by omega, show ((s.size : Int)).toNat = s.size by omega]
      · refine Ev.bind (uread_ev _ (by rw [ByteArray.size_extract]; omega)) ?_
        rw [hcut]
        simp only [utfN]
        rw [if_neg hne]
        by_cases h1 : (sgn ((byt s).drop i)).2.2 = true
        · rw [if_pos h1]
          obtain ⟨h2, h3⟩ := hok h1
          have := ih (i + (sgn ((byt s).drop i)).2.1.toNat) (n + 1) (by omega) (by omega) (by omega) (by omega)
          rw [← List.drop_drop] at this
          refine Ev.congr (fun k => ?_) this
          rw [if_pos h1]
          simp only [utf_Count_1, Option.bind_some]
          rw [i64w (n + 1) (by omega) (by omega), i64w _ (by omega) (by omega), show (i : Int) + (sgn ((byt s).drop i)).2.1 = ((i + (sgn ((byt s).drop i)).2.1.toNat : Nat) : Int) by omega]
        · rw [if_neg h1]
          exact Ev.congr (f := fun _ => some (false, n)) (fun k => by rw [if_neg h1]) (Ev.now _)
    · have e : (byt s).drop i = [] := List.drop_eq_nil_of_le (by rw [byt_len]; omega)
      rw [e]
      simp only [utfN]
      rw [if_pos (by trivial)]
      exact Ev.step (f := fun _ => some (true, n)) (fun k => by simp only [utf_walk.l0]; rw [if_neg (by omega)]) (Ev.now _)
theorem uright_ev (s : ByteArray) (hs : s.size ≤ 1000000000) : Ev (fun k => utf_Right k s) (utfB s) := by
  have h := uwalk_l0 s hs s.size 0 0 (by omega) (by omega) (by omega) (by omega)
  rw [List.drop_zero] at h
  have h1 := utfN_fst s.size (byt s) 0
  have h2 := utfN_snd s.size (byt s) 0
  unfold utf_Right utf_Count utf_walk
  refine Ev.bind (a := if (utfN s.size (byt s) 0).1 = true then (utfN s.size (byt s) 0).2 else -1) (Ev.bind h ?_) ?_
  · by_cases e : (utfN s.size (byt s) 0).1 = true
    · exact Ev.congr (f := fun _ => some _) (fun k => by rw [if_pos e, if_pos e]) (Ev.now _)
    · exact Ev.congr (f := fun _ => some _) (fun k => by rw [if_neg e, if_neg e]) (Ev.now _)
  · refine Ev.congr (f := fun _ => some (utfB s)) (fun k => ?_) (Ev.now _)
    congr 1
    unfold utfB
    rw [← h1]
    by_cases e : (utfN s.size (byt s) 0).1 = true
    · rw [if_pos e, e]
      simpa using h2
    · rw [if_neg e]
      simp at e
      rw [e]
      decide

def fits32 (n : Int) : Bool := decide (-2147483648 ≤ n ∧ n < 2147483648)
theorem lowS32 (n : Int) : (lowS n 32 == n) = fits32 n := by
  have h := lowS_iff n 32 (by decide)
  have e : (2 : Int) ^ (32 - 1) = 2147483648 := by decide
  rw [e] at h
  unfold fits32
  rw [Bool.eq_iff_iff, beq_iff_eq, h, decide_eq_true_iff]
theorem wfits32 (k : Nat) (n : Int) : word_Fits k n 32 = some (fits32 n) := by
  have := word_Fits_eq k n 32 (by decide) (by decide)
  rw [lowS32] at this
  exact this
/-- Is a value right? -/
def valB (kind n : Int) (s : ByteArray) : Bool :=
  if kind = 0 then decide (n = 0) && decide (s.size = 0)
  else if kind = 1 then fits32 n && decide (s.size = 0)
  else if kind = 2 then decide (s.size = 0)
  else if kind = 3 then decide (n = 0) && (decide (s.size ≤ 120) && utfB s)
  else if kind = 4 then decide (n = 0) && decide (s.size ≤ 120)
  else false
theorem utfB_nil (s : ByteArray) (h : s.size = 0) : utfB s = true := by
  have : byt s = [] := List.length_eq_zero_iff.1 (by rw [byt_len]; exact h)
  unfold utfB
  rw [h, this]
  rfl
theorem val_ev (kind n : Int) (s : ByteArray) (hs : s.size ≤ 1000000000) : Ev (fun k => value_Right k kind n s) (valB kind n s) := by
  refine Ev.flat1 0 (uright_ev s hs) (fun m h => ?_)
  have h0 := h 0
  simp only [Nat.add_zero] at h0 ⊢
  unfold valB
  have e120 : ((s.size : Int) > 120) = ¬ s.size ≤ 120 := propext ⟨fun h => by omega, fun h => by omega⟩
  simp only [value_Right, ba_nil0, wfits32, Option.bind_some, h0, e120]
  have f0 : fits32 0 = true := by decide
  have u0 := utfB_nil s
  by_cases k0 : kind = 0
  · subst k0
    by_cases h1 : n = 0 <;> by_cases h2 : s.size = 0 <;> simp [h1, h2]
  by_cases k1 : kind = 1
  · subst k1
    by_cases h1 : n = 0 <;> by_cases h2 : s.size = 0 <;> by_cases h3 : fits32 n = true <;> simp_all
  by_cases k2 : kind = 2
  · subst k2
    by_cases h1 : n = 0 <;> by_cases h2 : s.size = 0 <;> simp [h1, h2]
  by_cases k3 : kind = 3
  · subst k3
    by_cases h1 : n = 0 <;> by_cases h2 : s.size = 0 <;> by_cases h3 : utfB s = true <;> by_cases h4 : s.size ≤ 120 <;> simp_all
  by_cases k4 : kind = 4
  · subst k4
    by_cases h1 : n = 0 <;> by_cases h2 : s.size = 0 <;> by_cases h4 : s.size ≤ 120 <;> simp_all
  simp [k0, k1, k2, k3, k4]
/-- Is a type right? -/
def typB (kind mx : Int) : Bool := if kind = 1 ∨ kind = 2 then decide (mx = 0) else if kind = 3 ∨ kind = 4 then decide (1 ≤ mx ∧ mx ≤ 120) else false
theorem typ_eq (k : Nat) (kind mx : Int) : typ_Right k kind mx = some (typB kind mx) := by
  unfold typB
  simp only [typ_Right, ge_iff_le]
  by_cases h1 : kind = 1
  · simp [h1, beq_dec]
  · by_cases h2 : kind = 2
    · simp [h2, beq_dec]
    · by_cases h3 : kind = 3
      · subst h3
        by_cases h5 : 1 ≤ mx <;> simp [h5]
      · by_cases h4 : kind = 4
        · subst h4
          by_cases h5 : 1 ≤ mx <;> simp [h5]
        · simp [h1, h2, h3, h4]
/-- Does a value fit a type? -/
def fitB (tk tm vk vn : Int) (vs : ByteArray) : Bool := typB tk tm && (decide (vk = tk) && (valB vk vn vs && (decide (tk < 3) || decide ((vs.size : Int) ≤ tm))))
theorem fit_ev (tk tm vk vn : Int) (vs : ByteArray) (hs : vs.size ≤ 1000000000) : Ev (fun k => typ_Fits k tk tm vk vn vs) (fitB tk tm vk vn vs) := by
  refine Ev.flat1 0 (val_ev vk vn vs hs) (fun m h => ?_)
  have h0 := h 0
  simp only [Nat.add_zero] at h0 ⊢
  unfold fitB
  simp only [typ_Fits, typ_eq, Option.bind_some, h0, typ_long]
  by_cases h1 : typB tk tm = true
  · have ht : tk = 1 ∨ tk = 2 ∨ tk = 3 ∨ tk = 4 := by
      unfold typB at h1
      split at h1
      · omega
      · split at h1
        · omega
        · cases h1
    by_cases h2 : vk = tk
    · by_cases h3 : valB vk vn vs = true
      · rcases ht with rfl | rfl | rfl | rfl <;> simp_all
      · simp [h1, h2, h3]
        subst h2
        simp [h3]
    · simp [h1, h2]
  · simp [h1]

def zeroV (v : S_Value) : Bool := v.f0 == 0 && (v.f1 == 0 && (v.f2.toList == ([] : List UInt8)))
/-- What is known of a column that is tried. -/
def OkCol (c : S_Column) : Prop := c.f1.size ≤ 1000000000 ∧ c.f4.f2.size ≤ 1000000000 ∧ (Lit.int .i64 c.f4.f1).wf = true
/-- Is a column right? -/
def colB (c : S_Column) : Bool := decide (0 ≤ c.f0 ∧ c.f0 < 200) && (nameB c.f1 && (typB c.f2.f0 c.f2.f1 && (zeroV c.f4 || fitB c.f2.f0 c.f2.f1 c.f4.f0 c.f4.f1 c.f4.f2)))
theorem zeroV_text (v : S_Value) : ((v.f0 == 0) && ((v.f1 == 0) && (v.f2.toList == (⟨#[]⟩ : ByteArray).toList))) = zeroV v := by unfold zeroV; rw [nilB_toList]
theorem column_ev (c : S_Column) (h : OkCol c) : Ev (fun k => schema_RightColumn k c.f0 c.f1 c.f2.f0 c.f2.f1 c.f3 c.f4.f0 c.f4.f1 c.f4.f2) (colB c) := by
  refine Ev.flat2 0 (name_ev c.f1 (by have := h.1; omega)) (fit_ev c.f2.f0 c.f2.f1 c.f4.f0 c.f4.f1 c.f4.f2 h.2.1) (fun m h1 h2 => ?_)
  have h1 := h1 0
  have h2 := h2 0
  simp only [Nat.add_zero] at h1 h2 ⊢
  unfold colB
  simp only [schema_RightColumn, typ_eq, h1, h2, Option.bind_some, zeroV_text]
  by_cases q0 : c.f0 < 0
  · simp [q0]; omega
  by_cases q1 : c.f0 ≥ 200
  · simp [q0, q1]; omega
  have q2 : 0 ≤ c.f0 ∧ c.f0 < 200 := by omega
  cases nameB c.f1 <;> cases typB c.f2.f0 c.f2.f1 <;> cases zeroV c.f4 <;> simp [q0, q1, q2]
def hpHas (l : List ByteArray) (s : ByteArray) : Bool := l.any (fun t => decide (t = s))
/-- The columns, one behind the other: the last number, whether the key column may stand, the names. -/
def tabGo (next key : Int) : List S_Column → Int → Bool → List ByteArray → Bool
  | [], _, kf, _ => kf
  | c :: r, last, kf, ns => if colB c = true ∧ last < c.f0 ∧ c.f0 < next ∧ hpHas ns c.f1 = false then tabGo next key r c.f0 (if c.f0 = key then !c.f3 else kf) (ns ++ [c.f1]) else false
/-- Is a table right? -/
def tabB (id : Int) (name : ByteArray) (key next : Int) (l : List S_Column) : Bool := decide (0 ≤ id ∧ next ≤ 200 ∧ 1 ≤ l.length ∧ l.length ≤ 10) && (nameB name && tabGo next key l (-1) false [])
/-- A set of names, as a map. -/
def hpMap (ns : List ByteArray) : List (ByteArray × Bool) := ns.map fun n => (n, true)
theorem hp_get (s : ByteArray) : ∀ ns : List ByteArray, (mget (fun (q : ByteArray) => (s.toList == q.toList)) (hpMap ns)).getD false = hpHas ns s
  | [] => rfl
  | n :: ns => by
    have ih := hp_get s ns
    unfold hpMap hpHas at ih ⊢
    simp only [List.map_cons, mget, List.any_cons, ba_beq]
    by_cases h : s = n
    · subst h; simp
    · have h' : ¬ n = s := fun e => h e.symm
      simp only [h, h', decide_false, Bool.false_or]
      simpa [ba_beq] using ih
theorem hp_put (s : ByteArray) : ∀ ns : List ByteArray, hpHas ns s = false → mput (fun (q : ByteArray) => (s.toList == q.toList)) s true (hpMap ns) = hpMap (ns ++ [s])
  | [], _ => rfl
  | n :: ns, h => by
    unfold hpHas at h
    simp only [List.any_cons, Bool.or_eq_false_iff, decide_eq_false_iff_not] at h
    have ih := hp_put s ns h.2
    unfold hpMap at ih ⊢
    have h' : ¬ s = n := fun e => h.1 e.symm
    simp only [List.map_cons, List.cons_append, mput, ba_beq, h', decide_false]
    rw [if_neg (by simp)]
    simp only [ba_beq] at ih
    rw [ih]
theorem table_ev (id : Int) (name : ByteArray) (key next : Int) (l : List S_Column) (hn : name.size ≤ 1000000000) (hok : ∀ c ∈ l, OkCol c) : Ev (fun k => schema_RightTable k id name key next l) (tabB id name key next l) := by
  have hl0 : l.length ≤ 10 → Ev (fun k => schema_RightTable.l0 k (-1) false l (l.length : Int) 0 id name key next l ([] : List (ByteArray × Bool))) (tabGo next key l (-1) false []) := fun hlen => by
    have h := down (P := fun i => ∀ (last : Int) (kf : Bool) (ns : List ByteArray), Ev (fun k => schema_RightTable.l0 k last kf l (l.length : Int) (i : Int) id name key next l (hpMap ns)) (tabGo next key (l.drop i) last kf ns)) (n := l.length)
      (fun last kf ns => by
        rw [List.drop_length]
        exact Ev.step (f := fun _ => some kf) (fun k => by simp only [schema_RightTable.l0]; rw [if_neg (by omega)]) (Ev.now _))
      (fun i hi ih last kf ns => by
        rw [List.drop_eq_getElem_cons hi]
        have hc := hok _ (List.getElem_mem hi)
        generalize hci : l[i] = c at hc
        have hrd : r_Column l (i : Int) = c := by rw [← hci]; simp [r_Column, rd, List.getD, hi]
        refine Ev.step (fun k => by
          simp only [schema_RightTable.l0]
          rw [if_pos (by omega), if_pos (by omega), if_pos (by omega), hrd, hp_get, i64w_succ _ (by omega)]) (Ev.bind (column_ev c hc) ?_)
        simp only [tabGo]
        by_cases h1 : colB c = true
        · refine Ev.yes h1 (Ev.ite (fun h2 => ?_) (fun h2 => Ev.ite (fun h3 => ?_) (fun h3 => Ev.ite (fun h4 => ?_) (fun h4 => ?_))))
          · rw [if_neg (by omega)]; exact Ev.now _
          · rw [if_neg (by omega)]; exact Ev.now _
          · rw [if_neg (fun e => by rw [h4] at e; exact absurd e.2.2.2 (by simp))]; exact Ev.now _
          · have h4' : hpHas ns c.f1 = false := by simpa using h4
            rw [if_pos ⟨h1, by omega, by omega, h4'⟩, hp_put c.f1 ns h4']
            refine Ev.ite (fun h5 => ?_) (fun h5 => ?_)
            · rw [if_pos h5]; exact ih _ _ _
            · rw [if_neg h5]; exact ih _ _ _
        · rw [if_neg (fun e => h1 e.1)]
          exact Ev.no h1 (Ev.now _)) 0 (Nat.zero_le _)
    exact h (-1) false []
  unfold schema_RightTable tabB
  refine Ev.ite (fun h0 => ?_) (fun h0 => Ev.ite (fun h1 => ?_) (fun h1 => Ev.ite (fun h2 => ?_) (fun h2 => Ev.ite (fun h3 => ?_) (fun h3 => ?_))))
  · rw [decide_eq_false (by omega), Bool.false_and]; exact Ev.now _
  · rw [decide_eq_false (by omega), Bool.false_and]; exact Ev.now _
  · rw [decide_eq_false (by omega), Bool.false_and]; exact Ev.now _
  · rw [decide_eq_false (by omega), Bool.false_and]; exact Ev.now _
  · rw [decide_eq_true (by omega), Bool.true_and]
    refine Ev.bind (name_ev name (by omega)) ?_
    cases nameB name
    · exact Ev.no (by simp) (Ev.now _)
    · exact Ev.yes rfl (hl0 (by omega))

theorem rd_col (l : List S_Column) (i : Nat) (hi : i < l.length) : r_Column l (i : Int) = l[i] := by simp [r_Column, rd, List.getD, hi]
theorem rcol_l0 (a0 : Int) (a1 : ByteArray) (a2 a3 : Int) (nm : ByteArray) (l : List S_Column) (hb : l.length ≤ 9223372036854775807) : Ev (fun k => haulageref08_Col.l0 k nm (0 : Int) a0 a1 a2 a3 l) (scanR (fun c => decide (c.f1 = nm)) l 0) := by
  have h := down (P := fun i => Ev (fun k => haulageref08_Col.l0 k nm (i : Int) a0 a1 a2 a3 l) (scanR (fun c => decide (c.f1 = nm)) (l.drop i) i)) (n := l.length)
    (by rw [List.drop_length]; exact Ev.step (f := fun _ => some (-1)) (fun k => by simp only [haulageref08_Col.l0]; rw [if_neg (by omega)]) (Ev.now _))
    (fun i hi ih => by
      rw [List.drop_eq_getElem_cons hi]
      refine Ev.step (f := fun k => if (decide (l[i].f1 = nm)) = true then some (i : Int) else haulageref08_Col.l0 k nm ((i + 1 : Nat) : Int) a0 a1 a2 a3 l) (fun k => ?_) ?_
      · simp only [haulageref08_Col.l0]
        rw [if_pos (by omega), if_pos (by omega), if_pos (by omega), rd_col l i hi, i64w_succ _ (by omega)]
        simp only [ba_iff, decide_eq_true_eq]
      · simp only [scanR]
        split
        · exact Ev.now _
        · exact ih) 0 (Nat.zero_le _)
  exact h

theorem rcol_ev (a0 : Int) (a1 : ByteArray) (a2 a3 : Int) (l : List S_Column) (nm : ByteArray) (hb : l.length ≤ 9223372036854775807) : Ev (fun k => haulageref08_Col k a0 a1 a2 a3 l nm) (scanR (fun c => decide (c.f1 = nm)) l 0) := rcol_l0 a0 a1 a2 a3 nm l hb

theorem rd_val (l : List S_Value) (i : Nat) (hi : i < l.length) : r_Value l (i : Int) = l[i] := by simp [r_Value, rd, List.getD, hi]
/-- What is known of a value that is tried. -/
def OkVal (v : S_Value) : Prop := v.f2.size ≤ 1000000000 ∧ (Lit.int .i64 v.f1).wf = true
/-- Why a value doesn't fit a column; 0. -/
def oneE (c : S_Column) (v : S_Value) : Int := if zeroV v = true then (if c.f3 = true then 0 else 11) else if fitB c.f2.f0 c.f2.f1 v.f0 v.f1 v.f2 = true then 0 else 10
theorem one_ev (c : S_Column) (v : S_Value) (h : OkVal v) : Ev (fun k => schema_one k c.f0 c.f1 c.f2.f0 c.f2.f1 c.f3 c.f4.f0 c.f4.f1 c.f4.f2 v.f0 v.f1 v.f2) (oneE c v) := by
  unfold schema_one oneE
  simp only [zeroV_text]
  by_cases hz : zeroV v = true
  · refine Ev.congr (f := fun _ => some (if c.f3 = true then 0 else 11)) (fun k => ?_) (Ev.eq (Ev.now _) (by rw [if_pos hz]))
    rw [if_pos hz, if_pos hz]
    split <;> rfl
  · refine Ev.congr (fun k => by rw [if_neg hz, if_neg hz]) (Ev.bind (fit_ev c.f2.f0 c.f2.f1 v.f0 v.f1 v.f2 h.1) ?_)
    rw [if_neg hz]
    split
    · exact Ev.now _
    · exact Ev.now _
/-- The first that doesn't fit tells why. -/
def rowGo : List S_Column → List S_Value → Int
  | _, [] => 0
  | [], _ :: _ => 0
  | c :: r, v :: s => if oneE c v = 0 then rowGo r s else oneE c v
def fitsE (l : List S_Column) (row : List S_Value) : Int := if row.length = l.length then rowGo l row else 5
theorem fits_ev (id : Int) (name : ByteArray) (key next : Int) (l : List S_Column) (row : List S_Value) (hr : row.length ≤ 1000000000) (hok : ∀ v ∈ row, OkVal v) : Ev (fun k => schema_fits k id name key next l row) (fitsE l row) := by
  unfold schema_fits fitsE
  by_cases hl : row.length = l.length
  · rw [if_pos hl]
    refine Ev.congr (fun k => by rw [if_pos (by omega)]) ?_
    have h := down (P := fun i => Ev (fun k => schema_fits.l0 k row (row.length : Int) (i : Int) id name key next l) (rowGo (l.drop i) (row.drop i))) (n := row.length)
      (by
        rw [List.drop_length]
        refine Ev.eq (Ev.step (f := fun _ => some 0) (fun k => by simp only [schema_fits.l0]; rw [if_neg (by omega)]) (Ev.now _)) ?_
        unfold rowGo
        rfl)
      (fun i hi ih => by
        rw [List.drop_eq_getElem_cons hi, List.drop_eq_getElem_cons (show i < l.length by omega)]
        refine Ev.step (fun k => by simp only [schema_fits.l0]; rw [if_pos (by omega), if_pos (by omega), if_pos (by omega), if_pos (by omega), if_pos (by omega), rd_val row i hi, rd_col l i (by omega), i64w_succ _ (by omega)]) ?_
        refine Ev.bind (one_ev _ _ (hok _ (List.getElem_mem hi))) ?_
        simp only [rowGo]
        split
        · exact ih
        · exact Ev.now _) 0 (Nat.zero_le _)
    exact h
  · rw [if_neg hl]
    exact Ev.congr (f := fun _ => some 5) (fun k => by rw [if_neg (by omega)]) (Ev.now _)
/-- Why a row doesn't fit a table; 0. -/
def rowE (id : Int) (name : ByteArray) (key next : Int) (l : List S_Column) (row : List S_Value) : Int := if tabB id name key next l = true then fitsE l row else 2
theorem row_ev (id : Int) (name : ByteArray) (key next : Int) (l : List S_Column) (row : List S_Value) (hn : name.size ≤ 1000000000) (hok : ∀ c ∈ l, OkCol c) (hr : row.length ≤ 1000000000) (hv : ∀ v ∈ row, OkVal v) : Ev (fun k => schema_Row k id name key next l row) (rowE id name key next l row) := by
  unfold schema_Row rowE
  refine Ev.bind (table_ev id name key next l hn hok) ?_
  by_cases h : tabB id name key next l = true
  · rw [if_pos h]
    exact Ev.congr (fun k => by rw [if_pos h]) (Ev.bind (fits_ev id name key next l row hr hv) (Ev.now _))
  · rw [if_neg h]
    exact Ev.congr (f := fun _ => some 2) (fun k => by rw [if_neg h]) (Ev.now _)

theorem tabGo_rise (next key : Int) : ∀ (l : List S_Column) (last : Int) (kf : Bool) (ns : List ByteArray), tabGo next key l last kf ns = true → (∀ c ∈ l, last < c.f0) ∧ l.Pairwise (fun c d => c.f0 < d.f0) ∧ (kf = true ∨ ∃ c ∈ l, c.f0 = key)
  | [], last, kf, ns, h => ⟨by simp, List.Pairwise.nil, .inl h⟩
  | c :: r, last, kf, ns, h => by
    simp only [tabGo] at h
    split at h
    · rename_i e
      obtain ⟨h1, h2, h3⟩ := tabGo_rise next key r _ _ _ h
      refine ⟨?_, ?_, ?_⟩
      · intro d hd
        rcases List.mem_cons.1 hd with hd | hd
        · rw [hd]; exact e.2.1
        · have := h1 d hd
          omega
      · exact List.pairwise_cons.2 ⟨h1, h2⟩
      · by_cases hk : c.f0 = key
        · exact .inr ⟨c, by simp, hk⟩
        · rw [if_neg hk] at h3
          rcases h3 with h3 | ⟨d, hd, e⟩
          · exact .inl h3
          · exact .inr ⟨d, by simp [hd], e⟩
    · cases h
theorem tabB_more {id : Int} {name : ByteArray} {key next : Int} {l : List S_Column} (h : tabB id name key next l = true) : l.length ≤ 10 ∧ l.Pairwise (fun c d => c.f0 < d.f0) ∧ ∃ c ∈ l, c.f0 = key := by
  unfold tabB at h
  rw [Bool.and_eq_true, Bool.and_eq_true, decide_eq_true_iff] at h
  obtain ⟨h1, h2, h3⟩ := tabGo_rise _ _ _ _ _ _ h.2.2
  refine ⟨h.1.2.2.2, h2, ?_⟩
  rcases h3 with h3 | h3
  · cases h3
  · exact h3
theorem rowE_zero {id : Int} {name : ByteArray} {key next : Int} {l : List S_Column} {row : List S_Value} (h : rowE id name key next l row = 0) : tabB id name key next l = true ∧ row.length = l.length := by
  unfold rowE fitsE at h
  split at h
  · rename_i e
    split at h
    · rename_i e2
      exact ⟨e, e2⟩
    · exact absurd h (by decide)
  · exact absurd h (by decide)

/-- A row's cells, by its table. -/
def cellsZ : List S_Column → List S_Value → List S_Cell
  | c :: r, v :: s => ⟨c.f1, c.f2, v⟩ :: cellsZ r s
  | _, _ => []
theorem cellsZ_len : ∀ (l : List S_Column) (row : List S_Value), (cellsZ l row).length ≤ l.length
  | [], _ => by simp [cellsZ]
  | _ :: _, [] => by simp [cellsZ]
  | c :: r, v :: s => by
    have := cellsZ_len r s
    simp only [cellsZ, List.length_cons]
    omega
theorem cells_ev (id : Int) (name : ByteArray) (key next : Int) (l : List S_Column) (row : List S_Value) (hn : name.size ≤ 1000000000) (hok : ∀ c ∈ l, OkCol c) (hl : l.length ≤ 1000000) (hr : row.length ≤ 1000000000) (hv : ∀ v ∈ row, OkVal v)
    (h0 : rowE id name key next l row = 0) : Ev (fun k => schema_Cells k id name key next l row) (cellsZ l row, 0) := by
  obtain ⟨_, hlen⟩ := rowE_zero h0
  unfold schema_Cells
  refine Ev.bind (row_ev id name key next l row hn hok hr hv) ?_
  rw [h0]
  refine Ev.congr (fun k => if_pos rfl) ?_
  have h := down (P := fun i => ∀ acc : List S_Cell, acc.length = i → Ev (fun k => schema_Cells.l0 k row acc l (l.length : Int) (i : Int) id name key next l) (acc ++ cellsZ (l.drop i) (row.drop i), 0)) (n := l.length)
    (fun acc _ => by
      rw [List.drop_length]
      simp only [cellsZ, List.append_nil]
      exact Ev.step (f := fun _ => some (acc, 0)) (fun k => by simp only [schema_Cells.l0]; rw [if_neg (by omega)]) (Ev.now _))
    (fun i hi ih acc ha => by
      rw [List.drop_eq_getElem_cons hi, List.drop_eq_getElem_cons (show i < row.length by omega)]
      simp only [cellsZ]
      have := ih (acc ++ [⟨l[i].f1, l[i].f2, row[i]⟩]) (by simp [ha])
      rw [List.append_assoc, List.singleton_append] at this
      refine Ev.step (fun k => ?_) this
      simp only [schema_Cells.l0]
      rw [if_pos (by omega), if_pos (by omega), if_pos (by omega), if_pos (by omega), if_pos (by omega), if_pos (by omega), rd_col l i hi, rd_val row i (by omega), i64w_succ _ (by omega)]) 0 (Nat.zero_le _)
  have h2 := h [] rfl
  rw [List.drop_zero, List.drop_zero, List.nil_append] at h2
  exact h2
theorem rcells_ev (id : Int) (name : ByteArray) (key next : Int) (l : List S_Column) (row : List S_Value) (hl : l.length ≤ 1000000) (hlen : row.length = l.length) : Ev (fun k => haulageref08_Cells k id name key next l row) (cellsZ l row) := by
  unfold haulageref08_Cells
  have h := down (P := fun i => ∀ acc : List S_Cell, acc.length = i → Ev (fun k => haulageref08_Cells.l0 k row acc (i : Int) id name key next l) (acc ++ cellsZ (l.drop i) (row.drop i))) (n := row.length)
    (fun acc _ => by
      rw [List.drop_length, hlen, List.drop_length]
      simp only [cellsZ, List.append_nil]
      exact Ev.step (f := fun _ => some acc) (fun k => by simp only [haulageref08_Cells.l0]; rw [if_neg (by omega)]) (Ev.now _))
    (fun i hi ih acc ha => by
      rw [List.drop_eq_getElem_cons hi, List.drop_eq_getElem_cons (show i < l.length by omega)]
      simp only [cellsZ]
      have := ih (acc ++ [⟨l[i].f1, l[i].f2, row[i]⟩]) (by simp [ha])
      rw [List.append_assoc, List.singleton_append] at this
      refine Ev.step (fun k => ?_) this
      simp only [haulageref08_Cells.l0]
      rw [if_pos (by omega), if_pos (by omega), if_pos (by omega), if_pos (by omega), if_pos (by omega), if_pos (by omega), if_pos (by omega), if_pos (by omega), rd_col l i (by omega), rd_val row i hi, i64w_succ _ (by omega)]) 0 (Nat.zero_le _)
  have h2 := h [] rfl
  rw [List.drop_zero, List.drop_zero, List.nil_append] at h2
  exact h2
theorem samecells_self (l : List S_Cell) (hl : l.length ≤ 1000000) : Ev (fun k => haulageref08_SameCells k l l) true := by
  unfold haulageref08_SameCells
  refine Ev.congr (fun k => if_pos rfl) ?_
  exact down (P := fun i => Ev (fun k => haulageref08_SameCells.l0 k l l (i : Int)) true) (n := l.length)
    (Ev.step (f := fun _ => some true) (fun k => by simp only [haulageref08_SameCells.l0]; rw [if_neg (by omega)]) (Ev.now _))
    (fun i hi ih => by
      refine Ev.step (fun k => ?_) ih
      simp only [haulageref08_SameCells.l0]
      rw [if_pos (by omega), if_pos (by omega), if_pos (by omega), if_pos (by omega), if_pos (by omega), if_pos (by simp), i64w_succ _ (by omega)]) 0 (Nat.zero_le _)

theorem btr (s : ByteArray) (i : Int) : 0 ≤ bt s i ∧ bt s i ≤ 255 := by
  unfold bt
  split
  · rename_i h
    have := (s[i.toNat]'h).toNat_lt
    omega
  · omega

/-- The number of the first bytes' low seven bits. -/
def val (s : ByteArray) : Nat → Int
  | 0 => 0
  | i + 1 => val s i + bt s (i : Int) % 128 * 128 ^ i

theorem p128_pos (i : Nat) : (0 : Int) < 128 ^ i := Int.pow_pos (by decide)

theorem val_range (s : ByteArray) (i : Nat) : 0 ≤ val s i ∧ val s i < 128 ^ i := by
  induction i with
  | zero => simp [val]
  | succ i ih =>
    have hp := p128_pos i
    have h1 : 0 ≤ bt s (i : Int) % 128 := by omega
    have h2 : bt s (i : Int) % 128 ≤ 127 := by omega
    have h3 : 0 ≤ bt s (i : Int) % 128 * 128 ^ i := Int.mul_nonneg h1 (Int.le_of_lt hp)
    have h4 : bt s (i : Int) % 128 * 128 ^ i ≤ 127 * 128 ^ i := Int.mul_le_mul_of_nonneg_right h2 (Int.le_of_lt hp)
    simp only [val, Int.pow_succ]
    omega

/-- How many short bytes a text begins with, from a place on; or the error's number. -/
def ends (s : ByteArray) (i : Nat) : Int × Int :=
  if _h : i < s.size ∧ i < 10 then
    if bt s (i : Int) < 128 then (if (0 < i ∧ bt s (i : Int) = 0) ∨ (i = 9 ∧ 1 < bt s (i : Int)) then (0, 5) else (((i + 1 : Nat) : Int), 0)) else ends s (i + 1)
  else if s.size < 10 then (0, 4) else (0, 5)
termination_by 10 - i
decreasing_by omega

theorem ends_stop {s : ByteArray} {i : Nat} (h : ¬ (i < s.size ∧ i < 10)) : ends s i = if s.size < 10 then (0, 4) else (0, 5) := by rw [ends, dif_neg h]
theorem ends_more {s : ByteArray} {i : Nat} (h : i < s.size ∧ i < 10) (hc : ¬ bt s (i : Int) < 128) : ends s i = ends s (i + 1) := by rw [ends, dif_pos h, if_neg hc]
theorem ends_last {s : ByteArray} {i : Nat} (h : i < s.size ∧ i < 10) (hc : bt s (i : Int) < 128) : ends s i = if (0 < i ∧ bt s (i : Int) = 0) ∨ (i = 9 ∧ 1 < bt s (i : Int)) then (0, 5) else (((i + 1 : Nat) : Int), 0) := by rw [ends, dif_pos h, if_pos hc]

/-- What is known where it ends. -/
theorem ends_ok (s : ByteArray) (d : Nat) : ∀ i, i + d = 10 → (ends s i).2 = 0 → ∃ m : Nat, (ends s i).1 = ((m + 1 : Nat) : Int) ∧ i ≤ m ∧ m < 10 ∧ m < s.size ∧ bt s (m : Int) < 128 ∧ (0 < m → bt s (m : Int) ≠ 0) ∧ (m = 9 → bt s (m : Int) ≤ 1) ∧ ∀ j : Nat, i ≤ j → j < m → 128 ≤ bt s (j : Int) := by
  induction d with
  | zero =>
    intro i hi h
    rw [ends_stop (by omega)] at h
    split at h <;> simp at h
  | succ d ih =>
    intro i hi h
    by_cases h1 : i < s.size ∧ i < 10
    · by_cases hc : bt s (i : Int) < 128
      · rw [ends_last h1 hc] at h ⊢
        split at h
        · simp at h
        · rename_i hn
          rw [if_neg hn]
          exact ⟨i, rfl, Nat.le_refl _, h1.2, h1.1, hc, fun h0 h2 => hn (.inl ⟨h0, h2⟩), fun h9 => by
            by_cases h : 1 < bt s (i : Int)
            · exact absurd (.inr ⟨h9, h⟩) hn
            · omega, fun j hj hj' => by omega⟩
      · rw [ends_more h1 hc] at h ⊢
        obtain ⟨m, e, h2, h3, h4, h5, h6, h7, h8⟩ := ih (i + 1) (by omega) h
        exact ⟨m, e, by omega, h3, h4, h5, h6, h7, fun j hj hj' => by
          by_cases e : j = i
          · subst e; omega
          · exact h8 j (by omega) hj'⟩
    · rw [ends_stop h1] at h
      split at h <;> simp at h

theorem ends_err (s : ByteArray) (d : Nat) : ∀ i, i + d = 10 → (ends s i).2 ≠ 0 → (ends s i).1 = 0 ∧ ((ends s i).2 = 4 ∨ (ends s i).2 = 5) := by
  induction d with
  | zero =>
    intro i hi h
    rw [ends_stop (by omega)] at h ⊢
    split <;> simp
  | succ d ih =>
    intro i hi h
    by_cases h1 : i < s.size ∧ i < 10
    · by_cases hc : bt s (i : Int) < 128
      · rw [ends_last h1 hc] at h ⊢
        split at h
        · rename_i hn; rw [if_pos hn]; simp
        · simp at h
      · rw [ends_more h1 hc] at h ⊢
        exact ih (i + 1) (by omega) h
    · rw [ends_stop h1] at h ⊢
      split <;> simp

/-- The number that a text begins with, how many bytes; or the error's number. -/
def longS (s : ByteArray) : Int × Int × Int := if (ends s 0).2 = 0 then (val s (ends s 0).1.toNat, (ends s 0).1, 0) else (0, 0, (ends s 0).2)

theorem val_lt (s : ByteArray) (m : Nat) (h : m < 10) (h9 : m = 9 → bt s (m : Int) ≤ 1) (hc : bt s (m : Int) < 128) : 0 ≤ val s (m + 1) ∧ val s (m + 1) < 18446744073709551616 := by
  refine ⟨(val_range s (m + 1)).1, ?_⟩
  by_cases e : m = 9
  · subst e
    have h1 := val_range s 9
    have h2 := h9 rfl
    have h3 := btr s ((9 : Nat) : Int)
    simp only [val] at h1 ⊢
    have : (128 : Int) ^ 9 = 9223372036854775808 := by decide
    simp only [this] at h1 ⊢
    omega
  · have h1 := (val_range s (m + 1)).2
    have h2 : (128 : Int) ^ (m + 1) ≤ 128 ^ 9 := by
      have : (128 : Nat) ^ (m + 1) ≤ 128 ^ 9 := Nat.pow_le_pow_right (by decide) (by omega)
      exact_mod_cast this
    have : (128 : Int) ^ 9 = 9223372036854775808 := by decide
    omega

theorem longS_ok (s : ByteArray) (h : (longS s).2.2 = 0) : ∃ m : Nat, longS s = (val s (m + 1), ((m + 1 : Nat) : Int), 0) ∧ m < 10 ∧ m < s.size ∧ 0 ≤ val s (m + 1) ∧ val s (m + 1) < 18446744073709551616 ∧ bt s (m : Int) < 128 ∧ (0 < m → bt s (m : Int) ≠ 0) ∧ (∀ j : Nat, j < m → 128 ≤ bt s (j : Int)) := by
  unfold longS at h ⊢
  by_cases e : (ends s 0).2 = 0
  · obtain ⟨m, e1, _, h3, h4, h5, h6, h7, h8⟩ := ends_ok s 10 0 rfl e
    have hv := val_lt s m h3 h7 h5
    rw [if_pos e, e1]
    exact ⟨m, by simp, h3, h4, hv.1, hv.2, h5, h6, fun j hj => h8 j (Nat.zero_le _) hj⟩
  · rw [if_neg e] at h
    exact absurd h e
theorem longS_err (s : ByteArray) (h : (longS s).2.2 ≠ 0) : longS s = (0, 0, (longS s).2.2) ∧ ((longS s).2.2 = 4 ∨ (longS s).2.2 = 5) := by
  unfold longS at h ⊢
  by_cases e : (ends s 0).2 = 0
  · rw [if_pos e] at h
    exact absurd rfl h
  · rw [if_neg e]
    exact ⟨rfl, (ends_err s 10 0 rfl e).2⟩

theorem or_comm_u64 (x y : Int) : Go.bits .or .u64 x y = Go.bits .or .u64 y x := by
  unfold Go.bits
  simp only
  rw [BitVec.or_comm]

theorem wraps_u64 (n : Int) (h0 : 0 ≤ n) (h1 : n < 2 ^ 64) : IntKind.u64.wrap n = n := by
  simp only [IntKind.wrap, IntKind.bits, IntKind.signed]
  simp
  omega

theorem p128 (i : Nat) : (128 : Int) ^ i = 2 ^ (7 * i) := by
  rw [show (128 : Int) = 2 ^ 7 by decide, ← Int.pow_mul]

theorem or_shl (a c : Int) (i : Nat) (hi : i ≤ 9) (ha0 : 0 ≤ a) (ha : a < 128 ^ i) (hc0 : 0 ≤ c) (hc1 : c ≤ 255) (hcc : c % 128 * 128 ^ i < 18446744073709551616) :
    Go.bits .or .u64 a (Go.Proofs.YtgefikclhfjcgaaGreatDoorEv.shl .u64 (IntKind.u64.wrap (Go.bits .and .u8 c 127)) (IntKind.i64.wrap (7 * (i : Int)))) = a + c % 128 * 128 ^ i := by
  have hm : Go.bits .and .u8 c 127 = c % 128 := Go.bits_mask .u8 8 (by decide) Go.wraps_u8 7 (by decide) c hc0 (by omega)
  have hp := p128_pos i
  have h1 : 0 ≤ c % 128 := by omega
  have h3 : 0 ≤ c % 128 * 128 ^ i := Int.mul_nonneg h1 (Int.le_of_lt hp)
  have e64 : (2 : Int) ^ 64 = 18446744073709551616 := by decide
  have hw : IntKind.i64.wrap (7 * (i : Int)) = ((7 * i : Nat) : Int) := by rw [i64_eq]; unfold wrap64; omega
  have hs : Go.Proofs.YtgefikclhfjcgaaGreatDoorEv.shl .u64 (IntKind.u64.wrap (Go.bits .and .u8 c 127)) (IntKind.i64.wrap (7 * (i : Int))) = c % 128 * 128 ^ i := by
    unfold shl
    rw [hm, hw, wraps_u64 (c % 128) h1 (by omega)]
    have : min (((7 * i : Nat) : Int)).toNat (IntKind.bits .u64) = 7 * i := by simp [IntKind.bits]; omega
    rw [this, ← p128]
    exact wraps_u64 _ h3 (by omega)
  rw [hs, or_comm_u64]
  have hlt : a < 18446744073709551616 := by
    have h2 : (128 : Int) ^ i ≤ 128 ^ 9 := by
      have : (128 : Nat) ^ i ≤ 128 ^ 9 := Nat.pow_le_pow_right (by decide) hi
      exact_mod_cast this
    have : (128 : Int) ^ 9 = 9223372036854775808 := by decide
    omega
  rw [Go.bits_join .u64 64 (by decide) wraps_u64 (7 * i) (c % 128 * 128 ^ i) a h3 (by rw [p128]; exact Int.mul_emod_left _ _) (by omega) ha0 (by rw [← p128]; exact ha) (by omega)]
  omega

theorem long_stop (s : ByteArray) (a : Int) (i : Nat) (h : ¬ (i < s.size ∧ i < 10)) :
    Ev (fun k => word_Long.l0 k s a (i : Int)) (0, 0, if s.size < 10 then 4 else 5) := by
  refine Ev.step (f := fun _ => some (0, 0, if s.size < 10 then 4 else 5)) (fun k => ?_) (Ev.now _)
  have e : ((s.size : Int) < 10) = (s.size < 10) := propext ⟨fun h => by omega, fun h => by omega⟩
  simp only [word_Long.l0, e]
  by_cases h1 : i < s.size
  · rw [if_pos (by omega), if_neg (by omega)]; split <;> rfl
  · rw [if_neg (by omega)]; split <;> rfl

theorem long_l0 (s : ByteArray) (d : Nat) : ∀ i, i + d = 10 → ∀ a, (i ≤ 9 → a = val s i) →
    Ev (fun k => word_Long.l0 k s a (i : Int)) (if (ends s i).2 = 0 then (val s (ends s i).1.toNat, (ends s i).1, 0) else (0, 0, (ends s i).2)) := by
  induction d with
  | zero =>
    intro i hi a ha
    have := long_stop s a i (by omega)
    rw [ends_stop (by omega)]
    by_cases h1 : s.size < 10
    · simpa [h1] using this
    · simpa [h1] using this
  | succ d ih =>
    intro i hi a ha
    by_cases h : i < s.size ∧ i < 10
    · have ha' := ha (by omega)
      have hb := btr s (i : Int)
      have hv := val_range s i
      have hw : IntKind.i64.wrap (7 * (i : Int)) = 7 * (i : Int) := i64w _ (by omega) (by omega)
      have hw1 : IntKind.i64.wrap ((i : Int) + 1) = ((i + 1 : Nat) : Int) := i64w_succ _ (by omega)
      by_cases hc : bt s (i : Int) < 128
      · -- the last one
        rw [ends_last h hc]
        by_cases hbad : (0 < i ∧ bt s (i : Int) = 0) ∨ (i = 9 ∧ 1 < bt s (i : Int))
        · rw [if_pos hbad]
          refine Ev.step (f := fun _ => some (0, 0, 5)) (fun k => ?_) (Ev.now _)
          simp only [word_Long.l0]
          rw [if_pos (by omega), if_pos (by omega), if_pos (by omega), if_pos (by omega), if_neg (by rw [hw]; omega), if_neg (by omega)]
          rcases hbad with ⟨h0, h1⟩ | ⟨h0, h1⟩
          · rw [if_pos (by omega), if_pos h1]
          · rw [if_pos (by omega), if_neg (by omega), if_pos (by omega), if_pos h1]
        · rw [if_neg hbad]
          have hval : Go.bits .or .u64 a (Go.Proofs.YtgefikclhfjcgaaGreatDoorEv.shl .u64 (IntKind.u64.wrap (Go.bits .and .u8 (bt s (i : Int)) 127)) (IntKind.i64.wrap (7 * (i : Int)))) = val s (((i + 1 : Nat) : Int)).toNat := by
            have hlt := val_lt s i (by omega) (fun e => by
              by_cases h : 1 < bt s (i : Int)
              · exact absurd (.inr ⟨e, h⟩) hbad
              · omega) hc
            have : (((i + 1 : Nat) : Int)).toNat = i + 1 := by omega
            rw [this]
            simp only [val] at hlt ⊢
            rw [or_shl a _ i (by omega) (by omega) (by omega) hb.1 hb.2 (by omega), ha']
          refine Ev.step (f := fun _ => some (val s (((i + 1 : Nat) : Int)).toNat, ((i + 1 : Nat) : Int), 0)) (fun k => ?_) (by rw [if_pos rfl]; exact Ev.now _)
          simp only [word_Long.l0]
          rw [if_pos (by omega), if_pos (by omega), if_pos (by omega), if_pos (by omega), if_neg (by rw [hw]; omega), if_neg (by omega), hval, hw1]
          by_cases h0 : i = 0
          · rw [if_neg (by omega), if_neg (by omega)]
          · have hn0 : ¬ bt s (i : Int) = 0 := fun e => hbad (.inl ⟨by omega, e⟩)
            rw [if_pos (by omega), if_neg hn0]
            by_cases h9 : i = 9
            · have hn9 : ¬ bt s (i : Int) > 1 := fun e => hbad (.inr ⟨h9, e⟩)
              rw [if_pos (by omega), if_neg hn9]
            · rw [if_neg (by omega)]
      · -- one more
        rw [ends_more h hc]
        refine Ev.step (f := fun k => word_Long.l0 k s (Go.bits .or .u64 a (Go.Proofs.YtgefikclhfjcgaaGreatDoorEv.shl .u64 (IntKind.u64.wrap (Go.bits .and .u8 (bt s (i : Int)) 127)) (IntKind.i64.wrap (7 * (i : Int))))) ((i + 1 : Nat) : Int)) (fun k => ?_) (ih (i + 1) (by omega) _ (fun h9 => ?_))
        · simp only [word_Long.l0]
          rw [if_pos (by omega), if_pos (by omega), if_pos (by omega), if_pos (by omega), if_neg (by rw [hw]; omega), if_pos (by omega), hw1]
        · have h2 := (val_range s (i + 1)).2
          have h3 : (128 : Int) ^ (i + 1) ≤ 128 ^ 9 := by
            have : (128 : Nat) ^ (i + 1) ≤ 128 ^ 9 := Nat.pow_le_pow_right (by decide) (by omega)
            exact_mod_cast this
          have : (128 : Int) ^ 9 = 9223372036854775808 := by decide
          simp only [val] at h2 ⊢
          rw [or_shl a _ i (by omega) (by omega) (by omega) hb.1 hb.2 (by omega), ha']
    · have := long_stop s a i h
      rw [ends_stop h]
      by_cases h1 : s.size < 10
      · simpa [h1] using this
      · simpa [h1] using this

theorem word_Long_ev (s : ByteArray) : Ev (fun k => word_Long k s) (longS s) := by
  have := long_l0 s 10 0 rfl 0 (fun _ => rfl)
  simpa [word_Long, longS] using this

/-- A number's turned one. -/
def zigS (n : Int) : Int := if 0 ≤ n then 2 * n else -2 * n - 1
/-- The number of a turned one. -/
def zagS (u : Int) : Int := if u % 2 = 0 then u / 2 else -1 - u / 2

theorem xor_i64 (x y : Int) : Go.bits .xor .i64 x y = wrap64 ((BitVec.ofInt 64 x ^^^ BitVec.ofInt 64 y).toNat : Int) := i64_eq _

theorem xor_i64_zero (x : Int) (h0 : 0 ≤ x) (h1 : x < 9223372036854775808) : Go.bits .xor .i64 x 0 = x := by
  rw [xor_i64, show (BitVec.ofInt 64 0) = 0#64 by rfl, BitVec.xor_zero, BitVec.toNat_ofInt]
  unfold wrap64
  omega

theorem xor_i64_ones (x : Int) (h0 : 0 ≤ x) (h1 : x < 9223372036854775808) : Go.bits .xor .i64 x (-1) = -1 - x := by
  rw [xor_i64, show (BitVec.ofInt 64 (-1)) = BitVec.allOnes 64 by decide, BitVec.xor_allOnes, BitVec.toNat_not, BitVec.toNat_ofInt]
  unfold wrap64
  omega

theorem and_u64_one (x : Int) (h0 : 0 ≤ x) (h1 : x < 18446744073709551616) : Go.bits .and .u64 x 1 = x % 2 := by
  have := Go.bits_mask .u64 64 (by decide) (fun n h0 h1 => by rw [u64_eq]; omega) 1 (by decide) x h0 (by omega)
  simpa using this

theorem zagS_range (u : Int) (h0 : 0 ≤ u) (h1 : u ≤ 18446744073709551615) : -9223372036854775808 ≤ zagS u ∧ zagS u ≤ 9223372036854775807 := by unfold zagS; split <;> omega
theorem zig_zag (u : Int) (h0 : 0 ≤ u) : zigS (zagS u) = u := by unfold zagS zigS; split <;> split <;> omega

theorem word_Zag_eq (k : Nat) (u : Int) (h0 : 0 ≤ u) (h1 : u ≤ 18446744073709551615) : word_Zag k u = some (zagS u) := by
  unfold word_Zag zagS
  have e1 : Go.Proofs.YtgefikclhfjcgaaGreatDoorEv.shr .u64 u 1 = u / 2 := by unfold Go.Proofs.YtgefikclhfjcgaaGreatDoorEv.shr; rfl
  rw [and_u64_one u h0 (by omega), e1, i64w (u / 2) (by omega) (by omega)]
  by_cases h : u % 2 = 0
  · rw [if_pos h, h, show IntKind.i64.wrap (0 - IntKind.i64.wrap 0) = 0 by decide +kernel, xor_i64_zero _ (by omega) (by omega)]
  · rw [if_neg h, show u % 2 = 1 by omega, show IntKind.i64.wrap (0 - IntKind.i64.wrap 1) = -1 by decide +kernel, xor_i64_ones _ (by omega) (by omega)]

/-- The short bytes of a number. -/
def sb (n : Nat) : List Int := if n < 128 then [(n : Int)] else (((n % 128 + 128 : Nat) : Int)) :: sb (n / 128)
termination_by n
decreasing_by omega

theorem sb_small {n : Nat} (h : n < 128) : sb n = [(n : Int)] := by rw [sb, if_pos h]
theorem sb_big {n : Nat} (h : ¬ n < 128) : sb n = (((n % 128 + 128 : Nat) : Int)) :: sb (n / 128) := by rw [sb, if_neg h]

theorem sb_len (m : Nat) : ∀ n, n < 128 ^ (m + 1) → (sb n).length ≤ m + 1 := by
  induction m with
  | zero => intro n h; rw [sb_small (by simpa using h)]; simp
  | succ m ih =>
    intro n h
    by_cases h1 : n < 128
    · rw [sb_small h1]; simp
    · rw [sb_big h1]
      have : n / 128 < 128 ^ (m + 1) := by
        rw [Nat.div_lt_iff_lt_mul (by decide)]
        rw [Nat.pow_succ] at h
        exact h
      have := ih _ this
      simp only [List.length_cons]
      omega

theorem sb_len10 {n : Nat} (h : n < 18446744073709551616) : (sb n).length ≤ 10 := sb_len 9 n (Nat.lt_of_lt_of_le h (by decide))
theorem or128_fin : ∀ a : Fin 256, (a.val ||| 128) = a.val % 128 + 128 := by decide +kernel

theorem or128 (x : Int) (h : 0 ≤ x) : Go.bits .or .u8 (x % 256) 128 = x % 128 + 128 := by
  obtain ⟨n, rfl⟩ := Int.eq_ofNat_of_zero_le h
  have e : ((n : Int) % 256) = ((n % 256 : Nat) : Int) := by omega
  have := (Go.bits_nat .u8 8 (by decide) Go.wraps_u8 (n % 256) 128 (by omega) (by decide)).2
  rw [e]
  refine this.trans ?_
  have h2 := or128_fin ⟨n % 256, by omega⟩
  simp only at h2
  rw [h2]
  omega

theorem u8w (n : Int) : IntKind.u8.wrap n = n % 256 := by simp [IntKind.wrap, IntKind.bits, IntKind.signed]
theorem u64s7 (n : Int) : Go.Proofs.YtgefikclhfjcgaaGreatDoorEv.shr .u64 n 7 = n / 128 := by unfold Go.Proofs.YtgefikclhfjcgaaGreatDoorEv.shr; rfl
theorem short_l1 (l : List Int) (len i : Int) (r : ByteArray) (n : Nat) : ∀ acc : List Int, acc.length + (sb n).length ≤ 140737488355328 →
    Ev (fun k => word_Short.l0 k (acc ++ sb n) l len (IntKind.i64.wrap (i + 1))) r → Ev (fun k => word_Short.l1 k acc (n : Int) l len i) r := by
  induction n using Nat.strongRecOn with
  | _ n ih =>
    intro acc hb hk
    by_cases h : n < 128
    · rw [sb_small h] at hb hk
      simp only [List.length_cons, List.length_nil] at hb
      refine Ev.step (f := fun k => word_Short.l0 k (acc ++ [(n : Int)]) l len (IntKind.i64.wrap (i + 1))) (fun k => ?_) hk
      simp only [word_Short.l1]
      rw [if_neg (by omega), if_pos (by omega), u8w _, show ((n : Int) % 256) = n by omega]
    · rw [sb_big h] at hb hk
      simp only [List.length_cons] at hb
      refine Ev.step (f := fun k => word_Short.l1 k (acc ++ [((n % 128 + 128 : Nat) : Int)]) ((n / 128 : Nat) : Int) l len i) (fun k => ?_) (ih (n / 128) (by omega) _ (by simp only [List.length_append, List.length_cons, List.length_nil]; omega) ?_)
      · simp only [word_Short.l1]
        rw [if_pos (by omega), if_pos (by omega), u8w _, or128 _ (by omega), u64s7, show ((n : Int) % 128 + 128) = ((n % 128 + 128 : Nat) : Int) by omega, show ((n : Int) / 128) = ((n / 128 : Nat) : Int) by omega]
      · rw [List.append_assoc]; exact hk

/-- The short bytes of several. -/
def sbs (l : List Int) : List Int := l.flatMap fun x => sb x.toNat

theorem sbs_cons (x : Int) (l : List Int) : sbs (x :: l) = sb x.toNat ++ sbs l := by simp [sbs]
theorem rd_at (l : List Int) (i : Nat) (h : i < l.length) : r_u64 l (i : Int) = l[i] := by
  simp [r_u64, rd, h]

theorem short_l0 (l : List Int) (hl : l.length ≤ 1000000000000) (hr : ∀ x ∈ l, 0 ≤ x ∧ x < 18446744073709551616) (d : Nat) : ∀ (i : Nat) (acc : List Int), l.length = i + d → acc.length ≤ 10 * i →
    Ev (fun k => word_Short.l0 k acc l (l.length : Int) (i : Int)) (strOfNums (acc ++ sbs (l.drop i))) := by
  induction d with
  | zero =>
    intro i acc hi ha
    refine Ev.step (f := fun _ => some (strOfNums acc)) (fun k => ?_) ?_
    · simp only [word_Short.l0]
      rw [if_neg (by omega)]
      rfl
    · rw [show l.drop i = [] from List.drop_eq_nil_of_le (by omega)]
      simpa [sbs] using Ev.now (strOfNums acc)
  | succ d ih =>
    intro i acc hi ha
    have hlt : i < l.length := by omega
    have hx := hr l[i] (List.getElem_mem hlt)
    have h10 := sb_len10 (n := l[i].toNat) (by omega)
    refine Ev.step (f := fun k => word_Short.l1 k acc ((l[i].toNat : Nat) : Int) l (l.length : Int) (i : Int)) (fun k => ?_) ?_
    · simp only [word_Short.l0]
      rw [if_pos (by omega), if_pos (by omega), if_pos (by omega), rd_at l i hlt, show ((l[i].toNat : Nat) : Int) = l[i] by omega]
    · refine short_l1 l _ _ _ _ _ (by omega) ?_
      have := ih (i + 1) (acc ++ sb l[i].toNat) (by omega) (by simp only [List.length_append]; omega)
      rw [show l.drop i = l[i] :: l.drop (i + 1) from List.drop_eq_getElem_cons hlt, sbs_cons, ← List.append_assoc]
      rw [show IntKind.i64.wrap ((i : Int) + 1) = ((i + 1 : Nat) : Int) by rw [i64_eq]; unfold wrap64; omega]
      exact this

theorem word_Short_ev (l : List Int) (hl : l.length ≤ 1000000000000) (hr : ∀ x ∈ l, 0 ≤ x ∧ x < 18446744073709551616) :
    Ev (fun k => word_Short k l) (strOfNums (sbs l)) := by
  have := short_l0 l hl hr l.length 0 [] (by omega) (by simp)
  simpa [word_Short] using this


theorem cut_to (s : ByteArray) (a n : Nat) : (s.extract a s.size).extract 0 n = s.extract a (a + n) := by
  apply byt_inj
  rw [byt_extract, byt_cut, byt_extract, List.drop_zero]
  congr 1
  omega
theorem cut_cut (s : ByteArray) (a n : Nat) : (s.extract a s.size).extract n (s.extract a s.size).size = s.extract (a + n) s.size := by
  apply byt_inj
  rw [byt_cut, byt_cut, byt_cut, List.drop_drop]
theorem cut_size (s : ByteArray) (a : Nat) : (s.extract a s.size).size = s.size - a := by
  rw [← byt_len, byt_cut, List.length_drop, byt_len]
theorem long_two (s : ByteArray) (h : (longS s).2.2 = 0) : 0 ≤ (longS s).1 ∧ (longS s).1 < 18446744073709551616 ∧ 0 < (longS s).2.1 ∧ (longS s).2.1 ≤ (s.size : Int) ∧ (longS s).2.1 ≤ 10 := by
  obtain ⟨m, e, h1, h2, h3, h4, _⟩ := longS_ok s h
  rw [e]
  simp only
  omega
theorem i64_wf {x : Int} (h0 : -9223372036854775808 ≤ x) (h1 : x ≤ 9223372036854775807) : (Lit.int .i64 x).wf = true := by
  unfold Lit.wf
  have e1 : IntKind.i64.min = -9223372036854775808 := by decide
  have e2 : IntKind.i64.max = 9223372036854775807 := by decide
  simp only [e1, e2, Bool.and_eq_true, decide_eq_true_eq]
  exact ⟨h0, h1⟩
theorem sb_bytes (n : Nat) : Bytes (sb n) := by
  induction n using Nat.strongRecOn with
  | _ n ih =>
    by_cases h : n < 128
    · rw [sb_small h]
      intro x hx
      rw [List.mem_singleton] at hx
      omega
    · rw [sb_big h]
      intro x hx
      rcases List.mem_cons.1 hx with e | e
      · omega
      · exact ih (n / 128) (by omega) x e
theorem cjoin (s : ByteArray) (n : Nat) (l : List Int) (h : l = (byt s).take n) : strOfNums l ++ s.extract n s.size = s := by
  apply byt_inj
  have hb : Bytes l := by rw [h]; exact (byt_bytes s).take n
  rw [byt_append, byt_str hb, byt_cut, h, List.take_append_drop]
theorem short1 (x : Int) (h0 : 0 ≤ x) (h1 : x ≤ 18446744073709551615) : Ev (fun k => word_Short k ([x] : List Int)) (strOfNums (sb x.toNat)) := by
  have := word_Short_ev [x] (by simp) (fun y hy => by
    rw [List.mem_singleton] at hy
    omega)
  rw [show sbs [x] = sb x.toNat by simp [sbs]] at this
  exact this

/-- The bytes of a value that isn't null. -/
def oneV (v : S_Value) : List Int := if v.f0 = 1 ∨ v.f0 = 2 then sb (zigS v.f1).toNat else sb v.f2.size ++ byt v.f2
theorem and7 (i : Nat) (h : i < 16) : Go.bits .and .i64 (i : Int) 7 = ((i % 8 : Nat) : Int) := by
  have : ∀ i : Fin 16, Go.bits .and .i64 (i.val : Int) 7 = ((i.val % 8 : Nat) : Int) := by decide +kernel
  exact this ⟨i, h⟩
set_option maxRecDepth 100000 in
theorem tabGo_types (next key : Int) : ∀ (l : List S_Column) (last : Int) (kf : Bool) (ns : List ByteArray), tabGo next key l last kf ns = true → ∀ c ∈ l, typB c.f2.f0 c.f2.f1 = true
  | [], _, _, _, _, c, hc => by simp at hc
  | c :: r, last, kf, ns, h, d, hd => by
    simp only [tabGo] at h
    split at h
    · rename_i e
      rcases List.mem_cons.1 hd with e2 | e2
      · subst e2
        have := e.1
        unfold colB at this
        rw [Bool.and_eq_true, Bool.and_eq_true, Bool.and_eq_true] at this
        exact this.2.2.1
      · exact tabGo_types next key r _ _ _ h d e2
    · cases h
theorem tabB_types {id : Int} {name : ByteArray} {key next : Int} {l : List S_Column} (h : tabB id name key next l = true) : ∀ c ∈ l, typB c.f2.f0 c.f2.f1 = true := by
  unfold tabB at h
  rw [Bool.and_eq_true, Bool.and_eq_true] at h
  exact tabGo_types _ _ _ _ _ _ h.2.2

def nilV : S_Value := ⟨0, 0, ⟨#[]⟩⟩
/-- A value of a type at a text's head: the value, how many bytes, 0 or the error's number. -/
def readS (kd mx : Int) (s : ByteArray) : S_Value × Int × Int :=
  if (longS s).2.2 = 0 then
    (if kd = 1 ∨ kd = 2 then (if fitB kd mx kd (zagS (longS s).1) ⟨#[]⟩ = true then (⟨kd, zagS (longS s).1, ⟨#[]⟩⟩, (longS s).2.1, 0) else (nilV, 0, 10))
     else if mx < (longS s).1 then (nilV, 0, 10)
     else if (s.size : Int) - (longS s).2.1 < (longS s).1 then (nilV, 0, 4)
     else if kd = 3 ∧ utfB (s.extract (longS s).2.1.toNat ((longS s).2.1 + (longS s).1).toNat) = false then (nilV, 0, 5)
     else (⟨kd, 0, s.extract (longS s).2.1.toNat ((longS s).2.1 + (longS s).1).toNat⟩, (longS s).2.1 + (longS s).1, 0))
  else (nilV, 0, (longS s).2.2)
theorem readS_size (kd mx : Int) (s : ByteArray) (h : (readS kd mx s).2.2 = 0) : 0 ≤ (readS kd mx s).2.1 ∧ (readS kd mx s).2.1 ≤ (s.size : Int) := by
  unfold readS at h ⊢
  by_cases h0 : (longS s).2.2 = 0
  · obtain ⟨a1, a2, a3, a4, a5⟩ := long_two s h0
    rw [if_pos h0] at h ⊢
    by_cases h1 : kd = 1 ∨ kd = 2
    · rw [if_pos h1] at h ⊢
      by_cases h2 : fitB kd mx kd (zagS (longS s).1) ⟨#[]⟩ = true
      · rw [if_pos h2]
        show 0 ≤ (longS s).2.1 ∧ (longS s).2.1 ≤ (s.size : Int)
        exact ⟨by omega, a4⟩
      · rw [if_neg h2] at h
        exact absurd h (by decide)
    · rw [if_neg h1] at h ⊢
      by_cases h2 : mx < (longS s).1
      · rw [if_pos h2] at h
        exact absurd h (by decide)
      · rw [if_neg h2] at h ⊢
        by_cases h3 : (s.size : Int) - (longS s).2.1 < (longS s).1
        · rw [if_pos h3] at h
          exact absurd h (by decide)
        · rw [if_neg h3] at h ⊢
          split at h
          · exact absurd h (by decide)
          · rename_i h4
            rw [if_neg h4]
            show 0 ≤ (longS s).2.1 + (longS s).1 ∧ (longS s).2.1 + (longS s).1 ≤ (s.size : Int)
            omega
  · rw [if_neg h0] at h
    exact absurd h h0
theorem typ_cases {kd mx : Int} (h : typB kd mx = true) : (kd = 1 ∨ kd = 2) ∨ (¬ (kd = 1 ∨ kd = 2) ∧ (kd = 3 ∨ kd = 4) ∧ 1 ≤ mx ∧ mx ≤ 120) := by
  unfold typB at h
  split at h
  · exact .inl (by assumption)
  · rename_i h1
    split at h
    · rename_i h2
      exact .inr ⟨h1, h2, of_decide_eq_true h⟩
    · cases h
theorem value_ev (kd mx : Int) (s : ByteArray) (ht : typB kd mx = true) (hs : s.size ≤ 1000000000) :
    ∃ rest : ByteArray, Ev (fun k => rowcode_reader_value k kd mx s) ((((readS kd mx s).1.f0, (readS kd mx s).1.f1, (readS kd mx s).1.f2), (readS kd mx s).2.2), rest) ∧ ((readS kd mx s).2.2 = 0 → rest = s.extract (readS kd mx s).2.1.toNat s.size) := by
  unfold readS
  by_cases h0 : (longS s).2.2 = 0
  · obtain ⟨a1, a2, a3, a4, a5⟩ := long_two s h0
    rw [if_pos h0]
    have hl := word_Long_ev s
    generalize hL : longS s = L at *
    obtain ⟨n, mn, e⟩ := L
    simp only at h0 a1 a2 a3 a4 a5 ⊢
    subst h0
    obtain ⟨m, rfl⟩ := Int.eq_ofNat_of_zero_le (show 0 ≤ mn by omega)
    obtain ⟨N, rfl⟩ := Int.eq_ofNat_of_zero_le a1
    have hcs := cut_size s m
    simp only [Int.toNat_natCast]
    by_cases h1 : kd = 1 ∨ kd = 2
    · rw [if_pos h1]
      refine ⟨s.extract m s.size, Ev.flat2 0 hl (fit_ev kd mx kd (zagS (N : Int)) ⟨#[]⟩ (by decide)) (fun j q1 q2 => ?_), ?_⟩
      · replace q1 := q1 0
        replace q2 := q2 0
        simp only [Nat.add_zero] at q1 q2 ⊢
        simp only [rowcode_reader_value, q1, Option.bind_some, word_Zag_eq _ (N : Int) (by omega) (by omega), q2, if_true]
        rw [if_pos (by omega), if_pos (by omega)]
        by_cases h2 : fitB kd mx kd (zagS (N : Int)) ⟨#[]⟩ = true
        · simp only [if_pos h2]
          by_cases h3 : kd = 1
          · rw [if_pos h3, Int.toNat_natCast, Int.toNat_natCast]
          · rw [if_neg h3, if_pos (by omega), Int.toNat_natCast, Int.toNat_natCast]
        · simp only [if_neg h2]
          by_cases h3 : kd = 1
          · rw [if_pos h3, Int.toNat_natCast, Int.toNat_natCast]
            rfl
          · rw [if_neg h3, if_pos (by omega), Int.toNat_natCast, Int.toNat_natCast]
            rfl
      · intro he
        by_cases h2 : fitB kd mx kd (zagS (N : Int)) ⟨#[]⟩ = true
        · rw [if_pos h2]
          simp
        · rw [if_neg h2] at he
          exact absurd he (by decide)
    · rw [if_neg h1]
      obtain ⟨hk, hm1, hm2⟩ : (kd = 3 ∨ kd = 4) ∧ 1 ≤ mx ∧ mx ≤ 120 := by
        rcases typ_cases ht with h | h
        · exact absurd h h1
        · exact h.2
      have hu : IntKind.u64.wrap mx = mx := u64_id mx (by omega) (by omega)
      have hu2 : IntKind.u64.wrap ((s.extract m s.size).size : Int) = ((s.size - m : Nat) : Int) := by rw [hcs]; exact u64_id _ (by omega) (by omega)
      by_cases h2 : mx < (N : Int)
      · rw [if_pos h2]
        refine ⟨s.extract m s.size, Ev.flat1 0 hl (fun j q1 => ?_), fun he => absurd he (by decide)⟩
        replace q1 := q1 0
        simp only [Nat.add_zero] at q1 ⊢
        simp only [rowcode_reader_value, q1, Option.bind_some, if_true, Int.toNat_natCast]
        rw [if_pos (by omega), if_pos (by omega), if_neg (by omega), if_neg (by omega), hu, if_pos (by omega)]
        rfl
      rw [if_neg h2]
      by_cases h3 : (s.size : Int) - (m : Int) < (N : Int)
      · rw [if_pos h3]
        refine ⟨s.extract m s.size, Ev.flat1 0 hl (fun j q1 => ?_), fun he => absurd he (by decide)⟩
        replace q1 := q1 0
        simp only [Nat.add_zero] at q1 ⊢
        simp only [rowcode_reader_value, q1, Option.bind_some, if_true, Int.toNat_natCast]
        rw [if_pos (by omega), if_pos (by omega), if_neg (by omega), if_neg (by omega), hu, if_neg (by omega), hu2, if_pos (by omega)]
        rfl
      rw [if_neg h3]
      have e2 : ((m : Int) + (N : Int)).toNat = m + N := by omega
      have e1 := cut_to s m N
      have e3 := cut_cut s m N
      rw [e2]
      have hx : (s.extract m (m + N)).size ≤ 1000000000 := by rw [← byt_len, byt_extract]; simp only [List.length_take, List.length_drop, byt_len]; omega
      have hU := uright_ev (s.extract m (m + N)) hx
      refine ⟨s.extract (m + N) s.size, Ev.flat2 0 hl hU (fun j q1 q2 => ?_), ?_⟩
      · replace q1 := q1 0
        replace q2 := q2 0
        simp only [Nat.add_zero] at q1 q2 ⊢
        have z0 : (0 : Int).toNat = 0 := rfl
        simp only [rowcode_reader_value, q1, Option.bind_some, if_true, Int.toNat_natCast, z0, e1, e3]
        rw [if_pos (by omega), if_pos (by omega), if_neg (by omega), if_neg (by omega), hu, if_neg (by omega), hu2, if_neg (by omega), if_pos (by omega), if_pos (by omega), if_pos (by omega), if_pos (by omega)]
        by_cases h4 : kd = 3
        · rw [if_pos h4, q2, Option.bind_some]
          cases h5 : utfB (s.extract m (m + N))
          · rw [if_neg (by simp), if_pos ⟨h4, rfl⟩]
            rfl
          · rw [if_pos rfl, if_neg (fun e => by cases e.2)]
        · rw [if_neg h4, if_neg (fun e => h4 e.1)]
      · intro he
        split
        · rename_i h4
          rw [if_pos h4] at he
          exact absurd he (by decide)
        · simp only [e2]
  · rw [if_neg h0]
    refine ⟨s, Ev.flat1 0 (word_Long_ev s) (fun j q1 => ?_), fun he => absurd he h0⟩
    replace q1 := q1 0
    simp only [Nat.add_zero] at q1 ⊢
    simp only [rowcode_reader_value, q1, Option.bind_some, if_neg h0]
    rfl
/-- A bit of a map. -/
def bitS (s : ByteArray) (i : Nat) : Int := bt s ((i / 8 : Nat) : Int) / 2 ^ (i % 8) % 2
set_option maxRecDepth 100000 in
theorem shr_bit (b : Int) (j : Nat) (hj : j < 8) (h0 : 0 ≤ b) (h1 : b ≤ 255) : Go.bits .and .u8 (shr .u8 b ((j : Nat) : Int)) 1 = b / 2 ^ j % 2 ∧ shr .u8 b ((j : Nat) : Int) = b / 2 ^ j := by
  have : ∀ j : Fin 8, ∀ b : Fin 256, Go.bits .and .u8 (shr .u8 (b.val : Int) ((j.val : Nat) : Int)) 1 = (b.val : Int) / 2 ^ j.val % 2 ∧ shr .u8 (b.val : Int) ((j.val : Nat) : Int) = (b.val : Int) / 2 ^ j.val := by decide +kernel
  obtain ⟨n, rfl⟩ := Int.eq_ofNat_of_zero_le h0
  exact this ⟨j, hj⟩ ⟨n, by omega⟩
/-- One more value in front; an error stands for all. -/
def consR (v : S_Value) (q : List S_Value × Int) : List S_Value × Int := if q.2 = 0 then (v :: q.1, 0) else ([], q.2)
/-- What was read in front. -/
def preR (l : List S_Value) (q : List S_Value × Int) : List S_Value × Int := if q.2 = 0 then (l ++ q.1, 0) else ([], q.2)
theorem preR_cons (l : List S_Value) (v : S_Value) (q : List S_Value × Int) : preR l (consR v q) = preR (l ++ [v]) q := by
  unfold preR consR
  by_cases h : q.2 = 0
  · rw [if_pos h, if_pos h, if_pos rfl]
    simp
  · rw [if_neg h, if_neg h, if_neg h]
theorem preR_err (l : List S_Value) (e : Int) (h : e ≠ 0) : preR l ([], e) = ([], e) := by
  unfold preR
  rw [if_neg h]
/-- The values from a column on. -/
def decGo (s : ByteArray) : List S_Column → Nat → ByteArray → List S_Value × Int
  | [], _, z => if z.size = 0 then ([], 0) else ([], 6)
  | c :: r, i, z =>
    if bitS s i = 1 then (if c.f3 = true then consR nilV (decGo s r (i + 1) z) else ([], 11))
    else if (readS c.f2.f0 c.f2.f1 z).2.2 = 0 then consR (readS c.f2.f0 c.f2.f1 z).1 (decGo s r (i + 1) (z.extract (readS c.f2.f0 c.f2.f1 z).2.1.toNat z.size))
    else ([], (readS c.f2.f0 c.f2.f1 z).2.2)
/-- Is a spare bit set? -/
def spB (s : ByteArray) (n : Nat) : Bool := decide (n % 8 ≠ 0 ∧ bt s ((n / 8 : Nat) : Int) / 2 ^ (n % 8) ≠ 0)
/-- What the reading of a row answers. (By a right table.) -/
def decR (cols : List S_Column) (s : ByteArray) : List S_Value × Int :=
  if s.size < (cols.length + 7) / 8 then ([], 4) else if spB s cols.length = true then ([], 5) else preR [] (decGo s cols 0 (s.extract ((cols.length + 7) / 8) s.size))
theorem s3n (i : Nat) : Go.Proofs.YtgefikclhfjcgaaGreatDoorEv.shr .i64 (i : Int) 3 = ((i / 8 : Nat) : Int) := by
  have : Go.Proofs.YtgefikclhfjcgaaGreatDoorEv.shr .i64 (i : Int) 3 = (i : Int) / 8 := by unfold Go.Proofs.YtgefikclhfjcgaaGreatDoorEv.shr; rfl
  rw [this]
  omega
theorem dec_l0 (id : Int) (name : ByteArray) (key next : Int) (cols : List S_Column) (s : ByteArray) (hs : s.size ≤ 1000000) (h10 : cols.length ≤ 10) (hsz : (cols.length + 7) / 8 ≤ s.size) (ht : ∀ c ∈ cols, typB c.f2.f0 c.f2.f1 = true) (z : ByteArray) (hz : z.size ≤ s.size) :
    Ev (fun k => rowcode_Decode.l0 k s cols (cols.length : Int) 0 id name key next cols z (List.replicate cols.length nilV)) (preR [] (decGo s cols 0 z)) := by
  have h := down (P := fun i => ∀ (l : List S_Value) (z : ByteArray), l.length = i → z.size ≤ s.size → Ev (fun k => rowcode_Decode.l0 k s cols (cols.length : Int) (i : Int) id name key next cols z (l ++ List.replicate (cols.length - i) nilV)) (preR l (decGo s (cols.drop i) i z))) (n := cols.length)
    (fun l z _ _ => by
      rw [List.drop_length, Nat.sub_self, List.replicate_zero, List.append_nil]
      simp only [decGo]
      refine Ev.step (f := fun _ => some (preR l (if z.size = 0 then ([], 0) else ([], 6)))) (fun k => ?_) (Ev.now _)
      simp only [rowcode_Decode.l0]
      rw [if_neg (by omega)]
      unfold rowcode_reader_left preR
      by_cases h : z.size = 0
      · rw [if_pos ((ba_nil0 z).2 h), if_pos h, Option.bind_some, if_pos rfl, if_pos rfl, List.append_nil]
      · rw [if_neg (fun e => h ((ba_nil0 z).1 e)), if_neg h]
        rfl)
    (fun i hi ih l z hl hz => by
      rw [List.drop_eq_getElem_cons hi]
      have hti := ht _ (List.getElem_mem hi)
      generalize hce : cols[i] = c at hti
      have hrd : r_Column cols (i : Int) = c := by rw [rd_col cols i hi, hce]
      have hb := btr s ((i / 8 : Nat) : Int)
      have ha := and7 i (by omega)
      have hd := s3n i
      have hbit := (shr_bit (bt s ((i / 8 : Nat) : Int)) (i % 8) (by omega) hb.1 hb.2).1
      have hrep : l ++ List.replicate (cols.length - i) nilV = (l ++ [nilV]) ++ List.replicate (cols.length - (i + 1)) nilV := by
        rw [show cols.length - i = (cols.length - (i + 1)) + 1 by omega, List.replicate_succ, List.append_assoc]
        rfl
      have hset : ∀ v : S_Value, (l ++ List.replicate (cols.length - i) nilV).set i v = (l ++ [v]) ++ List.replicate (cols.length - (i + 1)) nilV := fun v => by
        rw [show cols.length - i = (cols.length - (i + 1)) + 1 by omega, List.replicate_succ, List.set_append_right _ _ (by omega), hl, Nat.sub_self, List.append_assoc]
        rfl
      simp only [decGo]
      by_cases h1 : bitS s i = 1
      · have h1' : bt s ((i / 8 : Nat) : Int) / 2 ^ (i % 8) % 2 = 1 := h1
        rw [if_pos h1]
        by_cases h2 : c.f3 = true
        · rw [if_pos h2, preR_cons]
          refine Ev.step (fun k => ?_) (ih (l ++ [nilV]) z (by simp; omega) hz)
          simp only [rowcode_Decode.l0]
          rw [hd, ha, hbit, hrd, if_pos (by omega), if_pos (by omega), if_pos (by omega), if_pos (by omega), if_pos (by omega), if_neg (by omega), if_pos h1', if_pos h2, i64w_succ _ (by omega), hrep]
        · rw [if_neg h2, preR_err _ _ (by decide)]
          refine Ev.step (f := fun _ => some ([], 11)) (fun k => ?_) (Ev.now _)
          simp only [rowcode_Decode.l0]
          rw [hd, ha, hbit, hrd, if_pos (by omega), if_pos (by omega), if_pos (by omega), if_pos (by omega), if_pos (by omega), if_neg (by omega), if_pos h1', if_neg h2]
      · have h1' : ¬ bt s ((i / 8 : Nat) : Int) / 2 ^ (i % 8) % 2 = 1 := h1
        rw [if_neg h1]
        obtain ⟨rest, hv, hrest⟩ := value_ev c.f2.f0 c.f2.f1 z hti (by omega)
        refine Ev.step (f := fun k => (rowcode_reader_value k c.f2.f0 c.f2.f1 z).bind fun b => if b.1.2 = 0 then rowcode_Decode.l0 k s cols (cols.length : Int) ((i + 1 : Nat) : Int) id name key next cols b.2 ((l ++ [(⟨b.1.1.1, b.1.1.2.1, b.1.1.2.2⟩ : S_Value)]) ++ List.replicate (cols.length - (i + 1)) nilV) else some ([], b.1.2)) (fun k => ?_) (Ev.bind hv ?_)
        · simp only [rowcode_Decode.l0]
          rw [hd, ha, hbit, hrd, if_pos (by omega), if_pos (by omega), if_pos (by omega), if_pos (by omega), if_pos (by omega), if_neg (by omega), if_neg h1', i64w_succ _ (by omega)]
          refine congrArg _ (funext fun b => ?_)
          by_cases hb0 : b.1.2 = 0
          · rw [if_pos hb0, if_pos hb0, if_pos (by omega), if_pos (by rw [List.length_append, List.length_replicate]; omega), Int.toNat_natCast, hset]
          · rw [if_neg hb0, if_neg hb0]
        · by_cases h3 : (readS c.f2.f0 c.f2.f1 z).2.2 = 0
          · rw [if_pos h3, preR_cons]
            have hr := hrest h3
            have hsz := readS_size c.f2.f0 c.f2.f1 z h3
            refine Ev.congr (fun k => ?_) (ih (l ++ [(readS c.f2.f0 c.f2.f1 z).1]) (z.extract (readS c.f2.f0 c.f2.f1 z).2.1.toNat z.size) (by simp; omega) (by rw [cut_size]; omega))
            rw [if_pos h3, hr]
          · rw [if_neg h3, preR_err _ _ h3]
            exact Ev.congr (f := fun _ => some ([], (readS c.f2.f0 c.f2.f1 z).2.2)) (fun k => by rw [if_neg h3]) (Ev.now _)) 0 (Nat.zero_le _)
  have h2 := h [] z rfl hz
  rw [List.nil_append, Nat.sub_zero, List.drop_zero] at h2
  exact h2
theorem decode_ev (id : Int) (name : ByteArray) (key next : Int) (cols : List S_Column) (s : ByteArray) (hn : name.size ≤ 1000000000) (hok : ∀ c ∈ cols, OkCol c) (hs : s.size ≤ 1000000) :
    Ev (fun k => rowcode_Decode k id name key next cols s) (if tabB id name key next cols = true then decR cols s else ([], 2)) := by
  unfold rowcode_Decode
  refine Ev.bind (table_ev id name key next cols hn hok) ?_
  by_cases ht : tabB id name key next cols = true
  · rw [if_pos ht]
    obtain ⟨h10, _, _⟩ := tabB_more ht
    have hty := tabB_types ht
    have hz : ∀ k, rowcode_size k (cols.length : Int) = some (((cols.length + 7) / 8 : Nat) : Int) := fun k => by
      unfold rowcode_size
      rw [i64w _ (by omega) (by omega), show ((cols.length : Int) + 7) = ((cols.length + 7 : Nat) : Int) by omega, s3n]
    have ha := and7 cols.length (by omega)
    have hnil : (⟨0, 0, (⟨#[]⟩ : ByteArray)⟩ : S_Value) = nilV := rfl
    have hgo : (cols.length + 7) / 8 ≤ s.size → Ev (fun k => if 0 ≤ (((cols.length + 7) / 8 : Nat) : Int) then (if (((cols.length + 7) / 8 : Nat) : Int) ≤ (s.size : Int) then (if 0 ≤ (cols.length : Int) then (if (cols.length : Int).toNat < 4398046511104 then rowcode_Decode.l0 k s cols (cols.length : Int) 0 id name key next cols (s.extract ((((cols.length + 7) / 8 : Nat) : Int) : Int).toNat ((s.size : Int) : Int).toNat) (List.replicate ((cols.length : Int)).toNat (⟨0, 0, (⟨#[]⟩ : ByteArray)⟩ : S_Value)) else none) else none) else none) else none) (preR [] (decGo s cols 0 (s.extract ((cols.length + 7) / 8) s.size))) := fun h => by
      refine Ev.congr (fun k => ?_) (dec_l0 id name key next cols s hs h10 h hty (s.extract ((cols.length + 7) / 8) s.size) (by rw [cut_size]; omega))
      rw [if_pos (by omega), if_pos (by omega), if_pos (by omega), if_pos (by omega), Int.toNat_natCast, Int.toNat_natCast, Int.toNat_natCast, hnil]
    refine Ev.congr (fun k => by rw [if_pos ht, hz, Option.bind_some, ha]) ?_
    unfold decR
    by_cases h1 : s.size < (cols.length + 7) / 8
    · rw [if_pos h1]
      exact Ev.congr (f := fun _ => some ([], 4)) (fun k => by rw [if_pos (by omega)]) (Ev.now _)
    rw [if_neg h1]
    by_cases h2 : cols.length % 8 = 0
    · rw [if_neg (show ¬ spB s cols.length = true by unfold spB; rw [decide_eq_true_iff]; exact fun e => e.1 h2)]
      exact Ev.congr (fun k => by rw [if_neg (by omega), if_pos (by omega)]) (hgo (by omega))
    · have hb := btr s ((cols.length / 8 : Nat) : Int)
      have hsh := (shr_bit (bt s ((cols.length / 8 : Nat) : Int)) (cols.length % 8) (by omega) hb.1 hb.2).2
      have hw : IntKind.i64.wrap ((((cols.length + 7) / 8 : Nat) : Int) - 1) = ((cols.length / 8 : Nat) : Int) := by rw [i64w _ (by omega) (by omega)]; omega
      refine Ev.congr (fun k => by rw [hw, hsh, if_neg (by omega), if_neg (by omega), if_pos (by omega), if_pos (by omega), if_neg (by omega)]) ?_
      by_cases h3 : bt s ((cols.length / 8 : Nat) : Int) / 2 ^ (cols.length % 8) = 0
      · rw [if_neg (show ¬ spB s cols.length = true by unfold spB; rw [decide_eq_true_iff]; exact fun e => e.2 h3)]
        exact Ev.congr (fun k => by rw [if_pos h3]) (hgo (by omega))
      · rw [if_pos (show spB s cols.length = true by unfold spB; rw [decide_eq_true_iff]; exact ⟨h2, h3⟩)]
        exact Ev.congr (f := fun _ => some ([], 5)) (fun k => by rw [if_neg h3]) (Ev.now _)
  · rw [if_neg ht]
    exact Ev.congr (f := fun _ => some ([], 2)) (fun k => by rw [if_neg ht]) (Ev.now _)

theorem placekey_ev (a0 : Int) (a1 : ByteArray) (a2 a3 : Int) (m l : List S_Column) (hb : l.length ≤ 9223372036854775807) : Ev (fun k => schema_place_api_Column k l a0 a1 a2 a3 m) (scan (fun c => decide (c.f0 = a2)) l 0, (a0, a1, a2, a3, m)) := by
  have h := down (P := fun i => Ev (fun k => schema_place_api_Column.l0 k l (l.length : Int) (i : Int) a0 a1 a2 a3 m) (scan (fun c => decide (c.f0 = a2)) (l.drop i) i, (a0, a1, a2, a3, m))) (n := l.length)
    (by rw [List.drop_length]; exact Ev.step (f := fun _ => some ((0, false), (a0, a1, a2, a3, m))) (fun k => by simp only [schema_place_api_Column.l0]; rw [if_neg (by omega)]) (Ev.now _))
    (fun i hi ih => by
      rw [List.drop_eq_getElem_cons hi]
      refine Ev.step (f := fun k => if (decide (l[i].f0 = a2)) = true then some (((i : Int), true), (a0, a1, a2, a3, m)) else schema_place_api_Column.l0 k l (l.length : Int) ((i + 1 : Nat) : Int) a0 a1 a2 a3 m) (fun k => ?_) ?_
      · simp only [schema_place_api_Column.l0]
        rw [if_pos (by omega), if_pos (by omega), if_pos (by omega), rd_col l i hi, i64w_succ _ (by omega)]
        simp [schema_Key_1]
      · simp only [scan]
        split
        · exact Ev.now _
        · exact ih) 0 (Nat.zero_le _)
  exact h
theorem key_ev (a0 : Int) (a1 : ByteArray) (a2 a3 : Int) (l : List S_Column) (hb : l.length ≤ 9223372036854775807) : Ev (fun k => schema_Key k a0 a1 a2 a3 l) (scan (fun c => decide (c.f0 = a2)) l 0) :=
  Ev.bind (placekey_ev a0 a1 a2 a3 l l hb) (Ev.now _)

theorem rkey_l0 (a0 : Int) (a1 : ByteArray) (a2 a3 : Int) (l : List S_Column) (hb : l.length ≤ 9223372036854775807) : Ev (fun k => haulageref08_Key.l0 k (0 : Int) a0 a1 a2 a3 l) (scanR (fun c => decide (c.f0 = a2)) l 0) := by
  have h := down (P := fun i => Ev (fun k => haulageref08_Key.l0 k (i : Int) a0 a1 a2 a3 l) (scanR (fun c => decide (c.f0 = a2)) (l.drop i) i)) (n := l.length)
    (by rw [List.drop_length]; exact Ev.step (f := fun _ => some (-1)) (fun k => by simp only [haulageref08_Key.l0]; rw [if_neg (by omega)]) (Ev.now _))
    (fun i hi ih => by
      rw [List.drop_eq_getElem_cons hi]
      refine Ev.step (f := fun k => if (decide (l[i].f0 = a2)) = true then some (i : Int) else haulageref08_Key.l0 k ((i + 1 : Nat) : Int) a0 a1 a2 a3 l) (fun k => ?_) ?_
      · simp only [haulageref08_Key.l0]
        rw [if_pos (by omega), if_pos (by omega), if_pos (by omega), rd_col l i hi, i64w_succ _ (by omega)]
        simp only [ba_iff, decide_eq_true_eq]
      · simp only [scanR]
        split
        · exact Ev.now _
        · exact ih) 0 (Nat.zero_le _)
  exact h

theorem rkey_ev (a0 : Int) (a1 : ByteArray) (a2 a3 : Int) (l : List S_Column) (hb : l.length ≤ 9223372036854775807) : Ev (fun k => haulageref08_Key k a0 a1 a2 a3 l) (scanR (fun c => decide (c.f0 = a2)) l 0) := rkey_l0 a0 a1 a2 a3 l hb

theorem refEnds_stop (s : ByteArray) (i : Nat) (h : ¬ (i < s.size ∧ i < 10)) :
    Ev (fun k => haulageref01_Ends.l0 k s (i : Int)) (0, if s.size < 10 then 4 else 5) := by
  refine Ev.step (f := fun _ => some (0, if s.size < 10 then 4 else 5)) (fun k => ?_) (Ev.now _)
  have e : ((s.size : Int) < 10) = (s.size < 10) := propext ⟨fun h => by omega, fun h => by omega⟩
  simp only [haulageref01_Ends.l0, e]
  by_cases h1 : i < s.size
  · rw [if_pos (by omega), if_neg (by omega)]; split <;> rfl
  · rw [if_neg (by omega)]; split <;> rfl

theorem refEnds_l0 (s : ByteArray) (d : Nat) : ∀ i, i + d = 10 → Ev (fun k => haulageref01_Ends.l0 k s (i : Int)) (ends s i) := by
  induction d with
  | zero =>
    intro i hi
    have := refEnds_stop s i (by omega)
    rw [ends_stop (by omega)]
    by_cases h1 : s.size < 10
    · simpa [h1] using this
    · simpa [h1] using this
  | succ d ih =>
    intro i hi
    by_cases h : i < s.size ∧ i < 10
    · have hb := btr s (i : Int)
      have hw1 : IntKind.i64.wrap ((i : Int) + 1) = ((i + 1 : Nat) : Int) := i64w_succ _ (by omega)
      by_cases hc : bt s (i : Int) < 128
      · rw [ends_last h hc]
        by_cases hbad : (0 < i ∧ bt s (i : Int) = 0) ∨ (i = 9 ∧ 1 < bt s (i : Int))
        · rw [if_pos hbad]
          refine Ev.step (f := fun _ => some (0, 5)) (fun k => ?_) (Ev.now _)
          simp only [haulageref01_Ends.l0]
          rw [if_pos (by omega), if_pos (by omega), if_pos (by omega), if_pos (by omega), if_pos hc]
          rcases hbad with ⟨h0, h1⟩ | ⟨h0, h1⟩
          · rw [if_pos (by omega), if_pos (by omega), if_pos (by omega), if_pos h1]
          · rw [if_pos (by omega), if_pos (by omega), if_pos (by omega), if_neg (by omega), if_pos (by omega), if_pos (by omega), if_pos (by omega), if_pos h1]
        · rw [if_neg hbad]
          refine Ev.step (f := fun _ => some (((i + 1 : Nat) : Int), 0)) (fun k => ?_) (Ev.now _)
          simp only [haulageref01_Ends.l0]
          rw [if_pos (by omega), if_pos (by omega), if_pos (by omega), if_pos (by omega), if_pos hc, hw1]
          by_cases h0 : i = 0
          · rw [if_neg (by omega), if_neg (by omega)]
          · have hn0 : ¬ bt s (i : Int) = 0 := fun e => hbad (.inl ⟨by omega, e⟩)
            rw [if_pos (by omega), if_pos (by omega), if_pos (by omega), if_neg hn0]
            by_cases h9 : i = 9
            · have hn9 : ¬ bt s (i : Int) > 1 := fun e => hbad (.inr ⟨h9, e⟩)
              rw [if_pos (by omega), if_pos (by omega), if_pos (by omega), if_neg hn9]
            · rw [if_neg (by omega)]
      · rw [ends_more h hc]
        refine Ev.step (f := fun k => haulageref01_Ends.l0 k s ((i + 1 : Nat) : Int)) (fun k => ?_) (ih (i + 1) (by omega))
        simp only [haulageref01_Ends.l0]
        rw [if_pos (by omega), if_pos (by omega), if_pos (by omega), if_pos (by omega), if_neg hc, hw1]
    · have := refEnds_stop s i h
      rw [ends_stop h]
      by_cases h1 : s.size < 10
      · simpa [h1] using this
      · simpa [h1] using this

theorem refLong_l0 (s : ByteArray) (size : Int) (V : Int) (hV : V < 18446744073709551616) (i : Nat) : i ≤ s.size → i ≤ 10 → ∀ n : Int, 0 ≤ n → val s i + n * 128 ^ i = V →
    Ev (fun k => haulageref01_Long.l0 k s size n ((i : Int) - 1)) (V, size, 0) := by
  induction i with
  | zero =>
    intro _ _ n hn h
    refine Ev.step (f := fun _ => some (V, size, 0)) (fun k => ?_) (Ev.now _)
    simp only [haulageref01_Long.l0]
    simp only [val] at h
    rw [if_neg (by omega), show n = V by omega]
  | succ i ih =>
    intro hs h10 n hn h
    have hb := btr s (i : Int)
    have hp := p128_pos i
    have e1 : (((i + 1 : Nat) : Int) - 1) = (i : Int) := by omega
    rw [e1]
    have h1 : 0 ≤ bt s (i : Int) % 128 := by omega
    have hn' : val s i + (n * 128 + bt s (i : Int) % 128) * 128 ^ i = V := by
      rw [← h]
      simp only [val, Int.pow_succ, Int.add_mul, Int.mul_assoc]
      rw [Int.mul_comm 128 (128 ^ i)]
      omega
    have hle : (n * 128 + bt s (i : Int) % 128) ≤ (n * 128 + bt s (i : Int) % 128) * 128 ^ i := by
      have : (n * 128 + bt s (i : Int) % 128) * 1 ≤ (n * 128 + bt s (i : Int) % 128) * 128 ^ i := Int.mul_le_mul_of_nonneg_left (by omega) (by omega)
      omega
    have hv := val_range s i
    refine Ev.step (f := fun k => haulageref01_Long.l0 k s size (n * 128 + bt s (i : Int) % 128) ((i : Int) - 1)) (fun k => ?_) (ih (by omega) (by omega) _ (by omega) hn')
    simp only [haulageref01_Long.l0]
    rw [if_pos (by omega), if_pos (by omega), if_pos (by omega), tmod_nonneg_eq _ _ (by omega), u64_id (n * 128) (by omega) (by omega), u64_id (bt s (i : Int) % 128) (by omega) (by omega), u64_id (n * 128 + bt s (i : Int) % 128) (by omega) (by omega),
      i64w ((i : Int) - 1) (by omega) (by omega)]

theorem refLong_ev (s : ByteArray) : Ev (fun k => haulageref01_Long k s) (longS s) := by
  unfold haulageref01_Long
  have he : Ev (fun k => haulageref01_Ends k s) (ends s 0) := by simpa [haulageref01_Ends] using refEnds_l0 s 10 0 rfl
  refine Ev.bind he ?_
  unfold longS
  by_cases e : (ends s 0).2 = 0
  · obtain ⟨m, e1, _, h3, h4, h5, h6, h7, h8⟩ := ends_ok s 10 0 rfl e
    have hv := val_lt s m h3 h7 h5
    have := refLong_l0 s (ends s 0).1 (val s (m + 1)) hv.2 (m + 1) (by omega) (by omega) 0 (by omega) (by omega)
    rw [if_pos e]
    refine Ev.congr (f := fun k => haulageref01_Long.l0 k s (ends s 0).1 0 (((m + 1 : Nat) : Int) - 1)) (fun k => ?_) ?_
    · rw [if_pos e, e1, i64w (((m + 1 : Nat) : Int) - 1) (by omega) (by omega)]
    · rw [e1] at this ⊢
      simpa using this
  · rw [if_neg e]
    refine Ev.congr (f := fun _ => some (0, 0, (ends s 0).2)) (fun k => ?_) (Ev.now _)
    rw [if_neg e]

theorem refZag_eq (k : Nat) (u : Int) (h0 : 0 ≤ u) (h1 : u ≤ 18446744073709551615) : haulageref01_Zag k u = some (zagS u) := by
  unfold haulageref01_Zag zagS
  simp only [u64_eq, tmod_nonneg_eq _ _ h0, tdiv_nonneg_eq _ _ h0]
  rw [show u / 2 % 18446744073709551616 = u / 2 by omega, i64w (u / 2) (by omega) (by omega)]
  by_cases h : u % 2 = 0
  · rw [if_pos h, if_pos h]
  · rw [if_neg h, if_neg h, i64w ((-1) - u / 2) (by omega) (by omega)]

theorem ris_eq (k : Nat) (n : Int) : haulageref03_Is k n = some (isB n) := by
  unfold haulageref03_Is isB
  simp only [ge_iff_le, gt_iff_lt]
  by_cases h1 : 0 ≤ n <;> by_cases h2 : n ≤ 1114111 <;> by_cases h3 : n < 55296 <;> simp [h1, h2, h3]
/-- The bytes of a sign. -/
def putU (n : Int) : List Int :=
  if n < 128 then [n] else if n < 2048 then [192 + n / 64, 128 + n % 64] else if n < 65536 then [224 + n / 4096, 128 + n / 64 % 64, 128 + n % 64] else [240 + n / 262144, 128 + n / 4096 % 64, 128 + n / 64 % 64, 128 + n % 64]
theorem putU_bytes (n : Int) (h : isB n = true) : Bytes (putU n) := by
  have h := (isB_iff n).1 h
  unfold putU
  intro x hx
  split at hx
  · simp only [List.mem_cons, List.not_mem_nil, or_false] at hx
    omega
  · split at hx
    · simp only [List.mem_cons, List.not_mem_nil, or_false] at hx
      rcases hx with rfl | rfl <;> omega
    · split at hx
      · simp only [List.mem_cons, List.not_mem_nil, or_false] at hx
        rcases hx with rfl | rfl | rfl <;> omega
      · simp only [List.mem_cons, List.not_mem_nil, or_false] at hx
        rcases hx with rfl | rfl | rfl | rfl <;> omega
theorem one_eq (k : Nat) (n : Int) (h0 : 0 ≤ n) (h1 : n ≤ 255) : haulageref03_one k n = some (strOfNums [n]) := by
  unfold haulageref03_one
  rw [show IntKind.u8.wrap n = n by simp [IntKind.wrap, IntKind.bits, IntKind.signed]; omega]
  rfl
theorem rput_eq (k : Nat) (n : Int) (h : isB n = true) : haulageref03_Put k n = some (strOfNums (putU n)) := by
  have h := (isB_iff n).1 h
  unfold haulageref03_Put putU
  have t1 : Int.tdiv n 64 = n / 64 := Int.tdiv_eq_ediv_of_nonneg h.1
  have t2 : Int.tdiv n 4096 = n / 4096 := Int.tdiv_eq_ediv_of_nonneg h.1
  have t3 : Int.tdiv n 262144 = n / 262144 := Int.tdiv_eq_ediv_of_nonneg h.1
  have t4 : Int.tmod n 64 = n % 64 := Int.tmod_eq_emod_of_nonneg h.1
  have t5 : Int.tmod (n / 64) 64 = n / 64 % 64 := Int.tmod_eq_emod_of_nonneg (by omega)
  have t6 : Int.tmod (n / 4096) 64 = n / 4096 % 64 := Int.tmod_eq_emod_of_nonneg (by omega)
  have hz : ∀ l : List Int, (strOfNums l).size = l.length := strOfNums_size
  by_cases h1 : n < 128
  · rw [if_pos h1, if_pos h1, one_eq k n h.1 (by omega), Option.bind_some]
  · rw [if_neg h1, if_neg h1]
    rw [t1, t2, t3, t4, i64w (n / 64) (by omega) (by omega), i64w (n / 4096) (by omega) (by omega), i64w (n / 262144) (by omega) (by omega), t5, t6,
      i64w (192 + n / 64) (by omega) (by omega), i64w (128 + n % 64) (by omega) (by omega), i64w (224 + n / 4096) (by omega) (by omega), i64w (128 + n / 64 % 64) (by omega) (by omega), i64w (240 + n / 262144) (by omega) (by omega), i64w (128 + n / 4096 % 64) (by omega) (by omega)]
    by_cases h2 : n < 2048
    · rw [if_pos h2, if_pos h2, one_eq k _ (by omega) (by omega), one_eq k (128 + n % 64) (by omega) (by omega)]
      simp only [Option.bind_some]
      rw [if_pos (by rw [hz, hz]; simp), ← strOfNums_append]
      rfl
    · rw [if_neg h2, if_neg h2]
      by_cases h3 : n < 65536
      · rw [if_pos h3, if_pos h3, one_eq k _ (by omega) (by omega), one_eq k (128 + n / 64 % 64) (by omega) (by omega), one_eq k (128 + n % 64) (by omega) (by omega)]
        simp only [Option.bind_some]
        rw [if_pos (by rw [hz, hz]; simp), ← strOfNums_append, if_pos (by rw [hz, hz]; simp), ← strOfNums_append]
        rfl
      · rw [if_neg h3, if_neg h3, one_eq k _ (by omega) (by omega), one_eq k (128 + n / 4096 % 64) (by omega) (by omega), one_eq k (128 + n / 64 % 64) (by omega) (by omega), one_eq k (128 + n % 64) (by omega) (by omega)]
        simp only [Option.bind_some]
        rw [if_pos (by rw [hz, hz]; simp), ← strOfNums_append, if_pos (by rw [hz, hz]; simp), ← strOfNums_append, if_pos (by rw [hz, hz]; simp), ← strOfNums_append]
        rfl
/-- What the reference's loop over a size's bytes comes to: found, or on with the next size. -/
theorem rl1_end (s : ByteArray) (size : Nat) (n i : Int) (h : ¬ i < (size : Int)) (hz : size ≤ s.size) (h4 : size ≤ 4) (r : Int × Int × Bool)
    (hy : isB n = true → putU n = (byt s).take size → r = (n, (size : Int), true)) (hn : ¬ (isB n = true ∧ putU n = (byt s).take size) → Ev (fun k => haulageref03_Read.l0 k s ((size + 1 : Nat) : Int)) r) : Ev (fun k => haulageref03_Read.l1 k s (size : Int) n i) r := by
  by_cases h1 : isB n = true
  · have hc : (strOfNums (putU n)).toList = (s.extract 0 size).toList ↔ putU n = (byt s).take size := by
      rw [ba_iff]
      constructor
      · intro e
        have := congrArg byt e
        rw [byt_str (putU_bytes n h1), byt_to] at this
        exact this
      · intro e
        rw [e, ← byt_to, str_byt]
    by_cases h2 : putU n = (byt s).take size
    · rw [hy h1 h2]
      refine Ev.step (f := fun _ => some (n, (size : Int), true)) (fun k => ?_) (Ev.now _)
      simp only [haulageref03_Read.l1]
      rw [if_neg h, ris_eq, Option.bind_some, if_pos h1, rput_eq k n h1, Option.bind_some, if_pos (by omega), if_pos (by omega), show ((size : Int)).toNat = size by omega, show (0 : Int).toNat = 0 from rfl, if_pos (hc.2 h2)]
    · refine Ev.step (fun k => ?_) (hn (fun e => h2 e.2))
      simp only [haulageref03_Read.l1]
      rw [if_neg h, ris_eq, Option.bind_some, if_pos h1, rput_eq k n h1, Option.bind_some, if_pos (by omega), if_pos (by omega), show ((size : Int)).toNat = size by omega, show (0 : Int).toNat = 0 from rfl, if_neg (fun e => h2 (hc.1 e)), i64w_succ _ (by omega)]
  · refine Ev.step (fun k => ?_) (hn (fun e => h1 e.1))
    simp only [haulageref03_Read.l1]
    rw [if_neg h, ris_eq, Option.bind_some, if_neg h1, i64w_succ _ (by omega)]
theorem rl1_step (s : ByteArray) (size : Int) (n b : Int) (i : Nat) (h : (i : Int) < size) (hi : i < s.size) (hs : s.size ≤ 9223372036854775807) (hb : bt s (i : Int) = b) (hb0 : 0 ≤ b) (hb1 : b ≤ 255) (hn0 : -1000000000 ≤ n) (hn : n ≤ 1000000000) (r : Int × Int × Bool)
    (hk : Ev (fun k => haulageref03_Read.l1 k s size (n * 64 + (b - 128)) ((i + 1 : Nat) : Int)) r) : Ev (fun k => haulageref03_Read.l1 k s size n (i : Int)) r := by
  refine Ev.step (fun k => ?_) hk
  simp only [haulageref03_Read.l1]
  rw [if_pos h, if_pos (by omega), if_pos (by omega), hb, i64w (n * 64) (by omega) (by omega), i64w b (by omega) (by omega), i64w (n * 64 + b) (by omega) (by omega), i64w (n * 64 + b - 128) (by omega) (by omega), i64w_succ _ (by omega), show n * 64 + b - 128 = n * 64 + (b - 128) by omega]
/-- A size's turn. -/
theorem rl0_go (s : ByteArray) (size : Nat) (h0 : 1 ≤ size) (h4 : size ≤ 4) (hz : size ≤ s.size) (c : Int) (hc : bt s 0 = c) (hc0 : 0 ≤ c) (hc1 : c ≤ 255) (r : Int × Int × Bool)
    (hk : Ev (fun k => haulageref03_Read.l1 k s (size : Int) (if size = 2 then c - 192 else if size = 3 then c - 224 else if size = 4 then c - 240 else c) ((1 : Nat) : Int)) r) : Ev (fun k => haulageref03_Read.l0 k s (size : Int)) r := by
  have w : IntKind.i64.wrap c = c := i64w c (by omega) (by omega)
  refine Ev.step (fun k => ?_) hk
  simp only [haulageref03_Read.l0]
  rw [if_pos (by omega), if_pos (by omega), if_pos (by omega), hc, w, i64w (c - 192) (by omega) (by omega)]
  by_cases e2 : size = 2
  · subst e2; rfl
  by_cases e3 : size = 3
  · subst e3; simp only; rw [i64w (c - 224) (by omega) (by omega)]; rfl
  by_cases e4 : size = 4
  · subst e4; simp only; rw [i64w (c - 240) (by omega) (by omega)]; rfl
  rw [if_neg (by omega), if_neg (by omega), if_neg (by omega), if_neg e2, if_neg e3, if_neg e4]
  rfl
theorem rl0_stop (s : ByteArray) (size : Nat) (h : 4 < size ∨ s.size < size) : Ev (fun k => haulageref03_Read.l0 k s (size : Int)) (0, 0, false) := by
  refine Ev.step (f := fun _ => some (0, 0, false)) (fun k => ?_) (Ev.now _)
  simp only [haulageref03_Read.l0]
  by_cases h4 : size ≤ 4
  · rw [if_pos (by omega), if_neg (by omega)]
  · rw [if_neg (by omega)]
theorem put1 (c : Int) (hc : 0 ≤ c ∧ c ≤ 255) : putU c = [c] ↔ c < 128 := by
  unfold putU
  split
  · simp_all
  · split
    · simp; omega
    · split
      · simp; omega
      · simp; omega
theorem put2 (c b1 : Int) (hc : 0 ≤ c ∧ c ≤ 255) (h1 : 0 ≤ b1 ∧ b1 ≤ 255) : (isB ((c - 192) * 64 + (b1 - 128)) = true ∧ putU ((c - 192) * 64 + (b1 - 128)) = [c, b1]) ↔ (c / 32 = 6 ∧ b1 / 64 = 2 ∧ isB ((c - 192) * 64 + (b1 - 128)) = true ∧ 128 ≤ (c - 192) * 64 + (b1 - 128)) := by
  generalize hn : (c - 192) * 64 + (b1 - 128) = n
  rw [isB_iff]
  unfold putU
  split
  · simp; omega
  · split
    · simp only [List.cons.injEq, and_true]
      omega
    · split
      · simp; omega
      · simp; omega
theorem put3 (c b1 b2 : Int) (hc : 0 ≤ c ∧ c ≤ 255) (h1 : 0 ≤ b1 ∧ b1 ≤ 255) (h2 : 0 ≤ b2 ∧ b2 ≤ 255) : (isB (((c - 224) * 64 + (b1 - 128)) * 64 + (b2 - 128)) = true ∧ putU (((c - 224) * 64 + (b1 - 128)) * 64 + (b2 - 128)) = [c, b1, b2]) ↔ (c / 16 = 14 ∧ b1 / 64 = 2 ∧ b2 / 64 = 2 ∧ isB (((c - 224) * 64 + (b1 - 128)) * 64 + (b2 - 128)) = true ∧ 2048 ≤ ((c - 224) * 64 + (b1 - 128)) * 64 + (b2 - 128)) := by
  generalize hn : ((c - 224) * 64 + (b1 - 128)) * 64 + (b2 - 128) = n
  rw [isB_iff]
  unfold putU
  split
  · simp; omega
  · split
    · simp; omega
    · split
      · simp only [List.cons.injEq, and_true]
        omega
      · simp; omega
theorem put4 (c b1 b2 b3 : Int) (hc : 0 ≤ c ∧ c ≤ 255) (h1 : 0 ≤ b1 ∧ b1 ≤ 255) (h2 : 0 ≤ b2 ∧ b2 ≤ 255) (h3 : 0 ≤ b3 ∧ b3 ≤ 255) : (isB ((((c - 240) * 64 + (b1 - 128)) * 64 + (b2 - 128)) * 64 + (b3 - 128)) = true ∧ putU ((((c - 240) * 64 + (b1 - 128)) * 64 + (b2 - 128)) * 64 + (b3 - 128)) = [c, b1, b2, b3]) ↔ (c / 8 = 30 ∧ b1 / 64 = 2 ∧ b2 / 64 = 2 ∧ b3 / 64 = 2 ∧ isB ((((c - 240) * 64 + (b1 - 128)) * 64 + (b2 - 128)) * 64 + (b3 - 128)) = true ∧ 65536 ≤ (((c - 240) * 64 + (b1 - 128)) * 64 + (b2 - 128)) * 64 + (b3 - 128)) := by
  generalize hn : (((c - 240) * 64 + (b1 - 128)) * 64 + (b2 - 128)) * 64 + (b3 - 128) = n
  rw [isB_iff]
  unfold putU
  split
  · simp; omega
  · split
    · simp; omega
    · split
      · simp; omega
      · simp only [List.cons.injEq, and_true]
        omega
theorem rread_ev (s : ByteArray) (hs : s.size ≤ 9223372036854775807) : Ev (fun k => haulageref03_Read k s) (sgn (byt s)) := by
  have hlen := byt_len s
  have hby := byt_bytes s
  unfold haulageref03_Read
  show Ev (fun k => haulageref03_Read.l0 k s ((1 : Nat) : Int)) (sgn (byt s))
  generalize hl : byt s = l at hlen hby
  cases l with
  | nil => exact rl0_stop s 1 (.inr (by rw [← hlen]; decide))
  | cons c r =>
    have hz : s.size = r.length + 1 := by rw [← hlen]; rfl
    have hc := hby c (by simp)
    have e0 : bt s 0 = c := byt_at hl 0 c rfl
    refine rl0_go s 1 (by omega) (by omega) (by omega) c e0 hc.1 hc.2 _ ?_
    refine rl1_end s 1 c _ (by omega) (by omega) (by omega) _ (fun hb hp => ?_) (fun hno => ?_)
    · rw [hl] at hp
      have h1 := (put1 c hc).1 hp
      simp only [sgn, if_pos h1]
      rfl
    · rw [hl] at hno
      have h1 : ¬ c < 128 := fun h => hno ⟨(isB_iff c).2 (by omega), (put1 c hc).2 h⟩
      simp only [sgn, if_neg h1]
      show Ev (fun k => haulageref03_Read.l0 k s ((2 : Nat) : Int)) _
      cases r with
      | nil =>
        refine Ev.eq (rl0_stop s 2 (.inr (by simp at hz; omega))) ?_
        dsimp only
        split <;> (try split) <;> (try split) <;> rfl
      | cons b1 r =>
        simp only [List.length_cons] at hz
        have q1 := hby b1 (by simp)
        refine rl0_go s 2 (by omega) (by omega) (by omega) c e0 hc.1 hc.2 _ ?_
        rw [if_pos rfl]
        refine rl1_step s _ _ b1 1 (by omega) (by omega) hs (byt_at hl 1 b1 rfl) q1.1 q1.2 (by omega) (by omega) _ ?_
        have p2 := put2 c b1 hc q1
        refine rl1_end s 2 _ _ (by omega) (by omega) (by omega) _ (fun hb hp => ?_) (fun hno => ?_)
        · rw [hl] at hp
          obtain ⟨a1, a2, a3, a4⟩ := p2.1 ⟨hb, hp⟩
          rw [if_pos a1]
          dsimp only
          rw [if_pos a2]
          unfold finU
          rw [if_pos ⟨a3, a4⟩]
          rfl
        · rw [hl] at hno
          have hno : ¬ (c / 32 = 6 ∧ b1 / 64 = 2 ∧ isB ((c - 192) * 64 + (b1 - 128)) = true ∧ 128 ≤ (c - 192) * 64 + (b1 - 128)) := fun h => hno (p2.2 h)
          show Ev (fun k => haulageref03_Read.l0 k s ((3 : Nat) : Int)) _
          have hk : Ev (fun k => haulageref03_Read.l0 k s ((3 : Nat) : Int)) (if c / 16 = 14 then (match b1 :: r with | b1 :: b2 :: _ => if b1 / 64 = 2 then (if b2 / 64 = 2 then finU (((c - 224) * 64 + (b1 - 128)) * 64 + (b2 - 128)) 2048 3 else (0, 0, false)) else (0, 0, false) | _ => (0, 0, false))
              else if c / 8 = 30 then (match b1 :: r with | b1 :: b2 :: b3 :: _ => if b1 / 64 = 2 then (if b2 / 64 = 2 then (if b3 / 64 = 2 then finU ((((c - 240) * 64 + (b1 - 128)) * 64 + (b2 - 128)) * 64 + (b3 - 128)) 65536 4 else (0, 0, false)) else (0, 0, false)) else (0, 0, false) | _ => (0, 0, false)) else (0, 0, false)) := by
            cases r with
            | nil =>
              refine Ev.eq (rl0_stop s 3 (.inr (by simp at hz; omega))) ?_
              dsimp only
              split <;> (try split) <;> rfl
            | cons b2 r =>
              simp only [List.length_cons] at hz
              have q2 := hby b2 (by simp)
              refine rl0_go s 3 (by omega) (by omega) (by omega) c e0 hc.1 hc.2 _ ?_
              rw [if_neg (by decide), if_pos rfl]
              refine rl1_step s _ _ b1 1 (by omega) (by omega) hs (byt_at hl 1 b1 rfl) q1.1 q1.2 (by omega) (by omega) _ ?_
              refine rl1_step s _ _ b2 2 (by omega) (by omega) hs (byt_at hl 2 b2 rfl) q2.1 q2.2 (by omega) (by omega) _ ?_
              have p3 := put3 c b1 b2 hc q1 q2
              refine rl1_end s 3 _ _ (by omega) (by omega) (by omega) _ (fun hb hp => ?_) (fun hno3 => ?_)
              · rw [hl] at hp
                obtain ⟨a1, a2, a3, a4, a5⟩ := p3.1 ⟨hb, hp⟩
                rw [if_pos a1]
                dsimp only
                rw [if_pos a2, if_pos a3]
                unfold finU
                rw [if_pos ⟨a4, a5⟩]
                rfl
              · rw [hl] at hno3
                have hno3 : ¬ (c / 16 = 14 ∧ b1 / 64 = 2 ∧ b2 / 64 = 2 ∧ isB (((c - 224) * 64 + (b1 - 128)) * 64 + (b2 - 128)) = true ∧ 2048 ≤ ((c - 224) * 64 + (b1 - 128)) * 64 + (b2 - 128)) := fun h => hno3 (p3.2 h)
                show Ev (fun k => haulageref03_Read.l0 k s ((4 : Nat) : Int)) _
                have hk4 : Ev (fun k => haulageref03_Read.l0 k s ((4 : Nat) : Int)) (if c / 8 = 30 then (match b1 :: b2 :: r with | b1 :: b2 :: b3 :: _ => if b1 / 64 = 2 then (if b2 / 64 = 2 then (if b3 / 64 = 2 then finU ((((c - 240) * 64 + (b1 - 128)) * 64 + (b2 - 128)) * 64 + (b3 - 128)) 65536 4 else (0, 0, false)) else (0, 0, false)) else (0, 0, false) | _ => (0, 0, false)) else (0, 0, false)) := by
                  cases r with
                  | nil =>
                    refine Ev.eq (rl0_stop s 4 (.inr (by simp at hz; omega))) ?_
                    dsimp only
                    split <;> rfl
                  | cons b3 r =>
                    simp only [List.length_cons] at hz
                    have q3 := hby b3 (by simp)
                    refine rl0_go s 4 (by omega) (by omega) (by omega) c e0 hc.1 hc.2 _ ?_
                    rw [if_neg (by decide), if_neg (by decide), if_pos rfl]
                    refine rl1_step s _ _ b1 1 (by omega) (by omega) hs (byt_at hl 1 b1 rfl) q1.1 q1.2 (by omega) (by omega) _ ?_
                    refine rl1_step s _ _ b2 2 (by omega) (by omega) hs (byt_at hl 2 b2 rfl) q2.1 q2.2 (by omega) (by omega) _ ?_
                    refine rl1_step s _ _ b3 3 (by omega) (by omega) hs (byt_at hl 3 b3 rfl) q3.1 q3.2 (by omega) (by omega) _ ?_
                    have p4 := put4 c b1 b2 b3 hc q1 q2 q3
                    refine rl1_end s 4 _ _ (by omega) (by omega) (by omega) _ (fun hb hp => ?_) (fun hno4 => ?_)
                    · rw [hl] at hp
                      obtain ⟨a1, a2, a3, a4, a5, a6⟩ := p4.1 ⟨hb, hp⟩
                      rw [if_pos a1]
                      dsimp only
                      rw [if_pos a2, if_pos a3, if_pos a4]
                      unfold finU
                      rw [if_pos ⟨a5, a6⟩]
                      rfl
                    · rw [hl] at hno4
                      have hno4 : ¬ (c / 8 = 30 ∧ b1 / 64 = 2 ∧ b2 / 64 = 2 ∧ b3 / 64 = 2 ∧ isB ((((c - 240) * 64 + (b1 - 128)) * 64 + (b2 - 128)) * 64 + (b3 - 128)) = true ∧ 65536 ≤ (((c - 240) * 64 + (b1 - 128)) * 64 + (b2 - 128)) * 64 + (b3 - 128)) := fun h => hno4 (p4.2 h)
                      refine Ev.eq (rl0_stop s 5 (.inl (by omega))) ?_
                      dsimp only
                      by_cases x1 : c / 8 = 30
                      · rw [if_pos x1]
                        by_cases x2 : b1 / 64 = 2
                        · rw [if_pos x2]
                          by_cases x3 : b2 / 64 = 2
                          · rw [if_pos x3]
                            by_cases x4 : b3 / 64 = 2
                            · rw [if_pos x4]
                              unfold finU
                              rw [if_neg (fun e => hno4 ⟨x1, x2, x3, x4, e⟩)]
                            · rw [if_neg x4]
                          · rw [if_neg x3]
                        · rw [if_neg x2]
                      · rw [if_neg x1]
                by_cases x0 : c / 16 = 14
                · rw [if_pos x0]
                  rw [if_neg (by omega)] at hk4
                  refine Ev.eq hk4 ?_
                  dsimp only
                  by_cases x2 : b1 / 64 = 2
                  · rw [if_pos x2]
                    by_cases x3 : b2 / 64 = 2
                    · rw [if_pos x3]
                      unfold finU
                      rw [if_neg (fun e => hno3 ⟨x0, x2, x3, e⟩)]
                    · rw [if_neg x3]
                  · rw [if_neg x2]
                · rw [if_neg x0]
                  exact hk4
          by_cases x0 : c / 32 = 6
          · rw [if_pos x0]
            rw [if_neg (by omega), if_neg (by omega)] at hk
            refine Ev.eq hk ?_
            dsimp only
            by_cases x2 : b1 / 64 = 2
            · rw [if_pos x2]
              unfold finU
              rw [if_neg (fun e => hno ⟨x0, x2, e⟩)]
            · rw [if_neg x2]
          · rw [if_neg x0]
            exact hk
theorem rsigns_l0 (d : Nat) : ∀ (s : ByteArray) (acc : List Int), s.size ≤ d → s.size ≤ 1000000000 → acc.length + s.size < 17592186044416 → Ev (fun k => (haulageref03_Signs.l0 k s acc).bind fun b => some b.2) (utfD d (byt s)) := by
  induction d with
  | zero =>
    intro s acc hd _ _
    have hz : s.size = 0 := by omega
    refine Ev.bind (a := (acc, true)) (Ev.step (f := fun _ => some (acc, true)) (fun k => ?_) (Ev.now _)) ?_
    · simp only [haulageref03_Signs.l0]
      rw [if_pos ((ba_nil0 s).2 hz)]
    · have : byt s = [] := List.length_eq_zero_iff.1 (by rw [byt_len]; exact hz)
      rw [this]
      exact Ev.now _
  | succ d ih =>
    intro s acc hd hs ha
    by_cases hz : s.size = 0
    · have : byt s = [] := List.length_eq_zero_iff.1 (by rw [byt_len]; exact hz)
      rw [this]
      simp only [utfD]
      rw [if_pos (by trivial)]
      refine Ev.bind (a := (acc, true)) (Ev.step (f := fun _ => some (acc, true)) (fun k => ?_) (Ev.now _)) (Ev.now _)
      simp only [haulageref03_Signs.l0]
      rw [if_pos ((ba_nil0 s).2 hz)]
    · have hne : ¬ byt s = [] := fun e => hz (by rw [← byt_len, e]; rfl)
      simp only [utfD]
      rw [if_neg hne]
      have hok := sgn_ok (byt s)
      rw [byt_len] at hok
      obtain ⟨K, hK⟩ := rread_ev s (by omega)
      by_cases h1 : (sgn (byt s)).2.2 = true
      · rw [if_pos h1]
        obtain ⟨h2, h3⟩ := hok h1
        have hc := byt_cut s (sgn (byt s)).2.1.toNat
        have := ih (s.extract (sgn (byt s)).2.1.toNat s.size) (acc ++ [(sgn (byt s)).1]) (by rw [ByteArray.size_extract]; omega) (by rw [ByteArray.size_extract]; omega) (by rw [List.length_append, List.length_singleton, ByteArray.size_extract]; omega)
        rw [hc] at this
        obtain ⟨K2, hK2⟩ := this
        refine ⟨K + K2 + 1, fun k hk => ?_⟩
        obtain ⟨m, rfl⟩ : ∃ m, k = m + 1 := ⟨k - 1, by omega⟩
        have e1 : haulageref03_Read m s = some (sgn (byt s)) := hK m (by omega)
        have e2 := hK2 m (by omega)
        simp only [haulageref03_Signs.l0]
        rw [if_neg (fun e => hz ((ba_nil0 s).1 e)), e1, Option.bind_some, if_pos h1, if_pos (by omega), if_pos (by omega), if_pos (by omega)]
        exact e2
      · rw [if_neg h1]
        refine ⟨K + 1, fun k hk => ?_⟩
        obtain ⟨m, rfl⟩ : ∃ m, k = m + 1 := ⟨k - 1, by omega⟩
        have e1 : haulageref03_Read m s = some (sgn (byt s)) := hK m (by omega)
        simp only [haulageref03_Signs.l0]
        rw [if_neg (fun e => hz ((ba_nil0 s).1 e)), e1, Option.bind_some, if_neg h1]
        rfl
theorem rutf_ev (s : ByteArray) (hs : s.size ≤ 1000000000) : Ev (fun k => haulageref03_Right k s) (utfB s) := rsigns_l0 s.size s [] (Nat.le_refl _) hs (by simp; omega)

theorem refHalf_l0 (b : Nat) (hb : b ≤ 63) (d : Nat) : ∀ i : Nat, i + d = b → 1 ≤ i → Ev (fun k => haulageref01_Half.l0 k (b : Int) (2 ^ (i - 1)) (i : Int)) (2 ^ (b - 1)) := by
  induction d with
  | zero =>
    intro i hi h1
    refine Ev.step (f := fun _ => some (2 ^ (b - 1))) (fun k => ?_) (Ev.now _)
    simp only [haulageref01_Half.l0]
    rw [if_neg (by omega), show i = b by omega]
  | succ d ih =>
    intro i hi h1
    refine Ev.step (f := fun k => haulageref01_Half.l0 k (b : Int) (2 ^ (i + 1 - 1)) ((i + 1 : Nat) : Int)) (fun k => ?_) (ih (i + 1) (by omega) (by omega))
    simp only [haulageref01_Half.l0]
    have h3 : (2 : Int) ^ i ≤ 2 ^ 62 := by
      have : (2 : Nat) ^ i ≤ 2 ^ 62 := Nat.pow_le_pow_right (by decide) (by omega)
      exact_mod_cast this
    have h4 := p2_pos i
    have h5 := p2_half i h1
    have h6 : (2 : Int) ^ 62 = 4611686018427387904 := by decide
    rw [if_pos (by omega), show IntKind.i64.wrap ((i : Int) + 1) = ((i + 1 : Nat) : Int) by rw [i64_eq]; unfold wrap64; omega, show IntKind.i64.wrap (2 * 2 ^ (i - 1)) = 2 ^ (i + 1 - 1) by rw [Nat.add_sub_cancel, ← h5, i64_eq]; unfold wrap64; omega]

theorem refHalf_ev (b : Nat) (h1 : 1 ≤ b) (hb : b ≤ 63) : Ev (fun k => haulageref01_Half k (b : Int)) (2 ^ (b - 1)) := by
  have := refHalf_l0 b hb (b - 1) 1 (by omega) (by omega)
  simpa [haulageref01_Half] using this

theorem p2_le62 (b : Nat) (hb : b ≤ 62) : (2 : Int) ^ b ≤ 4611686018427387904 := by
  have h3 : (2 : Int) ^ b ≤ 2 ^ 62 := by
    have : (2 : Nat) ^ b ≤ 2 ^ 62 := Nat.pow_le_pow_right (by decide) hb
    exact_mod_cast this
  have h6 : (2 : Int) ^ 62 = 4611686018427387904 := by decide
  omega

theorem refFits_ev (n : Int) (b : Nat) (h1 : 1 ≤ b) (h2 : b ≤ 64) (hn0 : -9223372036854775808 ≤ n) (hn1 : n ≤ 9223372036854775807) : Ev (fun k => haulageref01_Fits k n (b : Int)) (lowS n b == n) := by
  unfold haulageref01_Fits
  refine Ev.no (by omega) (Ev.no (by omega) ?_)
  by_cases e : b = 64
  · subst e
    refine Ev.yes (by omega) ?_
    rw [lowS_id n 64 (by decide) (by simp; omega) (by simp; omega)]
    rw [show (n == n) = true by simp]
    exact Ev.now _
  · have h3 := p2_le62 (b - 1) (by omega)
    have h4 := p2_pos (b - 1)
    refine Ev.no (by omega) (Ev.bind (refHalf_ev b h1 (by omega)) ?_)
    rw [show IntKind.i64.wrap (0 - 2 ^ (b - 1)) = -2 ^ (b - 1) by rw [i64_eq]; unfold wrap64; omega]
    have hi := lowS_iff n b h1
    refine Ev.ite (fun c => Ev.bind (refHalf_ev b h1 (by omega)) ?_) (fun c => ?_)
    · rw [show decide (n < 2 ^ (b - 1)) = (lowS n b == n) by
        rw [Bool.eq_iff_iff, decide_eq_true_iff, beq_iff_eq, hi]; exact ⟨fun h => ⟨c, h⟩, fun h => h.2⟩]
      exact Ev.now _
    · rw [show (lowS n b == n) = false by rw [beq_eq_false_iff_ne]; exact fun h => c (hi.1 h).1]
      exact Ev.now _

theorem rfits32_ev (n : Int) (h : (Lit.int .i64 n).wf = true) : Ev (fun k => haulageref01_Fits k n 32) (fits32 n) := by
  have h := wf_i64 h
  have := refFits_ev n 32 (by decide) (by decide) h.1 h.2
  rw [lowS32] at this
  exact this
theorem rtyp_eq (k : Nat) (kind mx : Int) : haulageref06_Right k kind mx = some (typB kind mx) := by
  unfold typB
  simp only [haulageref06_Right, ge_iff_le]
  by_cases h1 : kind = 1
  · simp [h1, beq_dec]
  · by_cases h2 : kind = 2
    · simp [h2, beq_dec]
    · by_cases h3 : kind = 3
      · subst h3
        by_cases h5 : 1 ≤ mx <;> simp [h5]
      · by_cases h4 : kind = 4
        · subst h4
          by_cases h5 : 1 ≤ mx <;> simp [h5]
        · simp [h1, h2, h3, h4]
theorem nil_dec (s : ByteArray) : (s.toList == ([] : List UInt8)) = decide (s.size = 0) := by
  rw [Bool.eq_iff_iff, beq_iff_eq, ba_nil, decide_eq_true_iff]
theorem rval_ev (kind n : Int) (s : ByteArray) (hs : s.size ≤ 1000000000) (hn : (Lit.int .i64 n).wf = true) : Ev (fun k => haulageref05_Right k kind n s) (valB kind n s) := by
  refine Ev.flat2 0 (rfits32_ev n hn) (rutf_ev s hs) (fun m h1 h2 => ?_)
  have h1 := h1 0
  have h2 := h2 0
  simp only [Nat.add_zero] at h1 h2 ⊢
  have e120 : ((s.size : Int) ≤ 120) = (s.size ≤ 120) := propext ⟨fun h => by omega, fun h => by omega⟩
  unfold valB
  simp only [haulageref05_Right, h1, h2, Option.bind_some, ba_nil0, e120]
  by_cases k0 : kind = 0
  · subst k0; by_cases q : n = 0 <;> simp [q]
  by_cases k1 : kind = 1
  · subst k1; cases fits32 n <;> simp
  by_cases k2 : kind = 2
  · subst k2; simp
  by_cases k3 : kind = 3
  · subst k3; by_cases q : n = 0 <;> by_cases r : s.size ≤ 120 <;> simp [q, r]
  by_cases k4 : kind = 4
  · subst k4; by_cases q : n = 0 <;> simp [q]
  simp [k0, k1, k2, k3, k4]
theorem rfit_ev (tk tm vk vn : Int) (vs : ByteArray) (hs : vs.size ≤ 1000000000) (hn : (Lit.int .i64 vn).wf = true) : Ev (fun k => haulageref06_Fits k tk tm vk vn vs) (fitB tk tm vk vn vs) := by
  refine Ev.flat1 0 (rval_ev vk vn vs hs hn) (fun m h1 => ?_)
  have h1 := h1 0
  simp only [Nat.add_zero] at h1 ⊢
  unfold fitB
  simp only [haulageref06_Fits, rtyp_eq, h1, Option.bind_some]
  cases typB tk tm <;> cases hv : valB vk vn vs <;> by_cases q : vk = tk <;> by_cases r : tk < 3 <;> simp [q, r]

theorem rowread_ev (kd mx : Int) (s : ByteArray) (ht : typB kd mx = true) (hs : s.size ≤ 1000000000) :
    Ev (fun k => haulageref12_read k kd mx s) (((readS kd mx s).1.f0, (readS kd mx s).1.f1, (readS kd mx s).1.f2), (readS kd mx s).2.1, (readS kd mx s).2.2) := by
  unfold haulageref12_read readS
  refine Ev.bind (refLong_ev s) ?_
  by_cases h0 : (longS s).2.2 = 0
  · obtain ⟨a1, a2, a3, a4, a5⟩ := long_two s h0
    rw [if_pos h0]
    refine Ev.congr (fun k => by rw [if_pos h0]) ?_
    generalize hL : longS s = L at *
    obtain ⟨n, mn, e⟩ := L
    simp only at h0 a1 a2 a3 a4 a5 ⊢
    obtain ⟨m, rfl⟩ := Int.eq_ofNat_of_zero_le (show 0 ≤ mn by omega)
    obtain ⟨N, rfl⟩ := Int.eq_ofNat_of_zero_le a1
    by_cases h1 : kd = 1 ∨ kd = 2
    · rw [if_pos h1]
      have hzr := zagS_range (N : Int) (by omega) (by omega)
      have hwf : (Lit.int .i64 (zagS (N : Int))).wf = true := i64_wf hzr.1 hzr.2
      refine Ev.congr (fun k => by rw [if_pos (show kd < 3 by omega), refZag_eq _ _ (by omega) (by omega), Option.bind_some]) ?_
      refine Ev.bind (rfit_ev kd mx kd (zagS (N : Int)) ⟨#[]⟩ (by decide) hwf) ?_
      by_cases h2 : fitB kd mx kd (zagS (N : Int)) ⟨#[]⟩ = true
      · rw [if_pos h2]
        exact Ev.congr (f := fun _ => some _) (fun k => by rw [if_pos h2]) (Ev.now _)
      · rw [if_neg h2]
        exact Ev.congr (f := fun _ => some _) (fun k => by rw [if_neg h2]; rfl) (Ev.now _)
    · rw [if_neg h1]
      obtain ⟨hk, hm1, hm2⟩ : (kd = 3 ∨ kd = 4) ∧ 1 ≤ mx ∧ mx ≤ 120 := by
        rcases typ_cases ht with h | h
        · exact absurd h h1
        · exact h.2
      have hu : IntKind.u64.wrap mx = mx := u64_id mx (by omega) (by omega)
      refine Ev.congr (fun k => by rw [if_neg (show ¬ kd < 3 by omega), hu]) ?_
      by_cases h2 : mx < (N : Int)
      · rw [if_pos h2]
        exact Ev.congr (f := fun _ => some _) (fun k => by rw [if_pos (by omega)]; rfl) (Ev.now _)
      rw [if_neg h2]
      have hw1 : IntKind.i64.wrap (N : Int) = (N : Int) := i64w _ (by omega) (by omega)
      have hw2 : IntKind.i64.wrap ((s.size : Int) - (m : Int)) = (s.size : Int) - (m : Int) := i64w _ (by omega) (by omega)
      have hw3 : IntKind.i64.wrap ((m : Int) + (N : Int)) = (m : Int) + (N : Int) := i64w _ (by omega) (by omega)
      refine Ev.congr (fun k => by rw [if_neg (by omega), hw1, hw2, hw3]) ?_
      by_cases h3 : (s.size : Int) - (m : Int) < (N : Int)
      · rw [if_pos h3]
        exact Ev.congr (f := fun _ => some _) (fun k => by rw [if_pos (by omega)]; rfl) (Ev.now _)
      rw [if_neg h3]
      refine Ev.congr (fun k => by rw [if_neg (by omega), if_pos (by omega), if_pos (by omega), if_pos (by omega), if_pos (by omega)]) ?_
      by_cases h4 : kd = 3
      · have hxs : (s.extract (m : Int).toNat ((m : Int) + (N : Int)).toNat).size ≤ 1000000000 := by rw [← byt_len, byt_extract]; simp only [List.length_take, List.length_drop, byt_len]; omega
        refine Ev.congr (fun k => by rw [if_pos h4]) (Ev.bind (rutf_ev _ hxs) ?_)
        by_cases h5 : utfB (s.extract (m : Int).toNat ((m : Int) + (N : Int)).toNat) = true
        · rw [if_neg (show ¬ (kd = 3 ∧ utfB (s.extract (m : Int).toNat ((m : Int) + (N : Int)).toNat) = false) from fun e => by rw [h5] at e; exact absurd e.2 (by decide))]
          exact Ev.congr (f := fun _ => some _) (fun k => by rw [if_pos h5]) (Ev.now _)
        · rw [if_pos (show kd = 3 ∧ utfB (s.extract (m : Int).toNat ((m : Int) + (N : Int)).toNat) = false from ⟨h4, by simpa using h5⟩)]
          exact Ev.congr (f := fun _ => some _) (fun k => by rw [if_neg h5]; rfl) (Ev.now _)
      · rw [if_neg (fun e => h4 e.1)]
        exact Ev.congr (f := fun _ => some _) (fun k => by rw [if_neg h4]) (Ev.now _)
  · rw [if_neg h0]
    exact Ev.congr (f := fun _ => some _) (fun k => by rw [if_neg h0]; rfl) (Ev.now _)
theorem div_step (b : Int) (t : Nat) : b / 2 ^ t / 2 = b / 2 ^ (t + 1) := by
  rw [Int.ediv_ediv_of_nonneg (Int.le_of_lt (Int.pow_pos (by decide))), Int.pow_succ]
theorem rbit_ev (s : ByteArray) (i : Nat) (hi : i < 1000) (hs : i / 8 < s.size) : Ev (fun k => haulageref12_bit k s (i : Int)) (bitS s i) := by
  have hb := btr s ((i / 8 : Nat) : Int)
  have h := down (P := fun t => Ev (fun k => haulageref12_bit.l0 k (i : Int) (bt s ((i / 8 : Nat) : Int) / 2 ^ t) (t : Int)) (bitS s i)) (n := i % 8)
    (by
      have h0 : 0 ≤ bt s ((i / 8 : Nat) : Int) / 2 ^ (i % 8) := Int.ediv_nonneg hb.1 (Int.le_of_lt (Int.pow_pos (by decide)))
      refine Ev.step (f := fun _ => some (bitS s i)) (fun k => ?_) (Ev.now _)
      simp only [haulageref12_bit.l0]
      rw [tmod_nonneg_eq _ _ (by omega), if_neg (by omega), tmod_nonneg_eq _ _ h0]
      rfl)
    (fun t ht ih => by
      have h0 : 0 ≤ bt s ((i / 8 : Nat) : Int) / 2 ^ t := Int.ediv_nonneg hb.1 (Int.le_of_lt (Int.pow_pos (by decide)))
      have h1 : bt s ((i / 8 : Nat) : Int) / 2 ^ t ≤ bt s ((i / 8 : Nat) : Int) := Int.ediv_le_self _ hb.1
      rw [← div_step] at ih
      refine Ev.step (fun k => ?_) ih
      simp only [haulageref12_bit.l0]
      rw [tmod_nonneg_eq _ _ (by omega), if_pos (by omega), tdiv_nonneg_eq _ _ h0, i64w _ (by omega) (by omega), i64w_succ _ (by omega)]) 0 (Nat.zero_le _)
  unfold haulageref12_bit
  have hd : IntKind.i64.wrap (Int.tdiv (i : Int) 8) = ((i / 8 : Nat) : Int) := by rw [tdiv_nonneg_eq _ _ (by omega), i64w _ (by omega) (by omega)]; omega
  refine Ev.congr (fun k => ?_) h
  rw [hd, if_pos (by omega), if_pos (by omega), i64w _ (by omega) (by omega), Int.pow_zero, Int.ediv_one]
  rfl
theorem rdec_l1 (id : Int) (name : ByteArray) (key next : Int) (cols : List S_Column) (s : ByteArray) (hs : s.size ≤ 1000000) (h10 : cols.length ≤ 10) (hsz : (cols.length + 7) / 8 ≤ s.size) (ht : ∀ c ∈ cols, typB c.f2.f0 c.f2.f1 = true) :
    Ev (fun k => haulageref12_Decode.l1 k s (cols.length : Int) (((cols.length + 7) / 8 : Nat) : Int) ([] : List S_Value) 0 id name key next cols) (preR [] (decGo s cols 0 (s.extract ((cols.length + 7) / 8) s.size))) := by
  have h := down (P := fun i => ∀ (l : List S_Value) (at_ : Nat), l.length = i → at_ ≤ s.size → Ev (fun k => haulageref12_Decode.l1 k s (cols.length : Int) (at_ : Int) l (i : Int) id name key next cols) (preR l (decGo s (cols.drop i) i (s.extract at_ s.size)))) (n := cols.length)
    (fun l a hl ha => by
      rw [List.drop_length]
      simp only [decGo]
      refine Ev.step (f := fun _ => some (preR l (if (s.extract a s.size).size = 0 then ([], 0) else ([], 6)))) (fun k => ?_) (Ev.now _)
      simp only [haulageref12_Decode.l1]
      rw [if_neg (by omega), cut_size]
      unfold preR
      by_cases h : a < s.size
      · rw [if_pos (by omega), if_neg (show ¬ s.size - a = 0 by omega)]
        rfl
      · rw [if_neg (by omega), if_pos (show s.size - a = 0 by omega), if_pos rfl, List.append_nil])
    (fun i hi ih l a hl ha => by
      rw [List.drop_eq_getElem_cons hi]
      have hti := ht _ (List.getElem_mem hi)
      generalize hce : cols[i] = c at hti
      have hrd : r_Column cols (i : Int) = c := by rw [rd_col cols i hi, hce]
      simp only [decGo]
      refine Ev.step (fun k => by simp only [haulageref12_Decode.l1]; rw [if_pos (by omega)]) (Ev.bind (rbit_ev s i (by omega) (by omega)) ?_)
      by_cases h1 : bitS s i = 1
      · rw [if_pos h1]
        by_cases h2 : c.f3 = true
        · rw [if_pos h2, preR_cons]
          refine Ev.congr (fun k => ?_) (ih (l ++ [nilV]) a (by simp; omega) ha)
          rw [if_pos h1, if_pos (by omega), if_pos (by omega), hrd, if_pos h2, if_pos (by omega), i64w_succ _ (by omega)]
          rfl
        · rw [if_neg h2, preR_err _ _ (by decide)]
          exact Ev.congr (f := fun _ => some ([], 11)) (fun k => by rw [if_pos h1, if_pos (by omega), if_pos (by omega), hrd, if_neg h2]) (Ev.now _)
      · rw [if_neg h1]
        have hrs := cut_size s a
        refine Ev.congr (fun k => by rw [if_neg h1, if_pos (by omega), if_pos (by omega), if_pos (by omega), if_pos (by omega), hrd, Int.toNat_natCast, Int.toNat_natCast, i64w_succ _ (by omega)]) (Ev.bind (rowread_ev c.f2.f0 c.f2.f1 (s.extract a s.size) hti (by omega)) ?_)
        by_cases h3 : (readS c.f2.f0 c.f2.f1 (s.extract a s.size)).2.2 = 0
        · rw [if_pos h3, preR_cons]
          have hsz2 := readS_size c.f2.f0 c.f2.f1 (s.extract a s.size) h3
          rw [hrs] at hsz2
          rw [cut_cut]
          refine Ev.congr (fun k => ?_) (ih (l ++ [(readS c.f2.f0 c.f2.f1 (s.extract a s.size)).1]) (a + (readS c.f2.f0 c.f2.f1 (s.extract a s.size)).2.1.toNat) (by simp; omega) (by omega))
          dsimp only
          rw [if_pos h3, if_pos (by omega), i64w ((a : Int) + (readS c.f2.f0 c.f2.f1 (s.extract a s.size)).2.1) (by omega) (by omega), show (a : Int) + (readS c.f2.f0 c.f2.f1 (s.extract a s.size)).2.1 = ((a + (readS c.f2.f0 c.f2.f1 (s.extract a s.size)).2.1.toNat : Nat) : Int) by omega]
        · rw [if_neg h3, preR_err _ _ h3]
          exact Ev.congr (f := fun _ => some ([], (readS c.f2.f0 c.f2.f1 (s.extract a s.size)).2.2)) (fun k => by rw [if_neg h3]) (Ev.now _)) 0 (Nat.zero_le _)
  have h2 := h [] ((cols.length + 7) / 8) rfl hsz
  rw [List.drop_zero] at h2
  exact h2
theorem rdec_l0 (id : Int) (name : ByteArray) (key next : Int) (cols : List S_Column) (s : ByteArray) (hs : s.size ≤ 1000000) (h10 : cols.length ≤ 10) (hsz : (cols.length + 7) / 8 ≤ s.size) (ht : ∀ c ∈ cols, typB c.f2.f0 c.f2.f1 = true) :
    Ev (fun k => haulageref12_Decode.l0 k s (cols.length : Int) (((cols.length + 7) / 8 : Nat) : Int) (cols.length : Int) id name key next cols) (if spB s cols.length = true then ([], 5) else preR [] (decGo s cols 0 (s.extract ((cols.length + 7) / 8) s.size))) := by
  have hend := rdec_l1 id name key next cols s hs h10 hsz ht
  have hw : IntKind.i64.wrap (8 * (((cols.length + 7) / 8 : Nat) : Int)) = ((8 * ((cols.length + 7) / 8) : Nat) : Int) := by rw [i64w _ (by omega) (by omega)]; omega
  by_cases h8 : cols.length % 8 = 0
  · rw [if_neg (show ¬ spB s cols.length = true by unfold spB; rw [decide_eq_true_iff]; exact fun e => e.1 h8)]
    exact Ev.step (fun k => by simp only [haulageref12_Decode.l0]; rw [hw, if_neg (by omega)]) hend
  · have hb := btr s ((cols.length / 8 : Nat) : Int)
    have h := down (P := fun d => cols.length ≤ d → Ev (fun k => haulageref12_Decode.l0 k s (cols.length : Int) (((cols.length + 7) / 8 : Nat) : Int) (d : Int) id name key next cols) (if d < 8 * ((cols.length + 7) / 8) ∧ bt s ((cols.length / 8 : Nat) : Int) / 2 ^ (d % 8) ≠ 0 then ([], 5) else preR [] (decGo s cols 0 (s.extract ((cols.length + 7) / 8) s.size)))) (n := 8 * ((cols.length + 7) / 8))
      (fun _ => by
        rw [if_neg (fun e => by omega)]
        exact Ev.step (fun k => by simp only [haulageref12_Decode.l0]; rw [hw, if_neg (by omega)]) hend)
      (fun d hd ih hcd => by
        have ih := ih (by omega)
        have hd8 : d / 8 = cols.length / 8 := by omega
        have hbit : bitS s d = bt s ((cols.length / 8 : Nat) : Int) / 2 ^ (d % 8) % 2 := by unfold bitS; rw [hd8]
        refine Ev.step (fun k => by simp only [haulageref12_Decode.l0]; rw [hw, if_pos (by omega)]) (Ev.bind (rbit_ev s d (by omega) (by omega)) ?_)
        have h0 : 0 ≤ bt s ((cols.length / 8 : Nat) : Int) / 2 ^ (d % 8) := Int.ediv_nonneg hb.1 (Int.le_of_lt (Int.pow_pos (by decide)))
        by_cases h1 : bitS s d = 1
        · rw [if_pos (show d < 8 * ((cols.length + 7) / 8) ∧ bt s ((cols.length / 8 : Nat) : Int) / 2 ^ (d % 8) ≠ 0 from ⟨hd, fun e => by rw [hbit, e] at h1; omega⟩)]
          exact Ev.congr (f := fun _ => some ([], 5)) (fun k => by rw [if_pos h1]) (Ev.now _)
        · refine Ev.eq (Ev.congr (fun k => by rw [if_neg h1, i64w_succ _ (by omega)]) ih) ?_
          have hst := div_step (bt s ((cols.length / 8 : Nat) : Int)) (d % 8)
          rw [hbit] at h1
          by_cases h7 : d % 8 = 7
          · have h256 : bt s ((cols.length / 8 : Nat) : Int) / 2 ^ (d % 8) < 2 := by
              rw [h7]
              show bt s ((cols.length / 8 : Nat) : Int) / 128 < 2
              omega
            rw [if_neg (fun e => by omega), if_neg (fun e => e.2 (by omega))]
          · rw [show (d + 1) % 8 = d % 8 + 1 by omega, ← hst]
            by_cases h9 : bt s ((cols.length / 8 : Nat) : Int) / 2 ^ (d % 8) = 0
            · rw [if_neg (fun e => e.2 (by rw [h9]; rfl)), if_neg (fun e => e.2 h9)]
            · rw [if_pos ⟨by omega, by omega⟩, if_pos ⟨hd, h9⟩]) cols.length (by omega) (Nat.le_refl _)
    refine Ev.eq h ?_
    unfold spB
    by_cases h9 : bt s ((cols.length / 8 : Nat) : Int) / 2 ^ (cols.length % 8) = 0
    · rw [if_neg (fun e => e.2 h9), if_neg (by rw [decide_eq_true_iff]; exact fun e => e.2 h9)]
    · rw [if_pos ⟨by omega, h9⟩, if_pos (by rw [decide_eq_true_iff]; exact ⟨h8, h9⟩)]
theorem rdecode_ev (id : Int) (name : ByteArray) (key next : Int) (cols : List S_Column) (s : ByteArray) (hs : s.size ≤ 1000000) (ht : tabB id name key next cols = true) :
    Ev (fun k => haulageref12_Decode k id name key next cols s) (decR cols s) := by
  obtain ⟨h10, _, _⟩ := tabB_more ht
  have hty := tabB_types ht
  have hw : IntKind.i64.wrap (Int.tdiv (IntKind.i64.wrap ((cols.length : Int) + 7)) 8) = (((cols.length + 7) / 8 : Nat) : Int) := by
    rw [i64w ((cols.length : Int) + 7) (by omega) (by omega), tdiv_nonneg_eq _ _ (by omega), i64w _ (by omega) (by omega)]
    omega
  unfold haulageref12_Decode decR
  refine Ev.congr (fun k => by rw [hw]) ?_
  by_cases h1 : s.size < (cols.length + 7) / 8
  · rw [if_pos h1]
    exact Ev.congr (f := fun _ => some ([], 4)) (fun k => by rw [if_pos (by omega)]) (Ev.now _)
  · rw [if_neg h1]
    exact Ev.congr (fun k => by rw [if_neg (by omega)]) (rdec_l0 id name key next cols s hs h10 (by omega) hty)

theorem key_at {id : Int} {name : ByteArray} {key next : Int} {l : List S_Column} (h : tabB id name key next l = true) :
    ∃ (i : Nat) (hi : i < l.length), scan (fun c : S_Column => decide (c.f0 = key)) l 0 = ((i : Int), true) ∧ scanR (fun c : S_Column => decide (c.f0 = key)) l 0 = (i : Int) := by
  obtain ⟨h10, _, c, hc, hk⟩ := tabB_more h
  rcases scan_or (fun c : S_Column => decide (c.f0 = key)) l 0 with ⟨h1, h2, h3⟩ | ⟨_, h2⟩
  · obtain ⟨i, e⟩ := Int.eq_ofNat_of_zero_le (show 0 ≤ scanR (fun c : S_Column => decide (c.f0 = key)) l 0 by omega)
    rw [e] at h1 h3
    exact ⟨i, by omega, h1, e⟩
  · have := (scanR_iff (fun c : S_Column => decide (c.f0 = key)) l 0).1 h2 c hc
    rw [decide_eq_false_iff_not] at this
    exact absurd hk this
theorem readS_bad (kd mx : Int) (s : ByteArray) (h : (readS kd mx s).2.2 ≠ 0) : (readS kd mx s).1 = nilV := by
  unfold readS at h ⊢
  split at h
  · rename_i h0
    rw [if_pos h0]
    split at h
    · rename_i h1
      rw [if_pos h1]
      split at h
      · exact absurd rfl h
      · rename_i h2
        rw [if_neg h2]
    · rename_i h1
      rw [if_neg h1]
      split at h
      · rename_i h2
        rw [if_pos h2]
      · rename_i h2
        rw [if_neg h2]
        split at h
        · rename_i h3
          rw [if_pos h3]
        · rename_i h3
          rw [if_neg h3]
          split at h
          · rename_i h4
            rw [if_pos h4]
          · exact absurd rfl h
  · rename_i h0
    rw [if_neg h0]
/-- The key of a text, by its column's type: the value, 0 or the error's number. -/
def readK (kd mx : Int) (s : ByteArray) : S_Value × Int :=
  if (readS kd mx s).2.2 = 0 then (if (readS kd mx s).2.1 < (s.size : Int) then (nilV, 6) else ((readS kd mx s).1, 0)) else (nilV, (readS kd mx s).2.2)
theorem key_type_ev {id : Int} {name : ByteArray} {key next : Int} {l : List S_Column} (hn : name.size ≤ 1000000000) (hok : ∀ c ∈ l, OkCol c) (hl : l.length ≤ 1000000000) (h : tabB id name key next l = true) (i : Nat) (hi : i < l.length) (he : scan (fun c : S_Column => decide (c.f0 = key)) l 0 = ((i : Int), true)) :
    Ev (fun k => rowcode_key k id name key next l) ((l[i].f2.f0, l[i].f2.f1), 0) := by
  unfold rowcode_key
  refine Ev.bind (table_ev id name key next l hn hok) (Ev.congr (fun k => by rw [if_pos h]) (Ev.bind (key_ev id name key next l (by omega)) ?_))
  rw [he]
  exact Ev.congr (f := fun _ => some ((l[i].f2.f0, l[i].f2.f1), 0)) (fun k => by rw [if_pos (by omega), if_pos (by simp only; omega), rd_col l i hi]) (Ev.now _)
theorem readkey_ev {id : Int} {name : ByteArray} {key next : Int} {l : List S_Column} {kd mx : Int} (hk : Ev (fun k => rowcode_key k id name key next l) ((kd, mx), 0)) (ht : typB kd mx = true) (s : ByteArray) (hs : s.size ≤ 1000000000) :
    Ev (fun k => rowcode_ReadKey k id name key next l s) (((readK kd mx s).1.f0, (readK kd mx s).1.f1, (readK kd mx s).1.f2), (readK kd mx s).2) := by
  obtain ⟨rest, hv, hr⟩ := value_ev kd mx s ht hs
  unfold rowcode_ReadKey readK
  refine Ev.bind hk (Ev.congr (fun k => by rw [if_pos rfl]) (Ev.bind hv ?_))
  by_cases he : (readS kd mx s).2.2 = 0
  · have hsz := readS_size kd mx s he
    have hre := hr he
    simp only [if_pos he]
    by_cases hl : (readS kd mx s).2.1 < (s.size : Int)
    · simp only [if_pos hl]
      have hne : ¬ rest.toList = (⟨#[]⟩ : ByteArray).toList := fun e => by
        rw [ba_nil0, hre, cut_size] at e
        omega
      have hL : ∀ k, rowcode_reader_left k rest = some (6, rest) := fun k => by unfold rowcode_reader_left; rw [if_neg hne]
      exact Ev.congr (f := fun _ => some ((0, 0, (⟨#[]⟩ : ByteArray)), 6)) (fun k => by simp only [he, if_true, hL, Option.bind_some]; rfl) (Ev.now _)
    · simp only [if_neg hl]
      have hne : rest.toList = (⟨#[]⟩ : ByteArray).toList := by
        rw [ba_nil0, hre, cut_size]
        omega
      have hL : ∀ k, rowcode_reader_left k rest = some (0, rest) := fun k => by unfold rowcode_reader_left; rw [if_pos hne]
      exact Ev.congr (f := fun _ => some (((readS kd mx s).1.f0, (readS kd mx s).1.f1, (readS kd mx s).1.f2), 0)) (fun k => by simp only [he, if_true, hL, Option.bind_some]) (Ev.now _)
  · simp only [if_neg he]
    exact Ev.congr (f := fun _ => some ((0, 0, (⟨#[]⟩ : ByteArray)), (readS kd mx s).2.2)) (fun k => by simp only [if_neg he]) (Ev.now _)
theorem rreadkey_ev {id : Int} {name : ByteArray} {key next : Int} {l : List S_Column} (hl : l.length ≤ 1000000000) (i : Nat) (hi : i < l.length) (he : scanR (fun c : S_Column => decide (c.f0 = key)) l 0 = (i : Int)) (ht : typB l[i].f2.f0 l[i].f2.f1 = true) (s : ByteArray) (hs : s.size ≤ 1000000000) :
    Ev (fun k => haulageref12_ReadKey k id name key next l s) (((readK l[i].f2.f0 l[i].f2.f1 s).1.f0, (readK l[i].f2.f0 l[i].f2.f1 s).1.f1, (readK l[i].f2.f0 l[i].f2.f1 s).1.f2), (readK l[i].f2.f0 l[i].f2.f1 s).2) := by
  unfold haulageref12_ReadKey readK
  have h := rowread_ev l[i].f2.f0 l[i].f2.f1 s ht hs
  have hb := readS_bad l[i].f2.f0 l[i].f2.f1 s
  refine Ev.bind (rkey_ev id name key next l (by omega)) ?_
  rw [he]
  refine Ev.congr (fun k => by rw [if_pos (by omega), if_pos (by omega), rd_col l i hi]) (Ev.bind h ?_)
  generalize readS l[i].f2.f0 l[i].f2.f1 s = q at *
  obtain ⟨v, n, e⟩ := q
  simp only at hb ⊢
  by_cases h0 : e = 0
  · subst h0
    by_cases h1 : n < (s.size : Int)
    · exact Ev.congr (f := fun _ => some ((0, 0, (⟨#[]⟩ : ByteArray)), 6)) (fun k => by simp [h1]) (Ev.eq (Ev.now _) (by simp [h1, nilV]))
    · exact Ev.congr (f := fun _ => some ((v.f0, v.f1, v.f2), 0)) (fun k => by simp [h1]) (Ev.eq (Ev.now _) (by simp [h1]))
  · have := hb h0
    subst this
    exact Ev.congr (f := fun _ => some ((nilV.f0, nilV.f1, nilV.f2), e)) (fun k => by simp [h0]) (Ev.eq (Ev.now _) (by simp [h0]))
/-- The number of low seven bits. -/
def valL : List Int → Int
  | [] => 0
  | x :: xs => x % 128 + 128 * valL xs

theorem valL_snoc (l : List Int) (x : Int) : valL (l ++ [x]) = valL l + x % 128 * 128 ^ l.length := by
  induction l with
  | nil => simp [valL]
  | cons y l ih =>
    simp only [List.cons_append, valL, ih, List.length_cons, Int.pow_succ]
    rw [Int.mul_add, ← Int.mul_assoc, Int.mul_comm 128 (x % 128), Int.mul_assoc, Int.mul_comm 128 (128 ^ l.length)]
    omega

theorem val_valL (s : ByteArray) (i : Nat) (h : i ≤ s.size) : val s i = valL ((byt s).take i) := by
  induction i with
  | zero => simp [val, valL]
  | succ i ih =>
    have hl : i < (byt s).length := by rw [byt_len]; omega
    rw [List.take_succ_eq_append_getElem hl, valL_snoc, ← ih (by omega), List.length_take, Nat.min_eq_left (by omega)]
    simp only [val]
    rw [bt_byt s i (by omega)]

/-- A list of bytes is short bytes. -/
def IsSb : List Int → Prop
  | [] => False
  | [x] => 0 ≤ x ∧ x < 128
  | x :: y :: l => 128 ≤ x ∧ x ≤ 255 ∧ IsSb (y :: l) ∧ (y :: l) ≠ [0]

theorem valL_pos : ∀ l : List Int, IsSb l → 0 ≤ valL l ∧ (l ≠ [0] → 1 ≤ valL l)
  | [], h => h.elim
  | [x], h => by
    simp only [IsSb] at h
    simp only [valL]
    refine ⟨by omega, fun hn => ?_⟩
    have : x ≠ 0 := fun e => hn (by rw [e])
    omega
  | x :: y :: l, h => by
    have := valL_pos (y :: l) h.2.2.1
    have h2 := this.2 h.2.2.2
    rw [valL]
    refine ⟨by omega, fun _ => by omega⟩

theorem sb_valL : ∀ l : List Int, IsSb l → sb (valL l).toNat = l
  | [], h => h.elim
  | [x], h => by
    simp only [IsSb] at h
    simp only [valL]
    rw [sb_small (by omega), show (((x % 128 + 128 * 0).toNat : Nat) : Int) = x by omega]
  | x :: y :: l, h => by
    have h1 := (valL_pos (y :: l) h.2.2.1).2 h.2.2.2
    have ih := sb_valL (y :: l) h.2.2.1
    have hx := h.1
    have hx2 := h.2.1
    rw [valL]
    rw [sb_big (by omega), show (((x % 128 + 128 * valL (y :: l)).toNat % 128 + 128 : Nat) : Int) = x by omega, show (x % 128 + 128 * valL (y :: l)).toNat / 128 = (valL (y :: l)).toNat by omega, ih]

theorem isSb_of : ∀ (l : List Int), Bytes l → ∀ (m : Nat) (hm : l.length = m + 1), (∀ (j : Nat) (hj : j < m), 128 ≤ l[j]'(by omega)) → l[m]'(by omega) < 128 → (0 < m → l[m]'(by omega) ≠ 0) → IsSb l
  | [], _, _, hm, _, _, _ => by simp at hm
  | [x], hb, m, hm, h1, h2, h3 => by
    simp at hm
    subst hm
    exact ⟨(hb x (by simp)).1, h2⟩
  | x :: y :: l, hb, m, hm, h1, h2, h3 => by
    obtain ⟨k, rfl⟩ : ∃ k, m = k + 1 := ⟨l.length, by simpa using hm.symm⟩
    refine ⟨h1 0 (by omega), (hb x (by simp)).2, isSb_of (y :: l) (fun z hz => hb z (by simp [hz])) k (by simpa using hm) (fun j hj => by simpa using h1 (j + 1) (by omega)) (by simpa using h2) (fun _ => by simpa using h3 (by omega)), fun e => ?_⟩
    have : y = 0 ∧ l = [] := by simpa using e
    obtain ⟨rfl, rfl⟩ := this
    have : k = 0 := by simpa using hm.symm
    subst this
    exact absurd (by simp) (h3 (by omega))

/-- What is read has just the bytes that it was read of. -/
theorem longS_back (s : ByteArray) (m : Nat) (h : longS s = (val s (m + 1), ((m + 1 : Nat) : Int), 0)) (hm : m < s.size) (hc : bt s (m : Int) < 128) (h0 : 0 < m → bt s (m : Int) ≠ 0) (hj : ∀ j : Nat, j < m → 128 ≤ bt s (j : Int)) : sb (val s (m + 1)).toNat = (byt s).take (m + 1) := by
  have hl : ((byt s).take (m + 1)).length = m + 1 := by rw [List.length_take, byt_len]; omega
  have hg : ∀ j (h : j < m + 1), ((byt s).take (m + 1))[j]'(by omega) = bt s (j : Int) := by
    intro j h
    rw [bt_byt s j (by omega), List.getElem_take]
  have := isSb_of ((byt s).take (m + 1)) ((byt_bytes s).take _) m hl (fun j h => by rw [hg j (by omega)]; exact hj j h) (by rw [hg m (by omega)]; exact hc) (fun h => by rw [hg m (by omega)]; exact h0 h)
  rw [val_valL s (m + 1) (by omega)]
  exact sb_valL _ this

abbrev St := ByteArray × Int

def fl (e : Int) (q : St) : St := if q.2 = 0 then (nilB, e) else q
def rest (s : ByteArray) (n : Nat) : ByteArray := s.extract n s.size
def oneP (lo hi : Int) (q : St) : Int × St :=
  if q.2 = 0 then (if q.1.size = 0 then (0, (nilB, 4)) else if bt q.1 0 < lo ∨ hi < bt q.1 0 then (0, (nilB, 5)) else (bt q.1 0, (rest q.1 1, 0))) else (0, q)
def rawP (q : St) : Int × St :=
  if q.2 = 0 then (if (longS q.1).2.2 = 0 then ((longS q.1).1, (rest q.1 (longS q.1).2.1.toNat, 0)) else (0, (nilB, (longS q.1).2.2))) else (0, q)
def numP (most : Int) (q : St) : Int × St := if most < (rawP q).1 then (0, fl 5 (rawP q).2) else rawP q
def textP (most : Int) (q : St) : ByteArray × St :=
  if (numP most q).2.2 = 0 then (if ((numP most q).2.1.size : Int) < (numP most q).1 then (nilB, (nilB, 4)) else ((numP most q).2.1.extract 0 (numP most q).1.toNat, (rest (numP most q).2.1 (numP most q).1.toNat, 0))) else (nilB, (numP most q).2)
def chk (b : Bool) (q : St) : St := if b = true then q else fl 5 q
def valP (q : St) : S_Value × St :=
  if (oneP 0 4 q).1 = 1 ∨ (oneP 0 4 q).1 = 2 then (⟨(oneP 0 4 q).1, zagS (rawP (oneP 0 4 q).2).1, nilB⟩, chk (decide ((oneP 0 4 q).1 = 2) || fits32 (zagS (rawP (oneP 0 4 q).2).1)) (rawP (oneP 0 4 q).2).2)
  else if (oneP 0 4 q).1 = 3 ∨ (oneP 0 4 q).1 = 4 then (⟨(oneP 0 4 q).1, 0, (textP 120 (oneP 0 4 q).2).1⟩, chk (decide ((oneP 0 4 q).1 = 4) || utfB (textP 120 (oneP 0 4 q).2).1) (textP 120 (oneP 0 4 q).2).2)
  else (⟨(oneP 0 4 q).1, 0, nilB⟩, (oneP 0 4 q).2)
def kindP (q : St) : S_Type × St := (⟨(oneP 1 4 q).1, (numP 120 (oneP 1 4 q).2).1⟩, (numP 120 (oneP 1 4 q).2).2)
theorem fl_bad {e : Int} {q : St} (h : q.2 ≠ 0) : fl e q = q := if_neg h
theorem fl_ne {e : Int} {q : St} (he : e ≠ 0) : (fl e q).2 ≠ 0 := by
  unfold fl
  split
  · exact he
  · assumption
theorem oneP_bad {lo hi : Int} {q : St} (h : q.2 ≠ 0) : oneP lo hi q = (0, q) := if_neg h
theorem rawP_bad {q : St} (h : q.2 ≠ 0) : rawP q = (0, q) := if_neg h
theorem chk_ok {b : Bool} {q : St} (h : (chk b q).2 = 0) : b = true ∧ q.2 = 0 ∧ chk b q = q := by
  unfold chk at h ⊢
  cases b
  · rw [if_neg (by simp)] at h
    exact absurd h (fl_ne (by decide))
  · rw [if_pos rfl] at h ⊢
    exact ⟨rfl, h, rfl⟩
theorem oneP_ok {lo hi : Int} {q : St} (h : (oneP lo hi q).2.2 = 0) : q.2 = 0 ∧ 0 < q.1.size ∧ lo ≤ bt q.1 0 ∧ bt q.1 0 ≤ hi ∧ oneP lo hi q = (bt q.1 0, (rest q.1 1, 0)) := by
  by_cases hq : q.2 = 0
  · unfold oneP at h ⊢
    rw [if_pos hq] at h ⊢
    by_cases h1 : q.1.size = 0
    · rw [if_pos h1] at h
      exact absurd h (by decide)
    · rw [if_neg h1] at h ⊢
      by_cases h2 : bt q.1 0 < lo ∨ hi < bt q.1 0
      · rw [if_pos h2] at h
        exact absurd h (by decide)
      · rw [if_neg h2]
        exact ⟨hq, by omega, by omega, by omega, rfl⟩
  · rw [oneP_bad hq] at h
    exact absurd h hq
theorem rawP_ok {q : St} (h : (rawP q).2.2 = 0) : q.2 = 0 ∧ (longS q.1).2.2 = 0 ∧ rawP q = ((longS q.1).1, (rest q.1 (longS q.1).2.1.toNat, 0)) := by
  by_cases hq : q.2 = 0
  · unfold rawP at h ⊢
    rw [if_pos hq] at h ⊢
    by_cases h1 : (longS q.1).2.2 = 0
    · rw [if_pos h1]
      exact ⟨hq, h1, rfl⟩
    · rw [if_neg h1] at h
      exact absurd h h1
  · rw [rawP_bad hq] at h
    exact absurd h hq
theorem numP_ok {m : Int} {q : St} (h : (numP m q).2.2 = 0) : numP m q = rawP q ∧ (rawP q).2.2 = 0 ∧ (rawP q).1 ≤ m := by
  unfold numP at h ⊢
  by_cases h1 : m < (rawP q).1
  · rw [if_pos h1] at h
    exact absurd h (fl_ne (by decide))
  · rw [if_neg h1] at h ⊢
    exact ⟨rfl, h, by omega⟩
theorem textP_ok {m : Int} {q : St} (h : (textP m q).2.2 = 0) : (numP m q).2.2 = 0 ∧ (numP m q).1 ≤ ((numP m q).2.1.size : Int) ∧ textP m q = ((numP m q).2.1.extract 0 (numP m q).1.toNat, (rest (numP m q).2.1 (numP m q).1.toNat, 0)) := by
  unfold textP at h ⊢
  by_cases h0 : (numP m q).2.2 = 0
  · rw [if_pos h0] at h ⊢
    by_cases h1 : ((numP m q).2.1.size : Int) < (numP m q).1
    · rw [if_pos h1] at h
      exact absurd h (by decide)
    · rw [if_neg h1]
      exact ⟨h0, by omega, rfl⟩
  · rw [if_neg h0] at h
    exact absurd h h0
/-- 'l stands at the head of q': q is without fault, and taking l off leaves r. -/
def Takes (q : St) (l : List Int) (r : St) : Prop := q.2 = 0 ∧ r.2 = 0 ∧ Bytes l ∧ q.1 = strOfNums l ++ r.1
theorem nil_app (z : ByteArray) : strOfNums [] ++ z = z := by
  apply byt_inj
  rw [byt_append, byt_str (fun _ h => by simp at h), List.nil_append]
theorem take_one (l : List Int) (h : 0 < l.length) : [l[0]] = l.take 1 := by
  cases l with
  | nil => simp at h
  | cons a l => simp
theorem Takes.nil {q : St} (h : q.2 = 0) : Takes q [] q := ⟨h, h, fun _ h => by simp at h, (nil_app q.1).symm⟩
theorem Takes.trans {q r t : St} {a b : List Int} (h : Takes q a r) (k : Takes r b t) : Takes q (a ++ b) t := by
  refine ⟨h.1, k.2.1, h.2.2.1.append k.2.2.1, ?_⟩
  rw [strOfNums_append, ByteArray.append_assoc, ← k.2.2.2, h.2.2.2]
theorem oneP_back {lo hi : Int} {q : St} (h : (oneP lo hi q).2.2 = 0) : Takes q [(oneP lo hi q).1] (oneP lo hi q).2 ∧ lo ≤ (oneP lo hi q).1 ∧ (oneP lo hi q).1 ≤ hi ∧ 0 ≤ (oneP lo hi q).1 ∧ (oneP lo hi q).1 ≤ 255 := by
  obtain ⟨h1, h2, h3, h4, h5⟩ := oneP_ok h
  rw [h5]
  have hb := btr q.1 0
  have hg : bt q.1 0 = (byt q.1)[0]'(by rw [byt_len]; exact h2) := bt_byt q.1 0 h2
  refine ⟨⟨h1, rfl, ?_, ?_⟩, h3, h4, hb.1, by omega⟩
  · intro x hx
    rw [List.mem_singleton.1 hx]
    exact ⟨hb.1, by omega⟩
  · refine (cjoin q.1 1 [bt q.1 0] ?_).symm
    rw [hg]
    exact take_one _ _
theorem rawP_back {q : St} (h : (rawP q).2.2 = 0) : Takes q (sb (rawP q).1.toNat) (rawP q).2 ∧ 0 ≤ (rawP q).1 ∧ (rawP q).1 < 18446744073709551616 := by
  obtain ⟨h1, h2, h3⟩ := rawP_ok h
  obtain ⟨m, e1, k1, k2, k3, k4, k5, k6, k7⟩ := longS_ok q.1 h2
  have hb := longS_back q.1 m e1 k2 k5 k6 k7
  rw [h3, e1]
  simp only [Int.toNat_natCast]
  exact ⟨⟨h1, rfl, sb_bytes _, (cjoin q.1 (m + 1) _ hb).symm⟩, k3, k4⟩
theorem numP_back {m : Int} {q : St} (h : (numP m q).2.2 = 0) : Takes q (sb (numP m q).1.toNat) (numP m q).2 ∧ 0 ≤ (numP m q).1 ∧ (numP m q).1 ≤ m := by
  obtain ⟨h1, h2, h3⟩ := numP_ok h
  obtain ⟨k1, k2, k3⟩ := rawP_back h2
  rw [h1]
  exact ⟨k1, k2, h3⟩
def textE (s : ByteArray) : List Int := sb s.size ++ byt s
theorem textP_back {m : Int} {q : St} (h : (textP m q).2.2 = 0) : Takes q (textE (textP m q).1) (textP m q).2 ∧ ((textP m q).1.size : Int) ≤ m := by
  obtain ⟨h1, h2, h3⟩ := textP_ok h
  obtain ⟨k1, k2, k3⟩ := numP_back h1
  rw [h3]
  generalize hN : numP m q = N at *
  obtain ⟨n, z, e⟩ := N
  obtain ⟨n, rfl⟩ := Int.eq_ofNat_of_zero_le k2
  simp only [Int.toNat_natCast] at h1 h2 k1 k3 ⊢
  have hs : (z.extract 0 n).size = n := by rw [← byt_len, byt_to, List.length_take, byt_len]; omega
  refine ⟨?_, by rw [hs]; exact k3⟩
  unfold textE
  rw [hs]
  refine k1.trans ⟨h1, rfl, byt_bytes _, ?_⟩
  exact (cjoin z n _ (byt_to z n)).symm
def manyP {α : Type} (p : St → α × St) : Nat → St → List α × St
  | 0, q => ([], q)
  | n + 1, q => if q.2 = 0 then ((p q).1 :: (manyP p n (p q).2).1, (manyP p n (p q).2).2) else ([], q)
theorem manyP_bad {α : Type} {p : St → α × St} {q : St} (h : q.2 ≠ 0) : ∀ n, manyP p n q = ([], q)
  | 0 => rfl
  | n + 1 => by simp only [manyP]; rw [if_neg h]
def bodyP (q : St) : S_Column × St :=
  (⟨0, (textP 16 q).1, (kindP (textP 16 q).2).1, (oneP 0 1 (kindP (textP 16 q).2).2).1 == 1, (valP (oneP 0 1 (kindP (textP 16 q).2).2).2).1⟩, (valP (oneP 0 1 (kindP (textP 16 q).2).2).2).2)
/-- The end of all: nothing may be left, and what was read has to be right. -/
def endP (right : Bool) (q : St) : Int := if (if q.1.size = 0 then q else fl 6 q).2 = 0 then (if right = true then 0 else 5) else (if q.1.size = 0 then q else fl 6 q).2
/-- A state as the program holds it: what is left matters as long as nothing was wrong. -/
def At1 (s : ByteArray) (q : St) : Prop := s.size ≤ 1000000000 ∧ (q.2 = 0 → s = q.1)
theorem rest_size (s : ByteArray) (n : Nat) : (rest s n).size = s.size - n := cut_size s n
theorem fail_eq (k : Nat) (s : ByteArray) (e x : Int) : catcode_reader_fail k e s x = some ((), s, if x = 0 then e else x) := by
  unfold catcode_reader_fail
  by_cases h : x = 0
  · rw [if_pos h, if_pos h]
  · rw [if_neg h, if_neg h]
theorem one_eq1 (lo hi : Int) (s : ByteArray) (q : St) (h : At1 s q) : ∃ s', (∀ k, catcode_reader_one k lo hi s q.2 = some ((oneP lo hi q).1, s', (oneP lo hi q).2.2)) ∧ At1 s' (oneP lo hi q).2 := by
  obtain ⟨z, e⟩ := q
  obtain ⟨hz, h⟩ := h
  simp only at h
  unfold catcode_reader_one oneP
  simp only
  by_cases he : e = 0
  · have := h he
    subst this
    subst he
    simp only [fail_eq, if_true, Option.bind_some, ba_nil0]
    by_cases h0 : s.size = 0
    · simp only [if_pos h0]
      exact ⟨s, fun _ => rfl, hz, fun e => absurd e (by decide)⟩
    · simp only [if_neg h0, if_pos (show 0 < (s.size : Int) by omega), if_pos (show 1 ≤ (s.size : Int) by omega), gt_iff_lt]
      by_cases h1 : bt s 0 < lo
      · simp only [if_pos h1, if_pos (show bt s 0 < lo ∨ hi < bt s 0 from .inl h1)]
        exact ⟨s, fun _ => rfl, hz, fun e => absurd e (by decide)⟩
      · by_cases h2 : hi < bt s 0
        · simp only [if_neg h1, if_pos h2, if_pos (show bt s 0 < lo ∨ hi < bt s 0 from .inr h2)]
          exact ⟨s, fun _ => rfl, hz, fun e => absurd e (by decide)⟩
        · simp only [if_neg h1, if_neg h2, if_neg (show ¬ (bt s 0 < lo ∨ hi < bt s 0) by omega)]
          exact ⟨rest s 1, fun _ => rfl, by rw [rest_size]; omega, fun _ => rfl⟩
  · simp only [if_neg he]
    exact ⟨s, fun _ => rfl, hz, fun e => absurd e he⟩
theorem raw_ev1 (s : ByteArray) (q : St) (h : At1 s q) : ∃ s', Ev (fun k => catcode_reader_raw k s q.2) ((rawP q).1, s', (rawP q).2.2) ∧ At1 s' (rawP q).2 := by
  obtain ⟨z, e⟩ := q
  obtain ⟨hz, h⟩ := h
  simp only at h
  unfold catcode_reader_raw rawP
  simp only
  by_cases he : e = 0
  · have := h he
    subst this
    subst he
    have hL := word_Long_ev s
    by_cases h0 : (longS s).2.2 = 0
    · obtain ⟨a1, a2, a3, a4, a5⟩ := long_two s h0
      simp only [if_true, if_pos h0]
      refine ⟨rest s (longS s).2.1.toNat, Ev.flat1 0 hL (fun m h1 => ?_), by rw [rest_size]; omega, fun _ => rfl⟩
      have h1 := h1 0
      simp only [Nat.add_zero] at h1 ⊢
      simp only [h1, fail_eq, Option.bind_some, h0, if_true, if_pos (show 0 ≤ (longS s).2.1 by omega), if_pos a4]
      rfl
    · obtain ⟨e1, e2⟩ := longS_err s h0
      have s1 : (longS s).1 = 0 := by rw [e1]
      have s2 : (longS s).2.1 = 0 := by rw [e1]
      simp only [if_true, if_neg h0]
      refine ⟨rest s 0, Ev.flat1 0 hL (fun m h1 => ?_), by rw [rest_size]; omega, fun e => absurd e h0⟩
      have h1 := h1 0
      simp only [Nat.add_zero] at h1 ⊢
      simp only [h1, fail_eq, Option.bind_some, if_true, s2, s1, Int.le_refl, if_pos (show (0 : Int) ≤ (s.size : Int) by omega)]
      rfl
  · simp only [if_neg he]
    exact ⟨s, Ev.now _, hz, fun e2 => absurd e2 he⟩
theorem raw_range (q : St) : 0 ≤ (rawP q).1 ∧ (rawP q).1 ≤ 18446744073709551615 := by
  by_cases h : (rawP q).2.2 = 0
  · have := rawP_back h
    omega
  · have : (rawP q).1 = 0 := by
      unfold rawP at h ⊢
      split at h
      · rename_i h1
        rw [if_pos h1]
        split at h
        · exact absurd rfl h
        · rename_i h2
          rw [if_neg h2]
      · rename_i h1
        rw [if_neg h1]
    rw [this]
    omega
theorem num_range {m : Int} (h0 : 0 ≤ m) (q : St) : 0 ≤ (numP m q).1 ∧ (numP m q).1 ≤ m := by
  unfold numP
  split
  · exact ⟨by simp, h0⟩
  · exact ⟨(raw_range q).1, by omega⟩
theorem At1.fl {s : ByteArray} {q : St} {e : Int} (h : At1 s q) (he : e ≠ 0) : At1 s (fl e q) := ⟨h.1, fun e2 => absurd e2 (fl_ne he)⟩
theorem fl_two (e : Int) (q : St) : (fl e q).2 = if q.2 = 0 then e else q.2 := by
  unfold fl
  split <;> rfl
theorem raw_zero {q : St} (h : (rawP q).2.2 ≠ 0) : (rawP q).1 = 0 := by
  unfold rawP at h ⊢
  split at h
  · rename_i h1
    rw [if_pos h1]
    split at h
    · exact absurd rfl h
    · rename_i h2
      rw [if_neg h2]
  · rename_i h1
    rw [if_neg h1]
theorem num_zero {m : Int} {q : St} (h : (numP m q).2.2 ≠ 0) : (numP m q).1 = 0 := by
  unfold numP at h ⊢
  split
  · rfl
  · rename_i c
    rw [if_neg c] at h
    exact raw_zero h
theorem num_ev1 (m : Int) (h0 : 0 ≤ m) (h1 : m ≤ 9223372036854775807) (s : ByteArray) (q : St) (h : At1 s q) : ∃ s', Ev (fun k => catcode_reader_number k m s q.2) ((numP m q).1, s', (numP m q).2.2) ∧ At1 s' (numP m q).2 := by
  obtain ⟨s', k1, k2⟩ := raw_ev1 s q h
  have hu : IntKind.u64.wrap m = m := u64_id m h0 (by omega)
  have hr := raw_range q
  unfold catcode_reader_number numP
  by_cases hm : m < (rawP q).1
  · simp only [if_pos hm]
    refine ⟨s', Ev.flat1 0 k1 (fun m h1 => ?_), k2.fl (by decide)⟩
    have h1 := h1 0
    simp only [Nat.add_zero] at h1 ⊢
    simp only [h1, Option.bind_some, hu, gt_iff_lt, if_pos hm, fail_eq, fl_two]
  · simp only [if_neg hm]
    refine ⟨s', Ev.flat1 0 k1 (fun m h1 => ?_), k2⟩
    have h1 := h1 0
    simp only [Nat.add_zero] at h1 ⊢
    simp only [h1, Option.bind_some, hu, gt_iff_lt, if_neg hm, i64w (rawP q).1 (by omega) (by omega)]
theorem text_ev1 (m : Int) (h0 : 0 ≤ m) (h1 : m ≤ 1000000000) (s : ByteArray) (q : St) (h : At1 s q) : ∃ s', Ev (fun k => catcode_reader_text k m s q.2) ((textP m q).1, s', (textP m q).2.2) ∧ At1 s' (textP m q).2 := by
  obtain ⟨s1, k1, k2⟩ := num_ev1 m h0 (by omega) s q h
  have hr := num_range h0 q
  unfold catcode_reader_text textP
  by_cases he : (numP m q).2.2 = 0
  · have hs := k2.2 he
    simp only [if_pos he]
    by_cases hz : ((numP m q).2.1.size : Int) < (numP m q).1
    · simp only [if_pos hz]
      refine ⟨s1, Ev.flat1 0 k1 (fun m h1 => ?_), k2.1, fun e => absurd e (by decide)⟩
      have h1 := h1 0
      simp only [Nat.add_zero] at h1 ⊢
      simp only [h1, Option.bind_some, gt_iff_lt, hs, if_pos hz, fail_eq, he, if_true]
      rfl
    · obtain ⟨n, hn⟩ := Int.eq_ofNat_of_zero_le hr.1
      simp only [if_neg hz]
      refine ⟨rest (numP m q).2.1 (numP m q).1.toNat, Ev.flat1 0 k1 (fun m h1 => ?_), by rw [rest_size, ← hs]; have := k2.1; omega, fun _ => rfl⟩
      have h1 := h1 0
      simp only [Nat.add_zero] at h1 ⊢
      simp only [h1, Option.bind_some, gt_iff_lt, hs, if_neg hz, he, if_true, if_pos hr.1, Int.not_lt.1 hz]
      rfl
  · simp only [if_neg he]
    have hn0 := num_zero he
    refine ⟨s1, Ev.flat1 0 k1 (fun m h1 => ?_), k2⟩
    have h1 := h1 0
    simp only [Nat.add_zero] at h1 ⊢
    simp only [h1, Option.bind_some, gt_iff_lt, hn0, if_neg (show ¬ (s1.size : Int) < 0 by omega), if_neg he]
theorem chk_two (b : Bool) (q : St) : (chk b q).2 = if b = true then q.2 else if q.2 = 0 then 5 else q.2 := by
  unfold chk
  split
  · rfl
  · exact fl_two 5 q
theorem At1.chk {s : ByteArray} {q : St} (b : Bool) (h : At1 s q) : At1 s (chk b q) := by
  refine ⟨h.1, fun e => ?_⟩
  obtain ⟨_, h2, h3⟩ := chk_ok e
  rw [h3]
  exact h.2 h2
theorem one_range {lo hi : Int} (q : St) : 0 ≤ (oneP lo hi q).1 ∧ (oneP lo hi q).1 ≤ 255 ∧ ((oneP lo hi q).1 = 0 ∨ (lo ≤ (oneP lo hi q).1 ∧ (oneP lo hi q).1 ≤ hi)) := by
  by_cases h : (oneP lo hi q).2.2 = 0
  · have := oneP_back h
    omega
  · have : (oneP lo hi q).1 = 0 := by
      unfold oneP at h ⊢
      split at h
      · rename_i c1
        rw [if_pos c1]
        split at h
        · rename_i c2
          rw [if_pos c2]
        · rename_i c2
          rw [if_neg c2]
          split at h
          · rename_i c3
            rw [if_pos c3]
          · exact absurd rfl h
      · rename_i c1
        rw [if_neg c1]
    rw [this]
    omega
theorem text_size (m : Int) (hm : 0 ≤ m) (q : St) : ((textP m q).1.size : Int) ≤ m := by
  by_cases h : (textP m q).2.2 = 0
  · exact (textP_back h).2
  · have : (textP m q).1 = nilB := by
      unfold textP at h ⊢
      split at h
      · rename_i c1
        rw [if_pos c1]
        split at h
        · rename_i c2
          rw [if_pos c2]
        · exact absurd rfl h
      · rename_i c1
        rw [if_neg c1]
    rw [this]
    exact hm
theorem zag_eq1 (k : Nat) (u : Int) (h0 : 0 ≤ u) (h1 : u ≤ 18446744073709551615) : word_Zag k u = some (zagS u) := word_Zag_eq k u h0 h1
theorem value_ev1 (s : ByteArray) (q : St) (h : At1 s q) : ∃ s', Ev (fun k => catcode_reader_value k s q.2) (((valP q).1.f0, (valP q).1.f1, (valP q).1.f2), s', (valP q).2.2) ∧ At1 s' (valP q).2 := by
  obtain ⟨s1, k1, k2⟩ := one_eq1 0 4 s q h
  have hr := one_range (lo := 0) (hi := 4) q
  unfold catcode_reader_value valP
  simp only [k1, Option.bind_some]
  generalize hO : oneP 0 4 q = o at *
  obtain ⟨k, q1⟩ := o
  simp only at k2 hr ⊢
  have hw : IntKind.i64.wrap k = k := i64w _ (by omega) (by omega)
  simp only [hw]
  have hk : k = 0 ∨ k = 1 ∨ k = 2 ∨ k = 3 ∨ k = 4 := by omega
  obtain ⟨s2, r1, r2⟩ := raw_ev1 s1 q1 k2
  obtain ⟨s3, t1, t2⟩ := text_ev1 120 (by decide) (by decide) s1 q1 k2
  have hrr := raw_range q1
  have hts := text_size 120 (by decide) q1
  have u1 := uright_ev (textP 120 q1).1 (by omega)
  have hz := zag_eq1
  rcases hk with e | e | e | e | e
  · subst e
    exact ⟨s1, Ev.now _, k2⟩
  · subst e
    refine ⟨s2, Ev.flat1 0 r1 (fun m h1 => ?_), r2.chk _⟩
    have h1 := h1 0
    simp only [Nat.add_zero] at h1 ⊢
    cases hf : fits32 (zagS (rawP q1).1) <;> simp [h1, zag_eq1 _ _ hrr.1 hrr.2, wfits32, fail_eq, chk_two, hf, nilB]
  · subst e
    refine ⟨s2, Ev.flat1 0 r1 (fun m h1 => ?_), r2.chk _⟩
    have h1 := h1 0
    simp only [Nat.add_zero] at h1 ⊢
    simp [h1, zag_eq1 _ _ hrr.1 hrr.2, chk_two, nilB]
  · subst e
    refine ⟨s3, Ev.flat2 0 t1 u1 (fun m h1 h2 => ?_), t2.chk _⟩
    have h1 := h1 0
    have h2 := h2 0
    simp only [Nat.add_zero] at h1 h2 ⊢
    cases hf : utfB (textP 120 q1).1 <;> simp [h1, h2, fail_eq, chk_two, hf]
  · subst e
    refine ⟨s3, Ev.flat1 0 t1 (fun m h1 => ?_), t2.chk _⟩
    have h1 := h1 0
    simp only [Nat.add_zero] at h1 ⊢
    simp [h1, chk_two]

theorem kind_ev1 (s : ByteArray) (q : St) (h : At1 s q) : ∃ s', Ev (fun k => catcode_reader_kind k s q.2) (((kindP q).1.f0, (kindP q).1.f1), s', (kindP q).2.2) ∧ At1 s' (kindP q).2 := by
  obtain ⟨s1, k1, k2⟩ := one_eq1 1 4 s q h
  have hr := one_range (lo := 1) (hi := 4) q
  obtain ⟨s2, n1, n2⟩ := num_ev1 120 (by decide) (by decide) s1 (oneP 1 4 q).2 k2
  refine ⟨s2, Ev.flat1 0 n1 (fun m h1 => ?_), n2⟩
  have h1 := h1 0
  simp only [Nat.add_zero] at h1 ⊢
  simp only [catcode_reader_kind, k1, h1, Option.bind_some, i64w (oneP 1 4 q).1 (by omega) (by omega), kindP]
theorem body_ev1 (s : ByteArray) (q : St) (h : At1 s q) : ∃ s', Ev (fun k => catcode_reader_body k s q.2) ((0, (bodyP q).1.f1, (bodyP q).1.f2.f0, (bodyP q).1.f2.f1, (bodyP q).1.f3, (bodyP q).1.f4.f0, (bodyP q).1.f4.f1, (bodyP q).1.f4.f2), s', (bodyP q).2.2) ∧ At1 s' (bodyP q).2 := by
  obtain ⟨s1, t1, t2⟩ := text_ev1 16 (by decide) (by decide) s q h
  obtain ⟨s2, k1, k2⟩ := kind_ev1 s1 _ t2
  obtain ⟨s3, o1, o2⟩ := one_eq1 0 1 s2 _ k2
  obtain ⟨s4, v1, v2⟩ := value_ev1 s3 _ o2
  refine ⟨s4, Ev.flat3 0 t1 k1 v1 (fun m h1 h2 h3 => ?_), v2⟩
  have h1 := h1 0
  have h2 := h2 0
  have h3 := h3 0
  simp only [Nat.add_zero] at h1 h2 h3 ⊢
  simp only [catcode_reader_body, h1, h2, o1, h3, Option.bind_some, bodyP, beq_dec]
/-- A state as the reference holds it: a place in the whole text. -/
def At2 (S : ByteArray) (p : Int) (q : St) : Prop := S.size ≤ 1000000000 ∧ (q.2 = 0 → ∃ n : Nat, p = (n : Int) ∧ n ≤ S.size ∧ q.1 = rest S n)
theorem bad_eq (k : Nat) (S : ByteArray) (p e x : Int) : haulageref11_R_bad k e S p x = some ((), S, p, if x = 0 then e else x) := by
  unfold haulageref11_R_bad
  by_cases h : x = 0
  · rw [if_pos h, if_pos h]
  · rw [if_neg h, if_neg h]
theorem rest_rest (S : ByteArray) (a b : Nat) : rest (rest S a) b = rest S (a + b) := cut_cut S a b
theorem bt_rest (S : ByteArray) (n : Nat) (h : n < S.size) : bt (rest S n) 0 = bt S (n : Int) := by
  have h1 := bt_byt (rest S n) 0 (by rw [rest_size]; omega)
  have h2 := bt_byt S n h
  rw [show ((0 : Nat) : Int) = 0 by rfl] at h1
  rw [h1, h2]
  simp only [rest, byt_cut, List.getElem_drop, Nat.add_zero]
theorem one_ev2 (lo hi : Int) (S : ByteArray) (p : Int) (q : St) (h : At2 S p q) : ∃ p', (∀ k, haulageref11_R_Byte k lo hi S p q.2 = some ((oneP lo hi q).1, S, p', (oneP lo hi q).2.2)) ∧ At2 S p' (oneP lo hi q).2 := by
  obtain ⟨z, e⟩ := q
  obtain ⟨hz, h⟩ := h
  simp only at h
  unfold haulageref11_R_Byte oneP
  simp only
  by_cases he : e = 0
  · obtain ⟨n, rfl, hn, rfl⟩ := h he
    subst he
    simp only [bad_eq, if_true, Option.bind_some, rest_size, ge_iff_le, gt_iff_lt]
    by_cases h0 : S.size - n = 0
    · simp only [if_pos h0, if_pos (show (S.size : Int) ≤ (n : Int) by omega), Int.reduceEq, if_false]
      exact ⟨(n : Int), fun _ => rfl, hz, fun e => absurd e (by decide)⟩
    · have hb := btr S (n : Int)
      have hbr := bt_rest S n (by omega)
      have hw : IntKind.i64.wrap (bt S (n : Int)) = bt S (n : Int) := i64w _ (by omega) (by omega)
      simp only [if_neg h0, if_neg (show ¬ (S.size : Int) ≤ (n : Int) by omega), if_pos (show 0 ≤ (n : Int) by omega), if_pos (show (n : Int) < (S.size : Int) by omega), hbr, hw]
      by_cases h1 : bt S (n : Int) < lo
      · simp only [if_pos h1, if_pos (show bt S (n : Int) < lo ∨ hi < bt S (n : Int) from .inl h1)]
        exact ⟨(n : Int), fun _ => rfl, hz, fun e => absurd e (by decide)⟩
      · by_cases h2 : hi < bt S (n : Int)
        · simp only [if_neg h1, if_pos h2, if_pos (show bt S (n : Int) < lo ∨ hi < bt S (n : Int) from .inr h2)]
          exact ⟨(n : Int), fun _ => rfl, hz, fun e => absurd e (by decide)⟩
        · simp only [if_neg h1, if_neg h2, if_neg (show ¬ (bt S (n : Int) < lo ∨ hi < bt S (n : Int)) by omega), i64w_succ n (by omega)]
          exact ⟨((n + 1 : Nat) : Int), fun _ => rfl, hz, fun _ => ⟨n + 1, rfl, by omega, rest_rest S n 1⟩⟩
  · simp only [if_neg he]
    exact ⟨p, fun _ => rfl, hz, fun e2 => absurd e2 he⟩
theorem raw_ev2 (S : ByteArray) (p : Int) (q : St) (h : At2 S p q) : ∃ p', Ev (fun k => haulageref11_R_Raw k S p q.2) ((rawP q).1, S, p', (rawP q).2.2) ∧ At2 S p' (rawP q).2 := by
  obtain ⟨z, e⟩ := q
  obtain ⟨hz, h⟩ := h
  simp only at h
  unfold haulageref11_R_Raw rawP
  simp only
  by_cases he : e = 0
  · obtain ⟨n, rfl, hn, rfl⟩ := h he
    subst he
    have hL := refLong_ev (rest S n)
    have hx : S.extract ((n : Int)).toNat ((S.size : Int)).toNat = rest S n := by rw [Int.toNat_natCast, Int.toNat_natCast]; rfl
    simp only [if_true, if_pos (show 0 ≤ (n : Int) by omega), if_pos (show (n : Int) ≤ (S.size : Int) by omega), hx]
    have hsz := rest_size S n
    by_cases h0 : (longS (rest S n)).2.2 = 0
    · obtain ⟨a1, a2, a3, a4, a5⟩ := long_two (rest S n) h0
      obtain ⟨m, hm⟩ := Int.eq_ofNat_of_zero_le (show 0 ≤ (longS (rest S n)).2.1 by omega)
      simp only [if_pos h0]
      rw [hm] at a3 a4 a5
      refine ⟨((n + m : Nat) : Int), Ev.flat1 0 hL (fun j h1 => ?_), hz, fun _ => ⟨n + m, rfl, by omega, ?_⟩⟩
      · have h1 := h1 0
        simp only [Nat.add_zero] at h1 ⊢
        simp only [h1, Option.bind_some, bad_eq, hm, h0, if_true, i64w ((n : Int) + (m : Int)) (by omega) (by omega)]
        simp
      · rw [hm, Int.toNat_natCast]
        exact rest_rest S n m
    · obtain ⟨e1, e2⟩ := longS_err (rest S n) h0
      have s1 : (longS (rest S n)).1 = 0 := by rw [e1]
      have s2 : (longS (rest S n)).2.1 = 0 := by rw [e1]
      simp only [if_neg h0]
      refine ⟨(n : Int), Ev.flat1 0 hL (fun j h1 => ?_), hz, fun e => absurd e h0⟩
      have h1 := h1 0
      simp only [Nat.add_zero] at h1 ⊢
      simp only [h1, Option.bind_some, bad_eq, s1, s2, if_true, i64w ((n : Int) + 0) (by omega) (by omega)]
      simp
  · simp only [if_neg he]
    exact ⟨p, Ev.now _, hz, fun e2 => absurd e2 he⟩
theorem num_ev2 (m : Int) (h0 : 0 ≤ m) (h1 : m ≤ 9223372036854775807) (S : ByteArray) (p : Int) (q : St) (h : At2 S p q) : ∃ p', Ev (fun k => haulageref11_R_Number k m S p q.2) ((numP m q).1, S, p', (numP m q).2.2) ∧ At2 S p' (numP m q).2 := by
  obtain ⟨p', k1, k2⟩ := raw_ev2 S p q h
  have hu : IntKind.u64.wrap m = m := u64_id m h0 (by omega)
  have hr := raw_range q
  unfold haulageref11_R_Number numP
  by_cases he : (rawP q).2.2 = 0
  · by_cases hm : m < (rawP q).1
    · simp only [if_pos hm]
      refine ⟨p', Ev.flat1 0 k1 (fun m h1 => ?_), k2.1, fun e => absurd e (fl_ne (by decide))⟩
      have h1 := h1 0
      simp only [Nat.add_zero] at h1 ⊢
      simp only [h1, Option.bind_some, hu, gt_iff_lt, if_pos hm, bad_eq, he, if_true, fl_two, Int.reduceEq, if_false]
    · simp only [if_neg hm]
      refine ⟨p', Ev.flat1 0 k1 (fun m h1 => ?_), k2⟩
      have h1 := h1 0
      simp only [Nat.add_zero] at h1 ⊢
      simp only [h1, Option.bind_some, hu, gt_iff_lt, if_neg hm, he, if_true, i64w (rawP q).1 (by omega) (by omega)]
  · have hn0 := raw_zero he
    simp only [if_neg (show ¬ m < (rawP q).1 by omega)]
    refine ⟨p', Ev.flat1 0 k1 (fun m h1 => ?_), k2⟩
    have h1 := h1 0
    simp only [Nat.add_zero] at h1 ⊢
    simp only [h1, Option.bind_some, if_neg he, hn0]
theorem rest_cut (S : ByteArray) (n m : Nat) : (rest S n).extract 0 m = S.extract n (n + m) := cut_to S n m
theorem text_ev2 (m : Int) (h0 : 0 ≤ m) (h1 : m ≤ 1000000000) (S : ByteArray) (p : Int) (q : St) (h : At2 S p q) : ∃ p', Ev (fun k => haulageref11_R_Text k m S p q.2) ((textP m q).1, S, p', (textP m q).2.2) ∧ At2 S p' (textP m q).2 := by
  obtain ⟨p1, k1, k2⟩ := num_ev2 m h0 (by omega) S p q h
  have hr := num_range h0 q
  unfold haulageref11_R_Text textP
  by_cases he : (numP m q).2.2 = 0
  · obtain ⟨n, hp, hn, hq⟩ := k2.2 he
    obtain ⟨N, hN⟩ := Int.eq_ofNat_of_zero_le hr.1
    have hz := k2.1
    have hw : IntKind.i64.wrap ((S.size : Int) - p1) = ((S.size - n : Nat) : Int) := by rw [hp, i64w _ (by omega) (by omega)]; omega
    simp only [if_pos he, hq, hN, rest_size, Int.toNat_natCast]
    by_cases hlt : ((S.size - n : Nat) : Int) < (N : Int)
    · simp only [if_pos hlt]
      refine ⟨p1, Ev.flat1 0 k1 (fun j h1 => ?_), k2.1, fun e => absurd e (by decide)⟩
      have h1 := h1 0
      simp only [Nat.add_zero] at h1 ⊢
      simp only [h1, Option.bind_some, he, if_true, gt_iff_lt, hw, hN, if_pos hlt, bad_eq, Int.reduceEq, if_false]
    · simp only [if_neg hlt]
      refine ⟨((n + N : Nat) : Int), Ev.flat1 0 k1 (fun j h1 => ?_), k2.1, fun _ => ⟨n + N, rfl, by omega, by simp only; rw [rest_rest]⟩⟩
      have w1 : IntKind.i64.wrap (p1 + (N : Int)) = ((n + N : Nat) : Int) := by rw [hp, i64w _ (by omega) (by omega)]; omega
      have w2 : IntKind.i64.wrap (((n + N : Nat) : Int) - (N : Int)) = (n : Int) := by rw [i64w _ (by omega) (by omega)]; omega
      have h1 := h1 0
      simp only [Nat.add_zero] at h1 ⊢
      simp only [h1, Option.bind_some, he, if_true, gt_iff_lt, hw, hN, if_neg hlt, w1, w2, if_pos (show (0 : Int) ≤ ((n + N : Nat) : Int) by omega), if_pos (show ((n + N : Nat) : Int) ≤ (S.size : Int) by omega), if_pos (show (0 : Int) ≤ (n : Int) by omega), if_pos (show (n : Int) ≤ ((n + N : Nat) : Int) by omega), Int.toNat_natCast, rest_cut]
  · have hn0 := num_zero he
    simp only [if_neg he]
    refine ⟨p1, Ev.flat1 0 k1 (fun j h1 => ?_), k2⟩
    have h1 := h1 0
    simp only [Nat.add_zero] at h1 ⊢
    simp only [h1, Option.bind_some, if_neg he]
theorem At2.chk {S : ByteArray} {p : Int} {q : St} (b : Bool) (h : At2 S p q) : At2 S p (chk b q) := by
  refine ⟨h.1, fun e => ?_⟩
  obtain ⟨_, h2, h3⟩ := chk_ok e
  rw [h3]
  exact h.2 h2
theorem value_ev2 (S : ByteArray) (p : Int) (q : St) (h : At2 S p q) : ∃ p', Ev (fun k => haulageref11_R_Value k S p q.2) (((valP q).1.f0, (valP q).1.f1, (valP q).1.f2), S, p', (valP q).2.2) ∧ At2 S p' (valP q).2 := by
  obtain ⟨p1, k1, k2⟩ := one_ev2 0 4 S p q h
  have hr := one_range (lo := 0) (hi := 4) q
  unfold haulageref11_R_Value valP
  simp only [k1, Option.bind_some]
  generalize hO : oneP 0 4 q = o at *
  obtain ⟨k, q1⟩ := o
  simp only at k2 hr ⊢
  have hk : k = 0 ∨ k = 1 ∨ k = 2 ∨ k = 3 ∨ k = 4 := by omega
  obtain ⟨p2, r1, r2⟩ := raw_ev2 S p1 q1 k2
  obtain ⟨p3, t1, t2⟩ := text_ev2 120 (by decide) (by decide) S p1 q1 k2
  have hrr := raw_range q1
  have hzr := zagS_range (rawP q1).1 hrr.1 hrr.2
  have hts := text_size 120 (by decide) q1
  have u1 := rutf_ev (textP 120 q1).1 (by omega)
  have z1 := rfits32_ev _ (i64_wf hzr.1 hzr.2)
  rcases hk with e | e | e | e | e
  · subst e
    exact ⟨p1, Ev.now _, k2⟩
  · subst e
    refine ⟨p2, Ev.flat2 0 r1 z1 (fun m h1 h2 => ?_), r2.chk _⟩
    have h1 := h1 0
    have h2 := h2 0
    simp only [Nat.add_zero] at h1 h2 ⊢
    cases hf : fits32 (zagS (rawP q1).1) <;> simp [h1, h2, refZag_eq _ _ hrr.1 hrr.2, bad_eq, chk_two, hf, nilB]
  · subst e
    refine ⟨p2, Ev.flat1 0 r1 (fun m h1 => ?_), r2.chk _⟩
    have h1 := h1 0
    simp only [Nat.add_zero] at h1 ⊢
    simp [h1, refZag_eq _ _ hrr.1 hrr.2, chk_two, nilB]
  · subst e
    refine ⟨p3, Ev.flat2 0 t1 u1 (fun m h1 h2 => ?_), t2.chk _⟩
    have h1 := h1 0
    have h2 := h2 0
    simp only [Nat.add_zero] at h1 h2 ⊢
    cases hf : utfB (textP 120 q1).1 <;> simp [h1, h2, bad_eq, chk_two, hf]
  · subst e
    refine ⟨p3, Ev.flat1 0 t1 (fun m h1 => ?_), t2.chk _⟩
    have h1 := h1 0
    simp only [Nat.add_zero] at h1 ⊢
    simp [h1, chk_two]

theorem letter_eq (k : Nat) (c : Int) : haulageref04_letter k c = some (decide (97 ≤ c ∧ c ≤ 122)) := by
  unfold haulageref04_letter
  simp only [ge_iff_le]
  by_cases h1 : 97 ≤ c <;> simp [h1]
theorem rpart_eq (k : Nat) (c : Int) : haulageref04_Part k c = some (decide ((97 ≤ c ∧ c ≤ 122) ∨ (48 ≤ c ∧ c ≤ 57) ∨ c = 95)) := by
  unfold haulageref04_Part
  rw [letter_eq, Option.bind_some]
  simp only [ge_iff_le]
  by_cases h1 : 97 ≤ c ∧ c ≤ 122
  · simp [h1]
  · by_cases h3 : 48 ≤ c <;> by_cases h4 : c ≤ 57 <;> by_cases h5 : c = 95 <;> simp [h1, h3, h4, h5]
theorem rnread_ev (s : ByteArray) (hs : s.size ≤ 9223372036854775807) : Ev (fun k => haulageref04_Read k s) (rdn s s.size 0) := by
  have h := down (P := fun i => Ev (fun k => haulageref04_Read.l0 k s (i : Int)) (rdn s (s.size - i) i)) (n := s.size)
    (by
      rw [Nat.sub_self]
      exact Ev.step (f := fun _ => some (s.size : Int)) (fun k => by simp only [haulageref04_Read.l0]; rw [if_neg (by omega)]) (Ev.now _))
    (fun i hi ih => by
      rw [show s.size - i = (s.size - (i + 1)) + 1 by omega]
      refine Ev.step (f := fun k => if partB (bt s (i : Int)) (i : Int) = true then haulageref04_Read.l0 k s ((i + 1 : Nat) : Int) else some (i : Int)) (fun k => ?_) (by
        simp only [rdn]
        exact Ev.ite (fun e => by rw [if_pos e]; exact ih) (fun e => by rw [if_neg e]; exact Ev.now _))
      simp only [haulageref04_Read.l0]
      rw [if_pos (by omega), if_pos (by omega), if_pos (by omega), rpart_eq, Option.bind_some, i64w_succ _ (by omega)]
      by_cases h1 : (97 ≤ bt s (i : Int) ∧ bt s (i : Int) ≤ 122) ∨ (48 ≤ bt s (i : Int) ∧ bt s (i : Int) ≤ 57) ∨ bt s (i : Int) = 95
      · rw [if_pos (by simpa using h1)]
        by_cases h2 : i = 0
        · subst h2
          rw [if_neg (by omega), if_pos (by omega), letter_eq, Option.bind_some]
          unfold partB
          by_cases h3 : 97 ≤ bt s 0 ∧ bt s 0 ≤ 122
          · have h3' : 97 ≤ bt s ((0 : Nat) : Int) ∧ bt s ((0 : Nat) : Int) ≤ 122 := h3
            rw [if_pos (by simpa using h3), if_pos h3', if_pos rfl]
          · have h3' : ¬ (97 ≤ bt s ((0 : Nat) : Int) ∧ bt s ((0 : Nat) : Int) ≤ 122) := h3
            rw [if_neg (by simpa using h3), if_neg h3']
            simp
        · rw [if_pos (by omega)]
          have : partB (bt s (i : Int)) (i : Int) = true := by
            unfold partB
            by_cases h3 : 97 ≤ bt s (i : Int) ∧ bt s (i : Int) ≤ 122
            · rw [if_pos h3]
            · rw [if_neg h3, if_pos (by rcases h1 with h1 | h1; exact absurd h1 h3; exact h1), decide_eq_true (by omega)]
          rw [if_pos this]
      · rw [if_neg (by simpa using h1)]
        have : partB (bt s (i : Int)) (i : Int) = false := by
          unfold partB
          rw [if_neg (fun e => h1 (.inl e)), if_neg (fun e => h1 (.inr e))]
        rw [if_neg (by rw [this]; simp)]) 0 (Nat.zero_le _)
  exact h
theorem rname_ev (s : ByteArray) (hs : s.size ≤ 9223372036854775807) : Ev (fun k => haulageref04_Right k s) (nameB s) := by
  unfold haulageref04_Right nameB
  by_cases h0 : s.size = 0
  · refine Ev.congr (f := fun _ => some false) (fun k => by rw [if_neg (by omega)]) ?_
    rw [decide_eq_false (by omega), Bool.false_and]
    exact Ev.now _
  · rw [decide_eq_true (by omega), Bool.true_and]
    by_cases h1 : s.size ≤ 16
    · rw [decide_eq_true h1, Bool.true_and]
      refine Ev.congr (fun k => by rw [if_pos (by omega), if_pos (by omega)]) ?_
      exact Ev.bind (rnread_ev s hs) (Ev.now _)
    · rw [decide_eq_false h1, Bool.false_and]
      exact Ev.congr (f := fun _ => some false) (fun k => by rw [if_pos (by omega), if_neg (by omega)]) (Ev.now _)

theorem rcolumn_ev (c : S_Column) (h : OkCol c) : Ev (fun k => haulageref08_Column k c.f0 c.f1 c.f2.f0 c.f2.f1 c.f3 c.f4.f0 c.f4.f1 c.f4.f2) (colB c) := by
  refine Ev.flat2 0 (rname_ev c.f1 (by have := h.1; omega)) (rfit_ev c.f2.f0 c.f2.f1 c.f4.f0 c.f4.f1 c.f4.f2 h.2.1 h.2.2) (fun m h1 h2 => ?_)
  have h1 := h1 0
  have h2 := h2 0
  simp only [Nat.add_zero] at h1 h2 ⊢
  unfold colB
  simp only [haulageref08_Column, rtyp_eq, h1, h2, Option.bind_some, zeroV_text]
  by_cases q0 : c.f0 ≥ 0
  · by_cases q1 : c.f0 < 200
    · have q2 : 0 ≤ c.f0 ∧ c.f0 < 200 := by omega
      cases nameB c.f1 <;> cases typB c.f2.f0 c.f2.f1 <;> cases zeroV c.f4 <;> simp [q0, q1, q2]
    · simp [q0, q1]
  · simp [q0]
theorem scanR_mid {α : Type} (p : α → Bool) (c : α) (hc : p c = true) (r : List α) : ∀ (pre : List α) (off : Nat), scanR p (pre ++ c :: r) off = ((off + pre.length : Nat) : Int) ↔ pre.any p = false
  | [], off => by simp [scanR, hc]
  | x :: q, off => by
    have ih := scanR_mid p c hc r q (off + 1)
    simp only [List.cons_append, scanR, List.any_cons]
    by_cases h : p x = true
    · rw [if_pos h, h]
      simp only [List.length_cons, Bool.true_or, Bool.true_eq_false, iff_false]
      omega
    · rw [if_neg h]
      rw [Bool.not_eq_true] at h
      rw [h, Bool.false_or, ← ih, List.length_cons, show off + 1 + q.length = off + (q.length + 1) by omega]
theorem colB_id (c : S_Column) (h : colB c = true) : 0 ≤ c.f0 := by
  unfold colB at h
  rw [Bool.and_eq_true, decide_eq_true_iff] at h
  exact h.1.1
theorem rtable_ev (id : Int) (name : ByteArray) (key next : Int) (l : List S_Column) (hn : name.size ≤ 1000000000) (hok : ∀ c ∈ l, OkCol c) (hl : l.length ≤ 1000000000) : Ev (fun k => haulageref08_Table k id name key next l) (tabB id name key next l) := by
  have hl0 : Ev (fun k => haulageref08_Table.l0 k false 0 id name key next l) (tabGo next key l (-1) false []) := by
    have h := down (P := fun i => ∀ (last : Int) (kf : Bool), (i = 0 → last = -1) → (∀ (_ : 0 < i) (h : i - 1 < l.length), last = l[i - 1].f0) → (∀ j (h : j < l.length), j < i → l[j].f0 ≤ last) → (kf = true → ∃ j, ∃ h : j < l.length, j < i ∧ l[j].f0 = key) →
        Ev (fun k => haulageref08_Table.l0 k kf (i : Int) id name key next l) (tabGo next key (l.drop i) last kf ((l.take i).map (·.f1)))) (n := l.length)
      (fun last kf _ _ _ _ => by
        rw [List.drop_length]
        exact Ev.step (f := fun _ => some kf) (fun k => by simp only [haulageref08_Table.l0]; rw [if_neg (by omega)]) (Ev.now _))
      (fun i hi ih last kf hl1 hl2 hl3 hkf => by
        rw [List.drop_eq_getElem_cons hi]
        have hc := hok _ (List.getElem_mem hi)
        have hsplit : l = l.take i ++ l[i] :: l.drop (i + 1) := by rw [← List.drop_eq_getElem_cons hi, List.take_append_drop]
        have htk : (l.take i).map (·.f1) ++ [l[i].f1] = (l.take (i + 1)).map (·.f1) := by rw [List.take_succ_eq_append_getElem hi, List.map_append]; rfl
        generalize hci : l[i] = c at hc hsplit htk
        have hrd : r_Column l (i : Int) = c := by rw [rd_col l i hi, hci]
        have hfirst : scanR (fun x => decide (x.f1 = c.f1)) l 0 = (i : Int) ↔ hpHas ((l.take i).map (·.f1)) c.f1 = false := by
          have h1 := scanR_mid (fun x : S_Column => decide (x.f1 = c.f1)) c (by simp) (l.drop (i + 1)) (l.take i) 0
          rw [← hsplit, List.length_take, Nat.min_eq_left (by omega), Nat.zero_add] at h1
          rw [h1]
          unfold hpHas
          rw [List.any_map]
          rfl
        have hcolev : Ev (fun k => haulageref08_Col k id name key next l c.f1) (scanR (fun x => decide (x.f1 = c.f1)) l 0) := rcol_ev id name key next l c.f1 (by omega)
        have hfin : colB c = true → last < c.f0 → c.f0 < next → Ev (fun k => (haulageref08_Col k id name key next l c.f1).bind fun t => if t = (i : Int) then (if kf = true then haulageref08_Table.l0 k true ((i + 1 : Nat) : Int) id name key next l else if c.f0 = key then haulageref08_Table.l0 k (!c.f3) ((i + 1 : Nat) : Int) id name key next l else haulageref08_Table.l0 k false ((i + 1 : Nat) : Int) id name key next l) else some false) (tabGo next key (c :: l.drop (i + 1)) last kf ((l.take i).map (·.f1))) := fun g1 g2 g3 => by
          refine Ev.bind hcolev ?_
          simp only [tabGo]
          by_cases h4 : hpHas ((l.take i).map (·.f1)) c.f1 = false
          · rw [if_pos ⟨g1, g2, g3, h4⟩, htk]
            refine Ev.yes (hfirst.2 h4) ?_
            have hkey : c.f0 = key → kf = false := fun e => by
              cases hkv : kf
              · rfl
              · obtain ⟨j, hj, hji, he⟩ := hkf hkv
                have := hl3 j hj hji
                omega
            have hih : ∀ kf2 : Bool, (kf2 = true → kf = true ∨ c.f0 = key) → Ev (fun k => haulageref08_Table.l0 k kf2 ((i + 1 : Nat) : Int) id name key next l) (tabGo next key (l.drop (i + 1)) c.f0 kf2 ((l.take (i + 1)).map (·.f1))) := fun kf2 hk2 => by
              refine ih c.f0 kf2 (fun e => by omega) (fun _ h => ?_) (fun j hj hji => ?_) (fun e => ?_)
              · simp only [Nat.add_sub_cancel]
                rw [hci]
              · by_cases hje : j = i
                · subst hje
                  rw [hci]
                  exact Int.le_refl _
                · have := hl3 j hj (by omega)
                  omega
              · rcases hk2 e with e1 | e1
                · obtain ⟨j, hj, hji, he⟩ := hkf e1
                  exact ⟨j, hj, by omega, he⟩
                · exact ⟨i, hi, by omega, by rw [hci]; exact e1⟩
            by_cases hkt : kf = true
            · have hk : ¬ c.f0 = key := fun e => by rw [hkey e] at hkt; cases hkt
              rw [if_neg hk, hkt]
              exact Ev.yes rfl (hih true (fun _ => .inl hkt))
            · refine Ev.no hkt ?_
              by_cases hk : c.f0 = key
              · rw [if_pos hk]
                exact Ev.yes hk (hih _ (fun _ => .inr hk))
              · rw [if_neg hk]
                rw [Bool.not_eq_true] at hkt
                rw [hkt]
                exact Ev.no hk (hih false (fun e => by cases e))
          · rw [if_neg (fun e => h4 e.2.2.2)]
            exact Ev.no (fun e => h4 (hfirst.1 e)) (Ev.now _)
        refine Ev.step (fun k => by simp only [haulageref08_Table.l0]; rw [if_pos (by omega), if_pos (by omega), if_pos (by omega), hrd, i64w_succ _ (by omega), i64w ((i : Int) - 1) (by omega) (by omega)]) (Ev.bind (rcolumn_ev c hc) ?_)
        by_cases h1 : colB c = true
        · refine Ev.yes h1 (Ev.ite (fun h3 => ?_) (fun h3 => ?_))
          · simp only [tabGo]; rw [if_neg (by omega)]; exact Ev.now _
          · have hid := colB_id c h1
            refine Ev.ite (fun h5 => ?_) (fun h5 => ?_)
            · refine Ev.yes (by omega) (Ev.yes (by omega) ?_)
              have hrd2 : r_Column l ((i : Int) - 1) = l[i - 1] := by
                have := rd_col l (i - 1) (by omega)
                rw [← this]; congr 1; omega
              have hlast := hl2 (by omega) (by omega)
              rw [hrd2, ← hlast]
              refine Ev.ite (fun h6 => ?_) (fun h6 => hfin h1 (by omega) (by omega))
              simp only [tabGo]; rw [if_neg (by omega)]; exact Ev.now _
            · have := hl1 (by omega)
              exact hfin h1 (by omega) (by omega)
        · refine Ev.no h1 ?_
          simp only [tabGo]
          rw [if_neg (fun e => h1 e.1)]
          exact Ev.now _) 0 (Nat.zero_le _)
    exact h (-1) false (fun _ => rfl) (fun h => by omega) (fun j _ h => by omega) (fun h => by cases h)
  unfold haulageref08_Table tabB
  refine Ev.ite (fun h0 => ?_) (fun h0 => Ev.bind (rname_ev name (by omega)) ?_)
  · rw [decide_eq_false (by omega), Bool.false_and]; exact Ev.now _
  · cases nameB name
    · rw [Bool.false_and, Bool.and_false]; exact Ev.no (by simp) (Ev.now _)
    · refine Ev.yes rfl (Ev.ite (fun h1 => ?_) (fun h1 => Ev.ite (fun h2 => ?_) (fun h2 => Ev.ite (fun h3 => ?_) (fun h3 => ?_))))
      · rw [decide_eq_false (by omega), Bool.false_and]; exact Ev.now _
      · rw [decide_eq_false (by omega), Bool.false_and]; exact Ev.now _
      · rw [decide_eq_false (by omega), Bool.false_and]; exact Ev.now _
      · rw [decide_eq_true (by omega), Bool.true_and, Bool.true_and]; exact hl0

theorem type_ev2 (S : ByteArray) (p : Int) (q : St) (h : At2 S p q) : ∃ p', Ev (fun k => haulageref11_R_Type k S p q.2) (((kindP q).1.f0, (kindP q).1.f1), S, p', (kindP q).2.2) ∧ At2 S p' (kindP q).2 := by
  obtain ⟨p1, k1, k2⟩ := one_ev2 1 4 S p q h
  obtain ⟨p2, n1, n2⟩ := num_ev2 120 (by decide) (by decide) S p1 (oneP 1 4 q).2 k2
  refine ⟨p2, Ev.flat1 0 n1 (fun m h1 => ?_), n2⟩
  have h1 := h1 0
  simp only [Nat.add_zero] at h1 ⊢
  simp only [haulageref11_R_Type, k1, h1, Option.bind_some, kindP]
theorem body_ev2 (S : ByteArray) (p : Int) (q : St) (h : At2 S p q) : ∃ p', Ev (fun k => haulageref11_R_body k S p q.2) ((0, (bodyP q).1.f1, (bodyP q).1.f2.f0, (bodyP q).1.f2.f1, (bodyP q).1.f3, (bodyP q).1.f4.f0, (bodyP q).1.f4.f1, (bodyP q).1.f4.f2), S, p', (bodyP q).2.2) ∧ At2 S p' (bodyP q).2 := by
  obtain ⟨p1, t1, t2⟩ := text_ev2 16 (by decide) (by decide) S p q h
  obtain ⟨p2, k1, k2⟩ := type_ev2 S p1 _ t2
  obtain ⟨p3, o1, o2⟩ := one_ev2 0 1 S p2 _ k2
  obtain ⟨p4, v1, v2⟩ := value_ev2 S p3 _ o2
  refine ⟨p4, Ev.flat3 0 t1 k1 v1 (fun m h1 h2 h3 => ?_), v2⟩
  have h1 := h1 0
  have h2 := h2 0
  have h3 := h3 0
  simp only [Nat.add_zero] at h1 h2 h3 ⊢
  simp only [haulageref11_R_body, h1, h2, o1, h3, Option.bind_some, bodyP, beq_dec]
structure S_DDL where
  f0 : Int
  f1 : ByteArray
  f2 : ByteArray
  f3 : ByteArray
  f4 : ByteArray
  f5 : S_Type
  f6 : Bool
  f7 : S_Value
  f8 : List S_Column
def zV : S_Value := ⟨0, 0, nilB⟩
def zT : S_Type := ⟨0, 0⟩
def bareD (op : Int) (t : ByteArray) : S_DDL := ⟨op, t, nilB, nilB, nilB, zT, false, zV, []⟩
/-- What stands behind the table's name. -/
def moreP (op : Int) (t : ByteArray) (q : St) : S_DDL × St :=
  if op = 1 then let a := textP 16 q; let m := numP 10 a.2; let l := manyP bodyP m.1.toNat m.2; ({ bareD op t with f4 := a.1, f8 := l.1 }, l.2)
  else if op = 3 then ({ bareD op t with f3 := (textP 16 q).1 }, (textP 16 q).2)
  else if op = 4 then ({ bareD op t with f2 := (bodyP q).1.f1, f5 := (bodyP q).1.f2, f6 := (bodyP q).1.f3, f7 := (bodyP q).1.f4 }, (bodyP q).2)
  else if op = 5 then ({ bareD op t with f2 := (textP 16 q).1 }, (textP 16 q).2)
  else if op = 6 then ({ bareD op t with f2 := (textP 16 q).1, f3 := (textP 16 (textP 16 q).2).1 }, (textP 16 (textP 16 q).2).2)
  else if op = 7 then ({ bareD op t with f2 := (textP 16 q).1, f5 := (kindP (textP 16 q).2).1 }, (kindP (textP 16 q).2).2)
  else if op = 8 then ({ bareD op t with f2 := (textP 16 q).1, f7 := (valP (textP 16 q).2).1 }, (valP (textP 16 q).2).2)
  else (bareD op t, q)
def ddlP (q : St) : S_DDL × St := moreP (oneP 1 8 (oneP 1 1 q).2).1 (textP 16 (oneP 1 8 (oneP 1 1 q).2).2).1 (textP 16 (oneP 1 8 (oneP 1 1 q).2).2).2
def addC (d : S_DDL) : S_Column := ⟨0, d.f2, d.f5, d.f6, d.f7⟩
def nE (s : ByteArray) : Bool := decide (s.size = 0)
def nT (t : S_Type) : Bool := decide (t.f0 = 0) && decide (t.f1 = 0)
/-- Nothing that the Op doesn't have. -/
def plainB (d : S_DDL) : Bool :=
  if d.f0 = 1 then d.f8.all (fun c => decide (c.f0 = 0)) && (nE d.f2 && (nE d.f3 && (nT d.f5 && (!d.f6 && zeroV d.f7))))
  else decide (d.f8.length = 0) && (nE d.f4 &&
    (if d.f0 = 2 then nE d.f2 && (nE d.f3 && (nT d.f5 && (!d.f6 && zeroV d.f7)))
    else if d.f0 = 3 then nE d.f2 && (nT d.f5 && (!d.f6 && zeroV d.f7))
    else if d.f0 = 4 then nE d.f3
    else if d.f0 = 5 then nE d.f3 && (nT d.f5 && (!d.f6 && zeroV d.f7))
    else if d.f0 = 6 then nT d.f5 && (!d.f6 && zeroV d.f7)
    else if d.f0 = 7 then nE d.f3 && (!d.f6 && zeroV d.f7)
    else if d.f0 = 8 then nE d.f3 && (nT d.f5 && !d.f6)
    else false))
/-- Can a column be written? -/
def canC (c : S_Column) : Bool := nameB c.f1 && (typB c.f2.f0 c.f2.f1 && valB c.f4.f0 c.f4.f1 c.f4.f2)
def canM (d : S_DDL) : Bool :=
  if d.f0 = 1 then d.f8.all canC && (nameB d.f4 && decide (1 ≤ d.f8.length ∧ d.f8.length ≤ 10))
  else if d.f0 = 3 then nameB d.f3
  else if d.f0 = 4 then canC (addC d)
  else if d.f0 = 5 then nameB d.f2
  else if d.f0 = 6 then nameB d.f2 && nameB d.f3
  else if d.f0 = 7 then nameB d.f2 && typB d.f5.f0 d.f5.f1
  else if d.f0 = 8 then nameB d.f2 && valB d.f7.f0 d.f7.f1 d.f7.f2
  else true
def canB (d : S_DDL) : Bool := plainB d && (nameB d.f1 && canM d)
def readddlS (s : ByteArray) : S_DDL × Int := if endP (canB (ddlP (s, 0)).1) (ddlP (s, 0)).2 = 0 then ((ddlP (s, 0)).1, 0) else (bareD 0 nilB, endP (canB (ddlP (s, 0)).1) (ddlP (s, 0)).2)
theorem wf0 : (Lit.int .i64 0).wf = true := by decide
theorem rrd_col (l : List S_Column) (i : Nat) (h : i < l.length) : r_Column l (i : Int) = l[i] := by simp [r_Column, rd, h]
/-- Are two lists alike, element by element? -/
def same2 {α : Type} (q : α → α → Bool) : List α → List α → Bool
  | [], _ => true
  | _ :: _, [] => false
  | x :: r, y :: s => if q x y = true then same2 q r s else false
theorem same2_refl {α : Type} (q : α → α → Bool) : ∀ l : List α, (∀ x ∈ l, q x x = true) → same2 q l l = true
  | [], _ => rfl
  | x :: r, h => by
    simp only [same2]
    rw [if_pos (h x (by simp))]
    exact same2_refl q r (fun y hy => h y (by simp [hy]))
def colEq (x y : S_Column) : Bool := x.f0 == y.f0 && (x.f1.toList == y.f1.toList && ((x.f2.f0 == y.f2.f0 && (x.f2.f1 == y.f2.f1)) && (x.f3 == y.f3 && ((x.f4.f0 == y.f4.f0 && (x.f4.f1 == y.f4.f1 && (x.f4.f2.toList == y.f4.f2.toList)))))))
theorem colEq_refl (x : S_Column) : colEq x x = true := by simp [colEq]
def colsEq (l m : List S_Column) : Bool := decide (l.length = m.length) && same2 colEq l m
theorem colsEq_refl (l : List S_Column) : colsEq l l = true := by
  unfold colsEq
  rw [same2_refl _ _ (fun x _ => colEq_refl x)]
  simp
theorem rsamecols_ev (l m : List S_Column) (hb : l.length ≤ 9223372036854775807) : Ev (fun k => haulageref08_SameCols k l m) (colsEq l m) := by
  unfold haulageref08_SameCols colsEq
  by_cases hl : l.length = m.length
  · refine Ev.congr (fun k => by rw [if_pos (by omega)]) ?_
    rw [decide_eq_true hl, Bool.true_and]
    have h := down (P := fun i => Ev (fun k => haulageref08_SameCols.l0 k l m (i : Int)) (same2 colEq (l.drop i) (m.drop i))) (n := l.length)
      (by rw [List.drop_length]; exact Ev.step (f := fun _ => some true) (fun k => by simp only [haulageref08_SameCols.l0]; rw [if_neg (by omega)]) (Ev.now _))
      (fun i hi ih => by
        rw [List.drop_eq_getElem_cons hi, List.drop_eq_getElem_cons (show i < m.length by omega)]
        refine Ev.step (f := fun k => if colEq l[i] m[i] = true then haulageref08_SameCols.l0 k l m ((i + 1 : Nat) : Int) else some false) (fun k => ?_) ?_
        · simp only [haulageref08_SameCols.l0]
          rw [if_pos (by omega), if_pos (by omega), if_pos (by omega), if_pos (by omega), if_pos (by omega), rrd_col l i hi, rrd_col m i (by omega), i64w_succ _ (by omega)]
          rfl
        · simp only [same2]
          split
          · exact ih
          · exact Ev.now _) 0 (Nat.zero_le _)
    exact h
  · rw [decide_eq_false hl, Bool.false_and]
    exact Ev.congr (f := fun _ => some false) (fun k => by rw [if_neg (by omega)]) (Ev.now _)
/-- What is known of a change. -/
def OkD (d : S_DDL) : Prop := d.f1.size ≤ 1000000000 ∧ d.f2.size ≤ 1000000000 ∧ d.f3.size ≤ 1000000000 ∧ d.f4.size ≤ 1000000000 ∧ d.f7.f2.size ≤ 1000000000 ∧ (Lit.int .i64 d.f7.f1).wf = true ∧ d.f8.length ≤ 1000000000 ∧ ∀ c ∈ d.f8, OkCol c
theorem nE_text (s : ByteArray) : (s.toList == (⟨#[]⟩ : ByteArray).toList) = nE s := by rw [nilB_toList, nil_dec]; rfl
theorem nT_text (t : S_Type) : ((t.f0 == 0) && (t.f1 == 0)) = nT t := by rw [beq_dec, beq_dec]; rfl
theorem nN_text (b : Bool) : (b == false) = !b := by cases b <;> rfl
theorem zV_text (v : S_Value) : ((v.f0 == 0) && ((v.f1 == 0) && (v.f2.toList == (⟨#[]⟩ : ByteArray).toList))) = zeroV v := zeroV_text v
theorem zV_text2 (v : S_Value) : ((v.f0 == 0) && ((v.f1 == 0) && nE v.f2)) = zeroV v := by rw [← nE_text]; exact zV_text v
theorem nE_nil : nE (⟨#[]⟩ : ByteArray) = true := rfl
theorem plain_ev (d : S_DDL) (h : d.f8.length ≤ 1000000000) : Ev (fun k => ddl_Plain k d.f0 d.f1 d.f2 d.f3 d.f4 d.f5.f0 d.f5.f1 d.f6 d.f7.f0 d.f7.f1 d.f7.f2 d.f8) (plainB d) := by
  have hl := down (P := fun i => Ev (fun k => ddl_Plain.l0 k d.f8 (d.f8.length : Int) (i : Int) d.f0 d.f1 d.f2 d.f3 d.f4 d.f5.f0 d.f5.f1 d.f6 d.f7.f0 d.f7.f1 d.f7.f2 d.f8 0 (⟨#[]⟩ : ByteArray) d.f2 d.f3 d.f4 d.f5.f0 d.f5.f1 d.f6 d.f7.f0 d.f7.f1 d.f7.f2) ((d.f8.drop i).all (fun c => decide (c.f0 = 0)) && (nE d.f2 && (nE d.f3 && (nT d.f5 && (!d.f6 && zeroV d.f7)))))) (n := d.f8.length)
    (by
      rw [List.drop_length]
      refine Ev.step (f := fun _ => some (nE d.f2 && (nE d.f3 && (nT d.f5 && (!d.f6 && zeroV d.f7))))) (fun k => ?_) (Ev.now _)
      simp only [ddl_Plain.l0]
      rw [if_neg (by omega), zV_text]
      simp only [nE_text, nT_text, nN_text, nE_nil, Bool.true_and]
      rfl)
    (fun i hi ih => by
      rw [List.drop_eq_getElem_cons hi, List.all_cons]
      refine Ev.step (f := fun k => if d.f8[i].f0 = 0 then ddl_Plain.l0 k d.f8 (d.f8.length : Int) ((i + 1 : Nat) : Int) d.f0 d.f1 d.f2 d.f3 d.f4 d.f5.f0 d.f5.f1 d.f6 d.f7.f0 d.f7.f1 d.f7.f2 d.f8 0 (⟨#[]⟩ : ByteArray) d.f2 d.f3 d.f4 d.f5.f0 d.f5.f1 d.f6 d.f7.f0 d.f7.f1 d.f7.f2 else some false) (fun k => ?_) ?_
      · simp only [ddl_Plain.l0]
        rw [if_pos (by omega), if_pos (by omega), if_pos (by omega), rrd_col _ i hi, i64w_succ _ (by omega)]
      · by_cases h0 : d.f8[i].f0 = 0
        · simp only [h0, if_true, decide_true, Bool.true_and]
          exact ih
        · simp only [h0, if_false, decide_false, Bool.false_and]
          exact Ev.now _) 0 (Nat.zero_le _)
  obtain ⟨op, tb, co, to, ke, ty, nu, de, cs⟩ := d
  simp only at hl h ⊢
  simp only [ddl_Plain, ddl_flat, Option.bind_some, nE_text, nT_text, nN_text, zV_text2, nE_nil, Bool.true_and]
  have hz : ((cs.length : Int) = 0) = (cs.length = 0) := propext ⟨fun h => by omega, fun h => by omega⟩
  simp only [hz]
  by_cases h1 : op = 1
  · subst h1
    simp only [Int.reduceEq, if_false, if_true, plainB]
    rw [List.drop_zero] at hl
    exact hl
  refine Ev.flat0 0 (fun k => ?_)
  unfold plainB
  simp only [if_neg h1]
  by_cases h2 : op = 2
  · subst h2
    by_cases hc : cs.length = 0 <;> cases nE ke <;> cases nE co <;> cases nE to <;> simp [hc]
  by_cases h3 : op = 3
  · subst h3
    by_cases hc : cs.length = 0 <;> cases nE ke <;> cases nE co <;> cases nE to <;> simp [hc]
  by_cases h4 : op = 4
  · subst h4
    by_cases hc : cs.length = 0 <;> cases nE ke <;> cases nE co <;> cases nE to <;> simp [hc]
  by_cases h5 : op = 5
  · subst h5
    by_cases hc : cs.length = 0 <;> cases nE ke <;> cases nE co <;> cases nE to <;> simp [hc]
  by_cases h6 : op = 6
  · subst h6
    by_cases hc : cs.length = 0 <;> cases nE ke <;> cases nE co <;> cases nE to <;> simp [hc]
  by_cases h7 : op = 7
  · subst h7
    by_cases hc : cs.length = 0 <;> cases nE ke <;> cases nE co <;> cases nE to <;> simp [hc]
  by_cases h8 : op = 8
  · subst h8
    by_cases hc : cs.length = 0 <;> cases nE ke <;> cases nE co <;> cases nE to <;> simp [hc]
  · simp [h2, h3, h4, h5, h6, h7, h8]
theorem names_ev (l : List ByteArray) (h : ∀ s ∈ l, s.size ≤ 1000000000) (hn : l.length ≤ 1000) : Ev (fun k => ddltext_names k l) (l.all nameB) := by
  have hl := down (P := fun i => Ev (fun k => ddltext_names.l0 k l (l.length : Int) (i : Int)) ((l.drop i).all nameB)) (n := l.length)
    (by
      rw [List.drop_length]
      exact Ev.step (f := fun _ => some true) (fun k => by simp only [ddltext_names.l0]; rw [if_neg (by omega)]) (Ev.now _))
    (fun i hi ih => by
      rw [List.drop_eq_getElem_cons hi, List.all_cons]
      have hrd : r_str l (i : Int) = l[i] := by simp [r_str, rd, hi]
      refine Ev.step (fun k => by simp only [ddltext_names.l0]; rw [if_pos (by omega), if_pos (by omega), if_pos (by omega), hrd, i64w_succ _ (by omega)]) (Ev.bind (name_ev l[i] (by have := h _ (List.getElem_mem hi); omega)) ?_)
      cases nameB l[i]
      · exact Ev.now _
      · exact ih) 0 (Nat.zero_le _)
  exact hl
theorem names1 (s : ByteArray) (h : s.size ≤ 1000000000) : Ev (fun k => ddltext_names k [s]) (nameB s) := by
  have := names_ev [s] (by simpa using h) (by simp)
  simpa using this
theorem names2 (s t : ByteArray) (h : s.size ≤ 1000000000) (h2 : t.size ≤ 1000000000) : Ev (fun k => ddltext_names k [s, t]) (nameB s && nameB t) := by
  have := names_ev [s, t] (by simpa using ⟨h, h2⟩) (by simp)
  simpa using this
theorem canc_ev (c : S_Column) (h1 : c.f1.size ≤ 1000000000) (h2 : c.f4.f2.size ≤ 1000000000) : Ev (fun k => ddltext_column k c.f0 c.f1 c.f2.f0 c.f2.f1 c.f3 c.f4.f0 c.f4.f1 c.f4.f2) (canC c) := by
  refine Ev.flat2 0 (names1 c.f1 h1) (val_ev c.f4.f0 c.f4.f1 c.f4.f2 h2) (fun m g1 g2 => ?_)
  have g1 := g1 0
  have g2 := g2 0
  simp only [Nat.add_zero] at g1 g2 ⊢
  simp only [ddltext_column, g1, g2, typ_eq, Option.bind_some, canC]
  cases nameB c.f1 <;> cases typB c.f2.f0 c.f2.f1 <;> simp
theorem canl_ev (l : List S_Column) (ke : ByteArray) (hk : ke.size ≤ 1000000000) (hl : l.length ≤ 1000000000) (hc : ∀ c ∈ l, OkCol c) (v0 : Int) (v1 v2 v3 : ByteArray) (v5 v6 : Int) (v7 : Bool) (v8 v9 : Int) (v10 : ByteArray) :
    Ev (fun k => ddltext_Can.l0 k l (l.length : Int) 0 v0 v1 v2 v3 ke v5 v6 v7 v8 v9 v10 l) (l.all canC && (nameB ke && decide (1 ≤ l.length ∧ l.length ≤ 10))) := by
  have h := down (P := fun i => Ev (fun k => ddltext_Can.l0 k l (l.length : Int) (i : Int) v0 v1 v2 v3 ke v5 v6 v7 v8 v9 v10 l) ((l.drop i).all canC && (nameB ke && decide (1 ≤ l.length ∧ l.length ≤ 10)))) (n := l.length)
    (by
      rw [List.drop_length]
      refine Ev.step (fun k => by simp only [ddltext_Can.l0]; rw [if_neg (by omega)]) (Ev.bind (names1 ke hk) ?_)
      cases nameB ke
      · exact Ev.now _
      · refine Ev.flat0 0 (fun k => ?_)
        by_cases h1 : 1 ≤ l.length
        · simp only [if_pos (show (l.length : Int) > 0 by omega), if_true, Bool.true_and]
          rw [show decide ((l.length : Int) ≤ 10) = decide (1 ≤ l.length ∧ l.length ≤ 10) from decide_eq_decide.2 (by omega)]
          rfl
        · simp only [if_neg (show ¬ (l.length : Int) > 0 by omega), if_true, Bool.true_and]
          rw [decide_eq_false (by omega)]
          rfl)
    (fun i hi ih => by
      rw [List.drop_eq_getElem_cons hi, List.all_cons]
      have hcc := hc _ (List.getElem_mem hi)
      refine Ev.step (fun k => by simp only [ddltext_Can.l0]; rw [if_pos (by omega), if_pos (by omega), if_pos (by omega), rrd_col l i hi, i64w_succ _ (by omega)]) (Ev.bind (canc_ev l[i] hcc.1 hcc.2.1) ?_)
      cases canC l[i]
      · exact Ev.now _
      · exact ih) 0 (Nat.zero_le _)
  rw [List.drop_zero] at h
  exact h
theorem can_ev (d : S_DDL) (h : OkD d) : Ev (fun k => ddltext_Can k d.f0 d.f1 d.f2 d.f3 d.f4 d.f5.f0 d.f5.f1 d.f6 d.f7.f0 d.f7.f1 d.f7.f2 d.f8) (canB d) := by
  obtain ⟨h1, h2, h3, h4, h5, _, h6, h7⟩ := h
  unfold ddltext_Can canB
  refine Ev.bind (plain_ev d h6) ?_
  cases plainB d
  · exact Ev.now _
  refine Ev.congr (fun k => if_pos rfl) (Ev.bind (names1 d.f1 h1) ?_)
  cases nameB d.f1
  · exact Ev.now _
  refine Ev.congr (fun k => if_pos rfl) ?_
  rw [Bool.true_and, Bool.true_and]
  have hv := val_ev d.f7.f0 d.f7.f1 d.f7.f2 h5
  obtain ⟨op, tb, co, to, ke, ty, nu, de, cs⟩ := d
  simp only at h1 h2 h3 h4 h5 h6 h7 hv ⊢
  unfold canM
  by_cases c1 : op = 1
  · subst c1
    simp only [Int.reduceEq, if_true]
    exact canl_ev cs ke h4 h6 h7 _ _ _ _ _ _ _ _ _ _
  simp only [if_neg c1]
  by_cases c3 : op = 3
  · subst c3
    simp only [Int.reduceEq, if_true, if_false]
    exact Ev.bind (names1 to h3) (Ev.now _)
  simp only [if_neg c3]
  by_cases c4 : op = 4
  · subst c4
    simp only [Int.reduceEq, if_true, if_false, ddltext_added, Option.bind_some]
    exact Ev.bind (canc_ev (addC ⟨4, tb, co, to, ke, ty, nu, de, cs⟩) h2 h5) (Ev.now _)
  simp only [if_neg c4]
  by_cases c5 : op = 5
  · subst c5
    simp only [Int.reduceEq, if_true, if_false]
    exact Ev.bind (names1 co h2) (Ev.now _)
  simp only [if_neg c5]
  by_cases c6 : op = 6
  · subst c6
    simp only [Int.reduceEq, if_true, if_false]
    exact Ev.bind (names2 co to h2 h3) (Ev.now _)
  simp only [if_neg c6]
  by_cases c7 : op = 7
  · subst c7
    simp only [Int.reduceEq, if_true, if_false]
    refine Ev.bind (names1 co h2) ?_
    cases nameB co
    · exact Ev.now _
    · exact Ev.congr (f := fun _ => some (typB ty.f0 ty.f1)) (fun k => by rw [if_pos rfl, typ_eq]; rfl) (Ev.now _)
  simp only [if_neg c7]
  by_cases c8 : op = 8
  · subst c8
    simp only [Int.reduceEq, if_true, if_false]
    refine Ev.bind (names1 co h2) ?_
    cases nameB co
    · exact Ev.now _
    · exact Ev.congr (fun k => if_pos rfl) (Ev.bind hv (Ev.now _))
  simp only [if_neg c8]
  exact Ev.now _

abbrev DT := Int × ByteArray × ByteArray × ByteArray × ByteArray × Int × Int × Bool × Int × Int × ByteArray × List S_Column
def tupD (d : S_DDL) : DT := (d.f0, d.f1, d.f2, d.f3, d.f4, d.f5.f0, d.f5.f1, d.f6, d.f7.f0, d.f7.f1, d.f7.f2, d.f8)
/-- What a change comes to that was read up to q. -/
def ddlF (p : S_DDL × St) : DT × Int := if endP (canB p.1) p.2 = 0 then (tupD p.1, 0) else (tupD (bareD 0 nilB), endP (canB p.1) p.2)
theorem readddl_F (s : ByteArray) : ddlF (ddlP (s, 0)) = (tupD (readddlS s).1, (readddlS s).2) := by
  unfold ddlF readddlS
  split <;> rfl
theorem okV (q : St) : (valP q).1.f2.size ≤ 120 ∧ (Lit.int .i64 (valP q).1.f1).wf = true := by
  unfold valP
  split
  · have hr := raw_range (oneP 0 4 q).2
    have hz := zagS_range (rawP (oneP 0 4 q).2).1 hr.1 hr.2
    exact ⟨Nat.zero_le _, i64_wf hz.1 hz.2⟩
  · split
    · have := text_size 120 (by decide) (oneP 0 4 q).2
      exact ⟨by simp only; omega, wf0⟩
    · exact ⟨Nat.zero_le _, wf0⟩
theorem okT (q : St) : (textP 16 q).1.size ≤ 16 := by
  have := text_size 16 (by decide) q
  omega
theorem okC (q : St) : OkCol (bodyP q).1 := by
  have h1 := okT q
  have h2 := okV (oneP 0 1 (kindP (textP 16 q).2).2).2
  exact ⟨by show (textP 16 q).1.size ≤ _; omega, by show (valP _).1.f2.size ≤ _; omega, h2.2⟩
theorem okL : ∀ (n : Nat) (q : St), ((manyP bodyP n q).1.length ≤ n ∧ ∀ c ∈ (manyP bodyP n q).1, OkCol c)
  | 0, q => ⟨by simp [manyP], by simp [manyP]⟩
  | n + 1, q => by
    have ih := okL n (bodyP q).2
    simp only [manyP]
    split
    · refine ⟨by simp only [List.length_cons]; omega, fun c hc => ?_⟩
      rcases List.mem_cons.1 hc with e | e
      · rw [e]; exact okC q
      · exact ih.2 c e
    · exact ⟨by simp, by simp⟩
theorem ok_more (op : Int) (t : ByteArray) (ht : t.size ≤ 16) (q : St) : OkD (moreP op t q).1 := by
  have n0 : nilB.size ≤ 1000000000 := by decide
  have bare : ∀ op, OkD (bareD op t) := fun op => ⟨by show t.size ≤ _; omega, n0, n0, n0, n0, wf0, Nat.zero_le _, by simp [bareD]⟩
  unfold moreP
  split
  · have h1 := okT q
    have h2 := okL (numP 10 (textP 16 q).2).1.toNat (numP 10 (textP 16 q).2).2
    have h3 := num_range (m := 10) (by decide) (textP 16 q).2
    exact ⟨by show t.size ≤ _; omega, n0, n0, by show (textP 16 q).1.size ≤ _; omega, n0, wf0, by show (manyP bodyP _ _).1.length ≤ _; omega, h2.2⟩
  split
  · have h1 := okT q
    exact ⟨by show t.size ≤ _; omega, n0, by show (textP 16 q).1.size ≤ _; omega, n0, n0, wf0, Nat.zero_le _, by simp [bareD]⟩
  split
  · have h1 := okC q
    exact ⟨by show t.size ≤ _; omega, h1.1, n0, n0, h1.2.1, h1.2.2, Nat.zero_le _, by simp [bareD]⟩
  split
  · have h1 := okT q
    exact ⟨by show t.size ≤ _; omega, by show (textP 16 q).1.size ≤ _; omega, n0, n0, n0, wf0, Nat.zero_le _, by simp [bareD]⟩
  split
  · have h1 := okT q
    have h2 := okT (textP 16 q).2
    exact ⟨by show t.size ≤ _; omega, by show (textP 16 q).1.size ≤ _; omega, by show (textP 16 (textP 16 q).2).1.size ≤ _; omega, n0, n0, wf0, Nat.zero_le _, by simp [bareD]⟩
  split
  · have h1 := okT q
    exact ⟨by show t.size ≤ _; omega, by show (textP 16 q).1.size ≤ _; omega, n0, n0, n0, wf0, Nat.zero_le _, by simp [bareD]⟩
  split
  · have h1 := okT q
    have h2 := okV (textP 16 q).2
    exact ⟨by show t.size ≤ _; omega, by show (textP 16 q).1.size ≤ _; omega, n0, n0, by show (valP _).1.f2.size ≤ _; omega, h2.2, Nat.zero_le _, by simp [bareD]⟩
  · exact bare op
theorem dend_ev1 (s : ByteArray) (q : St) (h : At1 s q) (d : S_DDL) (hd : OkD d) : ∃ s' e, Ev (fun k => catcode_reader_end k s q.2 d.f0 d.f1 d.f2 d.f3 d.f4 d.f5.f0 d.f5.f1 d.f6 d.f7.f0 d.f7.f1 d.f7.f2 d.f8) (endP (canB d) q, (s', e), tupD d) := by
  by_cases hq : q.2 = 0
  · have hs := h.2 hq
    have hR := can_ev d hd
    by_cases hz : q.1.size = 0
    · refine ⟨s, if canB d = true then 0 else 5, Ev.flat1 0 hR (fun m h1 => ?_)⟩
      have h1 := h1 0
      simp only [Nat.add_zero] at h1 ⊢
      simp only [catcode_reader_end, ba_nil0]
      cases hc : canB d <;> simp [catcode_ReadDDL_1, h1, fail_eq, hs, hz, hq, endP, hc, tupD]
    · refine ⟨s, 6, Ev.flat0 0 (fun m => ?_)⟩
      simp only [catcode_reader_end, ba_nil0]
      simp [fail_eq, hs, hz, hq, endP, fl_two, tupD]
  · refine ⟨s, q.2, Ev.flat0 0 (fun m => ?_)⟩
    have he : endP (canB d) q = q.2 := by
      unfold endP
      rw [fl_bad hq]
      simp [hq]
    rw [he]
    simp only [catcode_reader_end, ba_nil0]
    by_cases hz : s.size = 0 <;> simp [fail_eq, hz, hq, tupD]
theorem dfin_ev1 (s : ByteArray) (q : St) (h : At1 s q) (d : S_DDL) (hd : OkD d) : Ev (fun k => (catcode_reader_end k s q.2 d.f0 d.f1 d.f2 d.f3 d.f4 d.f5.f0 d.f5.f1 d.f6 d.f7.f0 d.f7.f1 d.f7.f2 d.f8).bind fun t => if t.1 = 0 then some ((t.2.2.1, t.2.2.2.1, t.2.2.2.2.1, t.2.2.2.2.2.1, t.2.2.2.2.2.2.1, t.2.2.2.2.2.2.2.1, t.2.2.2.2.2.2.2.2.1, t.2.2.2.2.2.2.2.2.2.1, t.2.2.2.2.2.2.2.2.2.2.1, t.2.2.2.2.2.2.2.2.2.2.2.1, t.2.2.2.2.2.2.2.2.2.2.2.2.1, t.2.2.2.2.2.2.2.2.2.2.2.2.2), 0) else some ((0, (⟨#[]⟩ : ByteArray), (⟨#[]⟩ : ByteArray), (⟨#[]⟩ : ByteArray), (⟨#[]⟩ : ByteArray), 0, 0, false, 0, 0, (⟨#[]⟩ : ByteArray), []), t.1)) (ddlF (d, q)) := by
  obtain ⟨s', e', r⟩ := dend_ev1 s q h d hd
  refine Ev.bind r ?_
  show Ev _ (if endP (canB d) q = 0 then (tupD d, 0) else (tupD (bareD 0 nilB), endP (canB d) q))
  by_cases e : endP (canB d) q = 0
  · exact Ev.eq (Ev.congr (f := fun _ => some (tupD d, 0)) (fun k => by simp only [if_pos e]) (Ev.now _)) (if_pos e).symm
  · exact Ev.eq (Ev.congr (f := fun _ => some (tupD (bareD 0 nilB), endP (canB d) q)) (fun k => by simp only [if_neg e]; rfl) (Ev.now _)) (if_neg e).symm
theorem ddl_l0 (tb ke : ByteArray) (h1 : tb.size ≤ 16) (h2 : ke.size ≤ 16) : ∀ (n : Nat) (s : ByteArray) (q : St) (acc : List S_Column), At1 s q → acc.length + n ≤ 1000 → (∀ c ∈ acc, OkCol c) →
    Ev (fun k => catcode_ReadDDL.l0 k (n : Int) 0 (⟨#[]⟩ : ByteArray) (⟨#[]⟩ : ByteArray) (⟨#[]⟩ : ByteArray) (⟨#[]⟩ : ByteArray) 0 0 false 0 0 (⟨#[]⟩ : ByteArray) [] s q.2 1 tb (⟨#[]⟩ : ByteArray) (⟨#[]⟩ : ByteArray) ke 0 0 false 0 0 (⟨#[]⟩ : ByteArray) acc)
      (ddlF ({ bareD 1 tb with f4 := ke, f8 := acc ++ (manyP bodyP n q).1 }, (manyP bodyP n q).2)) := by
  have hfin : ∀ (s : ByteArray) (q : St) (acc : List S_Column), At1 s q → acc.length ≤ 1000 → (∀ c ∈ acc, OkCol c) → ∀ n : Int, ¬ (n > 0 ∧ q.2 = 0) →
      Ev (fun k => catcode_ReadDDL.l0 k n 0 (⟨#[]⟩ : ByteArray) (⟨#[]⟩ : ByteArray) (⟨#[]⟩ : ByteArray) (⟨#[]⟩ : ByteArray) 0 0 false 0 0 (⟨#[]⟩ : ByteArray) [] s q.2 1 tb (⟨#[]⟩ : ByteArray) (⟨#[]⟩ : ByteArray) ke 0 0 false 0 0 (⟨#[]⟩ : ByteArray) acc) (ddlF ({ bareD 1 tb with f4 := ke, f8 := acc }, q)) := by
    intro s q acc h hl ha n hn
    have n0 : nilB.size ≤ 1000000000 := by decide
    refine Ev.step (fun k => ?_) (dfin_ev1 s q h { bareD 1 tb with f4 := ke, f8 := acc } ⟨by show tb.size ≤ _; omega, n0, n0, by show ke.size ≤ _; omega, n0, wf0, by show acc.length ≤ _; omega, ha⟩)
    simp only [catcode_ReadDDL.l0, Int.reduceEq, if_false]
    by_cases c1 : n > 0
    · rw [if_pos c1, if_neg (fun e => hn ⟨c1, e⟩)]; rfl
    · rw [if_neg c1]; rfl
  intro n
  induction n with
  | zero =>
    intro s q acc h hl ha
    simp only [manyP, List.append_nil]
    exact hfin s q acc h (by omega) ha _ (by omega)
  | succ n ih =>
    intro s q acc h hl ha
    by_cases e : q.2 = 0
    · obtain ⟨s1, b1, b2⟩ := body_ev1 s q h
      have := ih s1 (bodyP q).2 (acc ++ [(bodyP q).1]) b2 (by simp; omega) (fun c hc => by
        rcases List.mem_append.1 hc with e | e
        · exact ha c e
        · rw [List.mem_singleton] at e; rw [e]; exact okC q)
      simp only [manyP, if_pos e]
      rw [List.append_assoc] at this
      refine Ev.step (fun k => by simp only [catcode_ReadDDL.l0]; rw [if_pos (by omega), if_pos e]) (Ev.bind b1 ?_)
      refine Ev.congr (fun k => ?_) this
      rw [if_pos (by omega), show IntKind.i64.wrap (((n + 1 : Nat) : Int) - 1) = (n : Int) by rw [i64w _ (by omega) (by omega)]; omega]
      rfl
    · rw [manyP_bad e, List.append_nil]
      exact hfin s q acc h (by omega) ha _ (fun c => e c.2)
theorem readddl_ev1 (s : ByteArray) (hs : s.size ≤ 1000000000) : Ev (fun k => catcode_ReadDDL k s) (ddlF (ddlP (s, 0))) := by
  have h : At1 s (s, 0) := ⟨hs, fun _ => rfl⟩
  obtain ⟨s1, a1, a2⟩ := one_eq1 1 1 s (s, 0) h
  obtain ⟨s2, b1, b2⟩ := one_eq1 1 8 s1 _ a2
  obtain ⟨s3, c1, c2⟩ := text_ev1 16 (by decide) (by decide) s2 _ b2
  have hr := one_range (lo := 1) (hi := 8) (oneP 1 1 (s, 0)).2
  have ht := okT (oneP 1 8 (oneP 1 1 (s, 0)).2).2
  unfold catcode_ReadDDL ddlP
  simp only at a1
  simp only [a1, Option.bind_some, b1]
  generalize oneP 1 8 (oneP 1 1 (s, 0)).2 = o at *
  obtain ⟨op, q2⟩ := o
  simp only at c1 c2 hr ht ⊢
  have hw : IntKind.i64.wrap op = op := i64w _ (by omega) (by omega)
  simp only [hw]
  refine Ev.bind c1 ?_
  have hm := ok_more op (textP 16 q2).1 ht (textP 16 q2).2
  generalize textP 16 q2 = t at *
  obtain ⟨tn, q3⟩ := t
  simp only at c2 ht hm ⊢
  obtain ⟨t1, d1, d2⟩ := text_ev1 16 (by decide) (by decide) s3 q3 c2
  have hk : op = 0 ∨ op = 1 ∨ op = 2 ∨ op = 3 ∨ op = 4 ∨ op = 5 ∨ op = 6 ∨ op = 7 ∨ op = 8 := by omega
  rcases hk with e | e | e | e | e | e | e | e | e
  · subst e
    simp only [moreP, Int.reduceEq, if_false, if_true] at hm ⊢
    exact dfin_ev1 s3 q3 c2 _ hm
  · subst e
    obtain ⟨t2, e1, e2⟩ := num_ev1 10 (by decide) (by decide) t1 _ d2
    have hn := num_range (m := 10) (by decide) (textP 16 q3).2
    have hk := okT q3
    simp only [moreP, Int.reduceEq, if_false, if_true] at hm ⊢
    refine Ev.bind d1 (Ev.bind e1 ?_)
    have := ddl_l0 tn (textP 16 q3).1 ht hk (numP 10 (textP 16 q3).2).1.toNat t2 _ [] e2 (by simp; omega) (by simp)
    rw [Int.toNat_of_nonneg hn.1, List.nil_append] at this
    exact this
  · subst e
    simp only [moreP, Int.reduceEq, if_false, if_true] at hm ⊢
    exact dfin_ev1 s3 q3 c2 _ hm
  · subst e
    simp only [moreP, Int.reduceEq, if_false, if_true] at hm ⊢
    exact Ev.bind d1 (dfin_ev1 t1 _ d2 _ hm)
  · subst e
    obtain ⟨t2, e1, e2⟩ := body_ev1 s3 q3 c2
    simp only [moreP, Int.reduceEq, if_false, if_true] at hm ⊢
    exact Ev.bind e1 (dfin_ev1 t2 _ e2 _ hm)
  · subst e
    simp only [moreP, Int.reduceEq, if_false, if_true] at hm ⊢
    exact Ev.bind d1 (dfin_ev1 t1 _ d2 _ hm)
  · subst e
    obtain ⟨t2, e1, e2⟩ := text_ev1 16 (by decide) (by decide) t1 _ d2
    simp only [moreP, Int.reduceEq, if_false, if_true] at hm ⊢
    exact Ev.bind d1 (Ev.bind e1 (dfin_ev1 t2 _ e2 _ hm))
  · subst e
    obtain ⟨t2, e1, e2⟩ := kind_ev1 t1 _ d2
    simp only [moreP, Int.reduceEq, if_false, if_true] at hm ⊢
    exact Ev.bind d1 (Ev.bind e1 (dfin_ev1 t2 _ e2 _ hm))
  · subst e
    obtain ⟨t2, e1, e2⟩ := value_ev1 t1 _ d2
    simp only [moreP, Int.reduceEq, if_false, if_true] at hm ⊢
    exact Ev.bind d1 (Ev.bind e1 (dfin_ev1 t2 _ e2 _ hm))

theorem nE_text' (s : ByteArray) : ((⟨#[]⟩ : ByteArray).toList == s.toList) = nE s := by rw [BEq.comm, nE_text]
theorem nT_text' (t : S_Type) : (((0 : Int) == t.f0) && ((0 : Int) == t.f1)) = nT t := by rw [BEq.comm (a := (0 : Int)) (b := t.f0), BEq.comm (a := (0 : Int)) (b := t.f1), nT_text]
theorem nN_text' (b : Bool) : (false == b) = !b := by cases b <;> rfl
theorem zV_text' (v : S_Value) : (((0 : Int) == v.f0) && (((0 : Int) == v.f1) && ((⟨#[]⟩ : ByteArray).toList == v.f2.toList))) = zeroV v := by
  rw [BEq.comm (a := (0 : Int)) (b := v.f0), BEq.comm (a := (0 : Int)) (b := v.f1), BEq.comm (a := (⟨#[]⟩ : ByteArray).toList), zV_text]
theorem zV_text2' (v : S_Value) : (((0 : Int) == v.f0) && (((0 : Int) == v.f1) && nE v.f2)) = zeroV v := by rw [← nE_text']; exact zV_text' v
/-- Are two changes alike? -/
def sameD (d e : S_DDL) : Bool := (d.f0 == e.f0) && ((d.f1.toList == e.f1.toList) && ((d.f2.toList == e.f2.toList) && ((d.f3.toList == e.f3.toList) && ((d.f4.toList == e.f4.toList) && (((d.f5.f0 == e.f5.f0) && (d.f5.f1 == e.f5.f1)) && ((d.f6 == e.f6) && (((d.f7.f0 == e.f7.f0) && ((d.f7.f1 == e.f7.f1) && (d.f7.f2.toList == e.f7.f2.toList))) && colsEq d.f8 e.f8)))))))
theorem sameD_refl (d : S_DDL) : sameD d d = true := by simp [sameD, colsEq_refl]
theorem if_and {p : Prop} [Decidable p] (b : Bool) : (if p then some b else some false) = some (decide p && b) := by
  by_cases h : p <;> simp [h]
theorem rsameD_ev (d e : S_DDL) (h : d.f8.length ≤ 1000000000) : Ev (fun k => haulageref09_Same k d.f0 d.f1 d.f2 d.f3 d.f4 d.f5.f0 d.f5.f1 d.f6 d.f7.f0 d.f7.f1 d.f7.f2 d.f8 e.f0 e.f1 e.f2 e.f3 e.f4 e.f5.f0 e.f5.f1 e.f6 e.f7.f0 e.f7.f1 e.f7.f2 e.f8) (sameD d e) := by
  refine Ev.flat1 0 (rsamecols_ev d.f8 e.f8 (by omega)) (fun m h1 => ?_)
  have h1 := h1 0
  simp only [Nat.add_zero] at h1 ⊢
  simp only [haulageref09_Same, h1, Option.bind_some, if_and, sameD]
  congr 1
  simp only [← Bool.beq_eq_decide_eq]
  simp [beq_dec]
theorem rplain_ev (d : S_DDL) (h : d.f8.length ≤ 1000000000) : Ev (fun k => haulageref09_Plain k d.f0 d.f1 d.f2 d.f3 d.f4 d.f5.f0 d.f5.f1 d.f6 d.f7.f0 d.f7.f1 d.f7.f2 d.f8) (plainB d) := by
  have hl : ∀ c : S_DDL, c.f8.length ≤ 1000000000 → Ev (fun k => haulageref09_Plain.l0 k 0 d.f0 d.f1 d.f2 d.f3 d.f4 d.f5.f0 d.f5.f1 d.f6 d.f7.f0 d.f7.f1 d.f7.f2 d.f8 c.f0 c.f1 c.f2 c.f3 c.f4 c.f5.f0 c.f5.f1 c.f6 c.f7.f0 c.f7.f1 c.f7.f2 c.f8) (d.f8.all (fun c => decide (c.f0 = 0)) && sameD c d) := fun c hc => by
    have hl := down (P := fun i => Ev (fun k => haulageref09_Plain.l0 k (i : Int) d.f0 d.f1 d.f2 d.f3 d.f4 d.f5.f0 d.f5.f1 d.f6 d.f7.f0 d.f7.f1 d.f7.f2 d.f8 c.f0 c.f1 c.f2 c.f3 c.f4 c.f5.f0 c.f5.f1 c.f6 c.f7.f0 c.f7.f1 c.f7.f2 c.f8) ((d.f8.drop i).all (fun c => decide (c.f0 = 0)) && sameD c d)) (n := d.f8.length)
      (by
        rw [List.drop_length]
        refine Ev.step (fun k => by simp only [haulageref09_Plain.l0]; rw [if_neg (by omega)]) (Ev.bind (rsameD_ev c d hc) ?_)
        exact Ev.now _)
      (fun i hi ih => by
        rw [List.drop_eq_getElem_cons hi, List.all_cons]
        refine Ev.step (f := fun k => if d.f8[i].f0 = 0 then haulageref09_Plain.l0 k ((i + 1 : Nat) : Int) d.f0 d.f1 d.f2 d.f3 d.f4 d.f5.f0 d.f5.f1 d.f6 d.f7.f0 d.f7.f1 d.f7.f2 d.f8 c.f0 c.f1 c.f2 c.f3 c.f4 c.f5.f0 c.f5.f1 c.f6 c.f7.f0 c.f7.f1 c.f7.f2 c.f8 else some false) (fun k => ?_) ?_
        · simp only [haulageref09_Plain.l0]
          rw [if_pos (by omega), if_pos (by omega), if_pos (by omega), rrd_col _ i hi, i64w_succ _ (by omega)]
        · by_cases h0 : d.f8[i].f0 = 0
          · simp only [h0, if_true, decide_true, Bool.true_and]
            exact ih
          · simp only [h0, if_false, decide_false, Bool.false_and]
            exact Ev.now _) 0 (Nat.zero_le _)
    rw [List.drop_zero] at hl
    exact hl
  have hs : ∀ c : S_DDL, c.f8.length ≤ 1000000000 → ∀ b, sameD c d = b → Ev (fun k => (haulageref09_Same k c.f0 c.f1 c.f2 c.f3 c.f4 c.f5.f0 c.f5.f1 c.f6 c.f7.f0 c.f7.f1 c.f7.f2 c.f8 d.f0 d.f1 d.f2 d.f3 d.f4 d.f5.f0 d.f5.f1 d.f6 d.f7.f0 d.f7.f1 d.f7.f2 d.f8).bind fun t => some t) b := fun c hc b hb => by
    rw [← hb]
    exact Ev.bind (rsameD_ev c d hc) (Ev.now _)
  have he : colsEq [] d.f8 = decide (d.f8.length = 0) := by
    unfold colsEq
    simp only [same2, Bool.and_true]
    exact decide_eq_decide.2 (by simp [eq_comm])
  obtain ⟨op, tb, co, to, ke, ty, nu, de, cs⟩ := d
  simp only at hl h hs he ⊢
  unfold haulageref09_Plain plainB
  by_cases h1 : op = 1
  · subst h1
    simp only [if_true]
    have := hl ⟨1, tb, ⟨#[]⟩, ⟨#[]⟩, ke, ⟨0, 0⟩, false, ⟨0, 0, ⟨#[]⟩⟩, cs⟩ h
    refine Ev.eq this ?_
    simp only [sameD, colsEq_refl, beq_self_eq_true, Bool.true_and, Bool.and_true, nE_text', nT_text', nN_text', zV_text2']
  simp only [if_neg h1]
  by_cases h2 : op = 2
  · subst h2
    simp only [if_true, Int.reduceEq, if_false]
    refine hs ⟨2, tb, ⟨#[]⟩, ⟨#[]⟩, ⟨#[]⟩, ⟨0, 0⟩, false, ⟨0, 0, ⟨#[]⟩⟩, []⟩ (by simp) _ ?_
    simp only [sameD, he, beq_self_eq_true, Bool.true_and, Bool.and_true, nE_text', nT_text', nN_text', zV_text2']
    cases decide (cs.length = 0) <;> cases nE ke <;> cases nE co <;> cases nE to <;> simp
  simp only [if_neg h2]
  by_cases h3 : op = 3
  · subst h3
    simp only [if_true, Int.reduceEq, if_false]
    refine hs ⟨3, tb, ⟨#[]⟩, to, ⟨#[]⟩, ⟨0, 0⟩, false, ⟨0, 0, ⟨#[]⟩⟩, []⟩ (by simp) _ ?_
    simp only [sameD, he, beq_self_eq_true, Bool.true_and, Bool.and_true, nE_text', nT_text', nN_text', zV_text2']
    cases decide (cs.length = 0) <;> cases nE ke <;> cases nE co <;> cases nE to <;> simp
  simp only [if_neg h3]
  by_cases h4 : op = 4
  · subst h4
    simp only [if_true, Int.reduceEq, if_false]
    refine hs ⟨4, tb, co, ⟨#[]⟩, ⟨#[]⟩, ty, nu, de, []⟩ (by simp) _ ?_
    simp only [sameD, he, beq_self_eq_true, Bool.true_and, Bool.and_true, nE_text', nT_text', nN_text', zV_text2']
    cases decide (cs.length = 0) <;> cases nE ke <;> cases nE co <;> cases nE to <;> simp
  simp only [if_neg h4]
  by_cases h5 : op = 5
  · subst h5
    simp only [if_true, Int.reduceEq, if_false]
    refine hs ⟨5, tb, co, ⟨#[]⟩, ⟨#[]⟩, ⟨0, 0⟩, false, ⟨0, 0, ⟨#[]⟩⟩, []⟩ (by simp) _ ?_
    simp only [sameD, he, beq_self_eq_true, Bool.true_and, Bool.and_true, nE_text', nT_text', nN_text', zV_text2']
    cases decide (cs.length = 0) <;> cases nE ke <;> cases nE co <;> cases nE to <;> simp
  simp only [if_neg h5]
  by_cases h6 : op = 6
  · subst h6
    simp only [if_true, Int.reduceEq, if_false]
    refine hs ⟨6, tb, co, to, ⟨#[]⟩, ⟨0, 0⟩, false, ⟨0, 0, ⟨#[]⟩⟩, []⟩ (by simp) _ ?_
    simp only [sameD, he, beq_self_eq_true, Bool.true_and, Bool.and_true, nE_text', nT_text', nN_text', zV_text2']
    cases decide (cs.length = 0) <;> cases nE ke <;> cases nE co <;> cases nE to <;> simp
  simp only [if_neg h6]
  by_cases h7 : op = 7
  · subst h7
    simp only [if_true, Int.reduceEq, if_false]
    refine hs ⟨7, tb, co, ⟨#[]⟩, ⟨#[]⟩, ty, false, ⟨0, 0, ⟨#[]⟩⟩, []⟩ (by simp) _ ?_
    simp only [sameD, he, beq_self_eq_true, Bool.true_and, Bool.and_true, nE_text', nT_text', nN_text', zV_text2']
    cases decide (cs.length = 0) <;> cases nE ke <;> cases nE co <;> cases nE to <;> simp
  simp only [if_neg h7]
  by_cases h8 : op = 8
  · subst h8
    simp only [if_true, Int.reduceEq, if_false]
    refine hs ⟨8, tb, co, ⟨#[]⟩, ⟨#[]⟩, ⟨0, 0⟩, false, de, []⟩ (by simp) _ ?_
    simp only [sameD, he, beq_self_eq_true, Bool.true_and, Bool.and_true, nE_text', nT_text', nN_text', zV_text2']
    cases decide (cs.length = 0) <;> cases nE ke <;> cases nE co <;> cases nE to <;> simp
  simp only [if_neg h8]
  simp only [Bool.and_false]
  exact Ev.now _
theorem rcanc_ev (c : S_Column) (h1 : c.f1.size ≤ 1000000000) (h2 : c.f4.f2.size ≤ 1000000000) (h3 : (Lit.int .i64 c.f4.f1).wf = true) : Ev (fun k => haulageref10_column k c.f0 c.f1 c.f2.f0 c.f2.f1 c.f3 c.f4.f0 c.f4.f1 c.f4.f2) (canC c) := by
  refine Ev.flat2 0 (rname_ev c.f1 (by omega)) (rval_ev c.f4.f0 c.f4.f1 c.f4.f2 h2 h3) (fun m g1 g2 => ?_)
  have g1 := g1 0
  have g2 := g2 0
  simp only [Nat.add_zero] at g1 g2 ⊢
  simp only [haulageref10_column, g1, g2, rtyp_eq, Option.bind_some, canC]
  cases nameB c.f1 <;> cases typB c.f2.f0 c.f2.f1 <;> simp
theorem rcanl_ev (l : List S_Column) (ke : ByteArray) (hk : ke.size ≤ 1000000000) (hl : l.length ≤ 1000000000) (hc : ∀ c ∈ l, OkCol c) (v0 : Int) (v1 v2 v3 : ByteArray) (v5 v6 : Int) (v7 : Bool) (v8 v9 : Int) (v10 : ByteArray) :
    Ev (fun k => haulageref10_Can.l0 k 0 v0 v1 v2 v3 ke v5 v6 v7 v8 v9 v10 l) (l.all canC && (nameB ke && decide (1 ≤ l.length ∧ l.length ≤ 10))) := by
  have h := down (P := fun i => Ev (fun k => haulageref10_Can.l0 k (i : Int) v0 v1 v2 v3 ke v5 v6 v7 v8 v9 v10 l) ((l.drop i).all canC && (nameB ke && decide (1 ≤ l.length ∧ l.length ≤ 10)))) (n := l.length)
    (by
      rw [List.drop_length]
      refine Ev.step (fun k => by simp only [haulageref10_Can.l0]; rw [if_neg (by omega)]) (Ev.bind (rname_ev ke (by omega)) ?_)
      cases nameB ke
      · exact Ev.now _
      · refine Ev.flat0 0 (fun k => ?_)
        by_cases h1 : 1 ≤ l.length
        · simp only [if_pos (show (l.length : Int) ≥ 1 by omega), if_true, Bool.true_and]
          rw [show decide ((l.length : Int) ≤ 10) = decide (1 ≤ l.length ∧ l.length ≤ 10) from decide_eq_decide.2 (by omega)]
          rfl
        · simp only [if_neg (show ¬ (l.length : Int) ≥ 1 by omega), if_true, Bool.true_and]
          rw [decide_eq_false (by omega)]
          rfl)
    (fun i hi ih => by
      rw [List.drop_eq_getElem_cons hi, List.all_cons]
      have hcc := hc _ (List.getElem_mem hi)
      refine Ev.step (fun k => by simp only [haulageref10_Can.l0]; rw [if_pos (by omega), if_pos (by omega), if_pos (by omega), rrd_col l i hi, i64w_succ _ (by omega)]) (Ev.bind (rcanc_ev l[i] hcc.1 hcc.2.1 hcc.2.2) ?_)
      cases canC l[i]
      · exact Ev.now _
      · exact ih) 0 (Nat.zero_le _)
  exact h
theorem rcan_ev (d : S_DDL) (h : OkD d) : Ev (fun k => haulageref10_Can k d.f0 d.f1 d.f2 d.f3 d.f4 d.f5.f0 d.f5.f1 d.f6 d.f7.f0 d.f7.f1 d.f7.f2 d.f8) (canB d) := by
  obtain ⟨h1, h2, h3, h4, h5, hw, h6, h7⟩ := h
  unfold haulageref10_Can canB
  refine Ev.bind (rplain_ev d h6) ?_
  cases plainB d
  · exact Ev.now _
  refine Ev.congr (fun k => if_pos rfl) (Ev.bind (rname_ev d.f1 (by omega)) ?_)
  cases nameB d.f1
  · exact Ev.now _
  refine Ev.congr (fun k => if_pos rfl) ?_
  rw [Bool.true_and, Bool.true_and]
  have hv := rval_ev d.f7.f0 d.f7.f1 d.f7.f2 h5 hw
  have n2 := rname_ev d.f2 (by omega)
  have n3 := rname_ev d.f3 (by omega)
  obtain ⟨op, tb, co, to, ke, ty, nu, de, cs⟩ := d
  simp only at h1 h2 h3 h4 h5 h6 h7 hv n2 n3 ⊢
  unfold canM
  by_cases c1 : op = 1
  · subst c1
    simp only [Int.reduceEq, if_true]
    exact rcanl_ev cs ke h4 h6 h7 _ _ _ _ _ _ _ _ _ _
  simp only [if_neg c1]
  by_cases c3 : op = 3
  · subst c3
    simp only [Int.reduceEq, if_true, if_false]
    exact Ev.bind n3 (Ev.now _)
  simp only [if_neg c3]
  by_cases c4 : op = 4
  · subst c4
    simp only [Int.reduceEq, if_true, if_false]
    refine Ev.flat2 0 n2 hv (fun m g1 g2 => ?_)
    have g1 := g1 0
    have g2 := g2 0
    simp only [Nat.add_zero] at g1 g2 ⊢
    simp only [g1, g2, rtyp_eq, Option.bind_some, canC, addC]
    cases nameB co <;> cases typB ty.f0 ty.f1 <;> simp
  simp only [if_neg c4]
  by_cases c5 : op = 5
  · subst c5
    simp only [Int.reduceEq, if_true, if_false]
    exact Ev.bind n2 (Ev.now _)
  simp only [if_neg c5]
  by_cases c6 : op = 6
  · subst c6
    simp only [Int.reduceEq, if_true, if_false]
    refine Ev.bind n2 ?_
    cases nameB co
    · exact Ev.now _
    · exact Ev.congr (fun k => if_pos rfl) (Ev.bind n3 (Ev.now _))
  simp only [if_neg c6]
  by_cases c7 : op = 7
  · subst c7
    simp only [Int.reduceEq, if_true, if_false]
    refine Ev.bind n2 ?_
    cases nameB co
    · exact Ev.now _
    · exact Ev.congr (f := fun _ => some (typB ty.f0 ty.f1)) (fun k => by rw [if_pos rfl, rtyp_eq]; rfl) (Ev.now _)
  simp only [if_neg c7]
  by_cases c8 : op = 8
  · subst c8
    simp only [Int.reduceEq, if_true, if_false]
    refine Ev.bind n2 ?_
    cases nameB co
    · exact Ev.now _
    · exact Ev.congr (fun k => if_pos rfl) (Ev.bind hv (Ev.now _))
  simp only [if_neg c8]
  exact Ev.now _

theorem rdfin (S : ByteArray) (p : Int) (q : St) (h : At2 S p q) (d : S_DDL) (hd : OkD d) : Ev (fun k => (if p < (S.size : Int) then ((haulageref11_R_bad k 6 S p q.2).bind fun t1 => (if t1.2.2.2 = 0 then ((haulageref10_Can k d.f0 d.f1 d.f2 d.f3 d.f4 d.f5.f0 d.f5.f1 d.f6 d.f7.f0 d.f7.f1 d.f7.f2 d.f8).bind fun t2 => (if t2 = true then (if t1.2.2.2 = 0 then (some ((d.f0, d.f1, d.f2, d.f3, d.f4, d.f5.f0, d.f5.f1, d.f6, d.f7.f0, d.f7.f1, d.f7.f2, d.f8), 0)) else (some ((0, (⟨#[]⟩ : ByteArray), (⟨#[]⟩ : ByteArray), (⟨#[]⟩ : ByteArray), (⟨#[]⟩ : ByteArray), 0, 0, false, 0, 0, (⟨#[]⟩ : ByteArray), []), t1.2.2.2))) else ((haulageref11_R_bad k 5 t1.2.1 t1.2.2.1 t1.2.2.2).bind fun t3 => (if t3.2.2.2 = 0 then (some ((d.f0, d.f1, d.f2, d.f3, d.f4, d.f5.f0, d.f5.f1, d.f6, d.f7.f0, d.f7.f1, d.f7.f2, d.f8), 0)) else (some ((0, (⟨#[]⟩ : ByteArray), (⟨#[]⟩ : ByteArray), (⟨#[]⟩ : ByteArray), (⟨#[]⟩ : ByteArray), 0, 0, false, 0, 0, (⟨#[]⟩ : ByteArray), []), t3.2.2.2)))))) else (if t1.2.2.2 = 0 then (some ((d.f0, d.f1, d.f2, d.f3, d.f4, d.f5.f0, d.f5.f1, d.f6, d.f7.f0, d.f7.f1, d.f7.f2, d.f8), 0)) else (some ((0, (⟨#[]⟩ : ByteArray), (⟨#[]⟩ : ByteArray), (⟨#[]⟩ : ByteArray), (⟨#[]⟩ : ByteArray), 0, 0, false, 0, 0, (⟨#[]⟩ : ByteArray), []), t1.2.2.2))))) else (if q.2 = 0 then ((haulageref10_Can k d.f0 d.f1 d.f2 d.f3 d.f4 d.f5.f0 d.f5.f1 d.f6 d.f7.f0 d.f7.f1 d.f7.f2 d.f8).bind fun t2 => (if t2 = true then (if q.2 = 0 then (some ((d.f0, d.f1, d.f2, d.f3, d.f4, d.f5.f0, d.f5.f1, d.f6, d.f7.f0, d.f7.f1, d.f7.f2, d.f8), 0)) else (some ((0, (⟨#[]⟩ : ByteArray), (⟨#[]⟩ : ByteArray), (⟨#[]⟩ : ByteArray), (⟨#[]⟩ : ByteArray), 0, 0, false, 0, 0, (⟨#[]⟩ : ByteArray), []), q.2))) else ((haulageref11_R_bad k 5 S p q.2).bind fun t4 => (if t4.2.2.2 = 0 then (some ((d.f0, d.f1, d.f2, d.f3, d.f4, d.f5.f0, d.f5.f1, d.f6, d.f7.f0, d.f7.f1, d.f7.f2, d.f8), 0)) else (some ((0, (⟨#[]⟩ : ByteArray), (⟨#[]⟩ : ByteArray), (⟨#[]⟩ : ByteArray), (⟨#[]⟩ : ByteArray), 0, 0, false, 0, 0, (⟨#[]⟩ : ByteArray), []), t4.2.2.2)))))) else (if q.2 = 0 then (some ((d.f0, d.f1, d.f2, d.f3, d.f4, d.f5.f0, d.f5.f1, d.f6, d.f7.f0, d.f7.f1, d.f7.f2, d.f8), 0)) else (some ((0, (⟨#[]⟩ : ByteArray), (⟨#[]⟩ : ByteArray), (⟨#[]⟩ : ByteArray), (⟨#[]⟩ : ByteArray), 0, 0, false, 0, 0, (⟨#[]⟩ : ByteArray), []), q.2)))))) (ddlF (d, q)) := by
  by_cases hq : q.2 = 0
  · obtain ⟨n, hn, hle, hr⟩ := h.2 hq
    have hz : q.1.size = S.size - n := by rw [hr, rest_size]
    by_cases c : p < (S.size : Int)
    · refine Ev.flat0 0 (fun m => ?_)
      have hz0 : ¬ q.1.size = 0 := by omega
      simp [c, bad_eq, hq, ddlF, endP, hz0, fl_two, tupD, bareD, zV, zT, nilB]
    · have hz0 : q.1.size = 0 := by omega
      refine Ev.flat1 0 (rcan_ev d hd) (fun m h1 => ?_)
      have h1 := h1 0
      simp only [Nat.add_zero] at h1
      cases hc : canB d <;> simp [c, bad_eq, hq, ddlF, endP, hz0, h1, hc, tupD, bareD, zV, zT, nilB]
  · have he : endP (canB d) q = q.2 := by
      unfold endP
      rw [fl_bad hq]
      simp [hq]
    refine Ev.flat0 0 (fun m => ?_)
    by_cases c : p < (S.size : Int) <;> simp [c, bad_eq, hq, ddlF, he, tupD, bareD, zV, zT, nilB]
theorem rddl_l0 (S : ByteArray) (tb ke : ByteArray) (h1 : tb.size ≤ 16) (h2 : ke.size ≤ 16) (N : Nat) (hN : N ≤ 1000) : ∀ (n i : Nat) (p : Int) (q : St) (acc : List S_Column), i + n = N → At2 S p q → acc.length + n ≤ 1000 → (∀ c ∈ acc, OkCol c) →
    Ev (fun k => haulageref11_ReadDDL.l0 k S (N : Int) (i : Int) 0 (⟨#[]⟩ : ByteArray) (⟨#[]⟩ : ByteArray) (⟨#[]⟩ : ByteArray) (⟨#[]⟩ : ByteArray) 0 0 false 0 0 (⟨#[]⟩ : ByteArray) [] S p q.2 1 tb (⟨#[]⟩ : ByteArray) (⟨#[]⟩ : ByteArray) ke 0 0 false 0 0 (⟨#[]⟩ : ByteArray) acc)
      (ddlF ({ bareD 1 tb with f4 := ke, f8 := acc ++ (manyP bodyP n q).1 }, (manyP bodyP n q).2)) := by
  have hfin : ∀ (i : Nat) (p : Int) (q : St) (acc : List S_Column), At2 S p q → acc.length ≤ 1000 → (∀ c ∈ acc, OkCol c) → ¬ ((i : Int) < (N : Int) ∧ q.2 = 0) →
      Ev (fun k => haulageref11_ReadDDL.l0 k S (N : Int) (i : Int) 0 (⟨#[]⟩ : ByteArray) (⟨#[]⟩ : ByteArray) (⟨#[]⟩ : ByteArray) (⟨#[]⟩ : ByteArray) 0 0 false 0 0 (⟨#[]⟩ : ByteArray) [] S p q.2 1 tb (⟨#[]⟩ : ByteArray) (⟨#[]⟩ : ByteArray) ke 0 0 false 0 0 (⟨#[]⟩ : ByteArray) acc) (ddlF ({ bareD 1 tb with f4 := ke, f8 := acc }, q)) := by
    intro i p q acc h hl ha hn
    have n0 : nilB.size ≤ 1000000000 := by decide
    refine Ev.step (fun k => ?_) (rdfin S p q h { bareD 1 tb with f4 := ke, f8 := acc } ⟨by show tb.size ≤ _; omega, n0, n0, by show ke.size ≤ _; omega, n0, wf0, by show acc.length ≤ _; omega, ha⟩)
    simp only [haulageref11_ReadDDL.l0]
    by_cases c1 : (i : Int) < (N : Int)
    · rw [if_pos c1, if_neg (fun e => hn ⟨c1, e⟩)]; rfl
    · rw [if_neg c1]; rfl
  intro n
  induction n with
  | zero =>
    intro i p q acc hi h hl ha
    simp only [manyP, List.append_nil]
    exact hfin i p q acc h (by omega) ha (by omega)
  | succ n ih =>
    intro i p q acc hi h hl ha
    by_cases e : q.2 = 0
    · obtain ⟨p1, b1, b2⟩ := body_ev2 S p q h
      have := ih (i + 1) p1 (bodyP q).2 (acc ++ [(bodyP q).1]) (by omega) b2 (by simp; omega) (fun c hc => by
        rcases List.mem_append.1 hc with e | e
        · exact ha c e
        · rw [List.mem_singleton] at e; rw [e]; exact okC q)
      simp only [manyP, if_pos e]
      rw [List.append_assoc] at this
      refine Ev.step (fun k => by simp only [haulageref11_ReadDDL.l0]; rw [if_pos (by omega), if_pos e]) (Ev.bind b1 ?_)
      refine Ev.congr (fun k => ?_) this
      rw [if_pos (by omega), i64w_succ i (by omega)]
      rfl
    · rw [manyP_bad e, List.append_nil]
      exact hfin i p q acc h (by omega) ha (fun c => e c.2)
theorem readddl_ev2 (s : ByteArray) (hs : s.size ≤ 1000000000) : Ev (fun k => haulageref11_ReadDDL k s) (ddlF (ddlP (s, 0))) := by
  have h : At2 s 0 (s, 0) := ⟨hs, fun _ => ⟨0, rfl, by omega, by unfold rest; simp⟩⟩
  obtain ⟨s1, a1, a2⟩ := one_ev2 1 1 s 0 (s, 0) h
  obtain ⟨s2, b1, b2⟩ := one_ev2 1 8 s s1 _ a2
  obtain ⟨s3, c1, c2⟩ := text_ev2 16 (by decide) (by decide) s s2 _ b2
  have hr := one_range (lo := 1) (hi := 8) (oneP 1 1 (s, 0)).2
  have ht := okT (oneP 1 8 (oneP 1 1 (s, 0)).2).2
  unfold haulageref11_ReadDDL ddlP
  simp only at a1
  simp only [a1, Option.bind_some, b1]
  generalize oneP 1 8 (oneP 1 1 (s, 0)).2 = o at *
  obtain ⟨op, q2⟩ := o
  simp only at c1 c2 hr ht ⊢
  refine Ev.bind c1 ?_
  have hm := ok_more op (textP 16 q2).1 ht (textP 16 q2).2
  generalize textP 16 q2 = t at *
  obtain ⟨tn, q3⟩ := t
  simp only at c2 ht hm ⊢
  obtain ⟨t1, d1, d2⟩ := text_ev2 16 (by decide) (by decide) s s3 q3 c2
  have hk : op = 0 ∨ op = 1 ∨ op = 2 ∨ op = 3 ∨ op = 4 ∨ op = 5 ∨ op = 6 ∨ op = 7 ∨ op = 8 := by omega
  rcases hk with e | e | e | e | e | e | e | e | e
  · subst e
    simp only [moreP, Int.reduceEq, if_false, if_true] at hm ⊢
    exact rdfin s s3 q3 c2 _ hm
  · subst e
    obtain ⟨t2, e1, e2⟩ := num_ev2 10 (by decide) (by decide) s t1 _ d2
    have hn := num_range (m := 10) (by decide) (textP 16 q3).2
    have hk := okT q3
    simp only [moreP, Int.reduceEq, if_false, if_true] at hm ⊢
    refine Ev.bind d1 (Ev.bind e1 ?_)
    have := rddl_l0 s tn (textP 16 q3).1 ht hk (numP 10 (textP 16 q3).2).1.toNat (by omega) (numP 10 (textP 16 q3).2).1.toNat 0 t2 _ [] (by omega) e2 (by simp; omega) (by simp)
    rw [Int.toNat_of_nonneg hn.1, List.nil_append] at this
    exact this
  · subst e
    simp only [moreP, Int.reduceEq, if_false, if_true] at hm ⊢
    exact rdfin s s3 q3 c2 _ hm
  · subst e
    simp only [moreP, Int.reduceEq, if_false, if_true] at hm ⊢
    exact Ev.bind d1 (rdfin s t1 _ d2 _ hm)
  · subst e
    obtain ⟨t2, e1, e2⟩ := body_ev2 s s3 q3 c2
    simp only [moreP, Int.reduceEq, if_false, if_true] at hm ⊢
    exact Ev.bind e1 (rdfin s t2 _ e2 _ hm)
  · subst e
    simp only [moreP, Int.reduceEq, if_false, if_true] at hm ⊢
    exact Ev.bind d1 (rdfin s t1 _ d2 _ hm)
  · subst e
    obtain ⟨t2, e1, e2⟩ := text_ev2 16 (by decide) (by decide) s t1 _ d2
    simp only [moreP, Int.reduceEq, if_false, if_true] at hm ⊢
    exact Ev.bind d1 (Ev.bind e1 (rdfin s t2 _ e2 _ hm))
  · subst e
    obtain ⟨t2, e1, e2⟩ := type_ev2 s t1 _ d2
    simp only [moreP, Int.reduceEq, if_false, if_true] at hm ⊢
    exact Ev.bind d1 (Ev.bind e1 (rdfin s t2 _ e2 _ hm))
  · subst e
    obtain ⟨t2, e1, e2⟩ := value_ev2 s t1 _ d2
    simp only [moreP, Int.reduceEq, if_false, if_true] at hm ⊢
    exact Ev.bind d1 (Ev.bind e1 (rdfin s t2 _ e2 _ hm))

theorem ok_read (s : ByteArray) : OkD (readddlS s).1 := by
  have n0 : nilB.size ≤ 1000000000 := by decide
  unfold readddlS
  split
  · exact ok_more _ _ (okT _) _
  · exact ⟨n0, n0, n0, n0, n0, wf0, Nat.zero_le _, by simp [bareD]⟩

theorem fit_kind {tk tm vk vn : Int} {vs : ByteArray} (h : fitB tk tm vk vn vs = true) : vk = tk ∧ (tk = 1 ∨ tk = 2 ∨ tk = 3 ∨ tk = 4) := by
  unfold fitB at h
  rw [Bool.and_eq_true, Bool.and_eq_true, decide_eq_true_iff] at h
  refine ⟨h.2.1, ?_⟩
  have := h.1
  unfold typB at this
  split at this
  · omega
  · split at this
    · omega
    · cases this

theorem readS_back (kd mx : Int) (s : ByteArray) (ht : typB kd mx = true) (hs : s.size ≤ 1000000000) (h : (readS kd mx s).2.2 = 0) :
    fitB kd mx (readS kd mx s).1.f0 (readS kd mx s).1.f1 (readS kd mx s).1.f2 = true ∧ (readS kd mx s).1.f0 = kd ∧ strOfNums (oneV (readS kd mx s).1) ++ s.extract (readS kd mx s).2.1.toNat s.size = s ∧ OkVal (readS kd mx s).1 := by
  by_cases h0 : (longS s).2.2 = 0
  · obtain ⟨m, e1, h1, h2, h3, h4, h5, h6, h7⟩ := longS_ok s h0
    have hb := longS_back s m e1 h2 h5 h6 h7
    generalize hV : val s (m + 1) = V at *
    obtain ⟨N, rfl⟩ := Int.eq_ofNat_of_zero_le h3
    rw [Int.toNat_natCast] at hb
    unfold readS at h ⊢
    rw [e1] at h ⊢
    simp only at h ⊢
    rw [if_pos trivial] at h ⊢
    rcases typ_cases ht with hk | ⟨hk, hk2, hm1, hm2⟩
    · rw [if_pos hk] at h ⊢
      by_cases hf : fitB kd mx kd (zagS (N : Int)) ⟨#[]⟩ = true
      · rw [if_pos hf]
        simp only
        have ho : oneV ⟨kd, zagS (N : Int), ⟨#[]⟩⟩ = sb N := by
          unfold oneV
          rw [if_pos hk]
          simp only
          rw [zig_zag _ (by omega), Int.toNat_natCast]
        have hzr := zagS_range (N : Int) (by omega) (by omega)
        refine ⟨hf, trivial, ?_, by simp [ByteArray.size], i64_wf hzr.1 hzr.2⟩
        rw [ho, Int.toNat_natCast]
        exact cjoin s (m + 1) _ hb
      · rw [if_neg hf] at h
        exact absurd h (by decide)
    · rw [if_neg hk] at h ⊢
      by_cases hx : mx < (N : Int)
      · rw [if_pos hx] at h
        exact absurd h (by decide)
      rw [if_neg hx] at h ⊢
      by_cases hy : (s.size : Int) - ((m + 1 : Nat) : Int) < (N : Int)
      · rw [if_pos hy] at h
        exact absurd h (by decide)
      rw [if_neg hy] at h ⊢
      have hz : (((m + 1 : Nat) : Int) + (N : Int)).toNat = m + 1 + N := by omega
      rw [hz, Int.toNat_natCast] at h ⊢
      by_cases hu : kd = 3 ∧ utfB (s.extract (m + 1) (m + 1 + N)) = false
      · rw [if_pos hu] at h
        exact absurd h (by decide)
      rw [if_neg hu]
      simp only
      have hsz : (s.extract (m + 1) (m + 1 + N)).size = N := by
        rw [← byt_len, byt_extract, List.length_take, List.length_drop, byt_len]
        omega
      have ho : oneV ⟨kd, 0, s.extract (m + 1) (m + 1 + N)⟩ = sb N ++ byt (s.extract (m + 1) (m + 1 + N)) := by
        unfold oneV
        rw [if_neg hk]
        simp only
        rw [hsz]
      refine ⟨?_, trivial, ?_, by rw [hsz]; omega, (by decide : (Lit.int IntKind.i64 0).wf = true)⟩
      · unfold fitB
        rw [ht, decide_eq_true rfl, hsz, Bool.true_and, Bool.true_and, Bool.and_eq_true, Bool.or_eq_true, decide_eq_true_iff, decide_eq_true_iff]
        refine ⟨?_, .inr (by omega)⟩
        unfold valB
        rcases hk2 with e | e
        · subst e
          rw [if_neg (by decide), if_neg (by decide), if_neg (by decide), if_pos rfl, hsz]
          have : utfB (s.extract (m + 1) (m + 1 + N)) = true := by
            cases hq : utfB (s.extract (m + 1) (m + 1 + N))
            · exact absurd ⟨rfl, hq⟩ hu
            · rfl
          rw [this, decide_eq_true rfl, decide_eq_true (by omega)]
          rfl
        · subst e
          rw [if_neg (by decide), if_neg (by decide), if_neg (by decide), if_neg (by decide), if_pos rfl, hsz, decide_eq_true rfl, decide_eq_true (by omega)]
          rfl
      · rw [ho, hz]
        apply byt_inj
        rw [byt_append, byt_str ((sb_bytes _).append (byt_bytes _)), byt_extract, byt_cut, hb, Nat.add_sub_cancel_left, List.append_assoc, show List.drop (m + 1 + N) (byt s) = List.drop N (List.drop (m + 1) (byt s)) from (List.drop_drop).symm, List.take_append_drop, List.take_append_drop]
  · unfold readS at h
    rw [if_neg h0] at h
    exact absurd h h0
/-- A change. -/
structure Chg where
  k : Int
  lsn : Int
  tb : ByteArray
  v : S_Value
  cl : List S_Cell
  d : S_DDL
/-- A change, as a tuple. -/
abbrev CT := Int × Int × ByteArray × Int × Int × ByteArray × List S_Cell × DT
def tupC (c : Chg) : CT := (c.k, c.lsn, c.tb, c.v.f0, c.v.f1, c.v.f2, c.cl, tupD c.d)
def noC : Chg := ⟨0, 0, nilB, nilV, [], bareD 0 nilB⟩
theorem preR_zero {l : List S_Value} {q : List S_Value × Int} (h : (preR l q).2 = 0) : q.2 = 0 ∧ preR l q = (l ++ q.1, 0) := by
  unfold preR at h ⊢
  by_cases e : q.2 = 0
  · rw [if_pos e]
    exact ⟨e, rfl⟩
  · rw [if_neg e] at h
    exact absurd h e
theorem preR_bad {l : List S_Value} {q : List S_Value × Int} (h : (preR l q).2 ≠ 0) : preR l q = ([], (preR l q).2) := by
  unfold preR at h ⊢
  by_cases e : q.2 = 0
  · rw [if_pos e] at h
    exact absurd rfl h
  · rw [if_neg e]
theorem consR_zero {v : S_Value} {q : List S_Value × Int} (h : (consR v q).2 = 0) : q.2 = 0 ∧ consR v q = (v :: q.1, 0) := by
  unfold consR at h ⊢
  by_cases e : q.2 = 0
  · rw [if_pos e]
    exact ⟨e, rfl⟩
  · rw [if_neg e] at h
    exact absurd h e
theorem nilV_zero : zeroV nilV = true := by unfold zeroV nilV; rw [nilB_toList]; rfl
/-- What is read fits its column, and is right. -/
theorem readS_fit (kd mx : Int) (s : ByteArray) (ht : typB kd mx = true) (hs : s.size ≤ 1000000000) (h : (readS kd mx s).2.2 = 0) :
    fitB kd mx (readS kd mx s).1.f0 (readS kd mx s).1.f1 (readS kd mx s).1.f2 = true ∧ OkVal (readS kd mx s).1 := by
  have hb := readS_back kd mx s ht hs h
  exact ⟨hb.1, hb.2.2.2⟩
theorem decGo_row (s : ByteArray) (hs : s.size ≤ 1000000000) : ∀ (l : List S_Column) (i : Nat) (z : ByteArray), (∀ c ∈ l, typB c.f2.f0 c.f2.f1 = true) → z.size ≤ 1000000000 → (decGo s l i z).2 = 0 →
    (decGo s l i z).1.length = l.length ∧ rowGo l (decGo s l i z).1 = 0 ∧ ∀ v ∈ (decGo s l i z).1, OkVal v
  | [], i, z, _, _, h => by
    simp only [decGo] at h ⊢
    split <;> refine ⟨rfl, by unfold rowGo; rfl, by simp⟩
  | c :: r, i, z, ht, hz, h => by
    have htr : ∀ d ∈ r, typB d.f2.f0 d.f2.f1 = true := fun d hd => ht d (List.mem_cons_of_mem _ hd)
    have htc := ht c (List.mem_cons_self ..)
    simp only [decGo] at h ⊢
    by_cases h1 : bitS s i = 1
    · rw [if_pos h1] at h ⊢
      by_cases h2 : c.f3 = true
      · rw [if_pos h2] at h ⊢
        obtain ⟨e1, e2⟩ := consR_zero h
        obtain ⟨a1, a2, a3⟩ := decGo_row s hs r (i + 1) z htr hz e1
        rw [e2]
        refine ⟨by simp only [List.length_cons, a1], ?_, ?_⟩
        · simp only [rowGo]
          rw [show oneE c nilV = 0 by unfold oneE; rw [if_pos nilV_zero, if_pos h2], if_pos rfl]
          exact a2
        · intro v hv
          rcases List.mem_cons.1 hv with e | e
          · subst e; exact ⟨by decide, by decide⟩
          · exact a3 v e
      · rw [if_neg h2] at h
        exact absurd h (by decide)
    · rw [if_neg h1] at h ⊢
      by_cases h3 : (readS c.f2.f0 c.f2.f1 z).2.2 = 0
      · rw [if_pos h3] at h ⊢
        obtain ⟨e1, e2⟩ := consR_zero h
        obtain ⟨a1, a2, a3⟩ := decGo_row s hs r (i + 1) _ htr (by rw [cut_size]; omega) e1
        obtain ⟨f1, f2⟩ := readS_fit c.f2.f0 c.f2.f1 z htc hz h3
        rw [e2]
        refine ⟨by simp only [List.length_cons, a1], ?_, ?_⟩
        · simp only [rowGo]
          have hk := fit_kind f1
          have hz0 : ¬ zeroV (readS c.f2.f0 c.f2.f1 z).1 = true := fun q => by
            unfold zeroV at q
            rw [Bool.and_eq_true, beq_iff_eq] at q
            omega
          rw [show oneE c (readS c.f2.f0 c.f2.f1 z).1 = 0 by unfold oneE; rw [if_neg hz0, if_pos f1], if_pos rfl]
          exact a2
        · intro v hv
          rcases List.mem_cons.1 hv with e | e
          · subst e; exact f2
          · exact a3 v e
      · rw [if_neg h3] at h
        exact absurd h h3
theorem decR_row (l : List S_Column) (s : ByteArray) (hs : s.size ≤ 1000000000) (ht : ∀ c ∈ l, typB c.f2.f0 c.f2.f1 = true) (h : (decR l s).2 = 0) :
    (decR l s).1.length = l.length ∧ rowGo l (decR l s).1 = 0 ∧ ∀ v ∈ (decR l s).1, OkVal v := by
  unfold decR at h ⊢
  split at h
  · exact absurd h (by decide)
  · rename_i h1
    rw [if_neg h1]
    split at h
    · exact absurd h (by decide)
    · rename_i h2
      rw [if_neg h2]
      obtain ⟨e1, e2⟩ := preR_zero h
      rw [e2, List.nil_append]
      exact decGo_row s hs l 0 _ ht (by rw [cut_size]; omega) e1
theorem decR_bad (l : List S_Column) (s : ByteArray) (h : (decR l s).2 ≠ 0) : decR l s = ([], (decR l s).2) := by
  unfold decR at h ⊢
  split
  · rfl
  · rename_i h1
    rw [if_neg h1] at h
    split
    · rfl
    · rename_i h2
      rw [if_neg h2] at h
      exact preR_bad h

theorem tupC_none : ((0, 0, (⟨#[]⟩ : ByteArray), 0, 0, (⟨#[]⟩ : ByteArray), [], 0, (⟨#[]⟩ : ByteArray), (⟨#[]⟩ : ByteArray), (⟨#[]⟩ : ByteArray), (⟨#[]⟩ : ByteArray), 0, 0, false, 0, 0, (⟨#[]⟩ : ByteArray), []) : CT) = tupC noC := rfl
/-- What a record's change must have to be compared. -/
def OkChg (c : Chg) : Prop := c.cl.length ≤ 1000000 ∧ c.d.f8.length ≤ 1000000000
theorem okNo : OkChg noC := ⟨by simp [noC], by simp [noC, bareD]⟩
theorem unpack_both (a b c : Int) (s : ByteArray) (id : Int) (name : ByteArray) (key next : Int) (l : List S_Column) (lsn : Int) (hs : s.size ≤ 1000000) (hn : name.size ≤ 1000000000) (hok : ∀ c ∈ l, OkCol c) (hl : l.length ≤ 1000000) :
    ∃ (v : Chg) (e : Int), OkChg v ∧ Ev (fun k => walrec_Unpack k a b c s id name key next l lsn) (tupC v, e) ∧ Ev (fun k => haulageref18_Unpack k a b c s id name key next l lsn) (tupC v, e) := by
  by_cases hR : recR a b c s = true
  · have hR' := of_decide_eq_true hR
    by_cases hi : 2 ≤ a ∧ a ≤ 5
    · have hw1 : IntKind.i64.wrap (IntKind.i64.wrap (a - 2) + 1) = a - 1 := by rw [i64w (a - 2) (by omega) (by omega), i64w _ (by omega) (by omega)]; omega
      have hw2 : IntKind.i64.wrap (a - 1) = a - 1 := i64w _ (by omega) (by omega)
      have p1 : ∀ k, walrec_Right k a b c s = some true := fun k => by rw [wright_eq, hR]
      have p2 : ∀ k, walrec_imaged k a = some true := fun k => by rw [imaged_eq]; unfold imgB; rw [decide_eq_true hi]
      have p3 : ∀ k, haulageref18_Right k a b c s = some true := fun k => by rw [rright_eq, hR]
      have hn2 : ¬ a < 2 := by omega
      have hn5 : ¬ a > 5 := by omega
      by_cases hl0 : lsn < 0
      · refine ⟨noC, 2, okNo, Ev.pure fun k => ?_, Ev.pure fun k => ?_⟩
        · unfold walrec_Unpack
          simp only [p1, p2, Option.bind_some, if_true, if_pos hl0, tupC_none]
        · unfold haulageref18_Unpack
          simp only [p3, Option.bind_some, if_true, if_neg hn2, if_neg hn5, if_pos hl0, tupC_none]
      by_cases h5 : a = 5
      · have hr1 := readddl_ev1 s (by omega)
        have hr2 := readddl_ev2 s (by omega)
        rw [readddl_F] at hr1 hr2
        have hok := ok_read s
        generalize readddlS s = q at hr1 hr2 hok
        obtain ⟨d, e⟩ := q
        by_cases he : e = 0
        · subst he
          refine ⟨⟨4, lsn, d.f1, nilV, [], d⟩, 0, ⟨by simp, hok.2.2.2.2.2.2.1⟩, ?_, ?_⟩
          · refine Ev.flat1 0 hr1 (fun m g => ?_)
            have g := g 0
            simp only [Nat.add_zero] at g ⊢
            unfold walrec_Unpack
            simp only [p1, p2, Option.bind_some, if_true, if_neg hl0, if_pos h5, g]
            rfl
          · refine Ev.flat1 0 hr2 (fun m g => ?_)
            have g := g 0
            simp only [Nat.add_zero] at g ⊢
            unfold haulageref18_Unpack
            simp only [p3, Option.bind_some, if_true, if_neg hn2, if_neg hn5, if_neg hl0, if_pos h5, g]
            rfl
        · refine ⟨noC, e, okNo, ?_, ?_⟩
          · refine Ev.flat1 0 hr1 (fun m g => ?_)
            have g := g 0
            simp only [Nat.add_zero] at g ⊢
            unfold walrec_Unpack
            simp only [p1, p2, Option.bind_some, if_true, if_neg hl0, if_pos h5, g, if_neg he]
            rfl
          · refine Ev.flat1 0 hr2 (fun m g => ?_)
            have g := g 0
            simp only [Nat.add_zero] at g ⊢
            unfold haulageref18_Unpack
            simp only [p3, Option.bind_some, if_true, if_neg hn2, if_neg hn5, if_neg hl0, if_pos h5, g, if_neg he]
            rfl
      have t1 := table_ev id name key next l hn hok
      have t2 := rtable_ev id name key next l hn hok (by omega)
      by_cases ht : tabB id name key next l = true
      case neg =>
        have ht' : tabB id name key next l = false := by simpa using ht
        rw [ht'] at t1 t2
        refine ⟨noC, 2, okNo, ?_, ?_⟩
        · refine Ev.flat1 0 t1 (fun m g => ?_)
          have g := g 0
          simp only [Nat.add_zero] at g ⊢
          unfold walrec_Unpack
          simp only [p1, p2, Option.bind_some, if_true, if_neg hl0, if_neg h5, g, Bool.false_eq_true, if_false]
          rfl
        · refine Ev.flat1 0 t2 (fun m g => ?_)
          have g := g 0
          simp only [Nat.add_zero] at g ⊢
          unfold haulageref18_Unpack
          simp only [p3, Option.bind_some, if_true, if_neg hn2, if_neg hn5, if_neg hl0, if_neg h5, g, Bool.false_eq_true, if_false]
          rfl
      rw [ht] at t1 t2
      obtain ⟨i, hil, hk1, hk2⟩ := key_at ht
      have hty := tabB_types ht
      by_cases hid : id = c
      case neg =>
        refine ⟨noC, 12, okNo, ?_, ?_⟩
        · refine Ev.flat1 0 t1 (fun m g => ?_)
          have g := g 0
          simp only [Nat.add_zero] at g ⊢
          unfold walrec_Unpack
          simp only [p1, p2, Option.bind_some, if_true, if_neg hl0, if_neg h5, g, if_neg hid]
          rfl
        · refine Ev.flat1 0 t2 (fun m g => ?_)
          have g := g 0
          simp only [Nat.add_zero] at g ⊢
          unfold haulageref18_Unpack
          simp only [p3, Option.bind_some, if_true, if_neg hn2, if_neg hn5, if_neg hl0, if_neg h5, g, if_neg hid]
          rfl
      by_cases h4 : a = 4
      · have kt := key_type_ev (next := next) hn hok (by omega) ht i hil hk1
        have r1 := readkey_ev kt (hty _ (List.getElem_mem hil)) s (by omega)
        have r2 := rreadkey_ev (id := id) (name := name) (key := key) (next := next) (by omega) i hil hk2 (hty _ (List.getElem_mem hil)) s (by omega)
        generalize readK l[i].f2.f0 l[i].f2.f1 s = q at r1 r2
        obtain ⟨v, e⟩ := q
        by_cases he : e = 0
        · subst he
          refine ⟨⟨a - 1, lsn, name, v, [], bareD 0 nilB⟩, 0, ⟨by simp, by simp [bareD]⟩, ?_, ?_⟩
          · refine Ev.flat2 0 t1 r1 (fun m g g2 => ?_)
            have g := g 0
            have g2 := g2 0
            simp only [Nat.add_zero] at g g2 ⊢
            unfold walrec_Unpack
            simp only [p1, p2, Option.bind_some, if_true, if_neg hl0, if_neg h5, g, if_pos hid, if_pos h4, g2, hw1]
            rfl
          · refine Ev.flat2 0 t2 r2 (fun m g g2 => ?_)
            have g := g 0
            have g2 := g2 0
            simp only [Nat.add_zero] at g g2 ⊢
            unfold haulageref18_Unpack
            simp only [p3, Option.bind_some, if_true, if_neg hn2, if_neg hn5, if_neg hl0, if_neg h5, g, if_pos hid, if_pos h4, g2, hw2]
            rfl
        · refine ⟨noC, e, okNo, ?_, ?_⟩
          · refine Ev.flat2 0 t1 r1 (fun m g g2 => ?_)
            have g := g 0
            have g2 := g2 0
            simp only [Nat.add_zero] at g g2 ⊢
            unfold walrec_Unpack
            simp only [p1, p2, Option.bind_some, if_true, if_neg hl0, if_neg h5, g, if_pos hid, if_pos h4, g2, if_neg he]
            rfl
          · refine Ev.flat2 0 t2 r2 (fun m g g2 => ?_)
            have g := g 0
            have g2 := g2 0
            simp only [Nat.add_zero] at g g2 ⊢
            unfold haulageref18_Unpack
            simp only [p3, Option.bind_some, if_true, if_neg hn2, if_neg hn5, if_neg hl0, if_neg h5, g, if_pos hid, if_pos h4, g2, if_neg he]
            rfl
      have d1 := decode_ev id name key next l s hn hok hs
      have d2 := rdecode_ev id name key next l s hs ht
      rw [if_pos ht] at d1
      have hrow := decR_row l s (by omega) hty
      have hbad := decR_bad l s
      generalize decR l s = q at d1 d2 hrow hbad
      obtain ⟨row, e⟩ := q
      simp only at hrow hbad
      by_cases he : e = 0
      · subst he
        obtain ⟨w1, w2, w3⟩ := hrow rfl
        have hrE : rowE id name key next l row = 0 := by unfold rowE fitsE; rw [if_pos ht, if_pos w1]; exact w2
        have c1 := cells_ev id name key next l row hn hok hl (by omega) w3 hrE
        have c2 := rcells_ev id name key next l row hl w1
        have k1 := key_ev id name key next l (by omega)
        have k2 := rkey_ev id name key next l (by omega)
        rw [hk1] at k1
        rw [hk2] at k2
        have hir : i < row.length := by omega
        refine ⟨⟨a - 1, lsn, name, row[i], cellsZ l row, bareD 0 nilB⟩, 0, ⟨Nat.le_trans (cellsZ_len l row) hl, by simp [bareD]⟩, ?_, ?_⟩
        · have hc : Ev (fun k => walrec_cells k id name key next l s (a - 1) lsn name 0 0 (⟨#[]⟩ : ByteArray) [] 0 (⟨#[]⟩ : ByteArray) (⟨#[]⟩ : ByteArray) (⟨#[]⟩ : ByteArray) (⟨#[]⟩ : ByteArray) 0 0 false 0 0 (⟨#[]⟩ : ByteArray) []) (0, tupC ⟨a - 1, lsn, name, row[i], cellsZ l row, bareD 0 nilB⟩) := by
            refine Ev.flat3 0 d1 k1 c1 (fun m g g2 g3 => ?_)
            have g := g 0
            have g2 := g2 0
            have g3 := g3 0
            simp only [Nat.add_zero] at g g2 g3 ⊢
            unfold walrec_cells
            simp only [g, g2, g3, Option.bind_some, if_true]
            rw [if_pos (by omega), if_pos (by omega), rd_val row i hir]
            rfl
          refine Ev.flat2 0 t1 hc (fun m g g2 => ?_)
          have g := g 0
          have g2 := g2 0
          simp only [Nat.add_zero] at g g2 ⊢
          unfold walrec_Unpack
          simp only [p1, p2, Option.bind_some, if_true, if_neg hl0, if_neg h5, g, if_pos hid, if_neg h4, hw1, g2]
        · refine Ev.flat2 0 t2 (Ev.bind (f := fun k (t : List S_Value × Int) => (haulageref08_Key k id name key next l).bind fun t6 => (haulageref08_Cells k id name key next l row).bind fun t7 => some (t, t6, t7)) d2 (Ev.bind k2 (Ev.bind c2 (Ev.now _)))) (fun m g g2 => ?_)
          have g := g 0
          have g2 := g2 0
          simp only [Nat.add_zero] at g g2 ⊢
          obtain ⟨x1, y1, z1⟩ := Option.bind_eq_some_iff.1 g2
          obtain ⟨x2, y2, z2⟩ := Option.bind_eq_some_iff.1 z1
          obtain ⟨x3, y3, z3⟩ := Option.bind_eq_some_iff.1 z2
          simp only [Option.some.injEq, Prod.mk.injEq] at z3
          obtain ⟨rfl, rfl, rfl⟩ := z3
          unfold haulageref18_Unpack
          simp only [p3, Option.bind_some, if_true, if_neg hn2, if_neg hn5, if_neg hl0, if_neg h5, g, if_pos hid, if_neg h4, hw2, y1, y2, y3]
          rw [if_pos (by omega), if_pos (by omega), rd_val row i hir]
          rfl
      · have hb := hbad he
        simp only [Prod.mk.injEq] at hb
        obtain ⟨rfl, _⟩ := hb
        refine ⟨noC, e, okNo, ?_, ?_⟩
        · have hc : Ev (fun k => walrec_cells k id name key next l s (a - 1) lsn name 0 0 (⟨#[]⟩ : ByteArray) [] 0 (⟨#[]⟩ : ByteArray) (⟨#[]⟩ : ByteArray) (⟨#[]⟩ : ByteArray) (⟨#[]⟩ : ByteArray) 0 0 false 0 0 (⟨#[]⟩ : ByteArray) []) (e, tupC ⟨a - 1, lsn, name, nilV, [], bareD 0 nilB⟩) := by
            refine Ev.flat1 0 d1 (fun m g => ?_)
            have g := g 0
            simp only [Nat.add_zero] at g ⊢
            unfold walrec_cells
            simp only [g, Option.bind_some, if_neg he]
            rfl
          refine Ev.flat2 0 t1 hc (fun m g g2 => ?_)
          have g := g 0
          have g2 := g2 0
          simp only [Nat.add_zero] at g g2 ⊢
          unfold walrec_Unpack
          simp only [p1, p2, Option.bind_some, if_true, if_neg hl0, if_neg h5, g, if_pos hid, if_neg h4, hw1, g2, if_neg he]
          rfl
        · refine Ev.flat2 0 t2 d2 (fun m g g2 => ?_)
          have g := g 0
          have g2 := g2 0
          simp only [Nat.add_zero] at g g2 ⊢
          unfold haulageref18_Unpack
          simp only [p3, Option.bind_some, if_true, if_neg hn2, if_neg hn5, if_neg hl0, if_neg h5, g, if_pos hid, if_neg h4, hw2, g2, if_neg he]
          rfl
    · refine ⟨noC, 2, okNo, Ev.pure fun k => ?_, Ev.pure fun k => ?_⟩
      · unfold walrec_Unpack
        rw [wright_eq, hR, Option.bind_some, if_pos rfl, imaged_eq, Option.bind_some]
        unfold imgB
        rw [decide_eq_false hi, if_neg (by simp)]
        rfl
      · unfold haulageref18_Unpack
        rw [rright_eq, hR, Option.bind_some, if_pos rfl]
        by_cases q : a < 2
        · rw [if_pos q]; rfl
        · rw [if_neg q, if_pos (by omega)]; rfl
  · have hR' : recR a b c s = false := by simpa using hR
    refine ⟨noC, 2, okNo, Ev.pure fun k => ?_, Ev.pure fun k => ?_⟩
    · unfold walrec_Unpack
      rw [wright_eq, hR', Option.bind_some, if_neg (by simp)]
      rfl
    · unfold haulageref18_Unpack
      rw [rright_eq, hR', Option.bind_some, if_neg (by simp)]
      rfl
theorem samechg_self (v : Chg) (h : OkChg v) : Ev (fun k => haulageref15_SameChange k v.k v.lsn v.tb v.v.f0 v.v.f1 v.v.f2 v.cl v.d.f0 v.d.f1 v.d.f2 v.d.f3 v.d.f4 v.d.f5.f0 v.d.f5.f1 v.d.f6 v.d.f7.f0 v.d.f7.f1 v.d.f7.f2 v.d.f8 v.k v.lsn v.tb v.v.f0 v.v.f1 v.v.f2 v.cl v.d.f0 v.d.f1 v.d.f2 v.d.f3 v.d.f4 v.d.f5.f0 v.d.f5.f1 v.d.f6 v.d.f7.f0 v.d.f7.f1 v.d.f7.f2 v.d.f8) true := by
  have h1 := samecells_self v.cl h.1
  have h2 := rsameD_ev v.d v.d h.2
  rw [sameD_refl] at h2
  refine Ev.flat2 0 h1 h2 (fun m g g2 => ?_)
  have g := g 0
  have g2 := g2 0
  simp only [Nat.add_zero] at g g2 ⊢
  unfold haulageref15_SameChange
  simp only [if_true, g, g2, Option.bind_some, beq_self_eq_true, Bool.and_self]

theorem word6 (k : Nat) : walrec_Word k 6 = some (⟨#[99, 111, 109, 109, 105, 116]⟩ : ByteArray) := rfl
theorem lives18_ev : Ev (fun k => haulagelaw18_lives k) true := by
  have h1 := short1 5 (by decide) (by decide)
  rw [show sb (5 : Int).toNat = [5] from sb_small (by decide)] at h1
  have e2 : strOfNums [5] = (⟨#[5]⟩ : ByteArray) := rfl
  rw [e2] at h1
  have he : Ev (fun k => walrec_Encode k 6 5 0 (⟨#[]⟩ : ByteArray)) ((⟨#[6, 5]⟩ : ByteArray), 0) := by
    refine Ev.flat1 0 h1 (fun m g => ?_)
    have g := g 0
    simp only [Nat.add_zero] at g ⊢
    simp only [walrec_Encode, wright_eq, ofRow_eq, Option.bind_some, show recR 6 5 0 (⟨#[]⟩ : ByteArray) = true from by decide, show IntKind.u64.wrap 5 = 5 from by decide, g, show rowB 6 = false from by decide, if_true, Int.reduceEq, if_false, Bool.false_eq_true]
    decide +kernel
  unfold haulagelaw18_lives
  refine Ev.bind he ?_
  refine Ev.congr (f := fun _ => some true) (fun k => ?_) (Ev.now _)
  simp only [if_true, word6, Option.bind_some]
  rfl

/-- Is a table tried? -/
def fewC (c : S_Column) : Bool := decide (c.f1.size ≤ 200) && decide (c.f4.f2.size ≤ 200)
def fewB (a1 : ByteArray) (l : List S_Column) : Bool := decide (l.length ≤ 20) && (decide (a1.size ≤ 200) && l.all fewC)
theorem few_ev (a0 : Int) (a1 : ByteArray) (a2 a3 : Int) (l : List S_Column) (hl : l.length ≤ 9223372036854775807) : Ev (fun k => haulagelaw08_Few k a0 a1 a2 a3 l) (fewB a1 l) := by
  have hs : ∀ (k : Nat) (s : ByteArray), haulagelaw08_short k s = some (decide (s.size ≤ 200)) := fun k s => by
    unfold haulagelaw08_short
    congr 1
    by_cases h : s.size ≤ 200
    · rw [decide_eq_true (show (s.size : Int) ≤ 200 by omega), decide_eq_true h]
    · rw [decide_eq_false (show ¬ (s.size : Int) ≤ 200 by omega), decide_eq_false h]
  have h := down (P := fun i => Ev (fun k => haulagelaw08_Few.l0 k (i : Int) a0 a1 a2 a3 l) ((l.drop i).all fewC)) (n := l.length)
    (by rw [List.drop_length]; exact Ev.step (f := fun _ => some true) (fun k => by simp only [haulagelaw08_Few.l0]; rw [if_neg (by omega)]) (Ev.now _))
    (fun i hi ih => by
      rw [List.drop_eq_getElem_cons hi, List.all_cons]
      refine Ev.step (f := fun k => if decide (l[i].f1.size ≤ 200) = true then (if decide (l[i].f4.f2.size ≤ 200) = true then haulagelaw08_Few.l0 k ((i + 1 : Nat) : Int) a0 a1 a2 a3 l else some false) else some false) (fun k => ?_) ?_
      · simp only [haulagelaw08_Few.l0]
        rw [if_pos (by omega), if_pos (by omega), if_pos (by omega), if_pos (by omega), if_pos (by omega), rrd_col l i hi, i64w_succ _ (by omega), hs, hs, Option.bind_some, Option.bind_some]
      · unfold fewC
        by_cases h1 : l[i].f1.size ≤ 200
        · by_cases h2 : l[i].f4.f2.size ≤ 200
          · simp only [h1, h2, decide_true, if_true, Bool.true_and]
            exact ih
          · simp only [h1, h2, decide_true, decide_false, if_true, Bool.false_eq_true, if_false, Bool.and_false, Bool.false_and]
            exact Ev.now _
        · simp only [h1, decide_false, Bool.false_eq_true, if_false, Bool.false_and]
          exact Ev.now _) 0 (Nat.zero_le _)
  unfold haulagelaw08_Few fewB
  by_cases h1 : l.length ≤ 20
  · refine Ev.congr (fun k => by rw [if_neg (by omega), hs, Option.bind_some]) ?_
    rw [decide_eq_true h1, Bool.true_and]
    by_cases h2 : a1.size ≤ 200
    · rw [decide_eq_true h2, Bool.true_and]
      exact Ev.congr (fun k => if_pos rfl) h
    · rw [decide_eq_false h2, Bool.false_and]
      exact Ev.congr (f := fun _ => some false) (fun k => if_neg (by simp)) (Ev.now _)
  · rw [decide_eq_false h1, Bool.false_and]
    exact Ev.congr (f := fun _ => some false) (fun k => by rw [if_pos (by omega)]) (Ev.now _)
theorem fewB_iff (a1 : ByteArray) (l : List S_Column) : fewB a1 l = true ↔ l.length ≤ 20 ∧ a1.size ≤ 200 ∧ ∀ c ∈ l, c.f1.size ≤ 200 ∧ c.f4.f2.size ≤ 200 := by
  simp [fewB, fewC, List.all_eq_true]

theorem fewrec_eq (k : Nat) (a b c : Int) (s : ByteArray) : haulagelaw18_Few k a b c s = some (decide ((s.size : Int) ≤ 70000)) := rfl
theorem law_ev (a b c : Int) (s : ByteArray) (id : Int) (name : ByteArray) (key next : Int) (l : List S_Column) (lsn : Int) (hl : l.length ≤ 9223372036854775807) (hw : ∀ c ∈ l, (Lit.int .i64 c.f4.f1).wf = true) :
    Ev (fun k => haulagelaw18_WalrecUnpacks k a b c s id name key next l lsn) true := by
  unfold haulagelaw18_WalrecUnpacks
  refine Ev.bind lives18_ev (Ev.congr (fun k => if_pos rfl) ?_)
  refine Ev.bind (Ev.pure fun k => fewrec_eq k a b c s) ?_
  by_cases hs : (s.size : Int) ≤ 70000
  case neg =>
    rw [decide_eq_false hs]
    exact Ev.congr (f := fun _ => some true) (fun k => if_neg (by simp)) (Ev.now _)
  rw [decide_eq_true hs]
  refine Ev.congr (fun k => if_pos rfl) ?_
  refine Ev.bind (few_ev id name key next l hl) ?_
  cases hf : fewB name l
  · exact Ev.congr (f := fun _ => some true) (fun k => if_neg (by simp)) (Ev.now _)
  refine Ev.congr (fun k => if_pos rfl) ?_
  have hb := (fewB_iff name l).1 hf
  obtain ⟨v, e, ho, h1, h2⟩ := unpack_both a b c s id name key next l lsn (by omega) (by omega) (fun c hc => by have := hb.2.2 c hc; exact ⟨by omega, by omega, hw c hc⟩) (by omega)
  refine Ev.bind h1 (Ev.bind h2 (Ev.bind (samechg_self v ho) ?_))
  refine Ev.congr (f := fun _ => some true) (fun k => ?_) (Ev.now _)
  simp

end Go.Proofs.YtgefikclhfjcgaaGreatDoor.EWalrecUnpacks

/- What the functions' Lean texts come to; no condition but those that each theorem states. -/
import Derived.Test.YtgefikclhfjcgaaDoorFWalrecKeeps
set_option linter.unusedVariables false
set_option linter.unusedSimpArgs false
set_option maxRecDepth 100000
namespace Go.Proofs.YtgefikclhfjcgaaDoor.EWalrecKeeps
open Go Go.Proofs.YtgefikclhfjcgaaDoorEv
def wrap64 (n : Int) : Int := (n + 9223372036854775808) % 18446744073709551616 - 9223372036854775808
def Ev {α : Type} (g : Nat → Option α) (r : α) : Prop := ∃ K, ∀ k, K ≤ k → g k = some r
theorem Ev.now {α : Type} (r : α) : Ev (fun _ => some r) r := ⟨0, fun _ _ => rfl⟩
theorem Ev.bind {α β : Type} {g : Nat → Option α} {f : Nat → α → Option β} {a : α} {r : β} (h : Ev g a) (k : Ev (fun n => f n a) r) : Ev (fun n => (g n).bind (f n)) r := by
  obtain ⟨K, h⟩ := h
  obtain ⟨K', k⟩ := k
  refine ⟨max K K', fun n hn => ?_⟩
  have h1 := h n (by omega)
  have h2 := k n (by omega)
  simp only [h1, Option.bind_some]
  exact h2
theorem Ev.step {α : Type} {g f : Nat → Option α} {r : α} (h : ∀ k, g (k + 1) = f k) (k : Ev f r) : Ev g r := by
  obtain ⟨K, k⟩ := k
  refine ⟨K + 1, fun n hn => ?_⟩
  obtain ⟨m, rfl⟩ : ∃ m, n = m + 1 := ⟨n - 1, by omega⟩
  rw [h]
  exact k m (by omega)
theorem Ev.congr {α : Type} {g f : Nat → Option α} {r : α} (h : ∀ k, g k = f k) (k : Ev f r) : Ev g r := by
  obtain ⟨K, k⟩ := k
  exact ⟨K, fun n hn => (h n).trans (k n hn)⟩
theorem Ev.pure {α : Type} {g : Nat → Option α} {r : α} (h : ∀ k, g k = some r) : Ev g r := ⟨0, fun n _ => h n⟩
theorem Ev.ite {α : Type} {c : Prop} [Decidable c] {g f : Nat → Option α} {r : α} (h1 : c → Ev g r) (h2 : ¬ c → Ev f r) : Ev (fun k => if c then g k else f k) r := by
  by_cases h : c
  · exact Ev.congr (fun k => if_pos h) (h1 h)
  · exact Ev.congr (fun k => if_neg h) (h2 h)
theorem Ev.yes {α : Type} {c : Prop} [Decidable c] {g f : Nat → Option α} {r : α} (h : c) (h1 : Ev g r) : Ev (fun k => if c then g k else f k) r := Ev.congr (fun k => if_pos h) h1
theorem Ev.no {α : Type} {c : Prop} [Decidable c] {g f : Nat → Option α} {r : α} (h : ¬ c) (h1 : Ev f r) : Ev (fun k => if c then g k else f k) r := Ev.congr (fun k => if_neg h) h1
theorem Ev.flat0 {α : Type} {g : Nat → Option α} {r : α} (d : Nat) (h : ∀ m, g (m + d) = some r) : Ev g r :=
  ⟨d, fun k hk => by obtain ⟨m, rfl⟩ : ∃ m, k = m + d := ⟨k - d, by omega⟩; exact h m⟩
theorem Ev.flat1 {α β : Type} {g : Nat → Option α} {r : α} {f1 : Nat → Option β} {v1 : β} (d : Nat) (h1 : Ev f1 v1) (h : ∀ m, (∀ j, f1 (m + j) = some v1) → g (m + d) = some r) : Ev g r := by
  obtain ⟨K1, e1⟩ := h1
  refine ⟨K1 + d, fun k hk => ?_⟩
  obtain ⟨m, rfl⟩ : ∃ m, k = m + d := ⟨k - d, by omega⟩
  exact h m (fun j => e1 _ (by omega))
theorem Ev.flat2 {α β γ : Type} {g : Nat → Option α} {r : α} {f1 : Nat → Option β} {v1 : β} {f2 : Nat → Option γ} {v2 : γ} (d : Nat) (h1 : Ev f1 v1) (h2 : Ev f2 v2)
    (h : ∀ m, (∀ j, f1 (m + j) = some v1) → (∀ j, f2 (m + j) = some v2) → g (m + d) = some r) : Ev g r := by
  obtain ⟨K1, e1⟩ := h1
  obtain ⟨K2, e2⟩ := h2
  refine ⟨K1 + K2 + d, fun k hk => ?_⟩
  obtain ⟨m, rfl⟩ : ∃ m, k = m + d := ⟨k - d, by omega⟩
  exact h m (fun j => e1 _ (by omega)) (fun j => e2 _ (by omega))
theorem Ev.flat3 {α β γ δ : Type} {g : Nat → Option α} {r : α} {f1 : Nat → Option β} {v1 : β} {f2 : Nat → Option γ} {v2 : γ} {f3 : Nat → Option δ} {v3 : δ} (d : Nat) (h1 : Ev f1 v1) (h2 : Ev f2 v2) (h3 : Ev f3 v3)
    (h : ∀ m, (∀ j, f1 (m + j) = some v1) → (∀ j, f2 (m + j) = some v2) → (∀ j, f3 (m + j) = some v3) → g (m + d) = some r) : Ev g r := by
  obtain ⟨K1, e1⟩ := h1
  obtain ⟨K2, e2⟩ := h2
  obtain ⟨K3, e3⟩ := h3
  refine ⟨K1 + K2 + K3 + d, fun k hk => ?_⟩
  obtain ⟨m, rfl⟩ : ∃ m, k = m + d := ⟨k - d, by omega⟩
  exact h m (fun j => e1 _ (by omega)) (fun j => e2 _ (by omega)) (fun j => e3 _ (by omega))
theorem Ev.eq {α : Type} {g : Nat → Option α} {r s : α} (h : Ev g r) (e : r = s) : Ev g s := e ▸ h
theorem wrap_id (n : Int) (h0 : -9223372036854775808 ≤ n) (h1 : n ≤ 9223372036854775807) : wrap64 n = n := by
  unfold wrap64
  omega
theorem wrap_succ (n : Nat) (h : n < 9223372036854775807) : wrap64 ((n : Int) + 1) = ((n + 1 : Nat) : Int) := by
  rw [wrap_id _ (by omega) (by omega)]
  omega
theorem down {P : Nat → Prop} {n : Nat} (h0 : P n) (hs : ∀ i, i < n → P (i + 1) → P i) : ∀ i, i ≤ n → P i := by
  intro i hi
  obtain ⟨d, rfl⟩ : ∃ d, n = i + d := ⟨n - i, by omega⟩
  clear hi
  induction d generalizing i with
  | zero => exact h0
  | succ d ih => exact hs i (by omega) (ih (i + 1) (by rw [show i + 1 + d = i + (d + 1) by omega]; exact h0) (by rw [show i + 1 + d = i + (d + 1) by omega]; exact hs))
theorem beq_dec (a b : Int) : (a == b) = decide (a = b) := by rw [Bool.eq_iff_iff, beq_iff_eq, decide_eq_true_iff]
theorem ba_inj {a b : ByteArray} (h : a.toList = b.toList) : a = b := by
  rw [ByteArray.toList_eq, ByteArray.toList_eq] at h
  exact ByteArray.ext (Array.toList_inj.1 h)
theorem ba_iff (a b : ByteArray) : a.toList = b.toList ↔ a = b := ⟨ba_inj, fun h => by rw [h]⟩
theorem ba_beq (a b : ByteArray) : (a.toList == b.toList) = decide (a = b) := by
  by_cases h : a = b
  · subst h; simp
  · have : ¬ a.toList = b.toList := fun e => h (ba_inj e)
    simp [h, this]
theorem ba_nil (a : ByteArray) : a.toList = ([] : List UInt8) ↔ a.size = 0 := by
  rw [ByteArray.toList_eq, ← List.length_eq_zero_iff, Array.length_toList]
  exact Iff.rfl
theorem u64_id (n : Int) (h0 : 0 ≤ n) (h1 : n < 18446744073709551616) : IntKind.u64.wrap n = n := by
  simp only [IntKind.wrap, IntKind.bits, IntKind.signed]
  simp
  omega

theorem i64_eq (n : Int) : IntKind.i64.wrap n = wrap64 n := by unfold wrap64; exact Go.IntKind.wrap_i64 n
theorem u64_eq (n : Int) : IntKind.u64.wrap n = n % 18446744073709551616 := by simp [IntKind.wrap, IntKind.bits, IntKind.signed]

theorem wf_parts {k : IntKind} {x : Int} (h : (Lit.int k x).wf = true) : k.min ≤ x ∧ x ≤ k.max := by
  unfold Lit.wf at h
  rw [Bool.and_eq_true, decide_eq_true_eq, decide_eq_true_eq] at h
  exact h
theorem wf_i64 {x : Int} (h : (Lit.int .i64 x).wf = true) : -9223372036854775808 ≤ x ∧ x ≤ 9223372036854775807 := by
  have := wf_parts h
  rw [show IntKind.min .i64 = -9223372036854775808 by decide, show IntKind.max .i64 = 9223372036854775807 by decide] at this
  exact this
def strOfNums (l : List Int) : ByteArray := ⟨(l.map fun n => UInt8.ofNat n.toNat).toArray⟩
def byt (s : ByteArray) : List Int := s.data.toList.map fun c => (c.toNat : Int)
/-- All are bytes. -/
def Bytes (l : List Int) : Prop := ∀ x ∈ l, 0 ≤ x ∧ x ≤ 255

theorem byt_len (s : ByteArray) : (byt s).length = s.size := by
  unfold byt
  rw [List.length_map, Array.length_toList]
  rfl
theorem byt_bytes (s : ByteArray) : Bytes (byt s) := by
  intro x hx
  obtain ⟨c, _, rfl⟩ := List.mem_map.1 hx
  have := c.toNat_lt
  omega
theorem str_byt (s : ByteArray) : strOfNums (byt s) = s := by
  apply ByteArray.ext
  unfold strOfNums byt
  rw [List.map_map]
  have : ((fun n : Int => UInt8.ofNat n.toNat) ∘ fun c : UInt8 => (c.toNat : Int)) = id := by
    funext c
    simp
  rw [this]
  simp
theorem byt_str {l : List Int} (h : Bytes l) : byt (strOfNums l) = l := by
  unfold strOfNums byt
  rw [List.toList_toArray, List.map_map]
  have : ∀ x ∈ l, ((fun c : UInt8 => (c.toNat : Int)) ∘ fun n : Int => UInt8.ofNat n.toNat) x = x := by
    intro x hx
    have := h x hx
    simp only [Function.comp]
    rw [UInt8.toNat_ofNat', Nat.mod_eq_of_lt (by omega)]
    omega
  rw [List.map_congr_left this]
  simp
theorem byt_append (a b : ByteArray) : byt (a ++ b) = byt a ++ byt b := by
  unfold byt
  rw [show (a ++ b).data.toList = a.data.toList ++ b.data.toList by simp, List.map_append]
theorem byt_inj {a b : ByteArray} (h : byt a = byt b) : a = b := by rw [← str_byt a, h, str_byt]
theorem byt_extract (s : ByteArray) (a b : Nat) : byt (s.extract a b) = ((byt s).drop a).take (b - a) := by
  unfold byt
  rw [show (s.extract a b).data.toList = (s.data.toList.drop a).take (b - a) by simp [ByteArray.data_extract, Array.toList_extract, List.extract_eq_take_drop], List.map_take, List.map_drop]
theorem byt_cut (s : ByteArray) (a : Nat) : byt (s.extract a s.size) = (byt s).drop a := by
  rw [byt_extract, ← byt_len, List.take_of_length_le (by simp)]
theorem byt_to (s : ByteArray) (b : Nat) : byt (s.extract 0 b) = (byt s).take b := by
  rw [byt_extract]; simp
theorem bt_byt (s : ByteArray) (i : Nat) (h : i < s.size) : bt s (i : Int) = (byt s)[i]'(by rw [byt_len]; exact h) := by
  unfold bt byt
  simp [h]
  rfl
theorem Bytes.append {a b : List Int} (h : Bytes a) (k : Bytes b) : Bytes (a ++ b) := by
  intro x hx
  rcases List.mem_append.1 hx with h1 | h1
  · exact h x h1
  · exact k x h1
theorem Bytes.take {a : List Int} (h : Bytes a) (n : Nat) : Bytes (a.take n) := fun x hx => h x (List.mem_of_mem_take hx)
theorem Bytes.drop {a : List Int} (h : Bytes a) (n : Nat) : Bytes (a.drop n) := fun x hx => h x (List.mem_of_mem_drop hx)
theorem strOfNums_append (a b : List Int) : strOfNums (a ++ b) = strOfNums a ++ strOfNums b := by
  apply ByteArray.ext
  simp [strOfNums]
theorem strOfNums_size (a : List Int) : (strOfNums a).size = a.length := by simp [strOfNums, ByteArray.size]
/-- The place of the first that is so, from i on. -/
def scan {α : Type} (p : α → Bool) : List α → Nat → Int × Bool
  | [], _ => (0, false)
  | x :: r, i => if p x = true then ((i : Int), true) else scan p r (i + 1)
/-- .. as the reference tells it. -/
def scanR {α : Type} (p : α → Bool) : List α → Nat → Int
  | [], _ => -1
  | x :: r, i => if p x = true then (i : Int) else scanR p r (i + 1)
theorem scan_or {α : Type} (p : α → Bool) : ∀ (l : List α) (i : Nat), (scan p l i = (scanR p l i, true) ∧ (i : Int) ≤ scanR p l i ∧ scanR p l i < (i : Int) + l.length) ∨ (scan p l i = (0, false) ∧ scanR p l i = -1)
  | [], i => .inr ⟨rfl, rfl⟩
  | x :: r, i => by
    by_cases h : p x = true
    · refine .inl ?_
      simp only [scan, scanR, if_pos h, List.length_cons]
      exact ⟨trivial, by omega, by omega⟩
    · simp only [scan, scanR, if_neg h, List.length_cons]
      rcases scan_or p r (i + 1) with ⟨h1, h2, h3⟩ | h1
      · exact .inl ⟨h1, by omega, by omega⟩
      · exact .inr h1
theorem scanR_iff {α : Type} (p : α → Bool) : ∀ (l : List α) (i : Nat), scanR p l i = -1 ↔ ∀ x ∈ l, p x = false
  | [], i => by simp [scanR]
  | x :: r, i => by
    by_cases h : p x = true
    · simp only [scanR, if_pos h]
      constructor
      · intro e; omega
      · intro e; have := e x (by simp); rw [h] at this; cases this
    · simp only [scanR, if_neg h, List.mem_cons, forall_eq_or_imp]
      rw [scanR_iff p r (i + 1)]
      simp [h]
theorem bytesOf_byt (s : ByteArray) : bytesOf s = byt s := by unfold bytesOf byt; rw [ByteArray.toList_eq]
theorem i64w (n : Int) (h0 : -9223372036854775808 ≤ n) (h1 : n ≤ 9223372036854775807) : IntKind.i64.wrap n = n := by rw [i64_eq]; exact wrap_id n h0 h1
theorem i64w_succ (n : Nat) (h : n < 9223372036854775807) : IntKind.i64.wrap ((n : Int) + 1) = ((n + 1 : Nat) : Int) := by rw [i64_eq]; exact wrap_succ n h
abbrev nilB : ByteArray := ⟨#[]⟩
theorem nilB_toList : (⟨#[]⟩ : ByteArray).toList = [] := by rw [ByteArray.toList_eq]
theorem ba_nil0 (a : ByteArray) : a.toList = (⟨#[]⟩ : ByteArray).toList ↔ a.size = 0 := by rw [nilB_toList]; exact ba_nil a
/-- Is a record right? -/
def recR (a b c : Int) (s : ByteArray) : Bool := decide (1 ≤ a ∧ a ≤ 8 ∧ 0 ≤ b ∧ 0 ≤ c ∧ (a ≠ 8 ∨ b = 0) ∧ (c = 0 ∨ (2 ≤ a ∧ a ≤ 4)) ∧ (s.size = 0 ∨ (2 ≤ a ∧ a ≤ 5 ∧ s.size ≤ 65535)))
def rowB (n : Int) : Bool := decide (2 ≤ n ∧ n ≤ 4)
def imgB (n : Int) : Bool := decide (2 ≤ n ∧ n ≤ 5)
theorem dec_iff {p q : Prop} [Decidable p] [Decidable q] (h : p ↔ q) : decide p = decide q := by rw [decide_eq_decide]; exact h
theorem ofRow_eq (k : Nat) (n : Int) : walrec_ofRow k n = some (rowB n) := by
  unfold walrec_ofRow rowB
  by_cases h2 : n = 2
  · subst h2; simp
  · by_cases h3 : n = 3
    · subst h3; simp
    · by_cases h4 : n = 4
      · subst h4; simp
      · simp only [if_neg h2, if_neg h3, if_neg h4]
        rw [decide_eq_false (by omega)]
theorem imaged_eq (k : Nat) (n : Int) : walrec_imaged k n = some (imgB n) := by
  unfold walrec_imaged imgB
  rw [ofRow_eq, Option.bind_some]
  unfold rowB
  by_cases h : 2 ≤ n ∧ n ≤ 4
  · rw [decide_eq_true h, if_pos rfl, decide_eq_true (by omega)]
  · rw [decide_eq_false h, if_neg (by simp)]
    congr 1
    exact dec_iff (by omega)
theorem wright_eq (k : Nat) (a b c : Int) (s : ByteArray) : walrec_Right k a b c s = some (recR a b c s) := by
  have img : (if s.toList = (⟨#[]⟩ : ByteArray).toList then some true else (walrec_imaged k a).bind fun t => if t = true then some (decide ((s.size : Int) ≤ 65535)) else some false) = some (decide (s.size = 0 ∨ (2 ≤ a ∧ a ≤ 5 ∧ s.size ≤ 65535))) := by
    rw [imaged_eq, Option.bind_some]
    unfold imgB
    by_cases h0 : s.size = 0
    · rw [if_pos ((ba_nil0 s).2 h0), decide_eq_true (.inl h0)]
    · rw [if_neg (fun e => h0 ((ba_nil0 s).1 e))]
      by_cases h : 2 ≤ a ∧ a ≤ 5
      · rw [decide_eq_true h, if_pos rfl]
        congr 1
        exact dec_iff (by omega)
      · rw [decide_eq_false h, if_neg (by simp), decide_eq_false (by omega)]
  unfold walrec_Right
  simp only [img, ofRow_eq, Option.bind_some]
  unfold recR
  by_cases h1 : a < 1
  · rw [if_pos h1, decide_eq_false (by omega)]
  rw [if_neg h1]
  by_cases h2 : a > 8
  · rw [if_pos h2, decide_eq_false (by omega)]
  rw [if_neg h2]
  by_cases h3 : b < 0
  · rw [if_pos h3, decide_eq_false (by omega)]
  rw [if_neg h3]
  by_cases h4 : c < 0
  · rw [if_pos h4, decide_eq_false (by omega)]
  rw [if_neg h4]
  by_cases h5 : a = 8
  · rw [if_pos h5]
    by_cases h6 : b = 0
    · rw [if_pos h6]
      by_cases h7 : c = 0
      · rw [if_pos h7]
        congr 1
        exact dec_iff (by omega)
      · rw [if_neg h7]
        unfold rowB
        rw [decide_eq_false (by omega), if_neg (by simp), decide_eq_false (by omega)]
    · rw [if_neg h6, decide_eq_false (by omega)]
  · rw [if_neg h5]
    by_cases h7 : c = 0
    · rw [if_pos h7]
      congr 1
      exact dec_iff (by omega)
    · rw [if_neg h7]
      unfold rowB
      by_cases h8 : 2 ≤ a ∧ a ≤ 4
      · rw [decide_eq_true h8, if_pos rfl]
        congr 1
        exact dec_iff (by omega)
      · rw [decide_eq_false h8, if_neg (by simp), decide_eq_false (by omega)]
/-- May a byte be in a name, at a place? -/
def partB (c i : Int) : Bool := if 97 ≤ c ∧ c ≤ 122 then true else if (48 ≤ c ∧ c ≤ 57) ∨ c = 95 then decide (0 < i) else false
theorem part_eq (k : Nat) (c i : Int) : name_part k c i = some (partB c i) := by
  unfold partB
  simp only [name_part, ge_iff_le, gt_iff_lt]
  by_cases h1 : 97 ≤ c <;> by_cases h2 : c ≤ 122 <;> by_cases h3 : 48 ≤ c <;> by_cases h4 : c ≤ 57 <;> by_cases h5 : c = 95 <;> simp [h1, h2, h3, h4, h5] <;> omega
theorem part_ev (c i : Int) : Ev (fun k => name_part k c i) (partB c i) := Ev.pure fun k => part_eq k c i
/-- How many bytes go on as names do: from i on, with so many left. -/
def rdn (s : ByteArray) : Nat → Nat → Int
  | 0, i => (i : Int)
  | n + 1, i => if partB (bt s (i : Int)) (i : Int) = true then rdn s n (i + 1) else (i : Int)
theorem nread_ev (s : ByteArray) (hs : s.size ≤ 9223372036854775807) : Ev (fun k => name_Read k s) (rdn s s.size 0) := by
  have h := down (P := fun i => Ev (fun k => name_Read.l0 k s (s.size : Int) (i : Int)) (rdn s (s.size - i) i)) (n := s.size)
    (by rw [Nat.sub_self]; exact Ev.step (f := fun _ => some (s.size : Int)) (fun k => by simp only [name_Read.l0]; rw [if_neg (by omega)]) (Ev.now _))
    (fun i hi ih => by
      rw [show s.size - i = (s.size - (i + 1)) + 1 by omega]
      refine Ev.step (f := fun k => (name_part k (bt s (i : Int)) (i : Int)).bind fun t => if t = true then name_Read.l0 k s (s.size : Int) ((i + 1 : Nat) : Int) else some (i : Int)) (fun k => ?_) ?_
      · simp only [name_Read.l0]
        rw [if_pos (by omega), if_pos (by omega), if_pos (by omega), i64w_succ _ (by omega)]
      · refine Ev.bind (part_ev _ _) ?_
        simp only [rdn]
        split
        · exact ih
        · exact Ev.now _) 0 (Nat.zero_le _)
  exact h
/-- Is a text a name? -/
def nameB (s : ByteArray) : Bool := decide (0 < s.size) && (decide (s.size ≤ 16) && (rdn s s.size 0 == (s.size : Int)))
theorem name_ev (s : ByteArray) (hs : s.size ≤ 9223372036854775807) : Ev (fun k => name_Right k s) (nameB s) := by
  unfold name_Right nameB
  by_cases h0 : s.size = 0
  · refine Ev.congr (f := fun _ => some false) (fun k => by rw [if_pos ((ba_nil0 s).2 h0)]) ?_
    rw [decide_eq_false (by omega), Bool.false_and]
    exact Ev.now _
  · rw [decide_eq_true (by omega), Bool.true_and]
    by_cases h1 : s.size ≤ 16
    · rw [decide_eq_true h1, Bool.true_and]
      refine Ev.congr (fun k => by rw [if_neg (fun e => h0 ((ba_nil0 s).1 e)), if_pos (by omega)]) ?_
      exact Ev.bind (nread_ev s hs) (Ev.now _)
    · rw [decide_eq_false h1, Bool.false_and]
      exact Ev.congr (f := fun _ => some false) (fun k => by rw [if_neg (fun e => h0 ((ba_nil0 s).1 e)), if_neg (by omega)]) (Ev.now _)

/-- A number's lowest bits, signed. -/
def lowS (n : Int) (b : Nat) : Int := (n + 2 ^ (b - 1)) % 2 ^ b - 2 ^ (b - 1)

theorem p2_pos (b : Nat) : (0 : Int) < 2 ^ b := Int.pow_pos (by decide)
theorem p2_half (b : Nat) (h : 1 ≤ b) : (2 : Int) ^ b = 2 * 2 ^ (b - 1) := by
  obtain ⟨m, rfl⟩ : ∃ m, b = m + 1 := ⟨b - 1, by omega⟩
  simp only [Nat.add_sub_cancel, Int.pow_succ]
  omega
theorem lowS_range (n : Int) (b : Nat) (h : 1 ≤ b) : -2 ^ (b - 1) ≤ lowS n b ∧ lowS n b < 2 ^ (b - 1) := by
  have hp := p2_pos b
  have h1 := Int.emod_nonneg (n + 2 ^ (b - 1)) (Int.ne_of_gt hp)
  have h2 := Int.emod_lt_of_pos (n + 2 ^ (b - 1)) hp
  have h3 := p2_half b h
  unfold lowS
  omega
theorem lowS_of (n r q : Int) (b : Nat) (h : 1 ≤ b) (e : n = r + 2 ^ b * q) (h0 : -2 ^ (b - 1) ≤ r) (h1 : r < 2 ^ (b - 1)) : lowS n b = r := by
  have h3 := p2_half b h
  unfold lowS
  rw [e, show r + 2 ^ b * q + 2 ^ (b - 1) = (r + 2 ^ (b - 1)) + 2 ^ b * q by omega, Int.add_mul_emod_self_left, Int.emod_eq_of_lt (by omega) (by omega)]
  omega
theorem lowS_id (n : Int) (b : Nat) (h : 1 ≤ b) (h0 : -2 ^ (b - 1) ≤ n) (h1 : n < 2 ^ (b - 1)) : lowS n b = n := lowS_of n n 0 b h (by omega) h0 h1
theorem lowS_iff (n : Int) (b : Nat) (h : 1 ≤ b) : lowS n b = n ↔ -2 ^ (b - 1) ≤ n ∧ n < 2 ^ (b - 1) :=
  ⟨fun e => by have := lowS_range n b h; rw [e] at this; exact this, fun h2 => lowS_id n b h h2.1 h2.2⟩

theorem word_Low_eq (k : Nat) (n : Int) (b : Nat) (h1 : 1 ≤ b) (h2 : b ≤ 64) : word_Low k n (b : Int) = some (lowS n b) := by
  unfold word_Low
  have hw : wrap64 (64 - (b : Int)) = ((64 - b : Nat) : Int) := by unfold wrap64; omega
  rw [if_neg (by omega), if_neg (by omega), i64_eq (64 - (b : Int)), hw, if_neg (by omega), if_neg (by omega)]
  congr 1
  have hm : min (((64 - b : Nat) : Int)).toNat (IntKind.bits .i64) = 64 - b := by simp [IntKind.bits]
  unfold shr shl
  rw [hm, i64_eq]
  unfold wrap64 lowS
  have hu := p2_pos (64 - b)
  have e63 : (9223372036854775808 : Int) = 2 ^ (b - 1) * 2 ^ (64 - b) := by
    rw [← Int.pow_add, show b - 1 + (64 - b) = 63 by omega]; decide
  have e64 : (18446744073709551616 : Int) = 2 ^ b * 2 ^ (64 - b) := by
    rw [← Int.pow_add, show b + (64 - b) = 64 by omega]; decide
  rw [e63, e64, ← Int.add_mul, Int.mul_comm _ (2 ^ (64 - b)), Int.mul_comm (2 ^ b) (2 ^ (64 - b)), Int.mul_emod_mul_of_pos _ _ hu, Int.mul_comm (2 ^ (b - 1)) (2 ^ (64 - b)), ← Int.mul_sub]
  exact Int.mul_ediv_cancel_left _ (Int.ne_of_gt hu)

theorem word_Fits_eq (k : Nat) (n : Int) (b : Nat) (h1 : 1 ≤ b) (h2 : b ≤ 64) : word_Fits k n (b : Int) = some (lowS n b == n) := by
  unfold word_Fits
  rw [if_neg (by omega), if_neg (by omega), word_Low_eq k n b h1 h2]
  simp [beq_dec]

/-- Is a number a sign? -/
def isB (n : Int) : Bool := decide (0 ≤ n ∧ n ≤ 1114111 ∧ (n < 55296 ∨ 57343 < n))
theorem isB_iff (n : Int) : isB n = true ↔ 0 ≤ n ∧ n ≤ 1114111 ∧ (n < 55296 ∨ 57343 < n) := by simp [isB]
/-- A sign of so many bytes, if it is none of fewer. -/
def finU (n lo size : Int) : Int × Int × Bool := if isB n = true ∧ lo ≤ n then (n, size, true) else (0, 0, false)
/-- The sign that bytes begin with, and how many bytes it has. -/
def sgn : List Int → Int × Int × Bool
  | [] => (0, 0, false)
  | c :: r =>
    if c < 128 then (c, 1, true)
    else if c / 32 = 6 then (match r with | b1 :: _ => if b1 / 64 = 2 then finU ((c - 192) * 64 + (b1 - 128)) 128 2 else (0, 0, false) | [] => (0, 0, false))
    else if c / 16 = 14 then (match r with | b1 :: b2 :: _ => if b1 / 64 = 2 then (if b2 / 64 = 2 then finU (((c - 224) * 64 + (b1 - 128)) * 64 + (b2 - 128)) 2048 3 else (0, 0, false)) else (0, 0, false) | _ => (0, 0, false))
    else if c / 8 = 30 then (match r with | b1 :: b2 :: b3 :: _ => if b1 / 64 = 2 then (if b2 / 64 = 2 then (if b3 / 64 = 2 then finU ((((c - 240) * 64 + (b1 - 128)) * 64 + (b2 - 128)) * 64 + (b3 - 128)) 65536 4 else (0, 0, false)) else (0, 0, false)) else (0, 0, false) | _ => (0, 0, false))
    else (0, 0, false)
theorem byt_at {s : ByteArray} {l : List Int} (h : byt s = l) (i : Nat) (x : Int) (hx : l[i]? = some x) : bt s (i : Int) = x := by
  subst h
  obtain ⟨h1, h2⟩ := List.getElem?_eq_some_iff.1 hx
  rw [bt_byt s i (by rw [byt_len] at h1; exact h1)]
  exact h2
theorem uis_eq (k : Nat) (n : Int) : utf_is k n = some (isB n) := by
  unfold utf_is isB
  simp only [ge_iff_le, gt_iff_lt]
  by_cases h1 : 0 ≤ n <;> by_cases h2 : n ≤ 1114111 <;> by_cases h3 : n < 55296 <;> simp [h1, h2, h3]
/-- How many bytes a sign has. -/
def widU (n : Int) : Int := if 65536 ≤ n then 4 else if 2048 ≤ n then 3 else if 128 ≤ n then 2 else 1
theorem uwidth_ev (n : Int) : Ev (fun k => utf_width k n) (widU n) := by
  refine Ev.flat0 6 (fun m => ?_)
  unfold widU
  simp only [utf_width, utf_width.l0]
  have e3 : IntKind.i64.wrap (4 - 1) = 3 := by decide +kernel
  have e2 : IntKind.i64.wrap (3 - 1) = 2 := by decide +kernel
  have e1 : IntKind.i64.wrap (2 - 1) = 1 := by decide +kernel
  rw [e3, e2, e1]
  have r4 : r_i64 G1 4 = 65536 := by decide
  have r3 : r_i64 G1 3 = 2048 := by decide
  have r2 : r_i64 G1 2 = 128 := by decide
  have gl : (G1.length : Int) = 5 := by decide
  rw [r4, r3, r2, gl]
  by_cases h1 : 65536 ≤ n
  · simp [h1]
  · by_cases h2 : 2048 ≤ n
    · simp [h1, h2]
    · by_cases h3 : 128 ≤ n
      · simp [h1, h2, h3]
      · simp [h1, h2, h3]
theorem u8m (c : Int) (h0 : 0 ≤ c) (h1 : c ≤ 255) : Go.bits .and .u8 c 31 = c % 32 ∧ Go.bits .and .u8 c 15 = c % 16 ∧ Go.bits .and .u8 c 7 = c % 8 ∧ Go.bits .and .u8 c 63 = c % 64 := by
  have m := fun i hi => Go.bits_mask .u8 8 (by decide) Go.wraps_u8 i hi c h0 (by omega)
  exact ⟨m 5 (by decide), m 4 (by decide), m 3 (by decide), m 6 (by decide)⟩
theorem ulead_eq (k : Nat) (c : Int) (h0 : 0 ≤ c) (h1 : c ≤ 255) : utf_lead k c = some (if c < 128 then (1, c) else if c / 32 = 6 then (2, c - 192) else if c / 16 = 14 then (3, c - 224) else if c / 8 = 30 then (4, c - 240) else (0, 0)) := by
  unfold utf_lead
  obtain ⟨m1, m2, m3, _⟩ := u8m c h0 h1
  have s5 : Go.Proofs.YtgefikclhfjcgaaDoorEv.shr .u8 c 5 = c / 32 := by unfold Go.Proofs.YtgefikclhfjcgaaDoorEv.shr; rfl
  have s4 : Go.Proofs.YtgefikclhfjcgaaDoorEv.shr .u8 c 4 = c / 16 := by unfold Go.Proofs.YtgefikclhfjcgaaDoorEv.shr; rfl
  have s3 : Go.Proofs.YtgefikclhfjcgaaDoorEv.shr .u8 c 3 = c / 8 := by unfold Go.Proofs.YtgefikclhfjcgaaDoorEv.shr; rfl
  rw [m1, m2, m3, s5, s4, s3, i64w c (by omega) (by omega), i64w (c % 32) (by omega) (by omega), i64w (c % 16) (by omega) (by omega), i64w (c % 8) (by omega) (by omega)]
  split
  · rfl
  · split
    · rw [show c % 32 = c - 192 by omega]
    · split
      · rw [show c % 16 = c - 224 by omega]
      · split
        · rw [show c % 8 = c - 240 by omega]
        · rfl
theorem wraps_i64p (n : Int) (h0 : 0 ≤ n) (h1 : n < 2 ^ 63) : IntKind.i64.wrap n = n := by rw [Go.IntKind.wrap_i64]; omega
theorem uacc (n b : Int) (hn : 0 ≤ n) (hn1 : n < 10000000) (hb : b / 64 = 2) : Go.bits .or .i64 (Go.Proofs.YtgefikclhfjcgaaDoorEv.shl .i64 n 6) (IntKind.i64.wrap (Go.bits .and .u8 b 63)) = n * 64 + (b - 128) := by
  have e : Go.Proofs.YtgefikclhfjcgaaDoorEv.shl .i64 n 6 = n * 64 := by
    unfold Go.Proofs.YtgefikclhfjcgaaDoorEv.shl
    rw [show (2 : Int) ^ min (6 : Int).toNat (IntKind.bits .i64) = 64 by decide, i64w _ (by omega) (by omega)]
  rw [e, (u8m b (by omega) (by omega)).2.2.2, i64w (b % 64) (by omega) (by omega), show b % 64 = b - 128 by omega]
  exact Go.bits_join .i64 63 (by decide) wraps_i64p 6 (n * 64) (b - 128) (by omega) (by omega) (by omega) (by omega) (by omega) (by omega)
theorem u8s6 (b : Int) : Go.Proofs.YtgefikclhfjcgaaDoorEv.shr .u8 b 6 = b / 64 := by unfold Go.Proofs.YtgefikclhfjcgaaDoorEv.shr; rfl
theorem ul0_end (s : ByteArray) (n size i : Int) (h : ¬ i < size) : Ev (fun k => utf_Read.l0 k s n size i) (if isB n = true then (if widU n = size then (n, size, true) else (0, 0, false)) else (0, 0, false)) := by
  refine Ev.step (f := fun k => if isB n = true then ((utf_width k n).bind fun t => if t = size then some (n, size, true) else some (0, 0, false)) else some (0, 0, false)) (fun k => ?_) ?_
  · simp only [utf_Read.l0]
    rw [if_neg h, uis_eq, Option.bind_some]
  · by_cases h1 : isB n = true
    · rw [if_pos h1]
      refine Ev.congr (fun k => by rw [if_pos h1]) (Ev.bind (uwidth_ev n) ?_)
      split
      · exact Ev.now _
      · exact Ev.now _
    · rw [if_neg h1]
      exact Ev.congr (f := fun _ => some (0, 0, false)) (fun k => by rw [if_neg h1]) (Ev.now _)
theorem ul0_step (s : ByteArray) (n size : Int) (i : Nat) (b : Int) (r : Int × Int × Bool) (h : (i : Int) < size) (hi : i < s.size) (hs : s.size ≤ 9223372036854775807) (hb : bt s (i : Int) = b) (hn : 0 ≤ n) (hn1 : n < 10000000)
    (hk : b / 64 = 2 → Ev (fun k => utf_Read.l0 k s (n * 64 + (b - 128)) size ((i + 1 : Nat) : Int)) r) (hx : ¬ b / 64 = 2 → r = (0, 0, false)) : Ev (fun k => utf_Read.l0 k s n size (i : Int)) r := by
  by_cases h2 : b / 64 = 2
  · refine Ev.step (fun k => ?_) (hk h2)
    simp only [utf_Read.l0]
    rw [if_pos h, if_pos (by omega), if_pos (by omega), hb, u8s6, if_pos h2, if_pos (by omega), if_pos (by omega), uacc n b hn hn1 h2, i64w_succ _ (by omega)]
  · rw [hx h2]
    refine Ev.step (f := fun _ => some (0, 0, false)) (fun k => ?_) (Ev.now _)
    simp only [utf_Read.l0]
    rw [if_pos h, if_pos (by omega), if_pos (by omega), hb, u8s6, if_neg h2]
theorem finU_wid (n lo hi size : Int) (h : n < hi) (hw : ∀ n, 0 ≤ n → n < hi → (widU n = size ↔ lo ≤ n)) : (if isB n = true then (if widU n = size then (n, size, true) else ((0 : Int), (0 : Int), false)) else (0, 0, false)) = finU n lo size := by
  unfold finU
  by_cases h1 : isB n = true
  · rw [if_pos h1]
    have h0 := ((isB_iff n).1 h1).1
    by_cases h2 : lo ≤ n
    · rw [if_pos ((hw n h0 h).2 h2), if_pos ⟨h1, h2⟩]
    · rw [if_neg (fun e => h2 ((hw n h0 h).1 e)), if_neg (fun e => h2 e.2)]
  · rw [if_neg h1, if_neg (fun e => h1 e.1)]
theorem uread_ev (s : ByteArray) (hs : s.size ≤ 9223372036854775807) : Ev (fun k => utf_Read k s) (sgn (byt s)) := by
  have hlen := byt_len s
  have hby := byt_bytes s
  unfold utf_Read
  generalize hl : byt s = l at hlen hby
  cases l with
  | nil =>
    exact Ev.congr (f := fun _ => some (0, 0, false)) (fun k => by rw [if_pos ((ba_nil0 s).2 (by rw [← hlen]; rfl))]) (Ev.now _)
  | cons c r =>
    have hz : s.size = r.length + 1 := by rw [← hlen]; rfl
    have hc := hby c (by simp)
    have e0 : bt s 0 = c := byt_at hl 0 c rfl
    refine Ev.congr (fun k => by rw [if_neg (fun e => by have := (ba_nil0 s).1 e; omega), if_pos (by omega), e0, ulead_eq k c hc.1 hc.2, Option.bind_some]) ?_
    have hbad : ∀ n size : Int, size ≠ 0 → (size : Int) > (s.size : Int) → Ev (fun k => if (size, n).1 = 0 then some ((0 : Int), (0 : Int), false) else if (size, n).1 > (s.size : Int) then some (0, 0, false) else utf_Read.l0 k s (size, n).2 (size, n).1 1) (0, 0, false) := fun n size hz h =>
      Ev.no hz (Ev.yes h (Ev.now _))
    have hgo : ∀ (n size : Int) (r), size ≠ 0 → ¬ (size : Int) > (s.size : Int) → Ev (fun k => utf_Read.l0 k s n size ((1 : Nat) : Int)) r → Ev (fun k => if (size, n).1 = 0 then some ((0 : Int), (0 : Int), false) else if (size, n).1 > (s.size : Int) then some (0, 0, false) else utf_Read.l0 k s (size, n).2 (size, n).1 1) r := fun n size r hz h hk =>
      Ev.no hz (Ev.no h hk)
    simp only [sgn]
    by_cases h1 : c < 128
    · simp only [if_pos h1]
      refine (hgo _ _ _ (by decide) (by omega) ?_)
      refine Ev.eq (ul0_end s c 1 ((1 : Nat) : Int) (by omega)) ?_
      rw [if_pos ((isB_iff c).2 (by omega)), if_pos (by unfold widU; rw [if_neg (by omega), if_neg (by omega), if_neg (by omega)])]
    · simp only [if_neg h1]
      by_cases h2 : c / 32 = 6
      · simp only [if_pos h2]
        cases r with
        | nil => exact hbad _ _ (by decide) (by simp at hz; omega)
        | cons b1 r =>
          simp only [List.length_cons] at hz
          dsimp only
          have q1 := hby b1 (by simp)
          refine hgo _ _ _ (by decide) (by omega) (ul0_step s _ _ 1 b1 _ (by omega) (by omega) hs (byt_at hl 1 b1 rfl) (by omega) (by omega) (fun e1 => ?_) (fun e1 => if_neg e1))
          rw [if_pos e1]
          exact Ev.eq (ul0_end s _ 2 ((2 : Nat) : Int) (by omega)) (finU_wid _ 128 2048 2 (by omega) (fun n _ _ => by unfold widU; split <;> (try split) <;> (try split) <;> omega))
      · simp only [if_neg h2]
        by_cases h3 : c / 16 = 14
        · simp only [if_pos h3]
          cases r with
          | nil => exact hbad _ _ (by decide) (by simp at hz; omega)
          | cons b1 r =>
            cases r with
            | nil => exact hbad _ _ (by decide) (by simp at hz; omega)
            | cons b2 r =>
              simp only [List.length_cons] at hz
              dsimp only
              have q1 := hby b1 (by simp)
              have q2 := hby b2 (by simp)
              refine hgo _ _ _ (by decide) (by omega) (ul0_step s _ _ 1 b1 _ (by omega) (by omega) hs (byt_at hl 1 b1 rfl) (by omega) (by omega) (fun e1 => ?_) (fun e1 => if_neg e1))
              rw [if_pos e1]
              refine ul0_step s _ _ 2 b2 _ (by omega) (by omega) hs (byt_at hl 2 b2 rfl) (by omega) (by omega) (fun e2 => ?_) (fun e2 => if_neg e2)
              rw [if_pos e2]
              exact Ev.eq (ul0_end s _ 3 ((3 : Nat) : Int) (by omega)) (finU_wid _ 2048 65536 3 (by omega) (fun n _ _ => by unfold widU; split <;> (try split) <;> (try split) <;> omega))
        · simp only [if_neg h3]
          by_cases h4 : c / 8 = 30
          · simp only [if_pos h4]
            cases r with
            | nil => exact hbad _ _ (by decide) (by simp at hz; omega)
            | cons b1 r =>
              cases r with
              | nil => exact hbad _ _ (by decide) (by simp at hz; omega)
              | cons b2 r =>
                cases r with
                | nil => exact hbad _ _ (by decide) (by simp at hz; omega)
                | cons b3 r =>
                  simp only [List.length_cons] at hz
                  dsimp only
                  have q1 := hby b1 (by simp)
                  have q2 := hby b2 (by simp)
                  have q3 := hby b3 (by simp)
                  refine hgo _ _ _ (by decide) (by omega) (ul0_step s _ _ 1 b1 _ (by omega) (by omega) hs (byt_at hl 1 b1 rfl) (by omega) (by omega) (fun e1 => ?_) (fun e1 => if_neg e1))
                  rw [if_pos e1]
                  refine ul0_step s _ _ 2 b2 _ (by omega) (by omega) hs (byt_at hl 2 b2 rfl) (by omega) (by omega) (fun e2 => ?_) (fun e2 => if_neg e2)
                  rw [if_pos e2]
                  refine ul0_step s _ _ 3 b3 _ (by omega) (by omega) hs (byt_at hl 3 b3 rfl) (by omega) (by omega) (fun e3 => ?_) (fun e3 => if_neg e3)
                  rw [if_pos e3]
                  exact Ev.eq (ul0_end s _ 4 ((4 : Nat) : Int) (by omega)) (finU_wid _ 65536 100000000 4 (by omega) (fun n _ _ => by unfold widU; split <;> (try split) <;> (try split) <;> omega))
          · simp only [if_neg h4]
            exact Ev.yes trivial (Ev.now _)
theorem sgn_ok (l : List Int) : (sgn l).2.2 = true → 1 ≤ (sgn l).2.1 ∧ (sgn l).2.1 ≤ (l.length : Int) := by
  have hf : ∀ n lo size len : Int, 1 ≤ size → size ≤ len → (finU n lo size).2.2 = true → 1 ≤ (finU n lo size).2.1 ∧ (finU n lo size).2.1 ≤ len := fun n lo size len h1 h2 h => by
    unfold finU at h ⊢
    by_cases e : isB n = true ∧ lo ≤ n
    · rw [if_pos e]
      exact ⟨h1, h2⟩
    · rw [if_neg e] at h
      cases h
  have hb : ∀ len : Int, ((0 : Int), (0 : Int), false).2.2 = true → 1 ≤ ((0 : Int), (0 : Int), false).2.1 ∧ ((0 : Int), (0 : Int), false).2.1 ≤ len := fun _ h => by cases h
  cases l with
  | nil => exact hb _
  | cons c r =>
    simp only [sgn]
    by_cases h1 : c < 128
    · simp only [if_pos h1, List.length_cons]
      intro _
      omega
    · simp only [if_neg h1]
      by_cases h2 : c / 32 = 6
      · simp only [if_pos h2]
        cases r with
        | nil => exact hb _
        | cons b1 r =>
          dsimp only
          by_cases e1 : b1 / 64 = 2
          · rw [if_pos e1]
            exact hf _ _ _ _ (by omega) (by simp only [List.length_cons]; omega)
          · rw [if_neg e1]
            exact hb _
      · simp only [if_neg h2]
        by_cases h3 : c / 16 = 14
        · simp only [if_pos h3]
          cases r with
          | nil => exact hb _
          | cons b1 r =>
            cases r with
            | nil => exact hb _
            | cons b2 r =>
              dsimp only
              by_cases e1 : b1 / 64 = 2
              · rw [if_pos e1]
                by_cases e2 : b2 / 64 = 2
                · rw [if_pos e2]
                  exact hf _ _ _ _ (by omega) (by simp only [List.length_cons]; omega)
                · rw [if_neg e2]
                  exact hb _
              · rw [if_neg e1]
                exact hb _
        · simp only [if_neg h3]
          by_cases h4 : c / 8 = 30
          · simp only [if_pos h4]
            cases r with
            | nil => exact hb _
            | cons b1 r =>
              cases r with
              | nil => exact hb _
              | cons b2 r =>
                cases r with
                | nil => exact hb _
                | cons b3 r =>
                  dsimp only
                  by_cases e1 : b1 / 64 = 2
                  · rw [if_pos e1]
                    by_cases e2 : b2 / 64 = 2
                    · rw [if_pos e2]
                      by_cases e3 : b3 / 64 = 2
                      · rw [if_pos e3]
                        exact hf _ _ _ _ (by omega) (by simp only [List.length_cons]; omega)
                      · rw [if_neg e3]
                        exact hb _
                    · rw [if_neg e2]
                      exact hb _
                  · rw [if_neg e1]
                    exact hb _
          · simp only [if_neg h4]
            exact hb _
/-- Is a text right? (with so many rounds) -/
def utfD : Nat → List Int → Bool
  | 0, l => l.isEmpty
  | d + 1, l => if l = [] then true else if (sgn l).2.2 = true then utfD d (l.drop (sgn l).2.1.toNat) else false
def utfB (s : ByteArray) : Bool := utfD s.size (byt s)
/-- How many signs, from so many on. -/
def utfN : Nat → List Int → Int → Bool × Int
  | 0, l, n => (l.isEmpty, n)
  | d + 1, l, n => if l = [] then (true, n) else if (sgn l).2.2 = true then utfN d (l.drop (sgn l).2.1.toNat) (n + 1) else (false, n)
theorem utfN_fst (d : Nat) : ∀ l n, (utfN d l n).1 = utfD d l := by
  induction d with
  | zero => intro l n; rfl
  | succ d ih =>
    intro l n
    simp only [utfN, utfD]
    split
    · rfl
    · split
      · exact ih _ _
      · rfl
theorem utfN_snd (d : Nat) : ∀ l (n : Int), n ≤ (utfN d l n).2 := by
  induction d with
  | zero => intro l n; exact Int.le_refl _
  | succ d ih =>
    intro l n
    simp only [utfN]
    split
    · exact Int.le_refl _
    · split
      · have := ih (l.drop (sgn l).2.1.toNat) (n + 1)
        omega
      · exact Int.le_refl _
theorem uwalk_l0 (s : ByteArray) (hs : s.size ≤ 1000000000) (d : Nat) : ∀ (i : Nat) (n : Int), s.size - i ≤ d → i ≤ s.size → 0 ≤ n → n + (s.size - i : Nat) ≤ 2000000000 →
    Ev (fun k => utf_walk.l0 k s (i : Int) n) (utfN d ((byt s).drop i) n) := by
  induction d with
  | zero =>
    intro i n hd hi h0 hn
    refine Ev.step (f := fun _ => some (true, n)) (fun k => by simp only [utf_walk.l0]; rw [if_neg (by omega)]) ?_
    have e : (byt s).drop i = [] := List.drop_eq_nil_of_le (by rw [byt_len]; omega)
    rw [e]
    exact Ev.now _
  | succ d ih =>
    intro i n hd hi h0 hn
    by_cases h : i < s.size
    · have hne : ¬ (byt s).drop i = [] := fun e => by
        have := List.drop_eq_nil_iff.1 e
        rw [byt_len] at this
        omega
      have hcut := byt_cut s i
      have hlen : ((byt s).drop i).length = s.size - i := by rw [List.length_drop, byt_len]
      have hok := sgn_ok ((byt s).drop i)
      refine Ev.step (f := fun k => (utf_Read k (s.extract i s.size)).bind fun bt => if bt.2.2 = true then ((utf_Count_1 k (i : Int) bt.1 n).bind fun t => utf_walk.l0 k s (IntKind.i64.wrap ((i : Int) + bt.2.1)) t.2) else some (false, n)) (fun k => ?_) ?_
      · simp only [utf_walk.l0]
        rw [if_pos (by omega), if_pos (by omega), if_pos (by omega), show ((i : Int)).toNat = i by omega, show ((s.size : Int)).toNat = s.size by omega]
      · refine Ev.bind (uread_ev _ (by rw [ByteArray.size_extract]; omega)) ?_
        rw [hcut]
        simp only [utfN]
        rw [if_neg hne]
        by_cases h1 : (sgn ((byt s).drop i)).2.2 = true
        · rw [if_pos h1]
          obtain ⟨h2, h3⟩ := hok h1
          have := ih (i + (sgn ((byt s).drop i)).2.1.toNat) (n + 1) (by omega) (by omega) (by omega) (by omega)
          rw [← List.drop_drop] at this
          refine Ev.congr (fun k => ?_) this
          rw [if_pos h1]
          simp only [utf_Count_1, Option.bind_some]
          rw [i64w (n + 1) (by omega) (by omega), i64w _ (by omega) (by omega), show (i : Int) + (sgn ((byt s).drop i)).2.1 = ((i + (sgn ((byt s).drop i)).2.1.toNat : Nat) : Int) by omega]
        · rw [if_neg h1]
          exact Ev.congr (f := fun _ => some (false, n)) (fun k => by rw [if_neg h1]) (Ev.now _)
    · have e : (byt s).drop i = [] := List.drop_eq_nil_of_le (by rw [byt_len]; omega)
      rw [e]
      simp only [utfN]
      rw [if_pos (by trivial)]
      exact Ev.step (f := fun _ => some (true, n)) (fun k => by simp only [utf_walk.l0]; rw [if_neg (by omega)]) (Ev.now _)
theorem uright_ev (s : ByteArray) (hs : s.size ≤ 1000000000) : Ev (fun k => utf_Right k s) (utfB s) := by
  have h := uwalk_l0 s hs s.size 0 0 (by omega) (by omega) (by omega) (by omega)
  rw [List.drop_zero] at h
  have h1 := utfN_fst s.size (byt s) 0
  have h2 := utfN_snd s.size (byt s) 0
  unfold utf_Right utf_Count utf_walk
  refine Ev.bind (a := if (utfN s.size (byt s) 0).1 = true then (utfN s.size (byt s) 0).2 else -1) (Ev.bind h ?_) ?_
  · by_cases e : (utfN s.size (byt s) 0).1 = true
    · exact Ev.congr (f := fun _ => some _) (fun k => by rw [if_pos e, if_pos e]) (Ev.now _)
    · exact Ev.congr (f := fun _ => some _) (fun k => by rw [if_neg e, if_neg e]) (Ev.now _)
  · refine Ev.congr (f := fun _ => some (utfB s)) (fun k => ?_) (Ev.now _)
    congr 1
    unfold utfB
    rw [← h1]
    by_cases e : (utfN s.size (byt s) 0).1 = true
    · rw [if_pos e, e]
      simpa using h2
    · rw [if_neg e]
      simp at e
      rw [e]
      decide

def fits32 (n : Int) : Bool := decide (-2147483648 ≤ n ∧ n < 2147483648)
theorem lowS32 (n : Int) : (lowS n 32 == n) = fits32 n := by
  have h := lowS_iff n 32 (by decide)
  have e : (2 : Int) ^ (32 - 1) = 2147483648 := by decide
  rw [e] at h
  unfold fits32
  rw [Bool.eq_iff_iff, beq_iff_eq, h, decide_eq_true_iff]
theorem wfits32 (k : Nat) (n : Int) : word_Fits k n 32 = some (fits32 n) := by
  have := word_Fits_eq k n 32 (by decide) (by decide)
  rw [lowS32] at this
  exact this
/-- Is a value right? -/
def valB (kind n : Int) (s : ByteArray) : Bool :=
  if kind = 0 then decide (n = 0) && decide (s.size = 0)
  else if kind = 1 then fits32 n && decide (s.size = 0)
  else if kind = 2 then decide (s.size = 0)
  else if kind = 3 then decide (n = 0) && (decide (s.size ≤ 120) && utfB s)
  else if kind = 4 then decide (n = 0) && decide (s.size ≤ 120)
  else false
theorem utfB_nil (s : ByteArray) (h : s.size = 0) : utfB s = true := by
  have : byt s = [] := List.length_eq_zero_iff.1 (by rw [byt_len]; exact h)
  unfold utfB
  rw [h, this]
  rfl
theorem val_ev (kind n : Int) (s : ByteArray) (hs : s.size ≤ 1000000000) : Ev (fun k => value_Right k kind n s) (valB kind n s) := by
  refine Ev.flat1 0 (uright_ev s hs) (fun m h => ?_)
  have h0 := h 0
  simp only [Nat.add_zero] at h0 ⊢
  unfold valB
  have e120 : ((s.size : Int) > 120) = ¬ s.size ≤ 120 := propext ⟨fun h => by omega, fun h => by omega⟩
  simp only [value_Right, ba_nil0, wfits32, Option.bind_some, h0, e120]
  have f0 : fits32 0 = true := by decide
  have u0 := utfB_nil s
  by_cases k0 : kind = 0
  · subst k0
    by_cases h1 : n = 0 <;> by_cases h2 : s.size = 0 <;> simp [h1, h2]
  by_cases k1 : kind = 1
  · subst k1
    by_cases h1 : n = 0 <;> by_cases h2 : s.size = 0 <;> by_cases h3 : fits32 n = true <;> simp_all
  by_cases k2 : kind = 2
  · subst k2
    by_cases h1 : n = 0 <;> by_cases h2 : s.size = 0 <;> simp [h1, h2]
  by_cases k3 : kind = 3
  · subst k3
    by_cases h1 : n = 0 <;> by_cases h2 : s.size = 0 <;> by_cases h3 : utfB s = true <;> by_cases h4 : s.size ≤ 120 <;> simp_all
  by_cases k4 : kind = 4
  · subst k4
    by_cases h1 : n = 0 <;> by_cases h2 : s.size = 0 <;> by_cases h4 : s.size ≤ 120 <;> simp_all
  simp [k0, k1, k2, k3, k4]
/-- Is a type right? -/
def typB (kind mx : Int) : Bool := if kind = 1 ∨ kind = 2 then decide (mx = 0) else if kind = 3 ∨ kind = 4 then decide (1 ≤ mx ∧ mx ≤ 120) else false
theorem typ_eq (k : Nat) (kind mx : Int) : typ_Right k kind mx = some (typB kind mx) := by
  unfold typB
  simp only [typ_Right, ge_iff_le]
  by_cases h1 : kind = 1
  · simp [h1, beq_dec]
  · by_cases h2 : kind = 2
    · simp [h2, beq_dec]
    · by_cases h3 : kind = 3
      · subst h3
        by_cases h5 : 1 ≤ mx <;> simp [h5]
      · by_cases h4 : kind = 4
        · subst h4
          by_cases h5 : 1 ≤ mx <;> simp [h5]
        · simp [h1, h2, h3, h4]
/-- Does a value fit a type? -/
def fitB (tk tm vk vn : Int) (vs : ByteArray) : Bool := typB tk tm && (decide (vk = tk) && (valB vk vn vs && (decide (tk < 3) || decide ((vs.size : Int) ≤ tm))))
theorem fit_ev (tk tm vk vn : Int) (vs : ByteArray) (hs : vs.size ≤ 1000000000) : Ev (fun k => typ_Fits k tk tm vk vn vs) (fitB tk tm vk vn vs) := by
  refine Ev.flat1 0 (val_ev vk vn vs hs) (fun m h => ?_)
  have h0 := h 0
  simp only [Nat.add_zero] at h0 ⊢
  unfold fitB
  simp only [typ_Fits, typ_eq, Option.bind_some, h0, typ_long]
  by_cases h1 : typB tk tm = true
  · have ht : tk = 1 ∨ tk = 2 ∨ tk = 3 ∨ tk = 4 := by
      unfold typB at h1
      split at h1
      · omega
      · split at h1
        · omega
        · cases h1
    by_cases h2 : vk = tk
    · by_cases h3 : valB vk vn vs = true
      · rcases ht with rfl | rfl | rfl | rfl <;> simp_all
      · simp [h1, h2, h3]
        subst h2
        simp [h3]
    · simp [h1, h2]
  · simp [h1]

def zeroV (v : S_Value) : Bool := v.f0 == 0 && (v.f1 == 0 && (v.f2.toList == ([] : List UInt8)))
/-- What is known of a column that is tried. -/
def OkCol (c : S_Column) : Prop := c.f1.size ≤ 1000000000 ∧ c.f4.f2.size ≤ 1000000000 ∧ (Lit.int .i64 c.f4.f1).wf = true
/-- Is a column right? -/
def colB (c : S_Column) : Bool := decide (0 ≤ c.f0 ∧ c.f0 < 200) && (nameB c.f1 && (typB c.f2.f0 c.f2.f1 && (zeroV c.f4 || fitB c.f2.f0 c.f2.f1 c.f4.f0 c.f4.f1 c.f4.f2)))
theorem zeroV_text (v : S_Value) : ((v.f0 == 0) && ((v.f1 == 0) && (v.f2.toList == (⟨#[]⟩ : ByteArray).toList))) = zeroV v := by unfold zeroV; rw [nilB_toList]
theorem column_ev (c : S_Column) (h : OkCol c) : Ev (fun k => schema_RightColumn k c.f0 c.f1 c.f2.f0 c.f2.f1 c.f3 c.f4.f0 c.f4.f1 c.f4.f2) (colB c) := by
  refine Ev.flat2 0 (name_ev c.f1 (by have := h.1; omega)) (fit_ev c.f2.f0 c.f2.f1 c.f4.f0 c.f4.f1 c.f4.f2 h.2.1) (fun m h1 h2 => ?_)
  have h1 := h1 0
  have h2 := h2 0
  simp only [Nat.add_zero] at h1 h2 ⊢
  unfold colB
  simp only [schema_RightColumn, typ_eq, h1, h2, Option.bind_some, zeroV_text]
  by_cases q0 : c.f0 < 0
  · simp [q0]; omega
  by_cases q1 : c.f0 ≥ 200
  · simp [q0, q1]; omega
  have q2 : 0 ≤ c.f0 ∧ c.f0 < 200 := by omega
  cases nameB c.f1 <;> cases typB c.f2.f0 c.f2.f1 <;> cases zeroV c.f4 <;> simp [q0, q1, q2]
def hpHas (l : List ByteArray) (s : ByteArray) : Bool := l.any (fun t => decide (t = s))
/-- The columns, one behind the other: the last number, whether the key column may stand, the names. -/
def tabGo (next key : Int) : List S_Column → Int → Bool → List ByteArray → Bool
  | [], _, kf, _ => kf
  | c :: r, last, kf, ns => if colB c = true ∧ last < c.f0 ∧ c.f0 < next ∧ hpHas ns c.f1 = false then tabGo next key r c.f0 (if c.f0 = key then !c.f3 else kf) (ns ++ [c.f1]) else false
/-- Is a table right? -/
def tabB (id : Int) (name : ByteArray) (key next : Int) (l : List S_Column) : Bool := decide (0 ≤ id ∧ next ≤ 200 ∧ 1 ≤ l.length ∧ l.length ≤ 10) && (nameB name && tabGo next key l (-1) false [])
/-- A set of names, as a map. -/
def hpMap (ns : List ByteArray) : List (ByteArray × Bool) := ns.map fun n => (n, true)
theorem hp_get (s : ByteArray) : ∀ ns : List ByteArray, (mget (fun (q : ByteArray) => (s.toList == q.toList)) (hpMap ns)).getD false = hpHas ns s
  | [] => rfl
  | n :: ns => by
    have ih := hp_get s ns
    unfold hpMap hpHas at ih ⊢
    simp only [List.map_cons, mget, List.any_cons, ba_beq]
    by_cases h : s = n
    · subst h; simp
    · have h' : ¬ n = s := fun e => h e.symm
      simp only [h, h', decide_false, Bool.false_or]
      simpa [ba_beq] using ih
theorem hp_put (s : ByteArray) : ∀ ns : List ByteArray, hpHas ns s = false → mput (fun (q : ByteArray) => (s.toList == q.toList)) s true (hpMap ns) = hpMap (ns ++ [s])
  | [], _ => rfl
  | n :: ns, h => by
    unfold hpHas at h
    simp only [List.any_cons, Bool.or_eq_false_iff, decide_eq_false_iff_not] at h
    have ih := hp_put s ns h.2
    unfold hpMap at ih ⊢
    have h' : ¬ s = n := fun e => h.1 e.symm
    simp only [List.map_cons, List.cons_append, mput, ba_beq, h', decide_false]
    rw [if_neg (by simp)]
    simp only [ba_beq] at ih
    rw [ih]
theorem table_ev (id : Int) (name : ByteArray) (key next : Int) (l : List S_Column) (hn : name.size ≤ 1000000000) (hok : ∀ c ∈ l, OkCol c) : Ev (fun k => schema_RightTable k id name key next l) (tabB id name key next l) := by
  have hl0 : l.length ≤ 10 → Ev (fun k => schema_RightTable.l0 k (-1) false l (l.length : Int) 0 id name key next l ([] : List (ByteArray × Bool))) (tabGo next key l (-1) false []) := fun hlen => by
    have h := down (P := fun i => ∀ (last : Int) (kf : Bool) (ns : List ByteArray), Ev (fun k => schema_RightTable.l0 k last kf l (l.length : Int) (i : Int) id name key next l (hpMap ns)) (tabGo next key (l.drop i) last kf ns)) (n := l.length)
      (fun last kf ns => by
        rw [List.drop_length]
        exact Ev.step (f := fun _ => some kf) (fun k => by simp only [schema_RightTable.l0]; rw [if_neg (by omega)]) (Ev.now _))
      (fun i hi ih last kf ns => by
        rw [List.drop_eq_getElem_cons hi]
        have hc := hok _ (List.getElem_mem hi)
        generalize hci : l[i] = c at hc
        have hrd : r_Column l (i : Int) = c := by rw [← hci]; simp [r_Column, rd, List.getD, hi]
        refine Ev.step (fun k => by
          simp only [schema_RightTable.l0]
          rw [if_pos (by omega), if_pos (by omega), if_pos (by omega), hrd, hp_get, i64w_succ _ (by omega)]) (Ev.bind (column_ev c hc) ?_)
        simp only [tabGo]
        by_cases h1 : colB c = true
        · refine Ev.yes h1 (Ev.ite (fun h2 => ?_) (fun h2 => Ev.ite (fun h3 => ?_) (fun h3 => Ev.ite (fun h4 => ?_) (fun h4 => ?_))))
          · rw [if_neg (by omega)]; exact Ev.now _
          · rw [if_neg (by omega)]; exact Ev.now _
          · rw [if_neg (fun e => by rw [h4] at e; exact absurd e.2.2.2 (by simp))]; exact Ev.now _
          · have h4' : hpHas ns c.f1 = false := by simpa using h4
            rw [if_pos ⟨h1, by omega, by omega, h4'⟩, hp_put c.f1 ns h4']
            refine Ev.ite (fun h5 => ?_) (fun h5 => ?_)
            · rw [if_pos h5]; exact ih _ _ _
            · rw [if_neg h5]; exact ih _ _ _
        · rw [if_neg (fun e => h1 e.1)]
          exact Ev.no h1 (Ev.now _)) 0 (Nat.zero_le _)
    exact h (-1) false []
  unfold schema_RightTable tabB
  refine Ev.ite (fun h0 => ?_) (fun h0 => Ev.ite (fun h1 => ?_) (fun h1 => Ev.ite (fun h2 => ?_) (fun h2 => Ev.ite (fun h3 => ?_) (fun h3 => ?_))))
  · rw [decide_eq_false (by omega), Bool.false_and]; exact Ev.now _
  · rw [decide_eq_false (by omega), Bool.false_and]; exact Ev.now _
  · rw [decide_eq_false (by omega), Bool.false_and]; exact Ev.now _
  · rw [decide_eq_false (by omega), Bool.false_and]; exact Ev.now _
  · rw [decide_eq_true (by omega), Bool.true_and]
    refine Ev.bind (name_ev name (by omega)) ?_
    cases nameB name
    · exact Ev.no (by simp) (Ev.now _)
    · exact Ev.yes rfl (hl0 (by omega))

theorem rd_col (l : List S_Column) (i : Nat) (hi : i < l.length) : r_Column l (i : Int) = l[i] := by simp [r_Column, rd, List.getD, hi]
theorem rd_val (l : List S_Value) (i : Nat) (hi : i < l.length) : r_Value l (i : Int) = l[i] := by simp [r_Value, rd, List.getD, hi]
/-- What is known of a value that is tried. -/
def OkVal (v : S_Value) : Prop := v.f2.size ≤ 1000000000 ∧ (Lit.int .i64 v.f1).wf = true
/-- Why a value doesn't fit a column; 0. -/
def oneE (c : S_Column) (v : S_Value) : Int := if zeroV v = true then (if c.f3 = true then 0 else 11) else if fitB c.f2.f0 c.f2.f1 v.f0 v.f1 v.f2 = true then 0 else 10
theorem one_ev (c : S_Column) (v : S_Value) (h : OkVal v) : Ev (fun k => schema_one k c.f0 c.f1 c.f2.f0 c.f2.f1 c.f3 c.f4.f0 c.f4.f1 c.f4.f2 v.f0 v.f1 v.f2) (oneE c v) := by
  unfold schema_one oneE
  simp only [zeroV_text]
  by_cases hz : zeroV v = true
  · refine Ev.congr (f := fun _ => some (if c.f3 = true then 0 else 11)) (fun k => ?_) (Ev.eq (Ev.now _) (by rw [if_pos hz]))
    rw [if_pos hz, if_pos hz]
    split <;> rfl
  · refine Ev.congr (fun k => by rw [if_neg hz, if_neg hz]) (Ev.bind (fit_ev c.f2.f0 c.f2.f1 v.f0 v.f1 v.f2 h.1) ?_)
    rw [if_neg hz]
    split
    · exact Ev.now _
    · exact Ev.now _
/-- The first that doesn't fit tells why. -/
def rowGo : List S_Column → List S_Value → Int
  | _, [] => 0
  | [], _ :: _ => 0
  | c :: r, v :: s => if oneE c v = 0 then rowGo r s else oneE c v
def fitsE (l : List S_Column) (row : List S_Value) : Int := if row.length = l.length then rowGo l row else 5
theorem fits_ev (id : Int) (name : ByteArray) (key next : Int) (l : List S_Column) (row : List S_Value) (hr : row.length ≤ 1000000000) (hok : ∀ v ∈ row, OkVal v) : Ev (fun k => schema_fits k id name key next l row) (fitsE l row) := by
  unfold schema_fits fitsE
  by_cases hl : row.length = l.length
  · rw [if_pos hl]
    refine Ev.congr (fun k => by rw [if_pos (by omega)]) ?_
    have h := down (P := fun i => Ev (fun k => schema_fits.l0 k row (row.length : Int) (i : Int) id name key next l) (rowGo (l.drop i) (row.drop i))) (n := row.length)
      (by
        rw [List.drop_length]
        refine Ev.eq (Ev.step (f := fun _ => some 0) (fun k => by simp only [schema_fits.l0]; rw [if_neg (by omega)]) (Ev.now _)) ?_
        unfold rowGo
        rfl)
      (fun i hi ih => by
        rw [List.drop_eq_getElem_cons hi, List.drop_eq_getElem_cons (show i < l.length by omega)]
        refine Ev.step (fun k => by simp only [schema_fits.l0]; rw [if_pos (by omega), if_pos (by omega), if_pos (by omega), if_pos (by omega), if_pos (by omega), rd_val row i hi, rd_col l i (by omega), i64w_succ _ (by omega)]) ?_
        refine Ev.bind (one_ev _ _ (hok _ (List.getElem_mem hi))) ?_
        simp only [rowGo]
        split
        · exact ih
        · exact Ev.now _) 0 (Nat.zero_le _)
    exact h
  · rw [if_neg hl]
    exact Ev.congr (f := fun _ => some 5) (fun k => by rw [if_neg (by omega)]) (Ev.now _)
/-- Why a row doesn't fit a table; 0. -/
def rowE (id : Int) (name : ByteArray) (key next : Int) (l : List S_Column) (row : List S_Value) : Int := if tabB id name key next l = true then fitsE l row else 2
theorem row_ev (id : Int) (name : ByteArray) (key next : Int) (l : List S_Column) (row : List S_Value) (hn : name.size ≤ 1000000000) (hok : ∀ c ∈ l, OkCol c) (hr : row.length ≤ 1000000000) (hv : ∀ v ∈ row, OkVal v) : Ev (fun k => schema_Row k id name key next l row) (rowE id name key next l row) := by
  unfold schema_Row rowE
  refine Ev.bind (table_ev id name key next l hn hok) ?_
  by_cases h : tabB id name key next l = true
  · rw [if_pos h]
    exact Ev.congr (fun k => by rw [if_pos h]) (Ev.bind (fits_ev id name key next l row hr hv) (Ev.now _))
  · rw [if_neg h]
    exact Ev.congr (f := fun _ => some 2) (fun k => by rw [if_neg h]) (Ev.now _)

theorem tabGo_rise (next key : Int) : ∀ (l : List S_Column) (last : Int) (kf : Bool) (ns : List ByteArray), tabGo next key l last kf ns = true → (∀ c ∈ l, last < c.f0) ∧ l.Pairwise (fun c d => c.f0 < d.f0) ∧ (kf = true ∨ ∃ c ∈ l, c.f0 = key)
  | [], last, kf, ns, h => ⟨by simp, List.Pairwise.nil, .inl h⟩
  | c :: r, last, kf, ns, h => by
    simp only [tabGo] at h
    split at h
    · rename_i e
      obtain ⟨h1, h2, h3⟩ := tabGo_rise next key r _ _ _ h
      refine ⟨?_, ?_, ?_⟩
      · intro d hd
        rcases List.mem_cons.1 hd with hd | hd
        · rw [hd]; exact e.2.1
        · have := h1 d hd
          omega
      · exact List.pairwise_cons.2 ⟨h1, h2⟩
      · by_cases hk : c.f0 = key
        · exact .inr ⟨c, by simp, hk⟩
        · rw [if_neg hk] at h3
          rcases h3 with h3 | ⟨d, hd, e⟩
          · exact .inl h3
          · exact .inr ⟨d, by simp [hd], e⟩
    · cases h
theorem tabB_more {id : Int} {name : ByteArray} {key next : Int} {l : List S_Column} (h : tabB id name key next l = true) : l.length ≤ 10 ∧ l.Pairwise (fun c d => c.f0 < d.f0) ∧ ∃ c ∈ l, c.f0 = key := by
  unfold tabB at h
  rw [Bool.and_eq_true, Bool.and_eq_true, decide_eq_true_iff] at h
  obtain ⟨h1, h2, h3⟩ := tabGo_rise _ _ _ _ _ _ h.2.2
  refine ⟨h.1.2.2.2, h2, ?_⟩
  rcases h3 with h3 | h3
  · cases h3
  · exact h3
theorem rowE_zero {id : Int} {name : ByteArray} {key next : Int} {l : List S_Column} {row : List S_Value} (h : rowE id name key next l row = 0) : tabB id name key next l = true ∧ row.length = l.length := by
  unfold rowE fitsE at h
  split at h
  · rename_i e
    split at h
    · rename_i e2
      exact ⟨e, e2⟩
    · exact absurd h (by decide)
  · exact absurd h (by decide)

/-- A row's cells, by its table. -/
def cellsZ : List S_Column → List S_Value → List S_Cell
  | c :: r, v :: s => ⟨c.f1, c.f2, v⟩ :: cellsZ r s
  | _, _ => []
theorem cells_ev (id : Int) (name : ByteArray) (key next : Int) (l : List S_Column) (row : List S_Value) (hn : name.size ≤ 1000000000) (hok : ∀ c ∈ l, OkCol c) (hl : l.length ≤ 1000000) (hr : row.length ≤ 1000000000) (hv : ∀ v ∈ row, OkVal v)
    (h0 : rowE id name key next l row = 0) : Ev (fun k => schema_Cells k id name key next l row) (cellsZ l row, 0) := by
  obtain ⟨_, hlen⟩ := rowE_zero h0
  unfold schema_Cells
  refine Ev.bind (row_ev id name key next l row hn hok hr hv) ?_
  rw [h0]
  refine Ev.congr (fun k => if_pos rfl) ?_
  have h := down (P := fun i => ∀ acc : List S_Cell, acc.length = i → Ev (fun k => schema_Cells.l0 k row acc l (l.length : Int) (i : Int) id name key next l) (acc ++ cellsZ (l.drop i) (row.drop i), 0)) (n := l.length)
    (fun acc _ => by
      rw [List.drop_length]
      simp only [cellsZ, List.append_nil]
      exact Ev.step (f := fun _ => some (acc, 0)) (fun k => by simp only [schema_Cells.l0]; rw [if_neg (by omega)]) (Ev.now _))
    (fun i hi ih acc ha => by
      rw [List.drop_eq_getElem_cons hi, List.drop_eq_getElem_cons (show i < row.length by omega)]
      simp only [cellsZ]
      have := ih (acc ++ [⟨l[i].f1, l[i].f2, row[i]⟩]) (by simp [ha])
      rw [List.append_assoc, List.singleton_append] at this
      refine Ev.step (fun k => ?_) this
      simp only [schema_Cells.l0]
      rw [if_pos (by omega), if_pos (by omega), if_pos (by omega), if_pos (by omega), if_pos (by omega), if_pos (by omega), rd_col l i hi, rd_val row i (by omega), i64w_succ _ (by omega)]) 0 (Nat.zero_le _)
  have h2 := h [] rfl
  rw [List.drop_zero, List.drop_zero, List.nil_append] at h2
  exact h2
theorem rd_cell (l : List S_Cell) (i : Nat) (hi : i < l.length) : r_Cell l (i : Int) = l[i] := by simp [r_Cell, rd, List.getD, hi]
theorem samecells_self (l : List S_Cell) (hl : l.length ≤ 1000000) : Ev (fun k => haulageref08_SameCells k l l) true := by
  unfold haulageref08_SameCells
  refine Ev.congr (fun k => if_pos rfl) ?_
  exact down (P := fun i => Ev (fun k => haulageref08_SameCells.l0 k l l (i : Int)) true) (n := l.length)
    (Ev.step (f := fun _ => some true) (fun k => by simp only [haulageref08_SameCells.l0]; rw [if_neg (by omega)]) (Ev.now _))
    (fun i hi ih => by
      refine Ev.step (fun k => ?_) ih
      simp only [haulageref08_SameCells.l0]
      rw [if_pos (by omega), if_pos (by omega), if_pos (by omega), if_pos (by omega), if_pos (by omega), if_pos (by simp), i64w_succ _ (by omega)]) 0 (Nat.zero_le _)

theorem btr (s : ByteArray) (i : Int) : 0 ≤ bt s i ∧ bt s i ≤ 255 := by
  unfold bt
  split
  · rename_i h
    have := (s[i.toNat]'h).toNat_lt
    omega
  · omega

/-- The number of the first bytes' low seven bits. -/
def val (s : ByteArray) : Nat → Int
  | 0 => 0
  | i + 1 => val s i + bt s (i : Int) % 128 * 128 ^ i

theorem p128_pos (i : Nat) : (0 : Int) < 128 ^ i := Int.pow_pos (by decide)

theorem val_range (s : ByteArray) (i : Nat) : 0 ≤ val s i ∧ val s i < 128 ^ i := by
  induction i with
  | zero => simp [val]
  | succ i ih =>
    have hp := p128_pos i
    have h1 : 0 ≤ bt s (i : Int) % 128 := by omega
    have h2 : bt s (i : Int) % 128 ≤ 127 := by omega
    have h3 : 0 ≤ bt s (i : Int) % 128 * 128 ^ i := Int.mul_nonneg h1 (Int.le_of_lt hp)
    have h4 : bt s (i : Int) % 128 * 128 ^ i ≤ 127 * 128 ^ i := Int.mul_le_mul_of_nonneg_right h2 (Int.le_of_lt hp)
    simp only [val, Int.pow_succ]
    omega

/-- How many short bytes a text begins with, from a place on; or the error's number. -/
def ends (s : ByteArray) (i : Nat) : Int × Int :=
  if _h : i < s.size ∧ i < 10 then
    if bt s (i : Int) < 128 then (if (0 < i ∧ bt s (i : Int) = 0) ∨ (i = 9 ∧ 1 < bt s (i : Int)) then (0, 5) else (((i + 1 : Nat) : Int), 0)) else ends s (i + 1)
  else if s.size < 10 then (0, 4) else (0, 5)
termination_by 10 - i
decreasing_by omega

theorem ends_stop {s : ByteArray} {i : Nat} (h : ¬ (i < s.size ∧ i < 10)) : ends s i = if s.size < 10 then (0, 4) else (0, 5) := by rw [ends, dif_neg h]
theorem ends_more {s : ByteArray} {i : Nat} (h : i < s.size ∧ i < 10) (hc : ¬ bt s (i : Int) < 128) : ends s i = ends s (i + 1) := by rw [ends, dif_pos h, if_neg hc]
theorem ends_last {s : ByteArray} {i : Nat} (h : i < s.size ∧ i < 10) (hc : bt s (i : Int) < 128) : ends s i = if (0 < i ∧ bt s (i : Int) = 0) ∨ (i = 9 ∧ 1 < bt s (i : Int)) then (0, 5) else (((i + 1 : Nat) : Int), 0) := by rw [ends, dif_pos h, if_pos hc]

/-- What is known where it ends. -/
theorem ends_ok (s : ByteArray) (d : Nat) : ∀ i, i + d = 10 → (ends s i).2 = 0 → ∃ m : Nat, (ends s i).1 = ((m + 1 : Nat) : Int) ∧ i ≤ m ∧ m < 10 ∧ m < s.size ∧ bt s (m : Int) < 128 ∧ (0 < m → bt s (m : Int) ≠ 0) ∧ (m = 9 → bt s (m : Int) ≤ 1) ∧ ∀ j : Nat, i ≤ j → j < m → 128 ≤ bt s (j : Int) := by
  induction d with
  | zero =>
    intro i hi h
    rw [ends_stop (by omega)] at h
    split at h <;> simp at h
  | succ d ih =>
    intro i hi h
    by_cases h1 : i < s.size ∧ i < 10
    · by_cases hc : bt s (i : Int) < 128
      · rw [ends_last h1 hc] at h ⊢
        split at h
        · simp at h
        · rename_i hn
          rw [if_neg hn]
          exact ⟨i, rfl, Nat.le_refl _, h1.2, h1.1, hc, fun h0 h2 => hn (.inl ⟨h0, h2⟩), fun h9 => by
            by_cases h : 1 < bt s (i : Int)
            · exact absurd (.inr ⟨h9, h⟩) hn
            · omega, fun j hj hj' => by omega⟩
      · rw [ends_more h1 hc] at h ⊢
        obtain ⟨m, e, h2, h3, h4, h5, h6, h7, h8⟩ := ih (i + 1) (by omega) h
        exact ⟨m, e, by omega, h3, h4, h5, h6, h7, fun j hj hj' => by
          by_cases e : j = i
          · subst e; omega
          · exact h8 j (by omega) hj'⟩
    · rw [ends_stop h1] at h
      split at h <;> simp at h

theorem ends_err (s : ByteArray) (d : Nat) : ∀ i, i + d = 10 → (ends s i).2 ≠ 0 → (ends s i).1 = 0 ∧ ((ends s i).2 = 4 ∨ (ends s i).2 = 5) := by
  induction d with
  | zero =>
    intro i hi h
    rw [ends_stop (by omega)] at h ⊢
    split <;> simp
  | succ d ih =>
    intro i hi h
    by_cases h1 : i < s.size ∧ i < 10
    · by_cases hc : bt s (i : Int) < 128
      · rw [ends_last h1 hc] at h ⊢
        split at h
        · rename_i hn; rw [if_pos hn]; simp
        · simp at h
      · rw [ends_more h1 hc] at h ⊢
        exact ih (i + 1) (by omega) h
    · rw [ends_stop h1] at h ⊢
      split <;> simp

/-- The number that a text begins with, how many bytes; or the error's number. -/
def longS (s : ByteArray) : Int × Int × Int := if (ends s 0).2 = 0 then (val s (ends s 0).1.toNat, (ends s 0).1, 0) else (0, 0, (ends s 0).2)

theorem val_lt (s : ByteArray) (m : Nat) (h : m < 10) (h9 : m = 9 → bt s (m : Int) ≤ 1) (hc : bt s (m : Int) < 128) : 0 ≤ val s (m + 1) ∧ val s (m + 1) < 18446744073709551616 := by
  refine ⟨(val_range s (m + 1)).1, ?_⟩
  by_cases e : m = 9
  · subst e
    have h1 := val_range s 9
    have h2 := h9 rfl
    have h3 := btr s ((9 : Nat) : Int)
    simp only [val] at h1 ⊢
    have : (128 : Int) ^ 9 = 9223372036854775808 := by decide
    simp only [this] at h1 ⊢
    omega
  · have h1 := (val_range s (m + 1)).2
    have h2 : (128 : Int) ^ (m + 1) ≤ 128 ^ 9 := by
      have : (128 : Nat) ^ (m + 1) ≤ 128 ^ 9 := Nat.pow_le_pow_right (by decide) (by omega)
      exact_mod_cast this
    have : (128 : Int) ^ 9 = 9223372036854775808 := by decide
    omega

theorem longS_ok (s : ByteArray) (h : (longS s).2.2 = 0) : ∃ m : Nat, longS s = (val s (m + 1), ((m + 1 : Nat) : Int), 0) ∧ m < 10 ∧ m < s.size ∧ 0 ≤ val s (m + 1) ∧ val s (m + 1) < 18446744073709551616 ∧ bt s (m : Int) < 128 ∧ (0 < m → bt s (m : Int) ≠ 0) ∧ (∀ j : Nat, j < m → 128 ≤ bt s (j : Int)) := by
  unfold longS at h ⊢
  by_cases e : (ends s 0).2 = 0
  · obtain ⟨m, e1, _, h3, h4, h5, h6, h7, h8⟩ := ends_ok s 10 0 rfl e
    have hv := val_lt s m h3 h7 h5
    rw [if_pos e, e1]
    exact ⟨m, by simp, h3, h4, hv.1, hv.2, h5, h6, fun j hj => h8 j (Nat.zero_le _) hj⟩
  · rw [if_neg e] at h
    exact absurd h e
theorem longS_err (s : ByteArray) (h : (longS s).2.2 ≠ 0) : longS s = (0, 0, (longS s).2.2) ∧ ((longS s).2.2 = 4 ∨ (longS s).2.2 = 5) := by
  unfold longS at h ⊢
  by_cases e : (ends s 0).2 = 0
  · rw [if_pos e] at h
    exact absurd rfl h
  · rw [if_neg e]
    exact ⟨rfl, (ends_err s 10 0 rfl e).2⟩

theorem or_comm_u64 (x y : Int) : Go.bits .or .u64 x y = Go.bits .or .u64 y x := by
  unfold Go.bits
  simp only
  rw [BitVec.or_comm]

theorem wraps_u64 (n : Int) (h0 : 0 ≤ n) (h1 : n < 2 ^ 64) : IntKind.u64.wrap n = n := by
  simp only [IntKind.wrap, IntKind.bits, IntKind.signed]
  simp
  omega

theorem p128 (i : Nat) : (128 : Int) ^ i = 2 ^ (7 * i) := by
  rw [show (128 : Int) = 2 ^ 7 by decide, ← Int.pow_mul]

theorem or_shl (a c : Int) (i : Nat) (hi : i ≤ 9) (ha0 : 0 ≤ a) (ha : a < 128 ^ i) (hc0 : 0 ≤ c) (hc1 : c ≤ 255) (hcc : c % 128 * 128 ^ i < 18446744073709551616) :
    Go.bits .or .u64 a (Go.Proofs.YtgefikclhfjcgaaDoorEv.shl .u64 (IntKind.u64.wrap (Go.bits .and .u8 c 127)) (IntKind.i64.wrap (7 * (i : Int)))) = a + c % 128 * 128 ^ i := by
  have hm : Go.bits .and .u8 c 127 = c % 128 := Go.bits_mask .u8 8 (by decide) Go.wraps_u8 7 (by decide) c hc0 (by omega)
  have hp := p128_pos i
  have h1 : 0 ≤ c % 128 := by omega
  have h3 : 0 ≤ c % 128 * 128 ^ i := Int.mul_nonneg h1 (Int.le_of_lt hp)
  have e64 : (2 : Int) ^ 64 = 18446744073709551616 := by decide
  have hw : IntKind.i64.wrap (7 * (i : Int)) = ((7 * i : Nat) : Int) := by rw [i64_eq]; unfold wrap64; omega
  have hs : Go.Proofs.YtgefikclhfjcgaaDoorEv.shl .u64 (IntKind.u64.wrap (Go.bits .and .u8 c 127)) (IntKind.i64.wrap (7 * (i : Int))) = c % 128 * 128 ^ i := by
    unfold shl
    rw [hm, hw, wraps_u64 (c % 128) h1 (by omega)]
    have : min (((7 * i : Nat) : Int)).toNat (IntKind.bits .u64) = 7 * i := by simp [IntKind.bits]; omega
    rw [this, ← p128]
    exact wraps_u64 _ h3 (by omega)
  rw [hs, or_comm_u64]
  have hlt : a < 18446744073709551616 := by
    have h2 : (128 : Int) ^ i ≤ 128 ^ 9 := by
      have : (128 : Nat) ^ i ≤ 128 ^ 9 := Nat.pow_le_pow_right (by decide) hi
      exact_mod_cast this
    have : (128 : Int) ^ 9 = 9223372036854775808 := by decide
    omega
  rw [Go.bits_join .u64 64 (by decide) wraps_u64 (7 * i) (c % 128 * 128 ^ i) a h3 (by rw [p128]; exact Int.mul_emod_left _ _) (by omega) ha0 (by rw [← p128]; exact ha) (by omega)]
  omega

theorem long_stop (s : ByteArray) (a : Int) (i : Nat) (h : ¬ (i < s.size ∧ i < 10)) :
    Ev (fun k => word_Long.l0 k s a (i : Int)) (0, 0, if s.size < 10 then 4 else 5) := by
  refine Ev.step (f := fun _ => some (0, 0, if s.size < 10 then 4 else 5)) (fun k => ?_) (Ev.now _)
  have e : ((s.size : Int) < 10) = (s.size < 10) := propext ⟨fun h => by omega, fun h => by omega⟩
  simp only [word_Long.l0, e]
  by_cases h1 : i < s.size
  · rw [if_pos (by omega), if_neg (by omega)]; split <;> rfl
  · rw [if_neg (by omega)]; split <;> rfl

theorem long_l0 (s : ByteArray) (d : Nat) : ∀ i, i + d = 10 → ∀ a, (i ≤ 9 → a = val s i) →
    Ev (fun k => word_Long.l0 k s a (i : Int)) (if (ends s i).2 = 0 then (val s (ends s i).1.toNat, (ends s i).1, 0) else (0, 0, (ends s i).2)) := by
  induction d with
  | zero =>
    intro i hi a ha
    have := long_stop s a i (by omega)
    rw [ends_stop (by omega)]
    by_cases h1 : s.size < 10
    · simpa [h1] using this
    · simpa [h1] using this
  | succ d ih =>
    intro i hi a ha
    by_cases h : i < s.size ∧ i < 10
    · have ha' := ha (by omega)
      have hb := btr s (i : Int)
      have hv := val_range s i
      have hw : IntKind.i64.wrap (7 * (i : Int)) = 7 * (i : Int) := i64w _ (by omega) (by omega)
      have hw1 : IntKind.i64.wrap ((i : Int) + 1) = ((i + 1 : Nat) : Int) := i64w_succ _ (by omega)
      by_cases hc : bt s (i : Int) < 128
      · -- the last one
        rw [ends_last h hc]
        by_cases hbad : (0 < i ∧ bt s (i : Int) = 0) ∨ (i = 9 ∧ 1 < bt s (i : Int))
        · rw [if_pos hbad]
          refine Ev.step (f := fun _ => some (0, 0, 5)) (fun k => ?_) (Ev.now _)
          simp only [word_Long.l0]
          rw [if_pos (by omega), if_pos (by omega), if_pos (by omega), if_pos (by omega), if_neg (by rw [hw]; omega), if_neg (by omega)]
          rcases hbad with ⟨h0, h1⟩ | ⟨h0, h1⟩
          · rw [if_pos (by omega), if_pos h1]
          · rw [if_pos (by omega), if_neg (by omega), if_pos (by omega), if_pos h1]
        · rw [if_neg hbad]
          have hval : Go.bits .or .u64 a (Go.Proofs.YtgefikclhfjcgaaDoorEv.shl .u64 (IntKind.u64.wrap (Go.bits .and .u8 (bt s (i : Int)) 127)) (IntKind.i64.wrap (7 * (i : Int)))) = val s (((i + 1 : Nat) : Int)).toNat := by
            have hlt := val_lt s i (by omega) (fun e => by
              by_cases h : 1 < bt s (i : Int)
              · exact absurd (.inr ⟨e, h⟩) hbad
              · omega) hc
            have : (((i + 1 : Nat) : Int)).toNat = i + 1 := by omega
            rw [this]
            simp only [val] at hlt ⊢
            rw [or_shl a _ i (by omega) (by omega) (by omega) hb.1 hb.2 (by omega), ha']
          refine Ev.step (f := fun _ => some (val s (((i + 1 : Nat) : Int)).toNat, ((i + 1 : Nat) : Int), 0)) (fun k => ?_) (by rw [if_pos rfl]; exact Ev.now _)
          simp only [word_Long.l0]
          rw [if_pos (by omega), if_pos (by omega), if_pos (by omega), if_pos (by omega), if_neg (by rw [hw]; omega), if_neg (by omega), hval, hw1]
          by_cases h0 : i = 0
          · rw [if_neg (by omega), if_neg (by omega)]
          · have hn0 : ¬ bt s (i : Int) = 0 := fun e => hbad (.inl ⟨by omega, e⟩)
            rw [if_pos (by omega), if_neg hn0]
            by_cases h9 : i = 9
            · have hn9 : ¬ bt s (i : Int) > 1 := fun e => hbad (.inr ⟨h9, e⟩)
              rw [if_pos (by omega), if_neg hn9]
            · rw [if_neg (by omega)]
      · -- one more
        rw [ends_more h hc]
        refine Ev.step (f := fun k => word_Long.l0 k s (Go.bits .or .u64 a (Go.Proofs.YtgefikclhfjcgaaDoorEv.shl .u64 (IntKind.u64.wrap (Go.bits .and .u8 (bt s (i : Int)) 127)) (IntKind.i64.wrap (7 * (i : Int))))) ((i + 1 : Nat) : Int)) (fun k => ?_) (ih (i + 1) (by omega) _ (fun h9 => ?_))
        · simp only [word_Long.l0]
          rw [if_pos (by omega), if_pos (by omega), if_pos (by omega), if_pos (by omega), if_neg (by rw [hw]; omega), if_pos (by omega), hw1]
        · have h2 := (val_range s (i + 1)).2
          have h3 : (128 : Int) ^ (i + 1) ≤ 128 ^ 9 := by
            have : (128 : Nat) ^ (i + 1) ≤ 128 ^ 9 := Nat.pow_le_pow_right (by decide) (by omega)
            exact_mod_cast this
          have : (128 : Int) ^ 9 = 9223372036854775808 := by decide
          simp only [val] at h2 ⊢
          rw [or_shl a _ i (by omega) (by omega) (by omega) hb.1 hb.2 (by omega), ha']
    · have := long_stop s a i h
      rw [ends_stop h]
      by_cases h1 : s.size < 10
      · simpa [h1] using this
      · simpa [h1] using this

theorem word_Long_ev (s : ByteArray) : Ev (fun k => word_Long k s) (longS s) := by
  have := long_l0 s 10 0 rfl 0 (fun _ => rfl)
  simpa [word_Long, longS] using this

/-- A number's turned one. -/
def zigS (n : Int) : Int := if 0 ≤ n then 2 * n else -2 * n - 1
/-- The number of a turned one. -/
def zagS (u : Int) : Int := if u % 2 = 0 then u / 2 else -1 - u / 2

theorem xor_u64 (x y : Int) : Go.bits .xor .u64 x y = ((BitVec.ofInt 64 x ^^^ BitVec.ofInt 64 y).toNat : Int) % 18446744073709551616 := u64_eq _
theorem xor_i64 (x y : Int) : Go.bits .xor .i64 x y = wrap64 ((BitVec.ofInt 64 x ^^^ BitVec.ofInt 64 y).toNat : Int) := i64_eq _

theorem xor_u64_zero (x : Int) (h0 : 0 ≤ x) (h1 : x < 18446744073709551616) : Go.bits .xor .u64 x 0 = x := by
  rw [xor_u64, show (BitVec.ofInt 64 0) = 0#64 by rfl, BitVec.xor_zero, BitVec.toNat_ofInt]
  omega

theorem xor_u64_ones (x : Int) (h0 : 0 ≤ x) (h1 : x < 18446744073709551616) : Go.bits .xor .u64 x 18446744073709551615 = 18446744073709551615 - x := by
  rw [xor_u64, show (BitVec.ofInt 64 18446744073709551615) = BitVec.allOnes 64 by decide, BitVec.xor_allOnes, BitVec.toNat_not, BitVec.toNat_ofInt]
  omega

theorem xor_i64_zero (x : Int) (h0 : 0 ≤ x) (h1 : x < 9223372036854775808) : Go.bits .xor .i64 x 0 = x := by
  rw [xor_i64, show (BitVec.ofInt 64 0) = 0#64 by rfl, BitVec.xor_zero, BitVec.toNat_ofInt]
  unfold wrap64
  omega

theorem xor_i64_ones (x : Int) (h0 : 0 ≤ x) (h1 : x < 9223372036854775808) : Go.bits .xor .i64 x (-1) = -1 - x := by
  rw [xor_i64, show (BitVec.ofInt 64 (-1)) = BitVec.allOnes 64 by decide, BitVec.xor_allOnes, BitVec.toNat_not, BitVec.toNat_ofInt]
  unfold wrap64
  omega

theorem and_u64_one (x : Int) (h0 : 0 ≤ x) (h1 : x < 18446744073709551616) : Go.bits .and .u64 x 1 = x % 2 := by
  have := Go.bits_mask .u64 64 (by decide) (fun n h0 h1 => by rw [u64_eq]; omega) 1 (by decide) x h0 (by omega)
  simpa using this

theorem word_Zig_eq (k : Nat) (n : Int) (h0 : -9223372036854775808 ≤ n) (h1 : n ≤ 9223372036854775807) : word_Zig k n = some (zigS n) := by
  unfold word_Zig zigS
  have e1 : Go.Proofs.YtgefikclhfjcgaaDoorEv.shr .i64 n 63 = n / 9223372036854775808 := by unfold Go.Proofs.YtgefikclhfjcgaaDoorEv.shr; rfl
  have e2 : Go.Proofs.YtgefikclhfjcgaaDoorEv.shl .u64 (IntKind.u64.wrap n) 1 = n * 2 % 18446744073709551616 := by
    unfold Go.Proofs.YtgefikclhfjcgaaDoorEv.shl
    rw [u64_eq, u64_eq, show (2 : Int) ^ min (1 : Int).toNat (IntKind.bits .u64) = 2 by decide]
    omega
  rw [e1, e2]
  simp only [u64_eq]
  by_cases h : 0 ≤ n
  · rw [if_pos h, show n / 9223372036854775808 % 18446744073709551616 = 0 by omega, xor_u64_zero _ (by omega) (by omega)]
    congr 1
    omega
  · rw [if_neg h, show n / 9223372036854775808 % 18446744073709551616 = 18446744073709551615 by omega, xor_u64_ones _ (by omega) (by omega)]
    congr 1
    omega
theorem zigS_range (n : Int) (h0 : -9223372036854775808 ≤ n) (h1 : n ≤ 9223372036854775807) : 0 ≤ zigS n ∧ zigS n ≤ 18446744073709551615 := by unfold zigS; split <;> omega
theorem zagS_range (u : Int) (h0 : 0 ≤ u) (h1 : u ≤ 18446744073709551615) : -9223372036854775808 ≤ zagS u ∧ zagS u ≤ 9223372036854775807 := by unfold zagS; split <;> omega
theorem zag_zig (n : Int) : zagS (zigS n) = n := by unfold zagS zigS; split <;> split <;> omega
theorem zig_zag (u : Int) (h0 : 0 ≤ u) : zigS (zagS u) = u := by unfold zagS zigS; split <;> split <;> omega

theorem word_Zag_eq (k : Nat) (u : Int) (h0 : 0 ≤ u) (h1 : u ≤ 18446744073709551615) : word_Zag k u = some (zagS u) := by
  unfold word_Zag zagS
  have e1 : Go.Proofs.YtgefikclhfjcgaaDoorEv.shr .u64 u 1 = u / 2 := by unfold Go.Proofs.YtgefikclhfjcgaaDoorEv.shr; rfl
  rw [and_u64_one u h0 (by omega), e1, i64w (u / 2) (by omega) (by omega)]
  by_cases h : u % 2 = 0
  · rw [if_pos h, h, show IntKind.i64.wrap (0 - IntKind.i64.wrap 0) = 0 by decide +kernel, xor_i64_zero _ (by omega) (by omega)]
  · rw [if_neg h, show u % 2 = 1 by omega, show IntKind.i64.wrap (0 - IntKind.i64.wrap 1) = -1 by decide +kernel, xor_i64_ones _ (by omega) (by omega)]

/-- The short bytes of a number. -/
def sb (n : Nat) : List Int := if n < 128 then [(n : Int)] else (((n % 128 + 128 : Nat) : Int)) :: sb (n / 128)
termination_by n
decreasing_by omega

theorem sb_small {n : Nat} (h : n < 128) : sb n = [(n : Int)] := by rw [sb, if_pos h]
theorem sb_big {n : Nat} (h : ¬ n < 128) : sb n = (((n % 128 + 128 : Nat) : Int)) :: sb (n / 128) := by rw [sb, if_neg h]

theorem sb_len (m : Nat) : ∀ n, n < 128 ^ (m + 1) → (sb n).length ≤ m + 1 := by
  induction m with
  | zero => intro n h; rw [sb_small (by simpa using h)]; simp
  | succ m ih =>
    intro n h
    by_cases h1 : n < 128
    · rw [sb_small h1]; simp
    · rw [sb_big h1]
      have : n / 128 < 128 ^ (m + 1) := by
        rw [Nat.div_lt_iff_lt_mul (by decide)]
        rw [Nat.pow_succ] at h
        exact h
      have := ih _ this
      simp only [List.length_cons]
      omega

theorem sb_len10 {n : Nat} (h : n < 18446744073709551616) : (sb n).length ≤ 10 := sb_len 9 n (Nat.lt_of_lt_of_le h (by decide))
theorem sb_pos (n : Nat) : 0 < (sb n).length := by
  by_cases h : n < 128
  · rw [sb_small h]; simp
  · rw [sb_big h]; simp

theorem or128_fin : ∀ a : Fin 256, (a.val ||| 128) = a.val % 128 + 128 := by decide +kernel

theorem or128 (x : Int) (h : 0 ≤ x) : Go.bits .or .u8 (x % 256) 128 = x % 128 + 128 := by
  obtain ⟨n, rfl⟩ := Int.eq_ofNat_of_zero_le h
  have e : ((n : Int) % 256) = ((n % 256 : Nat) : Int) := by omega
  have := (Go.bits_nat .u8 8 (by decide) Go.wraps_u8 (n % 256) 128 (by omega) (by decide)).2
  rw [e]
  refine this.trans ?_
  have h2 := or128_fin ⟨n % 256, by omega⟩
  simp only at h2
  rw [h2]
  omega

theorem u8w (n : Int) : IntKind.u8.wrap n = n % 256 := by simp [IntKind.wrap, IntKind.bits, IntKind.signed]
theorem u64s7 (n : Int) : Go.Proofs.YtgefikclhfjcgaaDoorEv.shr .u64 n 7 = n / 128 := by unfold Go.Proofs.YtgefikclhfjcgaaDoorEv.shr; rfl
theorem short_l1 (l : List Int) (len i : Int) (r : ByteArray) (n : Nat) : ∀ acc : List Int, acc.length + (sb n).length ≤ 140737488355328 →
    Ev (fun k => word_Short.l0 k (acc ++ sb n) l len (IntKind.i64.wrap (i + 1))) r → Ev (fun k => word_Short.l1 k acc (n : Int) l len i) r := by
  induction n using Nat.strongRecOn with
  | _ n ih =>
    intro acc hb hk
    by_cases h : n < 128
    · rw [sb_small h] at hb hk
      simp only [List.length_cons, List.length_nil] at hb
      refine Ev.step (f := fun k => word_Short.l0 k (acc ++ [(n : Int)]) l len (IntKind.i64.wrap (i + 1))) (fun k => ?_) hk
      simp only [word_Short.l1]
      rw [if_neg (by omega), if_pos (by omega), u8w _, show ((n : Int) % 256) = n by omega]
    · rw [sb_big h] at hb hk
      simp only [List.length_cons] at hb
      refine Ev.step (f := fun k => word_Short.l1 k (acc ++ [((n % 128 + 128 : Nat) : Int)]) ((n / 128 : Nat) : Int) l len i) (fun k => ?_) (ih (n / 128) (by omega) _ (by simp only [List.length_append, List.length_cons, List.length_nil]; omega) ?_)
      · simp only [word_Short.l1]
        rw [if_pos (by omega), if_pos (by omega), u8w _, or128 _ (by omega), u64s7, show ((n : Int) % 128 + 128) = ((n % 128 + 128 : Nat) : Int) by omega, show ((n : Int) / 128) = ((n / 128 : Nat) : Int) by omega]
      · rw [List.append_assoc]; exact hk

/-- The short bytes of several. -/
def sbs (l : List Int) : List Int := l.flatMap fun x => sb x.toNat

theorem sbs_cons (x : Int) (l : List Int) : sbs (x :: l) = sb x.toNat ++ sbs l := by simp [sbs]
theorem rd_at (l : List Int) (i : Nat) (h : i < l.length) : r_u64 l (i : Int) = l[i] := by
  simp [r_u64, rd, h]

theorem short_l0 (l : List Int) (hl : l.length ≤ 1000000000000) (hr : ∀ x ∈ l, 0 ≤ x ∧ x < 18446744073709551616) (d : Nat) : ∀ (i : Nat) (acc : List Int), l.length = i + d → acc.length ≤ 10 * i →
    Ev (fun k => word_Short.l0 k acc l (l.length : Int) (i : Int)) (strOfNums (acc ++ sbs (l.drop i))) := by
  induction d with
  | zero =>
    intro i acc hi ha
    refine Ev.step (f := fun _ => some (strOfNums acc)) (fun k => ?_) ?_
    · simp only [word_Short.l0]
      rw [if_neg (by omega)]
      rfl
    · rw [show l.drop i = [] from List.drop_eq_nil_of_le (by omega)]
      simpa [sbs] using Ev.now (strOfNums acc)
  | succ d ih =>
    intro i acc hi ha
    have hlt : i < l.length := by omega
    have hx := hr l[i] (List.getElem_mem hlt)
    have h10 := sb_len10 (n := l[i].toNat) (by omega)
    refine Ev.step (f := fun k => word_Short.l1 k acc ((l[i].toNat : Nat) : Int) l (l.length : Int) (i : Int)) (fun k => ?_) ?_
    · simp only [word_Short.l0]
      rw [if_pos (by omega), if_pos (by omega), if_pos (by omega), rd_at l i hlt, show ((l[i].toNat : Nat) : Int) = l[i] by omega]
    · refine short_l1 l _ _ _ _ _ (by omega) ?_
      have := ih (i + 1) (acc ++ sb l[i].toNat) (by omega) (by simp only [List.length_append]; omega)
      rw [show l.drop i = l[i] :: l.drop (i + 1) from List.drop_eq_getElem_cons hlt, sbs_cons, ← List.append_assoc]
      rw [show IntKind.i64.wrap ((i : Int) + 1) = ((i + 1 : Nat) : Int) by rw [i64_eq]; unfold wrap64; omega]
      exact this

theorem word_Short_ev (l : List Int) (hl : l.length ≤ 1000000000000) (hr : ∀ x ∈ l, 0 ≤ x ∧ x < 18446744073709551616) :
    Ev (fun k => word_Short k l) (strOfNums (sbs l)) := by
  have := short_l0 l hl hr l.length 0 [] (by omega) (by simp)
  simpa [word_Short] using this


theorem cut_to (s : ByteArray) (a n : Nat) : (s.extract a s.size).extract 0 n = s.extract a (a + n) := by
  apply byt_inj
  rw [byt_extract, byt_cut, byt_extract, List.drop_zero]
  congr 1
  omega
theorem cut_cut (s : ByteArray) (a n : Nat) : (s.extract a s.size).extract n (s.extract a s.size).size = s.extract (a + n) s.size := by
  apply byt_inj
  rw [byt_cut, byt_cut, byt_cut, List.drop_drop]
theorem cut_size (s : ByteArray) (a : Nat) : (s.extract a s.size).size = s.size - a := by
  rw [← byt_len, byt_cut, List.length_drop, byt_len]
theorem long_two (s : ByteArray) (h : (longS s).2.2 = 0) : 0 ≤ (longS s).1 ∧ (longS s).1 < 18446744073709551616 ∧ 0 < (longS s).2.1 ∧ (longS s).2.1 ≤ (s.size : Int) ∧ (longS s).2.1 ≤ 10 := by
  obtain ⟨m, e, h1, h2, h3, h4, _⟩ := longS_ok s h
  rw [e]
  simp only
  omega
theorem i64_wf {x : Int} (h0 : -9223372036854775808 ≤ x) (h1 : x ≤ 9223372036854775807) : (Lit.int .i64 x).wf = true := by
  unfold Lit.wf
  have e1 : IntKind.i64.min = -9223372036854775808 := by decide
  have e2 : IntKind.i64.max = 9223372036854775807 := by decide
  simp only [e1, e2, Bool.and_eq_true, decide_eq_true_eq]
  exact ⟨h0, h1⟩
theorem wf64 {n : Int} (h : (Lit.int .i64 n).wf = true) : -9223372036854775808 ≤ n ∧ n ≤ 9223372036854775807 := wf_i64 h
theorem sb_bytes (n : Nat) : Bytes (sb n) := by
  induction n using Nat.strongRecOn with
  | _ n ih =>
    by_cases h : n < 128
    · rw [sb_small h]
      intro x hx
      rw [List.mem_singleton] at hx
      omega
    · rw [sb_big h]
      intro x hx
      rcases List.mem_cons.1 hx with e | e
      · omega
      · exact ih (n / 128) (by omega) x e
theorem jcut (a b : ByteArray) (n : Nat) (h : n = a.size) : (a ++ b).extract n (a ++ b).size = b := by
  apply byt_inj
  rw [byt_cut, byt_append, h, ← byt_len a, List.drop_left]
theorem cjoin (s : ByteArray) (n : Nat) (l : List Int) (h : l = (byt s).take n) : strOfNums l ++ s.extract n s.size = s := by
  apply byt_inj
  have hb : Bytes l := by rw [h]; exact (byt_bytes s).take n
  rw [byt_append, byt_str hb, byt_cut, h, List.take_append_drop]
theorem ba_of0 (s : ByteArray) (h : s.size = 0) : s = ⟨#[]⟩ := ByteArray.ext (Array.eq_empty_of_size_eq_zero h)
theorem short1 (x : Int) (h0 : 0 ≤ x) (h1 : x ≤ 18446744073709551615) : Ev (fun k => word_Short k ([x] : List Int)) (strOfNums (sb x.toNat)) := by
  have := word_Short_ev [x] (by simp) (fun y hy => by
    rw [List.mem_singleton] at hy
    omega)
  rw [show sbs [x] = sb x.toNat by simp [sbs]] at this
  exact this

/-- The bytes of a value that isn't null. -/
def oneV (v : S_Value) : List Int := if v.f0 = 1 ∨ v.f0 = 2 then sb (zigS v.f1).toNat else sb v.f2.size ++ byt v.f2
theorem oneV_len (v : S_Value) (h : OkVal v) : (oneV v).length ≤ 1000000010 := by
  have hz := wf64 h.2
  unfold oneV
  split
  · have := zigS_range v.f1 hz.1 hz.2
    have := sb_len10 (n := (zigS v.f1).toNat) (by omega)
    omega
  · have := sb_len10 (n := v.f2.size) (by have := h.1; omega)
    rw [List.length_append, byt_len]
    have := h.1
    omega
theorem rput_ev (acc : List Int) (v : S_Value) (h : OkVal v) (ha : acc.length ≤ 100000000000) : Ev (fun k => rowcode_put k acc v.f0 v.f1 v.f2) (acc ++ oneV v) := by
  have hz := wf64 h.2
  have hr := zigS_range v.f1 hz.1 hz.2
  have hs := h.1
  by_cases hp : v.f0 = 1 ∨ v.f0 = 2
  · have hl := sb_len10 (n := (zigS v.f1).toNat) (by omega)
    have h1 := short1 (zigS v.f1) hr.1 hr.2
    have hb2 : bytesOf (strOfNums (sb (zigS v.f1).toNat)) = sb (zigS v.f1).toNat := by rw [bytesOf_byt]; exact byt_str (sb_bytes _)
    have ho : oneV v = sb (zigS v.f1).toNat := by unfold oneV; rw [if_pos hp]
    refine Ev.flat1 0 h1 (fun m g => ?_)
    have g := g 0
    simp only [Nat.add_zero] at g ⊢
    simp only [rowcode_put, word_Zig_eq _ v.f1 hz.1 hz.2, Option.bind_some, g, strOfNums_size, hb2, ho]
    have hc : acc.length + (sb (zigS v.f1).toNat).length < 140737488355328 := by omega
    rcases hp with e | e
    · simp only [e, if_true, if_pos hc]
    · simp only [e, Int.reduceEq, if_true, if_false, if_pos hc]
  · have hl := sb_len10 (n := v.f2.size) (by omega)
    have hu : IntKind.u64.wrap (v.f2.size : Int) = (v.f2.size : Int) := by rw [u64_eq]; omega
    have h1 := short1 (v.f2.size : Int) (by omega) (by omega)
    rw [Int.toNat_natCast] at h1
    have hb2 : byt (strOfNums (sb v.f2.size)) = sb v.f2.size := byt_str (sb_bytes _)
    have ho : oneV v = sb v.f2.size ++ byt v.f2 := by unfold oneV; rw [if_neg hp]
    refine Ev.flat1 0 h1 (fun m g => ?_)
    have g := g 0
    simp only [Nat.add_zero] at g ⊢
    have n1 : ¬ v.f0 = 1 := fun e => hp (.inl e)
    have n2 : ¬ v.f0 = 2 := fun e => hp (.inr e)
    simp only [rowcode_put, if_neg n1, if_neg n2, hu, Option.bind_some, g, strOfNums_size, hb2, ho, bytesOf_byt]
    rw [if_pos (by omega), if_pos (by rw [List.length_append]; omega), List.append_assoc]
theorem rput1_ev (acc : List Int) (v : S_Value) (h : OkVal v) (ha : acc.length ≤ 100000000000) : Ev (fun k => rowcode_put_1 k acc v.f0 v.f1 v.f2) (acc ++ oneV v) := by
  have hz := wf64 h.2
  have hr := zigS_range v.f1 hz.1 hz.2
  have hs := h.1
  by_cases hp : v.f0 = 1 ∨ v.f0 = 2
  · have hl := sb_len10 (n := (zigS v.f1).toNat) (by omega)
    have h1 := short1 (zigS v.f1) hr.1 hr.2
    have hb2 : bytesOf (strOfNums (sb (zigS v.f1).toNat)) = sb (zigS v.f1).toNat := by rw [bytesOf_byt]; exact byt_str (sb_bytes _)
    have ho : oneV v = sb (zigS v.f1).toNat := by unfold oneV; rw [if_pos hp]
    refine Ev.flat1 0 h1 (fun m g => ?_)
    have g := g 0
    simp only [Nat.add_zero] at g ⊢
    simp only [rowcode_put_1, word_Zig_eq _ v.f1 hz.1 hz.2, Option.bind_some, g, hb2, ho]
    have hc : acc.length + (sb (zigS v.f1).toNat).length ≤ 140737488355328 := by omega
    rcases hp with e | e
    · simp only [e, if_true, if_pos hc]
    · simp only [e, Int.reduceEq, if_true, if_false, if_pos hc]
  · have hl := sb_len10 (n := v.f2.size) (by omega)
    have hu : IntKind.u64.wrap (v.f2.size : Int) = (v.f2.size : Int) := by rw [u64_eq]; omega
    have h1 := short1 (v.f2.size : Int) (by omega) (by omega)
    rw [Int.toNat_natCast] at h1
    have hb2 : byt (strOfNums (sb v.f2.size)) = sb v.f2.size := byt_str (sb_bytes _)
    have ho : oneV v = sb v.f2.size ++ byt v.f2 := by unfold oneV; rw [if_neg hp]
    refine Ev.flat1 0 h1 (fun m g => ?_)
    have g := g 0
    simp only [Nat.add_zero] at g ⊢
    have n1 : ¬ v.f0 = 1 := fun e => hp (.inl e)
    have n2 : ¬ v.f0 = 2 := fun e => hp (.inr e)
    simp only [rowcode_put_1, if_neg n1, if_neg n2, hu, Option.bind_some, g, hb2, ho, bytesOf_byt]
    rw [if_pos (by omega), if_pos (by rw [List.length_append, byt_len]; omega), List.append_assoc]
/-- Eight values' map, the first one lowest. -/
def mapN : List S_Value → Int
  | [] => 0
  | v :: r => (if v.f0 = 0 then 1 else 0) + 2 * mapN r
theorem mapN_range : ∀ l : List S_Value, 0 ≤ mapN l ∧ mapN l < 2 ^ l.length
  | [] => by simp [mapN]
  | v :: r => by
    have := mapN_range r
    simp only [mapN, List.length_cons, Int.pow_succ]
    split <;> omega
theorem mapN_snoc (v : S_Value) : ∀ l : List S_Value, mapN (l ++ [v]) = mapN l + 2 ^ l.length * (if v.f0 = 0 then 1 else 0)
  | [] => by simp [mapN]
  | u :: r => by
    have := mapN_snoc v r
    simp only [List.cons_append, mapN, List.length_cons, Int.pow_succ, this]
    rw [Int.mul_add, Int.mul_comm (2 ^ r.length) 2, Int.mul_assoc]
    omega
/-- The values of a byte of the map, of the first so many. -/
def ck (row : List S_Value) (i j : Nat) : List S_Value := ((row.take i).drop (8 * j)).take 8
theorem ck_len (row : List S_Value) (i j : Nat) : (ck row i j).length ≤ 8 := by
  unfold ck
  rw [List.length_take]
  omega
theorem ck_step (row : List S_Value) (i j : Nat) (hi : i < row.length) : ck row (i + 1) j = if j = i / 8 then ck row i j ++ [row[i]] else ck row i j := by
  unfold ck
  rw [List.take_succ_eq_append_getElem hi, List.drop_append]
  have hlen : (row.take i).length = i := by rw [List.length_take]; omega
  rw [hlen]
  by_cases h : j = i / 8
  · rw [if_pos h, show 8 * j - i = 0 by omega, List.drop_zero]
    have hx : ((row.take i).drop (8 * j)).length = i % 8 := by rw [List.length_drop, hlen]; omega
    rw [List.take_of_length_le (by rw [List.length_append, hx, List.length_singleton]; omega), List.take_of_length_le (l := (row.take i).drop (8 * j)) (by omega)]
  · rw [if_neg h]
    by_cases h2 : j < i / 8
    · have hx : 8 ≤ ((row.take i).drop (8 * j)).length := by rw [List.length_drop, hlen]; omega
      rw [List.take_append_of_le_length hx]
    · rw [show [row[i]].drop (8 * j - i) = [] from List.drop_eq_nil_of_le (by rw [List.length_singleton]; omega), List.append_nil]
theorem ck_at (row : List S_Value) (i : Nat) (hi : i ≤ row.length) : (ck row i (i / 8)).length = i % 8 := by
  unfold ck
  rw [List.length_take, List.length_drop, List.length_take]
  omega
/-- The map of the first so many values. -/
def mapM (row : List S_Value) (i sz : Nat) : List Int := (List.range sz).map fun j => mapN (ck row i j)
theorem mapM_len (row : List S_Value) (i sz : Nat) : (mapM row i sz).length = sz := by simp [mapM]
theorem mapM_get (row : List S_Value) (i sz j : Nat) (hj : j < sz) : (mapM row i sz)[j]? = some (mapN (ck row i j)) := by
  unfold mapM
  simp [hj]
theorem mapM_bytes (row : List S_Value) (i sz : Nat) : Bytes (mapM row i sz) := by
  intro x hx
  unfold mapM at hx
  obtain ⟨j, _, rfl⟩ := List.mem_map.1 hx
  have h1 := mapN_range (ck row i j)
  have h2 := ck_len row i j
  have h3 : (2 : Int) ^ (ck row i j).length ≤ 2 ^ 8 := by
    have : (2 : Nat) ^ (ck row i j).length ≤ 2 ^ 8 := Nat.pow_le_pow_right (by decide) h2
    exact_mod_cast this
  omega
theorem mapM_zero (row : List S_Value) (sz : Nat) : mapM row 0 sz = List.replicate sz 0 := by
  unfold mapM ck
  simp only [List.take_zero, List.drop_nil, List.take_nil, mapN]
  rw [List.map_const', List.length_range]
theorem mapM_step (row : List S_Value) (i sz : Nat) (hi : i < row.length) : mapM row (i + 1) sz = if row[i].f0 = 0 then (mapM row i sz).set (i / 8) (mapN (ck row i (i / 8)) + 2 ^ (i % 8)) else mapM row i sz := by
  have key : ∀ j, mapN (ck row (i + 1) j) = if j = i / 8 then mapN (ck row i j) + 2 ^ (i % 8) * (if row[i].f0 = 0 then 1 else 0) else mapN (ck row i j) := fun j => by
    rw [ck_step row i j hi]
    by_cases h : j = i / 8
    · rw [if_pos h, if_pos h, mapN_snoc]
      subst h
      rw [ck_at row i (by omega)]
    · rw [if_neg h, if_neg h]
  apply List.ext_getElem
  · split <;> simp [mapM]
  · intro j h1 h2
    have hj : j < sz := by simpa [mapM] using h1
    have e1 : (mapM row (i + 1) sz)[j] = mapN (ck row (i + 1) j) := by simp [mapM]
    rw [e1, key]
    by_cases hn : row[i].f0 = 0
    · simp only [if_pos hn]
      rw [List.getElem_set]
      by_cases h : j = i / 8
      · rw [if_pos h, if_pos h.symm, h]
        omega
      · rw [if_neg h, if_neg (fun e => h e.symm)]
        simp [mapM]
    · simp only [if_neg hn]
      rw [Int.mul_zero, Int.add_zero]
      simp [mapM]
/-- The values' bytes, of the first so many. -/
def valsT (row : List S_Value) (i : Nat) : List Int := (row.take i).flatMap fun v => if v.f0 = 0 then [] else oneV v
theorem valsT_step (row : List S_Value) (i : Nat) (hi : i < row.length) : valsT row (i + 1) = valsT row i ++ (if row[i].f0 = 0 then [] else oneV row[i]) := by
  unfold valsT
  rw [List.take_succ_eq_append_getElem hi, List.flatMap_append]
  simp
theorem valsT_len (row : List S_Value) (h : ∀ v ∈ row, OkVal v) : ∀ i, i ≤ row.length → (valsT row i).length ≤ i * 1000000010
  | 0, _ => by simp [valsT]
  | i + 1, hi => by
    have := valsT_len row h i (by omega)
    rw [valsT_step row i (by omega), List.length_append]
    have h2 := oneV_len row[i] (h _ (List.getElem_mem (by omega)))
    split
    · rw [List.length_nil, Nat.add_zero, Nat.succ_mul]
      exact Nat.le_add_right_of_le this
    · omega
/-- A row's image. -/
def encS (row : List S_Value) : List Int := mapM row row.length ((row.length + 7) / 8) ++ valsT row row.length
theorem and7 (i : Nat) (h : i < 16) : Go.bits .and .i64 (i : Int) 7 = ((i % 8 : Nat) : Int) := by
  have : ∀ i : Fin 16, Go.bits .and .i64 (i.val : Int) 7 = ((i.val % 8 : Nat) : Int) := by decide +kernel
  exact this ⟨i, h⟩
set_option maxRecDepth 100000 in
theorem orbit (a : Int) (j : Nat) (hj : j < 8) (h0 : 0 ≤ a) (h1 : a < 2 ^ j) : Go.bits .or .u8 a (shl .u8 1 ((j : Nat) : Int)) = a + 2 ^ j := by
  have : ∀ j : Fin 8, ∀ a : Fin 128, (a.val : Int) < 2 ^ j.val → Go.bits .or .u8 (a.val : Int) (shl .u8 1 ((j.val : Nat) : Int)) = (a.val : Int) + 2 ^ j.val := by decide +kernel
  obtain ⟨n, rfl⟩ := Int.eq_ofNat_of_zero_le h0
  have h128 : n < 128 := by
    have h3 : (2 : Int) ^ j ≤ 2 ^ 7 := by
      have : (2 : Nat) ^ j ≤ 2 ^ 7 := Nat.pow_le_pow_right (by decide) (by omega)
      exact_mod_cast this
    omega
  exact this ⟨j, hj⟩ ⟨n, h128⟩ h1
theorem s3n (i : Nat) : Go.Proofs.YtgefikclhfjcgaaDoorEv.shr .i64 (i : Int) 3 = ((i / 8 : Nat) : Int) := by
  have : Go.Proofs.YtgefikclhfjcgaaDoorEv.shr .i64 (i : Int) 3 = (i : Int) / 8 := by unfold Go.Proofs.YtgefikclhfjcgaaDoorEv.shr; rfl
  rw [this]
  omega
theorem enc_l0 (id : Int) (name : ByteArray) (key next : Int) (cols : List S_Column) (row : List S_Value) (hr : row.length ≤ 10) (hv : ∀ v ∈ row, OkVal v) : Ev (fun k => rowcode_Encode.l0 k row (row.length : Int) 0 id name key next cols (List.replicate ((row.length + 7) / 8) 0)) (strOfNums (encS row), 0) := by
  have h := down (P := fun i => Ev (fun k => rowcode_Encode.l0 k row (row.length : Int) (i : Int) id name key next cols (mapM row i ((row.length + 7) / 8) ++ valsT row i)) (strOfNums (encS row), 0)) (n := row.length)
    (Ev.step (f := fun _ => some (strOfNums (encS row), 0)) (fun k => by simp only [rowcode_Encode.l0]; rw [if_neg (by omega)]; rfl) (Ev.now _))
    (fun i hi ih => by
      have hl := valsT_len row hv i (by omega)
      have hm := mapM_len row i ((row.length + 7) / 8)
      rw [mapM_step row i _ hi, valsT_step row i hi] at ih
      have hvi := hv _ (List.getElem_mem hi)
      generalize hre : row[i] = v at ih hvi
      have hrd : r_Value row (i : Int) = v := by rw [rd_val row i hi, hre]
      by_cases hn : v.f0 = 0
      · rw [if_pos hn, if_pos hn, List.append_nil] at ih
        refine Ev.step (fun k => ?_) ih
        have ha := and7 i (by omega)
        have hd := s3n i
        have hg : (mapM row i ((row.length + 7) / 8) ++ valsT row i).getD (i / 8) dft_u8 = mapN (ck row i (i / 8)) := by
          rw [List.getD_eq_getElem?_getD, List.getElem?_append_left (by omega), mapM_get _ _ _ _ (by omega), Option.getD_some]
        have hmr := mapN_range (ck row i (i / 8))
        rw [ck_at row i (by omega)] at hmr
        simp only [rowcode_Encode.l0]
        rw [hd, ha, hrd, if_pos (by omega), if_pos (by omega), if_pos (by omega), if_pos hn, if_neg (by omega), if_pos (by omega), if_pos (by rw [List.length_append, hm]; omega), if_pos (by omega), if_pos (by rw [List.length_append, hm]; omega), Int.toNat_natCast, hg, orbit _ _ (by omega) hmr.1 hmr.2, i64w_succ _ (by omega)]
        rw [List.set_append_left _ _ (by omega)]
      · rw [if_neg hn, if_neg hn, ← List.append_assoc] at ih
        refine Ev.step (f := fun k => (rowcode_put_1 k (mapM row i ((row.length + 7) / 8) ++ valsT row i) v.f0 v.f1 v.f2).bind fun t => rowcode_Encode.l0 k row (row.length : Int) ((i + 1 : Nat) : Int) id name key next cols t) (fun k => ?_) (Ev.bind (rput1_ev _ v hvi (by rw [List.length_append, hm]; omega)) ih)
        simp only [rowcode_Encode.l0]
        rw [hrd, if_pos (by omega), if_pos (by omega), if_pos (by omega), if_neg hn, i64w_succ _ (by omega)]) 0 (Nat.zero_le _)
  rw [mapM_zero] at h
  simpa [valsT] using h
/-- What the writing of a row answers. -/
def encE (id : Int) (name : ByteArray) (key next : Int) (cols : List S_Column) (row : List S_Value) : ByteArray × Int := if rowE id name key next cols row = 0 then (strOfNums (encS row), 0) else (⟨#[]⟩, rowE id name key next cols row)
theorem encode_ev (id : Int) (name : ByteArray) (key next : Int) (cols : List S_Column) (row : List S_Value) (hn : name.size ≤ 1000000000) (hok : ∀ c ∈ cols, OkCol c) (hr : row.length ≤ 1000000) (hv : ∀ v ∈ row, OkVal v) :
    Ev (fun k => rowcode_Encode k id name key next cols row) (encE id name key next cols row) := by
  unfold rowcode_Encode encE
  refine Ev.bind (row_ev id name key next cols row hn hok (by omega) hv) ?_
  by_cases h : rowE id name key next cols row = 0
  · rw [if_pos h]
    obtain ⟨ht, hl⟩ := rowE_zero h
    obtain ⟨h10, _, _⟩ := tabB_more ht
    have hz : ∀ k, rowcode_size k (row.length : Int) = some (((row.length + 7) / 8 : Nat) : Int) := fun k => by
      unfold rowcode_size
      rw [i64w _ (by omega) (by omega), show ((row.length : Int) + 7) = ((row.length + 7 : Nat) : Int) by omega, s3n]
    refine Ev.congr (fun k => by rw [if_pos h, hz, Option.bind_some, if_pos (by omega), if_pos (by rw [Int.toNat_natCast]; omega), Int.toNat_natCast]) ?_
    exact enc_l0 id name key next cols row (by omega) hv
  · rw [if_neg h]
    exact Ev.congr (f := fun _ => some ((⟨#[]⟩ : ByteArray), rowE id name key next cols row)) (fun k => by rw [if_neg h]) (Ev.now _)

theorem tabGo_types (next key : Int) : ∀ (l : List S_Column) (last : Int) (kf : Bool) (ns : List ByteArray), tabGo next key l last kf ns = true → ∀ c ∈ l, typB c.f2.f0 c.f2.f1 = true
  | [], _, _, _, _, c, hc => by simp at hc
  | c :: r, last, kf, ns, h, d, hd => by
    simp only [tabGo] at h
    split at h
    · rename_i e
      rcases List.mem_cons.1 hd with e2 | e2
      · subst e2
        have := e.1
        unfold colB at this
        rw [Bool.and_eq_true, Bool.and_eq_true, Bool.and_eq_true] at this
        exact this.2.2.1
      · exact tabGo_types next key r _ _ _ h d e2
    · cases h
theorem tabB_types {id : Int} {name : ByteArray} {key next : Int} {l : List S_Column} (h : tabB id name key next l = true) : ∀ c ∈ l, typB c.f2.f0 c.f2.f1 = true := by
  unfold tabB at h
  rw [Bool.and_eq_true, Bool.and_eq_true] at h
  exact tabGo_types _ _ _ _ _ _ h.2.2

def nilV : S_Value := ⟨0, 0, ⟨#[]⟩⟩
/-- A value of a type at a text's head: the value, how many bytes, 0 or the error's number. -/
def readS (kd mx : Int) (s : ByteArray) : S_Value × Int × Int :=
  if (longS s).2.2 = 0 then
    (if kd = 1 ∨ kd = 2 then (if fitB kd mx kd (zagS (longS s).1) ⟨#[]⟩ = true then (⟨kd, zagS (longS s).1, ⟨#[]⟩⟩, (longS s).2.1, 0) else (nilV, 0, 10))
     else if mx < (longS s).1 then (nilV, 0, 10)
     else if (s.size : Int) - (longS s).2.1 < (longS s).1 then (nilV, 0, 4)
     else if kd = 3 ∧ utfB (s.extract (longS s).2.1.toNat ((longS s).2.1 + (longS s).1).toNat) = false then (nilV, 0, 5)
     else (⟨kd, 0, s.extract (longS s).2.1.toNat ((longS s).2.1 + (longS s).1).toNat⟩, (longS s).2.1 + (longS s).1, 0))
  else (nilV, 0, (longS s).2.2)
theorem readS_size (kd mx : Int) (s : ByteArray) (h : (readS kd mx s).2.2 = 0) : 0 ≤ (readS kd mx s).2.1 ∧ (readS kd mx s).2.1 ≤ (s.size : Int) := by
  unfold readS at h ⊢
  by_cases h0 : (longS s).2.2 = 0
  · obtain ⟨a1, a2, a3, a4, a5⟩ := long_two s h0
    rw [if_pos h0] at h ⊢
    by_cases h1 : kd = 1 ∨ kd = 2
    · rw [if_pos h1] at h ⊢
      by_cases h2 : fitB kd mx kd (zagS (longS s).1) ⟨#[]⟩ = true
      · rw [if_pos h2]
        show 0 ≤ (longS s).2.1 ∧ (longS s).2.1 ≤ (s.size : Int)
        exact ⟨by omega, a4⟩
      · rw [if_neg h2] at h
        exact absurd h (by decide)
    · rw [if_neg h1] at h ⊢
      by_cases h2 : mx < (longS s).1
      · rw [if_pos h2] at h
        exact absurd h (by decide)
      · rw [if_neg h2] at h ⊢
        by_cases h3 : (s.size : Int) - (longS s).2.1 < (longS s).1
        · rw [if_pos h3] at h
          exact absurd h (by decide)
        · rw [if_neg h3] at h ⊢
          split at h
          · exact absurd h (by decide)
          · rename_i h4
            rw [if_neg h4]
            show 0 ≤ (longS s).2.1 + (longS s).1 ∧ (longS s).2.1 + (longS s).1 ≤ (s.size : Int)
            omega
  · rw [if_neg h0] at h
    exact absurd h h0
theorem typ_cases {kd mx : Int} (h : typB kd mx = true) : (kd = 1 ∨ kd = 2) ∨ (¬ (kd = 1 ∨ kd = 2) ∧ (kd = 3 ∨ kd = 4) ∧ 1 ≤ mx ∧ mx ≤ 120) := by
  unfold typB at h
  split at h
  · exact .inl (by assumption)
  · rename_i h1
    split at h
    · rename_i h2
      exact .inr ⟨h1, h2, of_decide_eq_true h⟩
    · cases h
theorem value_ev (kd mx : Int) (s : ByteArray) (ht : typB kd mx = true) (hs : s.size ≤ 1000000000) :
    ∃ rest : ByteArray, Ev (fun k => rowcode_reader_value k kd mx s) ((((readS kd mx s).1.f0, (readS kd mx s).1.f1, (readS kd mx s).1.f2), (readS kd mx s).2.2), rest) ∧ ((readS kd mx s).2.2 = 0 → rest = s.extract (readS kd mx s).2.1.toNat s.size) := by
  unfold readS
  by_cases h0 : (longS s).2.2 = 0
  · obtain ⟨a1, a2, a3, a4, a5⟩ := long_two s h0
    rw [if_pos h0]
    have hl := word_Long_ev s
    generalize hL : longS s = L at *
    obtain ⟨n, mn, e⟩ := L
    simp only at h0 a1 a2 a3 a4 a5 ⊢
    subst h0
    obtain ⟨m, rfl⟩ := Int.eq_ofNat_of_zero_le (show 0 ≤ mn by omega)
    obtain ⟨N, rfl⟩ := Int.eq_ofNat_of_zero_le a1
    have hcs := cut_size s m
    simp only [Int.toNat_natCast]
    by_cases h1 : kd = 1 ∨ kd = 2
    · rw [if_pos h1]
      refine ⟨s.extract m s.size, Ev.flat2 0 hl (fit_ev kd mx kd (zagS (N : Int)) ⟨#[]⟩ (by decide)) (fun j q1 q2 => ?_), ?_⟩
      · replace q1 := q1 0
        replace q2 := q2 0
        simp only [Nat.add_zero] at q1 q2 ⊢
        simp only [rowcode_reader_value, q1, Option.bind_some, word_Zag_eq _ (N : Int) (by omega) (by omega), q2, if_true]
        rw [if_pos (by omega), if_pos (by omega)]
        by_cases h2 : fitB kd mx kd (zagS (N : Int)) ⟨#[]⟩ = true
        · simp only [if_pos h2]
          by_cases h3 : kd = 1
          · rw [if_pos h3, Int.toNat_natCast, Int.toNat_natCast]
          · rw [if_neg h3, if_pos (by omega), Int.toNat_natCast, Int.toNat_natCast]
        · simp only [if_neg h2]
          by_cases h3 : kd = 1
          · rw [if_pos h3, Int.toNat_natCast, Int.toNat_natCast]
            rfl
          · rw [if_neg h3, if_pos (by omega), Int.toNat_natCast, Int.toNat_natCast]
            rfl
      · intro he
        by_cases h2 : fitB kd mx kd (zagS (N : Int)) ⟨#[]⟩ = true
        · rw [if_pos h2]
          simp
        · rw [if_neg h2] at he
          exact absurd he (by decide)
    · rw [if_neg h1]
      obtain ⟨hk, hm1, hm2⟩ : (kd = 3 ∨ kd = 4) ∧ 1 ≤ mx ∧ mx ≤ 120 := by
        rcases typ_cases ht with h | h
        · exact absurd h h1
        · exact h.2
      have hu : IntKind.u64.wrap mx = mx := u64_id mx (by omega) (by omega)
      have hu2 : IntKind.u64.wrap ((s.extract m s.size).size : Int) = ((s.size - m : Nat) : Int) := by rw [hcs]; exact u64_id _ (by omega) (by omega)
      by_cases h2 : mx < (N : Int)
      · rw [if_pos h2]
        refine ⟨s.extract m s.size, Ev.flat1 0 hl (fun j q1 => ?_), fun he => absurd he (by decide)⟩
        replace q1 := q1 0
        simp only [Nat.add_zero] at q1 ⊢
        simp only [rowcode_reader_value, q1, Option.bind_some, if_true, Int.toNat_natCast]
        rw [if_pos (by omega), if_pos (by omega), if_neg (by omega), if_neg (by omega), hu, if_pos (by omega)]
        rfl
      rw [if_neg h2]
      by_cases h3 : (s.size : Int) - (m : Int) < (N : Int)
      · rw [if_pos h3]
        refine ⟨s.extract m s.size, Ev.flat1 0 hl (fun j q1 => ?_), fun he => absurd he (by decide)⟩
        replace q1 := q1 0
        simp only [Nat.add_zero] at q1 ⊢
        simp only [rowcode_reader_value, q1, Option.bind_some, if_true, Int.toNat_natCast]
        rw [if_pos (by omega), if_pos (by omega), if_neg (by omega), if_neg (by omega), hu, if_neg (by omega), hu2, if_pos (by omega)]
        rfl
      rw [if_neg h3]
      have e2 : ((m : Int) + (N : Int)).toNat = m + N := by omega
      have e1 := cut_to s m N
      have e3 := cut_cut s m N
      rw [e2]
      have hx : (s.extract m (m + N)).size ≤ 1000000000 := by rw [← byt_len, byt_extract]; simp only [List.length_take, List.length_drop, byt_len]; omega
      have hU := uright_ev (s.extract m (m + N)) hx
      refine ⟨s.extract (m + N) s.size, Ev.flat2 0 hl hU (fun j q1 q2 => ?_), ?_⟩
      · replace q1 := q1 0
        replace q2 := q2 0
        simp only [Nat.add_zero] at q1 q2 ⊢
        have z0 : (0 : Int).toNat = 0 := rfl
        simp only [rowcode_reader_value, q1, Option.bind_some, if_true, Int.toNat_natCast, z0, e1, e3]
        rw [if_pos (by omega), if_pos (by omega), if_neg (by omega), if_neg (by omega), hu, if_neg (by omega), hu2, if_neg (by omega), if_pos (by omega), if_pos (by omega), if_pos (by omega), if_pos (by omega)]
        by_cases h4 : kd = 3
        · rw [if_pos h4, q2, Option.bind_some]
          cases h5 : utfB (s.extract m (m + N))
          · rw [if_neg (by simp), if_pos ⟨h4, rfl⟩]
            rfl
          · rw [if_pos rfl, if_neg (fun e => by cases e.2)]
        · rw [if_neg h4, if_neg (fun e => h4 e.1)]
      · intro he
        split
        · rename_i h4
          rw [if_pos h4] at he
          exact absurd he (by decide)
        · simp only [e2]
  · rw [if_neg h0]
    refine ⟨s, Ev.flat1 0 (word_Long_ev s) (fun j q1 => ?_), fun he => absurd he h0⟩
    replace q1 := q1 0
    simp only [Nat.add_zero] at q1 ⊢
    simp only [rowcode_reader_value, q1, Option.bind_some, if_neg h0]
    rfl
/-- A bit of a map. -/
def bitS (s : ByteArray) (i : Nat) : Int := bt s ((i / 8 : Nat) : Int) / 2 ^ (i % 8) % 2
set_option maxRecDepth 100000 in
theorem shr_bit (b : Int) (j : Nat) (hj : j < 8) (h0 : 0 ≤ b) (h1 : b ≤ 255) : Go.bits .and .u8 (shr .u8 b ((j : Nat) : Int)) 1 = b / 2 ^ j % 2 ∧ shr .u8 b ((j : Nat) : Int) = b / 2 ^ j := by
  have : ∀ j : Fin 8, ∀ b : Fin 256, Go.bits .and .u8 (shr .u8 (b.val : Int) ((j.val : Nat) : Int)) 1 = (b.val : Int) / 2 ^ j.val % 2 ∧ shr .u8 (b.val : Int) ((j.val : Nat) : Int) = (b.val : Int) / 2 ^ j.val := by decide +kernel
  obtain ⟨n, rfl⟩ := Int.eq_ofNat_of_zero_le h0
  exact this ⟨j, hj⟩ ⟨n, by omega⟩
/-- One more value in front; an error stands for all. -/
def consR (v : S_Value) (q : List S_Value × Int) : List S_Value × Int := if q.2 = 0 then (v :: q.1, 0) else ([], q.2)
/-- What was read in front. -/
def preR (l : List S_Value) (q : List S_Value × Int) : List S_Value × Int := if q.2 = 0 then (l ++ q.1, 0) else ([], q.2)
theorem preR_cons (l : List S_Value) (v : S_Value) (q : List S_Value × Int) : preR l (consR v q) = preR (l ++ [v]) q := by
  unfold preR consR
  by_cases h : q.2 = 0
  · rw [if_pos h, if_pos h, if_pos rfl]
    simp
  · rw [if_neg h, if_neg h, if_neg h]
theorem preR_err (l : List S_Value) (e : Int) (h : e ≠ 0) : preR l ([], e) = ([], e) := by
  unfold preR
  rw [if_neg h]
/-- The values from a column on. -/
def decGo (s : ByteArray) : List S_Column → Nat → ByteArray → List S_Value × Int
  | [], _, z => if z.size = 0 then ([], 0) else ([], 6)
  | c :: r, i, z =>
    if bitS s i = 1 then (if c.f3 = true then consR nilV (decGo s r (i + 1) z) else ([], 11))
    else if (readS c.f2.f0 c.f2.f1 z).2.2 = 0 then consR (readS c.f2.f0 c.f2.f1 z).1 (decGo s r (i + 1) (z.extract (readS c.f2.f0 c.f2.f1 z).2.1.toNat z.size))
    else ([], (readS c.f2.f0 c.f2.f1 z).2.2)
/-- Is a spare bit set? -/
def spB (s : ByteArray) (n : Nat) : Bool := decide (n % 8 ≠ 0 ∧ bt s ((n / 8 : Nat) : Int) / 2 ^ (n % 8) ≠ 0)
/-- What the reading of a row answers. (By a right table.) -/
def decR (cols : List S_Column) (s : ByteArray) : List S_Value × Int :=
  if s.size < (cols.length + 7) / 8 then ([], 4) else if spB s cols.length = true then ([], 5) else preR [] (decGo s cols 0 (s.extract ((cols.length + 7) / 8) s.size))
theorem dec_l0 (id : Int) (name : ByteArray) (key next : Int) (cols : List S_Column) (s : ByteArray) (hs : s.size ≤ 1000000) (h10 : cols.length ≤ 10) (hsz : (cols.length + 7) / 8 ≤ s.size) (ht : ∀ c ∈ cols, typB c.f2.f0 c.f2.f1 = true) (z : ByteArray) (hz : z.size ≤ s.size) :
    Ev (fun k => rowcode_Decode.l0 k s cols (cols.length : Int) 0 id name key next cols z (List.replicate cols.length nilV)) (preR [] (decGo s cols 0 z)) := by
  have h := down (P := fun i => ∀ (l : List S_Value) (z : ByteArray), l.length = i → z.size ≤ s.size → Ev (fun k => rowcode_Decode.l0 k s cols (cols.length : Int) (i : Int) id name key next cols z (l ++ List.replicate (cols.length - i) nilV)) (preR l (decGo s (cols.drop i) i z))) (n := cols.length)
    (fun l z _ _ => by
      rw [List.drop_length, Nat.sub_self, List.replicate_zero, List.append_nil]
      simp only [decGo]
      refine Ev.step (f := fun _ => some (preR l (if z.size = 0 then ([], 0) else ([], 6)))) (fun k => ?_) (Ev.now _)
      simp only [rowcode_Decode.l0]
      rw [if_neg (by omega)]
      unfold rowcode_reader_left preR
      by_cases h : z.size = 0
      · rw [if_pos ((ba_nil0 z).2 h), if_pos h, Option.bind_some, if_pos rfl, if_pos rfl, List.append_nil]
      · rw [if_neg (fun e => h ((ba_nil0 z).1 e)), if_neg h]
        rfl)
    (fun i hi ih l z hl hz => by
      rw [List.drop_eq_getElem_cons hi]
      have hti := ht _ (List.getElem_mem hi)
      generalize hce : cols[i] = c at hti
      have hrd : r_Column cols (i : Int) = c := by rw [rd_col cols i hi, hce]
      have hb := btr s ((i / 8 : Nat) : Int)
      have ha := and7 i (by omega)
      have hd := s3n i
      have hbit := (shr_bit (bt s ((i / 8 : Nat) : Int)) (i % 8) (by omega) hb.1 hb.2).1
      have hrep : l ++ List.replicate (cols.length - i) nilV = (l ++ [nilV]) ++ List.replicate (cols.length - (i + 1)) nilV := by
        rw [show cols.length - i = (cols.length - (i + 1)) + 1 by omega, List.replicate_succ, List.append_assoc]
        rfl
      have hset : ∀ v : S_Value, (l ++ List.replicate (cols.length - i) nilV).set i v = (l ++ [v]) ++ List.replicate (cols.length - (i + 1)) nilV := fun v => by
        rw [show cols.length - i = (cols.length - (i + 1)) + 1 by omega, List.replicate_succ, List.set_append_right _ _ (by omega), hl, Nat.sub_self, List.append_assoc]
        rfl
      simp only [decGo]
      by_cases h1 : bitS s i = 1
      · have h1' : bt s ((i / 8 : Nat) : Int) / 2 ^ (i % 8) % 2 = 1 := h1
        rw [if_pos h1]
        by_cases h2 : c.f3 = true
        · rw [if_pos h2, preR_cons]
          refine Ev.step (fun k => ?_) (ih (l ++ [nilV]) z (by simp; omega) hz)
          simp only [rowcode_Decode.l0]
          rw [hd, ha, hbit, hrd, if_pos (by omega), if_pos (by omega), if_pos (by omega), if_pos (by omega), if_pos (by omega), if_neg (by omega), if_pos h1', if_pos h2, i64w_succ _ (by omega), hrep]
        · rw [if_neg h2, preR_err _ _ (by decide)]
          refine Ev.step (f := fun _ => some ([], 11)) (fun k => ?_) (Ev.now _)
          simp only [rowcode_Decode.l0]
          rw [hd, ha, hbit, hrd, if_pos (by omega), if_pos (by omega), if_pos (by omega), if_pos (by omega), if_pos (by omega), if_neg (by omega), if_pos h1', if_neg h2]
      · have h1' : ¬ bt s ((i / 8 : Nat) : Int) / 2 ^ (i % 8) % 2 = 1 := h1
        rw [if_neg h1]
        obtain ⟨rest, hv, hrest⟩ := value_ev c.f2.f0 c.f2.f1 z hti (by omega)
        refine Ev.step (f := fun k => (rowcode_reader_value k c.f2.f0 c.f2.f1 z).bind fun b => if b.1.2 = 0 then rowcode_Decode.l0 k s cols (cols.length : Int) ((i + 1 : Nat) : Int) id name key next cols b.2 ((l ++ [(⟨b.1.1.1, b.1.1.2.1, b.1.1.2.2⟩ : S_Value)]) ++ List.replicate (cols.length - (i + 1)) nilV) else some ([], b.1.2)) (fun k => ?_) (Ev.bind hv ?_)
        · simp only [rowcode_Decode.l0]
          rw [hd, ha, hbit, hrd, if_pos (by omega), if_pos (by omega), if_pos (by omega), if_pos (by omega), if_pos (by omega), if_neg (by omega), if_neg h1', i64w_succ _ (by omega)]
          refine congrArg _ (funext fun b => ?_)
          by_cases hb0 : b.1.2 = 0
          · rw [if_pos hb0, if_pos hb0, if_pos (by omega), if_pos (by rw [List.length_append, List.length_replicate]; omega), Int.toNat_natCast, hset]
          · rw [if_neg hb0, if_neg hb0]
        · by_cases h3 : (readS c.f2.f0 c.f2.f1 z).2.2 = 0
          · rw [if_pos h3, preR_cons]
            have hr := hrest h3
            have hsz := readS_size c.f2.f0 c.f2.f1 z h3
            refine Ev.congr (fun k => ?_) (ih (l ++ [(readS c.f2.f0 c.f2.f1 z).1]) (z.extract (readS c.f2.f0 c.f2.f1 z).2.1.toNat z.size) (by simp; omega) (by rw [cut_size]; omega))
            rw [if_pos h3, hr]
          · rw [if_neg h3, preR_err _ _ h3]
            exact Ev.congr (f := fun _ => some ([], (readS c.f2.f0 c.f2.f1 z).2.2)) (fun k => by rw [if_neg h3]) (Ev.now _)) 0 (Nat.zero_le _)
  have h2 := h [] z rfl hz
  rw [List.nil_append, Nat.sub_zero, List.drop_zero] at h2
  exact h2
theorem decode_ev (id : Int) (name : ByteArray) (key next : Int) (cols : List S_Column) (s : ByteArray) (hn : name.size ≤ 1000000000) (hok : ∀ c ∈ cols, OkCol c) (hs : s.size ≤ 1000000) :
    Ev (fun k => rowcode_Decode k id name key next cols s) (if tabB id name key next cols = true then decR cols s else ([], 2)) := by
  unfold rowcode_Decode
  refine Ev.bind (table_ev id name key next cols hn hok) ?_
  by_cases ht : tabB id name key next cols = true
  · rw [if_pos ht]
    obtain ⟨h10, _, _⟩ := tabB_more ht
    have hty := tabB_types ht
    have hz : ∀ k, rowcode_size k (cols.length : Int) = some (((cols.length + 7) / 8 : Nat) : Int) := fun k => by
      unfold rowcode_size
      rw [i64w _ (by omega) (by omega), show ((cols.length : Int) + 7) = ((cols.length + 7 : Nat) : Int) by omega, s3n]
    have ha := and7 cols.length (by omega)
    have hnil : (⟨0, 0, (⟨#[]⟩ : ByteArray)⟩ : S_Value) = nilV := rfl
    have hgo : (cols.length + 7) / 8 ≤ s.size → Ev (fun k => if 0 ≤ (((cols.length + 7) / 8 : Nat) : Int) then (if (((cols.length + 7) / 8 : Nat) : Int) ≤ (s.size : Int) then (if 0 ≤ (cols.length : Int) then (if (cols.length : Int).toNat < 4398046511104 then rowcode_Decode.l0 k s cols (cols.length : Int) 0 id name key next cols (s.extract ((((cols.length + 7) / 8 : Nat) : Int) : Int).toNat ((s.size : Int) : Int).toNat) (List.replicate ((cols.length : Int)).toNat (⟨0, 0, (⟨#[]⟩ : ByteArray)⟩ : S_Value)) else none) else none) else none) else none) (preR [] (decGo s cols 0 (s.extract ((cols.length + 7) / 8) s.size))) := fun h => by
      refine Ev.congr (fun k => ?_) (dec_l0 id name key next cols s hs h10 h hty (s.extract ((cols.length + 7) / 8) s.size) (by rw [cut_size]; omega))
      rw [if_pos (by omega), if_pos (by omega), if_pos (by omega), if_pos (by omega), Int.toNat_natCast, Int.toNat_natCast, Int.toNat_natCast, hnil]
    refine Ev.congr (fun k => by rw [if_pos ht, hz, Option.bind_some, ha]) ?_
    unfold decR
    by_cases h1 : s.size < (cols.length + 7) / 8
    · rw [if_pos h1]
      exact Ev.congr (f := fun _ => some ([], 4)) (fun k => by rw [if_pos (by omega)]) (Ev.now _)
    rw [if_neg h1]
    by_cases h2 : cols.length % 8 = 0
    · rw [if_neg (show ¬ spB s cols.length = true by unfold spB; rw [decide_eq_true_iff]; exact fun e => e.1 h2)]
      exact Ev.congr (fun k => by rw [if_neg (by omega), if_pos (by omega)]) (hgo (by omega))
    · have hb := btr s ((cols.length / 8 : Nat) : Int)
      have hsh := (shr_bit (bt s ((cols.length / 8 : Nat) : Int)) (cols.length % 8) (by omega) hb.1 hb.2).2
      have hw : IntKind.i64.wrap ((((cols.length + 7) / 8 : Nat) : Int) - 1) = ((cols.length / 8 : Nat) : Int) := by rw [i64w _ (by omega) (by omega)]; omega
      refine Ev.congr (fun k => by rw [hw, hsh, if_neg (by omega), if_neg (by omega), if_pos (by omega), if_pos (by omega), if_neg (by omega)]) ?_
      by_cases h3 : bt s ((cols.length / 8 : Nat) : Int) / 2 ^ (cols.length % 8) = 0
      · rw [if_neg (show ¬ spB s cols.length = true by unfold spB; rw [decide_eq_true_iff]; exact fun e => e.2 h3)]
        exact Ev.congr (fun k => by rw [if_pos h3]) (hgo (by omega))
      · rw [if_pos (show spB s cols.length = true by unfold spB; rw [decide_eq_true_iff]; exact ⟨h2, h3⟩)]
        exact Ev.congr (f := fun _ => some ([], 5)) (fun k => by rw [if_neg h3]) (Ev.now _)
  · rw [if_neg ht]
    exact Ev.congr (f := fun _ => some ([], 2)) (fun k => by rw [if_neg ht]) (Ev.now _)

theorem placekey_ev (a0 : Int) (a1 : ByteArray) (a2 a3 : Int) (m l : List S_Column) (hb : l.length ≤ 9223372036854775807) : Ev (fun k => schema_place_api_Column k l a0 a1 a2 a3 m) (scan (fun c => decide (c.f0 = a2)) l 0, (a0, a1, a2, a3, m)) := by
  have h := down (P := fun i => Ev (fun k => schema_place_api_Column.l0 k l (l.length : Int) (i : Int) a0 a1 a2 a3 m) (scan (fun c => decide (c.f0 = a2)) (l.drop i) i, (a0, a1, a2, a3, m))) (n := l.length)
    (by rw [List.drop_length]; exact Ev.step (f := fun _ => some ((0, false), (a0, a1, a2, a3, m))) (fun k => by simp only [schema_place_api_Column.l0]; rw [if_neg (by omega)]) (Ev.now _))
    (fun i hi ih => by
      rw [List.drop_eq_getElem_cons hi]
      refine Ev.step (f := fun k => if (decide (l[i].f0 = a2)) = true then some (((i : Int), true), (a0, a1, a2, a3, m)) else schema_place_api_Column.l0 k l (l.length : Int) ((i + 1 : Nat) : Int) a0 a1 a2 a3 m) (fun k => ?_) ?_
      · simp only [schema_place_api_Column.l0]
        rw [if_pos (by omega), if_pos (by omega), if_pos (by omega), rd_col l i hi, i64w_succ _ (by omega)]
        simp [schema_Key_1]
      · simp only [scan]
        split
        · exact Ev.now _
        · exact ih) 0 (Nat.zero_le _)
  exact h
theorem key_ev (a0 : Int) (a1 : ByteArray) (a2 a3 : Int) (l : List S_Column) (hb : l.length ≤ 9223372036854775807) : Ev (fun k => schema_Key k a0 a1 a2 a3 l) (scan (fun c => decide (c.f0 = a2)) l 0) :=
  Ev.bind (placekey_ev a0 a1 a2 a3 l l hb) (Ev.now _)

theorem nil_dec (s : ByteArray) : (s.toList == ([] : List UInt8)) = decide (s.size = 0) := by
  rw [Bool.eq_iff_iff, beq_iff_eq, ba_nil, decide_eq_true_iff]
theorem oneV_small (v : S_Value) (h : OkVal v) (hs : v.f2.size ≤ 300) : (oneV v).length ≤ 1000 := by
  have hz := wf64 h.2
  unfold oneV
  split
  · have := zigS_range v.f1 hz.1 hz.2
    have := sb_len10 (n := (zigS v.f1).toNat) (by omega)
    omega
  · have := sb_len10 (n := v.f2.size) (by omega)
    rw [List.length_append, byt_len]
    omega
theorem key_at {id : Int} {name : ByteArray} {key next : Int} {l : List S_Column} (h : tabB id name key next l = true) :
    ∃ (i : Nat) (hi : i < l.length), scan (fun c : S_Column => decide (c.f0 = key)) l 0 = ((i : Int), true) ∧ scanR (fun c : S_Column => decide (c.f0 = key)) l 0 = (i : Int) := by
  obtain ⟨h10, _, c, hc, hk⟩ := tabB_more h
  rcases scan_or (fun c : S_Column => decide (c.f0 = key)) l 0 with ⟨h1, h2, h3⟩ | ⟨_, h2⟩
  · obtain ⟨i, e⟩ := Int.eq_ofNat_of_zero_le (show 0 ≤ scanR (fun c : S_Column => decide (c.f0 = key)) l 0 by omega)
    rw [e] at h1 h3
    exact ⟨i, by omega, h1, e⟩
  · have := (scanR_iff (fun c : S_Column => decide (c.f0 = key)) l 0).1 h2 c hc
    rw [decide_eq_false_iff_not] at this
    exact absurd hk this
/-- The key of a text, by its column's type: the value, 0 or the error's number. -/
def readK (kd mx : Int) (s : ByteArray) : S_Value × Int :=
  if (readS kd mx s).2.2 = 0 then (if (readS kd mx s).2.1 < (s.size : Int) then (nilV, 6) else ((readS kd mx s).1, 0)) else (nilV, (readS kd mx s).2.2)
theorem key_type_ev {id : Int} {name : ByteArray} {key next : Int} {l : List S_Column} (hn : name.size ≤ 1000000000) (hok : ∀ c ∈ l, OkCol c) (hl : l.length ≤ 1000000000) (h : tabB id name key next l = true) (i : Nat) (hi : i < l.length) (he : scan (fun c : S_Column => decide (c.f0 = key)) l 0 = ((i : Int), true)) :
    Ev (fun k => rowcode_key k id name key next l) ((l[i].f2.f0, l[i].f2.f1), 0) := by
  unfold rowcode_key
  refine Ev.bind (table_ev id name key next l hn hok) (Ev.congr (fun k => by rw [if_pos h]) (Ev.bind (key_ev id name key next l (by omega)) ?_))
  rw [he]
  exact Ev.congr (f := fun _ => some ((l[i].f2.f0, l[i].f2.f1), 0)) (fun k => by rw [if_pos (by omega), if_pos (by simp only; omega), rd_col l i hi]) (Ev.now _)
theorem readkey_ev {id : Int} {name : ByteArray} {key next : Int} {l : List S_Column} {kd mx : Int} (hk : Ev (fun k => rowcode_key k id name key next l) ((kd, mx), 0)) (ht : typB kd mx = true) (s : ByteArray) (hs : s.size ≤ 1000000000) :
    Ev (fun k => rowcode_ReadKey k id name key next l s) (((readK kd mx s).1.f0, (readK kd mx s).1.f1, (readK kd mx s).1.f2), (readK kd mx s).2) := by
  obtain ⟨rest, hv, hr⟩ := value_ev kd mx s ht hs
  unfold rowcode_ReadKey readK
  refine Ev.bind hk (Ev.congr (fun k => by rw [if_pos rfl]) (Ev.bind hv ?_))
  by_cases he : (readS kd mx s).2.2 = 0
  · have hsz := readS_size kd mx s he
    have hre := hr he
    simp only [if_pos he]
    by_cases hl : (readS kd mx s).2.1 < (s.size : Int)
    · simp only [if_pos hl]
      have hne : ¬ rest.toList = (⟨#[]⟩ : ByteArray).toList := fun e => by
        rw [ba_nil0, hre, cut_size] at e
        omega
      have hL : ∀ k, rowcode_reader_left k rest = some (6, rest) := fun k => by unfold rowcode_reader_left; rw [if_neg hne]
      exact Ev.congr (f := fun _ => some ((0, 0, (⟨#[]⟩ : ByteArray)), 6)) (fun k => by simp only [he, if_true, hL, Option.bind_some]; rfl) (Ev.now _)
    · simp only [if_neg hl]
      have hne : rest.toList = (⟨#[]⟩ : ByteArray).toList := by
        rw [ba_nil0, hre, cut_size]
        omega
      have hL : ∀ k, rowcode_reader_left k rest = some (0, rest) := fun k => by unfold rowcode_reader_left; rw [if_pos hne]
      exact Ev.congr (f := fun _ => some (((readS kd mx s).1.f0, (readS kd mx s).1.f1, (readS kd mx s).1.f2), 0)) (fun k => by simp only [he, if_true, hL, Option.bind_some]) (Ev.now _)
  · simp only [if_neg he]
    exact Ev.congr (f := fun _ => some ((0, 0, (⟨#[]⟩ : ByteArray)), (readS kd mx s).2.2)) (fun k => by simp only [if_neg he]) (Ev.now _)
theorem rowkey_ev {id : Int} {name : ByteArray} {key next : Int} {l : List S_Column} {kd mx : Int} (hk : Ev (fun k => rowcode_key k id name key next l) ((kd, mx), 0)) (v : S_Value) (hv : OkVal v) :
    Ev (fun k => rowcode_Key k id name key next l v.f0 v.f1 v.f2) (if fitB kd mx v.f0 v.f1 v.f2 = true then (strOfNums (oneV v), 0) else (⟨#[]⟩, 10)) := by
  unfold rowcode_Key
  refine Ev.bind hk (Ev.congr (fun k => by rw [if_pos rfl]) (Ev.bind (fit_ev kd mx v.f0 v.f1 v.f2 hv.1) ?_))
  by_cases h : fitB kd mx v.f0 v.f1 v.f2 = true
  · rw [if_pos h]
    exact Ev.congr (fun k => by rw [if_pos h]) (Ev.bind (rput_ev [] v hv (by simp)) (Ev.now _))
  · rw [if_neg h]
    exact Ev.congr (f := fun _ => some (⟨#[]⟩, 10)) (fun k => by rw [if_neg h]) (Ev.now _)

/-- The number of low seven bits. -/
def valL : List Int → Int
  | [] => 0
  | x :: xs => x % 128 + 128 * valL xs

theorem valL_snoc (l : List Int) (x : Int) : valL (l ++ [x]) = valL l + x % 128 * 128 ^ l.length := by
  induction l with
  | nil => simp [valL]
  | cons y l ih =>
    simp only [List.cons_append, valL, ih, List.length_cons, Int.pow_succ]
    rw [Int.mul_add, ← Int.mul_assoc, Int.mul_comm 128 (x % 128), Int.mul_assoc, Int.mul_comm 128 (128 ^ l.length)]
    omega

theorem val_valL (s : ByteArray) (i : Nat) (h : i ≤ s.size) : val s i = valL ((byt s).take i) := by
  induction i with
  | zero => simp [val, valL]
  | succ i ih =>
    have hl : i < (byt s).length := by rw [byt_len]; omega
    rw [List.take_succ_eq_append_getElem hl, valL_snoc, ← ih (by omega), List.length_take, Nat.min_eq_left (by omega)]
    simp only [val]
    rw [bt_byt s i (by omega)]

/-- A list of bytes is short bytes. -/
def IsSb : List Int → Prop
  | [] => False
  | [x] => 0 ≤ x ∧ x < 128
  | x :: y :: l => 128 ≤ x ∧ x ≤ 255 ∧ IsSb (y :: l) ∧ (y :: l) ≠ [0]

theorem valL_pos : ∀ l : List Int, IsSb l → 0 ≤ valL l ∧ (l ≠ [0] → 1 ≤ valL l)
  | [], h => h.elim
  | [x], h => by
    simp only [IsSb] at h
    simp only [valL]
    refine ⟨by omega, fun hn => ?_⟩
    have : x ≠ 0 := fun e => hn (by rw [e])
    omega
  | x :: y :: l, h => by
    have := valL_pos (y :: l) h.2.2.1
    have h2 := this.2 h.2.2.2
    rw [valL]
    refine ⟨by omega, fun _ => by omega⟩

theorem sb_valL : ∀ l : List Int, IsSb l → sb (valL l).toNat = l
  | [], h => h.elim
  | [x], h => by
    simp only [IsSb] at h
    simp only [valL]
    rw [sb_small (by omega), show (((x % 128 + 128 * 0).toNat : Nat) : Int) = x by omega]
  | x :: y :: l, h => by
    have h1 := (valL_pos (y :: l) h.2.2.1).2 h.2.2.2
    have ih := sb_valL (y :: l) h.2.2.1
    have hx := h.1
    have hx2 := h.2.1
    rw [valL]
    rw [sb_big (by omega), show (((x % 128 + 128 * valL (y :: l)).toNat % 128 + 128 : Nat) : Int) = x by omega, show (x % 128 + 128 * valL (y :: l)).toNat / 128 = (valL (y :: l)).toNat by omega, ih]

theorem sb_is (n : Nat) : IsSb (sb n) ∧ valL (sb n) = n ∧ (0 < n → sb n ≠ [0]) := by
  induction n using Nat.strongRecOn with
  | _ n ih =>
    by_cases h : n < 128
    · rw [sb_small h]
      refine ⟨⟨by omega, by omega⟩, by simp only [valL]; omega, fun h0 e => ?_⟩
      simp at e
      omega
    · obtain ⟨h1, h2, h3⟩ := ih (n / 128) (by omega)
      rw [sb_big h]
      have hp := sb_pos (n / 128)
      cases e : sb (n / 128) with
      | nil => rw [e] at hp; simp at hp
      | cons y l =>
        rw [e] at h1 h2 h3
        refine ⟨⟨by omega, by omega, h1, h3 (by omega)⟩, ?_, fun _ => by simp⟩
        rw [valL, h2]
        omega

theorem isSb_at : ∀ (l : List Int) (hl : IsSb l) (m : Nat) (hm : l.length = m + 1), (∀ (j : Nat) (hj : j < m), 128 ≤ l[j]'(by omega)) ∧ l[m]'(by omega) < 128 ∧ (0 < m → l[m]'(by omega) ≠ 0)
  | [], h, _, _ => h.elim
  | [x], h, m, hm => by
    simp at hm
    subst hm
    exact ⟨fun j hj => by omega, h.2, fun h => by omega⟩
  | x :: y :: l, h, m, hm => by
    obtain ⟨k, rfl⟩ : ∃ k, m = k + 1 := ⟨l.length, by simpa using hm.symm⟩
    have ih := isSb_at (y :: l) h.2.2.1 k (by simpa using hm)
    refine ⟨fun j hj => ?_, by simpa using ih.2.1, fun _ => ?_⟩
    · cases j with
      | zero => exact h.1
      | succ j => simpa using ih.1 j (by omega)
    · by_cases hk : 0 < k
      · simpa using ih.2.2 hk
      · have : k = 0 := by omega
        subst this
        simp at hm
        subst hm
        intro e
        simp at e
        exact h.2.2.2 (by rw [e])

theorem isSb_of : ∀ (l : List Int), Bytes l → ∀ (m : Nat) (hm : l.length = m + 1), (∀ (j : Nat) (hj : j < m), 128 ≤ l[j]'(by omega)) → l[m]'(by omega) < 128 → (0 < m → l[m]'(by omega) ≠ 0) → IsSb l
  | [], _, _, hm, _, _, _ => by simp at hm
  | [x], hb, m, hm, h1, h2, h3 => by
    simp at hm
    subst hm
    exact ⟨(hb x (by simp)).1, h2⟩
  | x :: y :: l, hb, m, hm, h1, h2, h3 => by
    obtain ⟨k, rfl⟩ : ∃ k, m = k + 1 := ⟨l.length, by simpa using hm.symm⟩
    refine ⟨h1 0 (by omega), (hb x (by simp)).2, isSb_of (y :: l) (fun z hz => hb z (by simp [hz])) k (by simpa using hm) (fun j hj => by simpa using h1 (j + 1) (by omega)) (by simpa using h2) (fun _ => by simpa using h3 (by omega)), fun e => ?_⟩
    have : y = 0 ∧ l = [] := by simpa using e
    obtain ⟨rfl, rfl⟩ := this
    have : k = 0 := by simpa using hm.symm
    subst this
    exact absurd (by simp) (h3 (by omega))

theorem ends_of (s : ByteArray) (m : Nat) (h1 : m < 10) (h2 : m < s.size) (h3 : ∀ j : Nat, j < m → 128 ≤ bt s (j : Int)) (h4 : bt s (m : Int) < 128) (h5 : 0 < m → bt s (m : Int) ≠ 0) (h6 : m = 9 → bt s (m : Int) ≤ 1) (d : Nat) : ∀ i, i + d = m → ends s i = (((m + 1 : Nat) : Int), 0) := by
  induction d with
  | zero =>
    intro i hi
    have e : i = m := by omega
    subst e
    rw [ends_last ⟨h2, h1⟩ h4, if_neg]
    rintro (⟨h, h'⟩ | ⟨h, h'⟩)
    · exact h5 h h'
    · have := h6 h; omega
  | succ d ih =>
    intro i hi
    have := h3 i (by omega)
    rw [ends_more ⟨by omega, by omega⟩ (by omega)]
    exact ih (i + 1) (by omega)

/-- What short bytes with something behind them tell. -/
theorem longS_sb (n : Nat) (hn : n < 18446744073709551616) (z : ByteArray) : longS (strOfNums (sb n) ++ z) = ((n : Int), ((sb n).length : Int), 0) := by
  obtain ⟨h1, h2, _⟩ := sb_is n
  have hp := sb_pos n
  obtain ⟨m, hm⟩ : ∃ m, (sb n).length = m + 1 := ⟨(sb n).length - 1, by omega⟩
  have h10 := sb_len10 hn
  obtain ⟨a1, a2, a3⟩ := isSb_at _ h1 m hm
  have hby : byt (strOfNums (sb n) ++ z) = sb n ++ byt z := by rw [byt_append, byt_str (sb_bytes n)]
  have hsz : (strOfNums (sb n) ++ z).size = m + 1 + z.size := by rw [← byt_len, hby, List.length_append, hm, byt_len]
  have hbt : ∀ j (hj : j < m + 1), bt (strOfNums (sb n) ++ z) (j : Int) = (sb n)[j]'(by omega) := by
    intro j hj
    rw [bt_byt _ j (by omega)]
    simp only [hby]
    rw [List.getElem_append_left (by omega)]
  have hv : val (strOfNums (sb n) ++ z) (m + 1) = n := by
    rw [val_valL _ _ (by omega), hby, List.take_append_of_le_length (by omega), List.take_of_length_le (by omega), h2]
  have h6 : m = 9 → bt (strOfNums (sb n) ++ z) (m : Int) ≤ 1 := by
    rintro rfl
    have hr := (val_range (strOfNums (sb n) ++ z) 9).1
    simp only [val] at hv
    have e : (128 : Int) ^ 9 = 9223372036854775808 := by decide
    simp only [val, e] at hv hr
    have hb := btr (strOfNums (sb n) ++ z) ((9 : Nat) : Int)
    have h4 := hbt 9 (by omega)
    rw [h4] at hb hv ⊢
    omega
  have he := ends_of (strOfNums (sb n) ++ z) m (by omega) (by omega) (fun j hj => by rw [hbt j (by omega)]; exact a1 j hj) (by rw [hbt m (by omega)]; exact a2) (fun h => by rw [hbt m (by omega)]; exact a3 h) h6 m 0 (by omega)
  unfold longS
  rw [he]
  simp only [if_true]
  rw [show (((m + 1 : Nat) : Int)).toNat = m + 1 by omega, hv, hm]

/-- What is read has just the bytes that it was read of. -/
theorem longS_back (s : ByteArray) (m : Nat) (h : longS s = (val s (m + 1), ((m + 1 : Nat) : Int), 0)) (hm : m < s.size) (hc : bt s (m : Int) < 128) (h0 : 0 < m → bt s (m : Int) ≠ 0) (hj : ∀ j : Nat, j < m → 128 ≤ bt s (j : Int)) : sb (val s (m + 1)).toNat = (byt s).take (m + 1) := by
  have hl : ((byt s).take (m + 1)).length = m + 1 := by rw [List.length_take, byt_len]; omega
  have hg : ∀ j (h : j < m + 1), ((byt s).take (m + 1))[j]'(by omega) = bt s (j : Int) := by
    intro j h
    rw [bt_byt s j (by omega), List.getElem_take]
  have := isSb_of ((byt s).take (m + 1)) ((byt_bytes s).take _) m hl (fun j h => by rw [hg j (by omega)]; exact hj j h) (by rw [hg m (by omega)]; exact hc) (fun h => by rw [hg m (by omega)]; exact h0 h)
  rw [val_valL s (m + 1) (by omega)]
  exact sb_valL _ this

abbrev St := ByteArray × Int

def fl (e : Int) (q : St) : St := if q.2 = 0 then (nilB, e) else q
def rest (s : ByteArray) (n : Nat) : ByteArray := s.extract n s.size
def oneP (lo hi : Int) (q : St) : Int × St :=
  if q.2 = 0 then (if q.1.size = 0 then (0, (nilB, 4)) else if bt q.1 0 < lo ∨ hi < bt q.1 0 then (0, (nilB, 5)) else (bt q.1 0, (rest q.1 1, 0))) else (0, q)
def rawP (q : St) : Int × St :=
  if q.2 = 0 then (if (longS q.1).2.2 = 0 then ((longS q.1).1, (rest q.1 (longS q.1).2.1.toNat, 0)) else (0, (nilB, (longS q.1).2.2))) else (0, q)
def numP (most : Int) (q : St) : Int × St := if most < (rawP q).1 then (0, fl 5 (rawP q).2) else rawP q
def textP (most : Int) (q : St) : ByteArray × St :=
  if (numP most q).2.2 = 0 then (if ((numP most q).2.1.size : Int) < (numP most q).1 then (nilB, (nilB, 4)) else ((numP most q).2.1.extract 0 (numP most q).1.toNat, (rest (numP most q).2.1 (numP most q).1.toNat, 0))) else (nilB, (numP most q).2)
def chk (b : Bool) (q : St) : St := if b = true then q else fl 5 q
def valP (q : St) : S_Value × St :=
  if (oneP 0 4 q).1 = 1 ∨ (oneP 0 4 q).1 = 2 then (⟨(oneP 0 4 q).1, zagS (rawP (oneP 0 4 q).2).1, nilB⟩, chk (decide ((oneP 0 4 q).1 = 2) || fits32 (zagS (rawP (oneP 0 4 q).2).1)) (rawP (oneP 0 4 q).2).2)
  else if (oneP 0 4 q).1 = 3 ∨ (oneP 0 4 q).1 = 4 then (⟨(oneP 0 4 q).1, 0, (textP 120 (oneP 0 4 q).2).1⟩, chk (decide ((oneP 0 4 q).1 = 4) || utfB (textP 120 (oneP 0 4 q).2).1) (textP 120 (oneP 0 4 q).2).2)
  else (⟨(oneP 0 4 q).1, 0, nilB⟩, (oneP 0 4 q).2)
def kindP (q : St) : S_Type × St := (⟨(oneP 1 4 q).1, (numP 120 (oneP 1 4 q).2).1⟩, (numP 120 (oneP 1 4 q).2).2)
theorem fl_bad {e : Int} {q : St} (h : q.2 ≠ 0) : fl e q = q := if_neg h
theorem fl_ne {e : Int} {q : St} (he : e ≠ 0) : (fl e q).2 ≠ 0 := by
  unfold fl
  split
  · exact he
  · assumption
theorem oneP_bad {lo hi : Int} {q : St} (h : q.2 ≠ 0) : oneP lo hi q = (0, q) := if_neg h
theorem rawP_bad {q : St} (h : q.2 ≠ 0) : rawP q = (0, q) := if_neg h
theorem numP_bad {m : Int} {q : St} (hm : 0 ≤ m) (h : q.2 ≠ 0) : numP m q = (0, q) := by
  unfold numP
  rw [rawP_bad h, if_neg (show ¬ m < (0 : Int) by omega)]
theorem textP_bad {m : Int} {q : St} (hm : 0 ≤ m) (h : q.2 ≠ 0) : textP m q = (nilB, q) := by
  unfold textP
  rw [numP_bad hm h, if_neg h]
theorem chk_ok {b : Bool} {q : St} (h : (chk b q).2 = 0) : b = true ∧ q.2 = 0 ∧ chk b q = q := by
  unfold chk at h ⊢
  cases b
  · rw [if_neg (by simp)] at h
    exact absurd h (fl_ne (by decide))
  · rw [if_pos rfl] at h ⊢
    exact ⟨rfl, h, rfl⟩
theorem valP_bad {q : St} (h : q.2 ≠ 0) : valP q = (⟨0, 0, nilB⟩, q) := by
  unfold valP
  rw [oneP_bad h, if_neg (by simp), if_neg (by simp)]
theorem kindP_bad {q : St} (h : q.2 ≠ 0) : kindP q = (⟨0, 0⟩, q) := by
  unfold kindP
  rw [oneP_bad h, numP_bad (by decide) h]
theorem oneP_ok {lo hi : Int} {q : St} (h : (oneP lo hi q).2.2 = 0) : q.2 = 0 ∧ 0 < q.1.size ∧ lo ≤ bt q.1 0 ∧ bt q.1 0 ≤ hi ∧ oneP lo hi q = (bt q.1 0, (rest q.1 1, 0)) := by
  by_cases hq : q.2 = 0
  · unfold oneP at h ⊢
    rw [if_pos hq] at h ⊢
    by_cases h1 : q.1.size = 0
    · rw [if_pos h1] at h
      exact absurd h (by decide)
    · rw [if_neg h1] at h ⊢
      by_cases h2 : bt q.1 0 < lo ∨ hi < bt q.1 0
      · rw [if_pos h2] at h
        exact absurd h (by decide)
      · rw [if_neg h2]
        exact ⟨hq, by omega, by omega, by omega, rfl⟩
  · rw [oneP_bad hq] at h
    exact absurd h hq
theorem rawP_ok {q : St} (h : (rawP q).2.2 = 0) : q.2 = 0 ∧ (longS q.1).2.2 = 0 ∧ rawP q = ((longS q.1).1, (rest q.1 (longS q.1).2.1.toNat, 0)) := by
  by_cases hq : q.2 = 0
  · unfold rawP at h ⊢
    rw [if_pos hq] at h ⊢
    by_cases h1 : (longS q.1).2.2 = 0
    · rw [if_pos h1]
      exact ⟨hq, h1, rfl⟩
    · rw [if_neg h1] at h
      exact absurd h h1
  · rw [rawP_bad hq] at h
    exact absurd h hq
theorem numP_ok {m : Int} {q : St} (h : (numP m q).2.2 = 0) : numP m q = rawP q ∧ (rawP q).2.2 = 0 ∧ (rawP q).1 ≤ m := by
  unfold numP at h ⊢
  by_cases h1 : m < (rawP q).1
  · rw [if_pos h1] at h
    exact absurd h (fl_ne (by decide))
  · rw [if_neg h1] at h ⊢
    exact ⟨rfl, h, by omega⟩
theorem textP_ok {m : Int} {q : St} (h : (textP m q).2.2 = 0) : (numP m q).2.2 = 0 ∧ (numP m q).1 ≤ ((numP m q).2.1.size : Int) ∧ textP m q = ((numP m q).2.1.extract 0 (numP m q).1.toNat, (rest (numP m q).2.1 (numP m q).1.toNat, 0)) := by
  unfold textP at h ⊢
  by_cases h0 : (numP m q).2.2 = 0
  · rw [if_pos h0] at h ⊢
    by_cases h1 : ((numP m q).2.1.size : Int) < (numP m q).1
    · rw [if_pos h1] at h
      exact absurd h (by decide)
    · rw [if_neg h1]
      exact ⟨h0, by omega, rfl⟩
  · rw [if_neg h0] at h
    exact absurd h h0
/-- 'l stands at the head of q': q is without fault, and taking l off leaves r. -/
def Takes (q : St) (l : List Int) (r : St) : Prop := q.2 = 0 ∧ r.2 = 0 ∧ Bytes l ∧ q.1 = strOfNums l ++ r.1
theorem nil_app (z : ByteArray) : strOfNums [] ++ z = z := by
  apply byt_inj
  rw [byt_append, byt_str (fun _ h => by simp at h), List.nil_append]
theorem take_one (l : List Int) (h : 0 < l.length) : [l[0]] = l.take 1 := by
  cases l with
  | nil => simp at h
  | cons a l => simp
theorem Takes.nil {q : St} (h : q.2 = 0) : Takes q [] q := ⟨h, h, fun _ h => by simp at h, (nil_app q.1).symm⟩
theorem Takes.nil_eq {q r : St} (h : Takes q [] r) : q = r := by
  refine Prod.ext ?_ (h.1.trans h.2.1.symm)
  rw [h.2.2.2, nil_app]
theorem Takes.trans {q r t : St} {a b : List Int} (h : Takes q a r) (k : Takes r b t) : Takes q (a ++ b) t := by
  refine ⟨h.1, k.2.1, h.2.2.1.append k.2.2.1, ?_⟩
  rw [strOfNums_append, ByteArray.append_assoc, ← k.2.2.2, h.2.2.2]
theorem rest_head (l : List Int) (z : ByteArray) : rest (strOfNums l ++ z) l.length = z := jcut _ _ _ (strOfNums_size l).symm

theorem rest_at {q : St} {l : List Int} {r : St} (h : Takes q l r) (n : Nat) (hn : n = l.length) : (rest q.1 n, (0 : Int)) = r := by
  obtain ⟨h1, h2, h3, h4⟩ := h
  subst hn
  rw [h4, rest_head]
  exact Prod.ext rfl h2.symm
theorem oneP_fwd {lo hi b : Int} {q r : St} (h : Takes q [b] r) (h1 : lo ≤ b) (h2 : b ≤ hi) : oneP lo hi q = (b, r) := by
  have hz : q.1.size = 1 + r.1.size := by rw [h.2.2.2, ByteArray.size_append, strOfNums_size]; rfl
  have hb : bt q.1 0 = b := by
    have := bt_byt q.1 0 (by omega)
    rw [show ((0 : Nat) : Int) = 0 by rfl] at this
    rw [this]
    simp only [h.2.2.2, byt_append, byt_str h.2.2.1]
    rfl
  unfold oneP
  rw [if_pos h.1, if_neg (show ¬ q.1.size = 0 by omega), hb, if_neg (show ¬ (b < lo ∨ hi < b) by omega), rest_at h 1 rfl]
theorem oneP_back {lo hi : Int} {q : St} (h : (oneP lo hi q).2.2 = 0) : Takes q [(oneP lo hi q).1] (oneP lo hi q).2 ∧ lo ≤ (oneP lo hi q).1 ∧ (oneP lo hi q).1 ≤ hi ∧ 0 ≤ (oneP lo hi q).1 ∧ (oneP lo hi q).1 ≤ 255 := by
  obtain ⟨h1, h2, h3, h4, h5⟩ := oneP_ok h
  rw [h5]
  have hb := btr q.1 0
  have hg : bt q.1 0 = (byt q.1)[0]'(by rw [byt_len]; exact h2) := bt_byt q.1 0 h2
  refine ⟨⟨h1, rfl, ?_, ?_⟩, h3, h4, hb.1, by omega⟩
  · intro x hx
    rw [List.mem_singleton.1 hx]
    exact ⟨hb.1, by omega⟩
  · refine (cjoin q.1 1 [bt q.1 0] ?_).symm
    rw [hg]
    exact take_one _ _
theorem rawP_fwd {n : Nat} {q r : St} (h : Takes q (sb n) r) (hn : n < 18446744073709551616) : rawP q = ((n : Int), r) := by
  have hL := longS_sb n hn r.1
  rw [← h.2.2.2] at hL
  unfold rawP
  rw [if_pos h.1, hL, if_pos rfl]
  simp only [Int.toNat_natCast]
  rw [rest_at h _ rfl]
theorem rawP_back {q : St} (h : (rawP q).2.2 = 0) : Takes q (sb (rawP q).1.toNat) (rawP q).2 ∧ 0 ≤ (rawP q).1 ∧ (rawP q).1 < 18446744073709551616 := by
  obtain ⟨h1, h2, h3⟩ := rawP_ok h
  obtain ⟨m, e1, k1, k2, k3, k4, k5, k6, k7⟩ := longS_ok q.1 h2
  have hb := longS_back q.1 m e1 k2 k5 k6 k7
  rw [h3, e1]
  simp only [Int.toNat_natCast]
  exact ⟨⟨h1, rfl, sb_bytes _, (cjoin q.1 (m + 1) _ hb).symm⟩, k3, k4⟩
theorem numP_fwd {m : Int} {n : Nat} {q r : St} (h : Takes q (sb n) r) (hn : n < 18446744073709551616) (hm : (n : Int) ≤ m) : numP m q = ((n : Int), r) := by
  unfold numP
  rw [rawP_fwd h hn, if_neg (show ¬ m < (n : Int) by omega)]
theorem numP_back {m : Int} {q : St} (h : (numP m q).2.2 = 0) : Takes q (sb (numP m q).1.toNat) (numP m q).2 ∧ 0 ≤ (numP m q).1 ∧ (numP m q).1 ≤ m := by
  obtain ⟨h1, h2, h3⟩ := numP_ok h
  obtain ⟨k1, k2, k3⟩ := rawP_back h2
  rw [h1]
  exact ⟨k1, k2, h3⟩
def textE (s : ByteArray) : List Int := sb s.size ++ byt s
theorem textE_bytes (s : ByteArray) : Bytes (textE s) := (sb_bytes _).append (byt_bytes _)
theorem Takes.split {q r : St} {a b : List Int} (h : Takes q (a ++ b) r) : Takes q a (strOfNums b ++ r.1, 0) ∧ Takes (strOfNums b ++ r.1, 0) b r := by
  obtain ⟨h1, h2, h3, h4⟩ := h
  have ha : Bytes a := fun x hx => h3 x (List.mem_append_left _ hx)
  have hb : Bytes b := fun x hx => h3 x (List.mem_append_right _ hx)
  exact ⟨⟨h1, rfl, ha, by rw [h4, strOfNums_append, ByteArray.append_assoc]⟩, ⟨rfl, h2, hb, rfl⟩⟩
theorem textP_fwd {m : Int} {t : ByteArray} {q r : St} (h : Takes q (textE t) r) (hm : (t.size : Int) ≤ m) (hs : t.size ≤ 1000000000) : textP m q = (t, r) := by
  unfold textE at h
  obtain ⟨k1, k2⟩ := h.split
  unfold textP
  rw [numP_fwd k1 (by omega) hm, if_pos rfl]
  simp only [Int.toNat_natCast]
  have hz : (strOfNums (byt t) ++ r.1).size = t.size + r.1.size := by rw [ByteArray.size_append, strOfNums_size, byt_len]
  rw [if_neg (by omega), rest_at k2 t.size (byt_len t).symm, str_byt]
  congr 1
  apply byt_inj
  rw [byt_to, byt_append, ← byt_len t, List.take_left]
theorem textP_back {m : Int} {q : St} (h : (textP m q).2.2 = 0) : Takes q (textE (textP m q).1) (textP m q).2 ∧ ((textP m q).1.size : Int) ≤ m := by
  obtain ⟨h1, h2, h3⟩ := textP_ok h
  obtain ⟨k1, k2, k3⟩ := numP_back h1
  rw [h3]
  generalize hN : numP m q = N at *
  obtain ⟨n, z, e⟩ := N
  obtain ⟨n, rfl⟩ := Int.eq_ofNat_of_zero_le k2
  simp only [Int.toNat_natCast] at h1 h2 k1 k3 ⊢
  have hs : (z.extract 0 n).size = n := by rw [← byt_len, byt_to, List.length_take, byt_len]; omega
  refine ⟨?_, by rw [hs]; exact k3⟩
  unfold textE
  rw [hs]
  refine k1.trans ⟨h1, rfl, byt_bytes _, ?_⟩
  exact (cjoin z n _ (byt_to z n)).symm
def valT (k n : Int) (s : ByteArray) : List Int := if k = 1 ∨ k = 2 then sb (zigS n).toNat else if k = 3 ∨ k = 4 then textE s else []
def valE (v : S_Value) : List Int := v.f0 :: valT v.f0 v.f1 v.f2
theorem valP_fwd {v : S_Value} {q r : St} (h : Takes q (valE v) r) (hv : valB v.f0 v.f1 v.f2 = true) (hw : (Lit.int .i64 v.f1).wf = true) : valP q = (v, r) := by
  have hw := wf64 hw
  have hz := zigS_range v.f1 hw.1 hw.2
  obtain ⟨k, n, s⟩ := v
  simp only at hv hw hz
  have h : Takes q ([k] ++ valT k n s) r := h
  obtain ⟨k1, k2⟩ := h.split
  generalize hm : (strOfNums (valT k n s) ++ r.1, (0 : Int)) = m at k1 k2
  clear hm h
  have hs0 : s.size = 0 → s = nilB := fun e => ba_of0 s e
  have hzn : (((zigS n).toNat : Nat) : Int) = zigS n := by omega
  have t12 : k = 1 ∨ k = 2 → Takes m (sb (zigS n).toNat) r := fun e => by unfold valT at k2; rwa [if_pos e] at k2
  have t34 : k = 3 ∨ k = 4 → Takes m (textE s) r := fun e => by unfold valT at k2; rwa [if_neg (by omega), if_pos e] at k2
  have t0 : k = 0 → m = r := fun e => by unfold valT at k2; rw [if_neg (by omega), if_neg (by omega)] at k2; exact k2.nil_eq
  unfold valB at hv
  have h04 : 0 ≤ k ∧ k ≤ 4 := by
    by_cases e0 : k = 0
    · omega
    · rw [if_neg e0] at hv
      by_cases e1 : k = 1
      · omega
      · rw [if_neg e1] at hv
        by_cases e2 : k = 2
        · omega
        · rw [if_neg e2] at hv
          by_cases e3 : k = 3
          · omega
          · rw [if_neg e3] at hv
            by_cases e4 : k = 4
            · omega
            · rw [if_neg e4] at hv
              cases hv
  unfold valP
  rw [oneP_fwd k1 h04.1 h04.2]
  simp only
  by_cases e0 : k = 0
  · rw [if_pos e0, Bool.and_eq_true, decide_eq_true_iff, decide_eq_true_iff] at hv
    rw [if_neg (by omega), if_neg (by omega), t0 e0, hv.1, hs0 hv.2]
  rw [if_neg e0] at hv
  by_cases e1 : k = 1
  · rw [if_pos e1, Bool.and_eq_true, decide_eq_true_iff] at hv
    rw [if_pos (.inl e1), rawP_fwd (t12 (.inl e1)) (by omega)]
    simp only
    rw [hzn, zag_zig, hs0 hv.2]
    unfold chk
    rw [if_pos (by rw [hv.1]; simp)]
  rw [if_neg e1] at hv
  by_cases e2 : k = 2
  · rw [if_pos e2, decide_eq_true_iff] at hv
    rw [if_pos (.inr e2), rawP_fwd (t12 (.inr e2)) (by omega)]
    simp only
    rw [hzn, zag_zig, hs0 hv]
    unfold chk
    rw [if_pos (by rw [decide_eq_true e2]; rfl)]
  rw [if_neg e2] at hv
  by_cases e3 : k = 3
  · rw [if_pos e3, Bool.and_eq_true, Bool.and_eq_true, decide_eq_true_iff, decide_eq_true_iff] at hv
    obtain ⟨hv1, hv2, hv3⟩ := hv
    rw [if_neg (by omega), if_pos (.inl e3), textP_fwd (t34 (.inl e3)) (by omega) (by omega)]
    simp only
    unfold chk
    rw [if_pos (by rw [hv3]; simp), hv1]
  rw [if_neg e3] at hv
  by_cases e4 : k = 4
  · rw [if_pos e4, Bool.and_eq_true, decide_eq_true_iff, decide_eq_true_iff] at hv
    obtain ⟨hv1, hv2⟩ := hv
    rw [if_neg (by omega), if_pos (.inr e4), textP_fwd (t34 (.inr e4)) (by omega) (by omega)]
    simp only
    unfold chk
    rw [if_pos (by rw [decide_eq_true e4]; rfl), hv1]
  omega
theorem valP_back {q : St} (h : (valP q).2.2 = 0) : Takes q (valE (valP q).1) (valP q).2 ∧ valB (valP q).1.f0 (valP q).1.f1 (valP q).1.f2 = true ∧ (Lit.int .i64 (valP q).1.f1).wf = true := by
  unfold valP at h ⊢
  by_cases h1 : (oneP 0 4 q).1 = 1 ∨ (oneP 0 4 q).1 = 2
  · rw [if_pos h1] at h ⊢
    obtain ⟨c1, c2, c3⟩ := chk_ok h
    obtain ⟨r1, r2, r3⟩ := rawP_back c2
    obtain ⟨o1, o2, o3, _⟩ := oneP_back (rawP_ok c2).1
    have hz := zagS_range (rawP (oneP 0 4 q).2).1 r2 (by omega)
    rw [c3]
    simp only
    refine ⟨?_, ?_, i64_wf hz.1 hz.2⟩
    · unfold valE valT
      simp only
      rw [if_pos h1, zig_zag _ r2]
      exact o1.trans r1
    · unfold valB
      rcases h1 with e | e
      · rw [e] at c1 ⊢
        rw [if_neg (by decide), if_pos rfl]
        rw [Bool.and_eq_true, decide_eq_true_iff]
        exact ⟨by simpa using c1, rfl⟩
      · rw [e, if_neg (by decide), if_neg (by decide), if_pos rfl]
        rfl
  · rw [if_neg h1] at h ⊢
    by_cases h2 : (oneP 0 4 q).1 = 3 ∨ (oneP 0 4 q).1 = 4
    · rw [if_pos h2] at h ⊢
      obtain ⟨c1, c2, c3⟩ := chk_ok h
      obtain ⟨r1, r2⟩ := textP_back c2
      have hq2 : (oneP 0 4 q).2.2 = 0 := by
        by_cases e : (oneP 0 4 q).2.2 = 0
        · exact e
        · rw [textP_bad (by decide) e] at c2
          exact absurd c2 e
      obtain ⟨o1, o2, o3, _⟩ := oneP_back hq2
      rw [c3]
      simp only
      refine ⟨?_, ?_, (by decide : (Lit.int .i64 0).wf = true)⟩
      · unfold valE valT
        simp only
        rw [if_neg h1, if_pos h2]
        exact o1.trans r1
      · unfold valB
        rcases h2 with e | e
        · rw [e] at c1 ⊢
          rw [if_neg (by decide), if_neg (by decide), if_neg (by decide), if_pos rfl]
          simp only [Bool.or_eq_true, decide_eq_true_eq] at c1
          rcases c1 with c1 | c1
          · exact absurd c1 (by decide)
          · rw [c1, decide_eq_true (show (textP 120 (oneP 0 4 q).2).1.size ≤ 120 by omega)]
            rfl
        · rw [e, if_neg (by decide), if_neg (by decide), if_neg (by decide), if_neg (by decide), if_pos rfl, decide_eq_true (show (textP 120 (oneP 0 4 q).2).1.size ≤ 120 by omega)]
          rfl
    · rw [if_neg h2] at h ⊢
      obtain ⟨o1, o2, o3, _⟩ := oneP_back h
      have e0 : (oneP 0 4 q).1 = 0 := by omega
      simp only
      refine ⟨?_, ?_, (by decide : (Lit.int .i64 0).wf = true)⟩
      · unfold valE valT
        simp only
        rw [if_neg h1, if_neg h2]
        exact o1
      · rw [e0]
        rfl
def kindE (t : S_Type) : List Int := t.f0 :: sb t.f1.toNat
theorem kindP_fwd {t : S_Type} {q r : St} (h : Takes q (kindE t) r) (h1 : 1 ≤ t.f0) (h2 : t.f0 ≤ 4) (h3 : 0 ≤ t.f1) (h4 : t.f1 ≤ 120) : kindP q = (t, r) := by
  unfold kindE at h
  obtain ⟨k1, k2⟩ := Takes.split (a := [t.f0]) h
  unfold kindP
  rw [oneP_fwd k1 h1 h2]
  simp only
  rw [numP_fwd k2 (by omega) (by omega)]
  simp only
  rw [Int.toNat_of_nonneg h3]
theorem kindP_back {q : St} (h : (kindP q).2.2 = 0) : Takes q (kindE (kindP q).1) (kindP q).2 ∧ 1 ≤ (kindP q).1.f0 ∧ (kindP q).1.f0 ≤ 4 ∧ 0 ≤ (kindP q).1.f1 ∧ (kindP q).1.f1 ≤ 120 := by
  unfold kindP at h ⊢
  obtain ⟨n1, n2, n3⟩ := numP_back h
  obtain ⟨o1, o2, o3, _⟩ := oneP_back n1.1
  simp only at n1 n2 n3 ⊢
  exact ⟨o1.trans n1, o2, o3, n2, n3⟩

def manyP {α : Type} (p : St → α × St) : Nat → St → List α × St
  | 0, q => ([], q)
  | n + 1, q => if q.2 = 0 then ((p q).1 :: (manyP p n (p q).2).1, (manyP p n (p q).2).2) else ([], q)
theorem manyP_bad {α : Type} {p : St → α × St} {q : St} (h : q.2 ≠ 0) : ∀ n, manyP p n q = ([], q)
  | 0 => rfl
  | n + 1 => by simp only [manyP]; rw [if_neg h]
theorem many_fwd {α : Type} {p : St → α × St} {enc : α → List Int} {ok : α → Prop} (h : ∀ x q r, ok x → Takes q (enc x) r → p q = (x, r)) : ∀ (l : List α) (q r : St), (∀ x ∈ l, ok x) → Takes q (l.flatMap enc) r → manyP p l.length q = (l, r)
  | [], q, r, _, ht => by
    rw [Takes.nil_eq ht]
    rfl
  | x :: l, q, r, hok, ht => by
    rw [List.flatMap_cons] at ht
    obtain ⟨k1, k2⟩ := ht.split
    have hx := h x q _ (hok x (by simp)) k1
    have ih := many_fwd h l _ r (fun y hy => hok y (by simp [hy])) k2
    simp only [List.length_cons, manyP]
    rw [if_pos ht.1, hx, ih]
theorem many_back {α : Type} {p : St → α × St} {enc : α → List Int} {ok : α → Prop} (h : ∀ q, (p q).2.2 = 0 → Takes q (enc (p q).1) (p q).2 ∧ ok (p q).1) : ∀ (n : Nat) (q : St), (manyP p n q).2.2 = 0 → Takes q ((manyP p n q).1.flatMap enc) (manyP p n q).2 ∧ (manyP p n q).1.length = n ∧ ∀ x ∈ (manyP p n q).1, ok x
  | 0, q, he => ⟨Takes.nil he, rfl, by simp [manyP]⟩
  | n + 1, q, he => by
    simp only [manyP] at he ⊢
    by_cases hq : q.2 = 0
    · rw [if_pos hq] at he ⊢
      have h2 : (p q).2.2 = 0 := by
        by_cases e : (p q).2.2 = 0
        · exact e
        · rw [manyP_bad e] at he
          exact absurd he e
      obtain ⟨k1, k2⟩ := h q h2
      obtain ⟨j1, j2, j3⟩ := many_back h n _ he
      refine ⟨?_, by simp [j2], ?_⟩
      · rw [List.flatMap_cons]
        exact k1.trans j1
      · intro x hx
        rcases List.mem_cons.1 hx with e | e
        · rw [e]; exact k2
        · exact j3 x e
    · rw [if_neg hq] at he
      exact absurd he hq
def bodyE (c : S_Column) : List Int := textE c.f1 ++ (kindE c.f2 ++ ([if c.f3 = true then 1 else 0] ++ valE c.f4))
def bodyP (q : St) : S_Column × St :=
  (⟨0, (textP 16 q).1, (kindP (textP 16 q).2).1, (oneP 0 1 (kindP (textP 16 q).2).2).1 == 1, (valP (oneP 0 1 (kindP (textP 16 q).2).2).2).1⟩, (valP (oneP 0 1 (kindP (textP 16 q).2).2).2).2)
/-- What a column's body is read back of. -/
def BodyOk (c : S_Column) : Prop := c.f1.size ≤ 16 ∧ (1 ≤ c.f2.f0 ∧ c.f2.f0 ≤ 4 ∧ 0 ≤ c.f2.f1 ∧ c.f2.f1 ≤ 120) ∧ valB c.f4.f0 c.f4.f1 c.f4.f2 = true ∧ (Lit.int .i64 c.f4.f1).wf = true
theorem bodyP_fwd (c : S_Column) (q r : St) (h : BodyOk c) (ht : Takes q (bodyE c) r) : bodyP q = ({ c with f0 := 0 }, r) := by
  obtain ⟨h1, ⟨h2, h3, h4, h5⟩, h6, h7⟩ := h
  unfold bodyE at ht
  obtain ⟨k1, k⟩ := ht.split
  obtain ⟨k2, k⟩ := k.split
  obtain ⟨k3, k4⟩ := k.split
  unfold bodyP
  rw [textP_fwd k1 (by omega) (by omega)]
  simp only
  rw [kindP_fwd k2 h2 h3 h4 h5]
  simp only
  rw [oneP_fwd k3 (by split <;> decide) (by split <;> decide)]
  simp only
  rw [valP_fwd k4 h6 h7]
  congr 1
  obtain ⟨c0, c1, c2, c3, c4⟩ := c
  simp only
  congr 1
  cases c3 <;> rfl
theorem bodyP_back (q : St) (h : (bodyP q).2.2 = 0) : Takes q (bodyE (bodyP q).1) (bodyP q).2 ∧ BodyOk (bodyP q).1 ∧ (bodyP q).1.f0 = 0 := by
  unfold bodyP at h ⊢
  simp only at h ⊢
  have hq3 : (oneP 0 1 (kindP (textP 16 q).2).2).2.2 = 0 := by
    by_cases e : (oneP 0 1 (kindP (textP 16 q).2).2).2.2 = 0
    · exact e
    · rw [valP_bad e] at h
      exact absurd h e
  have hq2 := (oneP_ok hq3).1
  have hq1 : (textP 16 q).2.2 = 0 := by
    by_cases e : (textP 16 q).2.2 = 0
    · exact e
    · rw [kindP_bad e] at hq2
      exact absurd hq2 e
  obtain ⟨v1, v2, v3⟩ := valP_back h
  obtain ⟨o1, o2, o3, _⟩ := oneP_back hq3
  obtain ⟨t1, t2, t3, t4, t5⟩ := kindP_back hq2
  obtain ⟨n1, n2⟩ := textP_back hq1
  refine ⟨?_, ⟨by simp only; omega, ⟨t2, t3, t4, t5⟩, v2, v3⟩, trivial⟩
  unfold bodyE
  simp only
  refine n1.trans (t1.trans (Takes.trans ?_ v1))
  have e : (if ((oneP 0 1 (kindP (textP 16 q).2).2).1 == 1) = true then (1 : Int) else 0) = (oneP 0 1 (kindP (textP 16 q).2).2).1 := by
    by_cases e : (oneP 0 1 (kindP (textP 16 q).2).2).1 = 1
    · rw [e]; rfl
    · rw [if_neg (by simpa using e)]; omega
  rw [e]
  exact o1
def maxN : Int := 9223372036854775807
theorem num_need {m : Int} {q : St} (hm : 0 ≤ m) (h : (numP m q).2.2 = 0) : q.2 = 0 := by
  by_cases e : q.2 = 0
  · exact e
  · rw [numP_bad hm e] at h
    exact absurd h e
theorem text_need {m : Int} {q : St} (hm : 0 ≤ m) (h : (textP m q).2.2 = 0) : q.2 = 0 := by
  by_cases e : q.2 = 0
  · exact e
  · rw [textP_bad hm e] at h
    exact absurd h e
theorem many_need {α : Type} {p : St → α × St} {n : Nat} {q : St} (h : (manyP p n q).2.2 = 0) : q.2 = 0 := by
  by_cases e : q.2 = 0
  · exact e
  · rw [manyP_bad e] at h
    exact absurd h e
/-- The end of all: nothing may be left, and what was read has to be right. -/
def endP (right : Bool) (q : St) : Int := if (if q.1.size = 0 then q else fl 6 q).2 = 0 then (if right = true then 0 else 5) else (if q.1.size = 0 then q else fl 6 q).2
/-- A state as the program holds it: what is left matters as long as nothing was wrong. -/
def At1 (s : ByteArray) (q : St) : Prop := s.size ≤ 1000000000 ∧ (q.2 = 0 → s = q.1)
theorem rest_size (s : ByteArray) (n : Nat) : (rest s n).size = s.size - n := cut_size s n
theorem fail_eq (k : Nat) (s : ByteArray) (e x : Int) : catcode_reader_fail k e s x = some ((), s, if x = 0 then e else x) := by
  unfold catcode_reader_fail
  by_cases h : x = 0
  · rw [if_pos h, if_pos h]
  · rw [if_neg h, if_neg h]
theorem one_eq1 (lo hi : Int) (s : ByteArray) (q : St) (h : At1 s q) : ∃ s', (∀ k, catcode_reader_one k lo hi s q.2 = some ((oneP lo hi q).1, s', (oneP lo hi q).2.2)) ∧ At1 s' (oneP lo hi q).2 := by
  obtain ⟨z, e⟩ := q
  obtain ⟨hz, h⟩ := h
  simp only at h
  unfold catcode_reader_one oneP
  simp only
  by_cases he : e = 0
  · have := h he
    subst this
    subst he
    simp only [fail_eq, if_true, Option.bind_some, ba_nil0]
    by_cases h0 : s.size = 0
    · simp only [if_pos h0]
      exact ⟨s, fun _ => rfl, hz, fun e => absurd e (by decide)⟩
    · simp only [if_neg h0, if_pos (show 0 < (s.size : Int) by omega), if_pos (show 1 ≤ (s.size : Int) by omega), gt_iff_lt]
      by_cases h1 : bt s 0 < lo
      · simp only [if_pos h1, if_pos (show bt s 0 < lo ∨ hi < bt s 0 from .inl h1)]
        exact ⟨s, fun _ => rfl, hz, fun e => absurd e (by decide)⟩
      · by_cases h2 : hi < bt s 0
        · simp only [if_neg h1, if_pos h2, if_pos (show bt s 0 < lo ∨ hi < bt s 0 from .inr h2)]
          exact ⟨s, fun _ => rfl, hz, fun e => absurd e (by decide)⟩
        · simp only [if_neg h1, if_neg h2, if_neg (show ¬ (bt s 0 < lo ∨ hi < bt s 0) by omega)]
          exact ⟨rest s 1, fun _ => rfl, by rw [rest_size]; omega, fun _ => rfl⟩
  · simp only [if_neg he]
    exact ⟨s, fun _ => rfl, hz, fun e => absurd e he⟩
theorem raw_ev1 (s : ByteArray) (q : St) (h : At1 s q) : ∃ s', Ev (fun k => catcode_reader_raw k s q.2) ((rawP q).1, s', (rawP q).2.2) ∧ At1 s' (rawP q).2 := by
  obtain ⟨z, e⟩ := q
  obtain ⟨hz, h⟩ := h
  simp only at h
  unfold catcode_reader_raw rawP
  simp only
  by_cases he : e = 0
  · have := h he
    subst this
    subst he
    have hL := word_Long_ev s
    by_cases h0 : (longS s).2.2 = 0
    · obtain ⟨a1, a2, a3, a4, a5⟩ := long_two s h0
      simp only [if_true, if_pos h0]
      refine ⟨rest s (longS s).2.1.toNat, Ev.flat1 0 hL (fun m h1 => ?_), by rw [rest_size]; omega, fun _ => rfl⟩
      have h1 := h1 0
      simp only [Nat.add_zero] at h1 ⊢
      simp only [h1, fail_eq, Option.bind_some, h0, if_true, if_pos (show 0 ≤ (longS s).2.1 by omega), if_pos a4]
      rfl
    · obtain ⟨e1, e2⟩ := longS_err s h0
      have s1 : (longS s).1 = 0 := by rw [e1]
      have s2 : (longS s).2.1 = 0 := by rw [e1]
      simp only [if_true, if_neg h0]
      refine ⟨rest s 0, Ev.flat1 0 hL (fun m h1 => ?_), by rw [rest_size]; omega, fun e => absurd e h0⟩
      have h1 := h1 0
      simp only [Nat.add_zero] at h1 ⊢
      simp only [h1, fail_eq, Option.bind_some, if_true, s2, s1, Int.le_refl, if_pos (show (0 : Int) ≤ (s.size : Int) by omega)]
      rfl
  · simp only [if_neg he]
    exact ⟨s, Ev.now _, hz, fun e2 => absurd e2 he⟩
theorem raw_range (q : St) : 0 ≤ (rawP q).1 ∧ (rawP q).1 ≤ 18446744073709551615 := by
  by_cases h : (rawP q).2.2 = 0
  · have := rawP_back h
    omega
  · have : (rawP q).1 = 0 := by
      unfold rawP at h ⊢
      split at h
      · rename_i h1
        rw [if_pos h1]
        split at h
        · exact absurd rfl h
        · rename_i h2
          rw [if_neg h2]
      · rename_i h1
        rw [if_neg h1]
    rw [this]
    omega
theorem num_range {m : Int} (h0 : 0 ≤ m) (q : St) : 0 ≤ (numP m q).1 ∧ (numP m q).1 ≤ m := by
  unfold numP
  split
  · exact ⟨by simp, h0⟩
  · exact ⟨(raw_range q).1, by omega⟩
theorem At1.fl {s : ByteArray} {q : St} {e : Int} (h : At1 s q) (he : e ≠ 0) : At1 s (fl e q) := ⟨h.1, fun e2 => absurd e2 (fl_ne he)⟩
theorem fl_two (e : Int) (q : St) : (fl e q).2 = if q.2 = 0 then e else q.2 := by
  unfold fl
  split <;> rfl
theorem raw_zero {q : St} (h : (rawP q).2.2 ≠ 0) : (rawP q).1 = 0 := by
  unfold rawP at h ⊢
  split at h
  · rename_i h1
    rw [if_pos h1]
    split at h
    · exact absurd rfl h
    · rename_i h2
      rw [if_neg h2]
  · rename_i h1
    rw [if_neg h1]
theorem num_zero {m : Int} {q : St} (h : (numP m q).2.2 ≠ 0) : (numP m q).1 = 0 := by
  unfold numP at h ⊢
  split
  · rfl
  · rename_i c
    rw [if_neg c] at h
    exact raw_zero h
theorem num_ev1 (m : Int) (h0 : 0 ≤ m) (h1 : m ≤ 9223372036854775807) (s : ByteArray) (q : St) (h : At1 s q) : ∃ s', Ev (fun k => catcode_reader_number k m s q.2) ((numP m q).1, s', (numP m q).2.2) ∧ At1 s' (numP m q).2 := by
  obtain ⟨s', k1, k2⟩ := raw_ev1 s q h
  have hu : IntKind.u64.wrap m = m := u64_id m h0 (by omega)
  have hr := raw_range q
  unfold catcode_reader_number numP
  by_cases hm : m < (rawP q).1
  · simp only [if_pos hm]
    refine ⟨s', Ev.flat1 0 k1 (fun m h1 => ?_), k2.fl (by decide)⟩
    have h1 := h1 0
    simp only [Nat.add_zero] at h1 ⊢
    simp only [h1, Option.bind_some, hu, gt_iff_lt, if_pos hm, fail_eq, fl_two]
  · simp only [if_neg hm]
    refine ⟨s', Ev.flat1 0 k1 (fun m h1 => ?_), k2⟩
    have h1 := h1 0
    simp only [Nat.add_zero] at h1 ⊢
    simp only [h1, Option.bind_some, hu, gt_iff_lt, if_neg hm, i64w (rawP q).1 (by omega) (by omega)]
theorem text_ev1 (m : Int) (h0 : 0 ≤ m) (h1 : m ≤ 1000000000) (s : ByteArray) (q : St) (h : At1 s q) : ∃ s', Ev (fun k => catcode_reader_text k m s q.2) ((textP m q).1, s', (textP m q).2.2) ∧ At1 s' (textP m q).2 := by
  obtain ⟨s1, k1, k2⟩ := num_ev1 m h0 (by omega) s q h
  have hr := num_range h0 q
  unfold catcode_reader_text textP
  by_cases he : (numP m q).2.2 = 0
  · have hs := k2.2 he
    simp only [if_pos he]
    by_cases hz : ((numP m q).2.1.size : Int) < (numP m q).1
    · simp only [if_pos hz]
      refine ⟨s1, Ev.flat1 0 k1 (fun m h1 => ?_), k2.1, fun e => absurd e (by decide)⟩
      have h1 := h1 0
      simp only [Nat.add_zero] at h1 ⊢
      simp only [h1, Option.bind_some, gt_iff_lt, hs, if_pos hz, fail_eq, he, if_true]
      rfl
    · obtain ⟨n, hn⟩ := Int.eq_ofNat_of_zero_le hr.1
      simp only [if_neg hz]
      refine ⟨rest (numP m q).2.1 (numP m q).1.toNat, Ev.flat1 0 k1 (fun m h1 => ?_), by rw [rest_size, ← hs]; have := k2.1; omega, fun _ => rfl⟩
      have h1 := h1 0
      simp only [Nat.add_zero] at h1 ⊢
      simp only [h1, Option.bind_some, gt_iff_lt, hs, if_neg hz, he, if_true, if_pos hr.1, Int.not_lt.1 hz]
      rfl
  · simp only [if_neg he]
    have hn0 := num_zero he
    refine ⟨s1, Ev.flat1 0 k1 (fun m h1 => ?_), k2⟩
    have h1 := h1 0
    simp only [Nat.add_zero] at h1 ⊢
    simp only [h1, Option.bind_some, gt_iff_lt, hn0, if_neg (show ¬ (s1.size : Int) < 0 by omega), if_neg he]
theorem chk_two (b : Bool) (q : St) : (chk b q).2 = if b = true then q.2 else if q.2 = 0 then 5 else q.2 := by
  unfold chk
  split
  · rfl
  · exact fl_two 5 q
theorem At1.chk {s : ByteArray} {q : St} (b : Bool) (h : At1 s q) : At1 s (chk b q) := by
  refine ⟨h.1, fun e => ?_⟩
  obtain ⟨_, h2, h3⟩ := chk_ok e
  rw [h3]
  exact h.2 h2
theorem one_range {lo hi : Int} (q : St) : 0 ≤ (oneP lo hi q).1 ∧ (oneP lo hi q).1 ≤ 255 ∧ ((oneP lo hi q).1 = 0 ∨ (lo ≤ (oneP lo hi q).1 ∧ (oneP lo hi q).1 ≤ hi)) := by
  by_cases h : (oneP lo hi q).2.2 = 0
  · have := oneP_back h
    omega
  · have : (oneP lo hi q).1 = 0 := by
      unfold oneP at h ⊢
      split at h
      · rename_i c1
        rw [if_pos c1]
        split at h
        · rename_i c2
          rw [if_pos c2]
        · rename_i c2
          rw [if_neg c2]
          split at h
          · rename_i c3
            rw [if_pos c3]
          · exact absurd rfl h
      · rename_i c1
        rw [if_neg c1]
    rw [this]
    omega
theorem text_size (m : Int) (hm : 0 ≤ m) (q : St) : ((textP m q).1.size : Int) ≤ m := by
  by_cases h : (textP m q).2.2 = 0
  · exact (textP_back h).2
  · have : (textP m q).1 = nilB := by
      unfold textP at h ⊢
      split at h
      · rename_i c1
        rw [if_pos c1]
        split at h
        · rename_i c2
          rw [if_pos c2]
        · exact absurd rfl h
      · rename_i c1
        rw [if_neg c1]
    rw [this]
    exact hm
theorem zag_eq1 (k : Nat) (u : Int) (h0 : 0 ≤ u) (h1 : u ≤ 18446744073709551615) : word_Zag k u = some (zagS u) := word_Zag_eq k u h0 h1
theorem value_ev1 (s : ByteArray) (q : St) (h : At1 s q) : ∃ s', Ev (fun k => catcode_reader_value k s q.2) (((valP q).1.f0, (valP q).1.f1, (valP q).1.f2), s', (valP q).2.2) ∧ At1 s' (valP q).2 := by
  obtain ⟨s1, k1, k2⟩ := one_eq1 0 4 s q h
  have hr := one_range (lo := 0) (hi := 4) q
  unfold catcode_reader_value valP
  simp only [k1, Option.bind_some]
  generalize hO : oneP 0 4 q = o at *
  obtain ⟨k, q1⟩ := o
  simp only at k2 hr ⊢
  have hw : IntKind.i64.wrap k = k := i64w _ (by omega) (by omega)
  simp only [hw]
  have hk : k = 0 ∨ k = 1 ∨ k = 2 ∨ k = 3 ∨ k = 4 := by omega
  obtain ⟨s2, r1, r2⟩ := raw_ev1 s1 q1 k2
  obtain ⟨s3, t1, t2⟩ := text_ev1 120 (by decide) (by decide) s1 q1 k2
  have hrr := raw_range q1
  have hts := text_size 120 (by decide) q1
  have u1 := uright_ev (textP 120 q1).1 (by omega)
  have hz := zag_eq1
  rcases hk with e | e | e | e | e
  · subst e
    exact ⟨s1, Ev.now _, k2⟩
  · subst e
    refine ⟨s2, Ev.flat1 0 r1 (fun m h1 => ?_), r2.chk _⟩
    have h1 := h1 0
    simp only [Nat.add_zero] at h1 ⊢
    cases hf : fits32 (zagS (rawP q1).1) <;> simp [h1, zag_eq1 _ _ hrr.1 hrr.2, wfits32, fail_eq, chk_two, hf, nilB]
  · subst e
    refine ⟨s2, Ev.flat1 0 r1 (fun m h1 => ?_), r2.chk _⟩
    have h1 := h1 0
    simp only [Nat.add_zero] at h1 ⊢
    simp [h1, zag_eq1 _ _ hrr.1 hrr.2, chk_two, nilB]
  · subst e
    refine ⟨s3, Ev.flat2 0 t1 u1 (fun m h1 h2 => ?_), t2.chk _⟩
    have h1 := h1 0
    have h2 := h2 0
    simp only [Nat.add_zero] at h1 h2 ⊢
    cases hf : utfB (textP 120 q1).1 <;> simp [h1, h2, fail_eq, chk_two, hf]
  · subst e
    refine ⟨s3, Ev.flat1 0 t1 (fun m h1 => ?_), t2.chk _⟩
    have h1 := h1 0
    simp only [Nat.add_zero] at h1 ⊢
    simp [h1, chk_two]

theorem kind_ev1 (s : ByteArray) (q : St) (h : At1 s q) : ∃ s', Ev (fun k => catcode_reader_kind k s q.2) (((kindP q).1.f0, (kindP q).1.f1), s', (kindP q).2.2) ∧ At1 s' (kindP q).2 := by
  obtain ⟨s1, k1, k2⟩ := one_eq1 1 4 s q h
  have hr := one_range (lo := 1) (hi := 4) q
  obtain ⟨s2, n1, n2⟩ := num_ev1 120 (by decide) (by decide) s1 (oneP 1 4 q).2 k2
  refine ⟨s2, Ev.flat1 0 n1 (fun m h1 => ?_), n2⟩
  have h1 := h1 0
  simp only [Nat.add_zero] at h1 ⊢
  simp only [catcode_reader_kind, k1, h1, Option.bind_some, i64w (oneP 1 4 q).1 (by omega) (by omega), kindP]
theorem body_ev1 (s : ByteArray) (q : St) (h : At1 s q) : ∃ s', Ev (fun k => catcode_reader_body k s q.2) ((0, (bodyP q).1.f1, (bodyP q).1.f2.f0, (bodyP q).1.f2.f1, (bodyP q).1.f3, (bodyP q).1.f4.f0, (bodyP q).1.f4.f1, (bodyP q).1.f4.f2), s', (bodyP q).2.2) ∧ At1 s' (bodyP q).2 := by
  obtain ⟨s1, t1, t2⟩ := text_ev1 16 (by decide) (by decide) s q h
  obtain ⟨s2, k1, k2⟩ := kind_ev1 s1 _ t2
  obtain ⟨s3, o1, o2⟩ := one_eq1 0 1 s2 _ k2
  obtain ⟨s4, v1, v2⟩ := value_ev1 s3 _ o2
  refine ⟨s4, Ev.flat3 0 t1 k1 v1 (fun m h1 h2 h3 => ?_), v2⟩
  have h1 := h1 0
  have h2 := h2 0
  have h3 := h3 0
  simp only [Nat.add_zero] at h1 h2 h3 ⊢
  simp only [catcode_reader_body, h1, h2, o1, h3, Option.bind_some, bodyP, beq_dec]
theorem valB_size {k n : Int} {s : ByteArray} (h : valB k n s = true) : s.size ≤ 120 := by
  unfold valB at h
  repeat' split at h
  all_goals first | (simp only [Bool.and_eq_true, decide_eq_true_eq] at h; omega) | (exact absurd h (by simp))
/-- A state as the reference holds it: a place in the whole text. -/
def At2 (S : ByteArray) (p : Int) (q : St) : Prop := S.size ≤ 1000000000 ∧ (q.2 = 0 → ∃ n : Nat, p = (n : Int) ∧ n ≤ S.size ∧ q.1 = rest S n)
theorem At2.chk {S : ByteArray} {p : Int} {q : St} (b : Bool) (h : At2 S p q) : At2 S p (chk b q) := by
  refine ⟨h.1, fun e => ?_⟩
  obtain ⟨_, h2, h3⟩ := chk_ok e
  rw [h3]
  exact h.2 h2
theorem bytesOf_sb (n : Nat) : bytesOf (strOfNums (sb n)) = sb n := by rw [bytesOf_byt]; exact byt_str (sb_bytes n)
theorem number_w (acc : List Int) (n : Int) (h0 : 0 ≤ n) (h1 : n ≤ 9223372036854775807) (ha : acc.length ≤ 100000000000) : Ev (fun k => catcode_number k acc n) (acc ++ sb n.toNat) := by
  have hl := sb_len10 (n := n.toNat) (by omega)
  unfold catcode_number
  rw [u64_id n h0 (by omega)]
  refine Ev.bind (short1 n h0 (by omega)) (Ev.congr (f := fun _ => some (acc ++ sb n.toNat)) (fun k => ?_) (Ev.now _))
  rw [strOfNums_size, if_pos (by omega), bytesOf_sb]
theorem text_w (acc : List Int) (s : ByteArray) (hs : s.size ≤ 1000000000) (ha : acc.length ≤ 100000000000) : Ev (fun k => catcode_text k acc s) (acc ++ textE s) := by
  have hl := sb_len10 (n := s.size) (by omega)
  unfold catcode_text
  rw [u64_id (s.size : Int) (by omega) (by omega)]
  have h1 := short1 (s.size : Int) (by omega) (by omega)
  rw [Int.toNat_natCast] at h1
  refine Ev.bind h1 (Ev.congr (f := fun _ => some (acc ++ textE s)) (fun k => ?_) (Ev.now _))
  rw [strOfNums_size, if_pos (by omega), bytesOf_sb, if_pos (by rw [List.length_append]; omega)]
  unfold textE
  rw [List.append_assoc, bytesOf_byt]
theorem text_len (s : ByteArray) (hs : s.size ≤ 1000000000) : (textE s).length ≤ s.size + 10 := by
  have hl := sb_len10 (n := s.size) (by omega)
  unfold textE
  rw [List.length_append, byt_len]
  omega
theorem put_w (acc : List Int) (v : S_Value) (hk : 0 ≤ v.f0 ∧ v.f0 ≤ 255) (hs : v.f2.size ≤ 1000000000) (hw : (Lit.int .i64 v.f1).wf = true) (ha : acc.length ≤ 10000000000) : Ev (fun k => catcode_put k acc v.f0 v.f1 v.f2) (acc ++ valE v) := by
  have hz := wf64 hw
  have hr := zigS_range v.f1 hz.1 hz.2
  have hm : IntKind.u8.wrap v.f0 = v.f0 := by rw [u8w]; omega
  have hlen : (acc ++ [v.f0]).length ≤ 100000000000 := by rw [List.length_append]; simp; omega
  have he : acc ++ valE v = (acc ++ [v.f0]) ++ valT v.f0 v.f1 v.f2 := by unfold valE; rw [List.append_assoc]; rfl
  have t1 := text_w (acc ++ [v.f0]) v.f2 hs hlen
  have s1 := short1 (zigS v.f1) hr.1 hr.2
  have hl := sb_len10 (n := (zigS v.f1).toNat) (by omega)
  rw [he]
  refine Ev.flat2 0 t1 s1 (fun m h1 h2 => ?_)
  have h1 := h1 0
  have h2 := h2 0
  simp only [Nat.add_zero] at h1 h2 ⊢
  have hc : (acc ++ [v.f0]).length + (sb (zigS v.f1).toNat).length < 140737488355328 := by omega
  simp only [catcode_put, if_pos (show acc.length < 140737488355328 by omega), hm, h1, word_Zig_eq m v.f1 hz.1 hz.2, Option.bind_some, h2, strOfNums_size, bytesOf_sb, if_pos hc, valT]
  by_cases c1 : v.f0 = 1
  · simp [c1]
  · by_cases c2 : v.f0 = 2
    · simp [c2]
    · by_cases c3 : v.f0 = 3
      · simp [c3]
      · by_cases c4 : v.f0 = 4 <;> simp [c1, c2, c3, c4]
def WCol (c : S_Column) : Prop := (0 ≤ c.f0 ∧ c.f0 ≤ maxN) ∧ c.f1.size ≤ 200 ∧ (0 ≤ c.f2.f0 ∧ c.f2.f0 ≤ 4 ∧ 0 ≤ c.f2.f1 ∧ c.f2.f1 ≤ maxN) ∧ (0 ≤ c.f4.f0 ∧ c.f4.f0 ≤ 4) ∧ c.f4.f2.size ≤ 200 ∧ (Lit.int .i64 c.f4.f1).wf = true
theorem maxN_eq : maxN = 9223372036854775807 := rfl
theorem kind_w (acc : List Int) (t : S_Type) (h0 : 0 ≤ t.f0 ∧ t.f0 ≤ 255) (h1 : 0 ≤ t.f1 ∧ t.f1 ≤ maxN) (ha : acc.length ≤ 1000000000) : Ev (fun k => catcode_kind k acc t.f0 t.f1) (acc ++ kindE t) := by
  have := maxN_eq
  have hm : IntKind.u8.wrap t.f0 = t.f0 := by rw [u8w]; omega
  have hn := number_w (acc ++ [t.f0]) t.f1 h1.1 (by omega) (by rw [List.length_append]; simp; omega)
  rw [List.append_assoc] at hn
  unfold catcode_kind
  rw [hm]
  refine Ev.congr (fun k => by rw [if_pos (by omega)]) (Ev.bind hn ?_)
  exact Ev.now _
theorem val_len (v : S_Value) (hs : v.f2.size ≤ 1000000000) (hw : (Lit.int .i64 v.f1).wf = true) : (valE v).length ≤ v.f2.size + 20 := by
  have hz := wf64 hw
  have hr := zigS_range v.f1 hz.1 hz.2
  have h1 := text_len v.f2 hs
  have h2 := sb_len10 (n := (zigS v.f1).toNat) (by omega)
  unfold valE valT
  split
  · simp only [List.length_cons]; omega
  · split
    · simp only [List.length_cons]; omega
    · simp
theorem body_len (c : S_Column) (h : WCol c) : (bodyE c).length ≤ 500 := by
  have := maxN_eq
  obtain ⟨_, h1, h2, h3, h4, h5⟩ := h
  have e1 := text_len c.f1 (by omega)
  have e2 := val_len c.f4 (by omega) h5
  have e3 := sb_len10 (n := c.f2.f1.toNat) (by omega)
  unfold bodyE kindE
  simp only [List.length_append, List.length_cons, List.length_nil]
  omega
theorem body_w (acc : List Int) (c : S_Column) (h : WCol c) (ha : acc.length ≤ 100000000) : Ev (fun k => catcode_body k acc c.f0 c.f1 c.f2.f0 c.f2.f1 c.f3 c.f4.f0 c.f4.f1 c.f4.f2) (acc ++ bodyE c) := by
  have := maxN_eq
  obtain ⟨_, h1, h2, h3, h4, h5⟩ := h
  have e1 := text_len c.f1 (by omega)
  have e3 := sb_len10 (n := c.f2.f1.toNat) (by omega)
  have ek : (kindE c.f2).length ≤ 11 := by unfold kindE; simp only [List.length_cons]; omega
  have l1 : (acc ++ textE c.f1).length ≤ 200000000 := by rw [List.length_append]; omega
  have l2 : ((acc ++ textE c.f1) ++ kindE c.f2).length ≤ 300000000 := by rw [List.length_append]; omega
  have hj : ∀ (x : Int), Ev (fun k => (catcode_put k (((acc ++ textE c.f1) ++ kindE c.f2) ++ [x]) c.f4.f0 c.f4.f1 c.f4.f2).bind fun t => some t) (acc ++ (textE c.f1 ++ (kindE c.f2 ++ ([x] ++ valE c.f4)))) := fun x => by
    have hp := put_w ((((acc ++ textE c.f1) ++ kindE c.f2) ++ [x])) c.f4 (by omega) (by omega) h5 (by rw [List.length_append]; simp only [List.length_cons, List.length_nil]; omega)
    refine Ev.bind hp ?_
    simp only [List.append_assoc]
    exact Ev.now _
  unfold catcode_body bodyE
  refine Ev.bind (text_w acc c.f1 (by omega) (by omega)) (Ev.bind (kind_w _ c.f2 (by omega) (by omega) (by omega)) ?_)
  cases c.f3
  · refine Ev.congr (fun k => by rw [if_neg (by simp), if_pos (by omega)]) ?_
    rw [if_neg (by simp)]
    exact hj 0
  · refine Ev.congr (fun k => by rw [if_pos (by trivial), if_pos (by omega)]) ?_
    rw [if_pos rfl]
    exact hj 1
theorem flat_len {α : Type} (f : α → List Int) (n : Nat) : ∀ l : List α, (∀ x ∈ l, (f x).length ≤ n) → (l.flatMap f).length ≤ l.length * n
  | [], _ => by simp
  | x :: l, h => by
    have e1 := flat_len f n l (fun y hy => h y (List.mem_cons_of_mem _ hy))
    have e2 := h x (List.mem_cons_self ..)
    rw [List.flatMap_cons, List.length_append, List.length_cons, Nat.add_mul]
    omega
theorem name16 {s : ByteArray} (h : nameB s = true) : s.size ≤ 16 := by
  unfold nameB at h
  rw [Bool.and_eq_true, Bool.and_eq_true, decide_eq_true_iff, decide_eq_true_iff] at h
  exact h.2.1
theorem typ4 {k m : Int} (h : typB k m = true) : 1 ≤ k ∧ k ≤ 4 ∧ 0 ≤ m ∧ m ≤ 120 := by
  unfold typB at h
  split at h
  · have := of_decide_eq_true h
    omega
  · split at h
    · have := of_decide_eq_true h
      omega
    · cases h
structure S_DDL where
  f0 : Int
  f1 : ByteArray
  f2 : ByteArray
  f3 : ByteArray
  f4 : ByteArray
  f5 : S_Type
  f6 : Bool
  f7 : S_Value
  f8 : List S_Column
def zV : S_Value := ⟨0, 0, nilB⟩
def zT : S_Type := ⟨0, 0⟩
def bareD (op : Int) (t : ByteArray) : S_DDL := ⟨op, t, nilB, nilB, nilB, zT, false, zV, []⟩
/-- What stands behind the table's name. -/
def moreP (op : Int) (t : ByteArray) (q : St) : S_DDL × St :=
  if op = 1 then let a := textP 16 q; let m := numP 10 a.2; let l := manyP bodyP m.1.toNat m.2; ({ bareD op t with f4 := a.1, f8 := l.1 }, l.2)
  else if op = 3 then ({ bareD op t with f3 := (textP 16 q).1 }, (textP 16 q).2)
  else if op = 4 then ({ bareD op t with f2 := (bodyP q).1.f1, f5 := (bodyP q).1.f2, f6 := (bodyP q).1.f3, f7 := (bodyP q).1.f4 }, (bodyP q).2)
  else if op = 5 then ({ bareD op t with f2 := (textP 16 q).1 }, (textP 16 q).2)
  else if op = 6 then ({ bareD op t with f2 := (textP 16 q).1, f3 := (textP 16 (textP 16 q).2).1 }, (textP 16 (textP 16 q).2).2)
  else if op = 7 then ({ bareD op t with f2 := (textP 16 q).1, f5 := (kindP (textP 16 q).2).1 }, (kindP (textP 16 q).2).2)
  else if op = 8 then ({ bareD op t with f2 := (textP 16 q).1, f7 := (valP (textP 16 q).2).1 }, (valP (textP 16 q).2).2)
  else (bareD op t, q)
def ddlP (q : St) : S_DDL × St := moreP (oneP 1 8 (oneP 1 1 q).2).1 (textP 16 (oneP 1 8 (oneP 1 1 q).2).2).1 (textP 16 (oneP 1 8 (oneP 1 1 q).2).2).2
def addC (d : S_DDL) : S_Column := ⟨0, d.f2, d.f5, d.f6, d.f7⟩
def moreE (d : S_DDL) : List Int :=
  if d.f0 = 1 then textE d.f4 ++ (sb d.f8.length ++ d.f8.flatMap bodyE)
  else if d.f0 = 3 then textE d.f3
  else if d.f0 = 4 then bodyE (addC d)
  else if d.f0 = 5 then textE d.f2
  else if d.f0 = 6 then textE d.f2 ++ textE d.f3
  else if d.f0 = 7 then textE d.f2 ++ kindE d.f5
  else if d.f0 = 8 then textE d.f2 ++ valE d.f7
  else []
def ddlE (d : S_DDL) : List Int := [1] ++ ([d.f0] ++ (textE d.f1 ++ moreE d))
def nE (s : ByteArray) : Bool := decide (s.size = 0)
def nT (t : S_Type) : Bool := decide (t.f0 = 0) && decide (t.f1 = 0)
/-- Nothing that the Op doesn't have. -/
def plainB (d : S_DDL) : Bool :=
  if d.f0 = 1 then d.f8.all (fun c => decide (c.f0 = 0)) && (nE d.f2 && (nE d.f3 && (nT d.f5 && (!d.f6 && zeroV d.f7))))
  else decide (d.f8.length = 0) && (nE d.f4 &&
    (if d.f0 = 2 then nE d.f2 && (nE d.f3 && (nT d.f5 && (!d.f6 && zeroV d.f7)))
    else if d.f0 = 3 then nE d.f2 && (nT d.f5 && (!d.f6 && zeroV d.f7))
    else if d.f0 = 4 then nE d.f3
    else if d.f0 = 5 then nE d.f3 && (nT d.f5 && (!d.f6 && zeroV d.f7))
    else if d.f0 = 6 then nT d.f5 && (!d.f6 && zeroV d.f7)
    else if d.f0 = 7 then nE d.f3 && (!d.f6 && zeroV d.f7)
    else if d.f0 = 8 then nE d.f3 && (nT d.f5 && !d.f6)
    else false))
/-- Can a column be written? -/
def canC (c : S_Column) : Bool := nameB c.f1 && (typB c.f2.f0 c.f2.f1 && valB c.f4.f0 c.f4.f1 c.f4.f2)
def canM (d : S_DDL) : Bool :=
  if d.f0 = 1 then d.f8.all canC && (nameB d.f4 && decide (1 ≤ d.f8.length ∧ d.f8.length ≤ 10))
  else if d.f0 = 3 then nameB d.f3
  else if d.f0 = 4 then canC (addC d)
  else if d.f0 = 5 then nameB d.f2
  else if d.f0 = 6 then nameB d.f2 && nameB d.f3
  else if d.f0 = 7 then nameB d.f2 && typB d.f5.f0 d.f5.f1
  else if d.f0 = 8 then nameB d.f2 && valB d.f7.f0 d.f7.f1 d.f7.f2
  else true
def canB (d : S_DDL) : Bool := plainB d && (nameB d.f1 && canM d)
def readddlS (s : ByteArray) : S_DDL × Int := if endP (canB (ddlP (s, 0)).1) (ddlP (s, 0)).2 = 0 then ((ddlP (s, 0)).1, 0) else (bareD 0 nilB, endP (canB (ddlP (s, 0)).1) (ddlP (s, 0)).2)
theorem nE_eq {s : ByteArray} (h : nE s = true) : s = nilB := ba_of0 s (of_decide_eq_true h)
theorem nT_eq {t : S_Type} (h : nT t = true) : t = zT := by
  unfold nT at h
  rw [Bool.and_eq_true, decide_eq_true_iff, decide_eq_true_iff] at h
  obtain ⟨a, b⟩ := t
  obtain ⟨h1, h2⟩ := h
  simp only at h1 h2
  subst h1 h2
  rfl
theorem zV_eq {v : S_Value} (h : zeroV v = true) : v = zV := by
  unfold zeroV at h
  rw [Bool.and_eq_true, Bool.and_eq_true, beq_iff_eq, beq_iff_eq] at h
  obtain ⟨a, b, c⟩ := v
  simp only at h
  have := h.2.2
  rw [nil_dec, decide_eq_true_iff] at this
  rw [h.1, h.2.1, ba_of0 c this]
  rfl
theorem canC_ok {c : S_Column} (h : canC c = true) (hw : (Lit.int .i64 c.f4.f1).wf = true) : BodyOk c := by
  unfold canC at h
  rw [Bool.and_eq_true, Bool.and_eq_true] at h
  exact ⟨name16 h.1, typ4 h.2.1, h.2.2, hw⟩
theorem moreP_fwd (d : S_DDL) (q r : St) (hp : plainB d = true) (hc : canM d = true) (hw : (Lit.int .i64 d.f7.f1).wf = true) (hws : ∀ c ∈ d.f8, (Lit.int .i64 c.f4.f1).wf = true) (ht : Takes q (moreE d) r) : moreP d.f0 d.f1 q = (d, r) := by
  obtain ⟨op, tb, co, to, ke, ty, nu, de, cs⟩ := d
  simp only at hw hws
  unfold plainB at hp
  unfold canM at hc
  unfold moreE at ht
  unfold moreP
  simp only at hp hc ht ⊢
  by_cases h1 : op = 1
  · rw [if_pos h1] at hp hc ht ⊢
    rw [Bool.and_eq_true, Bool.and_eq_true, decide_eq_true_iff] at hc
    rw [Bool.and_eq_true, Bool.and_eq_true, Bool.and_eq_true, Bool.and_eq_true, Bool.and_eq_true, Bool.not_eq_true'] at hp
    obtain ⟨p0, p1, p2, p3, p4, p5⟩ := hp
    obtain ⟨k1, k⟩ := ht.split
    obtain ⟨k2, k3⟩ := k.split
    have hk := name16 hc.2.1
    rw [textP_fwd k1 (by omega) (by omega)]
    simp only
    rw [numP_fwd k2 (by omega) (by omega)]
    simp only [Int.toNat_natCast]
    have hm := many_fwd (p := bodyP) (enc := bodyE) (ok := fun c => BodyOk c ∧ c.f0 = 0) (fun c q r h t => by
      rw [bodyP_fwd c q r h.1 t]
      obtain ⟨c0, c1, c2, c3, c4⟩ := c
      have := h.2
      simp only at this
      subst this
      rfl) cs _ r (fun c hc2 => ⟨canC_ok (List.all_eq_true.1 hc.1 c hc2) (hws c hc2), of_decide_eq_true (List.all_eq_true.1 p0 c hc2)⟩) k3
    rw [hm, nE_eq p1, nE_eq p2, nT_eq p3, p4, zV_eq p5]
    rfl
  rw [if_neg h1] at hp hc ht ⊢
  rw [Bool.and_eq_true, Bool.and_eq_true, decide_eq_true_iff] at hp
  obtain ⟨p0, p1, hp⟩ := hp
  rw [List.length_eq_zero_iff.1 p0, nE_eq p1]
  by_cases h2 : op = 2
  · subst h2
    simp only [show ¬ (2 : Int) = 3 by decide, show ¬ (2 : Int) = 4 by decide, show ¬ (2 : Int) = 5 by decide, show ¬ (2 : Int) = 6 by decide, show ¬ (2 : Int) = 7 by decide, show ¬ (2 : Int) = 8 by decide, if_false, if_true] at hp ht ⊢
    rw [Bool.and_eq_true, Bool.and_eq_true, Bool.and_eq_true, Bool.and_eq_true, Bool.not_eq_true'] at hp
    obtain ⟨p2, p3, p4, p5, p6⟩ := hp
    rw [nE_eq p2, nE_eq p3, nT_eq p4, p5, zV_eq p6, Takes.nil_eq ht]
    rfl
  rw [if_neg h2] at hp
  by_cases h3 : op = 3
  · rw [if_pos h3] at hp hc ht ⊢
    rw [Bool.and_eq_true, Bool.and_eq_true, Bool.and_eq_true, Bool.not_eq_true'] at hp
    obtain ⟨p2, p4, p5, p6⟩ := hp
    have := name16 hc
    rw [textP_fwd ht (by omega) (by omega), nE_eq p2, nT_eq p4, p5, zV_eq p6]
    rfl
  rw [if_neg h3] at hp hc ht ⊢
  by_cases h4 : op = 4
  · rw [if_pos h4] at hp hc ht ⊢
    rw [bodyP_fwd _ _ _ (canC_ok hc hw) ht, nE_eq hp]
    rfl
  rw [if_neg h4] at hp hc ht ⊢
  by_cases h5 : op = 5
  · rw [if_pos h5] at hp hc ht ⊢
    rw [Bool.and_eq_true, Bool.and_eq_true, Bool.and_eq_true, Bool.not_eq_true'] at hp
    obtain ⟨p2, p4, p5, p6⟩ := hp
    have := name16 hc
    rw [textP_fwd ht (by omega) (by omega), nE_eq p2, nT_eq p4, p5, zV_eq p6]
    rfl
  rw [if_neg h5] at hp hc ht ⊢
  by_cases h6 : op = 6
  · rw [if_pos h6] at hp hc ht ⊢
    rw [Bool.and_eq_true, Bool.and_eq_true, Bool.not_eq_true'] at hp
    rw [Bool.and_eq_true] at hc
    obtain ⟨p4, p5, p6⟩ := hp
    have g1 := name16 hc.1
    have g2 := name16 hc.2
    obtain ⟨k1, k2⟩ := ht.split
    rw [textP_fwd k1 (by omega) (by omega)]
    simp only
    rw [textP_fwd k2 (by omega) (by omega), nT_eq p4, p5, zV_eq p6]
    rfl
  rw [if_neg h6] at hp hc ht ⊢
  by_cases h7 : op = 7
  · rw [if_pos h7] at hp hc ht ⊢
    rw [Bool.and_eq_true, Bool.and_eq_true, Bool.not_eq_true'] at hp
    rw [Bool.and_eq_true] at hc
    obtain ⟨p2, p5, p6⟩ := hp
    have g1 := name16 hc.1
    obtain ⟨g2, g3, g4, g5⟩ := typ4 hc.2
    obtain ⟨k1, k2⟩ := ht.split
    rw [textP_fwd k1 (by omega) (by omega)]
    simp only
    rw [kindP_fwd k2 g2 g3 g4 g5, nE_eq p2, p5, zV_eq p6]
    rfl
  rw [if_neg h7] at hp hc ht ⊢
  by_cases h8 : op = 8
  · rw [if_pos h8] at hp hc ht ⊢
    rw [Bool.and_eq_true, Bool.and_eq_true, Bool.not_eq_true'] at hp
    rw [Bool.and_eq_true] at hc
    obtain ⟨p2, p4, p5⟩ := hp
    have g1 := name16 hc.1
    obtain ⟨k1, k2⟩ := ht.split
    rw [textP_fwd k1 (by omega) (by omega)]
    simp only
    rw [valP_fwd k2 hc.2 hw, nE_eq p2, nT_eq p4, p5]
    rfl
  rw [if_neg h8] at hp
  cases hp
theorem plain_op {d : S_DDL} (h : plainB d = true) : 1 ≤ d.f0 ∧ d.f0 ≤ 8 := by
  unfold plainB at h
  by_cases h1 : d.f0 = 1
  · omega
  rw [if_neg h1, Bool.and_eq_true, Bool.and_eq_true] at h
  have h := h.2.2
  by_cases h2 : d.f0 = 2
  · omega
  rw [if_neg h2] at h
  by_cases h3 : d.f0 = 3
  · omega
  rw [if_neg h3] at h
  by_cases h4 : d.f0 = 4
  · omega
  rw [if_neg h4] at h
  by_cases h5 : d.f0 = 5
  · omega
  rw [if_neg h5] at h
  by_cases h6 : d.f0 = 6
  · omega
  rw [if_neg h6] at h
  by_cases h7 : d.f0 = 7
  · omega
  rw [if_neg h7] at h
  by_cases h8 : d.f0 = 8
  · omega
  rw [if_neg h8] at h
  cases h
theorem ddlP_fwd (d : S_DDL) (q r : St) (h : canB d = true) (hw : (Lit.int .i64 d.f7.f1).wf = true) (hws : ∀ c ∈ d.f8, (Lit.int .i64 c.f4.f1).wf = true) (ht : Takes q (ddlE d) r) : ddlP q = (d, r) := by
  unfold canB at h
  rw [Bool.and_eq_true, Bool.and_eq_true] at h
  obtain ⟨h1, h2, h3⟩ := h
  unfold ddlE at ht
  obtain ⟨k1, k⟩ := ht.split
  obtain ⟨k2, k⟩ := k.split
  obtain ⟨k3, k4⟩ := k.split
  have hop := plain_op h1
  have hn := name16 h2
  unfold ddlP
  rw [oneP_fwd k1 (by decide) (by decide)]
  simp only
  rw [oneP_fwd k2 hop.1 hop.2]
  simp only
  rw [textP_fwd k3 (by omega) (by omega)]
  exact moreP_fwd d _ r h1 h3 hw hws k4
theorem one_need {a b : Int} {q : St} (h : (oneP a b q).2.2 = 0) : q.2 = 0 := (oneP_ok h).1
theorem body_need {q : St} (h : (bodyP q).2.2 = 0) : q.2 = 0 := by
  by_cases e : q.2 = 0
  · exact e
  · exfalso
    unfold bodyP at h
    rw [textP_bad (by decide) e] at h
    simp only at h
    rw [kindP_bad e] at h
    simp only at h
    rw [oneP_bad e] at h
    simp only at h
    rw [valP_bad e] at h
    exact e h
theorem kind_need {q : St} (h : (kindP q).2.2 = 0) : q.2 = 0 := by
  by_cases e : q.2 = 0
  · exact e
  · rw [kindP_bad e] at h
    exact absurd h e
theorem val_need {q : St} (h : (valP q).2.2 = 0) : q.2 = 0 := by
  by_cases e : q.2 = 0
  · exact e
  · rw [valP_bad e] at h
    exact absurd h e
/-- What the numbers of a change that was read are. -/
def WfD (d : S_DDL) : Prop := (Lit.int .i64 d.f7.f1).wf = true ∧ ∀ c ∈ d.f8, (Lit.int .i64 c.f4.f1).wf = true ∧ c.f1.size ≤ 16 ∧ c.f4.f2.size ≤ 120
theorem val120 {k n : Int} {s : ByteArray} (h : valB k n s = true) : s.size ≤ 120 := valB_size h
theorem one_zero {lo hi : Int} {q : St} (h : (oneP lo hi q).2.2 ≠ 0) : (oneP lo hi q).1 = 0 := by
  unfold oneP at h ⊢
  split at h
  · rename_i c1
    rw [if_pos c1]
    split at h
    · rename_i c2
      rw [if_pos c2]
    · rename_i c2
      rw [if_neg c2]
      split at h
      · rename_i c3
        rw [if_pos c3]
      · exact absurd rfl h
  · rename_i c1
    rw [if_neg c1]
theorem wf0 : (Lit.int .i64 0).wf = true := by decide
theorem moreP_back (op : Int) (t : ByteArray) (q : St) (h1 : 1 ≤ op) (h2 : op ≤ 8) (h : (moreP op t q).2.2 = 0) : q.2 = 0 ∧ Takes q (moreE (moreP op t q).1) (moreP op t q).2 ∧ (moreP op t q).1.f0 = op ∧ (moreP op t q).1.f1 = t ∧ WfD (moreP op t q).1 := by
  have hz : ∀ d : S_DDL, d.f7 = zV → d.f8 = [] → WfD d := fun d e1 e2 => ⟨by rw [e1]; exact wf0, by rw [e2]; simp⟩
  unfold moreP at h ⊢
  by_cases e1 : op = 1
  · rw [if_pos e1] at h ⊢
    simp only at h ⊢
    have n3 := many_need h
    have n2 := num_need (by decide) n3
    have n1 := text_need (by decide) n2
    obtain ⟨a1, a2⟩ := textP_back n2
    obtain ⟨b1, b2, b3⟩ := numP_back n3
    obtain ⟨c1, c2, c3⟩ := many_back (p := bodyP) (enc := bodyE) (ok := BodyOk) (fun q h => ⟨(bodyP_back q h).1, (bodyP_back q h).2.1⟩) _ _ h
    refine ⟨n1, ?_, rfl, rfl, wf0, fun c hc => ?_⟩
    · unfold moreE
      rw [if_pos (show (_ : S_DDL).f0 = 1 from e1)]
      simp only
      rw [c2]
      exact a1.trans (b1.trans c1)
    · have := c3 c hc
      exact ⟨this.2.2.2, this.1, val120 this.2.2.1⟩
  rw [if_neg e1] at h ⊢
  by_cases e3 : op = 3
  · rw [if_pos e3] at h ⊢
    simp only at h ⊢
    obtain ⟨a1, a2⟩ := textP_back h
    refine ⟨text_need (by decide) h, ?_, rfl, rfl, hz _ rfl rfl⟩
    unfold moreE bareD
    simp only
    rw [if_neg e1, if_pos e3]
    exact a1
  rw [if_neg e3] at h ⊢
  by_cases e4 : op = 4
  · rw [if_pos e4] at h ⊢
    simp only at h ⊢
    obtain ⟨a1, a2, a3⟩ := bodyP_back _ h
    refine ⟨body_need h, ?_, rfl, rfl, a2.2.2.2, fun c hc => by simp [bareD] at hc⟩
    unfold moreE bareD
    simp only
    rw [if_neg e1, if_neg e3, if_pos e4]
    exact a1
  rw [if_neg e4] at h ⊢
  by_cases e5 : op = 5
  · rw [if_pos e5] at h ⊢
    simp only at h ⊢
    obtain ⟨a1, a2⟩ := textP_back h
    refine ⟨text_need (by decide) h, ?_, rfl, rfl, hz _ rfl rfl⟩
    unfold moreE bareD
    simp only
    rw [if_neg e1, if_neg e3, if_neg e4, if_pos e5]
    exact a1
  rw [if_neg e5] at h ⊢
  by_cases e6 : op = 6
  · rw [if_pos e6] at h ⊢
    simp only at h ⊢
    have n1 := text_need (by decide) h
    obtain ⟨a1, a2⟩ := textP_back n1
    obtain ⟨b1, b2⟩ := textP_back h
    refine ⟨text_need (by decide) n1, ?_, rfl, rfl, hz _ rfl rfl⟩
    unfold moreE bareD
    simp only
    rw [if_neg e1, if_neg e3, if_neg e4, if_neg e5, if_pos e6]
    exact a1.trans b1
  rw [if_neg e6] at h ⊢
  by_cases e7 : op = 7
  · rw [if_pos e7] at h ⊢
    simp only at h ⊢
    have n1 := kind_need h
    obtain ⟨a1, a2⟩ := textP_back n1
    obtain ⟨b1, b2⟩ := kindP_back h
    refine ⟨text_need (by decide) n1, ?_, rfl, rfl, hz _ rfl rfl⟩
    unfold moreE bareD
    simp only
    rw [if_neg e1, if_neg e3, if_neg e4, if_neg e5, if_neg e6, if_pos e7]
    exact a1.trans b1
  rw [if_neg e7] at h ⊢
  by_cases e8 : op = 8
  · rw [if_pos e8] at h ⊢
    simp only at h ⊢
    have n1 := val_need h
    obtain ⟨a1, a2⟩ := textP_back n1
    obtain ⟨b1, b2, b3⟩ := valP_back h
    refine ⟨text_need (by decide) n1, ?_, rfl, rfl, b3, fun c hc => by simp [bareD] at hc⟩
    unfold moreE bareD
    simp only
    rw [if_neg e1, if_neg e3, if_neg e4, if_neg e5, if_neg e6, if_neg e7, if_pos e8]
    exact a1.trans b1
  rw [if_neg e8] at h ⊢
  refine ⟨h, ?_, rfl, rfl, hz _ rfl rfl⟩
  unfold moreE bareD
  simp only
  rw [if_neg e1, if_neg e3, if_neg e4, if_neg e5, if_neg e6, if_neg e7, if_neg e8]
  exact Takes.nil h
theorem ddlP_back (q : St) (h : (ddlP q).2.2 = 0) : Takes q (ddlE (ddlP q).1) (ddlP q).2 ∧ WfD (ddlP q).1 := by
  have hn : (oneP 1 8 (oneP 1 1 q).2).2.2 = 0 := by
    by_cases e : (oneP 1 8 (oneP 1 1 q).2).2.2 = 0
    · exact e
    · exfalso
      unfold ddlP at h
      have h0 : (oneP 1 8 (oneP 1 1 q).2).1 = 0 := one_zero e
      rw [h0] at h
      unfold moreP at h
      simp only [show ¬ (0 : Int) = 1 by decide, show ¬ (0 : Int) = 3 by decide, show ¬ (0 : Int) = 4 by decide, show ¬ (0 : Int) = 5 by decide, show ¬ (0 : Int) = 6 by decide, show ¬ (0 : Int) = 7 by decide, show ¬ (0 : Int) = 8 by decide, if_false] at h
      exact e (text_need (by decide) h)
  have hv := one_need hn
  obtain ⟨v1, v2, v3, _⟩ := oneP_back hv
  obtain ⟨o1, o2, o3, _⟩ := oneP_back hn
  unfold ddlP at h ⊢
  obtain ⟨m0, m1, m2, m3, m4⟩ := moreP_back _ _ _ o2 o3 h
  obtain ⟨t1, t2⟩ := textP_back m0
  refine ⟨?_, m4⟩
  unfold ddlE
  rw [m2, m3]
  have : (oneP 1 1 q).1 = 1 := by omega
  rw [this] at v1
  exact v1.trans (o1.trans (t1.trans m1))

theorem rrd_col (l : List S_Column) (i : Nat) (h : i < l.length) : r_Column l (i : Int) = l[i] := by simp [r_Column, rd, h]
/-- Are two lists alike, element by element? -/
def same2 {α : Type} (q : α → α → Bool) : List α → List α → Bool
  | [], _ => true
  | _ :: _, [] => false
  | x :: r, y :: s => if q x y = true then same2 q r s else false
theorem same2_refl {α : Type} (q : α → α → Bool) : ∀ l : List α, (∀ x ∈ l, q x x = true) → same2 q l l = true
  | [], _ => rfl
  | x :: r, h => by
    simp only [same2]
    rw [if_pos (h x (by simp))]
    exact same2_refl q r (fun y hy => h y (by simp [hy]))
def colEq (x y : S_Column) : Bool := x.f0 == y.f0 && (x.f1.toList == y.f1.toList && ((x.f2.f0 == y.f2.f0 && (x.f2.f1 == y.f2.f1)) && (x.f3 == y.f3 && ((x.f4.f0 == y.f4.f0 && (x.f4.f1 == y.f4.f1 && (x.f4.f2.toList == y.f4.f2.toList)))))))
theorem colEq_refl (x : S_Column) : colEq x x = true := by simp [colEq]
def colsEq (l m : List S_Column) : Bool := decide (l.length = m.length) && same2 colEq l m
theorem colsEq_refl (l : List S_Column) : colsEq l l = true := by
  unfold colsEq
  rw [same2_refl _ _ (fun x _ => colEq_refl x)]
  simp
theorem rsamecols_ev (l m : List S_Column) (hb : l.length ≤ 9223372036854775807) : Ev (fun k => haulageref08_SameCols k l m) (colsEq l m) := by
  unfold haulageref08_SameCols colsEq
  by_cases hl : l.length = m.length
  · refine Ev.congr (fun k => by rw [if_pos (by omega)]) ?_
    rw [decide_eq_true hl, Bool.true_and]
    have h := down (P := fun i => Ev (fun k => haulageref08_SameCols.l0 k l m (i : Int)) (same2 colEq (l.drop i) (m.drop i))) (n := l.length)
      (by rw [List.drop_length]; exact Ev.step (f := fun _ => some true) (fun k => by simp only [haulageref08_SameCols.l0]; rw [if_neg (by omega)]) (Ev.now _))
      (fun i hi ih => by
        rw [List.drop_eq_getElem_cons hi, List.drop_eq_getElem_cons (show i < m.length by omega)]
        refine Ev.step (f := fun k => if colEq l[i] m[i] = true then haulageref08_SameCols.l0 k l m ((i + 1 : Nat) : Int) else some false) (fun k => ?_) ?_
        · simp only [haulageref08_SameCols.l0]
          rw [if_pos (by omega), if_pos (by omega), if_pos (by omega), if_pos (by omega), if_pos (by omega), rrd_col l i hi, rrd_col m i (by omega), i64w_succ _ (by omega)]
          rfl
        · simp only [same2]
          split
          · exact ih
          · exact Ev.now _) 0 (Nat.zero_le _)
    exact h
  · rw [decide_eq_false hl, Bool.false_and]
    exact Ev.congr (f := fun _ => some false) (fun k => by rw [if_neg (by omega)]) (Ev.now _)
/-- What is known of a change. -/
def OkD (d : S_DDL) : Prop := d.f1.size ≤ 1000000000 ∧ d.f2.size ≤ 1000000000 ∧ d.f3.size ≤ 1000000000 ∧ d.f4.size ≤ 1000000000 ∧ d.f7.f2.size ≤ 1000000000 ∧ (Lit.int .i64 d.f7.f1).wf = true ∧ d.f8.length ≤ 1000000000 ∧ ∀ c ∈ d.f8, OkCol c
theorem nE_text (s : ByteArray) : (s.toList == (⟨#[]⟩ : ByteArray).toList) = nE s := by rw [nilB_toList, nil_dec]; rfl
theorem nT_text (t : S_Type) : ((t.f0 == 0) && (t.f1 == 0)) = nT t := by rw [beq_dec, beq_dec]; rfl
theorem nN_text (b : Bool) : (b == false) = !b := by cases b <;> rfl
theorem zV_text (v : S_Value) : ((v.f0 == 0) && ((v.f1 == 0) && (v.f2.toList == (⟨#[]⟩ : ByteArray).toList))) = zeroV v := zeroV_text v
theorem zV_text2 (v : S_Value) : ((v.f0 == 0) && ((v.f1 == 0) && nE v.f2)) = zeroV v := by rw [← nE_text]; exact zV_text v
theorem nE_nil : nE (⟨#[]⟩ : ByteArray) = true := rfl
theorem plain_ev (d : S_DDL) (h : d.f8.length ≤ 1000000000) : Ev (fun k => ddl_Plain k d.f0 d.f1 d.f2 d.f3 d.f4 d.f5.f0 d.f5.f1 d.f6 d.f7.f0 d.f7.f1 d.f7.f2 d.f8) (plainB d) := by
  have hl := down (P := fun i => Ev (fun k => ddl_Plain.l0 k d.f8 (d.f8.length : Int) (i : Int) d.f0 d.f1 d.f2 d.f3 d.f4 d.f5.f0 d.f5.f1 d.f6 d.f7.f0 d.f7.f1 d.f7.f2 d.f8 0 (⟨#[]⟩ : ByteArray) d.f2 d.f3 d.f4 d.f5.f0 d.f5.f1 d.f6 d.f7.f0 d.f7.f1 d.f7.f2) ((d.f8.drop i).all (fun c => decide (c.f0 = 0)) && (nE d.f2 && (nE d.f3 && (nT d.f5 && (!d.f6 && zeroV d.f7)))))) (n := d.f8.length)
    (by
      rw [List.drop_length]
      refine Ev.step (f := fun _ => some (nE d.f2 && (nE d.f3 && (nT d.f5 && (!d.f6 && zeroV d.f7))))) (fun k => ?_) (Ev.now _)
      simp only [ddl_Plain.l0]
      rw [if_neg (by omega), zV_text]
      simp only [nE_text, nT_text, nN_text, nE_nil, Bool.true_and]
      rfl)
    (fun i hi ih => by
      rw [List.drop_eq_getElem_cons hi, List.all_cons]
      refine Ev.step (f := fun k => if d.f8[i].f0 = 0 then ddl_Plain.l0 k d.f8 (d.f8.length : Int) ((i + 1 : Nat) : Int) d.f0 d.f1 d.f2 d.f3 d.f4 d.f5.f0 d.f5.f1 d.f6 d.f7.f0 d.f7.f1 d.f7.f2 d.f8 0 (⟨#[]⟩ : ByteArray) d.f2 d.f3 d.f4 d.f5.f0 d.f5.f1 d.f6 d.f7.f0 d.f7.f1 d.f7.f2 else some false) (fun k => ?_) ?_
      · simp only [ddl_Plain.l0]
        rw [if_pos (by omega), if_pos (by omega), if_pos (by omega), rrd_col _ i hi, i64w_succ _ (by omega)]
      · by_cases h0 : d.f8[i].f0 = 0
        · simp only [h0, if_true, decide_true, Bool.true_and]
          exact ih
        · simp only [h0, if_false, decide_false, Bool.false_and]
          exact Ev.now _) 0 (Nat.zero_le _)
  obtain ⟨op, tb, co, to, ke, ty, nu, de, cs⟩ := d
  simp only at hl h ⊢
  simp only [ddl_Plain, ddl_flat, Option.bind_some, nE_text, nT_text, nN_text, zV_text2, nE_nil, Bool.true_and]
  have hz : ((cs.length : Int) = 0) = (cs.length = 0) := propext ⟨fun h => by omega, fun h => by omega⟩
  simp only [hz]
  by_cases h1 : op = 1
  · subst h1
    simp only [Int.reduceEq, if_false, if_true, plainB]
    rw [List.drop_zero] at hl
    exact hl
  refine Ev.flat0 0 (fun k => ?_)
  unfold plainB
  simp only [if_neg h1]
  by_cases h2 : op = 2
  · subst h2
    by_cases hc : cs.length = 0 <;> cases nE ke <;> cases nE co <;> cases nE to <;> simp [hc]
  by_cases h3 : op = 3
  · subst h3
    by_cases hc : cs.length = 0 <;> cases nE ke <;> cases nE co <;> cases nE to <;> simp [hc]
  by_cases h4 : op = 4
  · subst h4
    by_cases hc : cs.length = 0 <;> cases nE ke <;> cases nE co <;> cases nE to <;> simp [hc]
  by_cases h5 : op = 5
  · subst h5
    by_cases hc : cs.length = 0 <;> cases nE ke <;> cases nE co <;> cases nE to <;> simp [hc]
  by_cases h6 : op = 6
  · subst h6
    by_cases hc : cs.length = 0 <;> cases nE ke <;> cases nE co <;> cases nE to <;> simp [hc]
  by_cases h7 : op = 7
  · subst h7
    by_cases hc : cs.length = 0 <;> cases nE ke <;> cases nE co <;> cases nE to <;> simp [hc]
  by_cases h8 : op = 8
  · subst h8
    by_cases hc : cs.length = 0 <;> cases nE ke <;> cases nE co <;> cases nE to <;> simp [hc]
  · simp [h2, h3, h4, h5, h6, h7, h8]
theorem names_ev (l : List ByteArray) (h : ∀ s ∈ l, s.size ≤ 1000000000) (hn : l.length ≤ 1000) : Ev (fun k => ddltext_names k l) (l.all nameB) := by
  have hl := down (P := fun i => Ev (fun k => ddltext_names.l0 k l (l.length : Int) (i : Int)) ((l.drop i).all nameB)) (n := l.length)
    (by
      rw [List.drop_length]
      exact Ev.step (f := fun _ => some true) (fun k => by simp only [ddltext_names.l0]; rw [if_neg (by omega)]) (Ev.now _))
    (fun i hi ih => by
      rw [List.drop_eq_getElem_cons hi, List.all_cons]
      have hrd : r_str l (i : Int) = l[i] := by simp [r_str, rd, hi]
      refine Ev.step (fun k => by simp only [ddltext_names.l0]; rw [if_pos (by omega), if_pos (by omega), if_pos (by omega), hrd, i64w_succ _ (by omega)]) (Ev.bind (name_ev l[i] (by have := h _ (List.getElem_mem hi); omega)) ?_)
      cases nameB l[i]
      · exact Ev.now _
      · exact ih) 0 (Nat.zero_le _)
  exact hl
theorem names1 (s : ByteArray) (h : s.size ≤ 1000000000) : Ev (fun k => ddltext_names k [s]) (nameB s) := by
  have := names_ev [s] (by simpa using h) (by simp)
  simpa using this
theorem names2 (s t : ByteArray) (h : s.size ≤ 1000000000) (h2 : t.size ≤ 1000000000) : Ev (fun k => ddltext_names k [s, t]) (nameB s && nameB t) := by
  have := names_ev [s, t] (by simpa using ⟨h, h2⟩) (by simp)
  simpa using this
theorem canc_ev (c : S_Column) (h1 : c.f1.size ≤ 1000000000) (h2 : c.f4.f2.size ≤ 1000000000) : Ev (fun k => ddltext_column k c.f0 c.f1 c.f2.f0 c.f2.f1 c.f3 c.f4.f0 c.f4.f1 c.f4.f2) (canC c) := by
  refine Ev.flat2 0 (names1 c.f1 h1) (val_ev c.f4.f0 c.f4.f1 c.f4.f2 h2) (fun m g1 g2 => ?_)
  have g1 := g1 0
  have g2 := g2 0
  simp only [Nat.add_zero] at g1 g2 ⊢
  simp only [ddltext_column, g1, g2, typ_eq, Option.bind_some, canC]
  cases nameB c.f1 <;> cases typB c.f2.f0 c.f2.f1 <;> simp
theorem canl_ev (l : List S_Column) (ke : ByteArray) (hk : ke.size ≤ 1000000000) (hl : l.length ≤ 1000000000) (hc : ∀ c ∈ l, OkCol c) (v0 : Int) (v1 v2 v3 : ByteArray) (v5 v6 : Int) (v7 : Bool) (v8 v9 : Int) (v10 : ByteArray) :
    Ev (fun k => ddltext_Can.l0 k l (l.length : Int) 0 v0 v1 v2 v3 ke v5 v6 v7 v8 v9 v10 l) (l.all canC && (nameB ke && decide (1 ≤ l.length ∧ l.length ≤ 10))) := by
  have h := down (P := fun i => Ev (fun k => ddltext_Can.l0 k l (l.length : Int) (i : Int) v0 v1 v2 v3 ke v5 v6 v7 v8 v9 v10 l) ((l.drop i).all canC && (nameB ke && decide (1 ≤ l.length ∧ l.length ≤ 10)))) (n := l.length)
    (by
      rw [List.drop_length]
      refine Ev.step (fun k => by simp only [ddltext_Can.l0]; rw [if_neg (by omega)]) (Ev.bind (names1 ke hk) ?_)
      cases nameB ke
      · exact Ev.now _
      · refine Ev.flat0 0 (fun k => ?_)
        by_cases h1 : 1 ≤ l.length
        · simp only [if_pos (show (l.length : Int) > 0 by omega), if_true, Bool.true_and]
          rw [show decide ((l.length : Int) ≤ 10) = decide (1 ≤ l.length ∧ l.length ≤ 10) from decide_eq_decide.2 (by omega)]
          rfl
        · simp only [if_neg (show ¬ (l.length : Int) > 0 by omega), if_true, Bool.true_and]
          rw [decide_eq_false (by omega)]
          rfl)
    (fun i hi ih => by
      rw [List.drop_eq_getElem_cons hi, List.all_cons]
      have hcc := hc _ (List.getElem_mem hi)
      refine Ev.step (fun k => by simp only [ddltext_Can.l0]; rw [if_pos (by omega), if_pos (by omega), if_pos (by omega), rrd_col l i hi, i64w_succ _ (by omega)]) (Ev.bind (canc_ev l[i] hcc.1 hcc.2.1) ?_)
      cases canC l[i]
      · exact Ev.now _
      · exact ih) 0 (Nat.zero_le _)
  rw [List.drop_zero] at h
  exact h
theorem can_ev (d : S_DDL) (h : OkD d) : Ev (fun k => ddltext_Can k d.f0 d.f1 d.f2 d.f3 d.f4 d.f5.f0 d.f5.f1 d.f6 d.f7.f0 d.f7.f1 d.f7.f2 d.f8) (canB d) := by
  obtain ⟨h1, h2, h3, h4, h5, _, h6, h7⟩ := h
  unfold ddltext_Can canB
  refine Ev.bind (plain_ev d h6) ?_
  cases plainB d
  · exact Ev.now _
  refine Ev.congr (fun k => if_pos rfl) (Ev.bind (names1 d.f1 h1) ?_)
  cases nameB d.f1
  · exact Ev.now _
  refine Ev.congr (fun k => if_pos rfl) ?_
  rw [Bool.true_and, Bool.true_and]
  have hv := val_ev d.f7.f0 d.f7.f1 d.f7.f2 h5
  obtain ⟨op, tb, co, to, ke, ty, nu, de, cs⟩ := d
  simp only at h1 h2 h3 h4 h5 h6 h7 hv ⊢
  unfold canM
  by_cases c1 : op = 1
  · subst c1
    simp only [Int.reduceEq, if_true]
    exact canl_ev cs ke h4 h6 h7 _ _ _ _ _ _ _ _ _ _
  simp only [if_neg c1]
  by_cases c3 : op = 3
  · subst c3
    simp only [Int.reduceEq, if_true, if_false]
    exact Ev.bind (names1 to h3) (Ev.now _)
  simp only [if_neg c3]
  by_cases c4 : op = 4
  · subst c4
    simp only [Int.reduceEq, if_true, if_false, ddltext_added, Option.bind_some]
    exact Ev.bind (canc_ev (addC ⟨4, tb, co, to, ke, ty, nu, de, cs⟩) h2 h5) (Ev.now _)
  simp only [if_neg c4]
  by_cases c5 : op = 5
  · subst c5
    simp only [Int.reduceEq, if_true, if_false]
    exact Ev.bind (names1 co h2) (Ev.now _)
  simp only [if_neg c5]
  by_cases c6 : op = 6
  · subst c6
    simp only [Int.reduceEq, if_true, if_false]
    exact Ev.bind (names2 co to h2 h3) (Ev.now _)
  simp only [if_neg c6]
  by_cases c7 : op = 7
  · subst c7
    simp only [Int.reduceEq, if_true, if_false]
    refine Ev.bind (names1 co h2) ?_
    cases nameB co
    · exact Ev.now _
    · exact Ev.congr (f := fun _ => some (typB ty.f0 ty.f1)) (fun k => by rw [if_pos rfl, typ_eq]; rfl) (Ev.now _)
  simp only [if_neg c7]
  by_cases c8 : op = 8
  · subst c8
    simp only [Int.reduceEq, if_true, if_false]
    refine Ev.bind (names1 co h2) ?_
    cases nameB co
    · exact Ev.now _
    · exact Ev.congr (fun k => if_pos rfl) (Ev.bind hv (Ev.now _))
  simp only [if_neg c8]
  exact Ev.now _

abbrev DT := Int × ByteArray × ByteArray × ByteArray × ByteArray × Int × Int × Bool × Int × Int × ByteArray × List S_Column
def tupD (d : S_DDL) : DT := (d.f0, d.f1, d.f2, d.f3, d.f4, d.f5.f0, d.f5.f1, d.f6, d.f7.f0, d.f7.f1, d.f7.f2, d.f8)
/-- What a change comes to that was read up to q. -/
def ddlF (p : S_DDL × St) : DT × Int := if endP (canB p.1) p.2 = 0 then (tupD p.1, 0) else (tupD (bareD 0 nilB), endP (canB p.1) p.2)
theorem readddl_F (s : ByteArray) : ddlF (ddlP (s, 0)) = (tupD (readddlS s).1, (readddlS s).2) := by
  unfold ddlF readddlS
  split <;> rfl
theorem okV (q : St) : (valP q).1.f2.size ≤ 120 ∧ (Lit.int .i64 (valP q).1.f1).wf = true := by
  unfold valP
  split
  · have hr := raw_range (oneP 0 4 q).2
    have hz := zagS_range (rawP (oneP 0 4 q).2).1 hr.1 hr.2
    exact ⟨Nat.zero_le _, i64_wf hz.1 hz.2⟩
  · split
    · have := text_size 120 (by decide) (oneP 0 4 q).2
      exact ⟨by simp only; omega, wf0⟩
    · exact ⟨Nat.zero_le _, wf0⟩
theorem okT (q : St) : (textP 16 q).1.size ≤ 16 := by
  have := text_size 16 (by decide) q
  omega
theorem okC (q : St) : OkCol (bodyP q).1 := by
  have h1 := okT q
  have h2 := okV (oneP 0 1 (kindP (textP 16 q).2).2).2
  exact ⟨by show (textP 16 q).1.size ≤ _; omega, by show (valP _).1.f2.size ≤ _; omega, h2.2⟩
theorem okL : ∀ (n : Nat) (q : St), ((manyP bodyP n q).1.length ≤ n ∧ ∀ c ∈ (manyP bodyP n q).1, OkCol c)
  | 0, q => ⟨by simp [manyP], by simp [manyP]⟩
  | n + 1, q => by
    have ih := okL n (bodyP q).2
    simp only [manyP]
    split
    · refine ⟨by simp only [List.length_cons]; omega, fun c hc => ?_⟩
      rcases List.mem_cons.1 hc with e | e
      · rw [e]; exact okC q
      · exact ih.2 c e
    · exact ⟨by simp, by simp⟩
theorem ok_more (op : Int) (t : ByteArray) (ht : t.size ≤ 16) (q : St) : OkD (moreP op t q).1 := by
  have n0 : nilB.size ≤ 1000000000 := by decide
  have bare : ∀ op, OkD (bareD op t) := fun op => ⟨by show t.size ≤ _; omega, n0, n0, n0, n0, wf0, Nat.zero_le _, by simp [bareD]⟩
  unfold moreP
  split
  · have h1 := okT q
    have h2 := okL (numP 10 (textP 16 q).2).1.toNat (numP 10 (textP 16 q).2).2
    have h3 := num_range (m := 10) (by decide) (textP 16 q).2
    exact ⟨by show t.size ≤ _; omega, n0, n0, by show (textP 16 q).1.size ≤ _; omega, n0, wf0, by show (manyP bodyP _ _).1.length ≤ _; omega, h2.2⟩
  split
  · have h1 := okT q
    exact ⟨by show t.size ≤ _; omega, n0, by show (textP 16 q).1.size ≤ _; omega, n0, n0, wf0, Nat.zero_le _, by simp [bareD]⟩
  split
  · have h1 := okC q
    exact ⟨by show t.size ≤ _; omega, h1.1, n0, n0, h1.2.1, h1.2.2, Nat.zero_le _, by simp [bareD]⟩
  split
  · have h1 := okT q
    exact ⟨by show t.size ≤ _; omega, by show (textP 16 q).1.size ≤ _; omega, n0, n0, n0, wf0, Nat.zero_le _, by simp [bareD]⟩
  split
  · have h1 := okT q
    have h2 := okT (textP 16 q).2
    exact ⟨by show t.size ≤ _; omega, by show (textP 16 q).1.size ≤ _; omega, by show (textP 16 (textP 16 q).2).1.size ≤ _; omega, n0, n0, wf0, Nat.zero_le _, by simp [bareD]⟩
  split
  · have h1 := okT q
    exact ⟨by show t.size ≤ _; omega, by show (textP 16 q).1.size ≤ _; omega, n0, n0, n0, wf0, Nat.zero_le _, by simp [bareD]⟩
  split
  · have h1 := okT q
    have h2 := okV (textP 16 q).2
    exact ⟨by show t.size ≤ _; omega, by show (textP 16 q).1.size ≤ _; omega, n0, n0, by show (valP _).1.f2.size ≤ _; omega, h2.2, Nat.zero_le _, by simp [bareD]⟩
  · exact bare op
theorem dend_ev1 (s : ByteArray) (q : St) (h : At1 s q) (d : S_DDL) (hd : OkD d) : ∃ s' e, Ev (fun k => catcode_reader_end_1 k s q.2 d.f0 d.f1 d.f2 d.f3 d.f4 d.f5.f0 d.f5.f1 d.f6 d.f7.f0 d.f7.f1 d.f7.f2 d.f8) (endP (canB d) q, (s', e), tupD d) := by
  by_cases hq : q.2 = 0
  · have hs := h.2 hq
    have hR := can_ev d hd
    by_cases hz : q.1.size = 0
    · refine ⟨s, if canB d = true then 0 else 5, Ev.flat1 0 hR (fun m h1 => ?_)⟩
      have h1 := h1 0
      simp only [Nat.add_zero] at h1 ⊢
      simp only [catcode_reader_end_1, ba_nil0]
      cases hc : canB d <;> simp [catcode_ReadDDL_1, h1, fail_eq, hs, hz, hq, endP, hc, tupD]
    · refine ⟨s, 6, Ev.flat0 0 (fun m => ?_)⟩
      simp only [catcode_reader_end_1, ba_nil0]
      simp [fail_eq, hs, hz, hq, endP, fl_two, tupD]
  · refine ⟨s, q.2, Ev.flat0 0 (fun m => ?_)⟩
    have he : endP (canB d) q = q.2 := by
      unfold endP
      rw [fl_bad hq]
      simp [hq]
    rw [he]
    simp only [catcode_reader_end_1, ba_nil0]
    by_cases hz : s.size = 0 <;> simp [fail_eq, hz, hq, tupD]
theorem dfin_ev1 (s : ByteArray) (q : St) (h : At1 s q) (d : S_DDL) (hd : OkD d) : Ev (fun k => (catcode_reader_end_1 k s q.2 d.f0 d.f1 d.f2 d.f3 d.f4 d.f5.f0 d.f5.f1 d.f6 d.f7.f0 d.f7.f1 d.f7.f2 d.f8).bind fun t => if t.1 = 0 then some ((t.2.2.1, t.2.2.2.1, t.2.2.2.2.1, t.2.2.2.2.2.1, t.2.2.2.2.2.2.1, t.2.2.2.2.2.2.2.1, t.2.2.2.2.2.2.2.2.1, t.2.2.2.2.2.2.2.2.2.1, t.2.2.2.2.2.2.2.2.2.2.1, t.2.2.2.2.2.2.2.2.2.2.2.1, t.2.2.2.2.2.2.2.2.2.2.2.2.1, t.2.2.2.2.2.2.2.2.2.2.2.2.2), 0) else some ((0, (⟨#[]⟩ : ByteArray), (⟨#[]⟩ : ByteArray), (⟨#[]⟩ : ByteArray), (⟨#[]⟩ : ByteArray), 0, 0, false, 0, 0, (⟨#[]⟩ : ByteArray), []), t.1)) (ddlF (d, q)) := by
  obtain ⟨s', e', r⟩ := dend_ev1 s q h d hd
  refine Ev.bind r ?_
  show Ev _ (if endP (canB d) q = 0 then (tupD d, 0) else (tupD (bareD 0 nilB), endP (canB d) q))
  by_cases e : endP (canB d) q = 0
  · exact Ev.eq (Ev.congr (f := fun _ => some (tupD d, 0)) (fun k => by simp only [if_pos e]) (Ev.now _)) (if_pos e).symm
  · exact Ev.eq (Ev.congr (f := fun _ => some (tupD (bareD 0 nilB), endP (canB d) q)) (fun k => by simp only [if_neg e]; rfl) (Ev.now _)) (if_neg e).symm
theorem ddl_l0 (tb ke : ByteArray) (h1 : tb.size ≤ 16) (h2 : ke.size ≤ 16) : ∀ (n : Nat) (s : ByteArray) (q : St) (acc : List S_Column), At1 s q → acc.length + n ≤ 1000 → (∀ c ∈ acc, OkCol c) →
    Ev (fun k => catcode_ReadDDL.l0 k (n : Int) 0 (⟨#[]⟩ : ByteArray) (⟨#[]⟩ : ByteArray) (⟨#[]⟩ : ByteArray) (⟨#[]⟩ : ByteArray) 0 0 false 0 0 (⟨#[]⟩ : ByteArray) [] s q.2 1 tb (⟨#[]⟩ : ByteArray) (⟨#[]⟩ : ByteArray) ke 0 0 false 0 0 (⟨#[]⟩ : ByteArray) acc)
      (ddlF ({ bareD 1 tb with f4 := ke, f8 := acc ++ (manyP bodyP n q).1 }, (manyP bodyP n q).2)) := by
  have hfin : ∀ (s : ByteArray) (q : St) (acc : List S_Column), At1 s q → acc.length ≤ 1000 → (∀ c ∈ acc, OkCol c) → ∀ n : Int, ¬ (n > 0 ∧ q.2 = 0) →
      Ev (fun k => catcode_ReadDDL.l0 k n 0 (⟨#[]⟩ : ByteArray) (⟨#[]⟩ : ByteArray) (⟨#[]⟩ : ByteArray) (⟨#[]⟩ : ByteArray) 0 0 false 0 0 (⟨#[]⟩ : ByteArray) [] s q.2 1 tb (⟨#[]⟩ : ByteArray) (⟨#[]⟩ : ByteArray) ke 0 0 false 0 0 (⟨#[]⟩ : ByteArray) acc) (ddlF ({ bareD 1 tb with f4 := ke, f8 := acc }, q)) := by
    intro s q acc h hl ha n hn
    have n0 : nilB.size ≤ 1000000000 := by decide
    refine Ev.step (fun k => ?_) (dfin_ev1 s q h { bareD 1 tb with f4 := ke, f8 := acc } ⟨by show tb.size ≤ _; omega, n0, n0, by show ke.size ≤ _; omega, n0, wf0, by show acc.length ≤ _; omega, ha⟩)
    simp only [catcode_ReadDDL.l0, Int.reduceEq, if_false]
    by_cases c1 : n > 0
    · rw [if_pos c1, if_neg (fun e => hn ⟨c1, e⟩)]; rfl
    · rw [if_neg c1]; rfl
  intro n
  induction n with
  | zero =>
    intro s q acc h hl ha
    simp only [manyP, List.append_nil]
    exact hfin s q acc h (by omega) ha _ (by omega)
  | succ n ih =>
    intro s q acc h hl ha
    by_cases e : q.2 = 0
    · obtain ⟨s1, b1, b2⟩ := body_ev1 s q h
      have := ih s1 (bodyP q).2 (acc ++ [(bodyP q).1]) b2 (by simp; omega) (fun c hc => by
        rcases List.mem_append.1 hc with e | e
        · exact ha c e
        · rw [List.mem_singleton] at e; rw [e]; exact okC q)
      simp only [manyP, if_pos e]
      rw [List.append_assoc] at this
      refine Ev.step (fun k => by simp only [catcode_ReadDDL.l0]; rw [if_pos (by omega), if_pos e]) (Ev.bind b1 ?_)
      refine Ev.congr (fun k => ?_) this
      rw [if_pos (by omega), show IntKind.i64.wrap (((n + 1 : Nat) : Int) - 1) = (n : Int) by rw [i64w _ (by omega) (by omega)]; omega]
      rfl
    · rw [manyP_bad e, List.append_nil]
      exact hfin s q acc h (by omega) ha _ (fun c => e c.2)
theorem readddl_ev1 (s : ByteArray) (hs : s.size ≤ 1000000000) : Ev (fun k => catcode_ReadDDL k s) (ddlF (ddlP (s, 0))) := by
  have h : At1 s (s, 0) := ⟨hs, fun _ => rfl⟩
  obtain ⟨s1, a1, a2⟩ := one_eq1 1 1 s (s, 0) h
  obtain ⟨s2, b1, b2⟩ := one_eq1 1 8 s1 _ a2
  obtain ⟨s3, c1, c2⟩ := text_ev1 16 (by decide) (by decide) s2 _ b2
  have hr := one_range (lo := 1) (hi := 8) (oneP 1 1 (s, 0)).2
  have ht := okT (oneP 1 8 (oneP 1 1 (s, 0)).2).2
  unfold catcode_ReadDDL ddlP
  simp only at a1
  simp only [a1, Option.bind_some, b1]
  generalize oneP 1 8 (oneP 1 1 (s, 0)).2 = o at *
  obtain ⟨op, q2⟩ := o
  simp only at c1 c2 hr ht ⊢
  have hw : IntKind.i64.wrap op = op := i64w _ (by omega) (by omega)
  simp only [hw]
  refine Ev.bind c1 ?_
  have hm := ok_more op (textP 16 q2).1 ht (textP 16 q2).2
  generalize textP 16 q2 = t at *
  obtain ⟨tn, q3⟩ := t
  simp only at c2 ht hm ⊢
  obtain ⟨t1, d1, d2⟩ := text_ev1 16 (by decide) (by decide) s3 q3 c2
  have hk : op = 0 ∨ op = 1 ∨ op = 2 ∨ op = 3 ∨ op = 4 ∨ op = 5 ∨ op = 6 ∨ op = 7 ∨ op = 8 := by omega
  rcases hk with e | e | e | e | e | e | e | e | e
  · subst e
    simp only [moreP, Int.reduceEq, if_false, if_true] at hm ⊢
    exact dfin_ev1 s3 q3 c2 _ hm
  · subst e
    obtain ⟨t2, e1, e2⟩ := num_ev1 10 (by decide) (by decide) t1 _ d2
    have hn := num_range (m := 10) (by decide) (textP 16 q3).2
    have hk := okT q3
    simp only [moreP, Int.reduceEq, if_false, if_true] at hm ⊢
    refine Ev.bind d1 (Ev.bind e1 ?_)
    have := ddl_l0 tn (textP 16 q3).1 ht hk (numP 10 (textP 16 q3).2).1.toNat t2 _ [] e2 (by simp; omega) (by simp)
    rw [Int.toNat_of_nonneg hn.1, List.nil_append] at this
    exact this
  · subst e
    simp only [moreP, Int.reduceEq, if_false, if_true] at hm ⊢
    exact dfin_ev1 s3 q3 c2 _ hm
  · subst e
    simp only [moreP, Int.reduceEq, if_false, if_true] at hm ⊢
    exact Ev.bind d1 (dfin_ev1 t1 _ d2 _ hm)
  · subst e
    obtain ⟨t2, e1, e2⟩ := body_ev1 s3 q3 c2
    simp only [moreP, Int.reduceEq, if_false, if_true] at hm ⊢
    exact Ev.bind e1 (dfin_ev1 t2 _ e2 _ hm)
  · subst e
    simp only [moreP, Int.reduceEq, if_false, if_true] at hm ⊢
    exact Ev.bind d1 (dfin_ev1 t1 _ d2 _ hm)
  · subst e
    obtain ⟨t2, e1, e2⟩ := text_ev1 16 (by decide) (by decide) t1 _ d2
    simp only [moreP, Int.reduceEq, if_false, if_true] at hm ⊢
    exact Ev.bind d1 (Ev.bind e1 (dfin_ev1 t2 _ e2 _ hm))
  · subst e
    obtain ⟨t2, e1, e2⟩ := kind_ev1 t1 _ d2
    simp only [moreP, Int.reduceEq, if_false, if_true] at hm ⊢
    exact Ev.bind d1 (Ev.bind e1 (dfin_ev1 t2 _ e2 _ hm))
  · subst e
    obtain ⟨t2, e1, e2⟩ := value_ev1 t1 _ d2
    simp only [moreP, Int.reduceEq, if_false, if_true] at hm ⊢
    exact Ev.bind d1 (Ev.bind e1 (dfin_ev1 t2 _ e2 _ hm))

/-- Are two changes alike? -/
def sameD (d e : S_DDL) : Bool := (d.f0 == e.f0) && ((d.f1.toList == e.f1.toList) && ((d.f2.toList == e.f2.toList) && ((d.f3.toList == e.f3.toList) && ((d.f4.toList == e.f4.toList) && (((d.f5.f0 == e.f5.f0) && (d.f5.f1 == e.f5.f1)) && ((d.f6 == e.f6) && (((d.f7.f0 == e.f7.f0) && ((d.f7.f1 == e.f7.f1) && (d.f7.f2.toList == e.f7.f2.toList))) && colsEq d.f8 e.f8)))))))
theorem sameD_refl (d : S_DDL) : sameD d d = true := by simp [sameD, colsEq_refl]
theorem if_and {p : Prop} [Decidable p] (b : Bool) : (if p then some b else some false) = some (decide p && b) := by
  by_cases h : p <;> simp [h]
theorem rsameD_ev (d e : S_DDL) (h : d.f8.length ≤ 1000000000) : Ev (fun k => haulageref09_Same k d.f0 d.f1 d.f2 d.f3 d.f4 d.f5.f0 d.f5.f1 d.f6 d.f7.f0 d.f7.f1 d.f7.f2 d.f8 e.f0 e.f1 e.f2 e.f3 e.f4 e.f5.f0 e.f5.f1 e.f6 e.f7.f0 e.f7.f1 e.f7.f2 e.f8) (sameD d e) := by
  refine Ev.flat1 0 (rsamecols_ev d.f8 e.f8 (by omega)) (fun m h1 => ?_)
  have h1 := h1 0
  simp only [Nat.add_zero] at h1 ⊢
  simp only [haulageref09_Same, h1, Option.bind_some, if_and, sameD]
  congr 1
  simp only [← Bool.beq_eq_decide_eq]
  simp [beq_dec]
theorem ok_read (s : ByteArray) : OkD (readddlS s).1 := by
  have n0 : nilB.size ≤ 1000000000 := by decide
  unfold readddlS
  split
  · exact ok_more _ _ (okT _) _
  · exact ⟨n0, n0, n0, n0, n0, wf0, Nat.zero_le _, by simp [bareD]⟩

theorem fit_kind {tk tm vk vn : Int} {vs : ByteArray} (h : fitB tk tm vk vn vs = true) : vk = tk ∧ (tk = 1 ∨ tk = 2 ∨ tk = 3 ∨ tk = 4) := by
  unfold fitB at h
  rw [Bool.and_eq_true, Bool.and_eq_true, decide_eq_true_iff] at h
  refine ⟨h.2.1, ?_⟩
  have := h.1
  unfold typB at this
  split at this
  · omega
  · split at this
    · omega
    · cases this

theorem fit_parts {tk tm vk vn : Int} {vs : ByteArray} (h : fitB tk tm vk vn vs = true) : typB tk tm = true ∧ vk = tk ∧ valB vk vn vs = true ∧ (tk < 3 ∨ (vs.size : Int) ≤ tm) := by
  unfold fitB at h
  rw [Bool.and_eq_true, Bool.and_eq_true, Bool.and_eq_true, Bool.or_eq_true, decide_eq_true_iff, decide_eq_true_iff, decide_eq_true_iff] at h
  exact ⟨h.1, h.2.1, h.2.2.1, h.2.2.2⟩
theorem val_int {k n : Int} {s : ByteArray} (h : valB k n s = true) (hk : k = 1 ∨ k = 2) : s = ⟨#[]⟩ := by
  unfold valB at h
  rcases hk with e | e
  · subst e
    rw [if_neg (by decide), if_pos rfl, Bool.and_eq_true, decide_eq_true_iff] at h
    exact ba_of0 s h.2
  · subst e
    rw [if_neg (by decide), if_neg (by decide), if_pos rfl, decide_eq_true_iff] at h
    exact ba_of0 s h
theorem val_text {k n : Int} {s : ByteArray} (h : valB k n s = true) (hk : k = 3 ∨ k = 4) : n = 0 ∧ s.size ≤ 120 ∧ (k = 3 → utfB s = true) := by
  unfold valB at h
  rcases hk with e | e
  · subst e
    rw [if_neg (by decide), if_neg (by decide), if_neg (by decide), if_pos rfl, Bool.and_eq_true, Bool.and_eq_true, decide_eq_true_iff, decide_eq_true_iff] at h
    exact ⟨h.1, h.2.1, fun _ => h.2.2⟩
  · subst e
    rw [if_neg (by decide), if_neg (by decide), if_neg (by decide), if_neg (by decide), if_pos rfl, Bool.and_eq_true, decide_eq_true_iff, decide_eq_true_iff] at h
    exact ⟨h.1, h.2, fun e => absurd e (by decide)⟩
theorem readS_one (kd mx : Int) (v : S_Value) (hv : OkVal v) (hf : fitB kd mx v.f0 v.f1 v.f2 = true) (z : ByteArray) : readS kd mx (strOfNums (oneV v) ++ z) = (v, ((oneV v).length : Int), 0) := by
  have hw := wf64 hv.2
  obtain ⟨ht, hk, hvb, hsz⟩ := fit_parts hf
  obtain ⟨v0, v1, v2⟩ := v
  simp only at hf hk hvb hsz hw hv
  subst hk
  rcases typ_cases ht with h1 | ⟨h1, h2, h3, h4⟩
  · have e2 := val_int hvb h1
    subst e2
    have hr := zigS_range v1 hw.1 hw.2
    have ho : oneV ⟨v0, v1, ⟨#[]⟩⟩ = sb (zigS v1).toNat := by unfold oneV; rw [if_pos h1]
    have hL := longS_sb (zigS v1).toNat (by omega) z
    rw [ho]
    unfold readS
    rw [hL]
    simp only
    rw [if_pos trivial, if_pos h1, show (((zigS v1).toNat : Nat) : Int) = zigS v1 by omega, zag_zig, if_pos hf]
  · obtain ⟨e1, e2, e3⟩ := val_text hvb h2
    subst e1
    have ho : oneV ⟨v0, 0, v2⟩ = sb v2.size ++ byt v2 := by unfold oneV; rw [if_neg h1]
    have hs : strOfNums (sb v2.size ++ byt v2) ++ z = strOfNums (sb v2.size) ++ (v2 ++ z) := by rw [strOfNums_append, str_byt, ByteArray.append_assoc]
    have hL := longS_sb v2.size (by omega) (v2 ++ z)
    have hx : (strOfNums (sb v2.size) ++ (v2 ++ z)).extract (sb v2.size).length ((sb v2.size).length + v2.size) = v2 := by
      apply byt_inj
      rw [byt_extract, byt_append, byt_append, byt_str (sb_bytes _), List.drop_left, Nat.add_sub_cancel_left, ← byt_len v2, List.take_left]
    have hsize : (strOfNums (sb v2.size) ++ (v2 ++ z)).size = (sb v2.size).length + (v2.size + z.size) := by rw [ByteArray.size_append, ByteArray.size_append, strOfNums_size]
    rw [ho, hs]
    unfold readS
    rw [hL]
    simp only
    rw [if_pos trivial, if_neg h1, if_neg (show ¬ mx < (v2.size : Int) by omega), if_neg (by rw [hsize]; omega), Int.toNat_natCast, show (((sb v2.size).length : Int) + (v2.size : Int)).toNat = (sb v2.size).length + v2.size by omega, hx,
      if_neg (show ¬ (v0 = 3 ∧ utfB v2 = false) from fun e => by rw [e3 e.1] at e; exact absurd e.2 (by decide)), List.length_append, byt_len]
    simp
theorem readS_back (kd mx : Int) (s : ByteArray) (ht : typB kd mx = true) (hs : s.size ≤ 1000000000) (h : (readS kd mx s).2.2 = 0) :
    fitB kd mx (readS kd mx s).1.f0 (readS kd mx s).1.f1 (readS kd mx s).1.f2 = true ∧ (readS kd mx s).1.f0 = kd ∧ strOfNums (oneV (readS kd mx s).1) ++ s.extract (readS kd mx s).2.1.toNat s.size = s ∧ OkVal (readS kd mx s).1 := by
  by_cases h0 : (longS s).2.2 = 0
  · obtain ⟨m, e1, h1, h2, h3, h4, h5, h6, h7⟩ := longS_ok s h0
    have hb := longS_back s m e1 h2 h5 h6 h7
    generalize hV : val s (m + 1) = V at *
    obtain ⟨N, rfl⟩ := Int.eq_ofNat_of_zero_le h3
    rw [Int.toNat_natCast] at hb
    unfold readS at h ⊢
    rw [e1] at h ⊢
    simp only at h ⊢
    rw [if_pos trivial] at h ⊢
    rcases typ_cases ht with hk | ⟨hk, hk2, hm1, hm2⟩
    · rw [if_pos hk] at h ⊢
      by_cases hf : fitB kd mx kd (zagS (N : Int)) ⟨#[]⟩ = true
      · rw [if_pos hf]
        simp only
        have ho : oneV ⟨kd, zagS (N : Int), ⟨#[]⟩⟩ = sb N := by
          unfold oneV
          rw [if_pos hk]
          simp only
          rw [zig_zag _ (by omega), Int.toNat_natCast]
        have hzr := zagS_range (N : Int) (by omega) (by omega)
        refine ⟨hf, trivial, ?_, by simp [ByteArray.size], i64_wf hzr.1 hzr.2⟩
        rw [ho, Int.toNat_natCast]
        exact cjoin s (m + 1) _ hb
      · rw [if_neg hf] at h
        exact absurd h (by decide)
    · rw [if_neg hk] at h ⊢
      by_cases hx : mx < (N : Int)
      · rw [if_pos hx] at h
        exact absurd h (by decide)
      rw [if_neg hx] at h ⊢
      by_cases hy : (s.size : Int) - ((m + 1 : Nat) : Int) < (N : Int)
      · rw [if_pos hy] at h
        exact absurd h (by decide)
      rw [if_neg hy] at h ⊢
      have hz : (((m + 1 : Nat) : Int) + (N : Int)).toNat = m + 1 + N := by omega
      rw [hz, Int.toNat_natCast] at h ⊢
      by_cases hu : kd = 3 ∧ utfB (s.extract (m + 1) (m + 1 + N)) = false
      · rw [if_pos hu] at h
        exact absurd h (by decide)
      rw [if_neg hu]
      simp only
      have hsz : (s.extract (m + 1) (m + 1 + N)).size = N := by
        rw [← byt_len, byt_extract, List.length_take, List.length_drop, byt_len]
        omega
      have ho : oneV ⟨kd, 0, s.extract (m + 1) (m + 1 + N)⟩ = sb N ++ byt (s.extract (m + 1) (m + 1 + N)) := by
        unfold oneV
        rw [if_neg hk]
        simp only
        rw [hsz]
      refine ⟨?_, trivial, ?_, by rw [hsz]; omega, (by decide : (Lit.int IntKind.i64 0).wf = true)⟩
      · unfold fitB
        rw [ht, decide_eq_true rfl, hsz, Bool.true_and, Bool.true_and, Bool.and_eq_true, Bool.or_eq_true, decide_eq_true_iff, decide_eq_true_iff]
        refine ⟨?_, .inr (by omega)⟩
        unfold valB
        rcases hk2 with e | e
        · subst e
          rw [if_neg (by decide), if_neg (by decide), if_neg (by decide), if_pos rfl, hsz]
          have : utfB (s.extract (m + 1) (m + 1 + N)) = true := by
            cases hq : utfB (s.extract (m + 1) (m + 1 + N))
            · exact absurd ⟨rfl, hq⟩ hu
            · rfl
          rw [this, decide_eq_true rfl, decide_eq_true (by omega)]
          rfl
        · subst e
          rw [if_neg (by decide), if_neg (by decide), if_neg (by decide), if_neg (by decide), if_pos rfl, hsz, decide_eq_true rfl, decide_eq_true (by omega)]
          rfl
      · rw [ho, hz]
        apply byt_inj
        rw [byt_append, byt_str ((sb_bytes _).append (byt_bytes _)), byt_extract, byt_cut, hb, Nat.add_sub_cancel_left, List.append_assoc, show List.drop (m + 1 + N) (byt s) = List.drop N (List.drop (m + 1) (byt s)) from (List.drop_drop).symm, List.take_append_drop, List.take_append_drop]
  · unfold readS at h
    rw [if_neg h0] at h
    exact absurd h h0
theorem mapN_bit : ∀ (l : List S_Value) (j : Nat) (h : j < l.length), mapN l / 2 ^ j % 2 = (if l[j].f0 = 0 then 1 else 0)
  | [], j, h => by simp at h
  | v :: r, 0, _ => by
    simp only [mapN, Int.pow_zero, Int.ediv_one, List.getElem_cons_zero]
    split <;> omega
  | v :: r, j + 1, h => by
    have ih := mapN_bit r j (by simpa using h)
    simp only [mapN, List.getElem_cons_succ]
    rw [← ih, Int.pow_succ, Int.mul_comm (2 ^ j) 2, ← Int.ediv_ediv_of_nonneg (by decide)]
    congr 2
    split <;> omega
theorem mapN_of : ∀ (l : List S_Value) (b : Int), 0 ≤ b → b < 2 ^ l.length → (∀ (k : Nat) (h : k < l.length), (l[k].f0 = 0 ↔ b / 2 ^ k % 2 = 1)) → mapN l = b
  | [], b, h0, h1, _ => by
    simp only [List.length_nil, Int.pow_zero] at h1
    simp only [mapN]
    omega
  | v :: r, b, h0, h1, h => by
    have hv := h 0 (by simp)
    simp only [List.getElem_cons_zero, Int.pow_zero, Int.ediv_one] at hv
    simp only [List.length_cons, Int.pow_succ] at h1
    have ih := mapN_of r (b / 2) (by omega) (by omega) (fun k hk => by
      have := h (k + 1) (by simpa using hk)
      simp only [List.getElem_cons_succ] at this
      rw [this, Int.pow_succ, Int.mul_comm (2 ^ k) 2, ← Int.ediv_ediv_of_nonneg (by decide)])
    simp only [mapN, ih]
    by_cases e : v.f0 = 0
    · rw [if_pos e]
      have := hv.1 e
      omega
    · rw [if_neg e]
      have : ¬ b % 2 = 1 := fun q => e (hv.2 q)
      omega
theorem ck_get (row : List S_Value) (j k : Nat) (h : k < (ck row row.length j).length) : ∃ h2 : 8 * j + k < row.length, (ck row row.length j)[k] = row[8 * j + k] := by
  have hl : (ck row row.length j).length = min 8 (row.length - 8 * j) := by unfold ck; rw [List.length_take, List.length_drop, List.take_length]
  refine ⟨by omega, ?_⟩
  simp only [ck, List.getElem_take, List.getElem_drop]
theorem bt_str (l : List Int) (z : ByteArray) (j : Nat) (hb : Bytes l) (hj : j < l.length) : bt (strOfNums l ++ z) (j : Int) = l[j] := by
  rw [bt_byt _ _ (by rw [ByteArray.size_append, strOfNums_size]; omega)]
  simp only [byt_append, byt_str hb]
  rw [List.getElem_append_left]
def valsL (row : List S_Value) : List Int := row.flatMap fun v => if v.f0 = 0 then [] else oneV v
theorem encS_eq (row : List S_Value) : encS row = mapM row row.length ((row.length + 7) / 8) ++ valsL row := by
  unfold encS valsT valsL
  rw [List.take_length]
theorem bit_enc (row : List S_Value) (z : ByteArray) (i : Nat) (hi : i < row.length) : bitS (strOfNums (mapM row row.length ((row.length + 7) / 8)) ++ z) i = 1 ↔ row[i].f0 = 0 := by
  unfold bitS
  rw [bt_str _ _ _ (mapM_bytes _ _ _) (by rw [mapM_len]; omega)]
  have hg : (mapM row row.length ((row.length + 7) / 8))[i / 8]'(by rw [mapM_len]; omega) = mapN (ck row row.length (i / 8)) := by simp [mapM]
  have hl : (ck row row.length (i / 8)).length = min 8 (row.length - 8 * (i / 8)) := by unfold ck; rw [List.length_take, List.length_drop, List.take_length]
  obtain ⟨h2, h3⟩ := ck_get row (i / 8) (i % 8) (by omega)
  rw [hg, mapN_bit _ (i % 8) (by omega), h3]
  have e : row[8 * (i / 8) + i % 8] = row[i] := by congr 1; omega
  rw [e]
  split
  · rename_i q; simp [q]
  · rename_i q; simp [q]
theorem sp_enc (row : List S_Value) (z : ByteArray) : spB (strOfNums (mapM row row.length ((row.length + 7) / 8)) ++ z) row.length = false := by
  unfold spB
  rw [decide_eq_false_iff_not]
  rintro ⟨h1, h2⟩
  apply h2
  rw [bt_str _ _ _ (mapM_bytes _ _ _) (by rw [mapM_len]; omega)]
  have hg : (mapM row row.length ((row.length + 7) / 8))[row.length / 8]'(by rw [mapM_len]; omega) = mapN (ck row row.length (row.length / 8)) := by simp [mapM]
  have hr := mapN_range (ck row row.length (row.length / 8))
  rw [ck_at row row.length (Nat.le_refl _)] at hr
  rw [hg]
  exact Int.ediv_eq_zero_of_lt hr.1 hr.2
theorem nil_of {v : S_Value} (h : zeroV v = true) : v = nilV := by
  unfold zeroV at h
  rw [Bool.and_eq_true, Bool.and_eq_true, beq_iff_eq, beq_iff_eq, beq_iff_eq] at h
  obtain ⟨a, b, c⟩ := v
  simp only at h
  have := ba_of0 c ((ba_nil c).1 h.2.2)
  rw [h.1, h.2.1, this]
  rfl
theorem zero_kind {v : S_Value} (h : zeroV v = true) : v.f0 = 0 := by rw [nil_of h]; rfl
theorem decGo_enc (s : ByteArray) : ∀ (cols : List S_Column) (row : List S_Value) (i : Nat), row.length = cols.length → rowGo cols row = 0 → (∀ v ∈ row, OkVal v) → (∀ (j : Nat) (h : j < row.length), bitS s (i + j) = 1 ↔ row[j].f0 = 0) → decGo s cols i (strOfNums (valsL row)) = (row, 0)
  | [], [], i, _, _, _, _ => by
    simp only [decGo, valsL, List.flatMap_nil]
    rfl
  | [], _ :: _, _, h, _, _, _ => by simp at h
  | _ :: _, [], _, h, _, _, _ => by simp at h
  | c :: r, v :: w, i, hl, hg, hv, hb => by
    simp only [rowGo] at hg
    by_cases e : oneE c v = 0
    · rw [if_pos e] at hg
      have hb0 := hb 0 (by simp)
      simp only [Nat.add_zero, List.getElem_cons_zero] at hb0
      have ih := decGo_enc s r w (i + 1) (by simpa using hl) hg (fun u hu => hv u (by simp [hu])) (fun j hj => by
        have := hb (j + 1) (by simpa using hj)
        simp only [List.getElem_cons_succ] at this
        rw [show i + 1 + j = i + (j + 1) by omega]
        exact this)
      have hvals : valsL (v :: w) = (if v.f0 = 0 then [] else oneV v) ++ valsL w := by unfold valsL; rw [List.flatMap_cons]
      simp only [decGo]
      unfold oneE at e
      by_cases hz : zeroV v = true
      · rw [if_pos hz] at e
        have h3 : c.f3 = true := by
          by_cases q : c.f3 = true
          · exact q
          · rw [if_neg q] at e
            exact absurd e (by decide)
        have hk := zero_kind hz
        rw [if_pos (hb0.2 hk), if_pos h3, hvals, if_pos hk, List.nil_append, ih, nil_of hz]
        rfl
      · rw [if_neg hz] at e
        have hf : fitB c.f2.f0 c.f2.f1 v.f0 v.f1 v.f2 = true := by
          by_cases q : fitB c.f2.f0 c.f2.f1 v.f0 v.f1 v.f2 = true
          · exact q
          · rw [if_neg q] at e
            exact absurd e (by decide)
        have hk : ¬ v.f0 = 0 := by have := fit_kind hf; omega
        rw [if_neg (fun q => hk (hb0.1 q)), hvals, if_neg hk, strOfNums_append, readS_one _ _ v (hv v (by simp)) hf]
        simp only
        rw [if_pos trivial, Int.toNat_natCast, jcut _ _ _ (strOfNums_size _).symm, ih]
        rfl
    · rw [if_neg e] at hg
      exact absurd hg e
theorem dec_enc (cols : List S_Column) (row : List S_Value) (hl : row.length = cols.length) (hg : rowGo cols row = 0) (hv : ∀ v ∈ row, OkVal v) : decR cols (strOfNums (encS row)) = (row, 0) := by
  unfold decR
  rw [encS_eq, strOfNums_append, ← hl]
  have hm := mapM_len row row.length ((row.length + 7) / 8)
  rw [if_neg (by rw [ByteArray.size_append, strOfNums_size, hm]; omega), sp_enc, if_neg (by decide), jcut _ _ _ (by rw [strOfNums_size, hm]), decGo_enc _ cols row 0 hl hg hv (fun j hj => by
    rw [Nat.zero_add]
    exact bit_enc row _ j hj)]
  rfl
theorem decGo_back (s : ByteArray) : ∀ (cols : List S_Column) (i : Nat) (z : ByteArray), z.size ≤ 1000000 → (∀ c ∈ cols, typB c.f2.f0 c.f2.f1 = true) → (decGo s cols i z).2 = 0 →
      ∃ row, decGo s cols i z = (row, 0) ∧ row.length = cols.length ∧ rowGo cols row = 0 ∧ (∀ v ∈ row, OkVal v) ∧ strOfNums (valsL row) = z ∧ ∀ (j : Nat) (h : j < row.length), bitS s (i + j) = 1 ↔ row[j].f0 = 0
  | [], i, z, _, _, h => by
    simp only [decGo] at h ⊢
    by_cases e : z.size = 0
    · rw [if_pos e]
      exact ⟨[], rfl, rfl, rfl, by simp, by rw [ba_of0 z e]; rfl, by simp⟩
    · rw [if_neg e] at h
      exact absurd h (by decide)
  | c :: r, i, z, hz, ht, h => by
    have hcons : ∀ (v : S_Value) (q : List S_Value × Int), (consR v q).2 = 0 → q.2 = 0 := fun v q h => by
      unfold consR at h
      by_cases e : q.2 = 0
      · exact e
      · rw [if_neg e] at h
        exact absurd h e
    simp only [decGo] at h ⊢
    by_cases hb : bitS s i = 1
    · rw [if_pos hb] at h ⊢
      by_cases h3 : c.f3 = true
      · rw [if_pos h3] at h ⊢
        obtain ⟨w, e1, e2, e3, e4, e5, e6⟩ := decGo_back s r (i + 1) z hz (fun d hd => ht d (by simp [hd])) (hcons _ _ h)
        refine ⟨nilV :: w, by rw [e1]; rfl, by simp [e2], ?_, ?_, ?_, ?_⟩
        · simp only [rowGo]
          rw [if_pos (show oneE c nilV = 0 by unfold oneE; rw [if_pos (by decide +kernel), if_pos h3])]
          exact e3
        · intro v hv
          rcases List.mem_cons.1 hv with e | e
          · subst e
            exact ⟨by decide, by decide⟩
          · exact e4 v e
        · rw [← e5]
          rfl
        · intro j hj
          cases j with
          | zero => simpa using iff_of_true hb (by rfl)
          | succ j =>
            simp only [List.getElem_cons_succ]
            rw [show i + (j + 1) = i + 1 + j by omega]
            exact e6 j (by simpa using hj)
      · rw [if_neg h3] at h
        exact absurd h (by decide)
    · rw [if_neg hb] at h ⊢
      by_cases hr : (readS c.f2.f0 c.f2.f1 z).2.2 = 0
      · rw [if_pos hr] at h ⊢
        have htc := ht c (by simp)
        obtain ⟨f1, f2, f3, f4⟩ := readS_back c.f2.f0 c.f2.f1 z htc (by omega) hr
        have hsz := readS_size c.f2.f0 c.f2.f1 z hr
        obtain ⟨w, e1, e2, e3, e4, e5, e6⟩ := decGo_back s r (i + 1) _ (by rw [cut_size]; omega) (fun d hd => ht d (by simp [hd])) (hcons _ _ h)
        generalize hve : (readS c.f2.f0 c.f2.f1 z).1 = v at *
        have hk : ¬ v.f0 = 0 := by have := fit_kind f1; omega
        refine ⟨v :: w, by rw [e1]; rfl, by simp [e2], ?_, ?_, ?_, ?_⟩
        · simp only [rowGo]
          rw [if_pos (show oneE c v = 0 by unfold oneE; rw [if_neg (fun q => hk (zero_kind q)), if_pos f1])]
          exact e3
        · intro u hu
          rcases List.mem_cons.1 hu with e | e
          · subst e
            exact f4
          · exact e4 u e
        · have : valsL (v :: w) = oneV v ++ valsL w := by unfold valsL; rw [List.flatMap_cons, if_neg hk]
          rw [this, strOfNums_append, e5]
          exact f3
        · intro j hj
          cases j with
          | zero => simpa using iff_of_false hb hk
          | succ j =>
            simp only [List.getElem_cons_succ]
            rw [show i + (j + 1) = i + 1 + j by omega]
            exact e6 j (by simpa using hj)
      · rw [if_neg hr] at h
        exact absurd h hr
theorem enc_dec (cols : List S_Column) (s : ByteArray) (hs : s.size ≤ 1000000) (ht : ∀ c ∈ cols, typB c.f2.f0 c.f2.f1 = true) (h : (decR cols s).2 = 0) :
    ∃ row, decR cols s = (row, 0) ∧ row.length = cols.length ∧ rowGo cols row = 0 ∧ (∀ v ∈ row, OkVal v) ∧ strOfNums (encS row) = s := by
  unfold decR at h ⊢
  by_cases h1 : s.size < (cols.length + 7) / 8
  · rw [if_pos h1] at h
    exact absurd h (by decide)
  rw [if_neg h1] at h ⊢
  by_cases h2 : spB s cols.length = true
  · rw [if_pos h2] at h
    exact absurd h (by decide)
  rw [if_neg h2] at h ⊢
  have h3 : (decGo s cols 0 (s.extract ((cols.length + 7) / 8) s.size)).2 = 0 := by
    unfold preR at h
    by_cases e : (decGo s cols 0 (s.extract ((cols.length + 7) / 8) s.size)).2 = 0
    · exact e
    · rw [if_neg e] at h
      exact absurd h e
  obtain ⟨row, e1, e2, e3, e4, e5, e6⟩ := decGo_back s cols 0 _ (by rw [cut_size]; omega) ht h3
  refine ⟨row, by rw [e1]; rfl, e2, e3, e4, ?_⟩
  rw [encS_eq, strOfNums_append, e5, e2]
  refine cjoin s _ _ ?_
  have hlen : ((byt s).take ((cols.length + 7) / 8)).length = (cols.length + 7) / 8 := by rw [List.length_take, byt_len]; omega
  apply List.ext_getElem
  · rw [mapM_len, hlen]
  · intro j q1 q2
    rw [mapM_len] at q1
    have hb := btr s (j : Int)
    have hg : (mapM row row.length ((cols.length + 7) / 8))[j]'(by rw [mapM_len]; exact q1) = mapN (ck row row.length j) := by simp [mapM]
    have hck : (ck row row.length j).length = min 8 (row.length - 8 * j) := by unfold ck; rw [List.length_take, List.length_drop, List.take_length]
    have hrow : mapM row cols.length ((cols.length + 7) / 8) = mapM row row.length ((cols.length + 7) / 8) := by rw [e2]
    simp only [hrow] at *
    rw [hg, List.getElem_take, ← bt_byt s j (by omega)]
    refine mapN_of _ _ hb.1 ?_ (fun k hk => ?_)
    · by_cases h8 : (ck row row.length j).length = 8
      · rw [h8]
        show bt s (j : Int) < 256
        omega
      · have hj : j = cols.length / 8 := by omega
        have hl : (ck row row.length j).length = cols.length % 8 := by omega
        rw [hl]
        have h5 : bt s ((cols.length / 8 : Nat) : Int) / 2 ^ (cols.length % 8) = 0 := by
          by_cases q : bt s ((cols.length / 8 : Nat) : Int) / 2 ^ (cols.length % 8) = 0
          · exact q
          · exact absurd (show spB s cols.length = true by unfold spB; rw [decide_eq_true_iff]; exact ⟨by omega, q⟩) h2
        rw [hj]
        have hp : (0 : Int) < 2 ^ (cols.length % 8) := Int.pow_pos (by decide)
        have := Int.lt_ediv_add_one_mul_self (bt s ((cols.length / 8 : Nat) : Int)) hp
        rw [h5] at this
        omega
    · obtain ⟨p1, p2⟩ := ck_get row j k hk
      rw [p2]
      have := e6 (8 * j + k) p1
      rw [Nat.zero_add] at this
      rw [← this]
      unfold bitS
      rw [show (8 * j + k) / 8 = j by omega, show (8 * j + k) % 8 = k by omega]
/-- A change. -/
structure Chg where
  k : Int
  lsn : Int
  tb : ByteArray
  v : S_Value
  cl : List S_Cell
  d : S_DDL
/-- A change, as a tuple. -/
abbrev CT := Int × Int × ByteArray × Int × Int × ByteArray × List S_Cell × DT
def tupC (c : Chg) : CT := (c.k, c.lsn, c.tb, c.v.f0, c.v.f1, c.v.f2, c.cl, tupD c.d)
def noC : Chg := ⟨0, 0, nilB, nilV, [], bareD 0 nilB⟩
theorem preR_zero {l : List S_Value} {q : List S_Value × Int} (h : (preR l q).2 = 0) : q.2 = 0 ∧ preR l q = (l ++ q.1, 0) := by
  unfold preR at h ⊢
  by_cases e : q.2 = 0
  · rw [if_pos e]
    exact ⟨e, rfl⟩
  · rw [if_neg e] at h
    exact absurd h e
theorem preR_bad {l : List S_Value} {q : List S_Value × Int} (h : (preR l q).2 ≠ 0) : preR l q = ([], (preR l q).2) := by
  unfold preR at h ⊢
  by_cases e : q.2 = 0
  · rw [if_pos e] at h
    exact absurd rfl h
  · rw [if_neg e]
theorem consR_zero {v : S_Value} {q : List S_Value × Int} (h : (consR v q).2 = 0) : q.2 = 0 ∧ consR v q = (v :: q.1, 0) := by
  unfold consR at h ⊢
  by_cases e : q.2 = 0
  · rw [if_pos e]
    exact ⟨e, rfl⟩
  · rw [if_neg e] at h
    exact absurd h e
theorem nilV_zero : zeroV nilV = true := by unfold zeroV nilV; rw [nilB_toList]; rfl
/-- What is read fits its column, and is right. -/
theorem readS_fit (kd mx : Int) (s : ByteArray) (ht : typB kd mx = true) (hs : s.size ≤ 1000000000) (h : (readS kd mx s).2.2 = 0) :
    fitB kd mx (readS kd mx s).1.f0 (readS kd mx s).1.f1 (readS kd mx s).1.f2 = true ∧ OkVal (readS kd mx s).1 := by
  have hb := readS_back kd mx s ht hs h
  exact ⟨hb.1, hb.2.2.2⟩
theorem decGo_row (s : ByteArray) (hs : s.size ≤ 1000000000) : ∀ (l : List S_Column) (i : Nat) (z : ByteArray), (∀ c ∈ l, typB c.f2.f0 c.f2.f1 = true) → z.size ≤ 1000000000 → (decGo s l i z).2 = 0 →
    (decGo s l i z).1.length = l.length ∧ rowGo l (decGo s l i z).1 = 0 ∧ ∀ v ∈ (decGo s l i z).1, OkVal v
  | [], i, z, _, _, h => by
    simp only [decGo] at h ⊢
    split <;> refine ⟨rfl, by unfold rowGo; rfl, by simp⟩
  | c :: r, i, z, ht, hz, h => by
    have htr : ∀ d ∈ r, typB d.f2.f0 d.f2.f1 = true := fun d hd => ht d (List.mem_cons_of_mem _ hd)
    have htc := ht c (List.mem_cons_self ..)
    simp only [decGo] at h ⊢
    by_cases h1 : bitS s i = 1
    · rw [if_pos h1] at h ⊢
      by_cases h2 : c.f3 = true
      · rw [if_pos h2] at h ⊢
        obtain ⟨e1, e2⟩ := consR_zero h
        obtain ⟨a1, a2, a3⟩ := decGo_row s hs r (i + 1) z htr hz e1
        rw [e2]
        refine ⟨by simp only [List.length_cons, a1], ?_, ?_⟩
        · simp only [rowGo]
          rw [show oneE c nilV = 0 by unfold oneE; rw [if_pos nilV_zero, if_pos h2], if_pos rfl]
          exact a2
        · intro v hv
          rcases List.mem_cons.1 hv with e | e
          · subst e; exact ⟨by decide, by decide⟩
          · exact a3 v e
      · rw [if_neg h2] at h
        exact absurd h (by decide)
    · rw [if_neg h1] at h ⊢
      by_cases h3 : (readS c.f2.f0 c.f2.f1 z).2.2 = 0
      · rw [if_pos h3] at h ⊢
        obtain ⟨e1, e2⟩ := consR_zero h
        obtain ⟨a1, a2, a3⟩ := decGo_row s hs r (i + 1) _ htr (by rw [cut_size]; omega) e1
        obtain ⟨f1, f2⟩ := readS_fit c.f2.f0 c.f2.f1 z htc hz h3
        rw [e2]
        refine ⟨by simp only [List.length_cons, a1], ?_, ?_⟩
        · simp only [rowGo]
          have hk := fit_kind f1
          have hz0 : ¬ zeroV (readS c.f2.f0 c.f2.f1 z).1 = true := fun q => by
            unfold zeroV at q
            rw [Bool.and_eq_true, beq_iff_eq] at q
            omega
          rw [show oneE c (readS c.f2.f0 c.f2.f1 z).1 = 0 by unfold oneE; rw [if_neg hz0, if_pos f1], if_pos rfl]
          exact a2
        · intro v hv
          rcases List.mem_cons.1 hv with e | e
          · subst e; exact f2
          · exact a3 v e
      · rw [if_neg h3] at h
        exact absurd h h3
theorem decR_row (l : List S_Column) (s : ByteArray) (hs : s.size ≤ 1000000000) (ht : ∀ c ∈ l, typB c.f2.f0 c.f2.f1 = true) (h : (decR l s).2 = 0) :
    (decR l s).1.length = l.length ∧ rowGo l (decR l s).1 = 0 ∧ ∀ v ∈ (decR l s).1, OkVal v := by
  unfold decR at h ⊢
  split at h
  · exact absurd h (by decide)
  · rename_i h1
    rw [if_neg h1]
    split at h
    · exact absurd h (by decide)
    · rename_i h2
      rw [if_neg h2]
      obtain ⟨e1, e2⟩ := preR_zero h
      rw [e2, List.nil_append]
      exact decGo_row s hs l 0 _ ht (by rw [cut_size]; omega) e1
theorem decR_bad (l : List S_Column) (s : ByteArray) (h : (decR l s).2 ≠ 0) : decR l s = ([], (decR l s).2) := by
  unfold decR at h ⊢
  split
  · rfl
  · rename_i h1
    rw [if_neg h1] at h
    split
    · rfl
    · rename_i h2
      rw [if_neg h2] at h
      exact preR_bad h

theorem tupC_none : ((0, 0, (⟨#[]⟩ : ByteArray), 0, 0, (⟨#[]⟩ : ByteArray), [], 0, (⟨#[]⟩ : ByteArray), (⟨#[]⟩ : ByteArray), (⟨#[]⟩ : ByteArray), (⟨#[]⟩ : ByteArray), 0, 0, false, 0, 0, (⟨#[]⟩ : ByteArray), []) : CT) = tupC noC := rfl
/-- What a record's change must have to be compared. -/
def OkChg (c : Chg) : Prop := c.cl.length ≤ 1000000 ∧ c.d.f8.length ≤ 1000000000
theorem okNo : OkChg noC := ⟨by simp [noC], by simp [noC, bareD]⟩
theorem samechg_self (v : Chg) (h : OkChg v) : Ev (fun k => haulageref15_SameChange k v.k v.lsn v.tb v.v.f0 v.v.f1 v.v.f2 v.cl v.d.f0 v.d.f1 v.d.f2 v.d.f3 v.d.f4 v.d.f5.f0 v.d.f5.f1 v.d.f6 v.d.f7.f0 v.d.f7.f1 v.d.f7.f2 v.d.f8 v.k v.lsn v.tb v.v.f0 v.v.f1 v.v.f2 v.cl v.d.f0 v.d.f1 v.d.f2 v.d.f3 v.d.f4 v.d.f5.f0 v.d.f5.f1 v.d.f6 v.d.f7.f0 v.d.f7.f1 v.d.f7.f2 v.d.f8) true := by
  have h1 := samecells_self v.cl h.1
  have h2 := rsameD_ev v.d v.d h.2
  rw [sameD_refl] at h2
  refine Ev.flat2 0 h1 h2 (fun m g g2 => ?_)
  have g := g 0
  have g2 := g2 0
  simp only [Nat.add_zero] at g g2 ⊢
  unfold haulageref15_SameChange
  simp only [if_true, g, g2, Option.bind_some, beq_self_eq_true, Bool.and_self]

theorem eqcols_ev (l m : List S_Column) (hb : l.length ≤ 9223372036854775807) : Ev (fun k => slices_Equal_api_Column_api_Column k l m) (colsEq l m) := by
  unfold slices_Equal_api_Column_api_Column colsEq
  by_cases hl : l.length = m.length
  · refine Ev.congr (fun k => by rw [if_pos (by omega)]) ?_
    rw [decide_eq_true hl, Bool.true_and]
    have h := down (P := fun i => Ev (fun k => slices_Equal_api_Column_api_Column.l0 k l m (l.length : Int) (i : Int)) (same2 colEq (l.drop i) (m.drop i))) (n := l.length)
      (by rw [List.drop_length]; exact Ev.step (f := fun _ => some true) (fun k => by simp only [slices_Equal_api_Column_api_Column.l0]; rw [if_neg (by omega)]) (Ev.now _))
      (fun i hi ih => by
        rw [List.drop_eq_getElem_cons hi, List.drop_eq_getElem_cons (show i < m.length by omega)]
        refine Ev.step (f := fun k => if colEq l[i] m[i] = true then slices_Equal_api_Column_api_Column.l0 k l m (l.length : Int) ((i + 1 : Nat) : Int) else some false) (fun k => ?_) ?_
        · simp only [slices_Equal_api_Column_api_Column.l0]
          rw [if_pos (by omega), if_pos (by omega), if_pos (by omega), if_pos (by omega), if_pos (by omega), rrd_col l i hi, rrd_col m i (by omega), i64w_succ _ (by omega)]
          rfl
        · simp only [same2]
          split
          · exact ih
          · exact Ev.now _) 0 (Nat.zero_le _)
    exact h
  · rw [decide_eq_false hl, Bool.false_and]
    exact Ev.congr (f := fun _ => some false) (fun k => by rw [if_neg (by omega)]) (Ev.now _)
theorem sameD_ev (d e : S_DDL) (h : d.f8.length ≤ 1000000000) : Ev (fun k => ddl_Same k d.f0 d.f1 d.f2 d.f3 d.f4 d.f5.f0 d.f5.f1 d.f6 d.f7.f0 d.f7.f1 d.f7.f2 d.f8 e.f0 e.f1 e.f2 e.f3 e.f4 e.f5.f0 e.f5.f1 e.f6 e.f7.f0 e.f7.f1 e.f7.f2 e.f8) (sameD d e) := by
  refine Ev.flat1 0 (eqcols_ev d.f8 e.f8 (by omega)) (fun m h1 => ?_)
  have h1 := h1 0
  simp only [Nat.add_zero] at h1 ⊢
  simp only [ddl_Same, ddl_flat, h1, Option.bind_some]
  unfold sameD
  cases colsEq d.f8 e.f8
  · simp
  · simp [Bool.and_assoc]
/-- Has a change nothing that its kind doesn't have? -/
def plainC (c : Chg) : Bool := decide (0 ≤ c.lsn) && (if c.k = 1 ∨ c.k = 2 then sameD c.d (bareD 0 nilB) else if c.k = 3 then (sameD c.d (bareD 0 nilB) && decide (c.cl.length = 0)) else if c.k = 4 then (decide (c.tb = c.d.f1) && (zeroV c.v && decide (c.cl.length = 0))) else false)
theorem plainC_ev (c : Chg) (h : c.d.f8.length ≤ 1000000000) : Ev (fun k => state_PlainChange k c.k c.lsn c.tb c.v.f0 c.v.f1 c.v.f2 c.cl c.d.f0 c.d.f1 c.d.f2 c.d.f3 c.d.f4 c.d.f5.f0 c.d.f5.f1 c.d.f6 c.d.f7.f0 c.d.f7.f1 c.d.f7.f2 c.d.f8) (plainC c) := by
  refine Ev.flat1 0 (sameD_ev c.d (bareD 0 nilB) h) (fun m g => ?_)
  have g := g 0
  simp only [Nat.add_zero] at g ⊢
  replace g : ddl_Same m c.d.f0 c.d.f1 c.d.f2 c.d.f3 c.d.f4 c.d.f5.f0 c.d.f5.f1 c.d.f6 c.d.f7.f0 c.d.f7.f1 c.d.f7.f2 c.d.f8 0 (⟨#[]⟩ : ByteArray) (⟨#[]⟩ : ByteArray) (⟨#[]⟩ : ByteArray) (⟨#[]⟩ : ByteArray) 0 0 false 0 0 (⟨#[]⟩ : ByteArray) [] = some (sameD c.d (bareD 0 nilB)) := g
  unfold state_PlainChange plainC
  simp only [g, Option.bind_some, zeroV_text, ba_iff]
  by_cases h0 : c.lsn < 0
  · rw [if_pos h0, decide_eq_false (show ¬ 0 ≤ c.lsn by omega), Bool.false_and]
  rw [if_neg h0, decide_eq_true (show 0 ≤ c.lsn by omega), Bool.true_and]
  by_cases h1 : c.k = 1
  · simp only [h1, if_true, true_or]
  by_cases h2 : c.k = 2
  · simp only [h2, if_true, or_true, Int.reduceEq, if_false]
  have h12 : ¬ (c.k = 1 ∨ c.k = 2) := by omega
  simp only [if_neg h1, if_neg h2, if_neg h12]
  by_cases h3 : c.k = 3
  · simp only [h3, if_true]
    by_cases h4 : c.cl.length = 0
    · rw [if_pos (by omega), decide_eq_true h4, Bool.and_true]
    · rw [if_neg (by omega), decide_eq_false h4, Bool.and_false]
  simp only [if_neg h3]
  by_cases h4 : c.k = 4
  · simp only [h4, if_true]
    by_cases h5 : c.tb = c.d.f1
    · rw [if_pos h5, decide_eq_true h5, Bool.true_and]
      cases zeroV c.v
      · simp
      · rw [if_pos rfl, Bool.true_and]
        congr 1
        exact dec_iff (by omega)
    · rw [if_neg h5, decide_eq_false h5, Bool.false_and]
  · rw [if_neg h4, if_neg h4]
theorem rplainC_ev (c : Chg) (h : c.d.f8.length ≤ 1000000000) : Ev (fun k => haulageref15_PlainChange k c.k c.lsn c.tb c.v.f0 c.v.f1 c.v.f2 c.cl c.d.f0 c.d.f1 c.d.f2 c.d.f3 c.d.f4 c.d.f5.f0 c.d.f5.f1 c.d.f6 c.d.f7.f0 c.d.f7.f1 c.d.f7.f2 c.d.f8) (plainC c) := by
  refine Ev.flat1 0 (rsameD_ev c.d (bareD 0 nilB) h) (fun m g => ?_)
  have g := g 0
  simp only [Nat.add_zero] at g ⊢
  replace g : haulageref09_Same m c.d.f0 c.d.f1 c.d.f2 c.d.f3 c.d.f4 c.d.f5.f0 c.d.f5.f1 c.d.f6 c.d.f7.f0 c.d.f7.f1 c.d.f7.f2 c.d.f8 0 (⟨#[]⟩ : ByteArray) (⟨#[]⟩ : ByteArray) (⟨#[]⟩ : ByteArray) (⟨#[]⟩ : ByteArray) 0 0 false 0 0 (⟨#[]⟩ : ByteArray) [] = some (sameD c.d (bareD 0 nilB)) := g
  unfold haulageref15_PlainChange plainC
  simp only [g, Option.bind_some, zeroV_text, ba_iff]
  by_cases h0 : c.lsn < 0
  · rw [if_pos h0, decide_eq_false (show ¬ 0 ≤ c.lsn by omega), Bool.false_and]
  rw [if_neg h0, decide_eq_true (show 0 ≤ c.lsn by omega), Bool.true_and]
  by_cases h1 : c.k = 1
  · simp only [h1, if_true, true_or]
  by_cases h2 : c.k = 2
  · simp only [h2, if_true, or_true, Int.reduceEq, if_false]
  have h12 : ¬ (c.k = 1 ∨ c.k = 2) := by omega
  simp only [if_neg h1, if_neg h2, if_neg h12]
  by_cases h3 : c.k = 3
  · simp only [h3, if_true]
    cases sameD c.d (bareD 0 nilB)
    · simp
    · rw [if_pos rfl, Bool.true_and]
      congr 1
      exact dec_iff (by omega)
  simp only [if_neg h3]
  by_cases h4 : c.k = 4
  · simp only [h4, if_true]
    by_cases h5 : c.tb = c.d.f1
    · rw [if_pos h5, decide_eq_true h5, Bool.true_and]
      cases zeroV c.v
      · simp
      · rw [if_pos rfl, Bool.true_and]
        congr 1
        exact dec_iff (by omega)
    · rw [if_neg h5, decide_eq_false h5, Bool.false_and]
  · rw [if_neg h4, if_neg h4]

theorem val_kind {k n : Int} {s : ByteArray} (h : valB k n s = true) : 0 ≤ k ∧ k ≤ 4 := by
  unfold valB at h
  split at h
  · omega
  · split at h
    · omega
    · split at h
      · omega
      · split at h
        · omega
        · split at h
          · omega
          · cases h
theorem canC_w {c : S_Column} (h : canC c = true) (h0 : c.f0 = 0) (hw : (Lit.int .i64 c.f4.f1).wf = true) : WCol c := by
  unfold canC at h
  rw [Bool.and_eq_true, Bool.and_eq_true] at h
  have h1 := name16 h.1
  have h2 := typ4 h.2.1
  have h3 := val_kind h.2.2
  have h4 := valB_size h.2.2
  have hm := maxN_eq
  exact ⟨by omega, by omega, by omega, h3, by omega, hw⟩
theorem dw_l0 (l : List S_Column) (hl : l.length ≤ 1000) (hc : ∀ c ∈ l, WCol c) (v0 : Int) (v1 v2 v3 v4 : ByteArray) (v5 v6 : Int) (v7 : Bool) (v8 v9 : Int) (v10 : ByteArray) (v11 : List S_Column) : ∀ (n j : Nat) (acc : List Int), j + n = l.length → acc.length + n * 510 ≤ 50000000 →
    Ev (fun k => catcode_DDL.l0 k acc l (l.length : Int) (j : Int) v0 v1 v2 v3 v4 v5 v6 v7 v8 v9 v10 v11) (strOfNums (acc ++ (l.drop j).flatMap bodyE), 0)
  | 0, j, acc, hj, ha => by
    refine Ev.step (fun k => by simp only [catcode_DDL.l0]; rw [if_neg (by omega)]) ?_
    rw [List.drop_eq_nil_of_le (by omega)]
    show Ev (fun _ => some (strOfNums acc, (0 : Int))) _
    simpa using Ev.now (strOfNums acc, (0 : Int))
  | n + 1, j, acc, hj, ha => by
    have hlt : j < l.length := by omega
    have hcw := hc _ (List.getElem_mem hlt)
    have e2 := body_w acc l[j] hcw (by omega)
    have cl := body_len _ hcw
    have ih := dw_l0 l hl hc v0 v1 v2 v3 v4 v5 v6 v7 v8 v9 v10 v11 n (j + 1) (acc ++ bodyE l[j]) (by omega) (by rw [List.length_append]; omega)
    rw [List.append_assoc] at ih
    rw [List.drop_eq_getElem_cons hlt, List.flatMap_cons]
    refine Ev.step (fun k => by simp only [catcode_DDL.l0]; rw [if_pos (by omega), if_pos (by omega), if_pos (by omega), rrd_col l j hlt]) (Ev.bind e2 ?_)
    rw [i64w_succ j (by omega)]
    exact ih
theorem can_parts {d : S_DDL} (h : canB d = true) : plainB d = true ∧ d.f1.size ≤ 16 ∧ canM d = true := by
  unfold canB at h
  rw [Bool.and_eq_true, Bool.and_eq_true] at h
  exact ⟨h.1, name16 h.2.1, h.2.2⟩
theorem pre_eq (op : Int) (t : List Int) (m : List Int) : [1, op] ++ t ++ m = [1] ++ ([op] ++ (t ++ m)) := by simp
theorem ddl_w (d : S_DDL) (hd : OkD d) : Ev (fun k => catcode_DDL k d.f0 d.f1 d.f2 d.f3 d.f4 d.f5.f0 d.f5.f1 d.f6 d.f7.f0 d.f7.f1 d.f7.f2 d.f8) (if canB d = true then (strOfNums (ddlE d), 0) else (nilB, 2)) := by
  unfold catcode_DDL
  refine Ev.bind (can_ev d hd) ?_
  cases hc : canB d
  · refine Ev.congr (f := fun _ => some (nilB, 2)) (fun k => by rw [if_neg (by simp)]) (by rw [if_neg (by simp)]; exact Ev.now _)
  obtain ⟨hp, h1, hm⟩ := can_parts hc
  have hop := plain_op hp
  have hx := maxN_eq
  obtain ⟨_, _, _, _, _, hw, _, hws⟩ := hd
  refine Ev.congr (fun k => if_pos rfl) ?_
  rw [if_pos rfl]
  clear hc
  unfold ddlE
  have hu : IntKind.u8.wrap d.f0 = d.f0 := by rw [u8w]; omega
  rw [hu]
  have ht := text_w [1, d.f0] d.f1 (by omega) (by simp)
  refine Ev.bind ht ?_
  have hl : ([1, d.f0] ++ textE d.f1).length ≤ 100 := by
    have := text_len d.f1 (by omega)
    rw [List.length_append]
    simp only [List.length_cons, List.length_nil]
    omega
  rw [← pre_eq]
  generalize [1, d.f0] ++ textE d.f1 = b at hl
  clear ht
  obtain ⟨op, tb, co, to, ke, ty, nu, de, cs⟩ := d
  simp only at hp h1 hm hop hw hws hu ⊢
  unfold plainB at hp
  unfold canM at hm
  unfold moreE
  simp only at hp hm ⊢
  have hk : op = 1 ∨ op = 2 ∨ op = 3 ∨ op = 4 ∨ op = 5 ∨ op = 6 ∨ op = 7 ∨ op = 8 := by omega
  rcases hk with e | e | e | e | e | e | e | e
  · subst e
    simp only [Int.reduceEq, if_true, if_false] at hp hm ⊢
    rw [Bool.and_eq_true, Bool.and_eq_true, decide_eq_true_iff] at hm
    rw [Bool.and_eq_true] at hp
    have hk := name16 hm.2.1
    have z1 := text_len ke (by omega)
    have z2 := sb_len10 (n := cs.length) (by omega)
    have l1 : (b ++ textE ke).length ≤ 200 := by rw [List.length_append]; omega
    refine Ev.bind (text_w b ke (by omega) (by omega)) (Ev.bind (number_w (b ++ textE ke) (cs.length : Int) (by omega) (by omega) (by omega)) ?_)
    rw [Int.toNat_natCast]
    have := dw_l0 cs (by omega) (fun c hc => canC_w (List.all_eq_true.1 hm.1 c hc) (of_decide_eq_true (List.all_eq_true.1 hp.1 c hc)) (hws c hc).2.2) 1 tb co to ke ty.f0 ty.f1 nu de.f0 de.f1 de.f2 cs cs.length 0 (b ++ textE ke ++ sb cs.length) (by omega) (by rw [List.length_append]; omega)
    rw [List.drop_zero] at this
    refine Ev.eq this ?_
    simp only [List.append_assoc]
  · subst e
    simp only [Int.reduceEq, if_true, if_false, List.append_nil] at hp hm ⊢
    exact Ev.now _
  · subst e
    simp only [Int.reduceEq, if_true, if_false] at hp hm ⊢
    have hk := name16 hm
    exact Ev.bind (text_w b to (by omega) (by omega)) (Ev.now _)
  · subst e
    simp only [Int.reduceEq, if_true, if_false] at hp hm ⊢
    exact Ev.bind (body_w b (addC ⟨4, tb, co, to, ke, ty, nu, de, cs⟩) (canC_w hm rfl hw) (by omega)) (Ev.now _)
  · subst e
    simp only [Int.reduceEq, if_true, if_false] at hp hm ⊢
    have hk := name16 hm
    exact Ev.bind (text_w b co (by omega) (by omega)) (Ev.now _)
  · subst e
    simp only [Int.reduceEq, if_true, if_false] at hp hm ⊢
    rw [Bool.and_eq_true] at hm
    have hk := name16 hm.1
    have hk2 := name16 hm.2
    have z1 := text_len co (by omega)
    refine Ev.bind (text_w b co (by omega) (by omega)) (Ev.bind (text_w (b ++ textE co) to (by omega) (by rw [List.length_append]; omega)) ?_)
    rw [List.append_assoc]
    exact Ev.now _
  · subst e
    simp only [Int.reduceEq, if_true, if_false] at hp hm ⊢
    rw [Bool.and_eq_true] at hm
    have hk := name16 hm.1
    have hk2 := typ4 hm.2
    have z1 := text_len co (by omega)
    refine Ev.bind (text_w b co (by omega) (by omega)) (Ev.bind (kind_w (b ++ textE co) ty (by omega) (by omega) (by rw [List.length_append]; omega)) ?_)
    rw [List.append_assoc]
    exact Ev.now _
  · subst e
    simp only [Int.reduceEq, if_true, if_false] at hp hm ⊢
    rw [Bool.and_eq_true] at hm
    have hk := name16 hm.1
    have hk2 := val_kind hm.2
    have hk3 := valB_size hm.2
    have z1 := text_len co (by omega)
    refine Ev.bind (text_w b co (by omega) (by omega)) (Ev.bind (put_w (b ++ textE co) de (by omega) (by omega) hw (by rw [List.length_append]; omega)) ?_)
    rw [List.append_assoc]
    exact Ev.now _
theorem kindE_bytes {t : S_Type} (h : 0 ≤ t.f0 ∧ t.f0 ≤ 4) : Bytes (kindE t) := by
  unfold kindE
  intro x hx
  rcases List.mem_cons.1 hx with e | e
  · omega
  · exact sb_bytes _ x e
theorem valE_bytes {v : S_Value} (h : 0 ≤ v.f0 ∧ v.f0 ≤ 4) : Bytes (valE v) := by
  unfold valE valT
  intro x hx
  rcases List.mem_cons.1 hx with e | e
  · omega
  · split at e
    · exact sb_bytes _ x e
    · split at e
      · exact textE_bytes _ x e
      · cases e
theorem one_bytes {n : Int} (h : 0 ≤ n ∧ n ≤ 255) : Bytes [n] := fun x hx => by
  rw [List.mem_singleton] at hx
  omega
theorem bodyE_bytes {c : S_Column} (h : WCol c) : Bytes (bodyE c) := by
  obtain ⟨_, _, h2, h3, _, _⟩ := h
  unfold bodyE
  exact (textE_bytes _).append ((kindE_bytes (by omega)).append ((one_bytes (by split <;> omega)).append (valE_bytes h3)))
theorem flat_bytes {α : Type} (f : α → List Int) (l : List α) (h : ∀ x ∈ l, Bytes (f x)) : Bytes (l.flatMap f) := fun x hx => by
  obtain ⟨y, hy, hxy⟩ := List.mem_flatMap.1 hx
  exact h y hy x hxy
theorem takes_all (l : List Int) (h : Bytes l) : Takes (strOfNums l, 0) l (nilB, 0) := by
  refine ⟨rfl, rfl, h, ?_⟩
  apply byt_inj
  rw [byt_append, show byt nilB = [] from rfl, List.append_nil]
theorem endP_ok {b : Bool} {q : St} (h : endP b q = 0) : q.2 = 0 ∧ q.1.size = 0 ∧ b = true := by
  unfold endP at h
  by_cases hz : q.1.size = 0
  · simp only [if_pos hz] at h
    by_cases hq : q.2 = 0
    · simp only [if_pos hq] at h
      cases b
      · simp at h
      · exact ⟨hq, hz, rfl⟩
    · simp only [if_neg hq] at h
      exact absurd h hq
  · simp only [if_neg hz] at h
    have hne : (fl 6 q).2 ≠ 0 := fl_ne (by decide)
    simp only [if_neg hne] at h
    exact absurd h hne
theorem nil_take {s : ByteArray} {l : List Int} {q : St} (h : Takes (s, 0) l q) (hz : q.1.size = 0) : s = strOfNums l := by
  have h2 := h.2.2.2
  simp only at h2
  rw [h2, ba_of0 _ hz]
  apply byt_inj
  rw [byt_append, show byt (⟨#[]⟩ : ByteArray) = [] from rfl, List.append_nil]
theorem readddl_fwd (d : S_DDL) (hc : canB d = true) (hd : OkD d) : readddlS (strOfNums (ddlE d)) = (d, 0) ∧ (ddlE d).length ≤ 60000 := by
  obtain ⟨hp, h1, hm⟩ := can_parts hc
  have hop := plain_op hp
  have hx := maxN_eq
  have hw := hd.2.2.2.2.2.1
  have hws := hd.2.2.2.2.2.2.2
  have z1 := text_len d.f1 (by omega)
  have key : Bytes (moreE d) ∧ (moreE d).length ≤ 50000 := by
    obtain ⟨op, tb, co, to, ke, ty, nu, de, cs⟩ := d
    simp only at hp h1 hm hop hw hws ⊢
    unfold plainB at hp
    unfold canM at hm
    unfold moreE
    simp only at hp hm ⊢
    have hk : op = 1 ∨ op = 2 ∨ op = 3 ∨ op = 4 ∨ op = 5 ∨ op = 6 ∨ op = 7 ∨ op = 8 := by omega
    rcases hk with e | e | e | e | e | e | e | e
    · subst e
      simp only [Int.reduceEq, if_true, if_false] at hp hm ⊢
      rw [Bool.and_eq_true, Bool.and_eq_true, decide_eq_true_iff] at hm
      rw [Bool.and_eq_true] at hp
      have hW : ∀ c ∈ cs, WCol c := fun c hc => canC_w (List.all_eq_true.1 hm.1 c hc) (of_decide_eq_true (List.all_eq_true.1 hp.1 c hc)) (hws c hc).2.2
      have hk := name16 hm.2.1
      have z2 := text_len ke (by omega)
      have z3 := sb_len10 (n := cs.length) (by omega)
      have z4 := flat_len bodyE 500 cs (fun c hc => body_len c (hW c hc))
      refine ⟨(textE_bytes _).append ((sb_bytes _).append (flat_bytes _ _ fun c hc => bodyE_bytes (hW c hc))), ?_⟩
      simp only [List.length_append]
      omega
    · subst e
      simp only [Int.reduceEq, if_true, if_false]
      exact ⟨fun x hx => (by cases hx), by simp⟩
    · subst e
      simp only [Int.reduceEq, if_true, if_false] at hm ⊢
      have hk := name16 hm
      have z2 := text_len to (by omega)
      exact ⟨textE_bytes _, by omega⟩
    · subst e
      simp only [Int.reduceEq, if_true, if_false] at hm ⊢
      have hW := canC_w (c := addC ⟨4, tb, co, to, ke, ty, nu, de, cs⟩) hm rfl hw
      have := body_len _ hW
      exact ⟨bodyE_bytes hW, by omega⟩
    · subst e
      simp only [Int.reduceEq, if_true, if_false] at hm ⊢
      have hk := name16 hm
      have z2 := text_len co (by omega)
      exact ⟨textE_bytes _, by omega⟩
    · subst e
      simp only [Int.reduceEq, if_true, if_false] at hm ⊢
      rw [Bool.and_eq_true] at hm
      have hk := name16 hm.1
      have hk2 := name16 hm.2
      have z2 := text_len co (by omega)
      have z3 := text_len to (by omega)
      exact ⟨(textE_bytes _).append (textE_bytes _), by rw [List.length_append]; omega⟩
    · subst e
      simp only [Int.reduceEq, if_true, if_false] at hm ⊢
      rw [Bool.and_eq_true] at hm
      have hk := name16 hm.1
      have hk2 := typ4 hm.2
      have z2 := text_len co (by omega)
      have z3 := sb_len10 (n := ty.f1.toNat) (by omega)
      have z4 : (kindE ty).length ≤ 11 := by unfold kindE; simp only [List.length_cons]; omega
      exact ⟨(textE_bytes _).append (kindE_bytes (by omega)), by rw [List.length_append]; omega⟩
    · subst e
      simp only [Int.reduceEq, if_true, if_false] at hm ⊢
      rw [Bool.and_eq_true] at hm
      have hk := name16 hm.1
      have hk2 := val_kind hm.2
      have hk3 := valB_size hm.2
      have z2 := text_len co (by omega)
      have z3 := val_len de (by omega) hw
      exact ⟨(textE_bytes _).append (valE_bytes hk2), by rw [List.length_append]; omega⟩
  have hb : Bytes (ddlE d) := by
    unfold ddlE
    exact (one_bytes (by decide)).append ((one_bytes (by omega)).append ((textE_bytes _).append key.1))
  constructor
  · have := ddlP_fwd d (strOfNums (ddlE d), 0) (nilB, 0) hc hw (fun c hc => (hws c hc).2.2) (takes_all _ hb)
    unfold readddlS
    rw [this]
    have he : endP (canB d) (nilB, 0) = 0 := by rw [hc]; rfl
    simp only [if_pos he]
  · unfold ddlE
    simp only [List.length_append, List.length_cons, List.length_nil]
    omega

theorem tabB_id {id : Int} {name : ByteArray} {key next : Int} {l : List S_Column} (h : tabB id name key next l = true) : 0 ≤ id := by
  unfold tabB at h
  rw [Bool.and_eq_true, decide_eq_true_iff] at h
  exact h.1.1
/-- The cells have the table's names and types. -/
def cellB (c : S_Column) (x : S_Cell) : Bool := decide (x.f0 = c.f1) && ((x.f1.f0 == c.f2.f0) && (x.f1.f1 == c.f2.f1))
def laidB : List S_Column → List S_Cell → Bool
  | c :: r, x :: s => cellB c x && laidB r s
  | _, _ => true
def rowOfCells (cl : List S_Cell) : List S_Value := cl.map (·.f2)
theorem laid_ev (id : Int) (name : ByteArray) (key next : Int) (l : List S_Column) (cl : List S_Cell) (hb : l.length ≤ 1000000) (hc : cl.length ≤ 1000000) :
    Ev (fun k => walrec_laid k id name key next l cl) (if cl.length = l.length then (if laidB l cl = true then (rowOfCells cl, 0) else ([], 5)) else ([], 5)) := by
  unfold walrec_laid
  by_cases hl : cl.length = l.length
  case neg =>
    rw [if_neg hl]
    exact Ev.congr (f := fun _ => some ([], 5)) (fun k => if_neg (by omega)) (Ev.now _)
  rw [if_pos hl]
  refine Ev.congr (fun k => if_pos (by omega)) ?_
  have h := down (P := fun i => ∀ acc : List S_Value, acc.length = i → Ev (fun k => walrec_laid.l0 k cl acc l (l.length : Int) (i : Int) id name key next l) (if laidB (l.drop i) (cl.drop i) = true then (acc ++ rowOfCells (cl.drop i), 0) else ([], 5))) (n := l.length)
    (fun acc _ => by
      rw [List.drop_length, ← hl, List.drop_length]
      simp only [laidB, rowOfCells, List.map_nil, List.append_nil, if_true]
      exact Ev.step (f := fun _ => some (acc, 0)) (fun k => by simp only [walrec_laid.l0]; rw [if_neg (by omega)]) (Ev.now _))
    (fun i hi ih acc ha => by
      rw [List.drop_eq_getElem_cons hi, List.drop_eq_getElem_cons (show i < cl.length by omega)]
      have e1 : r_Cell cl (i : Int) = cl[i] := rd_cell cl i (by omega)
      have e2 : r_Column l (i : Int) = l[i] := rd_col l i hi
      generalize cl[i] = x at e1
      generalize l[i] = c at e2
      by_cases h1 : x.f0 = c.f1
      case neg =>
        rw [show laidB (c :: l.drop (i + 1)) (x :: cl.drop (i + 1)) = false by simp only [laidB]; rw [show cellB c x = false by unfold cellB; rw [decide_eq_false h1]; rfl, Bool.false_and], if_neg (by simp)]
        refine Ev.step (f := fun _ => some ([], 5)) (fun k => ?_) (Ev.now _)
        simp only [walrec_laid.l0, ba_iff]
        rw [e1, e2, if_pos (by omega), if_pos (by omega), if_pos (by omega), if_pos (by omega), if_pos (by omega), if_neg h1]
      by_cases h2 : ((x.f1.f0 == c.f2.f0) && (x.f1.f1 == c.f2.f1)) = true
      case neg =>
        rw [show laidB (c :: l.drop (i + 1)) (x :: cl.drop (i + 1)) = false by simp only [laidB]; rw [show cellB c x = false by unfold cellB; rw [decide_eq_true h1, Bool.true_and]; exact Bool.eq_false_iff.2 h2, Bool.false_and], if_neg (by simp)]
        refine Ev.step (f := fun _ => some ([], 5)) (fun k => ?_) (Ev.now _)
        simp only [walrec_laid.l0, ba_iff]
        rw [e1, e2, if_pos (by omega), if_pos (by omega), if_pos (by omega), if_pos (by omega), if_pos (by omega), if_pos h1, if_pos (by omega), if_pos (by omega), if_neg h2]
      rw [show laidB (c :: l.drop (i + 1)) (x :: cl.drop (i + 1)) = laidB (l.drop (i + 1)) (cl.drop (i + 1)) by simp only [laidB]; rw [show cellB c x = true by unfold cellB; rw [decide_eq_true h1, Bool.true_and]; exact h2, Bool.true_and]]
      have := ih (acc ++ [x.f2]) (by simp [ha])
      refine Ev.step (fun k => ?_) (Ev.eq this ?_)
      · simp only [walrec_laid.l0, ba_iff]
        rw [e1, e2, if_pos (by omega), if_pos (by omega), if_pos (by omega), if_pos (by omega), if_pos (by omega), if_pos h1, if_pos (by omega), if_pos (by omega), if_pos h2, if_pos (by omega), if_pos (by omega), if_pos (by omega), i64w_succ _ (by omega)]
      · simp only [rowOfCells, List.map_cons, List.append_assoc, List.singleton_append]) 0 (Nat.zero_le _)
  have h2 := h [] rfl
  rw [List.drop_zero, List.drop_zero, List.nil_append] at h2
  exact h2
theorem valsT_small (row : List S_Value) (h : ∀ v ∈ row, v.f0 = 0 ∨ (oneV v).length ≤ 1000) : ∀ i, i ≤ row.length → (valsT row i).length ≤ i * 1000
  | 0, _ => by simp [valsT]
  | i + 1, hi => by
    have := valsT_small row h i (by omega)
    rw [valsT_step row i (by omega), List.length_append]
    have h2 := h row[i] (List.getElem_mem (by omega))
    split
    · rw [List.length_nil]; omega
    · rename_i q
      have := h2.resolve_left q
      omega
theorem rowGo_small : ∀ (l : List S_Column) (row : List S_Value), row.length = l.length → rowGo l row = 0 → (∀ v ∈ row, OkVal v) → ∀ v ∈ row, v.f0 = 0 ∨ (oneV v).length ≤ 1000
  | [], [], _, _, _, v, hv => by simp at hv
  | [], _ :: _, h, _, _, _, _ => by simp at h
  | _ :: _, [], h, _, _, _, _ => by simp at h
  | c :: r, u :: s, hl, h, ho, v, hv => by
    simp only [rowGo] at h
    split at h
    · rename_i e
      rcases List.mem_cons.1 hv with e2 | e2
      · subst e2
        unfold oneE at e
        split at e
        · rename_i hz
          left
          unfold zeroV at hz
          rw [Bool.and_eq_true, beq_iff_eq] at hz
          exact hz.1
        · split at e
          · rename_i hf
            right
            have := valB_size (fit_parts hf).2.2.1
            exact oneV_small v (ho v (List.mem_cons_self ..)) (by omega)
          · exact absurd e (by decide)
      · exact rowGo_small r s (by simpa using hl) h (fun w hw => ho w (List.mem_cons_of_mem _ hw)) v e2
    · exact absurd h (by assumption)
theorem encS_short {id : Int} {name : ByteArray} {key next : Int} {l : List S_Column} {row : List S_Value} (h : rowE id name key next l row = 0) (ho : ∀ v ∈ row, OkVal v) : (encS row).length ≤ 20000 := by
  obtain ⟨ht, hl⟩ := rowE_zero h
  have h10 := (tabB_more ht).1
  unfold rowE fitsE at h
  rw [if_pos ht, if_pos hl] at h
  have := valsT_small row (rowGo_small l row hl h ho) row.length (Nat.le_refl _)
  unfold encS
  rw [List.length_append, mapM_len]
  omega
/-- Two values are alike. -/
def valEq (u v : S_Value) : Bool := (u.f0 == v.f0) && ((u.f1 == v.f1) && (u.f2.toList == v.f2.toList))
/-- What the packing of a change of a row comes to, behind its cells. -/
def packR (txn id : Int) (k : Int) (key : S_Value) (e : Int) (row : List S_Value) (i : Nat) : (Int × Int × Int × ByteArray) × Int :=
  if e = 0 then (if valEq (row.getD i nilV) key = true then ((k + 1, txn, id, strOfNums (encS row)), 0) else ((0, 0, 0, nilB), 15)) else ((0, 0, 0, nilB), e)
theorem word6 (k : Nat) : walrec_Word k 6 = some (⟨#[99, 111, 109, 109, 105, 116]⟩ : ByteArray) := rfl
theorem lives18_ev : Ev (fun k => haulagelaw18_lives k) true := by
  have h1 := short1 5 (by decide) (by decide)
  rw [show sb (5 : Int).toNat = [5] from sb_small (by decide)] at h1
  have e2 : strOfNums [5] = (⟨#[5]⟩ : ByteArray) := rfl
  rw [e2] at h1
  have he : Ev (fun k => walrec_Encode k 6 5 0 (⟨#[]⟩ : ByteArray)) ((⟨#[6, 5]⟩ : ByteArray), 0) := by
    refine Ev.flat1 0 h1 (fun m g => ?_)
    have g := g 0
    simp only [Nat.add_zero] at g ⊢
    simp only [walrec_Encode, wright_eq, ofRow_eq, Option.bind_some, show recR 6 5 0 (⟨#[]⟩ : ByteArray) = true from by decide, show IntKind.u64.wrap 5 = 5 from by decide, g, show rowB 6 = false from by decide, if_true, Int.reduceEq, if_false, Bool.false_eq_true]
    decide +kernel
  unfold haulagelaw18_lives
  refine Ev.bind he ?_
  refine Ev.congr (f := fun _ => some true) (fun k => ?_) (Ev.now _)
  simp only [if_true, word6, Option.bind_some]
  rfl

/-- A record as a tuple. -/
abbrev RT := Int × Int × Int × ByteArray
theorem recR_mk {a b c : Int} {s : ByteArray} (h : 1 ≤ a ∧ a ≤ 8 ∧ 0 ≤ b ∧ 0 ≤ c ∧ (a ≠ 8 ∨ b = 0) ∧ (c = 0 ∨ (2 ≤ a ∧ a ≤ 4)) ∧ (s.size = 0 ∨ (2 ≤ a ∧ a ≤ 5 ∧ s.size ≤ 65535))) : recR a b c s = true := decide_eq_true h
/-- What must be known of a change that is packed. -/
def PackC (c : Chg) : Prop := OkVal c.v ∧ c.cl.length ≤ 1000 ∧ (∀ x ∈ c.cl, OkVal x.f2) ∧ OkD c.d
theorem image_ev (id : Int) (name : ByteArray) (key next : Int) (l : List S_Column) (c : Chg) (i : Nat) (hi : i < l.length) (hn : name.size ≤ 1000000000) (hok : ∀ c ∈ l, OkCol c) (hb : l.length ≤ 1000) (hc : PackC c) (ht : tabB id name key next l = true)
    (hk1 : scan (fun c : S_Column => decide (c.f0 = key)) l 0 = ((i : Int), true)) (h3 : ¬ c.k = 3) :
    Ev (fun k => walrec_image k id name key next l c.k c.lsn c.tb c.v.f0 c.v.f1 c.v.f2 c.cl c.d.f0 c.d.f1 c.d.f2 c.d.f3 c.d.f4 c.d.f5.f0 c.d.f5.f1 c.d.f6 c.d.f7.f0 c.d.f7.f1 c.d.f7.f2 c.d.f8)
      (if c.cl.length = l.length then (if laidB l c.cl = true then (if rowE id name key next l (rowOfCells c.cl) = 0 then (if valEq ((rowOfCells c.cl).getD i nilV) c.v = true then (strOfNums (encS (rowOfCells c.cl)), 0) else (nilB, 15)) else (nilB, rowE id name key next l (rowOfCells c.cl))) else (nilB, 5)) else (nilB, 5)) := by
  unfold walrec_image
  refine Ev.congr (fun k => if_neg h3) (Ev.bind (laid_ev id name key next l c.cl (by omega) (by have := hc.2.1; omega)) ?_)
  by_cases hl : c.cl.length = l.length
  case neg =>
    simp only [if_neg hl]
    exact Ev.congr (f := fun _ => some (nilB, 5)) (fun k => if_neg (by simp)) (Ev.now _)
  simp only [if_pos hl]
  cases hL : laidB l c.cl
  · exact Ev.congr (f := fun _ => some (nilB, 5)) (fun k => if_neg (by simp)) (Ev.now _)
  have hrl : (rowOfCells c.cl).length = l.length := by simp [rowOfCells, hl]
  have hv : ∀ v ∈ rowOfCells c.cl, OkVal v := fun v hv => by
    obtain ⟨x, hx, rfl⟩ := List.mem_map.1 hv
    exact hc.2.2.1 x hx
  refine Ev.congr (fun k => if_pos rfl) (Ev.bind (encode_ev id name key next l (rowOfCells c.cl) hn hok (by omega) hv) ?_)
  unfold encE
  have hg : r_Value (rowOfCells c.cl) (i : Int) = (rowOfCells c.cl).getD i nilV := by
    rw [rd_val _ i (by omega), List.getD_eq_getElem?_getD, List.getElem?_eq_getElem (by omega)]; rfl
  by_cases h0 : rowE id name key next l (rowOfCells c.cl) = 0
  · simp only [if_pos h0, if_true]
    refine Ev.bind (key_ev id name key next l (by omega)) ?_
    rw [hk1]
    refine Ev.congr (f := fun _ => some (if valEq ((rowOfCells c.cl).getD i nilV) c.v = true then (strOfNums (encS (rowOfCells c.cl)), 0) else (nilB, 15))) (fun k => ?_) (Ev.now _)
    simp only [hg]
    rw [if_pos (show (0 : Int) ≤ (i : Int) by omega), if_pos (show (i : Int) < ((rowOfCells c.cl).length : Int) by omega)]
    show (if valEq _ c.v = true then _ else _) = _
    split <;> rfl
  · simp only [if_neg h0, if_true]
    exact Ev.congr (f := fun _ => some (nilB, rowE id name key next l (rowOfCells c.cl))) (fun k => by first | rfl | exact if_neg h0) (Ev.now _)
def colZ : S_Column := ⟨0, nilB, zT, false, zV⟩
/-- Where a table's key column stands. -/
def keyI (key : Int) (l : List S_Column) : Nat := (scan (fun c : S_Column => decide (c.f0 = key)) l 0).1.toNat
def noR : RT := (0, 0, 0, nilB)
/-- What packing a change comes to. -/
def packP (txn id : Int) (name : ByteArray) (key next : Int) (l : List S_Column) (c : Chg) : RT × Int :=
  if txn < 0 ∨ plainC c = false then (noR, 2)
  else if c.k = 4 then (if canB c.d = true then ((5, txn, 0, strOfNums (ddlE c.d)), 0) else (noR, 2))
  else if tabB id name key next l = true then
    (if name = c.tb then
      (if c.k = 3 then (if fitB (l.getD (keyI key l) colZ).f2.f0 (l.getD (keyI key l) colZ).f2.f1 c.v.f0 c.v.f1 c.v.f2 = true then ((4, txn, id, strOfNums (oneV c.v)), 0) else (noR, 10))
      else if c.cl.length = l.length ∧ laidB l c.cl = true then packR txn id c.k c.v (rowE id name key next l (rowOfCells c.cl)) (rowOfCells c.cl) (keyI key l) else (noR, 5))
    else (noR, 12))
  else (noR, 2)
theorem plainC_kind {c : Chg} (hp : plainC c = true) : c.k = 1 ∨ c.k = 2 ∨ c.k = 3 ∨ c.k = 4 := by
  unfold plainC at hp
  rw [Bool.and_eq_true] at hp
  by_cases q : c.k = 1 ∨ c.k = 2
  · omega
  · have := hp.2
    rw [if_neg q] at this
    by_cases q3 : c.k = 3
    · omega
    · by_cases q4 : c.k = 4
      · omega
      · rw [if_neg q3, if_neg q4] at this
        cases this
theorem pack_w (txn : Int) (id : Int) (name : ByteArray) (key next : Int) (l : List S_Column) (c : Chg) (hn : name.size ≤ 1000000000) (hok : ∀ c ∈ l, OkCol c) (hb : l.length ≤ 1000) (hc : PackC c) :
    Ev (fun k => walrec_Pack k txn id name key next l c.k c.lsn c.tb c.v.f0 c.v.f1 c.v.f2 c.cl c.d.f0 c.d.f1 c.d.f2 c.d.f3 c.d.f4 c.d.f5.f0 c.d.f5.f1 c.d.f6 c.d.f7.f0 c.d.f7.f1 c.d.f7.f2 c.d.f8) (packP txn id name key next l c) := by
  obtain ⟨hcv, hcl, hcc, hcd⟩ := hc
  by_cases h0 : txn < 0
  · rw [show packP txn id name key next l c = (noR, 2) from by unfold packP; rw [if_pos (Or.inl h0)]]
    exact Ev.pure fun k => by unfold walrec_Pack; rw [if_pos h0]; rfl
  have p1 := plainC_ev c hcd.2.2.2.2.2.2.1
  cases hp : plainC c
  · rw [hp] at p1
    rw [show packP txn id name key next l c = (noR, 2) from by unfold packP; rw [if_pos (Or.inr hp)]]
    unfold walrec_Pack
    exact Ev.congr (fun k => if_neg h0) (Ev.bind p1 (Ev.congr (f := fun _ => some ((0, 0, 0, nilB), 2)) (fun k => if_neg (by simp)) (Ev.now _)))
  rw [hp] at p1
  have e0 : ¬ (txn < 0 ∨ plainC c = false) := by rw [hp]; simp [h0]
  unfold packP
  rw [if_neg e0]
  by_cases h4 : c.k = 4
  · have d1 := ddl_w c.d hcd
    rw [if_pos h4]
    cases hcan : canB c.d
    · rw [hcan, if_neg (by simp)] at d1
      rw [if_neg (by simp)]
      unfold walrec_Pack
      exact Ev.congr (fun k => if_neg h0) (Ev.bind p1 (Ev.congr (fun k => if_pos rfl) (Ev.congr (fun k => if_pos h4) (Ev.bind d1 (Ev.congr (f := fun _ => some ((0, 0, 0, nilB), 2)) (fun k => if_neg (by simp)) (Ev.now _))))))
    · rw [hcan, if_pos rfl] at d1
      rw [if_pos rfl]
      unfold walrec_Pack
      exact Ev.congr (fun k => if_neg h0) (Ev.bind p1 (Ev.congr (fun k => if_pos rfl) (Ev.congr (fun k => if_pos h4) (Ev.bind d1 (Ev.congr (f := fun _ => some ((5, txn, 0, strOfNums (ddlE c.d)), 0)) (fun k => if_pos rfl) (Ev.now _))))))
  have hk : c.k = 1 ∨ c.k = 2 ∨ c.k = 3 := by have := plainC_kind hp; omega
  have t1 := table_ev id name key next l hn hok
  rw [if_neg h4]
  by_cases ht : tabB id name key next l = true
  case neg =>
    rw [Bool.eq_false_iff.2 ht] at t1
    rw [if_neg ht]
    unfold walrec_Pack
    exact Ev.congr (fun k => if_neg h0) (Ev.bind p1 (Ev.congr (fun k => if_pos rfl) (Ev.congr (fun k => if_neg h4) (Ev.bind t1 (Ev.congr (f := fun _ => some ((0, 0, 0, nilB), 2)) (fun k => if_neg (by simp)) (Ev.now _))))))
  rw [ht] at t1
  rw [if_pos ht]
  by_cases hname : name = c.tb
  case neg =>
    have hname' : ¬ name.toList = c.tb.toList := fun e => hname (ba_inj e)
    rw [if_neg hname]
    unfold walrec_Pack
    exact Ev.congr (fun k => if_neg h0) (Ev.bind p1 (Ev.congr (fun k => if_pos rfl) (Ev.congr (fun k => if_neg h4) (Ev.bind t1 (Ev.congr (fun k => if_pos rfl) (Ev.congr (f := fun _ => some ((0, 0, 0, nilB), 12)) (fun k => if_neg hname') (Ev.now _)))))))
  have hname' : name.toList = c.tb.toList := by rw [hname]
  obtain ⟨i, hil, hk1, hk2⟩ := key_at ht
  have hki : keyI key l = i := by unfold keyI; rw [hk1]; rfl
  have hgi : l.getD i colZ = l[i] := by rw [List.getD_eq_getElem?_getD, List.getElem?_eq_getElem hil]; rfl
  rw [if_pos hname, hki, hgi]
  have hw : IntKind.i64.wrap (IntKind.i64.wrap (c.k - 1) + 2) = c.k + 1 := by rw [i64w (c.k - 1) (by omega) (by omega), i64w _ (by omega) (by omega)]; omega
  by_cases h3 : c.k = 3
  · have kt := key_type_ev (next := next) hn hok (by omega) ht i hil hk1
    have r1 := rowkey_ev kt c.v hcv
    have him : Ev (fun k => walrec_image k id name key next l c.k c.lsn c.tb c.v.f0 c.v.f1 c.v.f2 c.cl c.d.f0 c.d.f1 c.d.f2 c.d.f3 c.d.f4 c.d.f5.f0 c.d.f5.f1 c.d.f6 c.d.f7.f0 c.d.f7.f1 c.d.f7.f2 c.d.f8) (if fitB l[i].f2.f0 l[i].f2.f1 c.v.f0 c.v.f1 c.v.f2 = true then (strOfNums (oneV c.v), 0) else (⟨#[]⟩, 10)) := by
      unfold walrec_image
      exact Ev.congr (fun k => if_pos h3) (Ev.bind r1 (Ev.now _))
    rw [if_pos h3]
    cases hf : fitB l[i].f2.f0 l[i].f2.f1 c.v.f0 c.v.f1 c.v.f2
    · rw [hf, if_neg (by simp)] at him
      rw [if_neg (by simp)]
      unfold walrec_Pack
      exact Ev.congr (fun k => if_neg h0) (Ev.bind p1 (Ev.congr (fun k => if_pos rfl) (Ev.congr (fun k => if_neg h4) (Ev.bind t1 (Ev.congr (fun k => if_pos rfl) (Ev.congr (fun k => if_pos hname') (Ev.bind him (Ev.congr (f := fun _ => some ((0, 0, 0, nilB), 10)) (fun k => if_neg (by simp)) (Ev.now _)))))))))
    · rw [hf, if_pos rfl] at him
      rw [if_pos rfl]
      unfold walrec_Pack
      refine Ev.congr (fun k => if_neg h0) (Ev.bind p1 (Ev.congr (fun k => if_pos rfl) (Ev.congr (fun k => if_neg h4) (Ev.bind t1 (Ev.congr (fun k => if_pos rfl) (Ev.congr (fun k => if_pos hname') (Ev.bind him ?_)))))))
      exact Ev.congr (f := fun _ => some ((4, txn, id, strOfNums (oneV c.v)), 0)) (fun k => by rw [if_pos rfl, hw, h3]; rfl) (Ev.now _)
  have him := image_ev id name key next l c i hil hn hok hb ⟨hcv, hcl, hcc, hcd⟩ ht hk1 h3
  have hbase : ∀ (r : RT) (e : Int) (s : ByteArray), Ev (fun k => walrec_image k id name key next l c.k c.lsn c.tb c.v.f0 c.v.f1 c.v.f2 c.cl c.d.f0 c.d.f1 c.d.f2 c.d.f3 c.d.f4 c.d.f5.f0 c.d.f5.f1 c.d.f6 c.d.f7.f0 c.d.f7.f1 c.d.f7.f2 c.d.f8) (s, e) → r = (if e = 0 then (c.k + 1, txn, id, s) else (0, 0, 0, nilB)) →
      Ev (fun k => walrec_Pack k txn id name key next l c.k c.lsn c.tb c.v.f0 c.v.f1 c.v.f2 c.cl c.d.f0 c.d.f1 c.d.f2 c.d.f3 c.d.f4 c.d.f5.f0 c.d.f5.f1 c.d.f6 c.d.f7.f0 c.d.f7.f1 c.d.f7.f2 c.d.f8) (r, e) := fun r e s hi hr => by
    subst hr
    unfold walrec_Pack
    refine Ev.congr (fun k => if_neg h0) (Ev.bind p1 (Ev.congr (fun k => if_pos rfl) (Ev.congr (fun k => if_neg h4) (Ev.bind t1 (Ev.congr (fun k => if_pos rfl) (Ev.congr (fun k => if_pos hname') (Ev.bind hi ?_)))))))
    by_cases he : e = 0
    · subst he
      exact Ev.congr (f := fun _ => some ((c.k + 1, txn, id, s), 0)) (fun k => by rw [if_pos rfl, hw]) (Ev.now _)
    · refine Ev.congr (f := fun _ => some ((0, 0, 0, nilB), e)) (fun k => if_neg he) ?_
      rw [if_neg he]
      exact Ev.now _
  rw [if_neg h3]
  by_cases hl : c.cl.length = l.length
  case neg =>
    rw [if_neg hl] at him
    rw [if_neg (fun q => hl q.1)]
    exact hbase _ _ _ him rfl
  rw [if_pos hl] at him
  cases hL : laidB l c.cl
  · rw [hL, if_neg (by simp)] at him
    rw [if_neg (fun q => by simp at q)]
    exact hbase _ _ _ him rfl
  rw [hL, if_pos rfl] at him
  rw [if_pos ⟨hl, rfl⟩]
  unfold packR
  by_cases hE : rowE id name key next l (rowOfCells c.cl) = 0
  case neg =>
    rw [if_neg hE] at him ⊢
    exact hbase _ _ _ him (by rw [if_neg hE])
  rw [if_pos hE] at him ⊢
  cases hV : valEq ((rowOfCells c.cl).getD i nilV) c.v
  · rw [hV, if_neg (by simp)] at him
    rw [if_neg (by simp)]
    exact hbase _ _ _ him rfl
  · rw [hV, if_pos rfl] at him
    rw [if_pos rfl]
    exact hbase _ _ _ him rfl

def unpackP (a b c : Int) (s : ByteArray) (id : Int) (name : ByteArray) (key next : Int) (l : List S_Column) (lsn : Int) : Chg × Int :=
  if recR a b c s = true ∧ (2 ≤ a ∧ a ≤ 5) ∧ 0 ≤ lsn then
    (if a = 5 then (if (readddlS s).2 = 0 then (⟨4, lsn, (readddlS s).1.f1, nilV, [], (readddlS s).1⟩, 0) else (noC, (readddlS s).2))
    else if tabB id name key next l = true then
      (if id = c then
        (if a = 4 then
          (if (readK (l.getD (keyI key l) colZ).f2.f0 (l.getD (keyI key l) colZ).f2.f1 s).2 = 0 then (⟨a - 1, lsn, name, (readK (l.getD (keyI key l) colZ).f2.f0 (l.getD (keyI key l) colZ).f2.f1 s).1, [], bareD 0 nilB⟩, 0)
          else (noC, (readK (l.getD (keyI key l) colZ).f2.f0 (l.getD (keyI key l) colZ).f2.f1 s).2))
        else (if (decR l s).2 = 0 then (⟨a - 1, lsn, name, (decR l s).1.getD (keyI key l) nilV, cellsZ l (decR l s).1, bareD 0 nilB⟩, 0) else (noC, (decR l s).2)))
      else (noC, 12))
    else (noC, 2))
  else (noC, 2)
theorem unpack_w (a b c : Int) (s : ByteArray) (id : Int) (name : ByteArray) (key next : Int) (l : List S_Column) (lsn : Int) (hs : s.size ≤ 1000000) (hn : name.size ≤ 1000000000) (hok : ∀ c ∈ l, OkCol c) (hl : l.length ≤ 1000000) :
    Ev (fun k => walrec_Unpack k a b c s id name key next l lsn) (tupC (unpackP a b c s id name key next l lsn).1, (unpackP a b c s id name key next l lsn).2) := by
  by_cases hR : recR a b c s = true
  case neg =>
    have hR' : recR a b c s = false := by simpa using hR
    rw [show unpackP a b c s id name key next l lsn = (noC, 2) from by unfold unpackP; rw [if_neg (fun q => hR q.1)]]
    refine Ev.pure fun k => ?_
    unfold walrec_Unpack
    rw [wright_eq, hR', Option.bind_some, if_neg (by simp)]
    rfl
  have hR' := of_decide_eq_true hR
  by_cases hi : 2 ≤ a ∧ a ≤ 5
  case neg =>
    rw [show unpackP a b c s id name key next l lsn = (noC, 2) from by unfold unpackP; rw [if_neg (fun q => hi q.2.1)]]
    refine Ev.pure fun k => ?_
    unfold walrec_Unpack
    rw [wright_eq, hR, Option.bind_some, if_pos rfl, imaged_eq, Option.bind_some]
    unfold imgB
    rw [decide_eq_false hi, if_neg (by simp)]
    rfl
  have hw1 : IntKind.i64.wrap (IntKind.i64.wrap (a - 2) + 1) = a - 1 := by rw [i64w (a - 2) (by omega) (by omega), i64w _ (by omega) (by omega)]; omega
  have p1 : ∀ k, walrec_Right k a b c s = some true := fun k => by rw [wright_eq, hR]
  have p2 : ∀ k, walrec_imaged k a = some true := fun k => by rw [imaged_eq]; unfold imgB; rw [decide_eq_true hi]
  by_cases hl0 : lsn < 0
  · rw [show unpackP a b c s id name key next l lsn = (noC, 2) from by unfold unpackP; rw [if_neg (fun q => by omega)]]
    refine Ev.pure fun k => ?_
    unfold walrec_Unpack
    simp only [p1, p2, Option.bind_some, if_true, if_pos hl0, tupC_none]
  unfold unpackP
  rw [if_pos ⟨hR, hi, by omega⟩]
  by_cases h5 : a = 5
  · have hr1 := readddl_ev1 s (by omega)
    rw [readddl_F] at hr1
    rw [if_pos h5]
    by_cases he : (readddlS s).2 = 0
    · rw [if_pos he]
      refine Ev.flat1 0 hr1 (fun m g => ?_)
      have g := g 0
      simp only [Nat.add_zero] at g ⊢
      unfold walrec_Unpack
      simp only [p1, p2, Option.bind_some, if_true, if_neg hl0, if_pos h5, g, he]
      rfl
    · rw [if_neg he]
      refine Ev.flat1 0 hr1 (fun m g => ?_)
      have g := g 0
      simp only [Nat.add_zero] at g ⊢
      unfold walrec_Unpack
      simp only [p1, p2, Option.bind_some, if_true, if_neg hl0, if_pos h5, g, if_neg he]
      rfl
  rw [if_neg h5]
  have t1 := table_ev id name key next l hn hok
  by_cases ht : tabB id name key next l = true
  case neg =>
    have ht' : tabB id name key next l = false := by simpa using ht
    rw [ht'] at t1
    rw [if_neg ht]
    refine Ev.flat1 0 t1 (fun m g => ?_)
    have g := g 0
    simp only [Nat.add_zero] at g ⊢
    unfold walrec_Unpack
    simp only [p1, p2, Option.bind_some, if_true, if_neg hl0, if_neg h5, g, Bool.false_eq_true, if_false]
    rfl
  rw [ht] at t1
  rw [if_pos ht]
  obtain ⟨i, hil, hk1, hk2⟩ := key_at ht
  have hki : keyI key l = i := by unfold keyI; rw [hk1]; rfl
  have hgi : l.getD i colZ = l[i] := by rw [List.getD_eq_getElem?_getD, List.getElem?_eq_getElem hil]; rfl
  rw [hki, hgi]
  have hty := tabB_types ht
  by_cases hid : id = c
  case neg =>
    rw [if_neg hid]
    refine Ev.flat1 0 t1 (fun m g => ?_)
    have g := g 0
    simp only [Nat.add_zero] at g ⊢
    unfold walrec_Unpack
    simp only [p1, p2, Option.bind_some, if_true, if_neg hl0, if_neg h5, g, if_neg hid]
    rfl
  rw [if_pos hid]
  by_cases h4 : a = 4
  · have kt := key_type_ev (next := next) hn hok (by omega) ht i hil hk1
    have r1 := readkey_ev kt (hty _ (List.getElem_mem hil)) s (by omega)
    rw [if_pos h4]
    by_cases he : (readK l[i].f2.f0 l[i].f2.f1 s).2 = 0
    · rw [if_pos he]
      refine Ev.flat2 0 t1 r1 (fun m g g2 => ?_)
      have g := g 0
      have g2 := g2 0
      simp only [Nat.add_zero] at g g2 ⊢
      unfold walrec_Unpack
      simp only [p1, p2, Option.bind_some, if_true, if_neg hl0, if_neg h5, g, if_pos hid, if_pos h4, g2, hw1, he]
      rfl
    · rw [if_neg he]
      refine Ev.flat2 0 t1 r1 (fun m g g2 => ?_)
      have g := g 0
      have g2 := g2 0
      simp only [Nat.add_zero] at g g2 ⊢
      unfold walrec_Unpack
      simp only [p1, p2, Option.bind_some, if_true, if_neg hl0, if_neg h5, g, if_pos hid, if_pos h4, g2, if_neg he]
      rfl
  rw [if_neg h4]
  have d1 := decode_ev id name key next l s hn hok hs
  rw [if_pos ht] at d1
  have hrow := decR_row l s (by omega) hty
  have hbad := decR_bad l s
  generalize decR l s = q at d1 hrow hbad
  obtain ⟨row, e⟩ := q
  simp only at hrow hbad
  by_cases he : e = 0
  · subst he
    obtain ⟨w1, w2, w3⟩ := hrow rfl
    have hrE : rowE id name key next l row = 0 := by unfold rowE fitsE; rw [if_pos ht, if_pos w1]; exact w2
    have c1 := cells_ev id name key next l row hn hok hl (by omega) w3 hrE
    have k1 := key_ev id name key next l (by omega)
    rw [hk1] at k1
    have hir : i < row.length := by omega
    have hgr : row.getD i nilV = row[i] := by rw [List.getD_eq_getElem?_getD, List.getElem?_eq_getElem hir]; rfl
    rw [if_pos rfl, hgr]
    have hc : Ev (fun k => walrec_cells k id name key next l s (a - 1) lsn name 0 0 (⟨#[]⟩ : ByteArray) [] 0 (⟨#[]⟩ : ByteArray) (⟨#[]⟩ : ByteArray) (⟨#[]⟩ : ByteArray) (⟨#[]⟩ : ByteArray) 0 0 false 0 0 (⟨#[]⟩ : ByteArray) []) (0, tupC ⟨a - 1, lsn, name, row[i], cellsZ l row, bareD 0 nilB⟩) := by
      refine Ev.flat3 0 d1 k1 c1 (fun m g g2 g3 => ?_)
      have g := g 0
      have g2 := g2 0
      have g3 := g3 0
      simp only [Nat.add_zero] at g g2 g3 ⊢
      unfold walrec_cells
      simp only [g, g2, g3, Option.bind_some, if_true]
      rw [if_pos (by omega), if_pos (by omega), rd_val row i hir]
      rfl
    refine Ev.flat2 0 t1 hc (fun m g g2 => ?_)
    have g := g 0
    have g2 := g2 0
    simp only [Nat.add_zero] at g g2 ⊢
    unfold walrec_Unpack
    simp only [p1, p2, Option.bind_some, if_true, if_neg hl0, if_neg h5, g, if_pos hid, if_neg h4, hw1, g2]
  · have hb := hbad he
    simp only [Prod.mk.injEq] at hb
    obtain ⟨rfl, _⟩ := hb
    rw [if_neg he]
    have hc : Ev (fun k => walrec_cells k id name key next l s (a - 1) lsn name 0 0 (⟨#[]⟩ : ByteArray) [] 0 (⟨#[]⟩ : ByteArray) (⟨#[]⟩ : ByteArray) (⟨#[]⟩ : ByteArray) (⟨#[]⟩ : ByteArray) 0 0 false 0 0 (⟨#[]⟩ : ByteArray) []) (e, tupC ⟨a - 1, lsn, name, nilV, [], bareD 0 nilB⟩) := by
      refine Ev.flat1 0 d1 (fun m g => ?_)
      have g := g 0
      simp only [Nat.add_zero] at g ⊢
      unfold walrec_cells
      simp only [g, Option.bind_some, if_neg he]
      rfl
    refine Ev.flat2 0 t1 hc (fun m g g2 => ?_)
    have g := g 0
    have g2 := g2 0
    simp only [Nat.add_zero] at g g2 ⊢
    unfold walrec_Unpack
    simp only [p1, p2, Option.bind_some, if_true, if_neg hl0, if_neg h5, g, if_pos hid, if_neg h4, hw1, g2, if_neg he]
    rfl

/-- Is a table tried? -/
def fewC (c : S_Column) : Bool := decide (c.f1.size ≤ 200) && decide (c.f4.f2.size ≤ 200)
def fewB (a1 : ByteArray) (l : List S_Column) : Bool := decide (l.length ≤ 20) && (decide (a1.size ≤ 200) && l.all fewC)
end Go.Proofs.YtgefikclhfjcgaaDoor.EWalrecKeeps

/- For any table, any value and any bytes: the key's image, and the key of the bytes, or why there is none, are what the page says, and lead back; no condition but that the tables of the package level hold what the program's text lays in them. -/
import Derived.Test.YtdeophpjammbpaaDoorHRowcodeKeysx20
import Derived.Test.YtdeophpjammbpaaDoorOpenRowcodeKeys
set_option linter.unusedVariables false
set_option linter.unusedSimpArgs false
namespace Go.Proofs.YtdeophpjammbpaaDoor.Pure
open Go.RowKit Go.Proofs.YtdeophpjammbpaaDoor.HRowcodeKeys Go.Proofs.YtdeophpjammbpaaDoorW.PrintWords Go.Proofs.YtdeophpjammbpaaDoorW.PrintLast Go.Proofs.YtdeophpjammbpaaDoorW.PrintMore
/- piece flat -/
theorem Ev.flat0 {α : Type} {g : Nat → Option α} {r : α} (d : Nat) (h : ∀ m, g (m + d) = some r) : Ev g r :=
  ⟨d, fun k hk => by obtain ⟨m, rfl⟩ : ∃ m, k = m + d := ⟨k - d, by omega⟩; exact h m⟩
theorem Ev.eq {α : Type} {g : Nat → Option α} {r s : α} (h : Ev g r) (e : r = s) : Ev g s := e ▸ h
theorem wrap_id (n : Int) (h0 : -9223372036854775808 ≤ n) (h1 : n ≤ 9223372036854775807) : wrap64 n = n := by
  unfold wrap64
  omega
theorem wrap_succ (n : Nat) (h : n < 9223372036854775807) : wrap64 ((n : Int) + 1) = ((n + 1 : Nat) : Int) := by
  rw [wrap_id _ (by omega) (by omega)]
  omega
theorem down {P : Nat → Prop} {n : Nat} (h0 : P n) (hs : ∀ i, i < n → P (i + 1) → P i) : ∀ i, i ≤ n → P i := by
  intro i hi
  obtain ⟨d, rfl⟩ : ∃ d, n = i + d := ⟨n - i, by omega⟩
  clear hi
  induction d generalizing i with
  | zero => exact h0
  | succ d ih => exact hs i (by omega) (ih (i + 1) (by rw [show i + 1 + d = i + (d + 1) by omega]; exact h0) (by rw [show i + 1 + d = i + (d + 1) by omega]; exact hs))
theorem beq_dec (a b : Int) : (a == b) = decide (a = b) := by rw [Bool.eq_iff_iff, beq_iff_eq, decide_eq_true_iff]
theorem ba_inj {a b : ByteArray} (h : a.toList = b.toList) : a = b := by
  rw [ByteArray.toList_eq, ByteArray.toList_eq] at h
  exact ByteArray.ext (Array.toList_inj.1 h)
theorem ba_iff (a b : ByteArray) : a.toList = b.toList ↔ a = b := ⟨ba_inj, fun h => by rw [h]⟩
theorem ba_beq (a b : ByteArray) : (a.toList == b.toList) = decide (a = b) := by
  by_cases h : a = b
  · subst h; simp
  · have : ¬ a.toList = b.toList := fun e => h (ba_inj e)
    simp [h, this]
theorem ba_nil (a : ByteArray) : a.toList = ([] : List UInt8) ↔ a.size = 0 := by
  rw [ByteArray.toList_eq, ← List.length_eq_zero_iff, Array.length_toList]
  exact Iff.rfl
/- piece base -/
theorem tmod_nonneg_eq (a b : Int) (ha : 0 ≤ a) : Int.tmod a b = a % b := Int.tmod_eq_emod_of_nonneg ha
theorem tdiv_nonneg_eq (a b : Int) (ha : 0 ≤ a) : Int.tdiv a b = a / b := Int.tdiv_eq_ediv_of_nonneg ha
theorem u64_id (n : Int) (h0 : 0 ≤ n) (h1 : n < 18446744073709551616) : IntKind.u64.wrap n = n := by
  simp only [IntKind.wrap, IntKind.bits, IntKind.signed]
  simp
  omega
theorem i64_eq (n : Int) : IntKind.i64.wrap n = wrap64 n := by unfold wrap64; exact Go.IntKind.wrap_i64 n
theorem u64_eq (n : Int) : IntKind.u64.wrap n = n % 18446744073709551616 := by simp [IntKind.wrap, IntKind.bits, IntKind.signed]
theorem wf_parts {k : IntKind} {x : Int} (h : (Lit.int k x).wf = true) : k.min ≤ x ∧ x ≤ k.max := by
  unfold Lit.wf at h
  rw [Bool.and_eq_true, decide_eq_true_eq, decide_eq_true_eq] at h
  exact h
theorem wf_i64 {x : Int} (h : (Lit.int .i64 x).wf = true) : -9223372036854775808 ≤ x ∧ x ≤ 9223372036854775807 := by
  have := wf_parts h
  rw [show IntKind.min .i64 = -9223372036854775808 by decide, show IntKind.max .i64 = 9223372036854775807 by decide] at this
  exact this
def byt (s : ByteArray) : List Int := s.data.toList.map fun c => (c.toNat : Int)
def Bytes (l : List Int) : Prop := ∀ x ∈ l, 0 ≤ x ∧ x ≤ 255
theorem byt_len (s : ByteArray) : (byt s).length = s.size := by
  unfold byt
  rw [List.length_map, Array.length_toList]
  rfl
theorem byt_bytes (s : ByteArray) : Bytes (byt s) := by
  intro x hx
  obtain ⟨c, _, rfl⟩ := List.mem_map.1 hx
  have := c.toNat_lt
  omega
theorem str_byt (s : ByteArray) : strOfNums (byt s) = s := by
  apply ByteArray.ext
  unfold strOfNums byt
  rw [List.map_map]
  have : ((fun n : Int => UInt8.ofNat n.toNat) ∘ fun c : UInt8 => (c.toNat : Int)) = id := by
    funext c
    simp
  rw [this]
  simp
theorem byt_str {l : List Int} (h : Bytes l) : byt (strOfNums l) = l := by
  unfold strOfNums byt
  rw [List.toList_toArray, List.map_map]
  have : ∀ x ∈ l, ((fun c : UInt8 => (c.toNat : Int)) ∘ fun n : Int => UInt8.ofNat n.toNat) x = x := by
    intro x hx
    have := h x hx
    simp only [Function.comp]
    rw [UInt8.toNat_ofNat', Nat.mod_eq_of_lt (by omega)]
    omega
  rw [List.map_congr_left this]
  simp
theorem byt_append (a b : ByteArray) : byt (a ++ b) = byt a ++ byt b := by
  unfold byt
  rw [show (a ++ b).data.toList = a.data.toList ++ b.data.toList by simp, List.map_append]
theorem byt_inj {a b : ByteArray} (h : byt a = byt b) : a = b := by rw [← str_byt a, h, str_byt]
theorem byt_extract (s : ByteArray) (a b : Nat) : byt (s.extract a b) = ((byt s).drop a).take (b - a) := by
  unfold byt
  rw [show (s.extract a b).data.toList = (s.data.toList.drop a).take (b - a) by simp [ByteArray.data_extract, Array.toList_extract, List.extract_eq_take_drop], List.map_take, List.map_drop]
theorem byt_cut (s : ByteArray) (a : Nat) : byt (s.extract a s.size) = (byt s).drop a := by
  rw [byt_extract, ← byt_len, List.take_of_length_le (by simp)]
theorem byt_to (s : ByteArray) (b : Nat) : byt (s.extract 0 b) = (byt s).take b := by
  rw [byt_extract]; simp
theorem bt_byt (s : ByteArray) (i : Nat) (h : i < s.size) : bt s (i : Int) = (byt s)[i]'(by rw [byt_len]; exact h) := by
  unfold bt byt
  simp [h]
  rfl
theorem Bytes.take {a : List Int} (h : Bytes a) (n : Nat) : Bytes (a.take n) := fun x hx => h x (List.mem_of_mem_take hx)
theorem Bytes.drop {a : List Int} (h : Bytes a) (n : Nat) : Bytes (a.drop n) := fun x hx => h x (List.mem_of_mem_drop hx)
theorem strOfNums_append (a b : List Int) : strOfNums (a ++ b) = strOfNums a ++ strOfNums b := by
  apply ByteArray.ext
  simp [strOfNums]
theorem strOfNums_size (a : List Int) : (strOfNums a).size = a.length := by simp [strOfNums, ByteArray.size]
/- piece scan -/
def scan {α : Type} (p : α → Bool) : List α → Nat → Int × Bool
  | [], _ => (0, false)
  | x :: r, i => if p x = true then ((i : Int), true) else scan p r (i + 1)
def scanR {α : Type} (p : α → Bool) : List α → Nat → Int
  | [], _ => -1
  | x :: r, i => if p x = true then (i : Int) else scanR p r (i + 1)
theorem scan_or {α : Type} (p : α → Bool) : ∀ (l : List α) (i : Nat), (scan p l i = (scanR p l i, true) ∧ (i : Int) ≤ scanR p l i ∧ scanR p l i < (i : Int) + l.length) ∨ (scan p l i = (0, false) ∧ scanR p l i = -1)
  | [], i => .inr ⟨rfl, rfl⟩
  | x :: r, i => by
    by_cases h : p x = true
    · refine .inl ?_
      simp only [scan, scanR, if_pos h, List.length_cons]
      exact ⟨trivial, by omega, by omega⟩
    · simp only [scan, scanR, if_neg h, List.length_cons]
      rcases scan_or p r (i + 1) with ⟨h1, h2, h3⟩ | h1
      · exact .inl ⟨h1, by omega, by omega⟩
      · exact .inr h1
theorem scanR_iff {α : Type} (p : α → Bool) : ∀ (l : List α) (i : Nat), scanR p l i = -1 ↔ ∀ x ∈ l, p x = false
  | [], i => by simp [scanR]
  | x :: r, i => by
    by_cases h : p x = true
    · simp only [scanR, if_pos h]
      constructor
      · intro e; omega
      · intro e; have := e x (by simp); rw [h] at this; cases this
    · simp only [scanR, if_neg h, List.mem_cons, forall_eq_or_imp]
      rw [scanR_iff p r (i + 1)]
      simp [h]
/- piece rds -/
theorem rd_col (l : List S54) (i : Nat) (hi : i < l.length) : rd_T54 l (i : Int) = l[i] := by simp [rd_T54, List.getD, hi]
def partB (c i : Int) : Bool := if 97 ≤ c ∧ c ≤ 122 then true else if (48 ≤ c ∧ c ≤ 57) ∨ c = 95 then decide (0 < i) else false
theorem part_ev (c i : Int) : Ev (fun k => name_part.f k c i) (partB c i) := by
  refine Ev.flat0 6 (fun m => ?_)
  unfold partB
  simp only [name_part.f, name_part.j0, name_part.j1, name_part.j2, ge_iff_le, gt_iff_lt]
  by_cases h1 : 97 ≤ c <;> by_cases h2 : c ≤ 122 <;> by_cases h3 : 48 ≤ c <;> by_cases h4 : c ≤ 57 <;> by_cases h5 : c = 95 <;> simp [h1, h2, h3, h4, h5] <;> omega
def rdn (s : ByteArray) : Nat → Nat → Int
  | 0, i => (i : Int)
  | n + 1, i => if partB (bt s (i : Int)) (i : Int) = true then rdn s n (i + 1) else (i : Int)
theorem nread_ev (s : ByteArray) (hs : s.size ≤ 9223372036854775807) : Ev (fun k => name_Read.f k s) (rdn s s.size 0) := by
  have h := down (P := fun i => Ev (fun k => name_Read.l0 k s (s.size : Int) (i : Int)) (rdn s (s.size - i) i)) (n := s.size)
    (by rw [Nat.sub_self]; exact Ev.step (f := fun _ => some (s.size : Int)) (fun k => by simp only [name_Read.l0]; rw [if_neg (by omega)]) (Ev.now _))
    (fun i hi ih => by
      rw [show s.size - i = (s.size - (i + 1)) + 1 by omega]
      refine Ev.step (f := fun k => (name_part.f k (bt s (i : Int)) (i : Int)).bind fun t => if t = true then name_Read.l0 k s (s.size : Int) ((i + 1 : Nat) : Int) else some (i : Int)) (fun k => ?_) ?_
      · simp only [name_Read.l0]
        rw [if_pos (by omega), if_pos (by omega), if_pos (by omega), wrap_succ _ (by omega)]
      · refine Ev.bind (part_ev _ _) ?_
        simp only [rdn]
        split
        · exact ih
        · exact Ev.now _) 0 (Nat.zero_le _)
  exact h
def nameB (s : ByteArray) : Bool := decide (0 < s.size) && (decide (s.size ≤ 16) && (rdn s s.size 0 == (s.size : Int)))
theorem name_ev (s : ByteArray) (hs : s.size ≤ 9223372036854775807) : Ev (fun k => name_Right.f k s) (nameB s) := by
  unfold name_Right.f nameB
  by_cases h0 : s.size = 0
  · refine Ev.congr (f := fun _ => some false) (fun k => by rw [if_pos ((ba_nil s).2 h0)]) ?_
    rw [decide_eq_false (by omega), Bool.false_and]
    exact Ev.now _
  · rw [decide_eq_true (by omega), Bool.true_and]
    by_cases h1 : s.size ≤ 16
    · rw [decide_eq_true h1, Bool.true_and]
      refine Ev.congr (fun k => by rw [if_neg (fun e => h0 ((ba_nil s).1 e)), if_pos (by omega)]) ?_
      exact Ev.bind (nread_ev s hs) (Ev.now _)
    · rw [decide_eq_false h1, Bool.false_and]
      exact Ev.congr (f := fun _ => some false) (fun k => by rw [if_neg (fun e => h0 ((ba_nil s).1 e)), if_neg (by omega)]) (Ev.now _)
/- piece refname -/
theorem letter_eq (c : Int) : haulageref04_letter.f c = some (decide (97 ≤ c ∧ c ≤ 122)) := by
  unfold haulageref04_letter.f
  by_cases h1 : 97 ≤ c <;> simp [h1]
theorem rpart_eq (c : Int) : haulageref04_Part.f c = some (decide ((97 ≤ c ∧ c ≤ 122) ∨ (48 ≤ c ∧ c ≤ 57) ∨ c = 95)) := by
  unfold haulageref04_Part.f
  rw [letter_eq, Option.bind_some]
  by_cases h1 : 97 ≤ c ∧ c ≤ 122
  · simp [h1]
  · by_cases h3 : 48 ≤ c <;> by_cases h4 : c ≤ 57 <;> by_cases h5 : c = 95 <;> simp [h1, h3, h4, h5]
theorem rnread_ev (s : ByteArray) (hs : s.size ≤ 9223372036854775807) : Ev (fun k => haulageref04_Read.f k s) (rdn s s.size 0) := by
  have h := down (P := fun i => Ev (fun k => haulageref04_Read.l0 k s (i : Int)) (rdn s (s.size - i) i)) (n := s.size)
    (by
      rw [Nat.sub_self]
      exact Ev.step (fun k => by simp only [haulageref04_Read.l0]; rw [if_neg (by omega)]) (Ev.step (f := fun _ => some (s.size : Int)) (fun k => by simp only [haulageref04_Read.j1]; rw [if_neg (by simp)]) (Ev.now _)))
    (fun i hi ih => by
      rw [show s.size - i = (s.size - (i + 1)) + 1 by omega]
      have hj : Ev (fun k => haulageref04_Read.j1 k s (i : Int) (partB (bt s (i : Int)) (i : Int))) (rdn s ((s.size - (i + 1)) + 1) i) := by
        simp only [rdn]
        split
        · rename_i e
          exact Ev.step (fun k => by simp only [haulageref04_Read.j1]; rw [if_pos (by simpa using e), wrap_succ _ (by omega)]) ih
        · rename_i e
          exact Ev.step (f := fun _ => some (i : Int)) (fun k => by simp only [haulageref04_Read.j1]; rw [if_neg (by simpa using e)]) (Ev.now _)
      refine Ev.step (fun k => ?_) hj
      simp only [haulageref04_Read.l0]
      rw [if_pos (by omega), if_pos (by omega), rpart_eq, Option.bind_some]
      by_cases h1 : (97 ≤ bt s (i : Int) ∧ bt s (i : Int) ≤ 122) ∨ (48 ≤ bt s (i : Int) ∧ bt s (i : Int) ≤ 57) ∨ bt s (i : Int) = 95
      · rw [if_pos (by simpa using h1)]
        by_cases h2 : i = 0
        · subst h2
          rw [if_neg (by omega), if_pos (by omega), letter_eq, Option.bind_some]
          congr 1
          unfold partB
          by_cases h3 : 97 ≤ bt s ((0 : Nat) : Int) ∧ bt s ((0 : Nat) : Int) ≤ 122
          · rw [if_pos h3]
            simpa using h3
          · rw [if_neg h3]
            have h3' : ¬ (97 ≤ bt s 0 ∧ bt s 0 ≤ 122) := h3
            rw [decide_eq_false h3']
            simp
        · rw [if_pos (by omega)]
          congr 1
          unfold partB
          by_cases h3 : 97 ≤ bt s (i : Int) ∧ bt s (i : Int) ≤ 122
          · rw [if_pos h3]
          · rw [if_neg h3, if_pos (by rcases h1 with h1 | h1; exact absurd h1 h3; exact h1), decide_eq_true (by omega)]
      · rw [if_neg (by simpa using h1)]
        congr 1
        unfold partB
        rw [if_neg (fun e => h1 (.inl e)), if_neg (fun e => h1 (.inr e))]) 0 (Nat.zero_le _)
  exact h
theorem rname_ev (s : ByteArray) (hs : s.size ≤ 9223372036854775807) : Ev (fun k => haulageref04_Right.f k s) (nameB s) := by
  unfold haulageref04_Right.f nameB
  by_cases h0 : s.size = 0
  · refine Ev.congr (f := fun _ => some false) (fun k => by rw [if_neg (by omega)]) ?_
    rw [decide_eq_false (by omega), Bool.false_and]
    exact Ev.now _
  · rw [decide_eq_true (by omega), Bool.true_and]
    by_cases h1 : s.size ≤ 16
    · rw [decide_eq_true h1, Bool.true_and]
      refine Ev.congr (fun k => by rw [if_pos (by omega), if_pos (by omega)]) ?_
      exact Ev.bind (rnread_ev s hs) (Ev.now _)
    · rw [decide_eq_false h1, Bool.false_and]
      exact Ev.congr (f := fun _ => some false) (fun k => by rw [if_pos (by omega), if_neg (by omega)]) (Ev.now _)
/- piece utf -/
def isB (n : Int) : Bool := decide (0 ≤ n ∧ n ≤ 1114111 ∧ (n < 55296 ∨ 57343 < n))
theorem isB_iff (n : Int) : isB n = true ↔ 0 ≤ n ∧ n ≤ 1114111 ∧ (n < 55296 ∨ 57343 < n) := by simp [isB]
def finU (n lo size : Int) : Int × Int × Bool := if isB n = true ∧ lo ≤ n then (n, size, true) else (0, 0, false)
def sgn : List Int → Int × Int × Bool
  | [] => (0, 0, false)
  | c :: r =>
    if c < 128 then (c, 1, true)
    else if c / 32 = 6 then (match r with | b1 :: _ => if b1 / 64 = 2 then finU ((c - 192) * 64 + (b1 - 128)) 128 2 else (0, 0, false) | [] => (0, 0, false))
    else if c / 16 = 14 then (match r with | b1 :: b2 :: _ => if b1 / 64 = 2 then (if b2 / 64 = 2 then finU (((c - 224) * 64 + (b1 - 128)) * 64 + (b2 - 128)) 2048 3 else (0, 0, false)) else (0, 0, false) | _ => (0, 0, false))
    else if c / 8 = 30 then (match r with | b1 :: b2 :: b3 :: _ => if b1 / 64 = 2 then (if b2 / 64 = 2 then (if b3 / 64 = 2 then finU ((((c - 240) * 64 + (b1 - 128)) * 64 + (b2 - 128)) * 64 + (b3 - 128)) 65536 4 else (0, 0, false)) else (0, 0, false)) else (0, 0, false) | _ => (0, 0, false))
    else (0, 0, false)
theorem byt_at {s : ByteArray} {l : List Int} (h : byt s = l) (i : Nat) (x : Int) (hx : l[i]? = some x) : bt s (i : Int) = x := by
  subst h
  obtain ⟨h1, h2⟩ := List.getElem?_eq_some_iff.1 hx
  rw [bt_byt s i (by rw [byt_len] at h1; exact h1)]
  exact h2
theorem uis_eq (n : Int) : utf_is.f n = some (isB n) := by
  unfold utf_is.f isB
  by_cases h1 : 0 ≤ n <;> by_cases h2 : n ≤ 1114111 <;> by_cases h3 : n < 55296 <;> simp [h1, h2, h3]
def widU (n : Int) : Int := if 65536 ≤ n then 4 else if 2048 ≤ n then 3 else if 128 ≤ n then 2 else 1
theorem uwidth_ev (n : Int) : Ev (fun k => utf_width.f k n) (widU n) := by
  refine Ev.flat0 6 (fun m => ?_)
  unfold widU
  simp only [utf_width.f, utf_width.l0]
  have e3 : wrap64 (4 - 1) = 3 := by decide +kernel
  have e2 : wrap64 (3 - 1) = 2 := by decide +kernel
  have e1 : wrap64 (2 - 1) = 1 := by decide +kernel
  rw [e3, e2, e1]
  have r4 : rd G0 4 = 65536 := by decide
  have r3 : rd G0 3 = 2048 := by decide
  have r2 : rd G0 2 = 128 := by decide
  rw [r4, r3, r2]
  by_cases h1 : 65536 ≤ n
  · simp [h1]
  · by_cases h2 : 2048 ≤ n
    · simp [h1, h2]
    · by_cases h3 : 128 ≤ n
      · simp [h1, h2, h3]
      · simp [h1, h2, h3]
theorem u8m (c : Int) (h0 : 0 ≤ c) (h1 : c ≤ 255) : Go.bits .and .u8 c 31 = c % 32 ∧ Go.bits .and .u8 c 15 = c % 16 ∧ Go.bits .and .u8 c 7 = c % 8 ∧ Go.bits .and .u8 c 63 = c % 64 := by
  have m := fun i hi => Go.bits_mask .u8 8 (by decide) Go.wraps_u8 i hi c h0 (by omega)
  exact ⟨m 5 (by decide), m 4 (by decide), m 3 (by decide), m 6 (by decide)⟩
theorem ulead_eq (c : Int) (h0 : 0 ≤ c) (h1 : c ≤ 255) : utf_lead.f c = some (if c < 128 then (1, c) else if c / 32 = 6 then (2, c - 192) else if c / 16 = 14 then (3, c - 224) else if c / 8 = 30 then (4, c - 240) else (0, 0)) := by
  unfold utf_lead.f
  obtain ⟨m1, m2, m3, _⟩ := u8m c h0 h1
  rw [m1, m2, m3, wrap_id c (by omega) (by omega), wrap_id (c % 32) (by omega) (by omega), wrap_id (c % 16) (by omega) (by omega), wrap_id (c % 8) (by omega) (by omega)]
  split
  · rfl
  · split
    · rw [show c % 32 = c - 192 by omega]
    · split
      · rw [show c % 16 = c - 224 by omega]
      · split
        · rw [show c % 8 = c - 240 by omega]
        · rfl
theorem wraps_i64p (n : Int) (h0 : 0 ≤ n) (h1 : n < 2 ^ 63) : IntKind.i64.wrap n = n := by rw [Go.IntKind.wrap_i64]; omega
theorem uacc (n b : Int) (hn : 0 ≤ n) (hn1 : n < 10000000) (hb : b / 64 = 2) : Go.bits .or .i64 (wrap64 (n * 64)) (wrap64 (Go.bits .and .u8 b 63)) = n * 64 + (b - 128) := by
  rw [(u8m b (by omega) (by omega)).2.2.2, wrap_id (n * 64) (by omega) (by omega), wrap_id (b % 64) (by omega) (by omega), show b % 64 = b - 128 by omega]
  exact Go.bits_join .i64 63 (by decide) wraps_i64p 6 (n * 64) (b - 128) (by omega) (by omega) (by omega) (by omega) (by omega) (by omega)
theorem ul0_end (s : ByteArray) (n size i : Int) (h : ¬ i < size) : Ev (fun k => utf_Read.l0 k s n size i) (if isB n = true then (if widU n = size then (n, size, true) else (0, 0, false)) else (0, 0, false)) := by
  refine Ev.step (f := fun k => if isB n = true then ((utf_width.f k n).bind fun t => if t = size then some (n, size, true) else some (0, 0, false)) else some (0, 0, false)) (fun k => ?_) ?_
  · simp only [utf_Read.l0]
    rw [if_neg h, uis_eq, Option.bind_some]
  · by_cases h1 : isB n = true
    · rw [if_pos h1]
      refine Ev.congr (fun k => by rw [if_pos h1]) (Ev.bind (uwidth_ev n) ?_)
      split
      · exact Ev.now _
      · exact Ev.now _
    · rw [if_neg h1]
      exact Ev.congr (f := fun _ => some (0, 0, false)) (fun k => by rw [if_neg h1]) (Ev.now _)
theorem ul0_step (s : ByteArray) (n size : Int) (i : Nat) (b : Int) (r : Int × Int × Bool) (h : (i : Int) < size) (hi : i < s.size) (hs : s.size ≤ 9223372036854775807) (hb : bt s (i : Int) = b) (hn : 0 ≤ n) (hn1 : n < 10000000)
    (hk : b / 64 = 2 → Ev (fun k => utf_Read.l0 k s (n * 64 + (b - 128)) size ((i + 1 : Nat) : Int)) r) (hx : ¬ b / 64 = 2 → r = (0, 0, false)) : Ev (fun k => utf_Read.l0 k s n size (i : Int)) r := by
  by_cases h2 : b / 64 = 2
  · refine Ev.step (fun k => ?_) (hk h2)
    simp only [utf_Read.l0]
    rw [if_pos h, if_pos (by omega), if_pos (by omega), hb, if_pos h2, uacc n b hn hn1 h2, wrap_succ _ (by omega)]
  · rw [hx h2]
    refine Ev.step (f := fun _ => some (0, 0, false)) (fun k => ?_) (Ev.now _)
    simp only [utf_Read.l0]
    rw [if_pos h, if_pos (by omega), if_pos (by omega), hb, if_neg h2]
theorem finU_wid (n lo hi size : Int) (h : n < hi) (hw : ∀ n, 0 ≤ n → n < hi → (widU n = size ↔ lo ≤ n)) : (if isB n = true then (if widU n = size then (n, size, true) else ((0 : Int), (0 : Int), false)) else (0, 0, false)) = finU n lo size := by
  unfold finU
  by_cases h1 : isB n = true
  · rw [if_pos h1]
    have h0 := ((isB_iff n).1 h1).1
    by_cases h2 : lo ≤ n
    · rw [if_pos ((hw n h0 h).2 h2), if_pos ⟨h1, h2⟩]
    · rw [if_neg (fun e => h2 ((hw n h0 h).1 e)), if_neg (fun e => h2 e.2)]
  · rw [if_neg h1, if_neg (fun e => h1 e.1)]
theorem uread_ev (s : ByteArray) (hs : s.size ≤ 9223372036854775807) : Ev (fun k => utf_Read.f k s) (sgn (byt s)) := by
  have hlen := byt_len s
  have hby := byt_bytes s
  unfold utf_Read.f
  generalize hl : byt s = l at hlen hby
  cases l with
  | nil =>
    exact Ev.congr (f := fun _ => some (0, 0, false)) (fun k => by rw [if_pos ((ba_nil s).2 (by rw [← hlen]; rfl))]) (Ev.now _)
  | cons c r =>
    have hz : s.size = r.length + 1 := by rw [← hlen]; rfl
    have hc := hby c (by simp)
    have e0 : bt s 0 = c := byt_at hl 0 c rfl
    refine Ev.congr (fun k => by rw [if_neg (fun e => by have := (ba_nil s).1 e; omega), if_pos (by omega), e0, ulead_eq c hc.1 hc.2, Option.bind_some]) ?_
    have hbad : ∀ n size : Int, (size : Int) > (s.size : Int) → Ev (fun k => utf_Read.j0 k s n size (decide (size > (s.size : Int)))) (0, 0, false) := fun n size h =>
      Ev.step (f := fun _ => some (0, 0, false)) (fun k => by simp only [utf_Read.j0]; rw [if_pos (by simpa using h)]) (Ev.now _)
    have hgo : ∀ (n size : Int) (r), ¬ (size : Int) > (s.size : Int) → Ev (fun k => utf_Read.l0 k s n size ((1 : Nat) : Int)) r → Ev (fun k => utf_Read.j0 k s n size (decide (size > (s.size : Int)))) r := fun n size r h hk =>
      Ev.step (fun k => by simp only [utf_Read.j0]; rw [if_neg (by simpa using h)]; rfl) hk
    simp only [sgn]
    by_cases h1 : c < 128
    · simp only [if_pos h1]
      refine Ev.congr (fun k => by rw [if_neg (by decide)]) (hgo _ _ _ (by omega) ?_)
      refine Ev.eq (ul0_end s c 1 ((1 : Nat) : Int) (by omega)) ?_
      rw [if_pos ((isB_iff c).2 (by omega)), if_pos (by unfold widU; rw [if_neg (by omega), if_neg (by omega), if_neg (by omega)])]
    · simp only [if_neg h1]
      by_cases h2 : c / 32 = 6
      · simp only [if_pos h2]
        refine Ev.congr (fun k => by rw [if_neg (by decide)]) ?_
        cases r with
        | nil => exact hbad _ _ (by simp at hz; omega)
        | cons b1 r =>
          simp only [List.length_cons] at hz
          dsimp only
          have q1 := hby b1 (by simp)
          refine hgo _ _ _ (by omega) (ul0_step s _ _ 1 b1 _ (by omega) (by omega) hs (byt_at hl 1 b1 rfl) (by omega) (by omega) (fun e1 => ?_) (fun e1 => if_neg e1))
          rw [if_pos e1]
          exact Ev.eq (ul0_end s _ 2 ((2 : Nat) : Int) (by omega)) (finU_wid _ 128 2048 2 (by omega) (fun n _ _ => by unfold widU; split <;> (try split) <;> (try split) <;> omega))
      · simp only [if_neg h2]
        by_cases h3 : c / 16 = 14
        · simp only [if_pos h3]
          refine Ev.congr (fun k => by rw [if_neg (by decide)]) ?_
          cases r with
          | nil => exact hbad _ _ (by simp at hz; omega)
          | cons b1 r =>
            cases r with
            | nil => exact hbad _ _ (by simp at hz; omega)
            | cons b2 r =>
              simp only [List.length_cons] at hz
              dsimp only
              have q1 := hby b1 (by simp)
              have q2 := hby b2 (by simp)
              refine hgo _ _ _ (by omega) (ul0_step s _ _ 1 b1 _ (by omega) (by omega) hs (byt_at hl 1 b1 rfl) (by omega) (by omega) (fun e1 => ?_) (fun e1 => if_neg e1))
              rw [if_pos e1]
              refine ul0_step s _ _ 2 b2 _ (by omega) (by omega) hs (byt_at hl 2 b2 rfl) (by omega) (by omega) (fun e2 => ?_) (fun e2 => if_neg e2)
              rw [if_pos e2]
              exact Ev.eq (ul0_end s _ 3 ((3 : Nat) : Int) (by omega)) (finU_wid _ 2048 65536 3 (by omega) (fun n _ _ => by unfold widU; split <;> (try split) <;> (try split) <;> omega))
        · simp only [if_neg h3]
          by_cases h4 : c / 8 = 30
          · simp only [if_pos h4]
            refine Ev.congr (fun k => by rw [if_neg (by decide)]) ?_
            cases r with
            | nil => exact hbad _ _ (by simp at hz; omega)
            | cons b1 r =>
              cases r with
              | nil => exact hbad _ _ (by simp at hz; omega)
              | cons b2 r =>
                cases r with
                | nil => exact hbad _ _ (by simp at hz; omega)
                | cons b3 r =>
                  simp only [List.length_cons] at hz
                  dsimp only
                  have q1 := hby b1 (by simp)
                  have q2 := hby b2 (by simp)
                  have q3 := hby b3 (by simp)
                  refine hgo _ _ _ (by omega) (ul0_step s _ _ 1 b1 _ (by omega) (by omega) hs (byt_at hl 1 b1 rfl) (by omega) (by omega) (fun e1 => ?_) (fun e1 => if_neg e1))
                  rw [if_pos e1]
                  refine ul0_step s _ _ 2 b2 _ (by omega) (by omega) hs (byt_at hl 2 b2 rfl) (by omega) (by omega) (fun e2 => ?_) (fun e2 => if_neg e2)
                  rw [if_pos e2]
                  refine ul0_step s _ _ 3 b3 _ (by omega) (by omega) hs (byt_at hl 3 b3 rfl) (by omega) (by omega) (fun e3 => ?_) (fun e3 => if_neg e3)
                  rw [if_pos e3]
                  exact Ev.eq (ul0_end s _ 4 ((4 : Nat) : Int) (by omega)) (finU_wid _ 65536 100000000 4 (by omega) (fun n _ _ => by unfold widU; split <;> (try split) <;> (try split) <;> omega))
          · simp only [if_neg h4]
            refine Ev.congr (fun k => by rw [if_pos (by trivial)]) ?_
            exact Ev.step (f := fun _ => some (0, 0, false)) (fun k => by simp only [utf_Read.j0]; rw [if_pos (by trivial)]) (Ev.now _)
theorem sgn_ok (l : List Int) : (sgn l).2.2 = true → 1 ≤ (sgn l).2.1 ∧ (sgn l).2.1 ≤ (l.length : Int) := by
  have hf : ∀ n lo size len : Int, 1 ≤ size → size ≤ len → (finU n lo size).2.2 = true → 1 ≤ (finU n lo size).2.1 ∧ (finU n lo size).2.1 ≤ len := fun n lo size len h1 h2 h => by
    unfold finU at h ⊢
    by_cases e : isB n = true ∧ lo ≤ n
    · rw [if_pos e]
      exact ⟨h1, h2⟩
    · rw [if_neg e] at h
      cases h
  have hb : ∀ len : Int, ((0 : Int), (0 : Int), false).2.2 = true → 1 ≤ ((0 : Int), (0 : Int), false).2.1 ∧ ((0 : Int), (0 : Int), false).2.1 ≤ len := fun _ h => by cases h
  cases l with
  | nil => exact hb _
  | cons c r =>
    simp only [sgn]
    by_cases h1 : c < 128
    · simp only [if_pos h1, List.length_cons]
      intro _
      omega
    · simp only [if_neg h1]
      by_cases h2 : c / 32 = 6
      · simp only [if_pos h2]
        cases r with
        | nil => exact hb _
        | cons b1 r =>
          dsimp only
          by_cases e1 : b1 / 64 = 2
          · rw [if_pos e1]
            exact hf _ _ _ _ (by omega) (by simp only [List.length_cons]; omega)
          · rw [if_neg e1]
            exact hb _
      · simp only [if_neg h2]
        by_cases h3 : c / 16 = 14
        · simp only [if_pos h3]
          cases r with
          | nil => exact hb _
          | cons b1 r =>
            cases r with
            | nil => exact hb _
            | cons b2 r =>
              dsimp only
              by_cases e1 : b1 / 64 = 2
              · rw [if_pos e1]
                by_cases e2 : b2 / 64 = 2
                · rw [if_pos e2]
                  exact hf _ _ _ _ (by omega) (by simp only [List.length_cons]; omega)
                · rw [if_neg e2]
                  exact hb _
              · rw [if_neg e1]
                exact hb _
        · simp only [if_neg h3]
          by_cases h4 : c / 8 = 30
          · simp only [if_pos h4]
            cases r with
            | nil => exact hb _
            | cons b1 r =>
              cases r with
              | nil => exact hb _
              | cons b2 r =>
                cases r with
                | nil => exact hb _
                | cons b3 r =>
                  dsimp only
                  by_cases e1 : b1 / 64 = 2
                  · rw [if_pos e1]
                    by_cases e2 : b2 / 64 = 2
                    · rw [if_pos e2]
                      by_cases e3 : b3 / 64 = 2
                      · rw [if_pos e3]
                        exact hf _ _ _ _ (by omega) (by simp only [List.length_cons]; omega)
                      · rw [if_neg e3]
                        exact hb _
                    · rw [if_neg e2]
                      exact hb _
                  · rw [if_neg e1]
                    exact hb _
          · simp only [if_neg h4]
            exact hb _
def utfD : Nat → List Int → Bool
  | 0, l => l.isEmpty
  | d + 1, l => if l = [] then true else if (sgn l).2.2 = true then utfD d (l.drop (sgn l).2.1.toNat) else false
def utfB (s : ByteArray) : Bool := utfD s.size (byt s)
def utfN : Nat → List Int → Int → Bool × Int
  | 0, l, n => (l.isEmpty, n)
  | d + 1, l, n => if l = [] then (true, n) else if (sgn l).2.2 = true then utfN d (l.drop (sgn l).2.1.toNat) (n + 1) else (false, n)
theorem utfN_fst (d : Nat) : ∀ l n, (utfN d l n).1 = utfD d l := by
  induction d with
  | zero => intro l n; rfl
  | succ d ih =>
    intro l n
    simp only [utfN, utfD]
    split
    · rfl
    · split
      · exact ih _ _
      · rfl
theorem utfN_snd (d : Nat) : ∀ l (n : Int), n ≤ (utfN d l n).2 := by
  induction d with
  | zero => intro l n; exact Int.le_refl _
  | succ d ih =>
    intro l n
    simp only [utfN]
    split
    · exact Int.le_refl _
    · split
      · have := ih (l.drop (sgn l).2.1.toNat) (n + 1)
        omega
      · exact Int.le_refl _
theorem uwalk_l0 (s : ByteArray) (hs : s.size ≤ 1000000000) (d : Nat) : ∀ (i : Nat) (n : Int), s.size - i ≤ d → i ≤ s.size → 0 ≤ n → n + (s.size - i : Nat) ≤ 2000000000 →
    Ev (fun k => utf_walk_f116.l0 k s (i : Int) n) (utfN d ((byt s).drop i) n) := by
  induction d with
  | zero =>
    intro i n hd hi h0 hn
    refine Ev.step (f := fun _ => some (true, n)) (fun k => by simp only [utf_walk_f116.l0]; rw [if_neg (by omega)]) ?_
    have e : (byt s).drop i = [] := List.drop_eq_nil_of_le (by rw [byt_len]; omega)
    rw [e]
    exact Ev.now _
  | succ d ih =>
    intro i n hd hi h0 hn
    by_cases h : i < s.size
    · have hne : ¬ (byt s).drop i = [] := fun e => by
        have := List.drop_eq_nil_iff.1 e
        rw [byt_len] at this
        omega
      have hcut := byt_cut s i
      have hlen : ((byt s).drop i).length = s.size - i := by rw [List.length_drop, byt_len]
      have hok := sgn_ok ((byt s).drop i)
      refine Ev.step (f := fun k => (utf_Read.f k (s.extract i s.size)).bind fun bt => if bt.2.2 = true then ((utf_Count_1.f (i : Int) bt.1 n).bind fun t => utf_walk_f116.l0 k s (wrap64 ((i : Int) + bt.2.1)) t) else some (false, n)) (fun k => ?_) ?_
      · simp only [utf_walk_f116.l0]
        rw [if_pos (by omega), if_pos (by omega), if_pos (by omega), show ((i : Int)).toNat = i by omega]
      · refine Ev.bind (uread_ev _ (by rw [ByteArray.size_extract]; omega)) ?_
        rw [hcut]
        simp only [utfN]
        rw [if_neg hne]
        by_cases h1 : (sgn ((byt s).drop i)).2.2 = true
        · rw [if_pos h1]
          obtain ⟨h2, h3⟩ := hok h1
          have := ih (i + (sgn ((byt s).drop i)).2.1.toNat) (n + 1) (by omega) (by omega) (by omega) (by omega)
          rw [← List.drop_drop] at this
          refine Ev.congr (fun k => ?_) this
          rw [if_pos h1]
          simp only [utf_Count_1.f, Option.bind_some]
          rw [wrap_id (n + 1) (by omega) (by omega), wrap_id _ (by omega) (by omega), show (i : Int) + (sgn ((byt s).drop i)).2.1 = ((i + (sgn ((byt s).drop i)).2.1.toNat : Nat) : Int) by omega]
        · rw [if_neg h1]
          exact Ev.congr (f := fun _ => some (false, n)) (fun k => by rw [if_neg h1]) (Ev.now _)
    · have e : (byt s).drop i = [] := List.drop_eq_nil_of_le (by rw [byt_len]; omega)
      rw [e]
      simp only [utfN]
      rw [if_pos (by trivial)]
      exact Ev.step (f := fun _ => some (true, n)) (fun k => by simp only [utf_walk_f116.l0]; rw [if_neg (by omega)]) (Ev.now _)
theorem uright_ev (s : ByteArray) (hs : s.size ≤ 1000000000) : Ev (fun k => utf_Right.f k s) (utfB s) := by
  have h := uwalk_l0 s hs s.size 0 0 (by omega) (by omega) (by omega) (by omega)
  rw [List.drop_zero] at h
  have h1 := utfN_fst s.size (byt s) 0
  have h2 := utfN_snd s.size (byt s) 0
  unfold utf_Right.f utf_Count.f utf_walk_f116.f
  refine Ev.bind (a := if (utfN s.size (byt s) 0).1 = true then (utfN s.size (byt s) 0).2 else -1) (Ev.bind h ?_) ?_
  · by_cases e : (utfN s.size (byt s) 0).1 = true
    · exact Ev.congr (f := fun _ => some _) (fun k => by rw [if_pos e, if_pos e]) (Ev.now _)
    · exact Ev.congr (f := fun _ => some _) (fun k => by rw [if_neg e, if_neg e]) (Ev.now _)
  · refine Ev.congr (f := fun _ => some (utfB s)) (fun k => ?_) (Ev.now _)
    congr 1
    unfold utfB
    rw [← h1]
    by_cases e : (utfN s.size (byt s) 0).1 = true
    · rw [if_pos e, e]
      simpa using h2
    · rw [if_neg e]
      simp at e
      rw [e]
      decide
/- piece refutf -/
theorem ris_eq (n : Int) : haulageref03_Is.f n = some (isB n) := by
  unfold haulageref03_Is.f isB
  by_cases h1 : 0 ≤ n <;> by_cases h2 : n ≤ 1114111 <;> by_cases h3 : n < 55296 <;> simp [h1, h2, h3]
def putU (n : Int) : List Int :=
  if n < 128 then [n] else if n < 2048 then [192 + n / 64, 128 + n % 64] else if n < 65536 then [224 + n / 4096, 128 + n / 64 % 64, 128 + n % 64] else [240 + n / 262144, 128 + n / 4096 % 64, 128 + n / 64 % 64, 128 + n % 64]
theorem putU_bytes (n : Int) (h : isB n = true) : Bytes (putU n) := by
  have h := (isB_iff n).1 h
  unfold putU
  intro x hx
  split at hx
  · simp only [List.mem_cons, List.not_mem_nil, or_false] at hx
    omega
  · split at hx
    · simp only [List.mem_cons, List.not_mem_nil, or_false] at hx
      rcases hx with rfl | rfl <;> omega
    · split at hx
      · simp only [List.mem_cons, List.not_mem_nil, or_false] at hx
        rcases hx with rfl | rfl | rfl <;> omega
      · simp only [List.mem_cons, List.not_mem_nil, or_false] at hx
        rcases hx with rfl | rfl | rfl | rfl <;> omega
theorem one_eq (n : Int) (h0 : 0 ≤ n) (h1 : n ≤ 255) : haulageref03_one.f n = some (strOfNums [n]) := by
  unfold haulageref03_one.f
  rw [Int.emod_eq_of_lt h0 (by omega)]
theorem rput_eq (n : Int) (h : isB n = true) : haulageref03_Put.f n = some (strOfNums (putU n)) := by
  have h := (isB_iff n).1 h
  unfold haulageref03_Put.f putU
  have t1 : Int.tdiv n 64 = n / 64 := Int.tdiv_eq_ediv_of_nonneg h.1
  have t2 : Int.tdiv n 4096 = n / 4096 := Int.tdiv_eq_ediv_of_nonneg h.1
  have t3 : Int.tdiv n 262144 = n / 262144 := Int.tdiv_eq_ediv_of_nonneg h.1
  have t4 : Int.tmod n 64 = n % 64 := Int.tmod_eq_emod_of_nonneg h.1
  have t5 : Int.tmod (n / 64) 64 = n / 64 % 64 := Int.tmod_eq_emod_of_nonneg (by omega)
  have t6 : Int.tmod (n / 4096) 64 = n / 4096 % 64 := Int.tmod_eq_emod_of_nonneg (by omega)
  have hz : ∀ l : List Int, (strOfNums l).size = l.length := strOfNums_size
  by_cases h1 : n < 128
  · rw [if_pos h1, if_pos h1, one_eq n h.1 (by omega), Option.bind_some]
  · rw [if_neg h1, if_neg h1]
    rw [t1, t2, t3, t4, wrap_id (n / 64) (by omega) (by omega), wrap_id (n / 4096) (by omega) (by omega), wrap_id (n / 262144) (by omega) (by omega), t5, t6,
      wrap_id (192 + n / 64) (by omega) (by omega), wrap_id (128 + n % 64) (by omega) (by omega), wrap_id (224 + n / 4096) (by omega) (by omega), wrap_id (128 + n / 64 % 64) (by omega) (by omega), wrap_id (240 + n / 262144) (by omega) (by omega), wrap_id (128 + n / 4096 % 64) (by omega) (by omega)]
    by_cases h2 : n < 2048
    · rw [if_pos h2, if_pos h2, one_eq _ (by omega) (by omega), one_eq (128 + n % 64) (by omega) (by omega)]
      simp only [Option.bind_some]
      rw [if_pos (by rw [hz, hz]; simp), ← strOfNums_append]
      rfl
    · rw [if_neg h2, if_neg h2]
      by_cases h3 : n < 65536
      · rw [if_pos h3, if_pos h3, one_eq _ (by omega) (by omega), one_eq (128 + n / 64 % 64) (by omega) (by omega), one_eq (128 + n % 64) (by omega) (by omega)]
        simp only [Option.bind_some]
        rw [if_pos (by rw [hz, hz]; simp), ← strOfNums_append, if_pos (by rw [hz, hz]; simp), ← strOfNums_append]
        rfl
      · rw [if_neg h3, if_neg h3, one_eq _ (by omega) (by omega), one_eq (128 + n / 4096 % 64) (by omega) (by omega), one_eq (128 + n / 64 % 64) (by omega) (by omega), one_eq (128 + n % 64) (by omega) (by omega)]
        simp only [Option.bind_some]
        rw [if_pos (by rw [hz, hz]; simp), ← strOfNums_append, if_pos (by rw [hz, hz]; simp), ← strOfNums_append, if_pos (by rw [hz, hz]; simp), ← strOfNums_append]
        rfl
theorem rl1_end (s : ByteArray) (size : Nat) (n i : Int) (h : ¬ i < (size : Int)) (hz : size ≤ s.size) (h4 : size ≤ 4) (r : Int × Int × Bool)
    (hy : isB n = true → putU n = (byt s).take size → r = (n, (size : Int), true)) (hn : ¬ (isB n = true ∧ putU n = (byt s).take size) → Ev (fun k => haulageref03_Read.l0 k s ((size + 1 : Nat) : Int)) r) : Ev (fun k => haulageref03_Read.l1 k s (size : Int) n i) r := by
  by_cases h1 : isB n = true
  · have hc : (strOfNums (putU n)).toList = (s.extract 0 size).toList ↔ putU n = (byt s).take size := by
      rw [ba_iff]
      constructor
      · intro e
        have := congrArg byt e
        rw [byt_str (putU_bytes n h1), byt_to] at this
        exact this
      · intro e
        rw [e, ← byt_to, str_byt]
    by_cases h2 : putU n = (byt s).take size
    · rw [hy h1 h2]
      refine Ev.step (f := fun _ => some (n, (size : Int), true)) (fun k => ?_) (Ev.now _)
      simp only [haulageref03_Read.l1]
      rw [if_neg h, ris_eq, Option.bind_some, if_pos h1, rput_eq n h1, Option.bind_some, if_pos (by omega), if_pos (by omega), show ((size : Int)).toNat = size by omega, if_pos (hc.2 h2)]
    · refine Ev.step (fun k => ?_) (hn (fun e => h2 e.2))
      simp only [haulageref03_Read.l1]
      rw [if_neg h, ris_eq, Option.bind_some, if_pos h1, rput_eq n h1, Option.bind_some, if_pos (by omega), if_pos (by omega), show ((size : Int)).toNat = size by omega, if_neg (fun e => h2 (hc.1 e)), wrap_succ _ (by omega)]
  · refine Ev.step (fun k => ?_) (hn (fun e => h1 e.1))
    simp only [haulageref03_Read.l1]
    rw [if_neg h, ris_eq, Option.bind_some, if_neg h1, wrap_succ _ (by omega)]
theorem rl1_step (s : ByteArray) (size : Int) (n b : Int) (i : Nat) (h : (i : Int) < size) (hi : i < s.size) (hs : s.size ≤ 9223372036854775807) (hb : bt s (i : Int) = b) (hb0 : 0 ≤ b) (hb1 : b ≤ 255) (hn0 : -1000000000 ≤ n) (hn : n ≤ 1000000000) (r : Int × Int × Bool)
    (hk : Ev (fun k => haulageref03_Read.l1 k s size (n * 64 + (b - 128)) ((i + 1 : Nat) : Int)) r) : Ev (fun k => haulageref03_Read.l1 k s size n (i : Int)) r := by
  refine Ev.step (fun k => ?_) hk
  simp only [haulageref03_Read.l1]
  rw [if_pos h, if_pos (by omega), if_pos (by omega), hb, wrap_id (n * 64) (by omega) (by omega), wrap_id b (by omega) (by omega), wrap_id (n * 64 + b) (by omega) (by omega), wrap_id (n * 64 + b - 128) (by omega) (by omega), wrap_succ _ (by omega), show n * 64 + b - 128 = n * 64 + (b - 128) by omega]
theorem rl0_go (s : ByteArray) (size : Nat) (h0 : 1 ≤ size) (h4 : size ≤ 4) (hz : size ≤ s.size) (c : Int) (hc : bt s 0 = c) (hc0 : 0 ≤ c) (hc1 : c ≤ 255) (r : Int × Int × Bool)
    (hk : Ev (fun k => haulageref03_Read.l1 k s (size : Int) (if size = 2 then c - 192 else if size = 3 then c - 224 else if size = 4 then c - 240 else c) ((1 : Nat) : Int)) r) : Ev (fun k => haulageref03_Read.l0 k s (size : Int)) r := by
  have w : wrap64 c = c := wrap_id c (by omega) (by omega)
  refine Ev.step (f := fun k => haulageref03_Read.j1 k s (size : Int) true) (fun k => ?_) ?_
  · simp only [haulageref03_Read.l0]
    rw [if_pos (by omega), decide_eq_true (by omega)]
  by_cases e2 : size = 2
  · refine Ev.step (f := fun k => haulageref03_Read.j2 k s (size : Int) (c - 192)) (fun k => ?_) ?_
    · simp only [haulageref03_Read.j1]
      rw [if_pos (by trivial), if_pos (by omega), if_pos (by omega), hc, w, wrap_id (c - 192) (by omega) (by omega)]
    refine Ev.step (f := fun k => haulageref03_Read.j3 k s (size : Int) (c - 192)) (fun k => by simp only [haulageref03_Read.j2]; rw [if_neg (by omega)]) ?_
    refine Ev.step (f := fun k => haulageref03_Read.j4 k s (size : Int) (c - 192)) (fun k => by simp only [haulageref03_Read.j3]; rw [if_neg (by omega)]) ?_
    rw [if_pos e2] at hk
    exact Ev.step (fun k => by simp only [haulageref03_Read.j4]; rfl) hk
  · refine Ev.step (f := fun k => haulageref03_Read.j2 k s (size : Int) c) (fun k => ?_) ?_
    · simp only [haulageref03_Read.j1]
      rw [if_pos (by trivial), if_pos (by omega), if_neg (by omega), hc, w]
    rw [if_neg e2] at hk
    by_cases e3 : size = 3
    · refine Ev.step (f := fun k => haulageref03_Read.j3 k s (size : Int) (c - 224)) (fun k => by simp only [haulageref03_Read.j2]; rw [if_pos (by omega), wrap_id _ (by omega) (by omega)]) ?_
      refine Ev.step (f := fun k => haulageref03_Read.j4 k s (size : Int) (c - 224)) (fun k => by simp only [haulageref03_Read.j3]; rw [if_neg (by omega)]) ?_
      rw [if_pos e3] at hk
      exact Ev.step (fun k => by simp only [haulageref03_Read.j4]; rfl) hk
    · refine Ev.step (f := fun k => haulageref03_Read.j3 k s (size : Int) c) (fun k => by simp only [haulageref03_Read.j2]; rw [if_neg (by omega)]) ?_
      rw [if_neg e3] at hk
      by_cases e4 : size = 4
      · refine Ev.step (f := fun k => haulageref03_Read.j4 k s (size : Int) (c - 240)) (fun k => by simp only [haulageref03_Read.j3]; rw [if_pos (by omega), wrap_id _ (by omega) (by omega)]) ?_
        rw [if_pos e4] at hk
        exact Ev.step (fun k => by simp only [haulageref03_Read.j4]; rfl) hk
      · refine Ev.step (f := fun k => haulageref03_Read.j4 k s (size : Int) c) (fun k => by simp only [haulageref03_Read.j3]; rw [if_neg (by omega)]) ?_
        rw [if_neg e4] at hk
        exact Ev.step (fun k => by simp only [haulageref03_Read.j4]; rfl) hk
theorem rl0_stop (s : ByteArray) (size : Nat) (h : 4 < size ∨ s.size < size) : Ev (fun k => haulageref03_Read.l0 k s (size : Int)) (0, 0, false) := by
  have hj : Ev (fun k => haulageref03_Read.j1 k s (size : Int) false) (0, 0, false) := Ev.step (f := fun _ => some (0, 0, false)) (fun k => by simp only [haulageref03_Read.j1]; rw [if_neg (by simp)]) (Ev.now _)
  by_cases h4 : size ≤ 4
  · refine Ev.step (fun k => ?_) hj
    simp only [haulageref03_Read.l0]
    rw [if_pos (by omega), decide_eq_false (by omega)]
  · refine Ev.step (fun k => ?_) hj
    simp only [haulageref03_Read.l0]
    rw [if_neg (by omega)]
theorem put1 (c : Int) (hc : 0 ≤ c ∧ c ≤ 255) : putU c = [c] ↔ c < 128 := by
  unfold putU
  split
  · simp_all
  · split
    · simp; omega
    · split
      · simp; omega
      · simp; omega
theorem put2 (c b1 : Int) (hc : 0 ≤ c ∧ c ≤ 255) (h1 : 0 ≤ b1 ∧ b1 ≤ 255) : (isB ((c - 192) * 64 + (b1 - 128)) = true ∧ putU ((c - 192) * 64 + (b1 - 128)) = [c, b1]) ↔ (c / 32 = 6 ∧ b1 / 64 = 2 ∧ isB ((c - 192) * 64 + (b1 - 128)) = true ∧ 128 ≤ (c - 192) * 64 + (b1 - 128)) := by
  generalize hn : (c - 192) * 64 + (b1 - 128) = n
  rw [isB_iff]
  unfold putU
  split
  · simp; omega
  · split
    · simp only [List.cons.injEq, and_true]
      omega
    · split
      · simp; omega
      · simp; omega
theorem put3 (c b1 b2 : Int) (hc : 0 ≤ c ∧ c ≤ 255) (h1 : 0 ≤ b1 ∧ b1 ≤ 255) (h2 : 0 ≤ b2 ∧ b2 ≤ 255) : (isB (((c - 224) * 64 + (b1 - 128)) * 64 + (b2 - 128)) = true ∧ putU (((c - 224) * 64 + (b1 - 128)) * 64 + (b2 - 128)) = [c, b1, b2]) ↔ (c / 16 = 14 ∧ b1 / 64 = 2 ∧ b2 / 64 = 2 ∧ isB (((c - 224) * 64 + (b1 - 128)) * 64 + (b2 - 128)) = true ∧ 2048 ≤ ((c - 224) * 64 + (b1 - 128)) * 64 + (b2 - 128)) := by
  generalize hn : ((c - 224) * 64 + (b1 - 128)) * 64 + (b2 - 128) = n
  rw [isB_iff]
  unfold putU
  split
  · simp; omega
  · split
    · simp; omega
    · split
      · simp only [List.cons.injEq, and_true]
        omega
      · simp; omega
theorem put4 (c b1 b2 b3 : Int) (hc : 0 ≤ c ∧ c ≤ 255) (h1 : 0 ≤ b1 ∧ b1 ≤ 255) (h2 : 0 ≤ b2 ∧ b2 ≤ 255) (h3 : 0 ≤ b3 ∧ b3 ≤ 255) : (isB ((((c - 240) * 64 + (b1 - 128)) * 64 + (b2 - 128)) * 64 + (b3 - 128)) = true ∧ putU ((((c - 240) * 64 + (b1 - 128)) * 64 + (b2 - 128)) * 64 + (b3 - 128)) = [c, b1, b2, b3]) ↔ (c / 8 = 30 ∧ b1 / 64 = 2 ∧ b2 / 64 = 2 ∧ b3 / 64 = 2 ∧ isB ((((c - 240) * 64 + (b1 - 128)) * 64 + (b2 - 128)) * 64 + (b3 - 128)) = true ∧ 65536 ≤ (((c - 240) * 64 + (b1 - 128)) * 64 + (b2 - 128)) * 64 + (b3 - 128)) := by
  generalize hn : (((c - 240) * 64 + (b1 - 128)) * 64 + (b2 - 128)) * 64 + (b3 - 128) = n
  rw [isB_iff]
  unfold putU
  split
  · simp; omega
  · split
    · simp; omega
    · split
      · simp; omega
      · simp only [List.cons.injEq, and_true]
        omega
theorem rread_ev (s : ByteArray) (hs : s.size ≤ 9223372036854775807) : Ev (fun k => haulageref03_Read.f k s) (sgn (byt s)) := by
  have hlen := byt_len s
  have hby := byt_bytes s
  unfold haulageref03_Read.f
  show Ev (fun k => haulageref03_Read.l0 k s ((1 : Nat) : Int)) (sgn (byt s))
  generalize hl : byt s = l at hlen hby
  cases l with
  | nil => exact rl0_stop s 1 (.inr (by rw [← hlen]; decide))
  | cons c r =>
    have hz : s.size = r.length + 1 := by rw [← hlen]; rfl
    have hc := hby c (by simp)
    have e0 : bt s 0 = c := byt_at hl 0 c rfl
    refine rl0_go s 1 (by omega) (by omega) (by omega) c e0 hc.1 hc.2 _ ?_
    refine rl1_end s 1 c _ (by omega) (by omega) (by omega) _ (fun hb hp => ?_) (fun hno => ?_)
    · rw [hl] at hp
      have h1 := (put1 c hc).1 hp
      simp only [sgn, if_pos h1]
      rfl
    · rw [hl] at hno
      have h1 : ¬ c < 128 := fun h => hno ⟨(isB_iff c).2 (by omega), (put1 c hc).2 h⟩
      simp only [sgn, if_neg h1]
      show Ev (fun k => haulageref03_Read.l0 k s ((2 : Nat) : Int)) _
      cases r with
      | nil =>
        refine Ev.eq (rl0_stop s 2 (.inr (by simp at hz; omega))) ?_
        dsimp only
        split <;> (try split) <;> (try split) <;> rfl
      | cons b1 r =>
        simp only [List.length_cons] at hz
        have q1 := hby b1 (by simp)
        refine rl0_go s 2 (by omega) (by omega) (by omega) c e0 hc.1 hc.2 _ ?_
        rw [if_pos rfl]
        refine rl1_step s _ _ b1 1 (by omega) (by omega) hs (byt_at hl 1 b1 rfl) q1.1 q1.2 (by omega) (by omega) _ ?_
        have p2 := put2 c b1 hc q1
        refine rl1_end s 2 _ _ (by omega) (by omega) (by omega) _ (fun hb hp => ?_) (fun hno => ?_)
        · rw [hl] at hp
          obtain ⟨a1, a2, a3, a4⟩ := p2.1 ⟨hb, hp⟩
          rw [if_pos a1]
          dsimp only
          rw [if_pos a2]
          unfold finU
          rw [if_pos ⟨a3, a4⟩]
          rfl
        · rw [hl] at hno
          have hno : ¬ (c / 32 = 6 ∧ b1 / 64 = 2 ∧ isB ((c - 192) * 64 + (b1 - 128)) = true ∧ 128 ≤ (c - 192) * 64 + (b1 - 128)) := fun h => hno (p2.2 h)
          show Ev (fun k => haulageref03_Read.l0 k s ((3 : Nat) : Int)) _
          have hk : Ev (fun k => haulageref03_Read.l0 k s ((3 : Nat) : Int)) (if c / 16 = 14 then (match b1 :: r with | b1 :: b2 :: _ => if b1 / 64 = 2 then (if b2 / 64 = 2 then finU (((c - 224) * 64 + (b1 - 128)) * 64 + (b2 - 128)) 2048 3 else (0, 0, false)) else (0, 0, false) | _ => (0, 0, false))
              else if c / 8 = 30 then (match b1 :: r with | b1 :: b2 :: b3 :: _ => if b1 / 64 = 2 then (if b2 / 64 = 2 then (if b3 / 64 = 2 then finU ((((c - 240) * 64 + (b1 - 128)) * 64 + (b2 - 128)) * 64 + (b3 - 128)) 65536 4 else (0, 0, false)) else (0, 0, false)) else (0, 0, false) | _ => (0, 0, false)) else (0, 0, false)) := by
            cases r with
            | nil =>
              refine Ev.eq (rl0_stop s 3 (.inr (by simp at hz; omega))) ?_
              dsimp only
              split <;> (try split) <;> rfl
            | cons b2 r =>
              simp only [List.length_cons] at hz
              have q2 := hby b2 (by simp)
              refine rl0_go s 3 (by omega) (by omega) (by omega) c e0 hc.1 hc.2 _ ?_
              rw [if_neg (by decide), if_pos rfl]
              refine rl1_step s _ _ b1 1 (by omega) (by omega) hs (byt_at hl 1 b1 rfl) q1.1 q1.2 (by omega) (by omega) _ ?_
              refine rl1_step s _ _ b2 2 (by omega) (by omega) hs (byt_at hl 2 b2 rfl) q2.1 q2.2 (by omega) (by omega) _ ?_
              have p3 := put3 c b1 b2 hc q1 q2
              refine rl1_end s 3 _ _ (by omega) (by omega) (by omega) _ (fun hb hp => ?_) (fun hno3 => ?_)
              · rw [hl] at hp
                obtain ⟨a1, a2, a3, a4, a5⟩ := p3.1 ⟨hb, hp⟩
                rw [if_pos a1]
                dsimp only
                rw [if_pos a2, if_pos a3]
                unfold finU
                rw [if_pos ⟨a4, a5⟩]
                rfl
              · rw [hl] at hno3
                have hno3 : ¬ (c / 16 = 14 ∧ b1 / 64 = 2 ∧ b2 / 64 = 2 ∧ isB (((c - 224) * 64 + (b1 - 128)) * 64 + (b2 - 128)) = true ∧ 2048 ≤ ((c - 224) * 64 + (b1 - 128)) * 64 + (b2 - 128)) := fun h => hno3 (p3.2 h)
                show Ev (fun k => haulageref03_Read.l0 k s ((4 : Nat) : Int)) _
                have hk4 : Ev (fun k => haulageref03_Read.l0 k s ((4 : Nat) : Int)) (if c / 8 = 30 then (match b1 :: b2 :: r with | b1 :: b2 :: b3 :: _ => if b1 / 64 = 2 then (if b2 / 64 = 2 then (if b3 / 64 = 2 then finU ((((c - 240) * 64 + (b1 - 128)) * 64 + (b2 - 128)) * 64 + (b3 - 128)) 65536 4 else (0, 0, false)) else (0, 0, false)) else (0, 0, false) | _ => (0, 0, false)) else (0, 0, false)) := by
                  cases r with
                  | nil =>
                    refine Ev.eq (rl0_stop s 4 (.inr (by simp at hz; omega))) ?_
                    dsimp only
                    split <;> rfl
                  | cons b3 r =>
                    simp only [List.length_cons] at hz
                    have q3 := hby b3 (by simp)
                    refine rl0_go s 4 (by omega) (by omega) (by omega) c e0 hc.1 hc.2 _ ?_
                    rw [if_neg (by decide), if_neg (by decide), if_pos rfl]
                    refine rl1_step s _ _ b1 1 (by omega) (by omega) hs (byt_at hl 1 b1 rfl) q1.1 q1.2 (by omega) (by omega) _ ?_
                    refine rl1_step s _ _ b2 2 (by omega) (by omega) hs (byt_at hl 2 b2 rfl) q2.1 q2.2 (by omega) (by omega) _ ?_
                    refine rl1_step s _ _ b3 3 (by omega) (by omega) hs (byt_at hl 3 b3 rfl) q3.1 q3.2 (by omega) (by omega) _ ?_
                    have p4 := put4 c b1 b2 b3 hc q1 q2 q3
                    refine rl1_end s 4 _ _ (by omega) (by omega) (by omega) _ (fun hb hp => ?_) (fun hno4 => ?_)
                    · rw [hl] at hp
                      obtain ⟨a1, a2, a3, a4, a5, a6⟩ := p4.1 ⟨hb, hp⟩
                      rw [if_pos a1]
                      dsimp only
                      rw [if_pos a2, if_pos a3, if_pos a4]
                      unfold finU
                      rw [if_pos ⟨a5, a6⟩]
                      rfl
                    · rw [hl] at hno4
                      have hno4 : ¬ (c / 8 = 30 ∧ b1 / 64 = 2 ∧ b2 / 64 = 2 ∧ b3 / 64 = 2 ∧ isB ((((c - 240) * 64 + (b1 - 128)) * 64 + (b2 - 128)) * 64 + (b3 - 128)) = true ∧ 65536 ≤ (((c - 240) * 64 + (b1 - 128)) * 64 + (b2 - 128)) * 64 + (b3 - 128)) := fun h => hno4 (p4.2 h)
                      refine Ev.eq (rl0_stop s 5 (.inl (by omega))) ?_
                      dsimp only
                      by_cases x1 : c / 8 = 30
                      · rw [if_pos x1]
                        by_cases x2 : b1 / 64 = 2
                        · rw [if_pos x2]
                          by_cases x3 : b2 / 64 = 2
                          · rw [if_pos x3]
                            by_cases x4 : b3 / 64 = 2
                            · rw [if_pos x4]
                              unfold finU
                              rw [if_neg (fun e => hno4 ⟨x1, x2, x3, x4, e⟩)]
                            · rw [if_neg x4]
                          · rw [if_neg x3]
                        · rw [if_neg x2]
                      · rw [if_neg x1]
                by_cases x0 : c / 16 = 14
                · rw [if_pos x0]
                  rw [if_neg (by omega)] at hk4
                  refine Ev.eq hk4 ?_
                  dsimp only
                  by_cases x2 : b1 / 64 = 2
                  · rw [if_pos x2]
                    by_cases x3 : b2 / 64 = 2
                    · rw [if_pos x3]
                      unfold finU
                      rw [if_neg (fun e => hno3 ⟨x0, x2, x3, e⟩)]
                    · rw [if_neg x3]
                  · rw [if_neg x2]
                · rw [if_neg x0]
                  exact hk4
          by_cases x0 : c / 32 = 6
          · rw [if_pos x0]
            rw [if_neg (by omega), if_neg (by omega)] at hk
            refine Ev.eq hk ?_
            dsimp only
            by_cases x2 : b1 / 64 = 2
            · rw [if_pos x2]
              unfold finU
              rw [if_neg (fun e => hno ⟨x0, x2, e⟩)]
            · rw [if_neg x2]
          · rw [if_neg x0]
            exact hk
theorem rsigns_l0 (d : Nat) : ∀ (s : ByteArray) (acc : List Int), s.size ≤ d → s.size ≤ 1000000000 → acc.length + s.size < 17592186044416 → Ev (fun k => (haulageref03_Signs.l0 k s acc).bind fun b => some b.2) (utfD d (byt s)) := by
  induction d with
  | zero =>
    intro s acc hd _ _
    have hz : s.size = 0 := by omega
    refine Ev.bind (a := (acc, true)) (Ev.step (f := fun _ => some (acc, true)) (fun k => ?_) (Ev.now _)) ?_
    · simp only [haulageref03_Signs.l0]
      rw [if_pos ((ba_nil s).2 hz)]
    · have : byt s = [] := List.length_eq_zero_iff.1 (by rw [byt_len]; exact hz)
      rw [this]
      exact Ev.now _
  | succ d ih =>
    intro s acc hd hs ha
    by_cases hz : s.size = 0
    · have : byt s = [] := List.length_eq_zero_iff.1 (by rw [byt_len]; exact hz)
      rw [this]
      simp only [utfD]
      rw [if_pos (by trivial)]
      refine Ev.bind (a := (acc, true)) (Ev.step (f := fun _ => some (acc, true)) (fun k => ?_) (Ev.now _)) (Ev.now _)
      simp only [haulageref03_Signs.l0]
      rw [if_pos ((ba_nil s).2 hz)]
    · have hne : ¬ byt s = [] := fun e => hz (by rw [← byt_len, e]; rfl)
      simp only [utfD]
      rw [if_neg hne]
      have hok := sgn_ok (byt s)
      rw [byt_len] at hok
      obtain ⟨K, hK⟩ := rread_ev s (by omega)
      by_cases h1 : (sgn (byt s)).2.2 = true
      · rw [if_pos h1]
        obtain ⟨h2, h3⟩ := hok h1
        have hc := byt_cut s (sgn (byt s)).2.1.toNat
        have := ih (s.extract (sgn (byt s)).2.1.toNat s.size) (acc ++ [(sgn (byt s)).1]) (by rw [ByteArray.size_extract]; omega) (by rw [ByteArray.size_extract]; omega) (by rw [List.length_append, List.length_singleton, ByteArray.size_extract]; omega)
        rw [hc] at this
        obtain ⟨K2, hK2⟩ := this
        refine ⟨K + K2 + 1, fun k hk => ?_⟩
        obtain ⟨m, rfl⟩ : ∃ m, k = m + 1 := ⟨k - 1, by omega⟩
        have e1 : haulageref03_Read.f m s = some (sgn (byt s)) := hK m (by omega)
        have e2 := hK2 m (by omega)
        simp only [haulageref03_Signs.l0]
        rw [if_neg (fun e => hz ((ba_nil s).1 e)), e1, Option.bind_some, if_pos h1, if_pos (by omega), if_pos (by omega), if_pos (by omega)]
        exact e2
      · rw [if_neg h1]
        refine ⟨K + 1, fun k hk => ?_⟩
        obtain ⟨m, rfl⟩ : ∃ m, k = m + 1 := ⟨k - 1, by omega⟩
        have e1 : haulageref03_Read.f m s = some (sgn (byt s)) := hK m (by omega)
        simp only [haulageref03_Signs.l0]
        rw [if_neg (fun e => hz ((ba_nil s).1 e)), e1, Option.bind_some, if_neg h1]
        rfl
theorem rutf_ev (s : ByteArray) (hs : s.size ≤ 1000000000) : Ev (fun k => haulageref03_Right.f k s) (utfB s) := rsigns_l0 s.size s [] (Nat.le_refl _) hs (by simp; omega)
/- piece low -/
def lowS (n : Int) (b : Nat) : Int := (n + 2 ^ (b - 1)) % 2 ^ b - 2 ^ (b - 1)
theorem p2_pos (b : Nat) : (0 : Int) < 2 ^ b := Int.pow_pos (by decide)
theorem p2_half (b : Nat) (h : 1 ≤ b) : (2 : Int) ^ b = 2 * 2 ^ (b - 1) := by
  obtain ⟨m, rfl⟩ : ∃ m, b = m + 1 := ⟨b - 1, by omega⟩
  simp only [Nat.add_sub_cancel, Int.pow_succ]
  omega
theorem lowS_range (n : Int) (b : Nat) (h : 1 ≤ b) : -2 ^ (b - 1) ≤ lowS n b ∧ lowS n b < 2 ^ (b - 1) := by
  have hp := p2_pos b
  have h1 := Int.emod_nonneg (n + 2 ^ (b - 1)) (Int.ne_of_gt hp)
  have h2 := Int.emod_lt_of_pos (n + 2 ^ (b - 1)) hp
  have h3 := p2_half b h
  unfold lowS
  omega
theorem lowS_of (n r q : Int) (b : Nat) (h : 1 ≤ b) (e : n = r + 2 ^ b * q) (h0 : -2 ^ (b - 1) ≤ r) (h1 : r < 2 ^ (b - 1)) : lowS n b = r := by
  have h3 := p2_half b h
  unfold lowS
  rw [e, show r + 2 ^ b * q + 2 ^ (b - 1) = (r + 2 ^ (b - 1)) + 2 ^ b * q by omega, Int.add_mul_emod_self_left, Int.emod_eq_of_lt (by omega) (by omega)]
  omega
theorem lowS_id (n : Int) (b : Nat) (h : 1 ≤ b) (h0 : -2 ^ (b - 1) ≤ n) (h1 : n < 2 ^ (b - 1)) : lowS n b = n := lowS_of n n 0 b h (by omega) h0 h1
theorem lowS_iff (n : Int) (b : Nat) (h : 1 ≤ b) : lowS n b = n ↔ -2 ^ (b - 1) ≤ n ∧ n < 2 ^ (b - 1) :=
  ⟨fun e => by have := lowS_range n b h; rw [e] at this; exact this, fun h2 => lowS_id n b h h2.1 h2.2⟩
theorem word_Low_eq (n : Int) (b : Nat) (h1 : 1 ≤ b) (h2 : b ≤ 64) : word_Low.f n (b : Int) = some (lowS n b) := by
  unfold word_Low.f
  have hw : wrap64 (64 - (b : Int)) = ((64 - b : Nat) : Int) := by unfold wrap64; omega
  rw [if_neg (by omega), if_neg (by omega), hw, if_pos (by omega)]
  congr 1
  have hm : min (((64 - b : Nat) : Int)).toNat (IntKind.bits .i64) = 64 - b := by simp [IntKind.bits]
  unfold shr shl
  rw [hm, i64_eq]
  unfold wrap64 lowS
  have hu := p2_pos (64 - b)
  have e63 : (9223372036854775808 : Int) = 2 ^ (b - 1) * 2 ^ (64 - b) := by
    rw [← Int.pow_add, show b - 1 + (64 - b) = 63 by omega]; decide
  have e64 : (18446744073709551616 : Int) = 2 ^ b * 2 ^ (64 - b) := by
    rw [← Int.pow_add, show b + (64 - b) = 64 by omega]; decide
  rw [e63, e64, ← Int.add_mul, Int.mul_comm _ (2 ^ (64 - b)), Int.mul_comm (2 ^ b) (2 ^ (64 - b)), Int.mul_emod_mul_of_pos _ _ hu, Int.mul_comm (2 ^ (b - 1)) (2 ^ (64 - b)), ← Int.mul_sub]
  exact Int.mul_ediv_cancel_left _ (Int.ne_of_gt hu)
theorem word_Fits_eq (n : Int) (b : Nat) (h1 : 1 ≤ b) (h2 : b ≤ 64) : word_Fits.f n (b : Int) = some (lowS n b == n) := by
  unfold word_Fits.f
  rw [if_neg (by omega), if_neg (by omega), word_Low_eq n b h1 h2]
  rfl
/- piece reffits -/
theorem refHalf_l0 (b : Nat) (hb : b ≤ 63) (d : Nat) : ∀ i : Nat, i + d = b → 1 ≤ i → Ev (fun k => haulageref01_Half.l0 k (b : Int) (2 ^ (i - 1)) (i : Int)) (2 ^ (b - 1)) := by
  induction d with
  | zero =>
    intro i hi h1
    refine Ev.step (f := fun _ => some (2 ^ (b - 1))) (fun k => ?_) (Ev.now _)
    simp only [haulageref01_Half.l0]
    rw [if_neg (by omega), show i = b by omega]
  | succ d ih =>
    intro i hi h1
    refine Ev.step (f := fun k => haulageref01_Half.l0 k (b : Int) (2 ^ (i + 1 - 1)) ((i + 1 : Nat) : Int)) (fun k => ?_) (ih (i + 1) (by omega) (by omega))
    simp only [haulageref01_Half.l0]
    have h3 : (2 : Int) ^ i ≤ 2 ^ 62 := by
      have : (2 : Nat) ^ i ≤ 2 ^ 62 := Nat.pow_le_pow_right (by decide) (by omega)
      exact_mod_cast this
    have h4 := p2_pos i
    have h5 := p2_half i h1
    have h6 : (2 : Int) ^ 62 = 4611686018427387904 := by decide
    rw [if_pos (by omega), show wrap64 ((i : Int) + 1) = ((i + 1 : Nat) : Int) by unfold wrap64; omega, show wrap64 (2 * 2 ^ (i - 1)) = 2 ^ (i + 1 - 1) by rw [Nat.add_sub_cancel, ← h5]; unfold wrap64; omega]
theorem refHalf_ev (b : Nat) (h1 : 1 ≤ b) (hb : b ≤ 63) : Ev (fun k => haulageref01_Half.f k (b : Int)) (2 ^ (b - 1)) := by
  have := refHalf_l0 b hb (b - 1) 1 (by omega) (by omega)
  simpa [haulageref01_Half.f] using this
theorem p2_le62 (b : Nat) (hb : b ≤ 62) : (2 : Int) ^ b ≤ 4611686018427387904 := by
  have h3 : (2 : Int) ^ b ≤ 2 ^ 62 := by
    have : (2 : Nat) ^ b ≤ 2 ^ 62 := Nat.pow_le_pow_right (by decide) hb
    exact_mod_cast this
  have h6 : (2 : Int) ^ 62 = 4611686018427387904 := by decide
  omega
theorem refFits_ev (n : Int) (b : Nat) (h1 : 1 ≤ b) (h2 : b ≤ 64) (hn0 : -9223372036854775808 ≤ n) (hn1 : n ≤ 9223372036854775807) : Ev (fun k => haulageref01_Fits.f k n (b : Int)) (lowS n b == n) := by
  have hd : decide ((b : Int) > 64) = false := by simp; omega
  refine Ev.congr (f := fun k => haulageref01_Fits.j0 k n (b : Int) false) (fun k => ?_) ?_
  · unfold haulageref01_Fits.f
    rw [if_neg (by omega), hd]
  · by_cases e : b = 64
    · subst e
      refine Ev.step (f := fun _ => some (lowS n 64 == n)) (fun k => ?_) (Ev.now _)
      simp only [haulageref01_Fits.j0]
      rw [if_neg (by decide), if_pos (by omega), lowS_id n 64 (by decide) (by simp; omega) (by simp; omega)]
      simp
    · have h3 := p2_le62 (b - 1) (by omega)
      have h4 := p2_pos (b - 1)
      refine Ev.step (f := fun k => (haulageref01_Half.f k (b : Int)).bind fun t115 => (if n ≥ (wrap64 (-t115)) then ((haulageref01_Half.f k (b : Int)).bind fun t116 => (some (decide (n < t116)))) else (some false))) (fun k => ?_) ?_
      · simp only [haulageref01_Fits.j0]
        rw [if_neg (by decide), if_neg (by omega)]
      · refine Ev.bind (refHalf_ev b h1 (by omega)) ?_
        rw [show wrap64 (-2 ^ (b - 1)) = -2 ^ (b - 1) by unfold wrap64; omega]
        have hi := lowS_iff n b h1
        by_cases c : n ≥ -2 ^ (b - 1)
        · refine Ev.congr (fun k => by rw [if_pos c]) ?_
          refine Ev.bind (refHalf_ev b h1 (by omega)) ?_
          rw [show decide (n < 2 ^ (b - 1)) = (lowS n b == n) by
            rw [Bool.eq_iff_iff, decide_eq_true_iff, beq_iff_eq, hi]; exact ⟨fun h => ⟨c, h⟩, fun h => h.2⟩]
          exact Ev.now _
        · refine Ev.congr (f := fun _ => some (lowS n b == n)) (fun k => ?_) (Ev.now _)
          rw [if_neg c]
          congr 1
          rw [eq_comm, beq_eq_false_iff_ne]
          exact fun h => c (hi.1 h).1
/- piece val -/
def fits32 (n : Int) : Bool := decide (-2147483648 ≤ n ∧ n < 2147483648)
theorem lowS32 (n : Int) : (lowS n 32 == n) = fits32 n := by
  have h := lowS_iff n 32 (by decide)
  have e : (2 : Int) ^ (32 - 1) = 2147483648 := by decide
  rw [e] at h
  unfold fits32
  rw [Bool.eq_iff_iff, beq_iff_eq, h, decide_eq_true_iff]
theorem wfits32 (n : Int) : word_Fits.f n 32 = some (fits32 n) := by
  have := word_Fits_eq n 32 (by decide) (by decide)
  rw [lowS32] at this
  exact this
def valB (kind n : Int) (s : ByteArray) : Bool :=
  if kind = 0 then decide (n = 0) && decide (s.size = 0)
  else if kind = 1 then fits32 n && decide (s.size = 0)
  else if kind = 2 then decide (s.size = 0)
  else if kind = 3 then decide (n = 0) && (decide (s.size ≤ 120) && utfB s)
  else if kind = 4 then decide (n = 0) && decide (s.size ≤ 120)
  else false
theorem utfB_nil (s : ByteArray) (h : s.size = 0) : utfB s = true := by
  have : byt s = [] := List.length_eq_zero_iff.1 (by rw [byt_len]; exact h)
  unfold utfB
  rw [h, this]
  rfl
theorem vj0 (x3 x4 : Bool) (a n : Int) (s : ByteArray) : Ev (fun k => value_Right.j0 k x3 x4 a n s) (decide ((n = 0 ∨ x3 = true) ∧ (s.size = 0 ∨ x4 = true) ∧ s.size ≤ 120)) := by
  refine Ev.flat0 3 (fun m => ?_)
  simp only [value_Right.j0, value_Right.j1, ba_nil]
  by_cases h1 : n = 0 <;> by_cases h2 : s.size = 0 <;> by_cases h3 : s.size ≤ 120 <;> cases x3 <;> cases x4 <;> simp [h1, h2, h3] <;> omega
theorem val_ev (kind n : Int) (s : ByteArray) (hs : s.size ≤ 1000000000) : Ev (fun k => value_Right.f k kind n s) (valB kind n s) := by
  unfold value_Right.f valB
  by_cases h0 : kind = 0
  · rw [if_pos h0]
    refine Ev.congr (fun k => by rw [if_pos h0]) (Ev.eq (vj0 _ _ _ _ _) ?_)
    by_cases h1 : n = 0 <;> by_cases h2 : s.size = 0 <;> simp [h1, h2]
  rw [if_neg h0]
  by_cases h1 : kind = 1
  · rw [if_pos h1]
    refine Ev.congr (fun k => by rw [if_neg h0, if_pos h1, wfits32, Option.bind_some]) (Ev.eq (vj0 _ _ _ _ _) ?_)
    by_cases h2 : s.size = 0
    · by_cases h3 : n = 0
      · subst h3
        have : fits32 0 = true := by decide
        simp [h2, this]
      · simp [h2, h3]
    · simp [h2]
  rw [if_neg h1]
  by_cases h2 : kind = 2
  · rw [if_pos h2]
    refine Ev.congr (fun k => by rw [if_neg h0, if_neg h1, if_pos h2]) (Ev.eq (vj0 _ _ _ _ _) ?_)
    by_cases h3 : s.size = 0 <;> simp [h3]
  rw [if_neg h2]
  by_cases h3 : kind = 3
  · rw [if_pos h3]
    refine Ev.congr (fun k => by rw [if_neg h0, if_neg h1, if_neg h2, if_pos h3]) (Ev.bind (uright_ev s hs) (Ev.eq (vj0 _ _ _ _ _) ?_))
    by_cases h4 : n = 0
    · by_cases h5 : s.size = 0
      · simp [h4, h5, utfB_nil s h5]
      · simp [h4, h5, Bool.and_comm]
    · simp [h4]
  rw [if_neg h3]
  by_cases h4 : kind = 4
  · rw [if_pos h4]
    refine Ev.congr (fun k => by rw [if_neg h0, if_neg h1, if_neg h2, if_neg h3, if_pos h4]) (Ev.eq (vj0 _ _ _ _ _) ?_)
    by_cases h5 : n = 0 <;> simp [h5]
  · rw [if_neg h4]
    exact Ev.congr (f := fun _ => some false) (fun k => by rw [if_neg h0, if_neg h1, if_neg h2, if_neg h3, if_neg h4]) (Ev.now _)
def typB (kind mx : Int) : Bool := if kind = 1 ∨ kind = 2 then decide (mx = 0) else if kind = 3 ∨ kind = 4 then decide (1 ≤ mx ∧ mx ≤ 120) else false
theorem typ_ev (kind mx : Int) : Ev (fun k => typ_Right.f k kind mx) (typB kind mx) := by
  refine Ev.flat0 4 (fun m => ?_)
  unfold typB
  simp only [typ_Right.f, typ_Right.j0, typ_Right.j1]
  by_cases h1 : kind = 1
  · simp [h1, beq_dec]
  · by_cases h2 : kind = 2
    · simp [h2, beq_dec]
    · by_cases h3 : kind = 3
      · subst h3
        by_cases h5 : 1 ≤ mx <;> simp [h5]
      · by_cases h4 : kind = 4
        · subst h4
          by_cases h5 : 1 ≤ mx <;> simp [h5]
        · simp [h1, h2, h3, h4]
def fitB (tk tm vk vn : Int) (vs : ByteArray) : Bool := typB tk tm && (decide (vk = tk) && (valB vk vn vs && (decide (tk < 3) || decide ((vs.size : Int) ≤ tm))))
theorem fit_ev (tk tm vk vn : Int) (vs : ByteArray) (hs : vs.size ≤ 1000000000) : Ev (fun k => typ_Fits.f k tk tm vk vn vs) (fitB tk tm vk vn vs) := by
  have hj : ∀ b : Bool, Ev (fun k => typ_Fits.j0 k b tk tm vk vn vs) (!b && (decide (¬ (tk = 3 ∨ tk = 4)) || decide ((vs.size : Int) ≤ tm))) := fun b => by
    refine Ev.flat0 2 (fun m => ?_)
    simp only [typ_Fits.j0, typ_long.f]
    cases b
    · by_cases h3 : tk = 3
      · simp [h3]
      · by_cases h4 : tk = 4 <;> simp [h3, h4]
    · simp
  unfold typ_Fits.f fitB
  refine Ev.bind (typ_ev tk tm) ?_
  by_cases h1 : typB tk tm = true
  · rw [h1, Bool.true_and]
    by_cases h2 : vk = tk
    · refine Ev.congr (fun k => by rw [if_pos rfl, if_pos h2]) (Ev.bind (val_ev vk vn vs hs) (Ev.eq (hj _) ?_))
      rw [decide_eq_true h2, Bool.true_and, Bool.not_not]
      congr 2
      unfold typB at h1
      rw [decide_eq_decide]
      split at h1
      · omega
      · split at h1
        · omega
        · cases h1
    · refine Ev.congr (fun k => by rw [if_pos rfl, if_neg h2]) (Ev.eq (hj true) ?_)
      rw [decide_eq_false h2]
      rfl
  · rw [Bool.not_eq_true] at h1
    rw [h1]
    exact Ev.congr (fun k => by rw [if_neg (by simp)]) (Ev.eq (hj true) rfl)
/- piece refval -/
theorem rfits32_ev (n : Int) (h : (Lit.int .i64 n).wf = true) : Ev (fun k => haulageref01_Fits.f k n 32) (fits32 n) := by
  have h := wf_i64 h
  have := refFits_ev n 32 (by decide) (by decide) h.1 h.2
  rw [lowS32] at this
  exact this
theorem rtyp_eq (kind mx : Int) : haulageref06_Right.f kind mx = some (typB kind mx) := by
  unfold haulageref06_Right.f typB
  by_cases h1 : kind = 1
  · simp [h1, beq_dec]
  · by_cases h2 : kind = 2
    · simp [h2, beq_dec]
    · by_cases h3 : kind = 3
      · subst h3
        by_cases h5 : 1 ≤ mx <;> simp [h5]
      · by_cases h4 : kind = 4
        · subst h4
          by_cases h5 : 1 ≤ mx <;> simp [h5]
        · simp [h1, h2, h3, h4]
theorem nil_dec (s : ByteArray) : (s.toList == ([] : List UInt8)) = decide (s.size = 0) := by
  rw [Bool.eq_iff_iff, beq_iff_eq, ba_nil, decide_eq_true_iff]
theorem rval_ev (kind n : Int) (s : ByteArray) (hs : s.size ≤ 1000000000) (hn : (Lit.int .i64 n).wf = true) : Ev (fun k => haulageref05_Right.f k kind n s) (valB kind n s) := by
  unfold haulageref05_Right.f valB
  rw [nil_dec]
  by_cases h0 : kind = 0
  · rw [if_pos h0]
    by_cases h1 : n = 0
    · exact Ev.congr (f := fun _ => some _) (fun k => by rw [if_pos h0, if_pos h1]) (Ev.eq (Ev.now _) (by rw [decide_eq_true h1, Bool.true_and]))
    · exact Ev.congr (f := fun _ => some _) (fun k => by rw [if_pos h0, if_neg h1]) (Ev.eq (Ev.now _) (by rw [decide_eq_false h1, Bool.false_and]))
  rw [if_neg h0]
  by_cases h1 : kind = 1
  · rw [if_pos h1]
    refine Ev.congr (fun k => by rw [if_neg h0, if_pos h1]) (Ev.bind (rfits32_ev n hn) ?_)
    by_cases h2 : fits32 n = true
    · rw [h2]
      exact Ev.congr (f := fun _ => some _) (fun k => by rw [if_pos rfl]) (Ev.eq (Ev.now _) (by rw [Bool.true_and]))
    · rw [Bool.not_eq_true] at h2
      rw [h2]
      exact Ev.congr (f := fun _ => some _) (fun k => by rw [if_neg (by simp)]) (Ev.eq (Ev.now _) (by rw [Bool.false_and]))
  rw [if_neg h1]
  by_cases h2 : kind = 2
  · rw [if_pos h2]
    exact Ev.congr (f := fun _ => some _) (fun k => by rw [if_neg h0, if_neg h1, if_pos h2]) (Ev.now _)
  rw [if_neg h2]
  by_cases h3 : kind = 3
  · rw [if_pos h3]
    by_cases h4 : n = 0
    · rw [decide_eq_true h4, Bool.true_and]
      by_cases h5 : s.size ≤ 120
      · rw [decide_eq_true h5, Bool.true_and]
        exact Ev.congr (fun k => by rw [if_neg h0, if_neg h1, if_neg h2, if_pos h3, if_pos h4, if_pos (by omega)]) (Ev.bind (rutf_ev s hs) (Ev.now _))
      · rw [decide_eq_false h5, Bool.false_and]
        exact Ev.congr (f := fun _ => some false) (fun k => by rw [if_neg h0, if_neg h1, if_neg h2, if_pos h3, if_pos h4, if_neg (by omega)]) (Ev.now _)
    · rw [decide_eq_false h4, Bool.false_and]
      exact Ev.congr (f := fun _ => some false) (fun k => by rw [if_neg h0, if_neg h1, if_neg h2, if_pos h3, if_neg h4]) (Ev.now _)
  rw [if_neg h3]
  by_cases h4 : kind = 4
  · refine Ev.eq (r := decide (n = 0) && decide (s.size ≤ 120)) ?_ (by rw [if_pos h4])
    by_cases h5 : n = 0
    · refine Ev.congr (f := fun _ => some (decide ((s.size : Int) ≤ 120))) (fun k => by rw [if_neg h0, if_neg h1, if_neg h2, if_neg h3, if_pos h4, if_pos h5]) (Ev.eq (Ev.now _) ?_)
      rw [decide_eq_true h5, Bool.true_and, decide_eq_decide]
      omega
    · rw [decide_eq_false h5, Bool.false_and]
      exact Ev.congr (f := fun _ => some false) (fun k => by rw [if_neg h0, if_neg h1, if_neg h2, if_neg h3, if_pos h4, if_neg h5]) (Ev.now _)
  · refine Ev.eq (r := false) ?_ (by rw [if_neg h4])
    exact Ev.congr (f := fun _ => some false) (fun k => by rw [if_neg h0, if_neg h1, if_neg h2, if_neg h3, if_neg h4]) (Ev.now _)
theorem rfit_ev (tk tm vk vn : Int) (vs : ByteArray) (hs : vs.size ≤ 1000000000) (hn : (Lit.int .i64 vn).wf = true) : Ev (fun k => haulageref06_Fits.f k tk tm vk vn vs) (fitB tk tm vk vn vs) := by
  unfold haulageref06_Fits.f fitB
  refine Ev.congr (fun k => by rw [rtyp_eq, Option.bind_some]) ?_
  by_cases h1 : typB tk tm = true
  · rw [h1, Bool.true_and]
    refine Ev.congr (fun k => by rw [if_pos rfl]) (Ev.bind (rval_ev vk vn vs hs hn) ?_)
    by_cases h2 : valB vk vn vs = true
    · rw [h2, Bool.true_and]
      by_cases h3 : vk = tk
      · rw [decide_eq_true h3, Bool.true_and]
        by_cases h4 : tk < 3
        · exact Ev.congr (f := fun _ => some true) (fun k => by rw [if_pos rfl, if_pos h3, if_pos h4]) (Ev.eq (Ev.now _) (by rw [decide_eq_true h4, Bool.true_or]))
        · exact Ev.congr (f := fun _ => some _) (fun k => by rw [if_pos rfl, if_pos h3, if_neg h4]) (Ev.eq (Ev.now _) (by rw [decide_eq_false h4, Bool.false_or]))
      · exact Ev.congr (f := fun _ => some false) (fun k => by rw [if_pos rfl, if_neg h3]) (Ev.eq (Ev.now _) (by rw [decide_eq_false h3, Bool.false_and]))
    · rw [Bool.not_eq_true] at h2
      rw [h2, Bool.false_and, Bool.and_false]
      exact Ev.congr (f := fun _ => some false) (fun k => by rw [if_neg (by simp)]) (Ev.now _)
  · rw [Bool.not_eq_true] at h1
    rw [h1]
    exact Ev.congr (f := fun _ => some false) (fun k => by rw [if_neg (by simp)]) (Ev.now _)
/- piece refcol -/
theorem rcol_l0 (a0 : Int) (a1 : ByteArray) (a2 a3 : Int) (nm : ByteArray) (l : List S54) (hb : l.length ≤ 9223372036854775807) : Ev (fun k => haulageref08_Col.l0 k nm (0 : Int) a0 a1 a2 a3 l) (scanR (fun c => decide (c.f1 = nm)) l 0) := by
  have h := down (P := fun i => Ev (fun k => haulageref08_Col.l0 k nm (i : Int) a0 a1 a2 a3 l) (scanR (fun c => decide (c.f1 = nm)) (l.drop i) i)) (n := l.length)
    (by rw [List.drop_length]; exact Ev.step (f := fun _ => some (-1)) (fun k => by simp only [haulageref08_Col.l0]; rw [if_neg (by omega)]) (Ev.now _))
    (fun i hi ih => by
      rw [List.drop_eq_getElem_cons hi]
      refine Ev.step (f := fun k => if (decide (l[i].f1 = nm)) = true then some (i : Int) else haulageref08_Col.l0 k nm ((i + 1 : Nat) : Int) a0 a1 a2 a3 l) (fun k => ?_) ?_
      · simp only [haulageref08_Col.l0]
        rw [if_pos (by omega), if_pos (by omega), rd_col l i hi, wrap_succ _ (by omega)]
        simp only [ba_iff, decide_eq_true_eq]
      · simp only [scanR]
        split
        · exact Ev.now _
        · exact ih) 0 (Nat.zero_le _)
  exact h
theorem rcol_ev (a0 : Int) (a1 : ByteArray) (a2 a3 : Int) (l : List S54) (nm : ByteArray) (hb : l.length ≤ 9223372036854775807) : Ev (fun k => haulageref08_Col.f k a0 a1 a2 a3 l nm) (scanR (fun c => decide (c.f1 = nm)) l 0) := rcol_l0 a0 a1 a2 a3 nm l hb
/- piece column -/
def zeroV (v : S52) : Bool := v.f0 == 0 && (v.f1 == 0 && (v.f2.toList == ([] : List UInt8)))
def OkCol (c : S54) : Prop := c.f1.size ≤ 1000000000 ∧ c.f4.f2.size ≤ 1000000000 ∧ (Lit.int .i64 c.f4.f1).wf = true
def colB (c : S54) : Bool := decide (0 ≤ c.f0 ∧ c.f0 < 200) && (nameB c.f1 && (typB c.f2.f0 c.f2.f1 && (zeroV c.f4 || fitB c.f2.f0 c.f2.f1 c.f4.f0 c.f4.f1 c.f4.f2)))
theorem column_ev (c : S54) (h : OkCol c) : Ev (fun k => schema_RightColumn.f k c.f0 c.f1 c.f2.f0 c.f2.f1 c.f3 c.f4.f0 c.f4.f1 c.f4.f2) (colB c) := by
  have hj : ∀ b : Bool, Ev (fun k => schema_RightColumn.j0 k b c.f0 c.f1 c.f2.f0 c.f2.f1 c.f3 c.f4.f0 c.f4.f1 c.f4.f2) (!b && (zeroV c.f4 || fitB c.f2.f0 c.f2.f1 c.f4.f0 c.f4.f1 c.f4.f2)) := fun b => by
    cases b
    · by_cases hz : zeroV c.f4 = true
      · refine Ev.step (f := fun _ => some true) (fun k => ?_) (Ev.eq (Ev.now _) (by rw [hz]; rfl))
        simp only [schema_RightColumn.j0]
        exact (if_neg (by simp)).trans (if_pos hz)
      · refine Ev.step (fun k => ?_) (Ev.eq (Ev.bind (fit_ev c.f2.f0 c.f2.f1 c.f4.f0 c.f4.f1 c.f4.f2 h.2.1) (Ev.now _)) ?_)
        · simp only [schema_RightColumn.j0]
          exact (if_neg (by simp)).trans (if_neg hz)
        · rw [Bool.not_eq_true] at hz
          rw [hz]
          simp
    · exact Ev.step (f := fun _ => some false) (fun k => by simp only [schema_RightColumn.j0]; rw [if_pos (by trivial)]) (Ev.now _)
  unfold schema_RightColumn.f colB
  by_cases h0 : c.f0 < 0
  · rw [decide_eq_false (by omega), Bool.false_and]
    exact Ev.congr (fun k => by rw [if_pos h0]) (Ev.eq (hj true) rfl)
  · by_cases h1 : c.f0 ≥ 200
    · rw [decide_eq_false (by omega), Bool.false_and]
      exact Ev.congr (fun k => by rw [if_neg h0, if_pos h1]) (Ev.eq (hj true) rfl)
    · rw [decide_eq_true (by omega), Bool.true_and]
      refine Ev.congr (fun k => by rw [if_neg h0, if_neg h1]) (Ev.bind (name_ev c.f1 (by have := h.1; omega)) ?_)
      by_cases h2 : nameB c.f1 = true
      · rw [h2, Bool.true_and]
        exact Ev.congr (fun k => by rw [if_pos rfl]) (Ev.bind (typ_ev _ _) (Ev.eq (hj _) (by rw [Bool.not_not])))
      · rw [Bool.not_eq_true] at h2
        rw [h2]
        exact Ev.congr (fun k => by rw [if_neg (by simp)]) (Ev.eq (hj true) rfl)
def tabGo (next key : Int) : List S54 → Int → Bool → List ByteArray → Bool
  | [], _, kf, _ => kf
  | c :: r, last, kf, ns => if colB c = true ∧ last < c.f0 ∧ c.f0 < next ∧ hpHas ns c.f1 = false then tabGo next key r c.f0 (if c.f0 = key then !c.f3 else kf) (ns ++ [c.f1]) else false
def tabB (id : Int) (name : ByteArray) (key next : Int) (l : List S54) : Bool := decide (0 ≤ id ∧ next ≤ 200 ∧ 1 ≤ l.length ∧ l.length ≤ 10) && (nameB name && tabGo next key l (-1) false [])
theorem get_eq (l : List ByteArray) (s : ByteArray) (h : s.size ≤ 1000000000) : hpmap_get.f l s = some (hpHas l s, l) := by
  unfold hpmap_get.f
  rw [if_pos (by omega)]
theorem put_eq (l : List ByteArray) (s : ByteArray) (h : s.size ≤ 1000000000) (hl : l.length ≤ 1000000000) : hpmap_put.f l s = some (l ++ [s]) := by
  unfold hpmap_put.f
  rw [if_pos (by omega)]
theorem table_ev (id : Int) (name : ByteArray) (key next : Int) (l : List S54) (hn : name.size ≤ 1000000000) (hok : ∀ c ∈ l, OkCol c) : Ev (fun k => schema_RightTable.f k id name key next l) (tabB id name key next l) := by
  have hl0 : l.length ≤ 10 → Ev (fun k => schema_RightTable.l0 k (-1) false l (l.length : Int) 0 id name key next l ([] : List ByteArray)) (tabGo next key l (-1) false []) := fun hlen => by
    have h := down (P := fun i => ∀ (last : Int) (kf : Bool) (ns : List ByteArray), ns.length ≤ i → Ev (fun k => schema_RightTable.l0 k last kf l (l.length : Int) (i : Int) id name key next l ns) (tabGo next key (l.drop i) last kf ns)) (n := l.length)
      (fun last kf ns _ => by
        rw [List.drop_length]
        exact Ev.step (f := fun _ => some kf) (fun k => by simp only [schema_RightTable.l0]; rw [if_neg (by omega)]) (Ev.now _))
      (fun i hi ih last kf ns hns => by
        rw [List.drop_eq_getElem_cons hi]
        have hc := hok _ (List.getElem_mem hi)
        generalize hci : l[i] = c at hc
        have hrd : rd_T54 l (i : Int) = c := by rw [rd_col l i hi, hci]
        have hj3 : ∀ (kf2 : Bool), Ev (fun k => schema_RightTable.j3 k kf2 l (l.length : Int) (i : Int) id name key next l ns c.f0 c.f1 c.f2.f0 c.f2.f1 c.f3 c.f4.f0 c.f4.f1 c.f4.f2) (tabGo next key (l.drop (i + 1)) c.f0 kf2 (ns ++ [c.f1])) := fun kf2 => by
          refine Ev.step (fun k => ?_) (ih c.f0 kf2 (ns ++ [c.f1]) (by simp; omega))
          simp only [schema_RightTable.j3]
          rw [put_eq ns c.f1 hc.1 (by omega), Option.bind_some, wrap_succ _ (by omega)]
        have hj2 : ∀ (b : Bool), Ev (fun k => schema_RightTable.j2 k kf l (l.length : Int) (i : Int) b id name key next l ns c.f0 c.f1 c.f2.f0 c.f2.f1 c.f3 c.f4.f0 c.f4.f1 c.f4.f2) (if b = true then false else tabGo next key (l.drop (i + 1)) c.f0 (if c.f0 = key then !c.f3 else kf) (ns ++ [c.f1])) := fun b => by
          cases b
          · rw [if_neg (by simp)]
            by_cases hk : c.f0 = key
            · rw [if_pos hk]
              exact Ev.step (fun k => by simp only [schema_RightTable.j2]; rw [if_neg (by simp), if_pos hk]) (hj3 _)
            · rw [if_neg hk]
              exact Ev.step (fun k => by simp only [schema_RightTable.j2]; rw [if_neg (by simp), if_neg hk]) (hj3 _)
          · rw [if_pos rfl]
            exact Ev.step (f := fun _ => some false) (fun k => by simp only [schema_RightTable.j2]; rw [if_pos (by trivial)]) (Ev.now _)
        refine Ev.step (f := fun k => (schema_RightColumn.f k c.f0 c.f1 c.f2.f0 c.f2.f1 c.f3 c.f4.f0 c.f4.f1 c.f4.f2).bind fun t => if t = true then (if c.f0 ≤ last then schema_RightTable.j2 k kf l (l.length : Int) (i : Int) true id name key next l ns c.f0 c.f1 c.f2.f0 c.f2.f1 c.f3 c.f4.f0 c.f4.f1 c.f4.f2 else if c.f0 ≥ next then schema_RightTable.j2 k kf l (l.length : Int) (i : Int) true id name key next l ns c.f0 c.f1 c.f2.f0 c.f2.f1 c.f3 c.f4.f0 c.f4.f1 c.f4.f2 else schema_RightTable.j2 k kf l (l.length : Int) (i : Int) (hpHas ns c.f1) id name key next l ns c.f0 c.f1 c.f2.f0 c.f2.f1 c.f3 c.f4.f0 c.f4.f1 c.f4.f2) else schema_RightTable.j2 k kf l (l.length : Int) (i : Int) true id name key next l ns c.f0 c.f1 c.f2.f0 c.f2.f1 c.f3 c.f4.f0 c.f4.f1 c.f4.f2) (fun k => ?_) ?_
        · simp only [schema_RightTable.l0]
          rw [if_pos (by omega), if_pos (by omega), if_pos (by omega), hrd, get_eq ns c.f1 hc.1]
          rfl
        · refine Ev.bind (column_ev c hc) ?_
          simp only [tabGo]
          by_cases h1 : colB c = true
          · refine Ev.congr (fun k => by rw [if_pos h1]) ?_
            by_cases h2 : c.f0 ≤ last
            · rw [if_neg (by omega)]
              exact Ev.congr (fun k => by rw [if_pos h2]) (Ev.eq (hj2 true) rfl)
            · by_cases h3 : c.f0 ≥ next
              · rw [if_neg (by omega)]
                exact Ev.congr (fun k => by rw [if_neg h2, if_pos h3]) (Ev.eq (hj2 true) rfl)
              · refine Ev.congr (fun k => by rw [if_neg h2, if_neg h3]) (Ev.eq (hj2 _) ?_)
                by_cases h4 : hpHas ns c.f1 = true
                · rw [if_pos h4, if_neg (fun e => by rw [h4] at e; exact absurd e.2.2.2 (by simp))]
                · rw [if_neg h4]
                  exact (if_pos ⟨h1, by omega, by omega, by simpa using h4⟩).symm
          · rw [if_neg (fun e => h1 e.1)]
            exact Ev.congr (fun k => by rw [if_neg h1]) (Ev.eq (hj2 true) rfl)) 0 (Nat.zero_le _)
    exact h (-1) false [] (Nat.zero_le _)
  have hj0 : l.length ≤ 10 → ∀ b : Bool, Ev (fun k => schema_RightTable.j0 k b id name key next l) (!b && tabGo next key l (-1) false []) := fun hlen b => by
    cases b
    · exact Ev.step (fun k => by simp only [schema_RightTable.j0]; rw [if_neg (by simp)]) (Ev.eq (hl0 hlen) (by simp))
    · exact Ev.step (f := fun _ => some false) (fun k => by simp only [schema_RightTable.j0]; rw [if_pos (by trivial)]) (Ev.now _)
  have hjt : Ev (fun k => schema_RightTable.j0 k true id name key next l) false := Ev.step (f := fun _ => some false) (fun k => by simp only [schema_RightTable.j0]; rw [if_pos (by trivial)]) (Ev.now _)
  unfold schema_RightTable.f tabB
  by_cases h0 : id < 0
  · rw [decide_eq_false (by omega), Bool.false_and]
    exact Ev.congr (fun k => by rw [if_pos h0]) hjt
  by_cases h1 : next > 200
  · rw [decide_eq_false (by omega), Bool.false_and]
    exact Ev.congr (fun k => by rw [if_neg h0, if_pos h1]) hjt
  by_cases h2 : l.length = 0
  · rw [decide_eq_false (by omega), Bool.false_and]
    exact Ev.congr (fun k => by rw [if_neg h0, if_neg h1, if_pos (by omega)]) hjt
  by_cases h3 : l.length > 10
  · rw [decide_eq_false (by omega), Bool.false_and]
    exact Ev.congr (fun k => by rw [if_neg h0, if_neg h1, if_neg (by omega), if_pos (by omega)]) hjt
  · rw [decide_eq_true (by omega), Bool.true_and]
    refine Ev.congr (fun k => by rw [if_neg h0, if_neg h1, if_neg (by omega), if_neg (by omega)]) (Ev.bind (name_ev name (by omega)) ?_)
    exact Ev.eq (hj0 (by omega) _) (by rw [Bool.not_not])
/- piece refcolumn -/
theorem rcolumn_ev (c : S54) (h : OkCol c) : Ev (fun k => haulageref08_Column.f k c.f0 c.f1 c.f2.f0 c.f2.f1 c.f3 c.f4.f0 c.f4.f1 c.f4.f2) (colB c) := by
  unfold haulageref08_Column.f colB
  by_cases h0 : c.f0 ≥ 0
  · by_cases h1 : c.f0 < 200
    · rw [decide_eq_true (by omega), Bool.true_and]
      refine Ev.congr (fun k => by rw [if_pos h0, if_pos h1]) (Ev.bind (rname_ev c.f1 (by have := h.1; omega)) ?_)
      by_cases h2 : nameB c.f1 = true
      · rw [h2, Bool.true_and]
        refine Ev.congr (fun k => by rw [if_pos rfl, rtyp_eq, Option.bind_some]) ?_
        by_cases h3 : typB c.f2.f0 c.f2.f1 = true
        · rw [h3, Bool.true_and]
          refine Ev.congr (fun k => by rw [if_pos rfl]) ?_
          by_cases hz : zeroV c.f4 = true
          · exact Ev.congr (f := fun _ => some true) (fun k => if_pos hz) (Ev.eq (Ev.now _) (by rw [hz]; rfl))
          · refine Ev.congr (fun k => if_neg hz) (Ev.eq (Ev.bind (rfit_ev c.f2.f0 c.f2.f1 c.f4.f0 c.f4.f1 c.f4.f2 h.2.1 h.2.2) (Ev.now _)) ?_)
            rw [Bool.not_eq_true] at hz
            rw [hz, Bool.false_or]
        · rw [Bool.not_eq_true] at h3
          rw [h3]
          exact Ev.congr (f := fun _ => some false) (fun k => by rw [if_neg (by simp)]) (Ev.now _)
      · rw [Bool.not_eq_true] at h2
        rw [h2]
        exact Ev.congr (f := fun _ => some false) (fun k => by rw [if_neg (by simp)]) (Ev.now _)
    · rw [decide_eq_false (by omega), Bool.false_and]
      exact Ev.congr (f := fun _ => some false) (fun k => by rw [if_pos h0, if_neg h1]) (Ev.now _)
  · rw [decide_eq_false (by omega), Bool.false_and]
    exact Ev.congr (f := fun _ => some false) (fun k => by rw [if_neg h0]) (Ev.now _)
theorem scanR_mid {α : Type} (p : α → Bool) (c : α) (hc : p c = true) (r : List α) : ∀ (pre : List α) (off : Nat), scanR p (pre ++ c :: r) off = ((off + pre.length : Nat) : Int) ↔ pre.any p = false
  | [], off => by simp [scanR, hc]
  | x :: q, off => by
    have ih := scanR_mid p c hc r q (off + 1)
    simp only [List.cons_append, scanR, List.any_cons]
    by_cases h : p x = true
    · rw [if_pos h, h]
      simp only [List.length_cons, Bool.true_or, Bool.true_eq_false, iff_false]
      omega
    · rw [if_neg h]
      rw [Bool.not_eq_true] at h
      rw [h, Bool.false_or, ← ih, List.length_cons, show off + 1 + q.length = off + (q.length + 1) by omega]
theorem colB_id (c : S54) (h : colB c = true) : 0 ≤ c.f0 := by
  unfold colB at h
  rw [Bool.and_eq_true, decide_eq_true_iff] at h
  exact h.1.1
theorem rtable_ev (id : Int) (name : ByteArray) (key next : Int) (l : List S54) (hn : name.size ≤ 1000000000) (hok : ∀ c ∈ l, OkCol c) (hl : l.length ≤ 1000000000) : Ev (fun k => haulageref08_Table.f k id name key next l) (tabB id name key next l) := by
  have hl0 : Ev (fun k => haulageref08_Table.l0 k false 0 id name key next l) (tabGo next key l (-1) false []) := by
    have h := down (P := fun i => ∀ (last : Int) (kf : Bool), (i = 0 → last = -1) → (∀ (_ : 0 < i) (h : i - 1 < l.length), last = l[i - 1].f0) → (∀ j (h : j < l.length), j < i → l[j].f0 ≤ last) → (kf = true → ∃ j, ∃ h : j < l.length, j < i ∧ l[j].f0 = key) →
        Ev (fun k => haulageref08_Table.l0 k kf (i : Int) id name key next l) (tabGo next key (l.drop i) last kf ((l.take i).map (·.f1)))) (n := l.length)
      (fun last kf _ _ _ _ => by
        rw [List.drop_length]
        exact Ev.step (f := fun _ => some kf) (fun k => by simp only [haulageref08_Table.l0]; rw [if_neg (by omega)]) (Ev.now _))
      (fun i hi ih last kf hl1 hl2 hl3 hkf => by
        rw [List.drop_eq_getElem_cons hi]
        have hc := hok _ (List.getElem_mem hi)
        have hsplit : l = l.take i ++ l[i] :: l.drop (i + 1) := by rw [← List.drop_eq_getElem_cons hi, List.take_append_drop]
        have htk : (l.take i).map (·.f1) ++ [l[i].f1] = (l.take (i + 1)).map (·.f1) := by rw [List.take_succ_eq_append_getElem hi, List.map_append]; rfl
        generalize hci : l[i] = c at hc hsplit htk
        have hrd : rd_T54 l (i : Int) = c := by rw [rd_col l i hi, hci]
        have hfirst : scanR (fun x => decide (x.f1 = c.f1)) l 0 = (i : Int) ↔ hpHas ((l.take i).map (·.f1)) c.f1 = false := by
          have h1 := scanR_mid (fun x : S54 => decide (x.f1 = c.f1)) c (by simp) (l.drop (i + 1)) (l.take i) 0
          rw [← hsplit, List.length_take, Nat.min_eq_left (by omega), Nat.zero_add] at h1
          rw [h1]
          unfold hpHas
          rw [List.any_map]
          rfl
        have hj2 : ∀ (b : Bool), (b = false → colB c = true ∧ last < c.f0) → Ev (fun k => haulageref08_Table.j2 k kf (i : Int) b id name key next l c.f0 c.f1 c.f2.f0 c.f2.f1 c.f3 c.f4.f0 c.f4.f1 c.f4.f2) (if b = true then false else tabGo next key (l.drop (i + 1)) c.f0 (if c.f0 = key then !c.f3 else kf) ((l.take i).map (·.f1) ++ [c.f1])) := fun b hb => by
          cases b
          · rw [if_neg (by simp), htk]
            obtain ⟨hb1, hb2⟩ := hb rfl
            have hkey : c.f0 = key → kf = false := fun e => by
              cases hkv : kf
              · rfl
              · obtain ⟨j, hj, hji, he⟩ := hkf hkv
                have := hl3 j hj hji
                omega
            have hih : ∀ kf2 : Bool, (kf2 = true → kf = true ∨ c.f0 = key) → Ev (fun k => haulageref08_Table.l0 k kf2 ((i + 1 : Nat) : Int) id name key next l) (tabGo next key (l.drop (i + 1)) c.f0 kf2 ((l.take (i + 1)).map (·.f1))) := fun kf2 hk2 => by
              refine ih c.f0 kf2 (fun e => by omega) (fun _ h => ?_) (fun j hj hji => ?_) (fun e => ?_)
              · simp only [Nat.add_sub_cancel]
                rw [hci]
              · by_cases hje : j = i
                · subst hje
                  rw [hci]
                  exact Int.le_refl _
                · have := hl3 j hj (by omega)
                  omega
              · rcases hk2 e with e1 | e1
                · obtain ⟨j, hj, hji, he⟩ := hkf e1
                  exact ⟨j, hj, by omega, he⟩
                · exact ⟨i, hi, by omega, by rw [hci]; exact e1⟩
            by_cases hkt : kf = true
            · have hk : ¬ c.f0 = key := fun e => by rw [hkey e] at hkt; cases hkt
              rw [if_neg hk, hkt]
              exact Ev.step (fun k => by simp only [haulageref08_Table.j2]; rw [if_neg (by simp), if_pos (by trivial), wrap_succ _ (by omega)]) (hih true (fun _ => .inl hkt))
            · by_cases hk : c.f0 = key
              · rw [if_pos hk]
                exact Ev.step (fun k => by simp only [haulageref08_Table.j2]; rw [if_neg (by simp), if_neg hkt, if_pos hk, wrap_succ _ (by omega)]) (hih _ (fun _ => .inr hk))
              · rw [if_neg hk]
                rw [Bool.not_eq_true] at hkt
                rw [hkt]
                exact Ev.step (fun k => by simp only [haulageref08_Table.j2]; rw [if_neg (by simp), if_neg (by simp), if_neg hk, wrap_succ _ (by omega)]) (hih false (fun e => by cases e))
          · rw [if_pos rfl]
            exact Ev.step (f := fun _ => some false) (fun k => by simp only [haulageref08_Table.j2]; rw [if_pos (by trivial)]) (Ev.now _)
        have hcolev : Ev (fun k => haulageref08_Col.f k id name key next l c.f1) (scanR (fun x => decide (x.f1 = c.f1)) l 0) := rcol_ev id name key next l c.f1 (by omega)
        have hfin : colB c = true → last < c.f0 → c.f0 < next → Ev (fun k => (haulageref08_Col.f k id name key next l c.f1).bind fun t => haulageref08_Table.j2 k kf (i : Int) (t != (i : Int)) id name key next l c.f0 c.f1 c.f2.f0 c.f2.f1 c.f3 c.f4.f0 c.f4.f1 c.f4.f2) (tabGo next key (c :: l.drop (i + 1)) last kf ((l.take i).map (·.f1))) := fun g1 g2 g3 => by
          refine Ev.bind hcolev (Ev.eq (hj2 _ (fun _ => ⟨g1, g2⟩)) ?_)
          simp only [tabGo]
          by_cases h4 : hpHas ((l.take i).map (·.f1)) c.f1 = false
          · refine Eq.trans ?_ (if_pos ⟨g1, g2, g3, h4⟩).symm
            rw [hfirst.2 h4, if_neg (by simp)]
          · refine Eq.trans ?_ (if_neg (fun e => h4 e.2.2.2)).symm
            rw [if_pos (by simpa using fun e => h4 (hfirst.1 e))]
        refine Ev.step (fun k => by simp only [haulageref08_Table.l0]; rw [if_pos (by omega), if_pos (by omega), hrd]) ?_
        refine Ev.bind (rcolumn_ev c hc) ?_
        by_cases h1 : colB c = true
        · refine Ev.congr (fun k => by rw [if_pos h1]) ?_
          by_cases h3 : c.f0 ≥ next
          · simp only [tabGo]
            rw [if_neg (by omega)]
            exact Ev.congr (fun k => by rw [if_pos h3]) (Ev.eq (hj2 true (fun e => by cases e)) rfl)
          · refine Ev.congr (fun k => by rw [if_neg h3]) ?_
            by_cases h5 : i = 0
            · have := colB_id c h1
              have hlast := hl1 h5
              exact Ev.congr (fun k => by rw [if_neg (by omega)]) (hfin h1 (by omega) (by omega))
            · have hlast := hl2 (by omega) (by omega)
              have hw : wrap64 ((i : Int) - 1) = ((i - 1 : Nat) : Int) := by rw [wrap_id _ (by omega) (by omega)]; omega
              have hrd1 : (rd_T54 l ((i - 1 : Nat) : Int)).f0 = last := by rw [rd_col l (i - 1) (by omega)]; exact hlast.symm
              refine Ev.congr (fun k => by rw [if_pos (by omega), hw, if_pos (by omega), if_pos (by omega), hrd1]) ?_
              by_cases h2 : c.f0 ≤ last
              · simp only [tabGo]
                rw [if_neg (by omega)]
                exact Ev.congr (fun k => by rw [if_pos h2]) (Ev.eq (hj2 true (fun e => by cases e)) rfl)
              · exact Ev.congr (fun k => by rw [if_neg h2]) (hfin h1 (by omega) (by omega))
        · simp only [tabGo]
          rw [if_neg (fun e => h1 e.1)]
          exact Ev.congr (fun k => by rw [if_neg h1]) (Ev.eq (hj2 true (fun e => by cases e)) rfl)) 0 (Nat.zero_le _)
    exact h (-1) false (fun _ => rfl) (fun h => by omega) (fun j _ h => by omega) (fun e => by cases e)
  have hj0 : ∀ b : Bool, Ev (fun k => haulageref08_Table.j0 k b id name key next l) (!b && tabGo next key l (-1) false []) := fun b => by
    cases b
    · exact Ev.step (fun k => by simp only [haulageref08_Table.j0]; rw [if_neg (by simp)]) (Ev.eq hl0 (by simp))
    · exact Ev.step (f := fun _ => some false) (fun k => by simp only [haulageref08_Table.j0]; rw [if_pos (by trivial)]) (Ev.now _)
  unfold haulageref08_Table.f tabB
  by_cases h0 : id < 0
  · rw [decide_eq_false (show ¬ (0 ≤ id ∧ next ≤ 200 ∧ 1 ≤ l.length ∧ l.length ≤ 10) by omega), Bool.false_and]
    exact Ev.congr (fun k => by rw [if_pos h0]) (Ev.eq (hj0 true) rfl)
  refine Ev.congr (fun k => by rw [if_neg h0]) (Ev.bind (rname_ev name (by omega)) ?_)
  by_cases h4 : nameB name = true
  · refine Ev.congr (fun k => by rw [if_pos h4]) ?_
    rw [h4, Bool.true_and]
    by_cases h2 : l.length = 0
    · rw [decide_eq_false (show ¬ (0 ≤ id ∧ next ≤ 200 ∧ 1 ≤ l.length ∧ l.length ≤ 10) by omega), Bool.false_and]
      exact Ev.congr (fun k => by rw [if_pos (by omega)]) (Ev.eq (hj0 true) rfl)
    by_cases h3 : l.length > 10
    · rw [decide_eq_false (show ¬ (0 ≤ id ∧ next ≤ 200 ∧ 1 ≤ l.length ∧ l.length ≤ 10) by omega), Bool.false_and]
      exact Ev.congr (fun k => by rw [if_neg (by omega), if_pos (by omega)]) (Ev.eq (hj0 true) rfl)
    · refine Ev.congr (fun k => by rw [if_neg (by omega), if_neg (by omega)]) (Ev.eq (hj0 _) ?_)
      by_cases h1 : next > 200
      · rw [decide_eq_true h1, decide_eq_false (show ¬ (0 ≤ id ∧ next ≤ 200 ∧ 1 ≤ l.length ∧ l.length ≤ 10) by omega)]
        rfl
      · rw [decide_eq_false h1, decide_eq_true (show 0 ≤ id ∧ next ≤ 200 ∧ 1 ≤ l.length ∧ l.length ≤ 10 by omega)]
        rfl
  · rw [Bool.not_eq_true] at h4
    rw [h4, Bool.false_and, Bool.and_false]
    exact Ev.congr (fun k => by rw [if_neg (by simp)]) (Ev.eq (hj0 true) rfl)
/- piece fits -/
def OkVal (v : S52) : Prop := v.f2.size ≤ 1000000000 ∧ (Lit.int .i64 v.f1).wf = true
theorem placekey_ev (nm : S24) (l : List S54) (hb : l.length ≤ 9223372036854775807) : Ev (fun k => api_Column_f75.f k l [nm]) (scan (fun c => decide (c.f0 = nm.f2)) l 0) := by
  have h := down (P := fun i => Ev (fun k => api_Column_f75.l0 k [nm] l (l.length : Int) (i : Int)) (scan (fun c => decide (c.f0 = nm.f2)) (l.drop i) i)) (n := l.length)
    (by rw [List.drop_length]; exact Ev.step (f := fun _ => some (0, false)) (fun k => by simp only [api_Column_f75.l0]; rw [if_neg (by omega)]) (Ev.now _))
    (fun i hi ih => by
      rw [List.drop_eq_getElem_cons hi]
      refine Ev.step (f := fun k => if (decide (l[i].f0 = nm.f2)) = true then some ((i : Int), true) else api_Column_f75.l0 k [nm] l (l.length : Int) ((i + 1 : Nat) : Int)) (fun k => ?_) ?_
      · simp only [api_Column_f75.l0]
        rw [if_pos (by omega), if_pos (by omega), if_pos (by omega), rd_col l i hi, wrap_succ _ (by omega)]
        simp [schema_Key_1.f, rdOf, rd, rd_T24, ba_beq]
      · simp only [scan]
        split
        · exact Ev.now _
        · exact ih) 0 (Nat.zero_le _)
  simpa [api_Column_f75.f] using h
theorem key_ev (a0 : Int) (a1 : ByteArray) (a2 a3 : Int) (l : List S54) (hb : l.length ≤ 9223372036854775807) : Ev (fun k => schema_Key.f k a0 a1 a2 a3 l) (scan (fun c => decide (c.f0 = a2)) l 0) :=
  Ev.bind (placekey_ev ⟨a0, a1, a2, a3, l⟩ l hb) (Ev.now _)
/- piece refkey -/
theorem rkey_l0 (a0 : Int) (a1 : ByteArray) (a2 a3 : Int) (l : List S54) (hb : l.length ≤ 9223372036854775807) : Ev (fun k => haulageref08_Key.l0 k (0 : Int) a0 a1 a2 a3 l) (scanR (fun c => decide (c.f0 = a2)) l 0) := by
  have h := down (P := fun i => Ev (fun k => haulageref08_Key.l0 k (i : Int) a0 a1 a2 a3 l) (scanR (fun c => decide (c.f0 = a2)) (l.drop i) i)) (n := l.length)
    (by rw [List.drop_length]; exact Ev.step (f := fun _ => some (-1)) (fun k => by simp only [haulageref08_Key.l0]; rw [if_neg (by omega)]) (Ev.now _))
    (fun i hi ih => by
      rw [List.drop_eq_getElem_cons hi]
      refine Ev.step (f := fun k => if (decide (l[i].f0 = a2)) = true then some (i : Int) else haulageref08_Key.l0 k ((i + 1 : Nat) : Int) a0 a1 a2 a3 l) (fun k => ?_) ?_
      · simp only [haulageref08_Key.l0]
        rw [if_pos (by omega), if_pos (by omega), rd_col l i hi, wrap_succ _ (by omega)]
        simp only [ba_iff, decide_eq_true_eq]
      · simp only [scanR]
        split
        · exact Ev.now _
        · exact ih) 0 (Nat.zero_le _)
  exact h
theorem rkey_ev (a0 : Int) (a1 : ByteArray) (a2 a3 : Int) (l : List S54) (hb : l.length ≤ 9223372036854775807) : Ev (fun k => haulageref08_Key.f k a0 a1 a2 a3 l) (scanR (fun c => decide (c.f0 = a2)) l 0) := rkey_l0 a0 a1 a2 a3 l hb
/- piece row -/
def fewC (c : S54) : Bool := decide (c.f1.size ≤ 200) && decide (c.f4.f2.size ≤ 200)
def fewB (a1 : ByteArray) (l : List S54) : Bool := decide (l.length ≤ 20) && (decide (a1.size ≤ 200) && l.all fewC)
theorem few_ev (a0 : Int) (a1 : ByteArray) (a2 a3 : Int) (l : List S54) (hl : l.length ≤ 9223372036854775807) : Ev (fun k => haulagelaw08_Few.f k a0 a1 a2 a3 l) (fewB a1 l) := by
  have hs : ∀ s : ByteArray, haulagelaw08_short.f s = some (decide (s.size ≤ 200)) := fun s => by
    unfold haulagelaw08_short.f
    congr 1
    by_cases h : s.size ≤ 200
    · rw [decide_eq_true (show (s.size : Int) ≤ 200 by omega), decide_eq_true h]
    · rw [decide_eq_false (show ¬ (s.size : Int) ≤ 200 by omega), decide_eq_false h]
  have h := down (P := fun i => Ev (fun k => haulagelaw08_Few.l0 k (i : Int) a0 a1 a2 a3 l) ((l.drop i).all fewC)) (n := l.length)
    (by rw [List.drop_length]; exact Ev.step (f := fun _ => some true) (fun k => by simp only [haulagelaw08_Few.l0]; rw [if_neg (by omega)]) (Ev.now _))
    (fun i hi ih => by
      rw [List.drop_eq_getElem_cons hi, List.all_cons]
      refine Ev.step (f := fun k => if decide (l[i].f1.size ≤ 200) = true then (if decide (l[i].f4.f2.size ≤ 200) = true then haulagelaw08_Few.l0 k ((i + 1 : Nat) : Int) a0 a1 a2 a3 l else some false) else some false) (fun k => ?_) ?_
      · simp only [haulagelaw08_Few.l0]
        rw [if_pos (by omega), if_pos (by omega), rd_col l i hi, wrap_succ _ (by omega), hs, hs, Option.bind_some, Option.bind_some]
      · unfold fewC
        by_cases h1 : l[i].f1.size ≤ 200
        · by_cases h2 : l[i].f4.f2.size ≤ 200
          · simp only [h1, h2, decide_true, if_true, Bool.true_and]
            exact ih
          · simp only [h1, h2, decide_true, decide_false, if_true, Bool.false_eq_true, if_false, Bool.and_false, Bool.false_and]
            exact Ev.now _
        · simp only [h1, decide_false, Bool.false_eq_true, if_false, Bool.false_and]
          exact Ev.now _) 0 (Nat.zero_le _)
  unfold haulagelaw08_Few.f fewB
  by_cases h1 : l.length ≤ 20
  · refine Ev.congr (fun k => by rw [if_neg (by omega), hs, Option.bind_some]) ?_
    rw [decide_eq_true h1, Bool.true_and]
    by_cases h2 : a1.size ≤ 200
    · rw [decide_eq_true h2, Bool.true_and]
      exact Ev.step (fun k => by simp only [haulagelaw08_Few.j0]; rw [if_neg (by simp)]; rfl) h
    · rw [decide_eq_false h2, Bool.false_and]
      exact Ev.step (f := fun _ => some false) (fun k => by simp only [haulagelaw08_Few.j0]; rw [if_pos (by simp)]) (Ev.now _)
  · refine Ev.congr (fun k => by rw [if_pos (by omega)]) ?_
    rw [decide_eq_false h1, Bool.false_and]
    exact Ev.step (f := fun _ => some false) (fun k => by simp only [haulagelaw08_Few.j0]; rw [if_pos (by trivial)]) (Ev.now _)
theorem fewB_iff (a1 : ByteArray) (l : List S54) : fewB a1 l = true ↔ l.length ≤ 20 ∧ a1.size ≤ 200 ∧ ∀ c ∈ l, c.f1.size ≤ 200 ∧ c.f4.f2.size ≤ 200 := by
  simp [fewB, fewC, List.all_eq_true]
/- piece okfew -/
theorem okcol_of (c : S54) (h : Ok54 c) (h1 : c.f1.size ≤ 200) (h2 : c.f4.f2.size ≤ 200) : OkCol c := by
  unfold Ok54 Ok52 at h
  exact ⟨by omega, by omega, h.2.2.2.2.2.1⟩
theorem okcols_of (l : List S54) (a1 : ByteArray) (h : ∀ c ∈ l, Ok54 c) (hf : fewB a1 l = true) : ∀ c ∈ l, OkCol c := fun c hc => by
  have := ((fewB_iff a1 l).1 hf).2.2 c hc
  exact okcol_of c (h c hc) this.1 this.2
/- piece short0 -/
def sb (n : Nat) : List Int := if n < 128 then [(n : Int)] else (((n % 128 + 128 : Nat) : Int)) :: sb (n / 128)
termination_by n
decreasing_by omega
theorem sb_small {n : Nat} (h : n < 128) : sb n = [(n : Int)] := by rw [sb, if_pos h]
theorem sb_big {n : Nat} (h : ¬ n < 128) : sb n = (((n % 128 + 128 : Nat) : Int)) :: sb (n / 128) := by rw [sb, if_neg h]
theorem sb_len (m : Nat) : ∀ n, n < 128 ^ (m + 1) → (sb n).length ≤ m + 1 := by
  induction m with
  | zero => intro n h; rw [sb_small (by simpa using h)]; simp
  | succ m ih =>
    intro n h
    by_cases h1 : n < 128
    · rw [sb_small h1]; simp
    · rw [sb_big h1]
      have : n / 128 < 128 ^ (m + 1) := by
        rw [Nat.div_lt_iff_lt_mul (by decide)]
        rw [Nat.pow_succ] at h
        exact h
      have := ih _ this
      simp only [List.length_cons]
      omega
theorem sb_len10 {n : Nat} (h : n < 18446744073709551616) : (sb n).length ≤ 10 := sb_len 9 n (Nat.lt_of_lt_of_le h (by decide))
theorem sb_pos (n : Nat) : 0 < (sb n).length := by
  by_cases h : n < 128
  · rw [sb_small h]; simp
  · rw [sb_big h]; simp
theorem or128_fin : ∀ a : Fin 256, (a.val ||| 128) = a.val % 128 + 128 := by decide +kernel
theorem or128 (x : Int) (h : 0 ≤ x) : Go.bits .or .u8 (x % 256) 128 = x % 128 + 128 := by
  obtain ⟨n, rfl⟩ := Int.eq_ofNat_of_zero_le h
  have e : ((n : Int) % 256) = ((n % 256 : Nat) : Int) := by omega
  have := (Go.bits_nat .u8 8 (by decide) Go.wraps_u8 (n % 256) 128 (by omega) (by decide)).2
  rw [e]
  refine this.trans ?_
  have h2 := or128_fin ⟨n % 256, by omega⟩
  simp only at h2
  rw [h2]
  omega
theorem short_l1 (l : List Int) (len i : Int) (r : ByteArray) (n : Nat) : ∀ acc : List Int, acc.length + (sb n).length ≤ 140737488355328 →
    Ev (fun k => word_Short.l0 k (acc ++ sb n) l len (wrap64 (i + 1))) r → Ev (fun k => word_Short.l1 k acc (n : Int) l len i) r := by
  induction n using Nat.strongRecOn with
  | _ n ih =>
    intro acc hb hk
    by_cases h : n < 128
    · rw [sb_small h] at hb hk
      simp only [List.length_cons, List.length_nil] at hb
      refine Ev.step (f := fun k => word_Short.l0 k (acc ++ [(n : Int)]) l len (wrap64 (i + 1))) (fun k => ?_) hk
      simp only [word_Short.l1]
      rw [if_neg (by omega), if_pos (by omega), show ((n : Int) % 256) = n by omega]
    · rw [sb_big h] at hb hk
      simp only [List.length_cons] at hb
      refine Ev.step (f := fun k => word_Short.l1 k (acc ++ [((n % 128 + 128 : Nat) : Int)]) ((n / 128 : Nat) : Int) l len i) (fun k => ?_) (ih (n / 128) (by omega) _ (by simp only [List.length_append, List.length_cons, List.length_nil]; omega) ?_)
      · simp only [word_Short.l1]
        rw [if_pos (by omega), if_pos (by omega), or128 _ (by omega), show ((n : Int) % 128 + 128) = ((n % 128 + 128 : Nat) : Int) by omega, show ((n : Int) / 128) = ((n / 128 : Nat) : Int) by omega]
      · rw [List.append_assoc]; exact hk
def sbs (l : List Int) : List Int := l.flatMap fun x => sb x.toNat
theorem sbs_cons (x : Int) (l : List Int) : sbs (x :: l) = sb x.toNat ++ sbs l := by simp [sbs]
theorem rd_at (l : List Int) (i : Nat) (h : i < l.length) : rd l (i : Int) = l[i] := by
  simp [rd, h]
theorem short_l0 (l : List Int) (hl : l.length ≤ 1000000000000) (hr : ∀ x ∈ l, 0 ≤ x ∧ x < 18446744073709551616) (d : Nat) : ∀ (i : Nat) (acc : List Int), l.length = i + d → acc.length ≤ 10 * i →
    Ev (fun k => word_Short.l0 k acc l (l.length : Int) (i : Int)) (strOfNums (acc ++ sbs (l.drop i))) := by
  induction d with
  | zero =>
    intro i acc hi ha
    refine Ev.step (f := fun _ => some (strOfNums acc)) (fun k => ?_) ?_
    · simp only [word_Short.l0]
      rw [if_neg (by omega)]
    · rw [show l.drop i = [] from List.drop_eq_nil_of_le (by omega)]
      simpa [sbs] using Ev.now (strOfNums acc)
  | succ d ih =>
    intro i acc hi ha
    have hlt : i < l.length := by omega
    have hx := hr l[i] (List.getElem_mem hlt)
    have h10 := sb_len10 (n := l[i].toNat) (by omega)
    refine Ev.step (f := fun k => word_Short.l1 k acc ((l[i].toNat : Nat) : Int) l (l.length : Int) (i : Int)) (fun k => ?_) ?_
    · simp only [word_Short.l0]
      rw [if_pos (by omega), if_pos (by omega), if_pos (by omega), rd_at l i hlt, show ((l[i].toNat : Nat) : Int) = l[i] by omega]
    · refine short_l1 l _ _ _ _ _ (by omega) ?_
      have := ih (i + 1) (acc ++ sb l[i].toNat) (by omega) (by simp only [List.length_append]; omega)
      rw [show l.drop i = l[i] :: l.drop (i + 1) from List.drop_eq_getElem_cons hlt, sbs_cons, ← List.append_assoc]
      rw [show wrap64 ((i : Int) + 1) = ((i + 1 : Nat) : Int) by unfold wrap64; omega]
      exact this
theorem word_Short_ev (l : List Int) (hl : l.length ≤ 1000000000000) (hr : ∀ x ∈ l, 0 ≤ x ∧ x < 18446744073709551616) :
    Ev (fun k => word_Short.f k l) (strOfNums (sbs l)) := by
  have := short_l0 l hl hr l.length 0 [] (by omega) (by simp)
  simpa [word_Short.f] using this
/- piece refword -/
theorem refOne_ev (n : Nat) : n < 18446744073709551616 → Ev (fun k => haulageref01_One.f k (n : Int)) (strOfNums (sb n)) := by
  induction n using Nat.strongRecOn with
  | _ n ih =>
    intro hn
    by_cases h : n < 128
    · rw [sb_small h]
      refine Ev.step (f := fun _ => some (strOfNums [(n : Int)])) (fun k => ?_) (Ev.now _)
      simp only [haulageref01_One.f]
      rw [if_pos (by omega), show ((n : Int) % 256) = n by omega]
    · rw [sb_big h]
      refine Ev.step (f := fun k => (haulageref01_One.f k ((n / 128 : Nat) : Int)).bind fun t => if (strOfNums [((n % 128 + 128 : Nat) : Int)]).size + t.size ≤ 9223372036854775807 then some (strOfNums [((n % 128 + 128 : Nat) : Int)] ++ t) else none) (fun k => ?_) ?_
      · simp only [haulageref01_One.f, Option.bind_some]
        rw [if_neg (by omega), tmod_nonneg_eq _ _ (by omega), tdiv_nonneg_eq _ _ (by omega), u64_id _ (by omega) (by omega), u64_id _ (by omega) (by omega),
          show (((n : Int) % 128 + 128) % 256) = ((n % 128 + 128 : Nat) : Int) by omega, show ((n : Int) / 128) = ((n / 128 : Nat) : Int) by omega]
      · refine Ev.bind (ih (n / 128) (by omega) (by omega)) ?_
        have := sb_len10 (n := n / 128) (by omega)
        rw [if_pos (by rw [strOfNums_size, strOfNums_size]; simp only [List.length_cons, List.length_nil]; omega)]
        rw [← strOfNums_append]
        exact Ev.now _
/- piece zig0 -/
def zigS (n : Int) : Int := if 0 ≤ n then 2 * n else -2 * n - 1
def zagS (u : Int) : Int := if u % 2 = 0 then u / 2 else -1 - u / 2
theorem xor_u64 (x y : Int) : Go.bits .xor .u64 x y = ((BitVec.ofInt 64 x ^^^ BitVec.ofInt 64 y).toNat : Int) % 18446744073709551616 := u64_eq _
theorem xor_i64 (x y : Int) : Go.bits .xor .i64 x y = wrap64 ((BitVec.ofInt 64 x ^^^ BitVec.ofInt 64 y).toNat : Int) := i64_eq _
theorem xor_u64_zero (x : Int) (h0 : 0 ≤ x) (h1 : x < 18446744073709551616) : Go.bits .xor .u64 x 0 = x := by
  rw [xor_u64, show (BitVec.ofInt 64 0) = 0#64 by rfl, BitVec.xor_zero, BitVec.toNat_ofInt]
  omega
theorem xor_u64_ones (x : Int) (h0 : 0 ≤ x) (h1 : x < 18446744073709551616) : Go.bits .xor .u64 x 18446744073709551615 = 18446744073709551615 - x := by
  rw [xor_u64, show (BitVec.ofInt 64 18446744073709551615) = BitVec.allOnes 64 by decide, BitVec.xor_allOnes, BitVec.toNat_not, BitVec.toNat_ofInt]
  omega
theorem xor_i64_zero (x : Int) (h0 : 0 ≤ x) (h1 : x < 9223372036854775808) : Go.bits .xor .i64 x 0 = x := by
  rw [xor_i64, show (BitVec.ofInt 64 0) = 0#64 by rfl, BitVec.xor_zero, BitVec.toNat_ofInt]
  unfold wrap64
  omega
theorem xor_i64_ones (x : Int) (h0 : 0 ≤ x) (h1 : x < 9223372036854775808) : Go.bits .xor .i64 x (-1) = -1 - x := by
  rw [xor_i64, show (BitVec.ofInt 64 (-1)) = BitVec.allOnes 64 by decide, BitVec.xor_allOnes, BitVec.toNat_not, BitVec.toNat_ofInt]
  unfold wrap64
  omega
theorem and_u64_one (x : Int) (h0 : 0 ≤ x) (h1 : x < 18446744073709551616) : Go.bits .and .u64 x 1 = x % 2 := by
  have := Go.bits_mask .u64 64 (by decide) (fun n h0 h1 => by rw [u64_eq]; omega) 1 (by decide) x h0 (by omega)
  simpa using this
theorem word_Zig_eq (n : Int) (h0 : -9223372036854775808 ≤ n) (h1 : n ≤ 9223372036854775807) : word_Zig.f n = some (zigS n) := by
  unfold word_Zig.f zigS
  simp only [u64_eq]
  by_cases h : 0 ≤ n
  · rw [if_pos h, show n / 9223372036854775808 % 18446744073709551616 = 0 by omega, xor_u64_zero _ (by omega) (by omega)]
    congr 1
    omega
  · rw [if_neg h, show n / 9223372036854775808 % 18446744073709551616 = 18446744073709551615 by omega, xor_u64_ones _ (by omega) (by omega)]
    congr 1
    omega
theorem zigS_range (n : Int) (h0 : -9223372036854775808 ≤ n) (h1 : n ≤ 9223372036854775807) : 0 ≤ zigS n ∧ zigS n ≤ 18446744073709551615 := by unfold zigS; split <;> omega
theorem zagS_range (u : Int) (h0 : 0 ≤ u) (h1 : u ≤ 18446744073709551615) : -9223372036854775808 ≤ zagS u ∧ zagS u ≤ 9223372036854775807 := by unfold zagS; split <;> omega
theorem zag_zig (n : Int) : zagS (zigS n) = n := by unfold zagS zigS; split <;> split <;> omega
theorem refZig_eq (n : Int) (h0 : -9223372036854775808 ≤ n) (h1 : n ≤ 9223372036854775807) : haulageref01_Zig.f n = some (zigS n) := by
  unfold haulageref01_Zig.f zigS
  simp only [u64_eq]
  by_cases h : 0 ≤ n
  · rw [if_pos (show n ≥ 0 from h), if_pos h]
    congr 1
    omega
  · rw [if_neg (show ¬ n ≥ 0 from h), if_neg h, show wrap64 ((-1) - n) = -1 - n by unfold wrap64; omega]
    congr 1
    omega
/- piece zag0 -/
theorem word_Zag_eq (u : Int) (h0 : 0 ≤ u) (h1 : u ≤ 18446744073709551615) : word_Zag.f u = some (zagS u) := by
  unfold word_Zag.f zagS
  rw [and_u64_one u h0 (by omega), show wrap64 (u / 2) = u / 2 by unfold wrap64; omega]
  by_cases h : u % 2 = 0
  · rw [if_pos h, h, show wrap64 (-(wrap64 0)) = 0 by decide +kernel, xor_i64_zero _ (by omega) (by omega)]
  · rw [if_neg h, show u % 2 = 1 by omega, show wrap64 (-(wrap64 1)) = -1 by decide +kernel, xor_i64_ones _ (by omega) (by omega)]
/- piece refzag0 -/
theorem refZag_eq (u : Int) (h0 : 0 ≤ u) (h1 : u ≤ 18446744073709551615) : haulageref01_Zag.f u = some (zagS u) := by
  unfold haulageref01_Zag.f zagS
  simp only [u64_eq, tmod_nonneg_eq _ _ h0, tdiv_nonneg_eq _ _ h0]
  rw [show u / 2 % 18446744073709551616 = u / 2 by omega, show wrap64 (u / 2) = u / 2 by unfold wrap64; omega]
  by_cases h : u % 2 = 0
  · rw [if_pos h, if_pos h]
  · rw [if_neg h, if_neg h, show wrap64 ((-1) - u / 2) = -1 - u / 2 by unfold wrap64; omega]
/- piece long2 -/
theorem btr (s : ByteArray) (i : Int) : 0 ≤ bt s i ∧ bt s i ≤ 255 := by
  unfold bt
  split
  · rename_i h
    have := (s[i.toNat]'h).toNat_lt
    omega
  · omega
def val (s : ByteArray) : Nat → Int
  | 0 => 0
  | i + 1 => val s i + bt s (i : Int) % 128 * 128 ^ i
theorem p128_pos (i : Nat) : (0 : Int) < 128 ^ i := Int.pow_pos (by decide)
theorem val_range (s : ByteArray) (i : Nat) : 0 ≤ val s i ∧ val s i < 128 ^ i := by
  induction i with
  | zero => simp [val]
  | succ i ih =>
    have hp := p128_pos i
    have h1 : 0 ≤ bt s (i : Int) % 128 := by omega
    have h2 : bt s (i : Int) % 128 ≤ 127 := by omega
    have h3 : 0 ≤ bt s (i : Int) % 128 * 128 ^ i := Int.mul_nonneg h1 (Int.le_of_lt hp)
    have h4 : bt s (i : Int) % 128 * 128 ^ i ≤ 127 * 128 ^ i := Int.mul_le_mul_of_nonneg_right h2 (Int.le_of_lt hp)
    simp only [val, Int.pow_succ]
    omega
def ends (s : ByteArray) (i : Nat) : Int × Int :=
  if _h : i < s.size ∧ i < 10 then
    if bt s (i : Int) < 128 then (if (0 < i ∧ bt s (i : Int) = 0) ∨ (i = 9 ∧ 1 < bt s (i : Int)) then (0, 5) else (((i + 1 : Nat) : Int), 0)) else ends s (i + 1)
  else if s.size < 10 then (0, 4) else (0, 5)
termination_by 10 - i
decreasing_by omega
theorem ends_stop {s : ByteArray} {i : Nat} (h : ¬ (i < s.size ∧ i < 10)) : ends s i = if s.size < 10 then (0, 4) else (0, 5) := by rw [ends, dif_neg h]
theorem ends_more {s : ByteArray} {i : Nat} (h : i < s.size ∧ i < 10) (hc : ¬ bt s (i : Int) < 128) : ends s i = ends s (i + 1) := by rw [ends, dif_pos h, if_neg hc]
theorem ends_last {s : ByteArray} {i : Nat} (h : i < s.size ∧ i < 10) (hc : bt s (i : Int) < 128) : ends s i = if (0 < i ∧ bt s (i : Int) = 0) ∨ (i = 9 ∧ 1 < bt s (i : Int)) then (0, 5) else (((i + 1 : Nat) : Int), 0) := by rw [ends, dif_pos h, if_pos hc]
theorem ends_ok (s : ByteArray) (d : Nat) : ∀ i, i + d = 10 → (ends s i).2 = 0 → ∃ m : Nat, (ends s i).1 = ((m + 1 : Nat) : Int) ∧ i ≤ m ∧ m < 10 ∧ m < s.size ∧ bt s (m : Int) < 128 ∧ (0 < m → bt s (m : Int) ≠ 0) ∧ (m = 9 → bt s (m : Int) ≤ 1) ∧ ∀ j : Nat, i ≤ j → j < m → 128 ≤ bt s (j : Int) := by
  induction d with
  | zero =>
    intro i hi h
    rw [ends_stop (by omega)] at h
    split at h <;> simp at h
  | succ d ih =>
    intro i hi h
    by_cases h1 : i < s.size ∧ i < 10
    · by_cases hc : bt s (i : Int) < 128
      · rw [ends_last h1 hc] at h ⊢
        split at h
        · simp at h
        · rename_i hn
          rw [if_neg hn]
          exact ⟨i, rfl, Nat.le_refl _, h1.2, h1.1, hc, fun h0 h2 => hn (.inl ⟨h0, h2⟩), fun h9 => by
            by_cases h : 1 < bt s (i : Int)
            · exact absurd (.inr ⟨h9, h⟩) hn
            · omega, fun j hj hj' => by omega⟩
      · rw [ends_more h1 hc] at h ⊢
        obtain ⟨m, e, h2, h3, h4, h5, h6, h7, h8⟩ := ih (i + 1) (by omega) h
        exact ⟨m, e, by omega, h3, h4, h5, h6, h7, fun j hj hj' => by
          by_cases e : j = i
          · subst e; omega
          · exact h8 j (by omega) hj'⟩
    · rw [ends_stop h1] at h
      split at h <;> simp at h
def longS (s : ByteArray) : Int × Int × Int := if (ends s 0).2 = 0 then (val s (ends s 0).1.toNat, (ends s 0).1, 0) else (0, 0, (ends s 0).2)
theorem val_lt (s : ByteArray) (m : Nat) (h : m < 10) (h9 : m = 9 → bt s (m : Int) ≤ 1) (hc : bt s (m : Int) < 128) : 0 ≤ val s (m + 1) ∧ val s (m + 1) < 18446744073709551616 := by
  refine ⟨(val_range s (m + 1)).1, ?_⟩
  by_cases e : m = 9
  · subst e
    have h1 := val_range s 9
    have h2 := h9 rfl
    have h3 := btr s ((9 : Nat) : Int)
    simp only [val] at h1 ⊢
    have : (128 : Int) ^ 9 = 9223372036854775808 := by decide
    simp only [this] at h1 ⊢
    omega
  · have h1 := (val_range s (m + 1)).2
    have h2 : (128 : Int) ^ (m + 1) ≤ 128 ^ 9 := by
      have : (128 : Nat) ^ (m + 1) ≤ 128 ^ 9 := Nat.pow_le_pow_right (by decide) (by omega)
      exact_mod_cast this
    have : (128 : Int) ^ 9 = 9223372036854775808 := by decide
    omega
theorem longS_ok (s : ByteArray) (h : (longS s).2.2 = 0) : ∃ m : Nat, longS s = (val s (m + 1), ((m + 1 : Nat) : Int), 0) ∧ m < 10 ∧ m < s.size ∧ 0 ≤ val s (m + 1) ∧ val s (m + 1) < 18446744073709551616 ∧ bt s (m : Int) < 128 ∧ (0 < m → bt s (m : Int) ≠ 0) ∧ (∀ j : Nat, j < m → 128 ≤ bt s (j : Int)) := by
  unfold longS at h ⊢
  by_cases e : (ends s 0).2 = 0
  · obtain ⟨m, e1, _, h3, h4, h5, h6, h7, h8⟩ := ends_ok s 10 0 rfl e
    have hv := val_lt s m h3 h7 h5
    rw [if_pos e, e1]
    exact ⟨m, by simp, h3, h4, hv.1, hv.2, h5, h6, fun j hj => h8 j (Nat.zero_le _) hj⟩
  · rw [if_neg e] at h
    exact absurd h e
theorem or_comm_u64 (x y : Int) : Go.bits .or .u64 x y = Go.bits .or .u64 y x := by
  unfold Go.bits
  simp only
  rw [BitVec.or_comm]
theorem wraps_u64 (n : Int) (h0 : 0 ≤ n) (h1 : n < 2 ^ 64) : IntKind.u64.wrap n = n := by
  simp only [IntKind.wrap, IntKind.bits, IntKind.signed]
  simp
  omega
theorem p128 (i : Nat) : (128 : Int) ^ i = 2 ^ (7 * i) := by
  rw [show (128 : Int) = 2 ^ 7 by decide, ← Int.pow_mul]
theorem or_shl (a c : Int) (i : Nat) (hi : i ≤ 9) (ha0 : 0 ≤ a) (ha : a < 128 ^ i) (hc0 : 0 ≤ c) (hc1 : c ≤ 255) (hcc : c % 128 * 128 ^ i < 18446744073709551616) :
    Go.bits .or .u64 a (shl .u64 (IntKind.u64.wrap (Go.bits .and .u8 c 127)) (wrap64 (7 * (i : Int)))) = a + c % 128 * 128 ^ i := by
  have hm : Go.bits .and .u8 c 127 = c % 128 := Go.bits_mask .u8 8 (by decide) Go.wraps_u8 7 (by decide) c hc0 (by omega)
  have hp := p128_pos i
  have h1 : 0 ≤ c % 128 := by omega
  have h3 : 0 ≤ c % 128 * 128 ^ i := Int.mul_nonneg h1 (Int.le_of_lt hp)
  have e64 : (2 : Int) ^ 64 = 18446744073709551616 := by decide
  have hw : wrap64 (7 * (i : Int)) = ((7 * i : Nat) : Int) := by unfold wrap64; omega
  have hs : shl .u64 (IntKind.u64.wrap (Go.bits .and .u8 c 127)) (wrap64 (7 * (i : Int))) = c % 128 * 128 ^ i := by
    unfold shl
    rw [hm, hw, wraps_u64 (c % 128) h1 (by omega)]
    have : min (((7 * i : Nat) : Int)).toNat (IntKind.bits .u64) = 7 * i := by simp [IntKind.bits]; omega
    rw [this, ← p128]
    exact wraps_u64 _ h3 (by omega)
  rw [hs, or_comm_u64]
  have hlt : a < 18446744073709551616 := by
    have h2 : (128 : Int) ^ i ≤ 128 ^ 9 := by
      have : (128 : Nat) ^ i ≤ 128 ^ 9 := Nat.pow_le_pow_right (by decide) hi
      exact_mod_cast this
    have : (128 : Int) ^ 9 = 9223372036854775808 := by decide
    omega
  rw [Go.bits_join .u64 64 (by decide) wraps_u64 (7 * i) (c % 128 * 128 ^ i) a h3 (by rw [p128]; exact Int.mul_emod_left _ _) (by omega) ha0 (by rw [← p128]; exact ha) (by omega)]
  omega
theorem long_stop (s : ByteArray) (a : Int) (i : Nat) (b : Bool) (hb : b = decide ((i : Int) < 10)) (h : ¬ (i < s.size ∧ i < 10)) :
    Ev (fun k => word_Long.l0 k s a (i : Int)) (0, 0, if s.size < 10 then 4 else 5) := by
  refine Ev.step (f := fun k => word_Long.j1 k s a (i : Int) false) (fun k => ?_) (Ev.step (f := fun _ => some (0, 0, if s.size < 10 then 4 else 5)) (fun k => ?_) (Ev.now _))
  · simp only [word_Long.l0]
    by_cases h1 : i < s.size
    · rw [if_pos (by omega), show decide ((i : Int) < 10) = false by simp; omega]
    · rw [if_neg (by omega)]
  · simp only [word_Long.j1]
    rw [if_neg (by decide)]
    by_cases h1 : s.size < 10
    · rw [if_pos (by omega), if_pos h1]
    · rw [if_neg (by omega), if_neg h1]
theorem long_l0 (s : ByteArray) (d : Nat) : ∀ i, i + d = 10 → ∀ a, (i ≤ 9 → a = val s i) →
    Ev (fun k => word_Long.l0 k s a (i : Int)) (if (ends s i).2 = 0 then (val s (ends s i).1.toNat, (ends s i).1, 0) else (0, 0, (ends s i).2)) := by
  induction d with
  | zero =>
    intro i hi a ha
    have := long_stop s a i _ rfl (by omega)
    rw [ends_stop (by omega)]
    by_cases h1 : s.size < 10
    · simpa [h1] using this
    · simpa [h1] using this
  | succ d ih =>
    intro i hi a ha
    by_cases h : i < s.size ∧ i < 10
    · have ha' := ha (by omega)
      have hb := btr s (i : Int)
      have hv := val_range s i
      have hw : wrap64 (7 * (i : Int)) = 7 * (i : Int) := by unfold wrap64; omega
      have hw1 : wrap64 ((i : Int) + 1) = ((i + 1 : Nat) : Int) := by unfold wrap64; omega
      by_cases hc : bt s (i : Int) < 128
      · -- the last one
        have hj2 : ∀ (x : Int) (b : Bool), Ev (fun k => word_Long.j2 k x (i : Int) b) (if b = true then (0, 0, 5) else (x, ((i + 1 : Nat) : Int), 0)) := fun x b => by
          cases b
          · exact Ev.step (f := fun _ => some (x, ((i + 1 : Nat) : Int), 0)) (fun k => by simp only [word_Long.j2]; rw [if_neg (by simp), hw1]) (Ev.now _)
          · exact Ev.step (f := fun _ => some (0, 0, 5)) (fun k => by simp only [word_Long.j2]; rw [if_pos (by trivial)]) (Ev.now _)
        refine Ev.step (f := fun k => word_Long.j1 k s a (i : Int) true) (fun k => ?_) ?_
        · simp only [word_Long.l0]
          rw [if_pos (by omega), show decide ((i : Int) < 10) = true by simp; omega]
        rw [ends_last h hc]
        by_cases hbad : (0 < i ∧ bt s (i : Int) = 0) ∨ (i = 9 ∧ 1 < bt s (i : Int))
        · rw [if_pos hbad]
          refine Ev.eq (Ev.step (f := fun k => word_Long.j2 k (Go.bits .or .u64 a (shl .u64 (IntKind.u64.wrap (Go.bits .and .u8 (bt s (i : Int)) 127)) (wrap64 (7 * (i : Int))))) (i : Int) true) (fun k => ?_) (hj2 _ true)) (by simp)
          simp only [word_Long.j1]
          rw [if_pos (by trivial), if_pos (by omega), if_pos (by omega), if_pos (by rw [hw]; omega), if_neg (by omega)]
          rcases hbad with ⟨h0, h1⟩ | ⟨h0, h1⟩
          · rw [if_pos (by omega), if_pos h1]
          · rw [if_pos (by omega), if_neg (by omega), if_pos (by omega), decide_eq_true (by omega)]
        · rw [if_neg hbad]
          have hval : Go.bits .or .u64 a (shl .u64 (IntKind.u64.wrap (Go.bits .and .u8 (bt s (i : Int)) 127)) (wrap64 (7 * (i : Int)))) = val s (((i + 1 : Nat) : Int)).toNat := by
            have hlt := val_lt s i (by omega) (fun e => by
              by_cases h : 1 < bt s (i : Int)
              · exact absurd (.inr ⟨e, h⟩) hbad
              · omega) hc
            have : (((i + 1 : Nat) : Int)).toNat = i + 1 := by omega
            rw [this]
            simp only [val] at hlt ⊢
            rw [or_shl a _ i (by omega) (by omega) (by omega) hb.1 hb.2 (by omega), ha']
          refine Ev.eq (Ev.step (f := fun k => word_Long.j2 k (Go.bits .or .u64 a (shl .u64 (IntKind.u64.wrap (Go.bits .and .u8 (bt s (i : Int)) 127)) (wrap64 (7 * (i : Int))))) (i : Int) false) (fun k => ?_) (hj2 _ false)) ?_
          · simp only [word_Long.j1]
            rw [if_pos (by trivial), if_pos (by omega), if_pos (by omega), if_pos (by rw [hw]; omega), if_neg (by omega)]
            by_cases h0 : i = 0
            · rw [if_neg (by omega), if_neg (by omega)]
            · have hn0 : ¬ bt s (i : Int) = 0 := fun e => hbad (.inl ⟨by omega, e⟩)
              rw [if_pos (by omega), if_neg hn0]
              by_cases h9 : i = 9
              · have hn9 : ¬ bt s (i : Int) > 1 := fun e => hbad (.inr ⟨h9, e⟩)
                rw [if_pos (by omega), decide_eq_false hn9]
              · rw [if_neg (by omega)]
          · rw [if_neg (by simp), if_pos rfl, hval]
      · -- one more
        rw [ends_more h hc]
        refine Ev.step (f := fun k => word_Long.j1 k s a (i : Int) true) (fun k => ?_) (Ev.step (f := fun k => word_Long.l0 k s (Go.bits .or .u64 a (shl .u64 (IntKind.u64.wrap (Go.bits .and .u8 (bt s (i : Int)) 127)) (wrap64 (7 * (i : Int))))) ((i + 1 : Nat) : Int)) (fun k => ?_) (ih (i + 1) (by omega) _ (fun h9 => ?_)))
        · simp only [word_Long.l0]
          rw [if_pos (by omega), show decide ((i : Int) < 10) = true by simp; omega]
        · simp only [word_Long.j1]
          rw [if_pos (by trivial), if_pos (by omega), if_pos (by omega), if_pos (by rw [hw]; omega), if_pos (by omega), hw1]
        · have h2 := (val_range s (i + 1)).2
          have h3 : (128 : Int) ^ (i + 1) ≤ 128 ^ 9 := by
            have : (128 : Nat) ^ (i + 1) ≤ 128 ^ 9 := Nat.pow_le_pow_right (by decide) (by omega)
            exact_mod_cast this
          have : (128 : Int) ^ 9 = 9223372036854775808 := by decide
          simp only [val] at h2 ⊢
          rw [or_shl a _ i (by omega) (by omega) (by omega) hb.1 hb.2 (by omega), ha']
    · have := long_stop s a i _ rfl h
      rw [ends_stop h]
      by_cases h1 : s.size < 10
      · simpa [h1] using this
      · simpa [h1] using this
theorem word_Long_ev (s : ByteArray) : Ev (fun k => word_Long.f k s) (longS s) := by
  have := long_l0 s 10 0 rfl 0 (fun _ => rfl)
  simpa [word_Long.f, longS] using this
/- piece reflong2 -/
theorem refEnds_stop (s : ByteArray) (i : Nat) (h : ¬ (i < s.size ∧ i < 10)) :
    Ev (fun k => haulageref01_Ends.l0 k s (i : Int)) (0, if s.size < 10 then 4 else 5) := by
  refine Ev.step (f := fun k => haulageref01_Ends.j1 k s (i : Int) false) (fun k => ?_) (Ev.step (f := fun _ => some (0, if s.size < 10 then 4 else 5)) (fun k => ?_) (Ev.now _))
  · simp only [haulageref01_Ends.l0]
    by_cases h1 : i < s.size
    · rw [if_pos (by omega), show decide ((i : Int) < 10) = false by simp; omega]
    · rw [if_neg (by omega)]
  · simp only [haulageref01_Ends.j1]
    rw [if_neg (by decide)]
    by_cases h1 : s.size < 10
    · rw [if_pos (by omega), if_pos h1]
    · rw [if_neg (by omega), if_neg h1]
theorem refEnds_l0 (s : ByteArray) (d : Nat) : ∀ i, i + d = 10 → Ev (fun k => haulageref01_Ends.l0 k s (i : Int)) (ends s i) := by
  induction d with
  | zero =>
    intro i hi
    have := refEnds_stop s i (by omega)
    rw [ends_stop (by omega)]
    by_cases h1 : s.size < 10
    · simpa [h1] using this
    · simpa [h1] using this
  | succ d ih =>
    intro i hi
    by_cases h : i < s.size ∧ i < 10
    · have hb := btr s (i : Int)
      have hw1 : wrap64 ((i : Int) + 1) = ((i + 1 : Nat) : Int) := by unfold wrap64; omega
      by_cases hc : bt s (i : Int) < 128
      · have hj2 : ∀ (b : Bool), Ev (fun k => haulageref01_Ends.j2 k (i : Int) b) (if b = true then (0, 5) else (((i + 1 : Nat) : Int), 0)) := fun b => by
          cases b
          · exact Ev.step (f := fun _ => some (((i + 1 : Nat) : Int), 0)) (fun k => by simp only [haulageref01_Ends.j2]; rw [if_neg (by simp), hw1]) (Ev.now _)
          · exact Ev.step (f := fun _ => some (0, 5)) (fun k => by simp only [haulageref01_Ends.j2]; rw [if_pos (by trivial)]) (Ev.now _)
        refine Ev.step (f := fun k => haulageref01_Ends.j1 k s (i : Int) true) (fun k => ?_) ?_
        · simp only [haulageref01_Ends.l0]
          rw [if_pos (by omega), show decide ((i : Int) < 10) = true by simp; omega]
        rw [ends_last h hc]
        by_cases hbad : (0 < i ∧ bt s (i : Int) = 0) ∨ (i = 9 ∧ 1 < bt s (i : Int))
        · rw [if_pos hbad]
          refine Ev.step (f := fun k => haulageref01_Ends.j2 k (i : Int) true) (fun k => ?_) (hj2 true)
          simp only [haulageref01_Ends.j1]
          rw [if_pos (by trivial), if_pos (by omega), if_pos (by omega), if_pos hc]
          rcases hbad with ⟨h0, h1⟩ | ⟨h0, h1⟩
          · rw [if_pos (by omega), if_pos h1]
          · rw [if_pos (by omega), if_neg (by omega), if_pos (by omega), decide_eq_true (by omega)]
        · rw [if_neg hbad]
          refine Ev.step (f := fun k => haulageref01_Ends.j2 k (i : Int) false) (fun k => ?_) (hj2 false)
          simp only [haulageref01_Ends.j1]
          rw [if_pos (by trivial), if_pos (by omega), if_pos (by omega), if_pos hc]
          by_cases h0 : i = 0
          · rw [if_neg (by omega), if_neg (by omega)]
          · have hn0 : ¬ bt s (i : Int) = 0 := fun e => hbad (.inl ⟨by omega, e⟩)
            rw [if_pos (by omega), if_neg hn0]
            by_cases h9 : i = 9
            · have hn9 : ¬ bt s (i : Int) > 1 := fun e => hbad (.inr ⟨h9, e⟩)
              rw [if_pos (by omega), decide_eq_false hn9]
            · rw [if_neg (by omega)]
      · rw [ends_more h hc]
        refine Ev.step (f := fun k => haulageref01_Ends.j1 k s (i : Int) true) (fun k => ?_) (Ev.step (f := fun k => haulageref01_Ends.l0 k s ((i + 1 : Nat) : Int)) (fun k => ?_) (ih (i + 1) (by omega)))
        · simp only [haulageref01_Ends.l0]
          rw [if_pos (by omega), show decide ((i : Int) < 10) = true by simp; omega]
        · simp only [haulageref01_Ends.j1]
          rw [if_pos (by trivial), if_pos (by omega), if_pos (by omega), if_neg hc, hw1]
    · have := refEnds_stop s i h
      rw [ends_stop h]
      by_cases h1 : s.size < 10
      · simpa [h1] using this
      · simpa [h1] using this
theorem refLong_l0 (s : ByteArray) (size : Int) (V : Int) (hV : V < 18446744073709551616) (i : Nat) : i ≤ s.size → i ≤ 10 → ∀ n : Int, 0 ≤ n → val s i + n * 128 ^ i = V →
    Ev (fun k => haulageref01_Long.l0 k s size n ((i : Int) - 1)) (V, size, 0) := by
  induction i with
  | zero =>
    intro _ _ n hn h
    refine Ev.step (f := fun _ => some (V, size, 0)) (fun k => ?_) (Ev.now _)
    simp only [haulageref01_Long.l0]
    simp only [val] at h
    rw [if_neg (by omega), show n = V by omega]
  | succ i ih =>
    intro hs h10 n hn h
    have hb := btr s (i : Int)
    have hp := p128_pos i
    have e1 : (((i + 1 : Nat) : Int) - 1) = (i : Int) := by omega
    rw [e1]
    have h1 : 0 ≤ bt s (i : Int) % 128 := by omega
    have hn' : val s i + (n * 128 + bt s (i : Int) % 128) * 128 ^ i = V := by
      rw [← h]
      simp only [val, Int.pow_succ, Int.add_mul, Int.mul_assoc]
      rw [Int.mul_comm 128 (128 ^ i)]
      omega
    have hle : (n * 128 + bt s (i : Int) % 128) ≤ (n * 128 + bt s (i : Int) % 128) * 128 ^ i := by
      have : (n * 128 + bt s (i : Int) % 128) * 1 ≤ (n * 128 + bt s (i : Int) % 128) * 128 ^ i := Int.mul_le_mul_of_nonneg_left (by omega) (by omega)
      omega
    have hv := val_range s i
    refine Ev.step (f := fun k => haulageref01_Long.l0 k s size (n * 128 + bt s (i : Int) % 128) ((i : Int) - 1)) (fun k => ?_) (ih (by omega) (by omega) _ (by omega) hn')
    simp only [haulageref01_Long.l0]
    rw [if_pos (by omega), if_pos (by omega), if_pos (by omega), tmod_nonneg_eq _ _ (by omega), u64_id (n * 128) (by omega) (by omega), u64_id (bt s (i : Int) % 128) (by omega) (by omega), u64_id (n * 128 + bt s (i : Int) % 128) (by omega) (by omega),
      show wrap64 ((i : Int) - 1) = (i : Int) - 1 by unfold wrap64; omega]
theorem refLong_ev (s : ByteArray) : Ev (fun k => haulageref01_Long.f k s) (longS s) := by
  unfold haulageref01_Long.f
  have he : Ev (fun k => haulageref01_Ends.f k s) (ends s 0) := by simpa [haulageref01_Ends.f] using refEnds_l0 s 10 0 rfl
  refine Ev.bind he ?_
  unfold longS
  by_cases e : (ends s 0).2 = 0
  · obtain ⟨m, e1, _, h3, h4, h5, h6, h7, h8⟩ := ends_ok s 10 0 rfl e
    have hv := val_lt s m h3 h7 h5
    have := refLong_l0 s (ends s 0).1 (val s (m + 1)) hv.2 (m + 1) (by omega) (by omega) 0 (by omega) (by omega)
    rw [if_pos e]
    refine Ev.congr (f := fun k => haulageref01_Long.l0 k s (ends s 0).1 0 (((m + 1 : Nat) : Int) - 1)) (fun k => ?_) ?_
    · rw [if_pos e, e1, show wrap64 (((m + 1 : Nat) : Int) - 1) = ((m + 1 : Nat) : Int) - 1 by unfold wrap64; omega]
    · rw [e1] at this ⊢
      simpa using this
  · rw [if_neg e]
    refine Ev.congr (f := fun _ => some (0, 0, (ends s 0).2)) (fun k => ?_) (Ev.now _)
    rw [if_neg e]
/- piece tabmore -/
theorem tabGo_rise (next key : Int) : ∀ (l : List S54) (last : Int) (kf : Bool) (ns : List ByteArray), tabGo next key l last kf ns = true → (∀ c ∈ l, last < c.f0) ∧ l.Pairwise (fun c d => c.f0 < d.f0) ∧ (kf = true ∨ ∃ c ∈ l, c.f0 = key)
  | [], last, kf, ns, h => ⟨by simp, List.Pairwise.nil, .inl h⟩
  | c :: r, last, kf, ns, h => by
    simp only [tabGo] at h
    split at h
    · rename_i e
      obtain ⟨h1, h2, h3⟩ := tabGo_rise next key r _ _ _ h
      refine ⟨?_, ?_, ?_⟩
      · intro d hd
        rcases List.mem_cons.1 hd with hd | hd
        · rw [hd]; exact e.2.1
        · have := h1 d hd
          omega
      · exact List.pairwise_cons.2 ⟨h1, h2⟩
      · by_cases hk : c.f0 = key
        · exact .inr ⟨c, by simp, hk⟩
        · rw [if_neg hk] at h3
          rcases h3 with h3 | ⟨d, hd, e⟩
          · exact .inl h3
          · exact .inr ⟨d, by simp [hd], e⟩
    · cases h
theorem tabB_more {id : Int} {name : ByteArray} {key next : Int} {l : List S54} (h : tabB id name key next l = true) : l.length ≤ 10 ∧ l.Pairwise (fun c d => c.f0 < d.f0) ∧ ∃ c ∈ l, c.f0 = key := by
  unfold tabB at h
  rw [Bool.and_eq_true, Bool.and_eq_true, decide_eq_true_iff] at h
  obtain ⟨h1, h2, h3⟩ := tabGo_rise _ _ _ _ _ _ h.2.2
  refine ⟨h.1.2.2.2, h2, ?_⟩
  rcases h3 with h3 | h3
  · cases h3
  · exact h3
theorem wf64 {n : Int} (h : (Lit.int .i64 n).wf = true) : -9223372036854775808 ≤ n ∧ n ≤ 9223372036854775807 := wf_i64 h
def oneV (v : S52) : List Int := if v.f0 = 1 ∨ v.f0 = 2 then sb (zigS v.f1).toNat else sb v.f2.size ++ byt v.f2
theorem sb_bytes (n : Nat) : Bytes (sb n) := by
  induction n using Nat.strongRecOn with
  | _ n ih =>
    by_cases h : n < 128
    · rw [sb_small h]
      intro x hx
      rw [List.mem_singleton] at hx
      omega
    · rw [sb_big h]
      intro x hx
      rcases List.mem_cons.1 hx with e | e
      · omega
      · exact ih (n / 128) (by omega) x e
theorem oneV_len (v : S52) (h : OkVal v) : (oneV v).length ≤ 1000000010 := by
  have hz := wf64 h.2
  unfold oneV
  split
  · have := zigS_range v.f1 hz.1 hz.2
    have := sb_len10 (n := (zigS v.f1).toNat) (by omega)
    omega
  · have := sb_len10 (n := v.f2.size) (by have := h.1; omega)
    rw [List.length_append, byt_len]
    have := h.1
    omega
theorem short1 (x : Int) (h0 : 0 ≤ x) (h1 : x ≤ 18446744073709551615) : Ev (fun k => word_Short.f k ([x] : List Int)) (strOfNums (sb x.toNat)) := by
  have := word_Short_ev [x] (by simp) (fun y hy => by
    rw [List.mem_singleton] at hy
    omega)
  rw [show sbs [x] = sb x.toNat by simp [sbs]] at this
  exact this
theorem put_ev (acc : List Int) (v : S52) (h : OkVal v) (ha : acc.length ≤ 100000000000) : Ev (fun k => rowcode_put.f k acc v.f0 v.f1 v.f2) (acc ++ oneV v) := by
  have hz := wf64 h.2
  have hr := zigS_range v.f1 hz.1 hz.2
  have hs := h.1
  have hj : ∀ b : Bool, b = decide (v.f0 = 1 ∨ v.f0 = 2) → Ev (fun k => rowcode_put.j0 k acc b v.f0 v.f1 v.f2) (acc ++ oneV v) := fun b hb => by
    cases b
    · have hn : ¬ (v.f0 = 1 ∨ v.f0 = 2) := fun e => by rw [decide_eq_true e] at hb; cases hb
      have hl := sb_len10 (n := v.f2.size) (by omega)
      refine Ev.step (fun k => by simp only [rowcode_put.j0]; rw [if_neg (by simp)]) ?_
      have hu : IntKind.u64.wrap (v.f2.size : Int) = (v.f2.size : Int) := by rw [u64_eq]; omega
      have h1 := short1 (v.f2.size : Int) (by omega) (by omega)
      rw [Int.toNat_natCast] at h1
      refine Ev.bind (Ev.congr (fun k => by rw [hu]) h1) ?_
      have hb2 : bytesOf (strOfNums (sb v.f2.size)) = sb v.f2.size := byt_str (sb_bytes _)
      refine Ev.congr (f := fun _ => some (acc ++ oneV v)) (fun k => ?_) (Ev.now _)
      rw [strOfNums_size, if_pos (by omega), hb2, Option.bind_some, if_pos (by rw [List.length_append]; omega)]
      unfold oneV
      rw [if_neg hn, List.append_assoc]
      rfl
    · have hp : v.f0 = 1 ∨ v.f0 = 2 := of_decide_eq_true hb.symm
      have hl := sb_len10 (n := (zigS v.f1).toNat) (by omega)
      refine Ev.step (fun k => by simp only [rowcode_put.j0]; rw [if_pos (by trivial), word_Zig_eq v.f1 hz.1 hz.2, Option.bind_some]) ?_
      refine Ev.bind (short1 (zigS v.f1) hr.1 hr.2) ?_
      have hb2 : bytesOf (strOfNums (sb (zigS v.f1).toNat)) = sb (zigS v.f1).toNat := byt_str (sb_bytes _)
      refine Ev.congr (f := fun _ => some (acc ++ oneV v)) (fun k => ?_) (Ev.now _)
      rw [strOfNums_size, if_pos (by omega), hb2]
      unfold oneV
      rw [if_pos hp]
  unfold rowcode_put.f
  by_cases h1 : v.f0 = 1
  · exact Ev.congr (fun k => by rw [if_pos h1]) (hj _ (by simp [h1]))
  · exact Ev.congr (fun k => by rw [if_neg h1]) (hj _ (by simp [h1, beq_dec]))
theorem rone_ev (v : S52) (h : OkVal v) (hk : v.f0 = 1 ∨ v.f0 = 2 ∨ 3 ≤ v.f0) : Ev (fun k => haulageref12_One.f k v.f0 v.f1 v.f2) (strOfNums (oneV v)) := by
  have hz := wf64 h.2
  have hr := zigS_range v.f1 hz.1 hz.2
  have hs := h.1
  unfold haulageref12_One.f oneV
  by_cases h1 : v.f0 < 3
  · rw [if_pos (show v.f0 = 1 ∨ v.f0 = 2 by omega)]
    refine Ev.congr (fun k => by rw [if_pos h1, refZig_eq v.f1 hz.1 hz.2, Option.bind_some]) ?_
    have := refOne_ev (zigS v.f1).toNat (by omega)
    rw [show (((zigS v.f1).toNat : Nat) : Int) = zigS v.f1 by omega] at this
    exact Ev.bind this (Ev.now _)
  · rw [if_neg (show ¬ (v.f0 = 1 ∨ v.f0 = 2) by omega)]
    have hu : IntKind.u64.wrap (v.f2.size : Int) = (v.f2.size : Int) := by rw [u64_eq]; omega
    have hl := sb_len10 (n := v.f2.size) (by omega)
    refine Ev.congr (fun k => by rw [if_neg h1, hu]) (Ev.bind (refOne_ev v.f2.size (by omega)) ?_)
    refine Ev.congr (f := fun _ => some (strOfNums (sb v.f2.size ++ byt v.f2))) (fun k => ?_) (Ev.now _)
    rw [strOfNums_size, if_pos (by omega), strOfNums_append, str_byt]
/- piece dec1 -/
theorem cut_to (s : ByteArray) (a n : Nat) : (s.extract a s.size).extract 0 n = s.extract a (a + n) := by
  apply byt_inj
  rw [byt_extract, byt_cut, byt_extract, List.drop_zero]
  congr 1
  omega
theorem cut_cut (s : ByteArray) (a n : Nat) : (s.extract a s.size).extract n (s.extract a s.size).size = s.extract (a + n) s.size := by
  apply byt_inj
  rw [byt_cut, byt_cut, byt_cut, List.drop_drop]
theorem cut_size (s : ByteArray) (a : Nat) : (s.extract a s.size).size = s.size - a := by
  rw [← byt_len, byt_cut, List.length_drop, byt_len]
theorem long_two (s : ByteArray) (h : (longS s).2.2 = 0) : 0 ≤ (longS s).1 ∧ (longS s).1 < 18446744073709551616 ∧ 0 < (longS s).2.1 ∧ (longS s).2.1 ≤ (s.size : Int) ∧ (longS s).2.1 ≤ 10 := by
  obtain ⟨m, e, h1, h2, h3, h4, _⟩ := longS_ok s h
  rw [e]
  simp only
  omega
theorem i64_wf {x : Int} (h0 : -9223372036854775808 ≤ x) (h1 : x ≤ 9223372036854775807) : (Lit.int .i64 x).wf = true := by
  unfold Lit.wf
  have e1 : IntKind.i64.min = -9223372036854775808 := by decide
  have e2 : IntKind.i64.max = 9223372036854775807 := by decide
  simp only [e1, e2, Bool.and_eq_true, decide_eq_true_eq]
  exact ⟨h0, h1⟩
def nilV : S52 := ⟨0, 0, ⟨#[]⟩⟩
def readS (kd mx : Int) (s : ByteArray) : S52 × Int × Int :=
  if (longS s).2.2 = 0 then
    (if kd = 1 ∨ kd = 2 then (if fitB kd mx kd (zagS (longS s).1) ⟨#[]⟩ = true then (⟨kd, zagS (longS s).1, ⟨#[]⟩⟩, (longS s).2.1, 0) else (nilV, 0, 10))
     else if mx < (longS s).1 then (nilV, 0, 10)
     else if (s.size : Int) - (longS s).2.1 < (longS s).1 then (nilV, 0, 4)
     else if kd = 3 ∧ utfB (s.extract (longS s).2.1.toNat ((longS s).2.1 + (longS s).1).toNat) = false then (nilV, 0, 5)
     else (⟨kd, 0, s.extract (longS s).2.1.toNat ((longS s).2.1 + (longS s).1).toNat⟩, (longS s).2.1 + (longS s).1, 0))
  else (nilV, 0, (longS s).2.2)
theorem readS_size (kd mx : Int) (s : ByteArray) (h : (readS kd mx s).2.2 = 0) : 0 ≤ (readS kd mx s).2.1 ∧ (readS kd mx s).2.1 ≤ (s.size : Int) := by
  unfold readS at h ⊢
  by_cases h0 : (longS s).2.2 = 0
  · obtain ⟨a1, a2, a3, a4, a5⟩ := long_two s h0
    rw [if_pos h0] at h ⊢
    by_cases h1 : kd = 1 ∨ kd = 2
    · rw [if_pos h1] at h ⊢
      by_cases h2 : fitB kd mx kd (zagS (longS s).1) ⟨#[]⟩ = true
      · rw [if_pos h2]
        show 0 ≤ (longS s).2.1 ∧ (longS s).2.1 ≤ (s.size : Int)
        exact ⟨by omega, a4⟩
      · rw [if_neg h2] at h
        exact absurd h (by decide)
    · rw [if_neg h1] at h ⊢
      by_cases h2 : mx < (longS s).1
      · rw [if_pos h2] at h
        exact absurd h (by decide)
      · rw [if_neg h2] at h ⊢
        by_cases h3 : (s.size : Int) - (longS s).2.1 < (longS s).1
        · rw [if_pos h3] at h
          exact absurd h (by decide)
        · rw [if_neg h3] at h ⊢
          split at h
          · exact absurd h (by decide)
          · rename_i h4
            rw [if_neg h4]
            show 0 ≤ (longS s).2.1 + (longS s).1 ∧ (longS s).2.1 + (longS s).1 ≤ (s.size : Int)
            omega
  · rw [if_neg h0] at h
    exact absurd h h0
theorem typ_cases {kd mx : Int} (h : typB kd mx = true) : (kd = 1 ∨ kd = 2) ∨ (¬ (kd = 1 ∨ kd = 2) ∧ (kd = 3 ∨ kd = 4) ∧ 1 ≤ mx ∧ mx ≤ 120) := by
  unfold typB at h
  split at h
  · exact .inl (by assumption)
  · rename_i h1
    split at h
    · rename_i h2
      exact .inr ⟨h1, h2, of_decide_eq_true h⟩
    · cases h
theorem value_ev (kd mx : Int) (s : ByteArray) (ht : typB kd mx = true) (hs : s.size ≤ 1000000000) :
    ∃ rest : ByteArray, Ev (fun k => rowcode_reader_value.f k s kd mx) ((readS kd mx s).1.f0, (readS kd mx s).1.f1, (readS kd mx s).1.f2, (readS kd mx s).2.2, rest) ∧ ((readS kd mx s).2.2 = 0 → rest = s.extract (readS kd mx s).2.1.toNat s.size) := by
  unfold rowcode_reader_value.f readS
  by_cases h0 : (longS s).2.2 = 0
  · obtain ⟨a1, a2, a3, a4, a5⟩ := long_two s h0
    rw [if_pos h0]
    generalize hL : longS s = L at *
    obtain ⟨n, mn, e⟩ := L
    simp only at h0 a1 a2 a3 a4 a5 ⊢
    subst h0
    obtain ⟨m, rfl⟩ := Int.eq_ofNat_of_zero_le (show 0 ≤ mn by omega)
    obtain ⟨N, rfl⟩ := Int.eq_ofNat_of_zero_le a1
    have hl : Ev (fun k => word_Long.f k s) ((N : Int), (m : Int), 0) := by
      have := word_Long_ev s
      rw [hL] at this
      exact this
    have hcs := cut_size s m
    simp only [Int.toNat_natCast]
    by_cases h1 : kd = 1 ∨ kd = 2
    · rw [if_pos h1]
      have hj : Ev (fun k => rowcode_reader_value.j0 k (N : Int) true (s.extract m s.size) kd mx kd 0 (⟨#[]⟩ : ByteArray)) (if fitB kd mx kd (zagS (N : Int)) ⟨#[]⟩ = true then (kd, zagS (N : Int), (⟨#[]⟩ : ByteArray), 0, s.extract m s.size) else (0, 0, (⟨#[]⟩ : ByteArray), 10, s.extract m s.size)) := by
        refine Ev.step (fun k => by simp only [rowcode_reader_value.j0]; rw [if_pos (by trivial), word_Zag_eq _ (by omega) (by omega), Option.bind_some]) ?_
        refine Ev.bind (fit_ev kd mx kd (zagS (N : Int)) ⟨#[]⟩ (by decide)) ?_
        by_cases h2 : fitB kd mx kd (zagS (N : Int)) ⟨#[]⟩ = true
        · rw [if_pos h2]
          exact Ev.congr (f := fun _ => some _) (fun k => by rw [if_pos h2]) (Ev.now _)
        · rw [if_neg h2]
          exact Ev.congr (f := fun _ => some _) (fun k => by rw [if_neg h2]) (Ev.now _)
      refine ⟨s.extract m s.size, ?_, ?_⟩
      · refine Ev.eq (Ev.bind hl (Ev.congr (fun k => ?_) hj)) ?_
        · show (if (0 : Int) = 0 then (if 0 ≤ (m : Int) then (if (m : Int) ≤ (s.size : Int) then _ else _) else _) else _) = _
          rw [if_pos rfl, if_pos (by omega), if_pos (by omega)]
          simp only [Int.toNat_natCast]
          by_cases h2 : kd = 1
          · rw [if_pos h2]
          · rw [if_neg h2, show (kd == 2) = true by rw [beq_iff_eq]; omega]
        · split <;> rfl
      · intro he
        by_cases h2 : fitB kd mx kd (zagS (N : Int)) ⟨#[]⟩ = true
        · rw [if_pos h2]
          simp
        · rw [if_neg h2] at he
          exact absurd he (by decide)
    · rw [if_neg h1]
      obtain ⟨hk, hm1, hm2⟩ : (kd = 3 ∨ kd = 4) ∧ 1 ≤ mx ∧ mx ≤ 120 := by
        rcases typ_cases ht with h | h
        · exact absurd h h1
        · exact h.2
      have hu : IntKind.u64.wrap mx = mx := u64_id mx (by omega) (by omega)
      have hu2 : IntKind.u64.wrap ((s.extract m s.size).size : Int) = ((s.size - m : Nat) : Int) := by rw [hcs]; exact u64_id _ (by omega) (by omega)
      have hpre : ∀ r, Ev (fun k => rowcode_reader_value.j0 k (N : Int) false (s.extract m s.size) kd mx kd 0 (⟨#[]⟩ : ByteArray)) r → Ev (fun k => (word_Long.f k s).bind fun bt282 => (if bt282.2.2 = 0 then (if 0 ≤ bt282.2.1 then (if bt282.2.1 ≤ (s.size : Int) then (if kd = 1 then (rowcode_reader_value.j0 k bt282.1 true (s.extract (bt282.2.1 : Int).toNat s.size) kd mx kd 0 (⟨#[]⟩ : ByteArray)) else (rowcode_reader_value.j0 k bt282.1 (kd == 2) (s.extract (bt282.2.1 : Int).toNat s.size) kd mx kd 0 (⟨#[]⟩ : ByteArray))) else (none)) else (none)) else (some (0, 0, (⟨#[]⟩ : ByteArray), bt282.2.2, s)))) r := fun r hr => by
        refine Ev.bind hl (Ev.congr (fun k => ?_) hr)
        show (if (0 : Int) = 0 then (if 0 ≤ (m : Int) then (if (m : Int) ≤ (s.size : Int) then _ else _) else _) else _) = _
        rw [if_pos rfl, if_pos (by omega), if_pos (by omega)]
        simp only [Int.toNat_natCast]
        rw [if_neg (by omega), show (kd == 2) = false by rw [beq_eq_false_iff_ne]; omega]
      by_cases h2 : mx < (N : Int)
      · rw [if_pos h2]
        refine ⟨s.extract m s.size, hpre _ (Ev.step (f := fun _ => some (0, 0, (⟨#[]⟩ : ByteArray), 10, s.extract m s.size)) (fun k => ?_) (Ev.now _)), fun he => absurd he (by decide)⟩
        simp only [rowcode_reader_value.j0]
        rw [if_neg (by simp), hu, if_pos (by omega)]
      rw [if_neg h2]
      by_cases h3 : (s.size : Int) - (m : Int) < (N : Int)
      · rw [if_pos h3]
        refine ⟨s.extract m s.size, hpre _ (Ev.step (f := fun _ => some (0, 0, (⟨#[]⟩ : ByteArray), 4, s.extract m s.size)) (fun k => ?_) (Ev.now _)), fun he => absurd he (by decide)⟩
        simp only [rowcode_reader_value.j0]
        rw [if_neg (by simp), hu, hu2, if_neg (by omega), if_pos (by omega)]
      rw [if_neg h3]
      have hNs : m + N ≤ s.size := by omega
      have hx : (s.extract m s.size).extract 0 N = s.extract m (m + N) := cut_to s m N
      have hy : (s.extract m s.size).extract N (s.extract m s.size).size = s.extract (m + N) s.size := cut_cut s m N
      have hz : ((m : Int) + (N : Int)).toNat = m + N := by omega
      rw [hz]
      refine ⟨s.extract (m + N) s.size, hpre _ ?_, ?_⟩
      · by_cases h4 : kd = 3
        · have hxs : (s.extract m (m + N)).size ≤ 1000000000 := by rw [← hx, ← byt_len, byt_extract, byt_cut]; simp only [List.length_take, List.length_drop, byt_len]; omega
          refine Ev.step (f := fun k => (utf_Right.f k (s.extract m (m + N))).bind fun t => if t = true then some (kd, 0, s.extract m (m + N), 0, s.extract (m + N) s.size) else some (0, 0, (⟨#[]⟩ : ByteArray), 5, s.extract (m + N) s.size)) (fun k => ?_) (Ev.bind (uright_ev (s.extract m (m + N)) hxs) ?_)
          · simp only [rowcode_reader_value.j0]
            rw [if_neg (by simp), hu, hu2, if_neg (by omega), if_neg (by omega), if_pos (by omega), if_pos (by rw [hcs]; omega), if_pos h4, Int.toNat_natCast, hx, hy]
          · by_cases h5 : utfB (s.extract m (m + N)) = true
            · rw [if_neg (show ¬ (kd = 3 ∧ utfB (s.extract m (m + N)) = false) from fun e => by rw [h5] at e; exact absurd e.2 (by decide))]
              exact Ev.congr (f := fun _ => some _) (fun k => by rw [if_pos h5]) (Ev.now _)
            · rw [if_pos (show kd = 3 ∧ utfB (s.extract m (m + N)) = false from ⟨h4, by simpa using h5⟩)]
              exact Ev.congr (f := fun _ => some _) (fun k => by rw [if_neg h5]; rfl) (Ev.now _)
        · rw [if_neg (fun e => h4 e.1)]
          refine Ev.step (f := fun _ => some (kd, 0, s.extract m (m + N), 0, s.extract (m + N) s.size)) (fun k => ?_) (Ev.now _)
          simp only [rowcode_reader_value.j0]
          rw [if_neg (by simp), hu, hu2, if_neg (by omega), if_neg (by omega), if_pos (by omega), if_pos (by rw [hcs]; omega), if_neg h4, Int.toNat_natCast, hx, hy]
      · intro he
        split at he
        · exact absurd he (by decide)
        · rename_i h5
          rw [if_neg h5]
          simp only [hz]
  · rw [if_neg h0]
    refine ⟨s, ?_, fun he => absurd he h0⟩
    refine Ev.bind (word_Long_ev s) ?_
    exact Ev.congr (f := fun _ => some (0, 0, (⟨#[]⟩ : ByteArray), (longS s).2.2, s)) (fun k => by rw [if_neg h0]) (Ev.now _)
/- piece tabtypes -/
theorem tabGo_types (next key : Int) : ∀ (l : List S54) (last : Int) (kf : Bool) (ns : List ByteArray), tabGo next key l last kf ns = true → ∀ c ∈ l, typB c.f2.f0 c.f2.f1 = true
  | [], _, _, _, _, c, hc => by simp at hc
  | c :: r, last, kf, ns, h, d, hd => by
    simp only [tabGo] at h
    split at h
    · rename_i e
      rcases List.mem_cons.1 hd with e2 | e2
      · subst e2
        have := e.1
        unfold colB at this
        rw [Bool.and_eq_true, Bool.and_eq_true, Bool.and_eq_true] at this
        exact this.2.2.1
      · exact tabGo_types next key r _ _ _ h d e2
    · cases h
theorem tabB_types {id : Int} {name : ByteArray} {key next : Int} {l : List S54} (h : tabB id name key next l = true) : ∀ c ∈ l, typB c.f2.f0 c.f2.f1 = true := by
  unfold tabB at h
  rw [Bool.and_eq_true, Bool.and_eq_true] at h
  exact tabGo_types _ _ _ _ _ _ h.2.2
/- piece refdec1 -/
theorem rowread_ev (kd mx : Int) (s : ByteArray) (ht : typB kd mx = true) (hs : s.size ≤ 1000000000) :
    Ev (fun k => haulageref12_read.f k kd mx s) ((readS kd mx s).1.f0, (readS kd mx s).1.f1, (readS kd mx s).1.f2, (readS kd mx s).2.1, (readS kd mx s).2.2) := by
  unfold haulageref12_read.f readS
  refine Ev.bind (refLong_ev s) ?_
  by_cases h0 : (longS s).2.2 = 0
  · obtain ⟨a1, a2, a3, a4, a5⟩ := long_two s h0
    rw [if_pos h0]
    refine Ev.congr (fun k => by rw [if_pos h0]) ?_
    generalize hL : longS s = L at *
    obtain ⟨n, mn, e⟩ := L
    simp only at h0 a1 a2 a3 a4 a5 ⊢
    obtain ⟨m, rfl⟩ := Int.eq_ofNat_of_zero_le (show 0 ≤ mn by omega)
    obtain ⟨N, rfl⟩ := Int.eq_ofNat_of_zero_le a1
    by_cases h1 : kd = 1 ∨ kd = 2
    · rw [if_pos h1]
      have hzr := zagS_range (N : Int) (by omega) (by omega)
      have hwf : (Lit.int .i64 (zagS (N : Int))).wf = true := i64_wf hzr.1 hzr.2
      refine Ev.congr (fun k => by rw [if_pos (show kd < 3 by omega), refZag_eq _ (by omega) (by omega), Option.bind_some]) ?_
      refine Ev.bind (rfit_ev kd mx kd (zagS (N : Int)) ⟨#[]⟩ (by decide) hwf) ?_
      by_cases h2 : fitB kd mx kd (zagS (N : Int)) ⟨#[]⟩ = true
      · rw [if_pos h2]
        exact Ev.congr (f := fun _ => some _) (fun k => by rw [if_pos h2]) (Ev.now _)
      · rw [if_neg h2]
        exact Ev.congr (f := fun _ => some _) (fun k => by rw [if_neg h2]; rfl) (Ev.now _)
    · rw [if_neg h1]
      obtain ⟨hk, hm1, hm2⟩ : (kd = 3 ∨ kd = 4) ∧ 1 ≤ mx ∧ mx ≤ 120 := by
        rcases typ_cases ht with h | h
        · exact absurd h h1
        · exact h.2
      have hu : IntKind.u64.wrap mx = mx := u64_id mx (by omega) (by omega)
      refine Ev.congr (fun k => by rw [if_neg (show ¬ kd < 3 by omega), hu]) ?_
      by_cases h2 : mx < (N : Int)
      · rw [if_pos h2]
        exact Ev.congr (f := fun _ => some _) (fun k => by rw [if_pos (by omega)]; rfl) (Ev.now _)
      rw [if_neg h2]
      have hw1 : wrap64 (N : Int) = (N : Int) := wrap_id _ (by omega) (by omega)
      have hw2 : wrap64 ((s.size : Int) - (m : Int)) = (s.size : Int) - (m : Int) := wrap_id _ (by omega) (by omega)
      have hw3 : wrap64 ((m : Int) + (N : Int)) = (m : Int) + (N : Int) := wrap_id _ (by omega) (by omega)
      refine Ev.congr (fun k => by rw [if_neg (by omega), hw1, hw2, hw3]) ?_
      by_cases h3 : (s.size : Int) - (m : Int) < (N : Int)
      · rw [if_pos h3]
        exact Ev.congr (f := fun _ => some _) (fun k => by rw [if_pos (by omega)]; rfl) (Ev.now _)
      rw [if_neg h3]
      refine Ev.congr (fun k => by rw [if_neg (by omega), if_pos (by omega), if_pos (by omega), if_pos (by omega)]) ?_
      by_cases h4 : kd = 3
      · have hxs : (s.extract (m : Int).toNat ((m : Int) + (N : Int)).toNat).size ≤ 1000000000 := by rw [← byt_len, byt_extract]; simp only [List.length_take, List.length_drop, byt_len]; omega
        refine Ev.congr (fun k => by rw [if_pos h4]) (Ev.bind (rutf_ev _ hxs) ?_)
        by_cases h5 : utfB (s.extract (m : Int).toNat ((m : Int) + (N : Int)).toNat) = true
        · rw [if_neg (show ¬ (kd = 3 ∧ utfB (s.extract (m : Int).toNat ((m : Int) + (N : Int)).toNat) = false) from fun e => by rw [h5] at e; exact absurd e.2 (by decide))]
          exact Ev.congr (f := fun _ => some _) (fun k => by rw [if_pos h5]) (Ev.now _)
        · rw [if_pos (show kd = 3 ∧ utfB (s.extract (m : Int).toNat ((m : Int) + (N : Int)).toNat) = false from ⟨h4, by simpa using h5⟩)]
          exact Ev.congr (f := fun _ => some _) (fun k => by rw [if_neg h5]; rfl) (Ev.now _)
      · rw [if_neg (fun e => h4 e.1)]
        exact Ev.congr (f := fun _ => some _) (fun k => by rw [if_neg h4]) (Ev.now _)
  · rw [if_neg h0]
    exact Ev.congr (f := fun _ => some _) (fun k => by rw [if_neg h0]; rfl) (Ev.now _)
/- piece fitkind -/
theorem fit_kind {tk tm vk vn : Int} {vs : ByteArray} (h : fitB tk tm vk vn vs = true) : vk = tk ∧ (tk = 1 ∨ tk = 2 ∨ tk = 3 ∨ tk = 4) := by
  unfold fitB at h
  rw [Bool.and_eq_true, Bool.and_eq_true, decide_eq_true_iff] at h
  refine ⟨h.2.1, ?_⟩
  have := h.1
  unfold typB at this
  split at this
  · omega
  · split at this
    · omega
    · cases this
/- piece back1 -/
def valL : List Int → Int
  | [] => 0
  | x :: xs => x % 128 + 128 * valL xs
theorem valL_snoc (l : List Int) (x : Int) : valL (l ++ [x]) = valL l + x % 128 * 128 ^ l.length := by
  induction l with
  | nil => simp [valL]
  | cons y l ih =>
    simp only [List.cons_append, valL, ih, List.length_cons, Int.pow_succ]
    rw [Int.mul_add, ← Int.mul_assoc, Int.mul_comm 128 (x % 128), Int.mul_assoc, Int.mul_comm 128 (128 ^ l.length)]
    omega
theorem val_valL (s : ByteArray) (i : Nat) (h : i ≤ s.size) : val s i = valL ((byt s).take i) := by
  induction i with
  | zero => simp [val, valL]
  | succ i ih =>
    have hl : i < (byt s).length := by rw [byt_len]; omega
    rw [List.take_succ_eq_append_getElem hl, valL_snoc, ← ih (by omega), List.length_take, Nat.min_eq_left (by omega)]
    simp only [val]
    rw [bt_byt s i (by omega)]
def IsSb : List Int → Prop
  | [] => False
  | [x] => 0 ≤ x ∧ x < 128
  | x :: y :: l => 128 ≤ x ∧ x ≤ 255 ∧ IsSb (y :: l) ∧ (y :: l) ≠ [0]
theorem sb_is (n : Nat) : IsSb (sb n) ∧ valL (sb n) = n ∧ (0 < n → sb n ≠ [0]) := by
  induction n using Nat.strongRecOn with
  | _ n ih =>
    by_cases h : n < 128
    · rw [sb_small h]
      refine ⟨⟨by omega, by omega⟩, by simp only [valL]; omega, fun h0 e => ?_⟩
      simp at e
      omega
    · obtain ⟨h1, h2, h3⟩ := ih (n / 128) (by omega)
      rw [sb_big h]
      have hp := sb_pos (n / 128)
      cases e : sb (n / 128) with
      | nil => rw [e] at hp; simp at hp
      | cons y l =>
        rw [e] at h1 h2 h3
        refine ⟨⟨by omega, by omega, h1, h3 (by omega)⟩, ?_, fun _ => by simp⟩
        rw [valL, h2]
        omega
theorem isSb_at : ∀ (l : List Int) (hl : IsSb l) (m : Nat) (hm : l.length = m + 1), (∀ (j : Nat) (hj : j < m), 128 ≤ l[j]'(by omega)) ∧ l[m]'(by omega) < 128 ∧ (0 < m → l[m]'(by omega) ≠ 0)
  | [], h, _, _ => h.elim
  | [x], h, m, hm => by
    simp at hm
    subst hm
    exact ⟨fun j hj => by omega, h.2, fun h => by omega⟩
  | x :: y :: l, h, m, hm => by
    obtain ⟨k, rfl⟩ : ∃ k, m = k + 1 := ⟨l.length, by simpa using hm.symm⟩
    have ih := isSb_at (y :: l) h.2.2.1 k (by simpa using hm)
    refine ⟨fun j hj => ?_, by simpa using ih.2.1, fun _ => ?_⟩
    · cases j with
      | zero => exact h.1
      | succ j => simpa using ih.1 j (by omega)
    · by_cases hk : 0 < k
      · simpa using ih.2.2 hk
      · have : k = 0 := by omega
        subst this
        simp at hm
        subst hm
        intro e
        simp at e
        exact h.2.2.2 (by rw [e])
theorem ends_of (s : ByteArray) (m : Nat) (h1 : m < 10) (h2 : m < s.size) (h3 : ∀ j : Nat, j < m → 128 ≤ bt s (j : Int)) (h4 : bt s (m : Int) < 128) (h5 : 0 < m → bt s (m : Int) ≠ 0) (h6 : m = 9 → bt s (m : Int) ≤ 1) (d : Nat) : ∀ i, i + d = m → ends s i = (((m + 1 : Nat) : Int), 0) := by
  induction d with
  | zero =>
    intro i hi
    have e : i = m := by omega
    subst e
    rw [ends_last ⟨h2, h1⟩ h4, if_neg]
    rintro (⟨h, h'⟩ | ⟨h, h'⟩)
    · exact h5 h h'
    · have := h6 h; omega
  | succ d ih =>
    intro i hi
    have := h3 i (by omega)
    rw [ends_more ⟨by omega, by omega⟩ (by omega)]
    exact ih (i + 1) (by omega)
theorem longS_sb (n : Nat) (hn : n < 18446744073709551616) (z : ByteArray) : longS (strOfNums (sb n) ++ z) = ((n : Int), ((sb n).length : Int), 0) := by
  obtain ⟨h1, h2, _⟩ := sb_is n
  have hp := sb_pos n
  obtain ⟨m, hm⟩ : ∃ m, (sb n).length = m + 1 := ⟨(sb n).length - 1, by omega⟩
  have h10 := sb_len10 hn
  obtain ⟨a1, a2, a3⟩ := isSb_at _ h1 m hm
  have hby : byt (strOfNums (sb n) ++ z) = sb n ++ byt z := by rw [byt_append, byt_str (sb_bytes n)]
  have hsz : (strOfNums (sb n) ++ z).size = m + 1 + z.size := by rw [← byt_len, hby, List.length_append, hm, byt_len]
  have hbt : ∀ j (hj : j < m + 1), bt (strOfNums (sb n) ++ z) (j : Int) = (sb n)[j]'(by omega) := by
    intro j hj
    rw [bt_byt _ j (by omega)]
    simp only [hby]
    rw [List.getElem_append_left (by omega)]
  have hv : val (strOfNums (sb n) ++ z) (m + 1) = n := by
    rw [val_valL _ _ (by omega), hby, List.take_append_of_le_length (by omega), List.take_of_length_le (by omega), h2]
  have h6 : m = 9 → bt (strOfNums (sb n) ++ z) (m : Int) ≤ 1 := by
    rintro rfl
    have hr := (val_range (strOfNums (sb n) ++ z) 9).1
    simp only [val] at hv
    have e : (128 : Int) ^ 9 = 9223372036854775808 := by decide
    simp only [val, e] at hv hr
    have hb := btr (strOfNums (sb n) ++ z) ((9 : Nat) : Int)
    have h4 := hbt 9 (by omega)
    rw [h4] at hb hv ⊢
    omega
  have he := ends_of (strOfNums (sb n) ++ z) m (by omega) (by omega) (fun j hj => by rw [hbt j (by omega)]; exact a1 j hj) (by rw [hbt m (by omega)]; exact a2) (fun h => by rw [hbt m (by omega)]; exact a3 h) h6 m 0 (by omega)
  unfold longS
  rw [he]
  simp only [if_true]
  rw [show (((m + 1 : Nat) : Int)).toNat = m + 1 by omega, hv, hm]
theorem ba_of0 (s : ByteArray) (h : s.size = 0) : s = ⟨#[]⟩ := ByteArray.ext (Array.eq_empty_of_size_eq_zero h)
theorem fit_parts {tk tm vk vn : Int} {vs : ByteArray} (h : fitB tk tm vk vn vs = true) : typB tk tm = true ∧ vk = tk ∧ valB vk vn vs = true ∧ (tk < 3 ∨ (vs.size : Int) ≤ tm) := by
  unfold fitB at h
  rw [Bool.and_eq_true, Bool.and_eq_true, Bool.and_eq_true, Bool.or_eq_true, decide_eq_true_iff, decide_eq_true_iff, decide_eq_true_iff] at h
  exact ⟨h.1, h.2.1, h.2.2.1, h.2.2.2⟩
theorem val_int {k n : Int} {s : ByteArray} (h : valB k n s = true) (hk : k = 1 ∨ k = 2) : s = ⟨#[]⟩ := by
  unfold valB at h
  rcases hk with e | e
  · subst e
    rw [if_neg (by decide), if_pos rfl, Bool.and_eq_true, decide_eq_true_iff] at h
    exact ba_of0 s h.2
  · subst e
    rw [if_neg (by decide), if_neg (by decide), if_pos rfl, decide_eq_true_iff] at h
    exact ba_of0 s h
theorem val_text {k n : Int} {s : ByteArray} (h : valB k n s = true) (hk : k = 3 ∨ k = 4) : n = 0 ∧ s.size ≤ 120 ∧ (k = 3 → utfB s = true) := by
  unfold valB at h
  rcases hk with e | e
  · subst e
    rw [if_neg (by decide), if_neg (by decide), if_neg (by decide), if_pos rfl, Bool.and_eq_true, Bool.and_eq_true, decide_eq_true_iff, decide_eq_true_iff] at h
    exact ⟨h.1, h.2.1, fun _ => h.2.2⟩
  · subst e
    rw [if_neg (by decide), if_neg (by decide), if_neg (by decide), if_neg (by decide), if_pos rfl, Bool.and_eq_true, decide_eq_true_iff, decide_eq_true_iff] at h
    exact ⟨h.1, h.2, fun e => absurd e (by decide)⟩
theorem readS_one (kd mx : Int) (v : S52) (hv : OkVal v) (hf : fitB kd mx v.f0 v.f1 v.f2 = true) (z : ByteArray) : readS kd mx (strOfNums (oneV v) ++ z) = (v, ((oneV v).length : Int), 0) := by
  have hw := wf64 hv.2
  obtain ⟨ht, hk, hvb, hsz⟩ := fit_parts hf
  obtain ⟨v0, v1, v2⟩ := v
  simp only at hf hk hvb hsz hw hv
  subst hk
  rcases typ_cases ht with h1 | ⟨h1, h2, h3, h4⟩
  · have e2 := val_int hvb h1
    subst e2
    have hr := zigS_range v1 hw.1 hw.2
    have ho : oneV ⟨v0, v1, ⟨#[]⟩⟩ = sb (zigS v1).toNat := by unfold oneV; rw [if_pos h1]
    have hL := longS_sb (zigS v1).toNat (by omega) z
    rw [ho]
    unfold readS
    rw [hL]
    simp only
    rw [if_pos trivial, if_pos h1, show (((zigS v1).toNat : Nat) : Int) = zigS v1 by omega, zag_zig, if_pos hf]
  · obtain ⟨e1, e2, e3⟩ := val_text hvb h2
    subst e1
    have ho : oneV ⟨v0, 0, v2⟩ = sb v2.size ++ byt v2 := by unfold oneV; rw [if_neg h1]
    have hs : strOfNums (sb v2.size ++ byt v2) ++ z = strOfNums (sb v2.size) ++ (v2 ++ z) := by rw [strOfNums_append, str_byt, ByteArray.append_assoc]
    have hL := longS_sb v2.size (by omega) (v2 ++ z)
    have hx : (strOfNums (sb v2.size) ++ (v2 ++ z)).extract (sb v2.size).length ((sb v2.size).length + v2.size) = v2 := by
      apply byt_inj
      rw [byt_extract, byt_append, byt_append, byt_str (sb_bytes _), List.drop_left, Nat.add_sub_cancel_left, ← byt_len v2, List.take_left]
    have hsize : (strOfNums (sb v2.size) ++ (v2 ++ z)).size = (sb v2.size).length + (v2.size + z.size) := by rw [ByteArray.size_append, ByteArray.size_append, strOfNums_size]
    rw [ho, hs]
    unfold readS
    rw [hL]
    simp only
    rw [if_pos trivial, if_neg h1, if_neg (show ¬ mx < (v2.size : Int) by omega), if_neg (by rw [hsize]; omega), Int.toNat_natCast, show (((sb v2.size).length : Int) + (v2.size : Int)).toNat = (sb v2.size).length + v2.size by omega, hx,
      if_neg (show ¬ (v0 = 3 ∧ utfB v2 = false) from fun e => by rw [e3 e.1] at e; exact absurd e.2 (by decide)), List.length_append, byt_len]
    simp
/- piece rowkey -/
theorem oneV_small (v : S52) (h : OkVal v) (hs : v.f2.size ≤ 300) : (oneV v).length ≤ 1000 := by
  have hz := wf64 h.2
  unfold oneV
  split
  · have := zigS_range v.f1 hz.1 hz.2
    have := sb_len10 (n := (zigS v.f1).toNat) (by omega)
    omega
  · have := sb_len10 (n := v.f2.size) (by omega)
    rw [List.length_append, byt_len]
    omega
theorem key_at {id : Int} {name : ByteArray} {key next : Int} {l : List S54} (h : tabB id name key next l = true) :
    ∃ (i : Nat) (hi : i < l.length), scan (fun c : S54 => decide (c.f0 = key)) l 0 = ((i : Int), true) ∧ scanR (fun c : S54 => decide (c.f0 = key)) l 0 = (i : Int) := by
  obtain ⟨h10, _, c, hc, hk⟩ := tabB_more h
  rcases scan_or (fun c : S54 => decide (c.f0 = key)) l 0 with ⟨h1, h2, h3⟩ | ⟨_, h2⟩
  · obtain ⟨i, e⟩ := Int.eq_ofNat_of_zero_le (show 0 ≤ scanR (fun c : S54 => decide (c.f0 = key)) l 0 by omega)
    rw [e] at h1 h3
    exact ⟨i, by omega, h1, e⟩
  · have := (scanR_iff (fun c : S54 => decide (c.f0 = key)) l 0).1 h2 c hc
    rw [decide_eq_false_iff_not] at this
    exact absurd hk this
theorem readS_bad (kd mx : Int) (s : ByteArray) (h : (readS kd mx s).2.2 ≠ 0) : (readS kd mx s).1 = nilV := by
  unfold readS at h ⊢
  split at h
  · rename_i h0
    rw [if_pos h0]
    split at h
    · rename_i h1
      rw [if_pos h1]
      split at h
      · exact absurd rfl h
      · rename_i h2
        rw [if_neg h2]
    · rename_i h1
      rw [if_neg h1]
      split at h
      · rename_i h2
        rw [if_pos h2]
      · rename_i h2
        rw [if_neg h2]
        split at h
        · rename_i h3
          rw [if_pos h3]
        · rename_i h3
          rw [if_neg h3]
          split at h
          · rename_i h4
            rw [if_pos h4]
          · exact absurd rfl h
  · rename_i h0
    rw [if_neg h0]
def readK (kd mx : Int) (s : ByteArray) : S52 × Int :=
  if (readS kd mx s).2.2 = 0 then (if (readS kd mx s).2.1 < (s.size : Int) then (nilV, 6) else ((readS kd mx s).1, 0)) else (nilV, (readS kd mx s).2.2)
theorem key_type_ev {id : Int} {name : ByteArray} {key next : Int} {l : List S54} (hn : name.size ≤ 1000000000) (hok : ∀ c ∈ l, OkCol c) (hl : l.length ≤ 1000000000) (h : tabB id name key next l = true) (i : Nat) (hi : i < l.length) (he : scan (fun c : S54 => decide (c.f0 = key)) l 0 = ((i : Int), true)) :
    Ev (fun k => rowcode_key.f k id name key next l) (l[i].f2.f0, l[i].f2.f1, 0) := by
  unfold rowcode_key.f
  refine Ev.bind (table_ev id name key next l hn hok) (Ev.congr (fun k => by rw [if_pos h]) (Ev.bind (key_ev id name key next l (by omega)) ?_))
  rw [he]
  exact Ev.congr (f := fun _ => some (l[i].f2.f0, l[i].f2.f1, 0)) (fun k => by rw [if_pos (by omega), if_pos (by simp only; omega), rd_col l i hi]) (Ev.now _)
theorem key_none_ev {id : Int} {name : ByteArray} {key next : Int} {l : List S54} (hn : name.size ≤ 1000000000) (hok : ∀ c ∈ l, OkCol c) (h : ¬ tabB id name key next l = true) :
    Ev (fun k => rowcode_key.f k id name key next l) (0, 0, 2) := by
  unfold rowcode_key.f
  exact Ev.bind (table_ev id name key next l hn hok) (Ev.congr (f := fun _ => some (0, 0, 2)) (fun k => by rw [if_neg h]) (Ev.now _))
theorem readkey_ev {id : Int} {name : ByteArray} {key next : Int} {l : List S54} {kd mx : Int} (hk : Ev (fun k => rowcode_key.f k id name key next l) (kd, mx, 0)) (ht : typB kd mx = true) (s : ByteArray) (hs : s.size ≤ 1000000000) :
    Ev (fun k => rowcode_ReadKey.f k id name key next l s) ((readK kd mx s).1.f0, (readK kd mx s).1.f1, (readK kd mx s).1.f2, (readK kd mx s).2) := by
  obtain ⟨rest, hv, hr⟩ := value_ev kd mx s ht hs
  have hj : ∀ (e : Int) (v : S52), Ev (fun k => rowcode_ReadKey.j0 k e v.f0 v.f1 v.f2) (if e = 0 then (v.f0, v.f1, v.f2, 0) else (0, 0, (⟨#[]⟩ : ByteArray), e)) := fun e v => by
    refine Ev.step (f := fun _ => some (if e = 0 then (v.f0, v.f1, v.f2, 0) else (0, 0, (⟨#[]⟩ : ByteArray), e))) (fun k => ?_) (Ev.now _)
    simp only [rowcode_ReadKey.j0]
    by_cases h : e = 0
    · rw [if_pos h, if_pos h]
    · rw [if_neg h, if_neg h]
  unfold rowcode_ReadKey.f readK
  refine Ev.bind hk (Ev.congr (fun k => by rw [if_pos rfl]) (Ev.bind hv ?_))
  by_cases he : (readS kd mx s).2.2 = 0
  · have hsz := readS_size kd mx s he
    have hre := hr he
    rw [if_pos he]
    by_cases hl : (readS kd mx s).2.1 < (s.size : Int)
    · rw [if_pos hl]
      have hne : ¬ rest.toList = ([] : List UInt8) := fun e => by
        rw [ba_nil, hre, cut_size] at e
        omega
      refine Ev.congr (fun k => by rw [if_pos he]; unfold rowcode_reader_left.f; rw [if_neg hne, Option.bind_some]) (Ev.eq (hj 6 (readS kd mx s).1) ?_)
      rw [if_neg (by decide)]
      rfl
    · rw [if_neg hl]
      have hne : rest.toList = ([] : List UInt8) := by
        rw [ba_nil, hre, cut_size]
        omega
      refine Ev.congr (fun k => by rw [if_pos he]; unfold rowcode_reader_left.f; rw [if_pos hne, Option.bind_some]) (Ev.eq (hj 0 (readS kd mx s).1) ?_)
      rw [if_pos rfl]
  · rw [if_neg he]
    refine Ev.congr (fun k => by rw [if_neg he]) (Ev.eq (hj _ (readS kd mx s).1) ?_)
    rw [if_neg he]
    rfl
theorem readkey_none {id : Int} {name : ByteArray} {key next : Int} {l : List S54} (hk : Ev (fun k => rowcode_key.f k id name key next l) (0, 0, 2)) (s : ByteArray) :
    Ev (fun k => rowcode_ReadKey.f k id name key next l s) (0, 0, (⟨#[]⟩ : ByteArray), 2) := by
  unfold rowcode_ReadKey.f
  exact Ev.bind hk (Ev.congr (f := fun _ => some (0, 0, (⟨#[]⟩ : ByteArray), 2)) (fun k => by rw [if_neg (by simp)]) (Ev.now _))
theorem rreadkey_ev {id : Int} {name : ByteArray} {key next : Int} {l : List S54} (hl : l.length ≤ 1000000000) (i : Nat) (hi : i < l.length) (he : scanR (fun c : S54 => decide (c.f0 = key)) l 0 = (i : Int)) (ht : typB l[i].f2.f0 l[i].f2.f1 = true) (s : ByteArray) (hs : s.size ≤ 1000000000) :
    Ev (fun k => haulageref12_ReadKey.f k id name key next l s) ((readK l[i].f2.f0 l[i].f2.f1 s).1.f0, (readK l[i].f2.f0 l[i].f2.f1 s).1.f1, (readK l[i].f2.f0 l[i].f2.f1 s).1.f2, (readK l[i].f2.f0 l[i].f2.f1 s).2) := by
  unfold haulageref12_ReadKey.f readK
  have h := rowread_ev l[i].f2.f0 l[i].f2.f1 s ht hs
  have hb := readS_bad l[i].f2.f0 l[i].f2.f1 s
  refine Ev.bind (rkey_ev id name key next l (by omega)) ?_
  rw [he]
  refine Ev.congr (fun k => by rw [if_pos (by omega), if_pos (by omega), rd_col l i hi]) (Ev.bind h ?_)
  generalize readS l[i].f2.f0 l[i].f2.f1 s = q at *
  obtain ⟨v, n, e⟩ := q
  simp only at hb ⊢
  by_cases h0 : e = 0
  · subst h0
    by_cases h1 : n < (s.size : Int)
    · exact Ev.congr (f := fun _ => some (0, 0, (⟨#[]⟩ : ByteArray), 6)) (fun k => by simp [h1]) (Ev.eq (Ev.now _) (by simp [h1, nilV]))
    · exact Ev.congr (f := fun _ => some (v.f0, v.f1, v.f2, 0)) (fun k => by simp [h1]) (Ev.eq (Ev.now _) (by simp [h1]))
  · have := hb h0
    subst this
    exact Ev.congr (f := fun _ => some (nilV.f0, nilV.f1, nilV.f2, e)) (fun k => by simp [h0]) (Ev.eq (Ev.now _) (by simp [h0]))
theorem rowkey_ev {id : Int} {name : ByteArray} {key next : Int} {l : List S54} {kd mx : Int} (hk : Ev (fun k => rowcode_key.f k id name key next l) (kd, mx, 0)) (v : S52) (hv : OkVal v) :
    Ev (fun k => rowcode_Key.f k id name key next l v.f0 v.f1 v.f2) (if fitB kd mx v.f0 v.f1 v.f2 = true then (strOfNums (oneV v), 0) else (⟨#[]⟩, 10)) := by
  unfold rowcode_Key.f
  refine Ev.bind hk (Ev.congr (fun k => by rw [if_pos rfl]) (Ev.bind (fit_ev kd mx v.f0 v.f1 v.f2 hv.1) ?_))
  by_cases h : fitB kd mx v.f0 v.f1 v.f2 = true
  · rw [if_pos h]
    exact Ev.congr (fun k => by rw [if_pos h]) (Ev.bind (put_ev [] v hv (by simp)) (Ev.now _))
  · rw [if_neg h]
    exact Ev.congr (f := fun _ => some (⟨#[]⟩, 10)) (fun k => by rw [if_neg h]) (Ev.now _)
theorem lives_ev : Ev (fun k => haulagelaw12_lives.f k) true := Ev.of haulagelaw12_lives.mono (k := 40) (by decide +kernel)
theorem haulagelaw12_RowcodeKeys : ∀ (x0 : S24) (x1 : S52) (a2 : ByteArray), Ok24 x0 → Ok52 x1 → a2.size ≤ 140737488351232 → ∃ k, haulagelaw12_RowcodeKeys.f k x0.f0 x0.f1 x0.f2 x0.f3 x0.f4 x1.f0 x1.f1 x1.f2 a2 = some true := by
  intro x0 v s h0 h1 h2
  have hm : maxLen = 9223372036854775807 := by decide
  unfold Ok24 at h0
  unfold Ok52 at h1
  rw [hm] at h0
  refine Ev.rounds (r := true) ?_
  unfold haulagelaw12_RowcodeKeys.f
  refine Ev.bind lives_ev ?_
  refine Ev.congr (fun k => by rw [if_pos rfl]) ?_
  refine Ev.bind (few_ev _ _ _ _ _ h0.2.2.2.2.1) ?_
  have hjt : Ev (fun k => haulagelaw12_RowcodeKeys.j0 k s true x0.f0 x0.f1 x0.f2 x0.f3 x0.f4 v.f0 v.f1 v.f2) true := Ev.step (f := fun _ => some true) (fun k => by simp only [haulagelaw12_RowcodeKeys.j0]; rw [if_pos (by trivial)]) (Ev.now _)
  by_cases e1 : fewB x0.f1 x0.f4 = true
  · refine Ev.congr (fun k => by rw [if_pos e1]) ?_
    by_cases e2 : v.f2.size > 300
    · exact Ev.congr (fun k => by rw [if_pos (show (v.f2.size : Int) > 300 by omega)]) hjt
    · refine Ev.congr (fun k => by rw [if_neg (show ¬ (v.f2.size : Int) > 300 by omega)]) ?_
      by_cases e3 : s.size > 500
      · rw [decide_eq_true (show (s.size : Int) > 500 by omega)]
        exact hjt
      · rw [decide_eq_false (show ¬ (s.size : Int) > 500 by omega)]
        have hf := (fewB_iff x0.f1 x0.f4).1 e1
        have hok := okcols_of x0.f4 x0.f1 h0.2.2.2.2.2 e1
        have hv : OkVal v := ⟨by omega, h1.2.1⟩
        by_cases ht : tabB x0.f0 x0.f1 x0.f2 x0.f3 x0.f4 = true
        · obtain ⟨i, hi, hs1, hs2⟩ := key_at ht
          have hk := key_type_ev (by omega) hok (by omega) ht i hi hs1
          have hty := tabB_types ht _ (List.getElem_mem hi)
          have hrk := fun (z : ByteArray) (hz : z.size ≤ 1000000000) => readkey_ev hk hty z hz
          have href := rreadkey_ev (id := x0.f0) (name := x0.f1) (next := x0.f3) (by omega) i hi hs2 hty s (by omega)
          refine Ev.step (fun k => by simp only [haulagelaw12_RowcodeKeys.j0]; rw [if_neg (by simp)]) (Ev.bind (rowkey_ev hk v hv) (Ev.bind (hrk s (by omega)) (Ev.bind (rtable_ev x0.f0 x0.f1 x0.f2 x0.f3 x0.f4 (by omega) hok (by omega)) ?_)))
          refine Ev.congr (fun k => by rw [if_pos ht]) (Ev.bind href ?_)
          refine Ev.congr (fun k => by rw [if_neg (by simp)]) ?_
          refine Ev.step (fun k => by simp only [haulagelaw12_RowcodeKeys.j1]; rw [if_neg (by simp)]) (Ev.bind (rkey_ev x0.f0 x0.f1 x0.f2 x0.f3 x0.f4 (by omega)) ?_)
          rw [hs2]
          refine Ev.congr (fun k => by rw [if_pos (by omega), if_pos (by omega), rd_col x0.f4 i hi]) (Ev.bind (rfit_ev x0.f4[i].f2.f0 x0.f4[i].f2.f1 v.f0 v.f1 v.f2 hv.1 hv.2) ?_)
          by_cases hfit : fitB x0.f4[i].f2.f0 x0.f4[i].f2.f1 v.f0 v.f1 v.f2 = true
          · rw [if_pos hfit]
            have hlen := oneV_len v hv
            have hkind := fit_kind hfit
            have hback : readK x0.f4[i].f2.f0 x0.f4[i].f2.f1 (strOfNums (oneV v)) = (v, 0) := by
              have := readS_one x0.f4[i].f2.f0 x0.f4[i].f2.f1 v hv hfit ⟨#[]⟩
              rw [show strOfNums (oneV v) ++ (⟨#[]⟩ : ByteArray) = strOfNums (oneV v) from ByteArray.append_empty] at this
              unfold readK
              rw [this, if_pos rfl, strOfNums_size, if_neg (by simp only; omega)]
            have hsmall : (strOfNums (oneV v)).size ≤ 1000000000 := by
              rw [strOfNums_size]
              exact Nat.le_trans (oneV_small v hv (by omega)) (by decide)
            refine Ev.congr (fun k => by rw [if_pos hfit]) (Ev.bind (hrk _ hsmall) (Ev.bind (rone_ev v hv (by omega)) ?_))
            rw [hback]
            exact Ev.congr (f := fun _ => some true) (fun k => by rw [if_pos rfl, if_pos rfl, if_pos (by simp)]; rfl) (Ev.now _)
          · rw [if_neg hfit]
            exact Ev.congr (f := fun _ => some true) (fun k => by rw [if_neg hfit]; decide +kernel) (Ev.now _)
        · have hk := key_none_ev (by omega) hok ht
          have hkey : Ev (fun k => rowcode_Key.f k x0.f0 x0.f1 x0.f2 x0.f3 x0.f4 v.f0 v.f1 v.f2) ((⟨#[]⟩ : ByteArray), 2) := by
            unfold rowcode_Key.f
            exact Ev.bind hk (Ev.congr (f := fun _ => some ((⟨#[]⟩ : ByteArray), 2)) (fun k => by rw [if_neg (by simp)]) (Ev.now _))
          refine Ev.step (fun k => by simp only [haulagelaw12_RowcodeKeys.j0]; rw [if_neg (by simp)]) (Ev.bind hkey (Ev.bind (readkey_none hk s) (Ev.bind (rtable_ev x0.f0 x0.f1 x0.f2 x0.f3 x0.f4 (by omega) hok (by omega)) ?_)))
          exact Ev.congr (f := fun _ => some true) (fun k => by rw [if_neg ht]; decide +kernel) (Ev.now _)
  · exact Ev.congr (fun k => by rw [if_neg e1]) hjt
end Go.Proofs.YtdeophpjammbpaaDoor.Pure

/- For any value and any bytes: the value's bytes, and the value that the bytes begin with, or why there is none, are what the page says, and lead back; no condition but that the tables of the package level hold what the program's text lays in them. -/
import Derived.Test.YtgefikclhfjcgaaDoorHCatcodeValuesx19
import Derived.Test.YtgefikclhfjcgaaDoorOpenCatcodeValues
set_option linter.unusedVariables false
set_option linter.unusedSimpArgs false
namespace Go.Proofs.YtgefikclhfjcgaaDoor.Pure
open Go.RowKit Go.Proofs.YtgefikclhfjcgaaDoor.HCatcodeValues Go.Proofs.YtgefikclhfjcgaaDoorW.PrintWords Go.Proofs.YtgefikclhfjcgaaDoorW.PrintLast Go.Proofs.YtgefikclhfjcgaaDoorW.PrintMore
/- piece flat -/
theorem Ev.flat0 {α : Type} {g : Nat → Option α} {r : α} (d : Nat) (h : ∀ m, g (m + d) = some r) : Ev g r :=
  ⟨d, fun k hk => by obtain ⟨m, rfl⟩ : ∃ m, k = m + d := ⟨k - d, by omega⟩; exact h m⟩
theorem Ev.eq {α : Type} {g : Nat → Option α} {r s : α} (h : Ev g r) (e : r = s) : Ev g s := e ▸ h
theorem wrap_id (n : Int) (h0 : -9223372036854775808 ≤ n) (h1 : n ≤ 9223372036854775807) : wrap64 n = n := by
  unfold wrap64
  omega
theorem wrap_succ (n : Nat) (h : n < 9223372036854775807) : wrap64 ((n : Int) + 1) = ((n + 1 : Nat) : Int) := by
  rw [wrap_id _ (by omega) (by omega)]
  omega
theorem beq_dec (a b : Int) : (a == b) = decide (a = b) := by rw [Bool.eq_iff_iff, beq_iff_eq, decide_eq_true_iff]
theorem ba_inj {a b : ByteArray} (h : a.toList = b.toList) : a = b := by
  rw [ByteArray.toList_eq, ByteArray.toList_eq] at h
  exact ByteArray.ext (Array.toList_inj.1 h)
theorem ba_iff (a b : ByteArray) : a.toList = b.toList ↔ a = b := ⟨ba_inj, fun h => by rw [h]⟩
theorem ba_nil (a : ByteArray) : a.toList = ([] : List UInt8) ↔ a.size = 0 := by
  rw [ByteArray.toList_eq, ← List.length_eq_zero_iff, Array.length_toList]
  exact Iff.rfl
/- piece base -/
theorem tmod_nonneg_eq (a b : Int) (ha : 0 ≤ a) : Int.tmod a b = a % b := Int.tmod_eq_emod_of_nonneg ha
theorem tdiv_nonneg_eq (a b : Int) (ha : 0 ≤ a) : Int.tdiv a b = a / b := Int.tdiv_eq_ediv_of_nonneg ha
theorem u64_id (n : Int) (h0 : 0 ≤ n) (h1 : n < 18446744073709551616) : IntKind.u64.wrap n = n := by
  simp only [IntKind.wrap, IntKind.bits, IntKind.signed]
  simp
  omega
theorem i64_eq (n : Int) : IntKind.i64.wrap n = wrap64 n := by unfold wrap64; exact Go.IntKind.wrap_i64 n
theorem u64_eq (n : Int) : IntKind.u64.wrap n = n % 18446744073709551616 := by simp [IntKind.wrap, IntKind.bits, IntKind.signed]
theorem wf_parts {k : IntKind} {x : Int} (h : (Lit.int k x).wf = true) : k.min ≤ x ∧ x ≤ k.max := by
  unfold Lit.wf at h
  rw [Bool.and_eq_true, decide_eq_true_eq, decide_eq_true_eq] at h
  exact h
theorem wf_i64 {x : Int} (h : (Lit.int .i64 x).wf = true) : -9223372036854775808 ≤ x ∧ x ≤ 9223372036854775807 := by
  have := wf_parts h
  rw [show IntKind.min .i64 = -9223372036854775808 by decide, show IntKind.max .i64 = 9223372036854775807 by decide] at this
  exact this
def byt (s : ByteArray) : List Int := s.data.toList.map fun c => (c.toNat : Int)
def Bytes (l : List Int) : Prop := ∀ x ∈ l, 0 ≤ x ∧ x ≤ 255
theorem byt_len (s : ByteArray) : (byt s).length = s.size := by
  unfold byt
  rw [List.length_map, Array.length_toList]
  rfl
theorem byt_bytes (s : ByteArray) : Bytes (byt s) := by
  intro x hx
  obtain ⟨c, _, rfl⟩ := List.mem_map.1 hx
  have := c.toNat_lt
  omega
theorem str_byt (s : ByteArray) : strOfNums (byt s) = s := by
  apply ByteArray.ext
  unfold strOfNums byt
  rw [List.map_map]
  have : ((fun n : Int => UInt8.ofNat n.toNat) ∘ fun c : UInt8 => (c.toNat : Int)) = id := by
    funext c
    simp
  rw [this]
  simp
theorem byt_str {l : List Int} (h : Bytes l) : byt (strOfNums l) = l := by
  unfold strOfNums byt
  rw [List.toList_toArray, List.map_map]
  have : ∀ x ∈ l, ((fun c : UInt8 => (c.toNat : Int)) ∘ fun n : Int => UInt8.ofNat n.toNat) x = x := by
    intro x hx
    have := h x hx
    simp only [Function.comp]
    rw [UInt8.toNat_ofNat', Nat.mod_eq_of_lt (by omega)]
    omega
  rw [List.map_congr_left this]
  simp
theorem byt_append (a b : ByteArray) : byt (a ++ b) = byt a ++ byt b := by
  unfold byt
  rw [show (a ++ b).data.toList = a.data.toList ++ b.data.toList by simp, List.map_append]
theorem byt_inj {a b : ByteArray} (h : byt a = byt b) : a = b := by rw [← str_byt a, h, str_byt]
theorem byt_extract (s : ByteArray) (a b : Nat) : byt (s.extract a b) = ((byt s).drop a).take (b - a) := by
  unfold byt
  rw [show (s.extract a b).data.toList = (s.data.toList.drop a).take (b - a) by simp [ByteArray.data_extract, Array.toList_extract, List.extract_eq_take_drop], List.map_take, List.map_drop]
theorem byt_cut (s : ByteArray) (a : Nat) : byt (s.extract a s.size) = (byt s).drop a := by
  rw [byt_extract, ← byt_len, List.take_of_length_le (by simp)]
theorem byt_to (s : ByteArray) (b : Nat) : byt (s.extract 0 b) = (byt s).take b := by
  rw [byt_extract]; simp
theorem bt_byt (s : ByteArray) (i : Nat) (h : i < s.size) : bt s (i : Int) = (byt s)[i]'(by rw [byt_len]; exact h) := by
  unfold bt byt
  simp [h]
  rfl
theorem Bytes.append {a b : List Int} (h : Bytes a) (k : Bytes b) : Bytes (a ++ b) := by
  intro x hx
  rcases List.mem_append.1 hx with h1 | h1
  · exact h x h1
  · exact k x h1
theorem Bytes.take {a : List Int} (h : Bytes a) (n : Nat) : Bytes (a.take n) := fun x hx => h x (List.mem_of_mem_take hx)
theorem Bytes.drop {a : List Int} (h : Bytes a) (n : Nat) : Bytes (a.drop n) := fun x hx => h x (List.mem_of_mem_drop hx)
theorem strOfNums_append (a b : List Int) : strOfNums (a ++ b) = strOfNums a ++ strOfNums b := by
  apply ByteArray.ext
  simp [strOfNums]
theorem strOfNums_size (a : List Int) : (strOfNums a).size = a.length := by simp [strOfNums, ByteArray.size]
/- piece scan -/
def scan {α : Type} (p : α → Bool) : List α → Nat → Int × Bool
  | [], _ => (0, false)
  | x :: r, i => if p x = true then ((i : Int), true) else scan p r (i + 1)
def isB (n : Int) : Bool := decide (0 ≤ n ∧ n ≤ 1114111 ∧ (n < 55296 ∨ 57343 < n))
theorem isB_iff (n : Int) : isB n = true ↔ 0 ≤ n ∧ n ≤ 1114111 ∧ (n < 55296 ∨ 57343 < n) := by simp [isB]
def finU (n lo size : Int) : Int × Int × Bool := if isB n = true ∧ lo ≤ n then (n, size, true) else (0, 0, false)
def sgn : List Int → Int × Int × Bool
  | [] => (0, 0, false)
  | c :: r =>
    if c < 128 then (c, 1, true)
    else if c / 32 = 6 then (match r with | b1 :: _ => if b1 / 64 = 2 then finU ((c - 192) * 64 + (b1 - 128)) 128 2 else (0, 0, false) | [] => (0, 0, false))
    else if c / 16 = 14 then (match r with | b1 :: b2 :: _ => if b1 / 64 = 2 then (if b2 / 64 = 2 then finU (((c - 224) * 64 + (b1 - 128)) * 64 + (b2 - 128)) 2048 3 else (0, 0, false)) else (0, 0, false) | _ => (0, 0, false))
    else if c / 8 = 30 then (match r with | b1 :: b2 :: b3 :: _ => if b1 / 64 = 2 then (if b2 / 64 = 2 then (if b3 / 64 = 2 then finU ((((c - 240) * 64 + (b1 - 128)) * 64 + (b2 - 128)) * 64 + (b3 - 128)) 65536 4 else (0, 0, false)) else (0, 0, false)) else (0, 0, false) | _ => (0, 0, false))
    else (0, 0, false)
theorem byt_at {s : ByteArray} {l : List Int} (h : byt s = l) (i : Nat) (x : Int) (hx : l[i]? = some x) : bt s (i : Int) = x := by
  subst h
  obtain ⟨h1, h2⟩ := List.getElem?_eq_some_iff.1 hx
  rw [bt_byt s i (by rw [byt_len] at h1; exact h1)]
  exact h2
theorem uis_eq (n : Int) : utf_is.f n = some (isB n) := by
  unfold utf_is.f isB
  by_cases h1 : 0 ≤ n <;> by_cases h2 : n ≤ 1114111 <;> by_cases h3 : n < 55296 <;> simp [h1, h2, h3]
def widU (n : Int) : Int := if 65536 ≤ n then 4 else if 2048 ≤ n then 3 else if 128 ≤ n then 2 else 1
theorem uwidth_ev (n : Int) : Ev (fun k => utf_width.f k n) (widU n) := by
  refine Ev.flat0 6 (fun m => ?_)
  unfold widU
  simp only [utf_width.f, utf_width.l0]
  have e3 : wrap64 (4 - 1) = 3 := by decide +kernel
  have e2 : wrap64 (3 - 1) = 2 := by decide +kernel
  have e1 : wrap64 (2 - 1) = 1 := by decide +kernel
  rw [e3, e2, e1]
  have r4 : rd G1 4 = 65536 := by decide
  have r3 : rd G1 3 = 2048 := by decide
  have r2 : rd G1 2 = 128 := by decide
  rw [r4, r3, r2]
  by_cases h1 : 65536 ≤ n
  · simp [h1]
  · by_cases h2 : 2048 ≤ n
    · simp [h1, h2]
    · by_cases h3 : 128 ≤ n
      · simp [h1, h2, h3]
      · simp [h1, h2, h3]
theorem u8m (c : Int) (h0 : 0 ≤ c) (h1 : c ≤ 255) : Go.bits .and .u8 c 31 = c % 32 ∧ Go.bits .and .u8 c 15 = c % 16 ∧ Go.bits .and .u8 c 7 = c % 8 ∧ Go.bits .and .u8 c 63 = c % 64 := by
  have m := fun i hi => Go.bits_mask .u8 8 (by decide) Go.wraps_u8 i hi c h0 (by omega)
  exact ⟨m 5 (by decide), m 4 (by decide), m 3 (by decide), m 6 (by decide)⟩
theorem ulead_eq (c : Int) (h0 : 0 ≤ c) (h1 : c ≤ 255) : utf_lead.f c = some (if c < 128 then (1, c) else if c / 32 = 6 then (2, c - 192) else if c / 16 = 14 then (3, c - 224) else if c / 8 = 30 then (4, c - 240) else (0, 0)) := by
  unfold utf_lead.f
  obtain ⟨m1, m2, m3, _⟩ := u8m c h0 h1
  rw [m1, m2, m3, wrap_id c (by omega) (by omega), wrap_id (c % 32) (by omega) (by omega), wrap_id (c % 16) (by omega) (by omega), wrap_id (c % 8) (by omega) (by omega)]
  split
  · rfl
  · split
    · rw [show c % 32 = c - 192 by omega]
    · split
      · rw [show c % 16 = c - 224 by omega]
      · split
        · rw [show c % 8 = c - 240 by omega]
        · rfl
theorem wraps_i64p (n : Int) (h0 : 0 ≤ n) (h1 : n < 2 ^ 63) : IntKind.i64.wrap n = n := by rw [Go.IntKind.wrap_i64]; omega
theorem uacc (n b : Int) (hn : 0 ≤ n) (hn1 : n < 10000000) (hb : b / 64 = 2) : Go.bits .or .i64 (wrap64 (n * 64)) (wrap64 (Go.bits .and .u8 b 63)) = n * 64 + (b - 128) := by
  rw [(u8m b (by omega) (by omega)).2.2.2, wrap_id (n * 64) (by omega) (by omega), wrap_id (b % 64) (by omega) (by omega), show b % 64 = b - 128 by omega]
  exact Go.bits_join .i64 63 (by decide) wraps_i64p 6 (n * 64) (b - 128) (by omega) (by omega) (by omega) (by omega) (by omega) (by omega)
theorem ul0_end (s : ByteArray) (n size i : Int) (h : ¬ i < size) : Ev (fun k => utf_Read.l0 k s n size i) (if isB n = true then (if widU n = size then (n, size, true) else (0, 0, false)) else (0, 0, false)) := by
  refine Ev.step (f := fun k => if isB n = true then ((utf_width.f k n).bind fun t => if t = size then some (n, size, true) else some (0, 0, false)) else some (0, 0, false)) (fun k => ?_) ?_
  · simp only [utf_Read.l0]
    rw [if_neg h, uis_eq, Option.bind_some]
  · by_cases h1 : isB n = true
    · rw [if_pos h1]
      refine Ev.congr (fun k => by rw [if_pos h1]) (Ev.bind (uwidth_ev n) ?_)
      split
      · exact Ev.now _
      · exact Ev.now _
    · rw [if_neg h1]
      exact Ev.congr (f := fun _ => some (0, 0, false)) (fun k => by rw [if_neg h1]) (Ev.now _)
theorem ul0_step (s : ByteArray) (n size : Int) (i : Nat) (b : Int) (r : Int × Int × Bool) (h : (i : Int) < size) (hi : i < s.size) (hs : s.size ≤ 9223372036854775807) (hb : bt s (i : Int) = b) (hn : 0 ≤ n) (hn1 : n < 10000000)
    (hk : b / 64 = 2 → Ev (fun k => utf_Read.l0 k s (n * 64 + (b - 128)) size ((i + 1 : Nat) : Int)) r) (hx : ¬ b / 64 = 2 → r = (0, 0, false)) : Ev (fun k => utf_Read.l0 k s n size (i : Int)) r := by
  by_cases h2 : b / 64 = 2
  · refine Ev.step (fun k => ?_) (hk h2)
    simp only [utf_Read.l0]
    rw [if_pos h, if_pos (by omega), if_pos (by omega), hb, if_pos h2, uacc n b hn hn1 h2, wrap_succ _ (by omega)]
  · rw [hx h2]
    refine Ev.step (f := fun _ => some (0, 0, false)) (fun k => ?_) (Ev.now _)
    simp only [utf_Read.l0]
    rw [if_pos h, if_pos (by omega), if_pos (by omega), hb, if_neg h2]
theorem finU_wid (n lo hi size : Int) (h : n < hi) (hw : ∀ n, 0 ≤ n → n < hi → (widU n = size ↔ lo ≤ n)) : (if isB n = true then (if widU n = size then (n, size, true) else ((0 : Int), (0 : Int), false)) else (0, 0, false)) = finU n lo size := by
  unfold finU
  by_cases h1 : isB n = true
  · rw [if_pos h1]
    have h0 := ((isB_iff n).1 h1).1
    by_cases h2 : lo ≤ n
    · rw [if_pos ((hw n h0 h).2 h2), if_pos ⟨h1, h2⟩]
    · rw [if_neg (fun e => h2 ((hw n h0 h).1 e)), if_neg (fun e => h2 e.2)]
  · rw [if_neg h1, if_neg (fun e => h1 e.1)]
theorem uread_ev (s : ByteArray) (hs : s.size ≤ 9223372036854775807) : Ev (fun k => utf_Read.f k s) (sgn (byt s)) := by
  have hlen := byt_len s
  have hby := byt_bytes s
  unfold utf_Read.f
  generalize hl : byt s = l at hlen hby
  cases l with
  | nil =>
    exact Ev.congr (f := fun _ => some (0, 0, false)) (fun k => by rw [if_pos ((ba_nil s).2 (by rw [← hlen]; rfl))]) (Ev.now _)
  | cons c r =>
    have hz : s.size = r.length + 1 := by rw [← hlen]; rfl
    have hc := hby c (by simp)
    have e0 : bt s 0 = c := byt_at hl 0 c rfl
    refine Ev.congr (fun k => by rw [if_neg (fun e => by have := (ba_nil s).1 e; omega), if_pos (by omega), e0, ulead_eq c hc.1 hc.2, Option.bind_some]) ?_
    have hbad : ∀ n size : Int, (size : Int) > (s.size : Int) → Ev (fun k => utf_Read.j0 k s n size (decide (size > (s.size : Int)))) (0, 0, false) := fun n size h =>
      Ev.step (f := fun _ => some (0, 0, false)) (fun k => by simp only [utf_Read.j0]; rw [if_pos (by simpa using h)]) (Ev.now _)
    have hgo : ∀ (n size : Int) (r), ¬ (size : Int) > (s.size : Int) → Ev (fun k => utf_Read.l0 k s n size ((1 : Nat) : Int)) r → Ev (fun k => utf_Read.j0 k s n size (decide (size > (s.size : Int)))) r := fun n size r h hk =>
      Ev.step (fun k => by simp only [utf_Read.j0]; rw [if_neg (by simpa using h)]; rfl) hk
    simp only [sgn]
    by_cases h1 : c < 128
    · simp only [if_pos h1]
      refine Ev.congr (fun k => by rw [if_neg (by decide)]) (hgo _ _ _ (by omega) ?_)
      refine Ev.eq (ul0_end s c 1 ((1 : Nat) : Int) (by omega)) ?_
      rw [if_pos ((isB_iff c).2 (by omega)), if_pos (by unfold widU; rw [if_neg (by omega), if_neg (by omega), if_neg (by omega)])]
    · simp only [if_neg h1]
      by_cases h2 : c / 32 = 6
      · simp only [if_pos h2]
        refine Ev.congr (fun k => by rw [if_neg (by decide)]) ?_
        cases r with
        | nil => exact hbad _ _ (by simp at hz; omega)
        | cons b1 r =>
          simp only [List.length_cons] at hz
          dsimp only
          have q1 := hby b1 (by simp)
          refine hgo _ _ _ (by omega) (ul0_step s _ _ 1 b1 _ (by omega) (by omega) hs (byt_at hl 1 b1 rfl) (by omega) (by omega) (fun e1 => ?_) (fun e1 => if_neg e1))
          rw [if_pos e1]
          exact Ev.eq (ul0_end s _ 2 ((2 : Nat) : Int) (by omega)) (finU_wid _ 128 2048 2 (by omega) (fun n _ _ => by unfold widU; split <;> (try split) <;> (try split) <;> omega))
      · simp only [if_neg h2]
        by_cases h3 : c / 16 = 14
        · simp only [if_pos h3]
          refine Ev.congr (fun k => by rw [if_neg (by decide)]) ?_
          cases r with
          | nil => exact hbad _ _ (by simp at hz; omega)
          | cons b1 r =>
            cases r with
            | nil => exact hbad _ _ (by simp at hz; omega)
            | cons b2 r =>
              simp only [List.length_cons] at hz
              dsimp only
              have q1 := hby b1 (by simp)
              have q2 := hby b2 (by simp)
              refine hgo _ _ _ (by omega) (ul0_step s _ _ 1 b1 _ (by omega) (by omega) hs (byt_at hl 1 b1 rfl) (by omega) (by omega) (fun e1 => ?_) (fun e1 => if_neg e1))
              rw [if_pos e1]
              refine ul0_step s _ _ 2 b2 _ (by omega) (by omega) hs (byt_at hl 2 b2 rfl) (by omega) (by omega) (fun e2 => ?_) (fun e2 => if_neg e2)
              rw [if_pos e2]
              exact Ev.eq (ul0_end s _ 3 ((3 : Nat) : Int) (by omega)) (finU_wid _ 2048 65536 3 (by omega) (fun n _ _ => by unfold widU; split <;> (try split) <;> (try split) <;> omega))
        · simp only [if_neg h3]
          by_cases h4 : c / 8 = 30
          · simp only [if_pos h4]
            refine Ev.congr (fun k => by rw [if_neg (by decide)]) ?_
            cases r with
            | nil => exact hbad _ _ (by simp at hz; omega)
            | cons b1 r =>
              cases r with
              | nil => exact hbad _ _ (by simp at hz; omega)
              | cons b2 r =>
                cases r with
                | nil => exact hbad _ _ (by simp at hz; omega)
                | cons b3 r =>
                  simp only [List.length_cons] at hz
                  dsimp only
                  have q1 := hby b1 (by simp)
                  have q2 := hby b2 (by simp)
                  have q3 := hby b3 (by simp)
                  refine hgo _ _ _ (by omega) (ul0_step s _ _ 1 b1 _ (by omega) (by omega) hs (byt_at hl 1 b1 rfl) (by omega) (by omega) (fun e1 => ?_) (fun e1 => if_neg e1))
                  rw [if_pos e1]
                  refine ul0_step s _ _ 2 b2 _ (by omega) (by omega) hs (byt_at hl 2 b2 rfl) (by omega) (by omega) (fun e2 => ?_) (fun e2 => if_neg e2)
                  rw [if_pos e2]
                  refine ul0_step s _ _ 3 b3 _ (by omega) (by omega) hs (byt_at hl 3 b3 rfl) (by omega) (by omega) (fun e3 => ?_) (fun e3 => if_neg e3)
                  rw [if_pos e3]
                  exact Ev.eq (ul0_end s _ 4 ((4 : Nat) : Int) (by omega)) (finU_wid _ 65536 100000000 4 (by omega) (fun n _ _ => by unfold widU; split <;> (try split) <;> (try split) <;> omega))
          · simp only [if_neg h4]
            refine Ev.congr (fun k => by rw [if_pos (by trivial)]) ?_
            exact Ev.step (f := fun _ => some (0, 0, false)) (fun k => by simp only [utf_Read.j0]; rw [if_pos (by trivial)]) (Ev.now _)
theorem sgn_ok (l : List Int) : (sgn l).2.2 = true → 1 ≤ (sgn l).2.1 ∧ (sgn l).2.1 ≤ (l.length : Int) := by
  have hf : ∀ n lo size len : Int, 1 ≤ size → size ≤ len → (finU n lo size).2.2 = true → 1 ≤ (finU n lo size).2.1 ∧ (finU n lo size).2.1 ≤ len := fun n lo size len h1 h2 h => by
    unfold finU at h ⊢
    by_cases e : isB n = true ∧ lo ≤ n
    · rw [if_pos e]
      exact ⟨h1, h2⟩
    · rw [if_neg e] at h
      cases h
  have hb : ∀ len : Int, ((0 : Int), (0 : Int), false).2.2 = true → 1 ≤ ((0 : Int), (0 : Int), false).2.1 ∧ ((0 : Int), (0 : Int), false).2.1 ≤ len := fun _ h => by cases h
  cases l with
  | nil => exact hb _
  | cons c r =>
    simp only [sgn]
    by_cases h1 : c < 128
    · simp only [if_pos h1, List.length_cons]
      intro _
      omega
    · simp only [if_neg h1]
      by_cases h2 : c / 32 = 6
      · simp only [if_pos h2]
        cases r with
        | nil => exact hb _
        | cons b1 r =>
          dsimp only
          by_cases e1 : b1 / 64 = 2
          · rw [if_pos e1]
            exact hf _ _ _ _ (by omega) (by simp only [List.length_cons]; omega)
          · rw [if_neg e1]
            exact hb _
      · simp only [if_neg h2]
        by_cases h3 : c / 16 = 14
        · simp only [if_pos h3]
          cases r with
          | nil => exact hb _
          | cons b1 r =>
            cases r with
            | nil => exact hb _
            | cons b2 r =>
              dsimp only
              by_cases e1 : b1 / 64 = 2
              · rw [if_pos e1]
                by_cases e2 : b2 / 64 = 2
                · rw [if_pos e2]
                  exact hf _ _ _ _ (by omega) (by simp only [List.length_cons]; omega)
                · rw [if_neg e2]
                  exact hb _
              · rw [if_neg e1]
                exact hb _
        · simp only [if_neg h3]
          by_cases h4 : c / 8 = 30
          · simp only [if_pos h4]
            cases r with
            | nil => exact hb _
            | cons b1 r =>
              cases r with
              | nil => exact hb _
              | cons b2 r =>
                cases r with
                | nil => exact hb _
                | cons b3 r =>
                  dsimp only
                  by_cases e1 : b1 / 64 = 2
                  · rw [if_pos e1]
                    by_cases e2 : b2 / 64 = 2
                    · rw [if_pos e2]
                      by_cases e3 : b3 / 64 = 2
                      · rw [if_pos e3]
                        exact hf _ _ _ _ (by omega) (by simp only [List.length_cons]; omega)
                      · rw [if_neg e3]
                        exact hb _
                    · rw [if_neg e2]
                      exact hb _
                  · rw [if_neg e1]
                    exact hb _
          · simp only [if_neg h4]
            exact hb _
def utfD : Nat → List Int → Bool
  | 0, l => l.isEmpty
  | d + 1, l => if l = [] then true else if (sgn l).2.2 = true then utfD d (l.drop (sgn l).2.1.toNat) else false
def utfB (s : ByteArray) : Bool := utfD s.size (byt s)
def utfN : Nat → List Int → Int → Bool × Int
  | 0, l, n => (l.isEmpty, n)
  | d + 1, l, n => if l = [] then (true, n) else if (sgn l).2.2 = true then utfN d (l.drop (sgn l).2.1.toNat) (n + 1) else (false, n)
theorem utfN_fst (d : Nat) : ∀ l n, (utfN d l n).1 = utfD d l := by
  induction d with
  | zero => intro l n; rfl
  | succ d ih =>
    intro l n
    simp only [utfN, utfD]
    split
    · rfl
    · split
      · exact ih _ _
      · rfl
theorem utfN_snd (d : Nat) : ∀ l (n : Int), n ≤ (utfN d l n).2 := by
  induction d with
  | zero => intro l n; exact Int.le_refl _
  | succ d ih =>
    intro l n
    simp only [utfN]
    split
    · exact Int.le_refl _
    · split
      · have := ih (l.drop (sgn l).2.1.toNat) (n + 1)
        omega
      · exact Int.le_refl _
theorem uwalk_l0 (s : ByteArray) (hs : s.size ≤ 1000000000) (d : Nat) : ∀ (i : Nat) (n : Int), s.size - i ≤ d → i ≤ s.size → 0 ≤ n → n + (s.size - i : Nat) ≤ 2000000000 →
    Ev (fun k => utf_walk_f140.l0 k s (i : Int) n) (utfN d ((byt s).drop i) n) := by
  induction d with
  | zero =>
    intro i n hd hi h0 hn
    refine Ev.step (f := fun _ => some (true, n)) (fun k => by simp only [utf_walk_f140.l0]; rw [if_neg (by omega)]) ?_
    have e : (byt s).drop i = [] := List.drop_eq_nil_of_le (by rw [byt_len]; omega)
    rw [e]
    exact Ev.now _
  | succ d ih =>
    intro i n hd hi h0 hn
    by_cases h : i < s.size
    · have hne : ¬ (byt s).drop i = [] := fun e => by
        have := List.drop_eq_nil_iff.1 e
        rw [byt_len] at this
        omega
      have hcut := byt_cut s i
      have hlen : ((byt s).drop i).length = s.size - i := by rw [List.length_drop, byt_len]
      have hok := sgn_ok ((byt s).drop i)
      refine Ev.step (f := fun k => (utf_Read.f k (s.extract i s.size)).bind fun bt => if bt.2.2 = true then ((utf_Count_1.f (i : Int) bt.1 n).bind fun t => utf_walk_f140.l0 k s (wrap64 ((i : Int) + bt.2.1)) t) else some (false, n)) (fun k => ?_) ?_
      · simp only [utf_walk_f140.l0]
        rw [if_pos (by omega), if_pos (by omega), if_pos (by omega), show ((i : Int)).toNat = i by omega]
      · refine Ev.bind (uread_ev _ (by rw [ByteArray.size_extract]; omega)) ?_
        rw [hcut]
        simp only [utfN]
        rw [if_neg hne]
        by_cases h1 : (sgn ((byt s).drop i)).2.2 = true
        · rw [if_pos h1]
          obtain ⟨h2, h3⟩ := hok h1
          have := ih (i + (sgn ((byt s).drop i)).2.1.toNat) (n + 1) (by omega) (by omega) (by omega) (by omega)
          rw [← List.drop_drop] at this
          refine Ev.congr (fun k => ?_) this
          rw [if_pos h1]
          simp only [utf_Count_1.f, Option.bind_some]
          rw [wrap_id (n + 1) (by omega) (by omega), wrap_id _ (by omega) (by omega), show (i : Int) + (sgn ((byt s).drop i)).2.1 = ((i + (sgn ((byt s).drop i)).2.1.toNat : Nat) : Int) by omega]
        · rw [if_neg h1]
          exact Ev.congr (f := fun _ => some (false, n)) (fun k => by rw [if_neg h1]) (Ev.now _)
    · have e : (byt s).drop i = [] := List.drop_eq_nil_of_le (by rw [byt_len]; omega)
      rw [e]
      simp only [utfN]
      rw [if_pos (by trivial)]
      exact Ev.step (f := fun _ => some (true, n)) (fun k => by simp only [utf_walk_f140.l0]; rw [if_neg (by omega)]) (Ev.now _)
theorem uright_ev (s : ByteArray) (hs : s.size ≤ 1000000000) : Ev (fun k => utf_Right.f k s) (utfB s) := by
  have h := uwalk_l0 s hs s.size 0 0 (by omega) (by omega) (by omega) (by omega)
  rw [List.drop_zero] at h
  have h1 := utfN_fst s.size (byt s) 0
  have h2 := utfN_snd s.size (byt s) 0
  unfold utf_Right.f utf_Count.f utf_walk_f140.f
  refine Ev.bind (a := if (utfN s.size (byt s) 0).1 = true then (utfN s.size (byt s) 0).2 else -1) (Ev.bind h ?_) ?_
  · by_cases e : (utfN s.size (byt s) 0).1 = true
    · exact Ev.congr (f := fun _ => some _) (fun k => by rw [if_pos e, if_pos e]) (Ev.now _)
    · exact Ev.congr (f := fun _ => some _) (fun k => by rw [if_neg e, if_neg e]) (Ev.now _)
  · refine Ev.congr (f := fun _ => some (utfB s)) (fun k => ?_) (Ev.now _)
    congr 1
    unfold utfB
    rw [← h1]
    by_cases e : (utfN s.size (byt s) 0).1 = true
    · rw [if_pos e, e]
      simpa using h2
    · rw [if_neg e]
      simp at e
      rw [e]
      decide
/- piece refutf -/
theorem ris_eq (n : Int) : haulageref03_Is.f n = some (isB n) := by
  unfold haulageref03_Is.f isB
  by_cases h1 : 0 ≤ n <;> by_cases h2 : n ≤ 1114111 <;> by_cases h3 : n < 55296 <;> simp [h1, h2, h3]
def putU (n : Int) : List Int :=
  if n < 128 then [n] else if n < 2048 then [192 + n / 64, 128 + n % 64] else if n < 65536 then [224 + n / 4096, 128 + n / 64 % 64, 128 + n % 64] else [240 + n / 262144, 128 + n / 4096 % 64, 128 + n / 64 % 64, 128 + n % 64]
theorem putU_bytes (n : Int) (h : isB n = true) : Bytes (putU n) := by
  have h := (isB_iff n).1 h
  unfold putU
  intro x hx
  split at hx
  · simp only [List.mem_cons, List.not_mem_nil, or_false] at hx
    omega
  · split at hx
    · simp only [List.mem_cons, List.not_mem_nil, or_false] at hx
      rcases hx with rfl | rfl <;> omega
    · split at hx
      · simp only [List.mem_cons, List.not_mem_nil, or_false] at hx
        rcases hx with rfl | rfl | rfl <;> omega
      · simp only [List.mem_cons, List.not_mem_nil, or_false] at hx
        rcases hx with rfl | rfl | rfl | rfl <;> omega
theorem one_eq (n : Int) (h0 : 0 ≤ n) (h1 : n ≤ 255) : haulageref03_one.f n = some (strOfNums [n]) := by
  unfold haulageref03_one.f
  rw [Int.emod_eq_of_lt h0 (by omega)]
theorem rput_eq (n : Int) (h : isB n = true) : haulageref03_Put.f n = some (strOfNums (putU n)) := by
  have h := (isB_iff n).1 h
  unfold haulageref03_Put.f putU
  have t1 : Int.tdiv n 64 = n / 64 := Int.tdiv_eq_ediv_of_nonneg h.1
  have t2 : Int.tdiv n 4096 = n / 4096 := Int.tdiv_eq_ediv_of_nonneg h.1
  have t3 : Int.tdiv n 262144 = n / 262144 := Int.tdiv_eq_ediv_of_nonneg h.1
  have t4 : Int.tmod n 64 = n % 64 := Int.tmod_eq_emod_of_nonneg h.1
  have t5 : Int.tmod (n / 64) 64 = n / 64 % 64 := Int.tmod_eq_emod_of_nonneg (by omega)
  have t6 : Int.tmod (n / 4096) 64 = n / 4096 % 64 := Int.tmod_eq_emod_of_nonneg (by omega)
  have hz : ∀ l : List Int, (strOfNums l).size = l.length := strOfNums_size
  by_cases h1 : n < 128
  · rw [if_pos h1, if_pos h1, one_eq n h.1 (by omega), Option.bind_some]
  · rw [if_neg h1, if_neg h1]
    rw [t1, t2, t3, t4, wrap_id (n / 64) (by omega) (by omega), wrap_id (n / 4096) (by omega) (by omega), wrap_id (n / 262144) (by omega) (by omega), t5, t6,
      wrap_id (192 + n / 64) (by omega) (by omega), wrap_id (128 + n % 64) (by omega) (by omega), wrap_id (224 + n / 4096) (by omega) (by omega), wrap_id (128 + n / 64 % 64) (by omega) (by omega), wrap_id (240 + n / 262144) (by omega) (by omega), wrap_id (128 + n / 4096 % 64) (by omega) (by omega)]
    by_cases h2 : n < 2048
    · rw [if_pos h2, if_pos h2, one_eq _ (by omega) (by omega), one_eq (128 + n % 64) (by omega) (by omega)]
      simp only [Option.bind_some]
      rw [if_pos (by rw [hz, hz]; simp), ← strOfNums_append]
      rfl
    · rw [if_neg h2, if_neg h2]
      by_cases h3 : n < 65536
      · rw [if_pos h3, if_pos h3, one_eq _ (by omega) (by omega), one_eq (128 + n / 64 % 64) (by omega) (by omega), one_eq (128 + n % 64) (by omega) (by omega)]
        simp only [Option.bind_some]
        rw [if_pos (by rw [hz, hz]; simp), ← strOfNums_append, if_pos (by rw [hz, hz]; simp), ← strOfNums_append]
        rfl
      · rw [if_neg h3, if_neg h3, one_eq _ (by omega) (by omega), one_eq (128 + n / 4096 % 64) (by omega) (by omega), one_eq (128 + n / 64 % 64) (by omega) (by omega), one_eq (128 + n % 64) (by omega) (by omega)]
        simp only [Option.bind_some]
        rw [if_pos (by rw [hz, hz]; simp), ← strOfNums_append, if_pos (by rw [hz, hz]; simp), ← strOfNums_append, if_pos (by rw [hz, hz]; simp), ← strOfNums_append]
        rfl
theorem rl1_end (s : ByteArray) (size : Nat) (n i : Int) (h : ¬ i < (size : Int)) (hz : size ≤ s.size) (h4 : size ≤ 4) (r : Int × Int × Bool)
    (hy : isB n = true → putU n = (byt s).take size → r = (n, (size : Int), true)) (hn : ¬ (isB n = true ∧ putU n = (byt s).take size) → Ev (fun k => haulageref03_Read.l0 k s ((size + 1 : Nat) : Int)) r) : Ev (fun k => haulageref03_Read.l1 k s (size : Int) n i) r := by
  by_cases h1 : isB n = true
  · have hc : (strOfNums (putU n)).toList = (s.extract 0 size).toList ↔ putU n = (byt s).take size := by
      rw [ba_iff]
      constructor
      · intro e
        have := congrArg byt e
        rw [byt_str (putU_bytes n h1), byt_to] at this
        exact this
      · intro e
        rw [e, ← byt_to, str_byt]
    by_cases h2 : putU n = (byt s).take size
    · rw [hy h1 h2]
      refine Ev.step (f := fun _ => some (n, (size : Int), true)) (fun k => ?_) (Ev.now _)
      simp only [haulageref03_Read.l1]
      rw [if_neg h, ris_eq, Option.bind_some, if_pos h1, rput_eq n h1, Option.bind_some, if_pos (by omega), if_pos (by omega), show ((size : Int)).toNat = size by omega, if_pos (hc.2 h2)]
    · refine Ev.step (fun k => ?_) (hn (fun e => h2 e.2))
      simp only [haulageref03_Read.l1]
      rw [if_neg h, ris_eq, Option.bind_some, if_pos h1, rput_eq n h1, Option.bind_some, if_pos (by omega), if_pos (by omega), show ((size : Int)).toNat = size by omega, if_neg (fun e => h2 (hc.1 e)), wrap_succ _ (by omega)]
  · refine Ev.step (fun k => ?_) (hn (fun e => h1 e.1))
    simp only [haulageref03_Read.l1]
    rw [if_neg h, ris_eq, Option.bind_some, if_neg h1, wrap_succ _ (by omega)]
theorem rl1_step (s : ByteArray) (size : Int) (n b : Int) (i : Nat) (h : (i : Int) < size) (hi : i < s.size) (hs : s.size ≤ 9223372036854775807) (hb : bt s (i : Int) = b) (hb0 : 0 ≤ b) (hb1 : b ≤ 255) (hn0 : -1000000000 ≤ n) (hn : n ≤ 1000000000) (r : Int × Int × Bool)
    (hk : Ev (fun k => haulageref03_Read.l1 k s size (n * 64 + (b - 128)) ((i + 1 : Nat) : Int)) r) : Ev (fun k => haulageref03_Read.l1 k s size n (i : Int)) r := by
  refine Ev.step (fun k => ?_) hk
  simp only [haulageref03_Read.l1]
  rw [if_pos h, if_pos (by omega), if_pos (by omega), hb, wrap_id (n * 64) (by omega) (by omega), wrap_id b (by omega) (by omega), wrap_id (n * 64 + b) (by omega) (by omega), wrap_id (n * 64 + b - 128) (by omega) (by omega), wrap_succ _ (by omega), show n * 64 + b - 128 = n * 64 + (b - 128) by omega]
theorem rl0_go (s : ByteArray) (size : Nat) (h0 : 1 ≤ size) (h4 : size ≤ 4) (hz : size ≤ s.size) (c : Int) (hc : bt s 0 = c) (hc0 : 0 ≤ c) (hc1 : c ≤ 255) (r : Int × Int × Bool)
    (hk : Ev (fun k => haulageref03_Read.l1 k s (size : Int) (if size = 2 then c - 192 else if size = 3 then c - 224 else if size = 4 then c - 240 else c) ((1 : Nat) : Int)) r) : Ev (fun k => haulageref03_Read.l0 k s (size : Int)) r := by
  have w : wrap64 c = c := wrap_id c (by omega) (by omega)
  refine Ev.step (f := fun k => haulageref03_Read.j1 k s (size : Int) true) (fun k => ?_) ?_
  · simp only [haulageref03_Read.l0]
    rw [if_pos (by omega), decide_eq_true (by omega)]
  by_cases e2 : size = 2
  · refine Ev.step (f := fun k => haulageref03_Read.j2 k s (size : Int) (c - 192)) (fun k => ?_) ?_
    · simp only [haulageref03_Read.j1]
      rw [if_pos (by trivial), if_pos (by omega), if_pos (by omega), hc, w, wrap_id (c - 192) (by omega) (by omega)]
    refine Ev.step (f := fun k => haulageref03_Read.j3 k s (size : Int) (c - 192)) (fun k => by simp only [haulageref03_Read.j2]; rw [if_neg (by omega)]) ?_
    refine Ev.step (f := fun k => haulageref03_Read.j4 k s (size : Int) (c - 192)) (fun k => by simp only [haulageref03_Read.j3]; rw [if_neg (by omega)]) ?_
    rw [if_pos e2] at hk
    exact Ev.step (fun k => by simp only [haulageref03_Read.j4]; rfl) hk
  · refine Ev.step (f := fun k => haulageref03_Read.j2 k s (size : Int) c) (fun k => ?_) ?_
    · simp only [haulageref03_Read.j1]
      rw [if_pos (by trivial), if_pos (by omega), if_neg (by omega), hc, w]
    rw [if_neg e2] at hk
    by_cases e3 : size = 3
    · refine Ev.step (f := fun k => haulageref03_Read.j3 k s (size : Int) (c - 224)) (fun k => by simp only [haulageref03_Read.j2]; rw [if_pos (by omega), wrap_id _ (by omega) (by omega)]) ?_
      refine Ev.step (f := fun k => haulageref03_Read.j4 k s (size : Int) (c - 224)) (fun k => by simp only [haulageref03_Read.j3]; rw [if_neg (by omega)]) ?_
      rw [if_pos e3] at hk
      exact Ev.step (fun k => by simp only [haulageref03_Read.j4]; rfl) hk
    · refine Ev.step (f := fun k => haulageref03_Read.j3 k s (size : Int) c) (fun k => by simp only [haulageref03_Read.j2]; rw [if_neg (by omega)]) ?_
      rw [if_neg e3] at hk
      by_cases e4 : size = 4
      · refine Ev.step (f := fun k => haulageref03_Read.j4 k s (size : Int) (c - 240)) (fun k => by simp only [haulageref03_Read.j3]; rw [if_pos (by omega), wrap_id _ (by omega) (by omega)]) ?_
        rw [if_pos e4] at hk
        exact Ev.step (fun k => by simp only [haulageref03_Read.j4]; rfl) hk
      · refine Ev.step (f := fun k => haulageref03_Read.j4 k s (size : Int) c) (fun k => by simp only [haulageref03_Read.j3]; rw [if_neg (by omega)]) ?_
        rw [if_neg e4] at hk
        exact Ev.step (fun k => by simp only [haulageref03_Read.j4]; rfl) hk
theorem rl0_stop (s : ByteArray) (size : Nat) (h : 4 < size ∨ s.size < size) : Ev (fun k => haulageref03_Read.l0 k s (size : Int)) (0, 0, false) := by
  have hj : Ev (fun k => haulageref03_Read.j1 k s (size : Int) false) (0, 0, false) := Ev.step (f := fun _ => some (0, 0, false)) (fun k => by simp only [haulageref03_Read.j1]; rw [if_neg (by simp)]) (Ev.now _)
  by_cases h4 : size ≤ 4
  · refine Ev.step (fun k => ?_) hj
    simp only [haulageref03_Read.l0]
    rw [if_pos (by omega), decide_eq_false (by omega)]
  · refine Ev.step (fun k => ?_) hj
    simp only [haulageref03_Read.l0]
    rw [if_neg (by omega)]
theorem put1 (c : Int) (hc : 0 ≤ c ∧ c ≤ 255) : putU c = [c] ↔ c < 128 := by
  unfold putU
  split
  · simp_all
  · split
    · simp; omega
    · split
      · simp; omega
      · simp; omega
theorem put2 (c b1 : Int) (hc : 0 ≤ c ∧ c ≤ 255) (h1 : 0 ≤ b1 ∧ b1 ≤ 255) : (isB ((c - 192) * 64 + (b1 - 128)) = true ∧ putU ((c - 192) * 64 + (b1 - 128)) = [c, b1]) ↔ (c / 32 = 6 ∧ b1 / 64 = 2 ∧ isB ((c - 192) * 64 + (b1 - 128)) = true ∧ 128 ≤ (c - 192) * 64 + (b1 - 128)) := by
  generalize hn : (c - 192) * 64 + (b1 - 128) = n
  rw [isB_iff]
  unfold putU
  split
  · simp; omega
  · split
    · simp only [List.cons.injEq, and_true]
      omega
    · split
      · simp; omega
      · simp; omega
theorem put3 (c b1 b2 : Int) (hc : 0 ≤ c ∧ c ≤ 255) (h1 : 0 ≤ b1 ∧ b1 ≤ 255) (h2 : 0 ≤ b2 ∧ b2 ≤ 255) : (isB (((c - 224) * 64 + (b1 - 128)) * 64 + (b2 - 128)) = true ∧ putU (((c - 224) * 64 + (b1 - 128)) * 64 + (b2 - 128)) = [c, b1, b2]) ↔ (c / 16 = 14 ∧ b1 / 64 = 2 ∧ b2 / 64 = 2 ∧ isB (((c - 224) * 64 + (b1 - 128)) * 64 + (b2 - 128)) = true ∧ 2048 ≤ ((c - 224) * 64 + (b1 - 128)) * 64 + (b2 - 128)) := by
  generalize hn : ((c - 224) * 64 + (b1 - 128)) * 64 + (b2 - 128) = n
  rw [isB_iff]
  unfold putU
  split
  · simp; omega
  · split
    · simp; omega
    · split
      · simp only [List.cons.injEq, and_true]
        omega
      · simp; omega
theorem put4 (c b1 b2 b3 : Int) (hc : 0 ≤ c ∧ c ≤ 255) (h1 : 0 ≤ b1 ∧ b1 ≤ 255) (h2 : 0 ≤ b2 ∧ b2 ≤ 255) (h3 : 0 ≤ b3 ∧ b3 ≤ 255) : (isB ((((c - 240) * 64 + (b1 - 128)) * 64 + (b2 - 128)) * 64 + (b3 - 128)) = true ∧ putU ((((c - 240) * 64 + (b1 - 128)) * 64 + (b2 - 128)) * 64 + (b3 - 128)) = [c, b1, b2, b3]) ↔ (c / 8 = 30 ∧ b1 / 64 = 2 ∧ b2 / 64 = 2 ∧ b3 / 64 = 2 ∧ isB ((((c - 240) * 64 + (b1 - 128)) * 64 + (b2 - 128)) * 64 + (b3 - 128)) = true ∧ 65536 ≤ (((c - 240) * 64 + (b1 - 128)) * 64 + (b2 - 128)) * 64 + (b3 - 128)) := by
  generalize hn : (((c - 240) * 64 + (b1 - 128)) * 64 + (b2 - 128)) * 64 + (b3 - 128) = n
  rw [isB_iff]
  unfold putU
  split
  · simp; omega
  · split
    · simp; omega
    · split
      · simp; omega
      · simp only [List.cons.injEq, and_true]
        omega
theorem rread_ev (s : ByteArray) (hs : s.size ≤ 9223372036854775807) : Ev (fun k => haulageref03_Read.f k s) (sgn (byt s)) := by
  have hlen := byt_len s
  have hby := byt_bytes s
  unfold haulageref03_Read.f
  show Ev (fun k => haulageref03_Read.l0 k s ((1 : Nat) : Int)) (sgn (byt s))
  generalize hl : byt s = l at hlen hby
  cases l with
  | nil => exact rl0_stop s 1 (.inr (by rw [← hlen]; decide))
  | cons c r =>
    have hz : s.size = r.length + 1 := by rw [← hlen]; rfl
    have hc := hby c (by simp)
    have e0 : bt s 0 = c := byt_at hl 0 c rfl
    refine rl0_go s 1 (by omega) (by omega) (by omega) c e0 hc.1 hc.2 _ ?_
    refine rl1_end s 1 c _ (by omega) (by omega) (by omega) _ (fun hb hp => ?_) (fun hno => ?_)
    · rw [hl] at hp
      have h1 := (put1 c hc).1 hp
      simp only [sgn, if_pos h1]
      rfl
    · rw [hl] at hno
      have h1 : ¬ c < 128 := fun h => hno ⟨(isB_iff c).2 (by omega), (put1 c hc).2 h⟩
      simp only [sgn, if_neg h1]
      show Ev (fun k => haulageref03_Read.l0 k s ((2 : Nat) : Int)) _
      cases r with
      | nil =>
        refine Ev.eq (rl0_stop s 2 (.inr (by simp at hz; omega))) ?_
        dsimp only
        split <;> (try split) <;> (try split) <;> rfl
      | cons b1 r =>
        simp only [List.length_cons] at hz
        have q1 := hby b1 (by simp)
        refine rl0_go s 2 (by omega) (by omega) (by omega) c e0 hc.1 hc.2 _ ?_
        rw [if_pos rfl]
        refine rl1_step s _ _ b1 1 (by omega) (by omega) hs (byt_at hl 1 b1 rfl) q1.1 q1.2 (by omega) (by omega) _ ?_
        have p2 := put2 c b1 hc q1
        refine rl1_end s 2 _ _ (by omega) (by omega) (by omega) _ (fun hb hp => ?_) (fun hno => ?_)
        · rw [hl] at hp
          obtain ⟨a1, a2, a3, a4⟩ := p2.1 ⟨hb, hp⟩
          rw [if_pos a1]
          dsimp only
          rw [if_pos a2]
          unfold finU
          rw [if_pos ⟨a3, a4⟩]
          rfl
        · rw [hl] at hno
          have hno : ¬ (c / 32 = 6 ∧ b1 / 64 = 2 ∧ isB ((c - 192) * 64 + (b1 - 128)) = true ∧ 128 ≤ (c - 192) * 64 + (b1 - 128)) := fun h => hno (p2.2 h)
          show Ev (fun k => haulageref03_Read.l0 k s ((3 : Nat) : Int)) _
          have hk : Ev (fun k => haulageref03_Read.l0 k s ((3 : Nat) : Int)) (if c / 16 = 14 then (match b1 :: r with | b1 :: b2 :: _ => if b1 / 64 = 2 then (if b2 / 64 = 2 then finU (((c - 224) * 64 + (b1 - 128)) * 64 + (b2 - 128)) 2048 3 else (0, 0, false)) else (0, 0, false) | _ => (0, 0, false))
              else if c / 8 = 30 then (match b1 :: r with | b1 :: b2 :: b3 :: _ => if b1 / 64 = 2 then (if b2 / 64 = 2 then (if b3 / 64 = 2 then finU ((((c - 240) * 64 + (b1 - 128)) * 64 + (b2 - 128)) * 64 + (b3 - 128)) 65536 4 else (0, 0, false)) else (0, 0, false)) else (0, 0, false) | _ => (0, 0, false)) else (0, 0, false)) := by
            cases r with
            | nil =>
              refine Ev.eq (rl0_stop s 3 (.inr (by simp at hz; omega))) ?_
              dsimp only
              split <;> (try split) <;> rfl
            | cons b2 r =>
              simp only [List.length_cons] at hz
              have q2 := hby b2 (by simp)
              refine rl0_go s 3 (by omega) (by omega) (by omega) c e0 hc.1 hc.2 _ ?_
              rw [if_neg (by decide), if_pos rfl]
              refine rl1_step s _ _ b1 1 (by omega) (by omega) hs (byt_at hl 1 b1 rfl) q1.1 q1.2 (by omega) (by omega) _ ?_
              refine rl1_step s _ _ b2 2 (by omega) (by omega) hs (byt_at hl 2 b2 rfl) q2.1 q2.2 (by omega) (by omega) _ ?_
              have p3 := put3 c b1 b2 hc q1 q2
              refine rl1_end s 3 _ _ (by omega) (by omega) (by omega) _ (fun hb hp => ?_) (fun hno3 => ?_)
              · rw [hl] at hp
                obtain ⟨a1, a2, a3, a4, a5⟩ := p3.1 ⟨hb, hp⟩
                rw [if_pos a1]
                dsimp only
                rw [if_pos a2, if_pos a3]
                unfold finU
                rw [if_pos ⟨a4, a5⟩]
                rfl
              · rw [hl] at hno3
                have hno3 : ¬ (c / 16 = 14 ∧ b1 / 64 = 2 ∧ b2 / 64 = 2 ∧ isB (((c - 224) * 64 + (b1 - 128)) * 64 + (b2 - 128)) = true ∧ 2048 ≤ ((c - 224) * 64 + (b1 - 128)) * 64 + (b2 - 128)) := fun h => hno3 (p3.2 h)
                show Ev (fun k => haulageref03_Read.l0 k s ((4 : Nat) : Int)) _
                have hk4 : Ev (fun k => haulageref03_Read.l0 k s ((4 : Nat) : Int)) (if c / 8 = 30 then (match b1 :: b2 :: r with | b1 :: b2 :: b3 :: _ => if b1 / 64 = 2 then (if b2 / 64 = 2 then (if b3 / 64 = 2 then finU ((((c - 240) * 64 + (b1 - 128)) * 64 + (b2 - 128)) * 64 + (b3 - 128)) 65536 4 else (0, 0, false)) else (0, 0, false)) else (0, 0, false) | _ => (0, 0, false)) else (0, 0, false)) := by
                  cases r with
                  | nil =>
                    refine Ev.eq (rl0_stop s 4 (.inr (by simp at hz; omega))) ?_
                    dsimp only
                    split <;> rfl
                  | cons b3 r =>
                    simp only [List.length_cons] at hz
                    have q3 := hby b3 (by simp)
                    refine rl0_go s 4 (by omega) (by omega) (by omega) c e0 hc.1 hc.2 _ ?_
                    rw [if_neg (by decide), if_neg (by decide), if_pos rfl]
                    refine rl1_step s _ _ b1 1 (by omega) (by omega) hs (byt_at hl 1 b1 rfl) q1.1 q1.2 (by omega) (by omega) _ ?_
                    refine rl1_step s _ _ b2 2 (by omega) (by omega) hs (byt_at hl 2 b2 rfl) q2.1 q2.2 (by omega) (by omega) _ ?_
                    refine rl1_step s _ _ b3 3 (by omega) (by omega) hs (byt_at hl 3 b3 rfl) q3.1 q3.2 (by omega) (by omega) _ ?_
                    have p4 := put4 c b1 b2 b3 hc q1 q2 q3
                    refine rl1_end s 4 _ _ (by omega) (by omega) (by omega) _ (fun hb hp => ?_) (fun hno4 => ?_)
                    · rw [hl] at hp
                      obtain ⟨a1, a2, a3, a4, a5, a6⟩ := p4.1 ⟨hb, hp⟩
                      rw [if_pos a1]
                      dsimp only
                      rw [if_pos a2, if_pos a3, if_pos a4]
                      unfold finU
                      rw [if_pos ⟨a5, a6⟩]
                      rfl
                    · rw [hl] at hno4
                      have hno4 : ¬ (c / 8 = 30 ∧ b1 / 64 = 2 ∧ b2 / 64 = 2 ∧ b3 / 64 = 2 ∧ isB ((((c - 240) * 64 + (b1 - 128)) * 64 + (b2 - 128)) * 64 + (b3 - 128)) = true ∧ 65536 ≤ (((c - 240) * 64 + (b1 - 128)) * 64 + (b2 - 128)) * 64 + (b3 - 128)) := fun h => hno4 (p4.2 h)
                      refine Ev.eq (rl0_stop s 5 (.inl (by omega))) ?_
                      dsimp only
                      by_cases x1 : c / 8 = 30
                      · rw [if_pos x1]
                        by_cases x2 : b1 / 64 = 2
                        · rw [if_pos x2]
                          by_cases x3 : b2 / 64 = 2
                          · rw [if_pos x3]
                            by_cases x4 : b3 / 64 = 2
                            · rw [if_pos x4]
                              unfold finU
                              rw [if_neg (fun e => hno4 ⟨x1, x2, x3, x4, e⟩)]
                            · rw [if_neg x4]
                          · rw [if_neg x3]
                        · rw [if_neg x2]
                      · rw [if_neg x1]
                by_cases x0 : c / 16 = 14
                · rw [if_pos x0]
                  rw [if_neg (by omega)] at hk4
                  refine Ev.eq hk4 ?_
                  dsimp only
                  by_cases x2 : b1 / 64 = 2
                  · rw [if_pos x2]
                    by_cases x3 : b2 / 64 = 2
                    · rw [if_pos x3]
                      unfold finU
                      rw [if_neg (fun e => hno3 ⟨x0, x2, x3, e⟩)]
                    · rw [if_neg x3]
                  · rw [if_neg x2]
                · rw [if_neg x0]
                  exact hk4
          by_cases x0 : c / 32 = 6
          · rw [if_pos x0]
            rw [if_neg (by omega), if_neg (by omega)] at hk
            refine Ev.eq hk ?_
            dsimp only
            by_cases x2 : b1 / 64 = 2
            · rw [if_pos x2]
              unfold finU
              rw [if_neg (fun e => hno ⟨x0, x2, e⟩)]
            · rw [if_neg x2]
          · rw [if_neg x0]
            exact hk
theorem rsigns_l0 (d : Nat) : ∀ (s : ByteArray) (acc : List Int), s.size ≤ d → s.size ≤ 1000000000 → acc.length + s.size < 17592186044416 → Ev (fun k => (haulageref03_Signs.l0 k s acc).bind fun b => some b.2) (utfD d (byt s)) := by
  induction d with
  | zero =>
    intro s acc hd _ _
    have hz : s.size = 0 := by omega
    refine Ev.bind (a := (acc, true)) (Ev.step (f := fun _ => some (acc, true)) (fun k => ?_) (Ev.now _)) ?_
    · simp only [haulageref03_Signs.l0]
      rw [if_pos ((ba_nil s).2 hz)]
    · have : byt s = [] := List.length_eq_zero_iff.1 (by rw [byt_len]; exact hz)
      rw [this]
      exact Ev.now _
  | succ d ih =>
    intro s acc hd hs ha
    by_cases hz : s.size = 0
    · have : byt s = [] := List.length_eq_zero_iff.1 (by rw [byt_len]; exact hz)
      rw [this]
      simp only [utfD]
      rw [if_pos (by trivial)]
      refine Ev.bind (a := (acc, true)) (Ev.step (f := fun _ => some (acc, true)) (fun k => ?_) (Ev.now _)) (Ev.now _)
      simp only [haulageref03_Signs.l0]
      rw [if_pos ((ba_nil s).2 hz)]
    · have hne : ¬ byt s = [] := fun e => hz (by rw [← byt_len, e]; rfl)
      simp only [utfD]
      rw [if_neg hne]
      have hok := sgn_ok (byt s)
      rw [byt_len] at hok
      obtain ⟨K, hK⟩ := rread_ev s (by omega)
      by_cases h1 : (sgn (byt s)).2.2 = true
      · rw [if_pos h1]
        obtain ⟨h2, h3⟩ := hok h1
        have hc := byt_cut s (sgn (byt s)).2.1.toNat
        have := ih (s.extract (sgn (byt s)).2.1.toNat s.size) (acc ++ [(sgn (byt s)).1]) (by rw [ByteArray.size_extract]; omega) (by rw [ByteArray.size_extract]; omega) (by rw [List.length_append, List.length_singleton, ByteArray.size_extract]; omega)
        rw [hc] at this
        obtain ⟨K2, hK2⟩ := this
        refine ⟨K + K2 + 1, fun k hk => ?_⟩
        obtain ⟨m, rfl⟩ : ∃ m, k = m + 1 := ⟨k - 1, by omega⟩
        have e1 : haulageref03_Read.f m s = some (sgn (byt s)) := hK m (by omega)
        have e2 := hK2 m (by omega)
        simp only [haulageref03_Signs.l0]
        rw [if_neg (fun e => hz ((ba_nil s).1 e)), e1, Option.bind_some, if_pos h1, if_pos (by omega), if_pos (by omega), if_pos (by omega)]
        exact e2
      · rw [if_neg h1]
        refine ⟨K + 1, fun k hk => ?_⟩
        obtain ⟨m, rfl⟩ : ∃ m, k = m + 1 := ⟨k - 1, by omega⟩
        have e1 : haulageref03_Read.f m s = some (sgn (byt s)) := hK m (by omega)
        simp only [haulageref03_Signs.l0]
        rw [if_neg (fun e => hz ((ba_nil s).1 e)), e1, Option.bind_some, if_neg h1]
        rfl
theorem rutf_ev (s : ByteArray) (hs : s.size ≤ 1000000000) : Ev (fun k => haulageref03_Right.f k s) (utfB s) := rsigns_l0 s.size s [] (Nat.le_refl _) hs (by simp; omega)
/- piece low -/
def lowS (n : Int) (b : Nat) : Int := (n + 2 ^ (b - 1)) % 2 ^ b - 2 ^ (b - 1)
theorem p2_pos (b : Nat) : (0 : Int) < 2 ^ b := Int.pow_pos (by decide)
theorem p2_half (b : Nat) (h : 1 ≤ b) : (2 : Int) ^ b = 2 * 2 ^ (b - 1) := by
  obtain ⟨m, rfl⟩ : ∃ m, b = m + 1 := ⟨b - 1, by omega⟩
  simp only [Nat.add_sub_cancel, Int.pow_succ]
  omega
theorem lowS_range (n : Int) (b : Nat) (h : 1 ≤ b) : -2 ^ (b - 1) ≤ lowS n b ∧ lowS n b < 2 ^ (b - 1) := by
  have hp := p2_pos b
  have h1 := Int.emod_nonneg (n + 2 ^ (b - 1)) (Int.ne_of_gt hp)
  have h2 := Int.emod_lt_of_pos (n + 2 ^ (b - 1)) hp
  have h3 := p2_half b h
  unfold lowS
  omega
theorem lowS_of (n r q : Int) (b : Nat) (h : 1 ≤ b) (e : n = r + 2 ^ b * q) (h0 : -2 ^ (b - 1) ≤ r) (h1 : r < 2 ^ (b - 1)) : lowS n b = r := by
  have h3 := p2_half b h
  unfold lowS
  rw [e, show r + 2 ^ b * q + 2 ^ (b - 1) = (r + 2 ^ (b - 1)) + 2 ^ b * q by omega, Int.add_mul_emod_self_left, Int.emod_eq_of_lt (by omega) (by omega)]
  omega
theorem lowS_id (n : Int) (b : Nat) (h : 1 ≤ b) (h0 : -2 ^ (b - 1) ≤ n) (h1 : n < 2 ^ (b - 1)) : lowS n b = n := lowS_of n n 0 b h (by omega) h0 h1
theorem lowS_iff (n : Int) (b : Nat) (h : 1 ≤ b) : lowS n b = n ↔ -2 ^ (b - 1) ≤ n ∧ n < 2 ^ (b - 1) :=
  ⟨fun e => by have := lowS_range n b h; rw [e] at this; exact this, fun h2 => lowS_id n b h h2.1 h2.2⟩
theorem word_Low_eq (n : Int) (b : Nat) (h1 : 1 ≤ b) (h2 : b ≤ 64) : word_Low.f n (b : Int) = some (lowS n b) := by
  unfold word_Low.f
  have hw : wrap64 (64 - (b : Int)) = ((64 - b : Nat) : Int) := by unfold wrap64; omega
  rw [if_neg (by omega), if_neg (by omega), hw, if_pos (by omega)]
  congr 1
  have hm : min (((64 - b : Nat) : Int)).toNat (IntKind.bits .i64) = 64 - b := by simp [IntKind.bits]
  unfold shr shl
  rw [hm, i64_eq]
  unfold wrap64 lowS
  have hu := p2_pos (64 - b)
  have e63 : (9223372036854775808 : Int) = 2 ^ (b - 1) * 2 ^ (64 - b) := by
    rw [← Int.pow_add, show b - 1 + (64 - b) = 63 by omega]; decide
  have e64 : (18446744073709551616 : Int) = 2 ^ b * 2 ^ (64 - b) := by
    rw [← Int.pow_add, show b + (64 - b) = 64 by omega]; decide
  rw [e63, e64, ← Int.add_mul, Int.mul_comm _ (2 ^ (64 - b)), Int.mul_comm (2 ^ b) (2 ^ (64 - b)), Int.mul_emod_mul_of_pos _ _ hu, Int.mul_comm (2 ^ (b - 1)) (2 ^ (64 - b)), ← Int.mul_sub]
  exact Int.mul_ediv_cancel_left _ (Int.ne_of_gt hu)
theorem word_Fits_eq (n : Int) (b : Nat) (h1 : 1 ≤ b) (h2 : b ≤ 64) : word_Fits.f n (b : Int) = some (lowS n b == n) := by
  unfold word_Fits.f
  rw [if_neg (by omega), if_neg (by omega), word_Low_eq n b h1 h2]
  rfl
/- piece reffits -/
theorem refHalf_l0 (b : Nat) (hb : b ≤ 63) (d : Nat) : ∀ i : Nat, i + d = b → 1 ≤ i → Ev (fun k => haulageref01_Half.l0 k (b : Int) (2 ^ (i - 1)) (i : Int)) (2 ^ (b - 1)) := by
  induction d with
  | zero =>
    intro i hi h1
    refine Ev.step (f := fun _ => some (2 ^ (b - 1))) (fun k => ?_) (Ev.now _)
    simp only [haulageref01_Half.l0]
    rw [if_neg (by omega), show i = b by omega]
  | succ d ih =>
    intro i hi h1
    refine Ev.step (f := fun k => haulageref01_Half.l0 k (b : Int) (2 ^ (i + 1 - 1)) ((i + 1 : Nat) : Int)) (fun k => ?_) (ih (i + 1) (by omega) (by omega))
    simp only [haulageref01_Half.l0]
    have h3 : (2 : Int) ^ i ≤ 2 ^ 62 := by
      have : (2 : Nat) ^ i ≤ 2 ^ 62 := Nat.pow_le_pow_right (by decide) (by omega)
      exact_mod_cast this
    have h4 := p2_pos i
    have h5 := p2_half i h1
    have h6 : (2 : Int) ^ 62 = 4611686018427387904 := by decide
    rw [if_pos (by omega), show wrap64 ((i : Int) + 1) = ((i + 1 : Nat) : Int) by unfold wrap64; omega, show wrap64 (2 * 2 ^ (i - 1)) = 2 ^ (i + 1 - 1) by rw [Nat.add_sub_cancel, ← h5]; unfold wrap64; omega]
theorem refHalf_ev (b : Nat) (h1 : 1 ≤ b) (hb : b ≤ 63) : Ev (fun k => haulageref01_Half.f k (b : Int)) (2 ^ (b - 1)) := by
  have := refHalf_l0 b hb (b - 1) 1 (by omega) (by omega)
  simpa [haulageref01_Half.f] using this
theorem p2_le62 (b : Nat) (hb : b ≤ 62) : (2 : Int) ^ b ≤ 4611686018427387904 := by
  have h3 : (2 : Int) ^ b ≤ 2 ^ 62 := by
    have : (2 : Nat) ^ b ≤ 2 ^ 62 := Nat.pow_le_pow_right (by decide) hb
    exact_mod_cast this
  have h6 : (2 : Int) ^ 62 = 4611686018427387904 := by decide
  omega
theorem refFits_ev (n : Int) (b : Nat) (h1 : 1 ≤ b) (h2 : b ≤ 64) (hn0 : -9223372036854775808 ≤ n) (hn1 : n ≤ 9223372036854775807) : Ev (fun k => haulageref01_Fits.f k n (b : Int)) (lowS n b == n) := by
  have hd : decide ((b : Int) > 64) = false := by simp; omega
  refine Ev.congr (f := fun k => haulageref01_Fits.j0 k n (b : Int) false) (fun k => ?_) ?_
  · unfold haulageref01_Fits.f
    rw [if_neg (by omega), hd]
  · by_cases e : b = 64
    · subst e
      refine Ev.step (f := fun _ => some (lowS n 64 == n)) (fun k => ?_) (Ev.now _)
      simp only [haulageref01_Fits.j0]
      rw [if_neg (by decide), if_pos (by omega), lowS_id n 64 (by decide) (by simp; omega) (by simp; omega)]
      simp
    · have h3 := p2_le62 (b - 1) (by omega)
      have h4 := p2_pos (b - 1)
      refine Ev.step (f := fun k => (haulageref01_Half.f k (b : Int)).bind fun t115 => (if n ≥ (wrap64 (-t115)) then ((haulageref01_Half.f k (b : Int)).bind fun t116 => (some (decide (n < t116)))) else (some false))) (fun k => ?_) ?_
      · simp only [haulageref01_Fits.j0]
        rw [if_neg (by decide), if_neg (by omega)]
      · refine Ev.bind (refHalf_ev b h1 (by omega)) ?_
        rw [show wrap64 (-2 ^ (b - 1)) = -2 ^ (b - 1) by unfold wrap64; omega]
        have hi := lowS_iff n b h1
        by_cases c : n ≥ -2 ^ (b - 1)
        · refine Ev.congr (fun k => by rw [if_pos c]) ?_
          refine Ev.bind (refHalf_ev b h1 (by omega)) ?_
          rw [show decide (n < 2 ^ (b - 1)) = (lowS n b == n) by
            rw [Bool.eq_iff_iff, decide_eq_true_iff, beq_iff_eq, hi]; exact ⟨fun h => ⟨c, h⟩, fun h => h.2⟩]
          exact Ev.now _
        · refine Ev.congr (f := fun _ => some (lowS n b == n)) (fun k => ?_) (Ev.now _)
          rw [if_neg c]
          congr 1
          rw [eq_comm, beq_eq_false_iff_ne]
          exact fun h => c (hi.1 h).1
/- piece val -/
def fits32 (n : Int) : Bool := decide (-2147483648 ≤ n ∧ n < 2147483648)
theorem lowS32 (n : Int) : (lowS n 32 == n) = fits32 n := by
  have h := lowS_iff n 32 (by decide)
  have e : (2 : Int) ^ (32 - 1) = 2147483648 := by decide
  rw [e] at h
  unfold fits32
  rw [Bool.eq_iff_iff, beq_iff_eq, h, decide_eq_true_iff]
theorem wfits32 (n : Int) : word_Fits.f n 32 = some (fits32 n) := by
  have := word_Fits_eq n 32 (by decide) (by decide)
  rw [lowS32] at this
  exact this
def valB (kind n : Int) (s : ByteArray) : Bool :=
  if kind = 0 then decide (n = 0) && decide (s.size = 0)
  else if kind = 1 then fits32 n && decide (s.size = 0)
  else if kind = 2 then decide (s.size = 0)
  else if kind = 3 then decide (n = 0) && (decide (s.size ≤ 120) && utfB s)
  else if kind = 4 then decide (n = 0) && decide (s.size ≤ 120)
  else false
theorem utfB_nil (s : ByteArray) (h : s.size = 0) : utfB s = true := by
  have : byt s = [] := List.length_eq_zero_iff.1 (by rw [byt_len]; exact h)
  unfold utfB
  rw [h, this]
  rfl
theorem vj0 (x3 x4 : Bool) (a n : Int) (s : ByteArray) : Ev (fun k => value_Right.j0 k x3 x4 a n s) (decide ((n = 0 ∨ x3 = true) ∧ (s.size = 0 ∨ x4 = true) ∧ s.size ≤ 120)) := by
  refine Ev.flat0 3 (fun m => ?_)
  simp only [value_Right.j0, value_Right.j1, ba_nil]
  by_cases h1 : n = 0 <;> by_cases h2 : s.size = 0 <;> by_cases h3 : s.size ≤ 120 <;> cases x3 <;> cases x4 <;> simp [h1, h2, h3] <;> omega
theorem val_ev (kind n : Int) (s : ByteArray) (hs : s.size ≤ 1000000000) : Ev (fun k => value_Right.f k kind n s) (valB kind n s) := by
  unfold value_Right.f valB
  by_cases h0 : kind = 0
  · rw [if_pos h0]
    refine Ev.congr (fun k => by rw [if_pos h0]) (Ev.eq (vj0 _ _ _ _ _) ?_)
    by_cases h1 : n = 0 <;> by_cases h2 : s.size = 0 <;> simp [h1, h2]
  rw [if_neg h0]
  by_cases h1 : kind = 1
  · rw [if_pos h1]
    refine Ev.congr (fun k => by rw [if_neg h0, if_pos h1, wfits32, Option.bind_some]) (Ev.eq (vj0 _ _ _ _ _) ?_)
    by_cases h2 : s.size = 0
    · by_cases h3 : n = 0
      · subst h3
        have : fits32 0 = true := by decide
        simp [h2, this]
      · simp [h2, h3]
    · simp [h2]
  rw [if_neg h1]
  by_cases h2 : kind = 2
  · rw [if_pos h2]
    refine Ev.congr (fun k => by rw [if_neg h0, if_neg h1, if_pos h2]) (Ev.eq (vj0 _ _ _ _ _) ?_)
    by_cases h3 : s.size = 0 <;> simp [h3]
  rw [if_neg h2]
  by_cases h3 : kind = 3
  · rw [if_pos h3]
    refine Ev.congr (fun k => by rw [if_neg h0, if_neg h1, if_neg h2, if_pos h3]) (Ev.bind (uright_ev s hs) (Ev.eq (vj0 _ _ _ _ _) ?_))
    by_cases h4 : n = 0
    · by_cases h5 : s.size = 0
      · simp [h4, h5, utfB_nil s h5]
      · simp [h4, h5, Bool.and_comm]
    · simp [h4]
  rw [if_neg h3]
  by_cases h4 : kind = 4
  · rw [if_pos h4]
    refine Ev.congr (fun k => by rw [if_neg h0, if_neg h1, if_neg h2, if_neg h3, if_pos h4]) (Ev.eq (vj0 _ _ _ _ _) ?_)
    by_cases h5 : n = 0 <;> simp [h5]
  · rw [if_neg h4]
    exact Ev.congr (f := fun _ => some false) (fun k => by rw [if_neg h0, if_neg h1, if_neg h2, if_neg h3, if_neg h4]) (Ev.now _)
theorem rfits32_ev (n : Int) (h : (Lit.int .i64 n).wf = true) : Ev (fun k => haulageref01_Fits.f k n 32) (fits32 n) := by
  have h := wf_i64 h
  have := refFits_ev n 32 (by decide) (by decide) h.1 h.2
  rw [lowS32] at this
  exact this
theorem nil_dec (s : ByteArray) : (s.toList == ([] : List UInt8)) = decide (s.size = 0) := by
  rw [Bool.eq_iff_iff, beq_iff_eq, ba_nil, decide_eq_true_iff]
theorem rval_ev (kind n : Int) (s : ByteArray) (hs : s.size ≤ 1000000000) (hn : (Lit.int .i64 n).wf = true) : Ev (fun k => haulageref05_Right.f k kind n s) (valB kind n s) := by
  unfold haulageref05_Right.f valB
  rw [nil_dec]
  by_cases h0 : kind = 0
  · rw [if_pos h0]
    by_cases h1 : n = 0
    · exact Ev.congr (f := fun _ => some _) (fun k => by rw [if_pos h0, if_pos h1]) (Ev.eq (Ev.now _) (by rw [decide_eq_true h1, Bool.true_and]))
    · exact Ev.congr (f := fun _ => some _) (fun k => by rw [if_pos h0, if_neg h1]) (Ev.eq (Ev.now _) (by rw [decide_eq_false h1, Bool.false_and]))
  rw [if_neg h0]
  by_cases h1 : kind = 1
  · rw [if_pos h1]
    refine Ev.congr (fun k => by rw [if_neg h0, if_pos h1]) (Ev.bind (rfits32_ev n hn) ?_)
    by_cases h2 : fits32 n = true
    · rw [h2]
      exact Ev.congr (f := fun _ => some _) (fun k => by rw [if_pos rfl]) (Ev.eq (Ev.now _) (by rw [Bool.true_and]))
    · rw [Bool.not_eq_true] at h2
      rw [h2]
      exact Ev.congr (f := fun _ => some _) (fun k => by rw [if_neg (by simp)]) (Ev.eq (Ev.now _) (by rw [Bool.false_and]))
  rw [if_neg h1]
  by_cases h2 : kind = 2
  · rw [if_pos h2]
    exact Ev.congr (f := fun _ => some _) (fun k => by rw [if_neg h0, if_neg h1, if_pos h2]) (Ev.now _)
  rw [if_neg h2]
  by_cases h3 : kind = 3
  · rw [if_pos h3]
    by_cases h4 : n = 0
    · rw [decide_eq_true h4, Bool.true_and]
      by_cases h5 : s.size ≤ 120
      · rw [decide_eq_true h5, Bool.true_and]
        exact Ev.congr (fun k => by rw [if_neg h0, if_neg h1, if_neg h2, if_pos h3, if_pos h4, if_pos (by omega)]) (Ev.bind (rutf_ev s hs) (Ev.now _))
      · rw [decide_eq_false h5, Bool.false_and]
        exact Ev.congr (f := fun _ => some false) (fun k => by rw [if_neg h0, if_neg h1, if_neg h2, if_pos h3, if_pos h4, if_neg (by omega)]) (Ev.now _)
    · rw [decide_eq_false h4, Bool.false_and]
      exact Ev.congr (f := fun _ => some false) (fun k => by rw [if_neg h0, if_neg h1, if_neg h2, if_pos h3, if_neg h4]) (Ev.now _)
  rw [if_neg h3]
  by_cases h4 : kind = 4
  · refine Ev.eq (r := decide (n = 0) && decide (s.size ≤ 120)) ?_ (by rw [if_pos h4])
    by_cases h5 : n = 0
    · refine Ev.congr (f := fun _ => some (decide ((s.size : Int) ≤ 120))) (fun k => by rw [if_neg h0, if_neg h1, if_neg h2, if_neg h3, if_pos h4, if_pos h5]) (Ev.eq (Ev.now _) ?_)
      rw [decide_eq_true h5, Bool.true_and, decide_eq_decide]
      omega
    · rw [decide_eq_false h5, Bool.false_and]
      exact Ev.congr (f := fun _ => some false) (fun k => by rw [if_neg h0, if_neg h1, if_neg h2, if_neg h3, if_pos h4, if_neg h5]) (Ev.now _)
  · refine Ev.eq (r := false) ?_ (by rw [if_neg h4])
    exact Ev.congr (f := fun _ => some false) (fun k => by rw [if_neg h0, if_neg h1, if_neg h2, if_neg h3, if_neg h4]) (Ev.now _)
/- piece short0 -/
def sb (n : Nat) : List Int := if n < 128 then [(n : Int)] else (((n % 128 + 128 : Nat) : Int)) :: sb (n / 128)
termination_by n
decreasing_by omega
theorem sb_small {n : Nat} (h : n < 128) : sb n = [(n : Int)] := by rw [sb, if_pos h]
theorem sb_big {n : Nat} (h : ¬ n < 128) : sb n = (((n % 128 + 128 : Nat) : Int)) :: sb (n / 128) := by rw [sb, if_neg h]
theorem sb_len (m : Nat) : ∀ n, n < 128 ^ (m + 1) → (sb n).length ≤ m + 1 := by
  induction m with
  | zero => intro n h; rw [sb_small (by simpa using h)]; simp
  | succ m ih =>
    intro n h
    by_cases h1 : n < 128
    · rw [sb_small h1]; simp
    · rw [sb_big h1]
      have : n / 128 < 128 ^ (m + 1) := by
        rw [Nat.div_lt_iff_lt_mul (by decide)]
        rw [Nat.pow_succ] at h
        exact h
      have := ih _ this
      simp only [List.length_cons]
      omega
theorem sb_len10 {n : Nat} (h : n < 18446744073709551616) : (sb n).length ≤ 10 := sb_len 9 n (Nat.lt_of_lt_of_le h (by decide))
theorem sb_pos (n : Nat) : 0 < (sb n).length := by
  by_cases h : n < 128
  · rw [sb_small h]; simp
  · rw [sb_big h]; simp
theorem or128_fin : ∀ a : Fin 256, (a.val ||| 128) = a.val % 128 + 128 := by decide +kernel
theorem or128 (x : Int) (h : 0 ≤ x) : Go.bits .or .u8 (x % 256) 128 = x % 128 + 128 := by
  obtain ⟨n, rfl⟩ := Int.eq_ofNat_of_zero_le h
  have e : ((n : Int) % 256) = ((n % 256 : Nat) : Int) := by omega
  have := (Go.bits_nat .u8 8 (by decide) Go.wraps_u8 (n % 256) 128 (by omega) (by decide)).2
  rw [e]
  refine this.trans ?_
  have h2 := or128_fin ⟨n % 256, by omega⟩
  simp only at h2
  rw [h2]
  omega
theorem short_l1 (l : List Int) (len i : Int) (r : ByteArray) (n : Nat) : ∀ acc : List Int, acc.length + (sb n).length ≤ 140737488355328 →
    Ev (fun k => word_Short.l0 k (acc ++ sb n) l len (wrap64 (i + 1))) r → Ev (fun k => word_Short.l1 k acc (n : Int) l len i) r := by
  induction n using Nat.strongRecOn with
  | _ n ih =>
    intro acc hb hk
    by_cases h : n < 128
    · rw [sb_small h] at hb hk
      simp only [List.length_cons, List.length_nil] at hb
      refine Ev.step (f := fun k => word_Short.l0 k (acc ++ [(n : Int)]) l len (wrap64 (i + 1))) (fun k => ?_) hk
      simp only [word_Short.l1]
      rw [if_neg (by omega), if_pos (by omega), show ((n : Int) % 256) = n by omega]
    · rw [sb_big h] at hb hk
      simp only [List.length_cons] at hb
      refine Ev.step (f := fun k => word_Short.l1 k (acc ++ [((n % 128 + 128 : Nat) : Int)]) ((n / 128 : Nat) : Int) l len i) (fun k => ?_) (ih (n / 128) (by omega) _ (by simp only [List.length_append, List.length_cons, List.length_nil]; omega) ?_)
      · simp only [word_Short.l1]
        rw [if_pos (by omega), if_pos (by omega), or128 _ (by omega), show ((n : Int) % 128 + 128) = ((n % 128 + 128 : Nat) : Int) by omega, show ((n : Int) / 128) = ((n / 128 : Nat) : Int) by omega]
      · rw [List.append_assoc]; exact hk
def sbs (l : List Int) : List Int := l.flatMap fun x => sb x.toNat
theorem sbs_cons (x : Int) (l : List Int) : sbs (x :: l) = sb x.toNat ++ sbs l := by simp [sbs]
theorem rd_at (l : List Int) (i : Nat) (h : i < l.length) : rd l (i : Int) = l[i] := by
  simp [rd, h]
theorem short_l0 (l : List Int) (hl : l.length ≤ 1000000000000) (hr : ∀ x ∈ l, 0 ≤ x ∧ x < 18446744073709551616) (d : Nat) : ∀ (i : Nat) (acc : List Int), l.length = i + d → acc.length ≤ 10 * i →
    Ev (fun k => word_Short.l0 k acc l (l.length : Int) (i : Int)) (strOfNums (acc ++ sbs (l.drop i))) := by
  induction d with
  | zero =>
    intro i acc hi ha
    refine Ev.step (f := fun _ => some (strOfNums acc)) (fun k => ?_) ?_
    · simp only [word_Short.l0]
      rw [if_neg (by omega)]
    · rw [show l.drop i = [] from List.drop_eq_nil_of_le (by omega)]
      simpa [sbs] using Ev.now (strOfNums acc)
  | succ d ih =>
    intro i acc hi ha
    have hlt : i < l.length := by omega
    have hx := hr l[i] (List.getElem_mem hlt)
    have h10 := sb_len10 (n := l[i].toNat) (by omega)
    refine Ev.step (f := fun k => word_Short.l1 k acc ((l[i].toNat : Nat) : Int) l (l.length : Int) (i : Int)) (fun k => ?_) ?_
    · simp only [word_Short.l0]
      rw [if_pos (by omega), if_pos (by omega), if_pos (by omega), rd_at l i hlt, show ((l[i].toNat : Nat) : Int) = l[i] by omega]
    · refine short_l1 l _ _ _ _ _ (by omega) ?_
      have := ih (i + 1) (acc ++ sb l[i].toNat) (by omega) (by simp only [List.length_append]; omega)
      rw [show l.drop i = l[i] :: l.drop (i + 1) from List.drop_eq_getElem_cons hlt, sbs_cons, ← List.append_assoc]
      rw [show wrap64 ((i : Int) + 1) = ((i + 1 : Nat) : Int) by unfold wrap64; omega]
      exact this
theorem word_Short_ev (l : List Int) (hl : l.length ≤ 1000000000000) (hr : ∀ x ∈ l, 0 ≤ x ∧ x < 18446744073709551616) :
    Ev (fun k => word_Short.f k l) (strOfNums (sbs l)) := by
  have := short_l0 l hl hr l.length 0 [] (by omega) (by simp)
  simpa [word_Short.f] using this
/- piece refword -/
theorem refOne_ev (n : Nat) : n < 18446744073709551616 → Ev (fun k => haulageref01_One.f k (n : Int)) (strOfNums (sb n)) := by
  induction n using Nat.strongRecOn with
  | _ n ih =>
    intro hn
    by_cases h : n < 128
    · rw [sb_small h]
      refine Ev.step (f := fun _ => some (strOfNums [(n : Int)])) (fun k => ?_) (Ev.now _)
      simp only [haulageref01_One.f]
      rw [if_pos (by omega), show ((n : Int) % 256) = n by omega]
    · rw [sb_big h]
      refine Ev.step (f := fun k => (haulageref01_One.f k ((n / 128 : Nat) : Int)).bind fun t => if (strOfNums [((n % 128 + 128 : Nat) : Int)]).size + t.size ≤ 9223372036854775807 then some (strOfNums [((n % 128 + 128 : Nat) : Int)] ++ t) else none) (fun k => ?_) ?_
      · simp only [haulageref01_One.f, Option.bind_some]
        rw [if_neg (by omega), tmod_nonneg_eq _ _ (by omega), tdiv_nonneg_eq _ _ (by omega), u64_id _ (by omega) (by omega), u64_id _ (by omega) (by omega),
          show (((n : Int) % 128 + 128) % 256) = ((n % 128 + 128 : Nat) : Int) by omega, show ((n : Int) / 128) = ((n / 128 : Nat) : Int) by omega]
      · refine Ev.bind (ih (n / 128) (by omega) (by omega)) ?_
        have := sb_len10 (n := n / 128) (by omega)
        rw [if_pos (by rw [strOfNums_size, strOfNums_size]; simp only [List.length_cons, List.length_nil]; omega)]
        rw [← strOfNums_append]
        exact Ev.now _
/- piece zig0 -/
def zigS (n : Int) : Int := if 0 ≤ n then 2 * n else -2 * n - 1
def zagS (u : Int) : Int := if u % 2 = 0 then u / 2 else -1 - u / 2
theorem xor_u64 (x y : Int) : Go.bits .xor .u64 x y = ((BitVec.ofInt 64 x ^^^ BitVec.ofInt 64 y).toNat : Int) % 18446744073709551616 := u64_eq _
theorem xor_i64 (x y : Int) : Go.bits .xor .i64 x y = wrap64 ((BitVec.ofInt 64 x ^^^ BitVec.ofInt 64 y).toNat : Int) := i64_eq _
theorem xor_u64_zero (x : Int) (h0 : 0 ≤ x) (h1 : x < 18446744073709551616) : Go.bits .xor .u64 x 0 = x := by
  rw [xor_u64, show (BitVec.ofInt 64 0) = 0#64 by rfl, BitVec.xor_zero, BitVec.toNat_ofInt]
  omega
theorem xor_u64_ones (x : Int) (h0 : 0 ≤ x) (h1 : x < 18446744073709551616) : Go.bits .xor .u64 x 18446744073709551615 = 18446744073709551615 - x := by
  rw [xor_u64, show (BitVec.ofInt 64 18446744073709551615) = BitVec.allOnes 64 by decide, BitVec.xor_allOnes, BitVec.toNat_not, BitVec.toNat_ofInt]
  omega
theorem xor_i64_zero (x : Int) (h0 : 0 ≤ x) (h1 : x < 9223372036854775808) : Go.bits .xor .i64 x 0 = x := by
  rw [xor_i64, show (BitVec.ofInt 64 0) = 0#64 by rfl, BitVec.xor_zero, BitVec.toNat_ofInt]
  unfold wrap64
  omega
theorem xor_i64_ones (x : Int) (h0 : 0 ≤ x) (h1 : x < 9223372036854775808) : Go.bits .xor .i64 x (-1) = -1 - x := by
  rw [xor_i64, show (BitVec.ofInt 64 (-1)) = BitVec.allOnes 64 by decide, BitVec.xor_allOnes, BitVec.toNat_not, BitVec.toNat_ofInt]
  unfold wrap64
  omega
theorem and_u64_one (x : Int) (h0 : 0 ≤ x) (h1 : x < 18446744073709551616) : Go.bits .and .u64 x 1 = x % 2 := by
  have := Go.bits_mask .u64 64 (by decide) (fun n h0 h1 => by rw [u64_eq]; omega) 1 (by decide) x h0 (by omega)
  simpa using this
theorem word_Zig_eq (n : Int) (h0 : -9223372036854775808 ≤ n) (h1 : n ≤ 9223372036854775807) : word_Zig.f n = some (zigS n) := by
  unfold word_Zig.f zigS
  simp only [u64_eq]
  by_cases h : 0 ≤ n
  · rw [if_pos h, show n / 9223372036854775808 % 18446744073709551616 = 0 by omega, xor_u64_zero _ (by omega) (by omega)]
    congr 1
    omega
  · rw [if_neg h, show n / 9223372036854775808 % 18446744073709551616 = 18446744073709551615 by omega, xor_u64_ones _ (by omega) (by omega)]
    congr 1
    omega
theorem zigS_range (n : Int) (h0 : -9223372036854775808 ≤ n) (h1 : n ≤ 9223372036854775807) : 0 ≤ zigS n ∧ zigS n ≤ 18446744073709551615 := by unfold zigS; split <;> omega
theorem zagS_range (u : Int) (h0 : 0 ≤ u) (h1 : u ≤ 18446744073709551615) : -9223372036854775808 ≤ zagS u ∧ zagS u ≤ 9223372036854775807 := by unfold zagS; split <;> omega
theorem zag_zig (n : Int) : zagS (zigS n) = n := by unfold zagS zigS; split <;> split <;> omega
theorem refZig_eq (n : Int) (h0 : -9223372036854775808 ≤ n) (h1 : n ≤ 9223372036854775807) : haulageref01_Zig.f n = some (zigS n) := by
  unfold haulageref01_Zig.f zigS
  simp only [u64_eq]
  by_cases h : 0 ≤ n
  · rw [if_pos (show n ≥ 0 from h), if_pos h]
    congr 1
    omega
  · rw [if_neg (show ¬ n ≥ 0 from h), if_neg h, show wrap64 ((-1) - n) = -1 - n by unfold wrap64; omega]
    congr 1
    omega
/- piece zag0 -/
theorem word_Zag_eq (u : Int) (h0 : 0 ≤ u) (h1 : u ≤ 18446744073709551615) : word_Zag.f u = some (zagS u) := by
  unfold word_Zag.f zagS
  rw [and_u64_one u h0 (by omega), show wrap64 (u / 2) = u / 2 by unfold wrap64; omega]
  by_cases h : u % 2 = 0
  · rw [if_pos h, h, show wrap64 (-(wrap64 0)) = 0 by decide +kernel, xor_i64_zero _ (by omega) (by omega)]
  · rw [if_neg h, show u % 2 = 1 by omega, show wrap64 (-(wrap64 1)) = -1 by decide +kernel, xor_i64_ones _ (by omega) (by omega)]
/- piece refzag0 -/
theorem refZag_eq (u : Int) (h0 : 0 ≤ u) (h1 : u ≤ 18446744073709551615) : haulageref01_Zag.f u = some (zagS u) := by
  unfold haulageref01_Zag.f zagS
  simp only [u64_eq, tmod_nonneg_eq _ _ h0, tdiv_nonneg_eq _ _ h0]
  rw [show u / 2 % 18446744073709551616 = u / 2 by omega, show wrap64 (u / 2) = u / 2 by unfold wrap64; omega]
  by_cases h : u % 2 = 0
  · rw [if_pos h, if_pos h]
  · rw [if_neg h, if_neg h, show wrap64 ((-1) - u / 2) = -1 - u / 2 by unfold wrap64; omega]
/- piece long2 -/
theorem btr (s : ByteArray) (i : Int) : 0 ≤ bt s i ∧ bt s i ≤ 255 := by
  unfold bt
  split
  · rename_i h
    have := (s[i.toNat]'h).toNat_lt
    omega
  · omega
def val (s : ByteArray) : Nat → Int
  | 0 => 0
  | i + 1 => val s i + bt s (i : Int) % 128 * 128 ^ i
theorem p128_pos (i : Nat) : (0 : Int) < 128 ^ i := Int.pow_pos (by decide)
theorem val_range (s : ByteArray) (i : Nat) : 0 ≤ val s i ∧ val s i < 128 ^ i := by
  induction i with
  | zero => simp [val]
  | succ i ih =>
    have hp := p128_pos i
    have h1 : 0 ≤ bt s (i : Int) % 128 := by omega
    have h2 : bt s (i : Int) % 128 ≤ 127 := by omega
    have h3 : 0 ≤ bt s (i : Int) % 128 * 128 ^ i := Int.mul_nonneg h1 (Int.le_of_lt hp)
    have h4 : bt s (i : Int) % 128 * 128 ^ i ≤ 127 * 128 ^ i := Int.mul_le_mul_of_nonneg_right h2 (Int.le_of_lt hp)
    simp only [val, Int.pow_succ]
    omega
def ends (s : ByteArray) (i : Nat) : Int × Int :=
  if _h : i < s.size ∧ i < 10 then
    if bt s (i : Int) < 128 then (if (0 < i ∧ bt s (i : Int) = 0) ∨ (i = 9 ∧ 1 < bt s (i : Int)) then (0, 5) else (((i + 1 : Nat) : Int), 0)) else ends s (i + 1)
  else if s.size < 10 then (0, 4) else (0, 5)
termination_by 10 - i
decreasing_by omega
theorem ends_stop {s : ByteArray} {i : Nat} (h : ¬ (i < s.size ∧ i < 10)) : ends s i = if s.size < 10 then (0, 4) else (0, 5) := by rw [ends, dif_neg h]
theorem ends_more {s : ByteArray} {i : Nat} (h : i < s.size ∧ i < 10) (hc : ¬ bt s (i : Int) < 128) : ends s i = ends s (i + 1) := by rw [ends, dif_pos h, if_neg hc]
theorem ends_last {s : ByteArray} {i : Nat} (h : i < s.size ∧ i < 10) (hc : bt s (i : Int) < 128) : ends s i = if (0 < i ∧ bt s (i : Int) = 0) ∨ (i = 9 ∧ 1 < bt s (i : Int)) then (0, 5) else (((i + 1 : Nat) : Int), 0) := by rw [ends, dif_pos h, if_pos hc]
theorem ends_ok (s : ByteArray) (d : Nat) : ∀ i, i + d = 10 → (ends s i).2 = 0 → ∃ m : Nat, (ends s i).1 = ((m + 1 : Nat) : Int) ∧ i ≤ m ∧ m < 10 ∧ m < s.size ∧ bt s (m : Int) < 128 ∧ (0 < m → bt s (m : Int) ≠ 0) ∧ (m = 9 → bt s (m : Int) ≤ 1) ∧ ∀ j : Nat, i ≤ j → j < m → 128 ≤ bt s (j : Int) := by
  induction d with
  | zero =>
    intro i hi h
    rw [ends_stop (by omega)] at h
    split at h <;> simp at h
  | succ d ih =>
    intro i hi h
    by_cases h1 : i < s.size ∧ i < 10
    · by_cases hc : bt s (i : Int) < 128
      · rw [ends_last h1 hc] at h ⊢
        split at h
        · simp at h
        · rename_i hn
          rw [if_neg hn]
          exact ⟨i, rfl, Nat.le_refl _, h1.2, h1.1, hc, fun h0 h2 => hn (.inl ⟨h0, h2⟩), fun h9 => by
            by_cases h : 1 < bt s (i : Int)
            · exact absurd (.inr ⟨h9, h⟩) hn
            · omega, fun j hj hj' => by omega⟩
      · rw [ends_more h1 hc] at h ⊢
        obtain ⟨m, e, h2, h3, h4, h5, h6, h7, h8⟩ := ih (i + 1) (by omega) h
        exact ⟨m, e, by omega, h3, h4, h5, h6, h7, fun j hj hj' => by
          by_cases e : j = i
          · subst e; omega
          · exact h8 j (by omega) hj'⟩
    · rw [ends_stop h1] at h
      split at h <;> simp at h
theorem ends_err (s : ByteArray) (d : Nat) : ∀ i, i + d = 10 → (ends s i).2 ≠ 0 → (ends s i).1 = 0 ∧ ((ends s i).2 = 4 ∨ (ends s i).2 = 5) := by
  induction d with
  | zero =>
    intro i hi h
    rw [ends_stop (by omega)] at h ⊢
    split <;> simp
  | succ d ih =>
    intro i hi h
    by_cases h1 : i < s.size ∧ i < 10
    · by_cases hc : bt s (i : Int) < 128
      · rw [ends_last h1 hc] at h ⊢
        split at h
        · rename_i hn; rw [if_pos hn]; simp
        · simp at h
      · rw [ends_more h1 hc] at h ⊢
        exact ih (i + 1) (by omega) h
    · rw [ends_stop h1] at h ⊢
      split <;> simp
def longS (s : ByteArray) : Int × Int × Int := if (ends s 0).2 = 0 then (val s (ends s 0).1.toNat, (ends s 0).1, 0) else (0, 0, (ends s 0).2)
theorem val_lt (s : ByteArray) (m : Nat) (h : m < 10) (h9 : m = 9 → bt s (m : Int) ≤ 1) (hc : bt s (m : Int) < 128) : 0 ≤ val s (m + 1) ∧ val s (m + 1) < 18446744073709551616 := by
  refine ⟨(val_range s (m + 1)).1, ?_⟩
  by_cases e : m = 9
  · subst e
    have h1 := val_range s 9
    have h2 := h9 rfl
    have h3 := btr s ((9 : Nat) : Int)
    simp only [val] at h1 ⊢
    have : (128 : Int) ^ 9 = 9223372036854775808 := by decide
    simp only [this] at h1 ⊢
    omega
  · have h1 := (val_range s (m + 1)).2
    have h2 : (128 : Int) ^ (m + 1) ≤ 128 ^ 9 := by
      have : (128 : Nat) ^ (m + 1) ≤ 128 ^ 9 := Nat.pow_le_pow_right (by decide) (by omega)
      exact_mod_cast this
    have : (128 : Int) ^ 9 = 9223372036854775808 := by decide
    omega
theorem longS_ok (s : ByteArray) (h : (longS s).2.2 = 0) : ∃ m : Nat, longS s = (val s (m + 1), ((m + 1 : Nat) : Int), 0) ∧ m < 10 ∧ m < s.size ∧ 0 ≤ val s (m + 1) ∧ val s (m + 1) < 18446744073709551616 ∧ bt s (m : Int) < 128 ∧ (0 < m → bt s (m : Int) ≠ 0) ∧ (∀ j : Nat, j < m → 128 ≤ bt s (j : Int)) := by
  unfold longS at h ⊢
  by_cases e : (ends s 0).2 = 0
  · obtain ⟨m, e1, _, h3, h4, h5, h6, h7, h8⟩ := ends_ok s 10 0 rfl e
    have hv := val_lt s m h3 h7 h5
    rw [if_pos e, e1]
    exact ⟨m, by simp, h3, h4, hv.1, hv.2, h5, h6, fun j hj => h8 j (Nat.zero_le _) hj⟩
  · rw [if_neg e] at h
    exact absurd h e
theorem longS_err (s : ByteArray) (h : (longS s).2.2 ≠ 0) : longS s = (0, 0, (longS s).2.2) ∧ ((longS s).2.2 = 4 ∨ (longS s).2.2 = 5) := by
  unfold longS at h ⊢
  by_cases e : (ends s 0).2 = 0
  · rw [if_pos e] at h
    exact absurd rfl h
  · rw [if_neg e]
    exact ⟨rfl, (ends_err s 10 0 rfl e).2⟩
theorem or_comm_u64 (x y : Int) : Go.bits .or .u64 x y = Go.bits .or .u64 y x := by
  unfold Go.bits
  simp only
  rw [BitVec.or_comm]
theorem wraps_u64 (n : Int) (h0 : 0 ≤ n) (h1 : n < 2 ^ 64) : IntKind.u64.wrap n = n := by
  simp only [IntKind.wrap, IntKind.bits, IntKind.signed]
  simp
  omega
theorem p128 (i : Nat) : (128 : Int) ^ i = 2 ^ (7 * i) := by
  rw [show (128 : Int) = 2 ^ 7 by decide, ← Int.pow_mul]
theorem or_shl (a c : Int) (i : Nat) (hi : i ≤ 9) (ha0 : 0 ≤ a) (ha : a < 128 ^ i) (hc0 : 0 ≤ c) (hc1 : c ≤ 255) (hcc : c % 128 * 128 ^ i < 18446744073709551616) :
    Go.bits .or .u64 a (shl .u64 (IntKind.u64.wrap (Go.bits .and .u8 c 127)) (wrap64 (7 * (i : Int)))) = a + c % 128 * 128 ^ i := by
  have hm : Go.bits .and .u8 c 127 = c % 128 := Go.bits_mask .u8 8 (by decide) Go.wraps_u8 7 (by decide) c hc0 (by omega)
  have hp := p128_pos i
  have h1 : 0 ≤ c % 128 := by omega
  have h3 : 0 ≤ c % 128 * 128 ^ i := Int.mul_nonneg h1 (Int.le_of_lt hp)
  have e64 : (2 : Int) ^ 64 = 18446744073709551616 := by decide
  have hw : wrap64 (7 * (i : Int)) = ((7 * i : Nat) : Int) := by unfold wrap64; omega
  have hs : shl .u64 (IntKind.u64.wrap (Go.bits .and .u8 c 127)) (wrap64 (7 * (i : Int))) = c % 128 * 128 ^ i := by
    unfold shl
    rw [hm, hw, wraps_u64 (c % 128) h1 (by omega)]
    have : min (((7 * i : Nat) : Int)).toNat (IntKind.bits .u64) = 7 * i := by simp [IntKind.bits]; omega
    rw [this, ← p128]
    exact wraps_u64 _ h3 (by omega)
  rw [hs, or_comm_u64]
  have hlt : a < 18446744073709551616 := by
    have h2 : (128 : Int) ^ i ≤ 128 ^ 9 := by
      have : (128 : Nat) ^ i ≤ 128 ^ 9 := Nat.pow_le_pow_right (by decide) hi
      exact_mod_cast this
    have : (128 : Int) ^ 9 = 9223372036854775808 := by decide
    omega
  rw [Go.bits_join .u64 64 (by decide) wraps_u64 (7 * i) (c % 128 * 128 ^ i) a h3 (by rw [p128]; exact Int.mul_emod_left _ _) (by omega) ha0 (by rw [← p128]; exact ha) (by omega)]
  omega
theorem long_stop (s : ByteArray) (a : Int) (i : Nat) (b : Bool) (hb : b = decide ((i : Int) < 10)) (h : ¬ (i < s.size ∧ i < 10)) :
    Ev (fun k => word_Long.l0 k s a (i : Int)) (0, 0, if s.size < 10 then 4 else 5) := by
  refine Ev.step (f := fun k => word_Long.j1 k s a (i : Int) false) (fun k => ?_) (Ev.step (f := fun _ => some (0, 0, if s.size < 10 then 4 else 5)) (fun k => ?_) (Ev.now _))
  · simp only [word_Long.l0]
    by_cases h1 : i < s.size
    · rw [if_pos (by omega), show decide ((i : Int) < 10) = false by simp; omega]
    · rw [if_neg (by omega)]
  · simp only [word_Long.j1]
    rw [if_neg (by decide)]
    by_cases h1 : s.size < 10
    · rw [if_pos (by omega), if_pos h1]
    · rw [if_neg (by omega), if_neg h1]
theorem long_l0 (s : ByteArray) (d : Nat) : ∀ i, i + d = 10 → ∀ a, (i ≤ 9 → a = val s i) →
    Ev (fun k => word_Long.l0 k s a (i : Int)) (if (ends s i).2 = 0 then (val s (ends s i).1.toNat, (ends s i).1, 0) else (0, 0, (ends s i).2)) := by
  induction d with
  | zero =>
    intro i hi a ha
    have := long_stop s a i _ rfl (by omega)
    rw [ends_stop (by omega)]
    by_cases h1 : s.size < 10
    · simpa [h1] using this
    · simpa [h1] using this
  | succ d ih =>
    intro i hi a ha
    by_cases h : i < s.size ∧ i < 10
    · have ha' := ha (by omega)
      have hb := btr s (i : Int)
      have hv := val_range s i
      have hw : wrap64 (7 * (i : Int)) = 7 * (i : Int) := by unfold wrap64; omega
      have hw1 : wrap64 ((i : Int) + 1) = ((i + 1 : Nat) : Int) := by unfold wrap64; omega
      by_cases hc : bt s (i : Int) < 128
      · -- the last one
        have hj2 : ∀ (x : Int) (b : Bool), Ev (fun k => word_Long.j2 k x (i : Int) b) (if b = true then (0, 0, 5) else (x, ((i + 1 : Nat) : Int), 0)) := fun x b => by
          cases b
          · exact Ev.step (f := fun _ => some (x, ((i + 1 : Nat) : Int), 0)) (fun k => by simp only [word_Long.j2]; rw [if_neg (by simp), hw1]) (Ev.now _)
          · exact Ev.step (f := fun _ => some (0, 0, 5)) (fun k => by simp only [word_Long.j2]; rw [if_pos (by trivial)]) (Ev.now _)
        refine Ev.step (f := fun k => word_Long.j1 k s a (i : Int) true) (fun k => ?_) ?_
        · simp only [word_Long.l0]
          rw [if_pos (by omega), show decide ((i : Int) < 10) = true by simp; omega]
        rw [ends_last h hc]
        by_cases hbad : (0 < i ∧ bt s (i : Int) = 0) ∨ (i = 9 ∧ 1 < bt s (i : Int))
        · rw [if_pos hbad]
          refine Ev.eq (Ev.step (f := fun k => word_Long.j2 k (Go.bits .or .u64 a (shl .u64 (IntKind.u64.wrap (Go.bits .and .u8 (bt s (i : Int)) 127)) (wrap64 (7 * (i : Int))))) (i : Int) true) (fun k => ?_) (hj2 _ true)) (by simp)
          simp only [word_Long.j1]
          rw [if_pos (by trivial), if_pos (by omega), if_pos (by omega), if_pos (by rw [hw]; omega), if_neg (by omega)]
          rcases hbad with ⟨h0, h1⟩ | ⟨h0, h1⟩
          · rw [if_pos (by omega), if_pos h1]
          · rw [if_pos (by omega), if_neg (by omega), if_pos (by omega), decide_eq_true (by omega)]
        · rw [if_neg hbad]
          have hval : Go.bits .or .u64 a (shl .u64 (IntKind.u64.wrap (Go.bits .and .u8 (bt s (i : Int)) 127)) (wrap64 (7 * (i : Int)))) = val s (((i + 1 : Nat) : Int)).toNat := by
            have hlt := val_lt s i (by omega) (fun e => by
              by_cases h : 1 < bt s (i : Int)
              · exact absurd (.inr ⟨e, h⟩) hbad
              · omega) hc
            have : (((i + 1 : Nat) : Int)).toNat = i + 1 := by omega
            rw [this]
            simp only [val] at hlt ⊢
            rw [or_shl a _ i (by omega) (by omega) (by omega) hb.1 hb.2 (by omega), ha']
          refine Ev.eq (Ev.step (f := fun k => word_Long.j2 k (Go.bits .or .u64 a (shl .u64 (IntKind.u64.wrap (Go.bits .and .u8 (bt s (i : Int)) 127)) (wrap64 (7 * (i : Int))))) (i : Int) false) (fun k => ?_) (hj2 _ false)) ?_
          · simp only [word_Long.j1]
            rw [if_pos (by trivial), if_pos (by omega), if_pos (by omega), if_pos (by rw [hw]; omega), if_neg (by omega)]
            by_cases h0 : i = 0
            · rw [if_neg (by omega), if_neg (by omega)]
            · have hn0 : ¬ bt s (i : Int) = 0 := fun e => hbad (.inl ⟨by omega, e⟩)
              rw [if_pos (by omega), if_neg hn0]
              by_cases h9 : i = 9
              · have hn9 : ¬ bt s (i : Int) > 1 := fun e => hbad (.inr ⟨h9, e⟩)
                rw [if_pos (by omega), decide_eq_false hn9]
              · rw [if_neg (by omega)]
          · rw [if_neg (by simp), if_pos rfl, hval]
      · -- one more
        rw [ends_more h hc]
        refine Ev.step (f := fun k => word_Long.j1 k s a (i : Int) true) (fun k => ?_) (Ev.step (f := fun k => word_Long.l0 k s (Go.bits .or .u64 a (shl .u64 (IntKind.u64.wrap (Go.bits .and .u8 (bt s (i : Int)) 127)) (wrap64 (7 * (i : Int))))) ((i + 1 : Nat) : Int)) (fun k => ?_) (ih (i + 1) (by omega) _ (fun h9 => ?_)))
        · simp only [word_Long.l0]
          rw [if_pos (by omega), show decide ((i : Int) < 10) = true by simp; omega]
        · simp only [word_Long.j1]
          rw [if_pos (by trivial), if_pos (by omega), if_pos (by omega), if_pos (by rw [hw]; omega), if_pos (by omega), hw1]
        · have h2 := (val_range s (i + 1)).2
          have h3 : (128 : Int) ^ (i + 1) ≤ 128 ^ 9 := by
            have : (128 : Nat) ^ (i + 1) ≤ 128 ^ 9 := Nat.pow_le_pow_right (by decide) (by omega)
            exact_mod_cast this
          have : (128 : Int) ^ 9 = 9223372036854775808 := by decide
          simp only [val] at h2 ⊢
          rw [or_shl a _ i (by omega) (by omega) (by omega) hb.1 hb.2 (by omega), ha']
    · have := long_stop s a i _ rfl h
      rw [ends_stop h]
      by_cases h1 : s.size < 10
      · simpa [h1] using this
      · simpa [h1] using this
theorem word_Long_ev (s : ByteArray) : Ev (fun k => word_Long.f k s) (longS s) := by
  have := long_l0 s 10 0 rfl 0 (fun _ => rfl)
  simpa [word_Long.f, longS] using this
/- piece reflong2 -/
theorem refEnds_stop (s : ByteArray) (i : Nat) (h : ¬ (i < s.size ∧ i < 10)) :
    Ev (fun k => haulageref01_Ends.l0 k s (i : Int)) (0, if s.size < 10 then 4 else 5) := by
  refine Ev.step (f := fun k => haulageref01_Ends.j1 k s (i : Int) false) (fun k => ?_) (Ev.step (f := fun _ => some (0, if s.size < 10 then 4 else 5)) (fun k => ?_) (Ev.now _))
  · simp only [haulageref01_Ends.l0]
    by_cases h1 : i < s.size
    · rw [if_pos (by omega), show decide ((i : Int) < 10) = false by simp; omega]
    · rw [if_neg (by omega)]
  · simp only [haulageref01_Ends.j1]
    rw [if_neg (by decide)]
    by_cases h1 : s.size < 10
    · rw [if_pos (by omega), if_pos h1]
    · rw [if_neg (by omega), if_neg h1]
theorem refEnds_l0 (s : ByteArray) (d : Nat) : ∀ i, i + d = 10 → Ev (fun k => haulageref01_Ends.l0 k s (i : Int)) (ends s i) := by
  induction d with
  | zero =>
    intro i hi
    have := refEnds_stop s i (by omega)
    rw [ends_stop (by omega)]
    by_cases h1 : s.size < 10
    · simpa [h1] using this
    · simpa [h1] using this
  | succ d ih =>
    intro i hi
    by_cases h : i < s.size ∧ i < 10
    · have hb := btr s (i : Int)
      have hw1 : wrap64 ((i : Int) + 1) = ((i + 1 : Nat) : Int) := by unfold wrap64; omega
      by_cases hc : bt s (i : Int) < 128
      · have hj2 : ∀ (b : Bool), Ev (fun k => haulageref01_Ends.j2 k (i : Int) b) (if b = true then (0, 5) else (((i + 1 : Nat) : Int), 0)) := fun b => by
          cases b
          · exact Ev.step (f := fun _ => some (((i + 1 : Nat) : Int), 0)) (fun k => by simp only [haulageref01_Ends.j2]; rw [if_neg (by simp), hw1]) (Ev.now _)
          · exact Ev.step (f := fun _ => some (0, 5)) (fun k => by simp only [haulageref01_Ends.j2]; rw [if_pos (by trivial)]) (Ev.now _)
        refine Ev.step (f := fun k => haulageref01_Ends.j1 k s (i : Int) true) (fun k => ?_) ?_
        · simp only [haulageref01_Ends.l0]
          rw [if_pos (by omega), show decide ((i : Int) < 10) = true by simp; omega]
        rw [ends_last h hc]
        by_cases hbad : (0 < i ∧ bt s (i : Int) = 0) ∨ (i = 9 ∧ 1 < bt s (i : Int))
        · rw [if_pos hbad]
          refine Ev.step (f := fun k => haulageref01_Ends.j2 k (i : Int) true) (fun k => ?_) (hj2 true)
          simp only [haulageref01_Ends.j1]
          rw [if_pos (by trivial), if_pos (by omega), if_pos (by omega), if_pos hc]
          rcases hbad with ⟨h0, h1⟩ | ⟨h0, h1⟩
          · rw [if_pos (by omega), if_pos h1]
          · rw [if_pos (by omega), if_neg (by omega), if_pos (by omega), decide_eq_true (by omega)]
        · rw [if_neg hbad]
          refine Ev.step (f := fun k => haulageref01_Ends.j2 k (i : Int) false) (fun k => ?_) (hj2 false)
          simp only [haulageref01_Ends.j1]
          rw [if_pos (by trivial), if_pos (by omega), if_pos (by omega), if_pos hc]
          by_cases h0 : i = 0
          · rw [if_neg (by omega), if_neg (by omega)]
          · have hn0 : ¬ bt s (i : Int) = 0 := fun e => hbad (.inl ⟨by omega, e⟩)
            rw [if_pos (by omega), if_neg hn0]
            by_cases h9 : i = 9
            · have hn9 : ¬ bt s (i : Int) > 1 := fun e => hbad (.inr ⟨h9, e⟩)
              rw [if_pos (by omega), decide_eq_false hn9]
            · rw [if_neg (by omega)]
      · rw [ends_more h hc]
        refine Ev.step (f := fun k => haulageref01_Ends.j1 k s (i : Int) true) (fun k => ?_) (Ev.step (f := fun k => haulageref01_Ends.l0 k s ((i + 1 : Nat) : Int)) (fun k => ?_) (ih (i + 1) (by omega)))
        · simp only [haulageref01_Ends.l0]
          rw [if_pos (by omega), show decide ((i : Int) < 10) = true by simp; omega]
        · simp only [haulageref01_Ends.j1]
          rw [if_pos (by trivial), if_pos (by omega), if_pos (by omega), if_neg hc, hw1]
    · have := refEnds_stop s i h
      rw [ends_stop h]
      by_cases h1 : s.size < 10
      · simpa [h1] using this
      · simpa [h1] using this
theorem refLong_l0 (s : ByteArray) (size : Int) (V : Int) (hV : V < 18446744073709551616) (i : Nat) : i ≤ s.size → i ≤ 10 → ∀ n : Int, 0 ≤ n → val s i + n * 128 ^ i = V →
    Ev (fun k => haulageref01_Long.l0 k s size n ((i : Int) - 1)) (V, size, 0) := by
  induction i with
  | zero =>
    intro _ _ n hn h
    refine Ev.step (f := fun _ => some (V, size, 0)) (fun k => ?_) (Ev.now _)
    simp only [haulageref01_Long.l0]
    simp only [val] at h
    rw [if_neg (by omega), show n = V by omega]
  | succ i ih =>
    intro hs h10 n hn h
    have hb := btr s (i : Int)
    have hp := p128_pos i
    have e1 : (((i + 1 : Nat) : Int) - 1) = (i : Int) := by omega
    rw [e1]
    have h1 : 0 ≤ bt s (i : Int) % 128 := by omega
    have hn' : val s i + (n * 128 + bt s (i : Int) % 128) * 128 ^ i = V := by
      rw [← h]
      simp only [val, Int.pow_succ, Int.add_mul, Int.mul_assoc]
      rw [Int.mul_comm 128 (128 ^ i)]
      omega
    have hle : (n * 128 + bt s (i : Int) % 128) ≤ (n * 128 + bt s (i : Int) % 128) * 128 ^ i := by
      have : (n * 128 + bt s (i : Int) % 128) * 1 ≤ (n * 128 + bt s (i : Int) % 128) * 128 ^ i := Int.mul_le_mul_of_nonneg_left (by omega) (by omega)
      omega
    have hv := val_range s i
    refine Ev.step (f := fun k => haulageref01_Long.l0 k s size (n * 128 + bt s (i : Int) % 128) ((i : Int) - 1)) (fun k => ?_) (ih (by omega) (by omega) _ (by omega) hn')
    simp only [haulageref01_Long.l0]
    rw [if_pos (by omega), if_pos (by omega), if_pos (by omega), tmod_nonneg_eq _ _ (by omega), u64_id (n * 128) (by omega) (by omega), u64_id (bt s (i : Int) % 128) (by omega) (by omega), u64_id (n * 128 + bt s (i : Int) % 128) (by omega) (by omega),
      show wrap64 ((i : Int) - 1) = (i : Int) - 1 by unfold wrap64; omega]
theorem refLong_ev (s : ByteArray) : Ev (fun k => haulageref01_Long.f k s) (longS s) := by
  unfold haulageref01_Long.f
  have he : Ev (fun k => haulageref01_Ends.f k s) (ends s 0) := by simpa [haulageref01_Ends.f] using refEnds_l0 s 10 0 rfl
  refine Ev.bind he ?_
  unfold longS
  by_cases e : (ends s 0).2 = 0
  · obtain ⟨m, e1, _, h3, h4, h5, h6, h7, h8⟩ := ends_ok s 10 0 rfl e
    have hv := val_lt s m h3 h7 h5
    have := refLong_l0 s (ends s 0).1 (val s (m + 1)) hv.2 (m + 1) (by omega) (by omega) 0 (by omega) (by omega)
    rw [if_pos e]
    refine Ev.congr (f := fun k => haulageref01_Long.l0 k s (ends s 0).1 0 (((m + 1 : Nat) : Int) - 1)) (fun k => ?_) ?_
    · rw [if_pos e, e1, show wrap64 (((m + 1 : Nat) : Int) - 1) = ((m + 1 : Nat) : Int) - 1 by unfold wrap64; omega]
    · rw [e1] at this ⊢
      simpa using this
  · rw [if_neg e]
    refine Ev.congr (f := fun _ => some (0, 0, (ends s 0).2)) (fun k => ?_) (Ev.now _)
    rw [if_neg e]
/- piece cat0 -/
theorem cut_to (s : ByteArray) (a n : Nat) : (s.extract a s.size).extract 0 n = s.extract a (a + n) := by
  apply byt_inj
  rw [byt_extract, byt_cut, byt_extract, List.drop_zero]
  congr 1
  omega
theorem cut_cut (s : ByteArray) (a n : Nat) : (s.extract a s.size).extract n (s.extract a s.size).size = s.extract (a + n) s.size := by
  apply byt_inj
  rw [byt_cut, byt_cut, byt_cut, List.drop_drop]
theorem cut_size (s : ByteArray) (a : Nat) : (s.extract a s.size).size = s.size - a := by
  rw [← byt_len, byt_cut, List.length_drop, byt_len]
theorem long_two (s : ByteArray) (h : (longS s).2.2 = 0) : 0 ≤ (longS s).1 ∧ (longS s).1 < 18446744073709551616 ∧ 0 < (longS s).2.1 ∧ (longS s).2.1 ≤ (s.size : Int) ∧ (longS s).2.1 ≤ 10 := by
  obtain ⟨m, e, h1, h2, h3, h4, _⟩ := longS_ok s h
  rw [e]
  simp only
  omega
theorem i64_wf {x : Int} (h0 : -9223372036854775808 ≤ x) (h1 : x ≤ 9223372036854775807) : (Lit.int .i64 x).wf = true := by
  unfold Lit.wf
  have e1 : IntKind.i64.min = -9223372036854775808 := by decide
  have e2 : IntKind.i64.max = 9223372036854775807 := by decide
  simp only [e1, e2, Bool.and_eq_true, decide_eq_true_eq]
  exact ⟨h0, h1⟩
theorem wf64 {n : Int} (h : (Lit.int .i64 n).wf = true) : -9223372036854775808 ≤ n ∧ n ≤ 9223372036854775807 := wf_i64 h
theorem sb_bytes (n : Nat) : Bytes (sb n) := by
  induction n using Nat.strongRecOn with
  | _ n ih =>
    by_cases h : n < 128
    · rw [sb_small h]
      intro x hx
      rw [List.mem_singleton] at hx
      omega
    · rw [sb_big h]
      intro x hx
      rcases List.mem_cons.1 hx with e | e
      · omega
      · exact ih (n / 128) (by omega) x e
theorem jcut (a b : ByteArray) (n : Nat) (h : n = a.size) : (a ++ b).extract n (a ++ b).size = b := by
  apply byt_inj
  rw [byt_cut, byt_append, h, ← byt_len a, List.drop_left]
theorem cjoin (s : ByteArray) (n : Nat) (l : List Int) (h : l = (byt s).take n) : strOfNums l ++ s.extract n s.size = s := by
  apply byt_inj
  have hb : Bytes l := by rw [h]; exact (byt_bytes s).take n
  rw [byt_append, byt_str hb, byt_cut, h, List.take_append_drop]
theorem ba_of0 (s : ByteArray) (h : s.size = 0) : s = ⟨#[]⟩ := ByteArray.ext (Array.eq_empty_of_size_eq_zero h)
theorem short1 (x : Int) (h0 : 0 ≤ x) (h1 : x ≤ 18446744073709551615) : Ev (fun k => word_Short.f k ([x] : List Int)) (strOfNums (sb x.toNat)) := by
  have := word_Short_ev [x] (by simp) (fun y hy => by
    rw [List.mem_singleton] at hy
    omega)
  rw [show sbs [x] = sb x.toNat by simp [sbs]] at this
  exact this
/- piece back1 -/
def valL : List Int → Int
  | [] => 0
  | x :: xs => x % 128 + 128 * valL xs
theorem valL_snoc (l : List Int) (x : Int) : valL (l ++ [x]) = valL l + x % 128 * 128 ^ l.length := by
  induction l with
  | nil => simp [valL]
  | cons y l ih =>
    simp only [List.cons_append, valL, ih, List.length_cons, Int.pow_succ]
    rw [Int.mul_add, ← Int.mul_assoc, Int.mul_comm 128 (x % 128), Int.mul_assoc, Int.mul_comm 128 (128 ^ l.length)]
    omega
theorem val_valL (s : ByteArray) (i : Nat) (h : i ≤ s.size) : val s i = valL ((byt s).take i) := by
  induction i with
  | zero => simp [val, valL]
  | succ i ih =>
    have hl : i < (byt s).length := by rw [byt_len]; omega
    rw [List.take_succ_eq_append_getElem hl, valL_snoc, ← ih (by omega), List.length_take, Nat.min_eq_left (by omega)]
    simp only [val]
    rw [bt_byt s i (by omega)]
def IsSb : List Int → Prop
  | [] => False
  | [x] => 0 ≤ x ∧ x < 128
  | x :: y :: l => 128 ≤ x ∧ x ≤ 255 ∧ IsSb (y :: l) ∧ (y :: l) ≠ [0]
theorem valL_pos : ∀ l : List Int, IsSb l → 0 ≤ valL l ∧ (l ≠ [0] → 1 ≤ valL l)
  | [], h => h.elim
  | [x], h => by
    simp only [IsSb] at h
    simp only [valL]
    refine ⟨by omega, fun hn => ?_⟩
    have : x ≠ 0 := fun e => hn (by rw [e])
    omega
  | x :: y :: l, h => by
    have := valL_pos (y :: l) h.2.2.1
    have h2 := this.2 h.2.2.2
    rw [valL]
    refine ⟨by omega, fun _ => by omega⟩
theorem sb_valL : ∀ l : List Int, IsSb l → sb (valL l).toNat = l
  | [], h => h.elim
  | [x], h => by
    simp only [IsSb] at h
    simp only [valL]
    rw [sb_small (by omega), show (((x % 128 + 128 * 0).toNat : Nat) : Int) = x by omega]
  | x :: y :: l, h => by
    have h1 := (valL_pos (y :: l) h.2.2.1).2 h.2.2.2
    have ih := sb_valL (y :: l) h.2.2.1
    have hx := h.1
    have hx2 := h.2.1
    rw [valL]
    rw [sb_big (by omega), show (((x % 128 + 128 * valL (y :: l)).toNat % 128 + 128 : Nat) : Int) = x by omega, show (x % 128 + 128 * valL (y :: l)).toNat / 128 = (valL (y :: l)).toNat by omega, ih]
theorem sb_is (n : Nat) : IsSb (sb n) ∧ valL (sb n) = n ∧ (0 < n → sb n ≠ [0]) := by
  induction n using Nat.strongRecOn with
  | _ n ih =>
    by_cases h : n < 128
    · rw [sb_small h]
      refine ⟨⟨by omega, by omega⟩, by simp only [valL]; omega, fun h0 e => ?_⟩
      simp at e
      omega
    · obtain ⟨h1, h2, h3⟩ := ih (n / 128) (by omega)
      rw [sb_big h]
      have hp := sb_pos (n / 128)
      cases e : sb (n / 128) with
      | nil => rw [e] at hp; simp at hp
      | cons y l =>
        rw [e] at h1 h2 h3
        refine ⟨⟨by omega, by omega, h1, h3 (by omega)⟩, ?_, fun _ => by simp⟩
        rw [valL, h2]
        omega
theorem isSb_at : ∀ (l : List Int) (hl : IsSb l) (m : Nat) (hm : l.length = m + 1), (∀ (j : Nat) (hj : j < m), 128 ≤ l[j]'(by omega)) ∧ l[m]'(by omega) < 128 ∧ (0 < m → l[m]'(by omega) ≠ 0)
  | [], h, _, _ => h.elim
  | [x], h, m, hm => by
    simp at hm
    subst hm
    exact ⟨fun j hj => by omega, h.2, fun h => by omega⟩
  | x :: y :: l, h, m, hm => by
    obtain ⟨k, rfl⟩ : ∃ k, m = k + 1 := ⟨l.length, by simpa using hm.symm⟩
    have ih := isSb_at (y :: l) h.2.2.1 k (by simpa using hm)
    refine ⟨fun j hj => ?_, by simpa using ih.2.1, fun _ => ?_⟩
    · cases j with
      | zero => exact h.1
      | succ j => simpa using ih.1 j (by omega)
    · by_cases hk : 0 < k
      · simpa using ih.2.2 hk
      · have : k = 0 := by omega
        subst this
        simp at hm
        subst hm
        intro e
        simp at e
        exact h.2.2.2 (by rw [e])
theorem isSb_of : ∀ (l : List Int), Bytes l → ∀ (m : Nat) (hm : l.length = m + 1), (∀ (j : Nat) (hj : j < m), 128 ≤ l[j]'(by omega)) → l[m]'(by omega) < 128 → (0 < m → l[m]'(by omega) ≠ 0) → IsSb l
  | [], _, _, hm, _, _, _ => by simp at hm
  | [x], hb, m, hm, h1, h2, h3 => by
    simp at hm
    subst hm
    exact ⟨(hb x (by simp)).1, h2⟩
  | x :: y :: l, hb, m, hm, h1, h2, h3 => by
    obtain ⟨k, rfl⟩ : ∃ k, m = k + 1 := ⟨l.length, by simpa using hm.symm⟩
    refine ⟨h1 0 (by omega), (hb x (by simp)).2, isSb_of (y :: l) (fun z hz => hb z (by simp [hz])) k (by simpa using hm) (fun j hj => by simpa using h1 (j + 1) (by omega)) (by simpa using h2) (fun _ => by simpa using h3 (by omega)), fun e => ?_⟩
    have : y = 0 ∧ l = [] := by simpa using e
    obtain ⟨rfl, rfl⟩ := this
    have : k = 0 := by simpa using hm.symm
    subst this
    exact absurd (by simp) (h3 (by omega))
theorem ends_of (s : ByteArray) (m : Nat) (h1 : m < 10) (h2 : m < s.size) (h3 : ∀ j : Nat, j < m → 128 ≤ bt s (j : Int)) (h4 : bt s (m : Int) < 128) (h5 : 0 < m → bt s (m : Int) ≠ 0) (h6 : m = 9 → bt s (m : Int) ≤ 1) (d : Nat) : ∀ i, i + d = m → ends s i = (((m + 1 : Nat) : Int), 0) := by
  induction d with
  | zero =>
    intro i hi
    have e : i = m := by omega
    subst e
    rw [ends_last ⟨h2, h1⟩ h4, if_neg]
    rintro (⟨h, h'⟩ | ⟨h, h'⟩)
    · exact h5 h h'
    · have := h6 h; omega
  | succ d ih =>
    intro i hi
    have := h3 i (by omega)
    rw [ends_more ⟨by omega, by omega⟩ (by omega)]
    exact ih (i + 1) (by omega)
theorem longS_sb (n : Nat) (hn : n < 18446744073709551616) (z : ByteArray) : longS (strOfNums (sb n) ++ z) = ((n : Int), ((sb n).length : Int), 0) := by
  obtain ⟨h1, h2, _⟩ := sb_is n
  have hp := sb_pos n
  obtain ⟨m, hm⟩ : ∃ m, (sb n).length = m + 1 := ⟨(sb n).length - 1, by omega⟩
  have h10 := sb_len10 hn
  obtain ⟨a1, a2, a3⟩ := isSb_at _ h1 m hm
  have hby : byt (strOfNums (sb n) ++ z) = sb n ++ byt z := by rw [byt_append, byt_str (sb_bytes n)]
  have hsz : (strOfNums (sb n) ++ z).size = m + 1 + z.size := by rw [← byt_len, hby, List.length_append, hm, byt_len]
  have hbt : ∀ j (hj : j < m + 1), bt (strOfNums (sb n) ++ z) (j : Int) = (sb n)[j]'(by omega) := by
    intro j hj
    rw [bt_byt _ j (by omega)]
    simp only [hby]
    rw [List.getElem_append_left (by omega)]
  have hv : val (strOfNums (sb n) ++ z) (m + 1) = n := by
    rw [val_valL _ _ (by omega), hby, List.take_append_of_le_length (by omega), List.take_of_length_le (by omega), h2]
  have h6 : m = 9 → bt (strOfNums (sb n) ++ z) (m : Int) ≤ 1 := by
    rintro rfl
    have hr := (val_range (strOfNums (sb n) ++ z) 9).1
    simp only [val] at hv
    have e : (128 : Int) ^ 9 = 9223372036854775808 := by decide
    simp only [val, e] at hv hr
    have hb := btr (strOfNums (sb n) ++ z) ((9 : Nat) : Int)
    have h4 := hbt 9 (by omega)
    rw [h4] at hb hv ⊢
    omega
  have he := ends_of (strOfNums (sb n) ++ z) m (by omega) (by omega) (fun j hj => by rw [hbt j (by omega)]; exact a1 j hj) (by rw [hbt m (by omega)]; exact a2) (fun h => by rw [hbt m (by omega)]; exact a3 h) h6 m 0 (by omega)
  unfold longS
  rw [he]
  simp only [if_true]
  rw [show (((m + 1 : Nat) : Int)).toNat = m + 1 by omega, hv, hm]
theorem longS_back (s : ByteArray) (m : Nat) (h : longS s = (val s (m + 1), ((m + 1 : Nat) : Int), 0)) (hm : m < s.size) (hc : bt s (m : Int) < 128) (h0 : 0 < m → bt s (m : Int) ≠ 0) (hj : ∀ j : Nat, j < m → 128 ≤ bt s (j : Int)) : sb (val s (m + 1)).toNat = (byt s).take (m + 1) := by
  have hl : ((byt s).take (m + 1)).length = m + 1 := by rw [List.length_take, byt_len]; omega
  have hg : ∀ j (h : j < m + 1), ((byt s).take (m + 1))[j]'(by omega) = bt s (j : Int) := by
    intro j h
    rw [bt_byt s j (by omega), List.getElem_take]
  have := isSb_of ((byt s).take (m + 1)) ((byt_bytes s).take _) m hl (fun j h => by rw [hg j (by omega)]; exact hj j h) (by rw [hg m (by omega)]; exact hc) (fun h => by rw [hg m (by omega)]; exact h0 h)
  rw [val_valL s (m + 1) (by omega)]
  exact sb_valL _ this
abbrev St := ByteArray × Int
def nilB : ByteArray := ⟨#[]⟩
def fl (e : Int) (q : St) : St := if q.2 = 0 then (nilB, e) else q
def rest (s : ByteArray) (n : Nat) : ByteArray := s.extract n s.size
def oneP (lo hi : Int) (q : St) : Int × St :=
  if q.2 = 0 then (if q.1.size = 0 then (0, (nilB, 4)) else if bt q.1 0 < lo ∨ hi < bt q.1 0 then (0, (nilB, 5)) else (bt q.1 0, (rest q.1 1, 0))) else (0, q)
def rawP (q : St) : Int × St :=
  if q.2 = 0 then (if (longS q.1).2.2 = 0 then ((longS q.1).1, (rest q.1 (longS q.1).2.1.toNat, 0)) else (0, (nilB, (longS q.1).2.2))) else (0, q)
def numP (most : Int) (q : St) : Int × St := if most < (rawP q).1 then (0, fl 5 (rawP q).2) else rawP q
def textP (most : Int) (q : St) : ByteArray × St :=
  if (numP most q).2.2 = 0 then (if ((numP most q).2.1.size : Int) < (numP most q).1 then (nilB, (nilB, 4)) else ((numP most q).2.1.extract 0 (numP most q).1.toNat, (rest (numP most q).2.1 (numP most q).1.toNat, 0))) else (nilB, (numP most q).2)
def chk (b : Bool) (q : St) : St := if b = true then q else fl 5 q
def valP (q : St) : S23 × St :=
  if (oneP 0 4 q).1 = 1 ∨ (oneP 0 4 q).1 = 2 then (⟨(oneP 0 4 q).1, zagS (rawP (oneP 0 4 q).2).1, nilB⟩, chk (decide ((oneP 0 4 q).1 = 2) || fits32 (zagS (rawP (oneP 0 4 q).2).1)) (rawP (oneP 0 4 q).2).2)
  else if (oneP 0 4 q).1 = 3 ∨ (oneP 0 4 q).1 = 4 then (⟨(oneP 0 4 q).1, 0, (textP 120 (oneP 0 4 q).2).1⟩, chk (decide ((oneP 0 4 q).1 = 4) || utfB (textP 120 (oneP 0 4 q).2).1) (textP 120 (oneP 0 4 q).2).2)
  else (⟨(oneP 0 4 q).1, 0, nilB⟩, (oneP 0 4 q).2)
theorem fl_ne {e : Int} {q : St} (he : e ≠ 0) : (fl e q).2 ≠ 0 := by
  unfold fl
  split
  · exact he
  · assumption
theorem oneP_bad {lo hi : Int} {q : St} (h : q.2 ≠ 0) : oneP lo hi q = (0, q) := if_neg h
theorem rawP_bad {q : St} (h : q.2 ≠ 0) : rawP q = (0, q) := if_neg h
theorem chk_ok {b : Bool} {q : St} (h : (chk b q).2 = 0) : b = true ∧ q.2 = 0 ∧ chk b q = q := by
  unfold chk at h ⊢
  cases b
  · rw [if_neg (by simp)] at h
    exact absurd h (fl_ne (by decide))
  · rw [if_pos rfl] at h ⊢
    exact ⟨rfl, h, rfl⟩
theorem oneP_ok {lo hi : Int} {q : St} (h : (oneP lo hi q).2.2 = 0) : q.2 = 0 ∧ 0 < q.1.size ∧ lo ≤ bt q.1 0 ∧ bt q.1 0 ≤ hi ∧ oneP lo hi q = (bt q.1 0, (rest q.1 1, 0)) := by
  by_cases hq : q.2 = 0
  · unfold oneP at h ⊢
    rw [if_pos hq] at h ⊢
    by_cases h1 : q.1.size = 0
    · rw [if_pos h1] at h
      exact absurd h (by decide)
    · rw [if_neg h1] at h ⊢
      by_cases h2 : bt q.1 0 < lo ∨ hi < bt q.1 0
      · rw [if_pos h2] at h
        exact absurd h (by decide)
      · rw [if_neg h2]
        exact ⟨hq, by omega, by omega, by omega, rfl⟩
  · rw [oneP_bad hq] at h
    exact absurd h hq
theorem rawP_ok {q : St} (h : (rawP q).2.2 = 0) : q.2 = 0 ∧ (longS q.1).2.2 = 0 ∧ rawP q = ((longS q.1).1, (rest q.1 (longS q.1).2.1.toNat, 0)) := by
  by_cases hq : q.2 = 0
  · unfold rawP at h ⊢
    rw [if_pos hq] at h ⊢
    by_cases h1 : (longS q.1).2.2 = 0
    · rw [if_pos h1]
      exact ⟨hq, h1, rfl⟩
    · rw [if_neg h1] at h
      exact absurd h h1
  · rw [rawP_bad hq] at h
    exact absurd h hq
theorem numP_ok {m : Int} {q : St} (h : (numP m q).2.2 = 0) : numP m q = rawP q ∧ (rawP q).2.2 = 0 ∧ (rawP q).1 ≤ m := by
  unfold numP at h ⊢
  by_cases h1 : m < (rawP q).1
  · rw [if_pos h1] at h
    exact absurd h (fl_ne (by decide))
  · rw [if_neg h1] at h ⊢
    exact ⟨rfl, h, by omega⟩
theorem textP_ok {m : Int} {q : St} (h : (textP m q).2.2 = 0) : (numP m q).2.2 = 0 ∧ (numP m q).1 ≤ ((numP m q).2.1.size : Int) ∧ textP m q = ((numP m q).2.1.extract 0 (numP m q).1.toNat, (rest (numP m q).2.1 (numP m q).1.toNat, 0)) := by
  unfold textP at h ⊢
  by_cases h0 : (numP m q).2.2 = 0
  · rw [if_pos h0] at h ⊢
    by_cases h1 : ((numP m q).2.1.size : Int) < (numP m q).1
    · rw [if_pos h1] at h
      exact absurd h (by decide)
    · rw [if_neg h1]
      exact ⟨h0, by omega, rfl⟩
  · rw [if_neg h0] at h
    exact absurd h h0
def Takes (q : St) (l : List Int) (r : St) : Prop := q.2 = 0 ∧ r.2 = 0 ∧ Bytes l ∧ q.1 = strOfNums l ++ r.1
theorem nil_app (z : ByteArray) : strOfNums [] ++ z = z := by
  apply byt_inj
  rw [byt_append, byt_str (fun _ h => by simp at h), List.nil_append]
theorem rest0 (s : ByteArray) : rest s 0 = s := by
  apply byt_inj
  unfold rest
  rw [byt_cut, List.drop_zero]
theorem take_one (l : List Int) (h : 0 < l.length) : [l[0]] = l.take 1 := by
  cases l with
  | nil => simp at h
  | cons a l => simp
theorem Takes.nil {q : St} (h : q.2 = 0) : Takes q [] q := ⟨h, h, fun _ h => by simp at h, (nil_app q.1).symm⟩
theorem Takes.nil_eq {q r : St} (h : Takes q [] r) : q = r := by
  refine Prod.ext ?_ (h.1.trans h.2.1.symm)
  rw [h.2.2.2, nil_app]
theorem Takes.trans {q r t : St} {a b : List Int} (h : Takes q a r) (k : Takes r b t) : Takes q (a ++ b) t := by
  refine ⟨h.1, k.2.1, h.2.2.1.append k.2.2.1, ?_⟩
  rw [strOfNums_append, ByteArray.append_assoc, ← k.2.2.2, h.2.2.2]
theorem rest_head (l : List Int) (z : ByteArray) : rest (strOfNums l ++ z) l.length = z := jcut _ _ _ (strOfNums_size l).symm
/- piece cat2 -/
theorem rest_at {q : St} {l : List Int} {r : St} (h : Takes q l r) (n : Nat) (hn : n = l.length) : (rest q.1 n, (0 : Int)) = r := by
  obtain ⟨h1, h2, h3, h4⟩ := h
  subst hn
  rw [h4, rest_head]
  exact Prod.ext rfl h2.symm
theorem oneP_fwd {lo hi b : Int} {q r : St} (h : Takes q [b] r) (h1 : lo ≤ b) (h2 : b ≤ hi) : oneP lo hi q = (b, r) := by
  have hz : q.1.size = 1 + r.1.size := by rw [h.2.2.2, ByteArray.size_append, strOfNums_size]; rfl
  have hb : bt q.1 0 = b := by
    have := bt_byt q.1 0 (by omega)
    rw [show ((0 : Nat) : Int) = 0 by rfl] at this
    rw [this]
    simp only [h.2.2.2, byt_append, byt_str h.2.2.1]
    rfl
  unfold oneP
  rw [if_pos h.1, if_neg (show ¬ q.1.size = 0 by omega), hb, if_neg (show ¬ (b < lo ∨ hi < b) by omega), rest_at h 1 rfl]
theorem oneP_back {lo hi : Int} {q : St} (h : (oneP lo hi q).2.2 = 0) : Takes q [(oneP lo hi q).1] (oneP lo hi q).2 ∧ lo ≤ (oneP lo hi q).1 ∧ (oneP lo hi q).1 ≤ hi ∧ 0 ≤ (oneP lo hi q).1 ∧ (oneP lo hi q).1 ≤ 255 := by
  obtain ⟨h1, h2, h3, h4, h5⟩ := oneP_ok h
  rw [h5]
  have hb := btr q.1 0
  have hg : bt q.1 0 = (byt q.1)[0]'(by rw [byt_len]; exact h2) := bt_byt q.1 0 h2
  refine ⟨⟨h1, rfl, ?_, ?_⟩, h3, h4, hb.1, by omega⟩
  · intro x hx
    rw [List.mem_singleton.1 hx]
    exact ⟨hb.1, by omega⟩
  · refine (cjoin q.1 1 [bt q.1 0] ?_).symm
    rw [hg]
    exact take_one _ _
theorem rawP_fwd {n : Nat} {q r : St} (h : Takes q (sb n) r) (hn : n < 18446744073709551616) : rawP q = ((n : Int), r) := by
  have hL := longS_sb n hn r.1
  rw [← h.2.2.2] at hL
  unfold rawP
  rw [if_pos h.1, hL, if_pos rfl]
  simp only [Int.toNat_natCast]
  rw [rest_at h _ rfl]
theorem rawP_back {q : St} (h : (rawP q).2.2 = 0) : Takes q (sb (rawP q).1.toNat) (rawP q).2 ∧ 0 ≤ (rawP q).1 ∧ (rawP q).1 < 18446744073709551616 := by
  obtain ⟨h1, h2, h3⟩ := rawP_ok h
  obtain ⟨m, e1, k1, k2, k3, k4, k5, k6, k7⟩ := longS_ok q.1 h2
  have hb := longS_back q.1 m e1 k2 k5 k6 k7
  rw [h3, e1]
  simp only [Int.toNat_natCast]
  exact ⟨⟨h1, rfl, sb_bytes _, (cjoin q.1 (m + 1) _ hb).symm⟩, k3, k4⟩
theorem numP_fwd {m : Int} {n : Nat} {q r : St} (h : Takes q (sb n) r) (hn : n < 18446744073709551616) (hm : (n : Int) ≤ m) : numP m q = ((n : Int), r) := by
  unfold numP
  rw [rawP_fwd h hn, if_neg (show ¬ m < (n : Int) by omega)]
theorem numP_back {m : Int} {q : St} (h : (numP m q).2.2 = 0) : Takes q (sb (numP m q).1.toNat) (numP m q).2 ∧ 0 ≤ (numP m q).1 ∧ (numP m q).1 ≤ m := by
  obtain ⟨h1, h2, h3⟩ := numP_ok h
  obtain ⟨k1, k2, k3⟩ := rawP_back h2
  rw [h1]
  exact ⟨k1, k2, h3⟩
def textE (s : ByteArray) : List Int := sb s.size ++ byt s
theorem textE_bytes (s : ByteArray) : Bytes (textE s) := (sb_bytes _).append (byt_bytes _)
theorem Takes.split {q r : St} {a b : List Int} (h : Takes q (a ++ b) r) : Takes q a (strOfNums b ++ r.1, 0) ∧ Takes (strOfNums b ++ r.1, 0) b r := by
  obtain ⟨h1, h2, h3, h4⟩ := h
  have ha : Bytes a := fun x hx => h3 x (List.mem_append_left _ hx)
  have hb : Bytes b := fun x hx => h3 x (List.mem_append_right _ hx)
  exact ⟨⟨h1, rfl, ha, by rw [h4, strOfNums_append, ByteArray.append_assoc]⟩, ⟨rfl, h2, hb, rfl⟩⟩
theorem textP_fwd {m : Int} {t : ByteArray} {q r : St} (h : Takes q (textE t) r) (hm : (t.size : Int) ≤ m) (hs : t.size ≤ 1000000000) : textP m q = (t, r) := by
  unfold textE at h
  obtain ⟨k1, k2⟩ := h.split
  unfold textP
  rw [numP_fwd k1 (by omega) hm, if_pos rfl]
  simp only [Int.toNat_natCast]
  have hz : (strOfNums (byt t) ++ r.1).size = t.size + r.1.size := by rw [ByteArray.size_append, strOfNums_size, byt_len]
  rw [if_neg (by omega), rest_at k2 t.size (byt_len t).symm, str_byt]
  congr 1
  apply byt_inj
  rw [byt_to, byt_append, ← byt_len t, List.take_left]
theorem textP_back {m : Int} {q : St} (h : (textP m q).2.2 = 0) : Takes q (textE (textP m q).1) (textP m q).2 ∧ ((textP m q).1.size : Int) ≤ m := by
  obtain ⟨h1, h2, h3⟩ := textP_ok h
  obtain ⟨k1, k2, k3⟩ := numP_back h1
  rw [h3]
  generalize hN : numP m q = N at *
  obtain ⟨n, z, e⟩ := N
  obtain ⟨n, rfl⟩ := Int.eq_ofNat_of_zero_le k2
  simp only [Int.toNat_natCast] at h1 h2 k1 k3 ⊢
  have hs : (z.extract 0 n).size = n := by rw [← byt_len, byt_to, List.length_take, byt_len]; omega
  refine ⟨?_, by rw [hs]; exact k3⟩
  unfold textE
  rw [hs]
  refine k1.trans ⟨h1, rfl, byt_bytes _, ?_⟩
  exact (cjoin z n _ (byt_to z n)).symm
def valT (k n : Int) (s : ByteArray) : List Int := if k = 1 ∨ k = 2 then sb (zigS n).toNat else if k = 3 ∨ k = 4 then textE s else []
def valE (v : S23) : List Int := v.f0 :: valT v.f0 v.f1 v.f2
theorem valP_fwd {v : S23} {q r : St} (h : Takes q (valE v) r) (hv : valB v.f0 v.f1 v.f2 = true) (hw : (Lit.int .i64 v.f1).wf = true) : valP q = (v, r) := by
  have hw := wf64 hw
  have hz := zigS_range v.f1 hw.1 hw.2
  obtain ⟨k, n, s⟩ := v
  simp only at hv hw hz
  have h : Takes q ([k] ++ valT k n s) r := h
  obtain ⟨k1, k2⟩ := h.split
  generalize hm : (strOfNums (valT k n s) ++ r.1, (0 : Int)) = m at k1 k2
  clear hm h
  have hs0 : s.size = 0 → s = nilB := fun e => ba_of0 s e
  have hzn : (((zigS n).toNat : Nat) : Int) = zigS n := by omega
  have t12 : k = 1 ∨ k = 2 → Takes m (sb (zigS n).toNat) r := fun e => by unfold valT at k2; rwa [if_pos e] at k2
  have t34 : k = 3 ∨ k = 4 → Takes m (textE s) r := fun e => by unfold valT at k2; rwa [if_neg (by omega), if_pos e] at k2
  have t0 : k = 0 → m = r := fun e => by unfold valT at k2; rw [if_neg (by omega), if_neg (by omega)] at k2; exact k2.nil_eq
  unfold valB at hv
  have h04 : 0 ≤ k ∧ k ≤ 4 := by
    by_cases e0 : k = 0
    · omega
    · rw [if_neg e0] at hv
      by_cases e1 : k = 1
      · omega
      · rw [if_neg e1] at hv
        by_cases e2 : k = 2
        · omega
        · rw [if_neg e2] at hv
          by_cases e3 : k = 3
          · omega
          · rw [if_neg e3] at hv
            by_cases e4 : k = 4
            · omega
            · rw [if_neg e4] at hv
              cases hv
  unfold valP
  rw [oneP_fwd k1 h04.1 h04.2]
  simp only
  by_cases e0 : k = 0
  · rw [if_pos e0, Bool.and_eq_true, decide_eq_true_iff, decide_eq_true_iff] at hv
    rw [if_neg (by omega), if_neg (by omega), t0 e0, hv.1, hs0 hv.2]
  rw [if_neg e0] at hv
  by_cases e1 : k = 1
  · rw [if_pos e1, Bool.and_eq_true, decide_eq_true_iff] at hv
    rw [if_pos (.inl e1), rawP_fwd (t12 (.inl e1)) (by omega)]
    simp only
    rw [hzn, zag_zig, hs0 hv.2]
    unfold chk
    rw [if_pos (by rw [hv.1]; simp)]
  rw [if_neg e1] at hv
  by_cases e2 : k = 2
  · rw [if_pos e2, decide_eq_true_iff] at hv
    rw [if_pos (.inr e2), rawP_fwd (t12 (.inr e2)) (by omega)]
    simp only
    rw [hzn, zag_zig, hs0 hv]
    unfold chk
    rw [if_pos (by rw [decide_eq_true e2]; rfl)]
  rw [if_neg e2] at hv
  by_cases e3 : k = 3
  · rw [if_pos e3, Bool.and_eq_true, Bool.and_eq_true, decide_eq_true_iff, decide_eq_true_iff] at hv
    obtain ⟨hv1, hv2, hv3⟩ := hv
    rw [if_neg (by omega), if_pos (.inl e3), textP_fwd (t34 (.inl e3)) (by omega) (by omega)]
    simp only
    unfold chk
    rw [if_pos (by rw [hv3]; simp), hv1]
  rw [if_neg e3] at hv
  by_cases e4 : k = 4
  · rw [if_pos e4, Bool.and_eq_true, decide_eq_true_iff, decide_eq_true_iff] at hv
    obtain ⟨hv1, hv2⟩ := hv
    rw [if_neg (by omega), if_pos (.inr e4), textP_fwd (t34 (.inr e4)) (by omega) (by omega)]
    simp only
    unfold chk
    rw [if_pos (by rw [decide_eq_true e4]; rfl), hv1]
  omega
def At1 (s : ByteArray) (q : St) : Prop := s.size ≤ 1000000000 ∧ (q.2 = 0 → s = q.1)
theorem rest_size (s : ByteArray) (n : Nat) : (rest s n).size = s.size - n := cut_size s n
theorem fail_eq (s : ByteArray) (e x : Int) : catcode_reader_fail.f s e x = some (s, if e = 0 then x else e) := by
  unfold catcode_reader_fail.f
  by_cases h : e = 0
  · rw [if_pos h, if_pos h]
  · rw [if_neg h, if_neg h]
theorem one_eq1 (lo hi : Int) (s : ByteArray) (q : St) (h : At1 s q) : ∃ s', catcode_reader_one.f s q.2 lo hi = some ((oneP lo hi q).1, s', (oneP lo hi q).2.2) ∧ At1 s' (oneP lo hi q).2 := by
  obtain ⟨z, e⟩ := q
  obtain ⟨hz, h⟩ := h
  simp only at h
  unfold catcode_reader_one.f oneP
  simp only
  by_cases he : e = 0
  · have := h he
    subst this
    subst he
    rw [if_pos rfl, if_pos rfl, fail_eq, fail_eq]
    by_cases h0 : s.size = 0
    · rw [if_pos ((ba_nil s).2 h0), if_pos h0]
      exact ⟨s, rfl, hz, fun e => absurd e (by decide)⟩
    · rw [if_neg (fun e => h0 ((ba_nil s).1 e)), if_neg h0, if_pos (by omega)]
      by_cases h1 : bt s 0 < lo
      · rw [if_pos h1, if_pos (show bt s 0 < lo ∨ hi < bt s 0 from .inl h1)]
        exact ⟨s, rfl, hz, fun e => absurd e (by decide)⟩
      · rw [if_neg h1]
        by_cases h2 : hi < bt s 0
        · rw [if_pos (show bt s 0 > hi from h2), if_pos (show bt s 0 < lo ∨ hi < bt s 0 from .inr h2)]
          exact ⟨s, rfl, hz, fun e => absurd e (by decide)⟩
        · rw [if_neg (show ¬ bt s 0 > hi from h2), if_neg (show ¬ (bt s 0 < lo ∨ hi < bt s 0) by omega), if_pos (show 1 ≤ (s.size : Int) by omega)]
          exact ⟨rest s 1, rfl, by rw [rest_size]; omega, fun _ => rfl⟩
  · rw [if_neg he, if_neg he]
    exact ⟨s, rfl, hz, fun e => absurd e he⟩
theorem raw_ev1 (s : ByteArray) (q : St) (h : At1 s q) : ∃ s', Ev (fun k => catcode_reader_raw.f k s q.2) ((rawP q).1, s', (rawP q).2.2) ∧ At1 s' (rawP q).2 := by
  obtain ⟨z, e⟩ := q
  obtain ⟨hz, h⟩ := h
  simp only at h
  unfold catcode_reader_raw.f rawP
  simp only
  by_cases he : e = 0
  · have := h he
    subst this
    subst he
    rw [if_pos rfl]
    have hL := word_Long_ev s
    by_cases h0 : (longS s).2.2 = 0
    · obtain ⟨a1, a2, a3, a4, a5⟩ := long_two s h0
      rw [if_pos h0]
      refine ⟨rest s (longS s).2.1.toNat, Ev.congr (fun k => by rw [if_pos rfl]) (Ev.bind hL (Ev.congr (f := fun _ => some _) (fun k => by rw [fail_eq, Option.bind_some, if_pos (by omega), if_pos a4]) (Ev.eq (Ev.now _) ?_))), by rw [rest_size]; omega, fun _ => rfl⟩
      rw [h0]
      rfl
    · obtain ⟨e1, e2⟩ := longS_err s h0
      rw [if_neg h0]
      have s1 : (longS s).1 = 0 := by rw [e1]
      have s2 : (longS s).2.1 = 0 := by rw [e1]
      refine ⟨rest s 0, Ev.congr (fun k => by rw [if_pos rfl]) (Ev.bind hL (Ev.congr (f := fun _ => some _) (fun k => by rw [fail_eq, Option.bind_some, s2, if_pos (by decide), if_pos (by simp only; omega)]) (Ev.eq (Ev.now _) ?_))), by rw [rest_size]; omega, fun e => absurd e h0⟩
      rw [s1]
      rfl
  · rw [if_neg he]
    exact ⟨s, Ev.congr (f := fun _ => some (0, s, e)) (fun k => by rw [if_neg he]) (Ev.now _), hz, fun e2 => absurd e2 he⟩
theorem raw_range (q : St) : 0 ≤ (rawP q).1 ∧ (rawP q).1 ≤ 18446744073709551615 := by
  by_cases h : (rawP q).2.2 = 0
  · have := rawP_back h
    omega
  · have : (rawP q).1 = 0 := by
      unfold rawP at h ⊢
      split at h
      · rename_i h1
        rw [if_pos h1]
        split at h
        · exact absurd rfl h
        · rename_i h2
          rw [if_neg h2]
      · rename_i h1
        rw [if_neg h1]
    rw [this]
    omega
theorem num_range {m : Int} (h0 : 0 ≤ m) (q : St) : 0 ≤ (numP m q).1 ∧ (numP m q).1 ≤ m := by
  unfold numP
  split
  · exact ⟨by simp, h0⟩
  · exact ⟨(raw_range q).1, by omega⟩
theorem At1.fl {s : ByteArray} {q : St} {e : Int} (h : At1 s q) (he : e ≠ 0) : At1 s (fl e q) := ⟨h.1, fun e2 => absurd e2 (fl_ne he)⟩
theorem fl_two (e : Int) (q : St) : (fl e q).2 = if q.2 = 0 then e else q.2 := by
  unfold fl
  split <;> rfl
theorem num_ev1 (m : Int) (h0 : 0 ≤ m) (h1 : m ≤ 9223372036854775807) (s : ByteArray) (q : St) (h : At1 s q) : ∃ s', Ev (fun k => catcode_reader_number.f k s q.2 m) ((numP m q).1, s', (numP m q).2.2) ∧ At1 s' (numP m q).2 := by
  obtain ⟨s', k1, k2⟩ := raw_ev1 s q h
  have hu : IntKind.u64.wrap m = m := u64_id m h0 (by omega)
  have hr := raw_range q
  unfold catcode_reader_number.f numP
  by_cases hm : m < (rawP q).1
  · rw [if_pos hm]
    exact ⟨s', Ev.bind k1 (Ev.congr (f := fun _ => some (0, s', (fl 5 (rawP q).2).2)) (fun k => by rw [hu, if_pos (by simp only; omega), fail_eq, fl_two]; rfl) (Ev.now _)), k2.fl (by decide)⟩
  · rw [if_neg hm]
    exact ⟨s', Ev.bind k1 (Ev.congr (f := fun _ => some ((rawP q).1, s', (rawP q).2.2)) (fun k => by rw [hu, if_neg (by simp only; omega), wrap_id _ (by simp only; omega) (by simp only; omega)]) (Ev.now _)), k2⟩
theorem text_ev1 (m : Int) (h0 : 0 ≤ m) (h1 : m ≤ 1000000000) (s : ByteArray) (q : St) (h : At1 s q) : ∃ s', Ev (fun k => catcode_reader_text.f k s q.2 m) ((textP m q).1, s', (textP m q).2.2) ∧ At1 s' (textP m q).2 := by
  obtain ⟨s1, k1, k2⟩ := num_ev1 m h0 (by omega) s q h
  have hr := num_range h0 q
  have hjb : ∀ e : Int, e ≠ 0 → Ev (fun k => catcode_reader_text.j0 k (numP m q).1 s1 e) (nilB, s1, e) := fun e he => by
    refine Ev.step (f := fun _ => some (nilB, s1, e)) (fun k => ?_) (Ev.now _)
    simp only [catcode_reader_text.j0]
    rw [if_neg he]
    rfl
  unfold catcode_reader_text.f textP
  by_cases he : (numP m q).2.2 = 0
  · have hs := k2.2 he
    rw [if_pos he]
    by_cases hz : ((numP m q).2.1.size : Int) < (numP m q).1
    · rw [if_pos hz]
      refine ⟨s1, Ev.bind k1 (Ev.congr (fun k => by rw [if_pos (by simp only; rw [hs]; omega), fail_eq, Option.bind_some]) ?_), k2.1, fun e => absurd e (by decide)⟩
      refine Ev.eq (hjb (if (numP m q).2.2 = 0 then 4 else (numP m q).2.2) (by rw [if_pos he]; decide)) ?_
      rw [if_pos he]
    · rw [if_neg hz]
      obtain ⟨n, hn⟩ := Int.eq_ofNat_of_zero_le hr.1
      rw [hn] at hz ⊢
      rw [Int.toNat_natCast]
      refine ⟨rest (numP m q).2.1 n, Ev.bind k1 (Ev.congr (fun k => by rw [if_neg (by simp only; rw [hs]; omega)]) ?_), by rw [rest_size, ← hs]; have := k2.1; omega, fun _ => rfl⟩
      refine Ev.step (f := fun _ => some _) (fun k => ?_) (Ev.now _)
      simp only [catcode_reader_text.j0]
      rw [if_pos he, hn, if_pos (by omega), if_pos (by rw [hs]; omega), Int.toNat_natCast, hs, he]
      rfl
  · rw [if_neg he]
    have hn0 : (numP m q).1 = 0 := by
      unfold numP at he ⊢
      split
      · rfl
      · rename_i c
        rw [if_neg c] at he
        unfold rawP at he ⊢
        split at he
        · rename_i c1
          rw [if_pos c1]
          split at he
          · exact absurd rfl he
          · rename_i c2
            rw [if_neg c2]
        · rename_i c1
          rw [if_neg c1]
    refine ⟨s1, Ev.bind k1 (Ev.congr (fun k => by rw [if_neg (by simp only; omega)]) (hjb _ he)), k2⟩
theorem chk_two (b : Bool) (q : St) : (chk b q).2 = if b = true then q.2 else if q.2 = 0 then 5 else q.2 := by
  unfold chk
  split
  · rfl
  · exact fl_two 5 q
theorem At1.chk {s : ByteArray} {q : St} (b : Bool) (h : At1 s q) : At1 s (chk b q) := by
  refine ⟨h.1, fun e => ?_⟩
  obtain ⟨_, h2, h3⟩ := chk_ok e
  rw [h3]
  exact h.2 h2
theorem one_range {lo hi : Int} (q : St) : 0 ≤ (oneP lo hi q).1 ∧ (oneP lo hi q).1 ≤ 255 ∧ ((oneP lo hi q).1 = 0 ∨ (lo ≤ (oneP lo hi q).1 ∧ (oneP lo hi q).1 ≤ hi)) := by
  by_cases h : (oneP lo hi q).2.2 = 0
  · have := oneP_back h
    omega
  · have : (oneP lo hi q).1 = 0 := by
      unfold oneP at h ⊢
      split at h
      · rename_i c1
        rw [if_pos c1]
        split at h
        · rename_i c2
          rw [if_pos c2]
        · rename_i c2
          rw [if_neg c2]
          split at h
          · rename_i c3
            rw [if_pos c3]
          · exact absurd rfl h
      · rename_i c1
        rw [if_neg c1]
    rw [this]
    omega
theorem text_size (m : Int) (hm : 0 ≤ m) (q : St) : ((textP m q).1.size : Int) ≤ m := by
  by_cases h : (textP m q).2.2 = 0
  · exact (textP_back h).2
  · have : (textP m q).1 = nilB := by
      unfold textP at h ⊢
      split at h
      · rename_i c1
        rw [if_pos c1]
        split at h
        · rename_i c2
          rw [if_pos c2]
        · exact absurd rfl h
      · rename_i c1
        rw [if_neg c1]
    rw [this]
    exact hm
theorem value_ev1 (s : ByteArray) (q : St) (h : At1 s q) : ∃ s', Ev (fun k => catcode_reader_value.f k s q.2) ((valP q).1.f0, (valP q).1.f1, (valP q).1.f2, s', (valP q).2.2) ∧ At1 s' (valP q).2 := by
  obtain ⟨s1, k1, k2⟩ := one_eq1 0 4 s q h
  have hr := one_range (lo := 0) (hi := 4) q
  unfold catcode_reader_value.f valP
  generalize hO : oneP 0 4 q = o at *
  obtain ⟨k, q1⟩ := o
  simp only at k1 k2 hr ⊢
  have hw : wrap64 k = k := wrap_id _ (by omega) (by omega)
  by_cases h12 : k = 1 ∨ k = 2
  · rw [if_pos h12]
    obtain ⟨s2, r1, r2⟩ := raw_ev1 s1 q1 k2
    have hrr := raw_range q1
    have hj : Ev (fun m => catcode_reader_value.j0 m k true s1 q1.2 k 0 (⟨#[]⟩ : ByteArray)) (k, zagS (rawP q1).1, nilB, s2, (chk (decide (k = 2) || fits32 (zagS (rawP q1).1)) (rawP q1).2).2) := by
      refine Ev.step (fun m => by simp only [catcode_reader_value.j0]; rw [if_pos (by trivial)]) (Ev.bind r1 ?_)
      rw [chk_two]
      by_cases hk : k = 1
      · refine Ev.congr (fun m => by rw [word_Zag_eq _ hrr.1 hrr.2, Option.bind_some, if_pos hk, wfits32, Option.bind_some]) ?_
        rw [decide_eq_false (show ¬ k = 2 by omega), Bool.false_or]
        cases hf : fits32 (zagS (rawP q1).1)
        · exact Ev.congr (f := fun _ => some (k, zagS (rawP q1).1, nilB, s2, if (rawP q1).2.2 = 0 then 5 else (rawP q1).2.2)) (fun m => by rw [if_neg (by simp), fail_eq, Option.bind_some]; rfl) (Ev.now _)
        · exact Ev.congr (f := fun _ => some (k, zagS (rawP q1).1, nilB, s2, (rawP q1).2.2)) (fun m => by rw [if_pos rfl]; rfl) (Ev.now _)
      · rw [decide_eq_true (show k = 2 by omega), Bool.true_or, if_pos rfl]
        exact Ev.congr (f := fun _ => some (k, zagS (rawP q1).1, nilB, s2, (rawP q1).2.2)) (fun m => by rw [word_Zag_eq _ hrr.1 hrr.2, Option.bind_some, if_neg hk]; rfl) (Ev.now _)
    refine ⟨s2, Ev.congr (fun m => ?_) hj, r2.chk _⟩
    rw [k1, Option.bind_some]
    simp only [hw]
    by_cases hk : k = 1
    · rw [if_pos hk, show (k == 1) = true by rw [beq_iff_eq]; exact hk]
    · rw [if_neg hk, show (k == 2) = true by rw [beq_iff_eq]; omega]
  · rw [if_neg h12]
    have hj0 : ∀ r, Ev (fun m => catcode_reader_value.j0 m k false s1 q1.2 k 0 (⟨#[]⟩ : ByteArray)) r → Ev (fun m => (catcode_reader_one.f s q.2 0 4).bind fun bt273 => (if (wrap64 (bt273.1)) = 1 then (catcode_reader_value.j0 m (wrap64 (bt273.1)) ((wrap64 (bt273.1)) == 1) bt273.2.1 bt273.2.2 (wrap64 (bt273.1)) 0 (⟨#[]⟩ : ByteArray)) else (catcode_reader_value.j0 m (wrap64 (bt273.1)) ((wrap64 (bt273.1)) == 2) bt273.2.1 bt273.2.2 (wrap64 (bt273.1)) 0 (⟨#[]⟩ : ByteArray)))) r := fun r hr => by
      refine Ev.congr (fun m => ?_) hr
      rw [k1, Option.bind_some]
      simp only [hw]
      rw [if_neg (by omega), show (k == 2) = false by rw [beq_eq_false_iff_ne]; omega]
    by_cases h34 : k = 3 ∨ k = 4
    · rw [if_pos h34]
      obtain ⟨s2, t1, t2⟩ := text_ev1 120 (by decide) (by decide) s1 q1 k2
      have hts := text_size 120 (by decide) q1
      have hj1 : Ev (fun m => catcode_reader_value.j1 m true s1 q1.2 k 0 (⟨#[]⟩ : ByteArray)) (k, 0, (textP 120 q1).1, s2, (chk (decide (k = 4) || utfB (textP 120 q1).1) (textP 120 q1).2).2) := by
        refine Ev.step (fun m => by simp only [catcode_reader_value.j1]; rw [if_pos (by trivial)]) (Ev.bind t1 ?_)
        rw [chk_two]
        by_cases hk : k = 3
        · refine Ev.congr (fun m => by rw [if_pos hk]) (Ev.bind (uright_ev (textP 120 q1).1 (by omega)) ?_)
          rw [decide_eq_false (show ¬ k = 4 by omega), Bool.false_or]
          cases hf : utfB (textP 120 q1).1
          · exact Ev.congr (f := fun _ => some (k, 0, (textP 120 q1).1, s2, if (textP 120 q1).2.2 = 0 then 5 else (textP 120 q1).2.2)) (fun m => by rw [if_neg (by simp), fail_eq, Option.bind_some]) (Ev.now _)
          · exact Ev.congr (f := fun _ => some (k, 0, (textP 120 q1).1, s2, (textP 120 q1).2.2)) (fun m => by rw [if_pos rfl]) (Ev.now _)
        · rw [decide_eq_true (show k = 4 by omega), Bool.true_or, if_pos rfl]
          exact Ev.congr (f := fun _ => some (k, 0, (textP 120 q1).1, s2, (textP 120 q1).2.2)) (fun m => by rw [if_neg hk]) (Ev.now _)
      refine ⟨s2, hj0 _ (Ev.step (fun m => ?_) hj1), t2.chk _⟩
      simp only [catcode_reader_value.j0]
      rw [if_neg (by simp)]
      by_cases hk : k = 3
      · rw [if_pos hk, show (k == 3) = true by rw [beq_iff_eq]; exact hk]
      · rw [if_neg hk, show (k == 4) = true by rw [beq_iff_eq]; omega]
    · rw [if_neg h34]
      refine ⟨s1, hj0 _ (Ev.step (f := fun m => catcode_reader_value.j1 m false s1 q1.2 k 0 (⟨#[]⟩ : ByteArray)) (fun m => ?_) (Ev.step (f := fun _ => some (k, 0, (⟨#[]⟩ : ByteArray), s1, q1.2)) (fun m => ?_) (Ev.now _))), k2⟩
      · simp only [catcode_reader_value.j0]
        rw [if_neg (by simp), if_neg (by omega), show (k == 4) = false by rw [beq_eq_false_iff_ne]; omega]
      · simp only [catcode_reader_value.j1]
        rw [if_neg (by simp)]
/- piece catr -/
def At2 (S : ByteArray) (p : Int) (q : St) : Prop := S.size ≤ 1000000000 ∧ (q.2 = 0 → ∃ n : Nat, p = (n : Int) ∧ n ≤ S.size ∧ q.1 = rest S n)
theorem bad_eq (S : ByteArray) (p e x : Int) : haulageref11_R_bad.f S p e x = some (S, p, if e = 0 then x else e) := by
  unfold haulageref11_R_bad.f
  by_cases h : e = 0
  · rw [if_pos h, if_pos h]
  · rw [if_neg h, if_neg h]
theorem rest_rest (S : ByteArray) (a b : Nat) : rest (rest S a) b = rest S (a + b) := cut_cut S a b
theorem bt_rest (S : ByteArray) (n : Nat) (h : n < S.size) : bt (rest S n) 0 = bt S (n : Int) := by
  have h1 := bt_byt (rest S n) 0 (by rw [rest_size]; omega)
  have h2 := bt_byt S n h
  rw [show ((0 : Nat) : Int) = 0 by rfl] at h1
  rw [h1, h2]
  simp only [rest, byt_cut, List.getElem_drop, Nat.add_zero]
theorem one_ev2 (lo hi : Int) (S : ByteArray) (p : Int) (q : St) (h : At2 S p q) : ∃ p', Ev (fun k => haulageref11_R_Byte.f k S p q.2 lo hi) ((oneP lo hi q).1, S, p', (oneP lo hi q).2.2) ∧ At2 S p' (oneP lo hi q).2 := by
  obtain ⟨z, e⟩ := q
  obtain ⟨hz, h⟩ := h
  simp only at h
  unfold haulageref11_R_Byte.f oneP
  simp only
  by_cases he : e = 0
  · obtain ⟨n, rfl, hn, rfl⟩ := h he
    subst he
    rw [if_pos rfl, rest_size]
    have hj : ∀ r, Ev (fun k => haulageref11_R_Byte.j1 k lo hi S (n : Int) 0) r → n < S.size → Ev (fun k => if (0 : Int) = 0 then haulageref11_R_Byte.j0 k lo hi (decide ((n : Int) ≥ (S.size : Int))) S (n : Int) 0 else haulageref11_R_Byte.j0 k lo hi false S (n : Int) 0) r := fun r hr hl => by
      refine Ev.congr (fun k => by rw [if_pos rfl, decide_eq_false (show ¬ (n : Int) ≥ (S.size : Int) by omega)]) (Ev.step (fun k => ?_) hr)
      simp only [haulageref11_R_Byte.j0]
      rw [if_neg (by simp)]
    by_cases h0 : S.size - n = 0
    · rw [if_pos h0]
      refine ⟨(n : Int), Ev.congr (fun k => by rw [if_pos rfl, decide_eq_true (show (n : Int) ≥ (S.size : Int) by omega)]) (Ev.step (f := fun k => haulageref11_R_Byte.j1 k lo hi S (n : Int) 4) (fun k => ?_) (Ev.step (f := fun _ => some (0, S, (n : Int), 4)) (fun k => ?_) (Ev.now _))), hz, fun e => absurd e (by decide)⟩
      · simp only [haulageref11_R_Byte.j0]
        rw [if_pos (by trivial), bad_eq, Option.bind_some]
        rfl
      · simp only [haulageref11_R_Byte.j1]
        rw [if_neg (by decide)]
    · rw [if_neg h0]
      have hb := btr S (n : Int)
      have hbr := bt_rest S n (by omega)
      have hw : wrap64 (bt S (n : Int)) = bt S (n : Int) := wrap_id _ (by omega) (by omega)
      rw [hbr]
      by_cases h1 : bt S (n : Int) < lo
      · rw [if_pos (show bt S (n : Int) < lo ∨ hi < bt S (n : Int) from .inl h1)]
        refine ⟨(n : Int), hj _ (Ev.step (f := fun _ => some (0, S, (n : Int), 5)) (fun k => ?_) (Ev.now _)) (by omega), hz, fun e => absurd e (by decide)⟩
        simp only [haulageref11_R_Byte.j1]
        rw [if_pos (by trivial), if_pos (by omega), if_pos (by omega), hw, if_pos h1, bad_eq]
        rfl
      · by_cases h2 : hi < bt S (n : Int)
        · rw [if_pos (show bt S (n : Int) < lo ∨ hi < bt S (n : Int) from .inr h2)]
          refine ⟨(n : Int), hj _ (Ev.step (f := fun _ => some (0, S, (n : Int), 5)) (fun k => ?_) (Ev.now _)) (by omega), hz, fun e => absurd e (by decide)⟩
          simp only [haulageref11_R_Byte.j1]
          rw [if_pos (by trivial), if_pos (by omega), if_pos (by omega), hw, if_neg h1, if_pos (show bt S (n : Int) > hi from h2), bad_eq]
          rfl
        · rw [if_neg (show ¬ (bt S (n : Int) < lo ∨ hi < bt S (n : Int)) by omega)]
          refine ⟨((n + 1 : Nat) : Int), hj _ (Ev.step (f := fun _ => some (bt S (n : Int), S, ((n + 1 : Nat) : Int), 0)) (fun k => ?_) (Ev.now _)) (by omega), hz, fun _ => ⟨n + 1, rfl, by omega, rest_rest S n 1⟩⟩
          simp only [haulageref11_R_Byte.j1]
          rw [if_pos (by trivial), if_pos (by omega), if_pos (by omega), hw, if_neg h1, if_neg (show ¬ bt S (n : Int) > hi from h2), wrap_succ _ (by omega)]
  · rw [if_neg he]
    refine ⟨p, Ev.congr (fun k => by rw [if_neg he]) (Ev.step (f := fun k => haulageref11_R_Byte.j1 k lo hi S p e) (fun k => ?_) (Ev.step (f := fun _ => some (0, S, p, e)) (fun k => ?_) (Ev.now _))), hz, fun e2 => absurd e2 he⟩
    · simp only [haulageref11_R_Byte.j0]
      rw [if_neg (by simp)]
    · simp only [haulageref11_R_Byte.j1]
      rw [if_neg he]
theorem raw_ev2 (S : ByteArray) (p : Int) (q : St) (h : At2 S p q) : ∃ p', Ev (fun k => haulageref11_R_Raw.f k S p q.2) ((rawP q).1, S, p', (rawP q).2.2) ∧ At2 S p' (rawP q).2 := by
  obtain ⟨z, e⟩ := q
  obtain ⟨hz, h⟩ := h
  simp only at h
  unfold haulageref11_R_Raw.f rawP
  simp only
  by_cases he : e = 0
  · obtain ⟨n, rfl, hn, rfl⟩ := h he
    subst he
    rw [if_pos rfl]
    have hL : Ev (fun k => haulageref01_Long.f k (S.extract ((n : Int)).toNat S.size)) (longS (rest S n)) := by
      rw [Int.toNat_natCast]
      exact refLong_ev (rest S n)
    have hpre : ∀ r, Ev (fun k => (haulageref01_Long.f k (S.extract ((n : Int)).toNat S.size)).bind fun bt335 => ((haulageref11_R_bad.f S (n : Int) 0 bt335.2.2).bind fun bt338 => (some (bt335.1, bt338.1, wrap64 (bt338.2.1 + bt335.2.1), bt338.2.2)))) r → Ev (fun k => if (0 : Int) = 0 then (if 0 ≤ (n : Int) then (if (n : Int) ≤ (S.size : Int) then ((haulageref01_Long.f k (S.extract ((n : Int)).toNat S.size)).bind fun bt335 => ((haulageref11_R_bad.f S (n : Int) 0 bt335.2.2).bind fun bt338 => (some (bt335.1, bt338.1, wrap64 (bt338.2.1 + bt335.2.1), bt338.2.2)))) else (none)) else (none)) else (some (0, S, (n : Int), 0))) r := fun r hr =>
      Ev.congr (fun k => by rw [if_pos rfl, if_pos (by omega), if_pos (by omega)]) hr
    have hsz := rest_size S n
    by_cases h0 : (longS (rest S n)).2.2 = 0
    · obtain ⟨a1, a2, a3, a4, a5⟩ := long_two (rest S n) h0
      obtain ⟨m, hm⟩ := Int.eq_ofNat_of_zero_le (show 0 ≤ (longS (rest S n)).2.1 by omega)
      rw [if_pos h0]
      rw [hm] at a3 a4 a5
      refine ⟨((n + m : Nat) : Int), hpre _ (Ev.bind hL (Ev.congr (f := fun _ => some ((longS (rest S n)).1, S, ((n + m : Nat) : Int), 0)) (fun k => by rw [bad_eq, Option.bind_some, hm, wrap_id _ (by simp only; omega) (by simp only; omega), h0]; simp) (Ev.now _))), hz, fun _ => ⟨n + m, rfl, by omega, ?_⟩⟩
      rw [hm, Int.toNat_natCast]
      exact rest_rest S n m
    · obtain ⟨e1, e2⟩ := longS_err (rest S n) h0
      rw [if_neg h0]
      have s1 : (longS (rest S n)).1 = 0 := by rw [e1]
      have s2 : (longS (rest S n)).2.1 = 0 := by rw [e1]
      refine ⟨(n : Int), hpre _ (Ev.bind hL (Ev.congr (f := fun _ => some (0, S, (n : Int), (longS (rest S n)).2.2)) (fun k => by rw [bad_eq, Option.bind_some, s1, s2, wrap_id _ (by simp only; omega) (by simp only; omega)]; simp) (Ev.now _))), hz, fun e => absurd e h0⟩
  · rw [if_neg he]
    exact ⟨p, Ev.congr (f := fun _ => some (0, S, p, e)) (fun k => by rw [if_neg he]) (Ev.now _), hz, fun e2 => absurd e2 he⟩
theorem num_ev2 (m : Int) (h0 : 0 ≤ m) (h1 : m ≤ 9223372036854775807) (S : ByteArray) (p : Int) (q : St) (h : At2 S p q) : ∃ p', Ev (fun k => haulageref11_R_Number.f k S p q.2 m) ((numP m q).1, S, p', (numP m q).2.2) ∧ At2 S p' (numP m q).2 := by
  obtain ⟨p', k1, k2⟩ := raw_ev2 S p q h
  have hu : IntKind.u64.wrap m = m := u64_id m h0 (by omega)
  have hr := raw_range q
  have hj1 : ∀ (n e : Int), 0 ≤ n → n ≤ 9223372036854775807 → (e ≠ 0 → n = 0) → Ev (fun k => haulageref11_R_Number.j1 k n S p' e) (n, S, p', e) := fun n e hn0 hn1 hne => by
    refine Ev.step (f := fun _ => some (n, S, p', e)) (fun k => ?_) (Ev.now _)
    simp only [haulageref11_R_Number.j1]
    by_cases he : e = 0
    · rw [if_pos he, wrap_id _ (by omega) (by omega)]
    · rw [if_neg he, hne he]
  have hjb : ∀ (n e : Int), e ≠ 0 → Ev (fun k => haulageref11_R_Number.j1 k n S p' e) (0, S, p', e) := fun n e he => by
    refine Ev.step (f := fun _ => some (0, S, p', e)) (fun k => ?_) (Ev.now _)
    simp only [haulageref11_R_Number.j1]
    rw [if_neg he]
  unfold haulageref11_R_Number.f numP
  by_cases he : (rawP q).2.2 = 0
  · by_cases hm : m < (rawP q).1
    · rw [if_pos hm]
      refine ⟨p', Ev.bind k1 (Ev.congr (fun k => by rw [if_pos he, hu, decide_eq_true (show (rawP q).1 > m from hm)]) (Ev.step (f := fun k => haulageref11_R_Number.j1 k (rawP q).1 S p' 5) (fun k => ?_) (Ev.eq (hjb _ 5 (by decide)) ?_))), k2.1, fun e => absurd e (fl_ne (by decide))⟩
      · simp only [haulageref11_R_Number.j0]
        rw [if_pos (by trivial), bad_eq, Option.bind_some, he]
        rfl
      · rw [fl_two, if_pos he]
    · rw [if_neg hm]
      refine ⟨p', Ev.bind k1 (Ev.congr (fun k => by rw [if_pos he, hu, decide_eq_false (show ¬ (rawP q).1 > m from hm)]) (Ev.step (f := fun k => haulageref11_R_Number.j1 k (rawP q).1 S p' (rawP q).2.2) (fun k => ?_) (hj1 _ _ (by omega) (by omega) (fun e => absurd he e)))), k2⟩
      simp only [haulageref11_R_Number.j0]
      rw [if_neg (by simp)]
  · have hn0 : (rawP q).1 = 0 := by
      unfold rawP at he ⊢
      split at he
      · rename_i c1
        rw [if_pos c1]
        split at he
        · exact absurd rfl he
        · rename_i c2
          rw [if_neg c2]
      · rename_i c1
        rw [if_neg c1]
    rw [if_neg (show ¬ m < (rawP q).1 by omega)]
    refine ⟨p', Ev.bind k1 (Ev.congr (fun k => by rw [if_neg he]) (Ev.step (f := fun k => haulageref11_R_Number.j1 k (rawP q).1 S p' (rawP q).2.2) (fun k => ?_) (hj1 _ _ (by omega) (by omega) (fun _ => hn0)))), k2⟩
    simp only [haulageref11_R_Number.j0]
    rw [if_neg (by simp)]
theorem rest_cut (S : ByteArray) (n m : Nat) : (rest S n).extract 0 m = S.extract n (n + m) := cut_to S n m
theorem num_zero {m : Int} {q : St} (h : (numP m q).2.2 ≠ 0) : (numP m q).1 = 0 := by
  unfold numP at h ⊢
  split
  · rfl
  · rename_i c
    rw [if_neg c] at h
    unfold rawP at h ⊢
    split at h
    · rename_i c1
      rw [if_pos c1]
      split at h
      · exact absurd rfl h
      · rename_i c2
        rw [if_neg c2]
    · rename_i c1
      rw [if_neg c1]
theorem text_ev2 (m : Int) (h0 : 0 ≤ m) (h1 : m ≤ 1000000000) (S : ByteArray) (p : Int) (q : St) (h : At2 S p q) : ∃ p', Ev (fun k => haulageref11_R_Text.f k S p q.2 m) ((textP m q).1, S, p', (textP m q).2.2) ∧ At2 S p' (textP m q).2 := by
  obtain ⟨p1, k1, k2⟩ := num_ev2 m h0 (by omega) S p q h
  have hr := num_range h0 q
  have hjb : ∀ e : Int, e ≠ 0 → Ev (fun k => haulageref11_R_Text.j1 k (numP m q).1 S p1 e) (nilB, S, p1, e) := fun e he => by
    refine Ev.step (f := fun _ => some (nilB, S, p1, e)) (fun k => ?_) (Ev.now _)
    simp only [haulageref11_R_Text.j1]
    rw [if_neg he]
    rfl
  unfold haulageref11_R_Text.f textP
  by_cases he : (numP m q).2.2 = 0
  · obtain ⟨n, hp, hn, hq⟩ := k2.2 he
    obtain ⟨N, hN⟩ := Int.eq_ofNat_of_zero_le hr.1
    rw [if_pos he, hq, hN, rest_size, Int.toNat_natCast]
    have hz := k2.1
    have hw : wrap64 ((S.size : Int) - p1) = ((S.size - n : Nat) : Int) := by rw [hp, wrap_id _ (by omega) (by omega)]; omega
    by_cases hlt : ((S.size - n : Nat) : Int) < (N : Int)
    · rw [if_pos hlt]
      have hd : (numP m q).1 > wrap64 ((S.size : Int) - p1) := by rw [hw, hN]; exact hlt
      refine ⟨p1, Ev.bind k1 (Ev.congr (fun k => by rw [if_pos he]) (Ev.step (f := fun k => haulageref11_R_Text.j1 k (numP m q).1 S p1 4) (fun k => ?_) (hjb 4 (by decide)))), k2.1, fun e => absurd e (by decide)⟩
      simp only [haulageref11_R_Text.j0]
      rw [if_pos (decide_eq_true hd), bad_eq, Option.bind_some, he]
      rfl
    · rw [if_neg hlt]
      refine ⟨((n + N : Nat) : Int), Ev.bind k1 (Ev.congr (fun k => by rw [if_pos he]) (Ev.step (f := fun k => haulageref11_R_Text.j1 k (N : Int) S p1 (numP m q).2.2) (fun k => ?_) (Ev.step (f := fun _ => some ((rest S n).extract 0 N, S, ((n + N : Nat) : Int), 0)) (fun k => ?_) (Ev.now _)))), k2.1, fun _ => ⟨n + N, rfl, by omega, by simp only; rw [rest_rest]⟩⟩
      · have hd : ¬ (numP m q).1 > wrap64 ((S.size : Int) - p1) := by rw [hw, hN]; exact hlt
        simp only [haulageref11_R_Text.j0]
        rw [if_neg (by rw [decide_eq_true_iff]; exact hd), hN]
      · have w1 : wrap64 (p1 + (N : Int)) = ((n + N : Nat) : Int) := by rw [hp, wrap_id _ (by omega) (by omega)]; omega
        have w2 : wrap64 (((n + N : Nat) : Int) - (N : Int)) = (n : Int) := by rw [wrap_id _ (by omega) (by omega)]; omega
        simp only [haulageref11_R_Text.j1]
        rw [if_pos he, w1, w2, if_pos (by omega), if_pos (by omega), if_pos (by omega), Int.toNat_natCast, Int.toNat_natCast, rest_cut, he]
  · rw [if_neg he]
    have hn0 := num_zero he
    refine ⟨p1, Ev.bind k1 (Ev.congr (fun k => by rw [if_neg he]) (Ev.step (f := fun k => haulageref11_R_Text.j1 k (numP m q).1 S p1 (numP m q).2.2) (fun k => ?_) (hjb _ he))), k2⟩
    simp only [haulageref11_R_Text.j0]
    rw [if_neg (by simp)]
theorem At2.chk {S : ByteArray} {p : Int} {q : St} (b : Bool) (h : At2 S p q) : At2 S p (chk b q) := by
  refine ⟨h.1, fun e => ?_⟩
  obtain ⟨_, h2, h3⟩ := chk_ok e
  rw [h3]
  exact h.2 h2
theorem value_ev2 (S : ByteArray) (p : Int) (q : St) (h : At2 S p q) : ∃ p', Ev (fun k => haulageref11_R_Value.f k S p q.2) ((valP q).1.f0, (valP q).1.f1, (valP q).1.f2, S, p', (valP q).2.2) ∧ At2 S p' (valP q).2 := by
  obtain ⟨p1, k1, k2⟩ := one_ev2 0 4 S p q h
  have hr := one_range (lo := 0) (hi := 4) q
  unfold haulageref11_R_Value.f valP
  generalize hO : oneP 0 4 q = o at *
  obtain ⟨k, q1⟩ := o
  simp only at k1 k2 hr ⊢
  have hless : ∀ (n : Int) (t : ByteArray) (e p2 : Int), ¬ k ≥ 3 → Ev (fun m => haulageref11_R_Value.j1 m S p2 e k n t) (k, n, t, S, p2, e) := fun n t e p2 hk => by
    refine Ev.step (f := fun _ => some (k, n, t, S, p2, e)) (fun m => ?_) (Ev.now _)
    simp only [haulageref11_R_Value.j1]
    rw [if_neg hk]
  by_cases h12 : k = 1 ∨ k = 2
  · rw [if_pos h12]
    obtain ⟨p2, r1, r2⟩ := raw_ev2 S p1 q1 k2
    have hrr := raw_range q1
    have hzr := zagS_range (rawP q1).1 hrr.1 hrr.2
    have hj : Ev (fun m => haulageref11_R_Value.j0 m true S p1 q1.2 k 0 (⟨#[]⟩ : ByteArray)) (k, zagS (rawP q1).1, nilB, S, p2, (chk (decide (k = 2) || fits32 (zagS (rawP q1).1)) (rawP q1).2).2) := by
      refine Ev.step (fun m => by simp only [haulageref11_R_Value.j0]; rw [if_pos (by trivial)]) (Ev.bind r1 ?_)
      rw [chk_two]
      by_cases hk : k = 1
      · refine Ev.congr (fun m => by rw [refZag_eq _ hrr.1 hrr.2, Option.bind_some, if_pos hk]) (Ev.bind (rfits32_ev _ (i64_wf hzr.1 hzr.2)) ?_)
        rw [decide_eq_false (show ¬ k = 2 by omega), Bool.false_or]
        cases hf : fits32 (zagS (rawP q1).1)
        · exact Ev.congr (fun m => by rw [if_neg (by simp), bad_eq, Option.bind_some]; rfl) (hless _ _ _ _ (by omega))
        · exact Ev.congr (fun m => by rw [if_pos rfl]; rfl) (hless _ _ _ _ (by omega))
      · rw [decide_eq_true (show k = 2 by omega), Bool.true_or, if_pos rfl]
        exact Ev.congr (fun m => by rw [refZag_eq _ hrr.1 hrr.2, Option.bind_some, if_neg hk]; rfl) (hless _ _ _ _ (by omega))
    refine ⟨p2, Ev.bind k1 (Ev.congr (fun m => ?_) hj), r2.chk _⟩
    simp only
    by_cases hk : k = 1
    · rw [if_pos hk]
    · rw [if_neg hk, show (k == 2) = true by rw [beq_iff_eq]; omega]
  · rw [if_neg h12]
    have hj0 : ∀ r, Ev (fun m => haulageref11_R_Value.j1 m S p1 q1.2 k 0 (⟨#[]⟩ : ByteArray)) r → Ev (fun m => if k = 1 then haulageref11_R_Value.j0 m true S p1 q1.2 k 0 (⟨#[]⟩ : ByteArray) else haulageref11_R_Value.j0 m (k == 2) S p1 q1.2 k 0 (⟨#[]⟩ : ByteArray)) r := fun r hr => by
      refine Ev.congr (fun m => by rw [if_neg (by omega), show (k == 2) = false by rw [beq_eq_false_iff_ne]; omega]) (Ev.step (fun m => ?_) hr)
      simp only [haulageref11_R_Value.j0]
      rw [if_neg (by simp)]
    by_cases h34 : k = 3 ∨ k = 4
    · rw [if_pos h34]
      obtain ⟨p2, t1, t2⟩ := text_ev2 120 (by decide) (by decide) S p1 q1 k2
      have hts := text_size 120 (by decide) q1
      refine ⟨p2, Ev.bind k1 (hj0 _ (Ev.step (fun m => by simp only [haulageref11_R_Value.j1]; rw [if_pos (by omega)]) (Ev.bind t1 ?_))), t2.chk _⟩
      rw [chk_two]
      by_cases hk : k = 3
      · refine Ev.congr (fun m => by rw [if_pos hk]) (Ev.bind (rutf_ev (textP 120 q1).1 (by omega)) ?_)
        rw [decide_eq_false (show ¬ k = 4 by omega), Bool.false_or]
        cases hf : utfB (textP 120 q1).1
        · exact Ev.congr (f := fun _ => some (k, 0, (textP 120 q1).1, S, p2, if (textP 120 q1).2.2 = 0 then 5 else (textP 120 q1).2.2)) (fun m => by rw [if_neg (by simp), bad_eq, Option.bind_some]) (Ev.now _)
        · exact Ev.congr (f := fun _ => some (k, 0, (textP 120 q1).1, S, p2, (textP 120 q1).2.2)) (fun m => by rw [if_pos rfl]) (Ev.now _)
      · rw [decide_eq_true (show k = 4 by omega), Bool.true_or, if_pos rfl]
        exact Ev.congr (f := fun _ => some (k, 0, (textP 120 q1).1, S, p2, (textP 120 q1).2.2)) (fun m => by rw [if_neg hk]) (Ev.now _)
    · rw [if_neg h34]
      exact ⟨p1, Ev.bind k1 (hj0 _ (hless _ _ _ _ (by omega))), k2⟩
/- piece catw -/
theorem bytesOf_sb (n : Nat) : bytesOf (strOfNums (sb n)) = sb n := byt_str (sb_bytes n)
theorem text_w (acc : List Int) (s : ByteArray) (hs : s.size ≤ 1000000000) (ha : acc.length ≤ 100000000000) : Ev (fun k => catcode_text.f k acc s) (acc ++ textE s) := by
  have hl := sb_len10 (n := s.size) (by omega)
  unfold catcode_text.f
  rw [u64_id (s.size : Int) (by omega) (by omega)]
  have h1 := short1 (s.size : Int) (by omega) (by omega)
  rw [Int.toNat_natCast] at h1
  refine Ev.bind h1 (Ev.congr (f := fun _ => some (acc ++ textE s)) (fun k => ?_) (Ev.now _))
  rw [strOfNums_size, if_pos (by omega), bytesOf_sb, Option.bind_some, if_pos (by rw [List.length_append]; omega)]
  unfold textE
  rw [List.append_assoc]
  rfl
theorem text_len (s : ByteArray) (hs : s.size ≤ 1000000000) : (textE s).length ≤ s.size + 10 := by
  have hl := sb_len10 (n := s.size) (by omega)
  unfold textE
  rw [List.length_append, byt_len]
  omega
theorem put_w (acc : List Int) (v : S23) (hk : 0 ≤ v.f0 ∧ v.f0 ≤ 255) (hs : v.f2.size ≤ 1000000000) (hw : (Lit.int .i64 v.f1).wf = true) (ha : acc.length ≤ 10000000000) : Ev (fun k => catcode_put.f k acc v.f0 v.f1 v.f2) (acc ++ valE v) := by
  have hz := wf64 hw
  have hr := zigS_range v.f1 hz.1 hz.2
  have hm : v.f0 % 256 = v.f0 := by omega
  have hlen : (acc ++ [v.f0]).length ≤ 100000000000 := by rw [List.length_append]; simp; omega
  have he : acc ++ valE v = (acc ++ [v.f0]) ++ valT v.f0 v.f1 v.f2 := by unfold valE; rw [List.append_assoc]; rfl
  unfold catcode_put.f
  refine Ev.congr (fun k => by rw [if_pos (show acc.length < 140737488355328 by omega), hm, Option.bind_some]) ?_
  rw [he]
  generalize acc ++ [v.f0] = b at *
  clear he
  have hpre : ∀ c : Bool, c = decide (v.f0 = 1 ∨ v.f0 = 2) → Ev (fun k => catcode_put.j0 k b v.f0 c v.f0 v.f1 v.f2) (b ++ valT v.f0 v.f1 v.f2) := fun c hc => by
    unfold valT
    cases c
    · have hn : ¬ (v.f0 = 1 ∨ v.f0 = 2) := fun e => by rw [decide_eq_true e] at hc; cases hc
      rw [if_neg hn]
      have hj : ∀ c : Bool, c = decide (v.f0 = 3 ∨ v.f0 = 4) → Ev (fun k => catcode_put.j1 k b c v.f0 v.f1 v.f2) (b ++ (if v.f0 = 3 ∨ v.f0 = 4 then textE v.f2 else [])) := fun c hc => by
        cases c
        · have hn2 : ¬ (v.f0 = 3 ∨ v.f0 = 4) := fun e => by rw [decide_eq_true e] at hc; cases hc
          rw [if_neg hn2, List.append_nil]
          exact Ev.step (f := fun _ => some b) (fun k => by simp only [catcode_put.j1]; rw [if_neg (by simp)]) (Ev.now _)
        · rw [if_pos (of_decide_eq_true hc.symm)]
          exact Ev.step (fun k => by simp only [catcode_put.j1]; rw [if_pos (by trivial)]) (Ev.bind (text_w b v.f2 hs hlen) (Ev.now _))
      by_cases h3 : v.f0 = 3
      · refine Ev.step (fun k => ?_) (hj (v.f0 == 3) (by rw [beq_dec]; simp [h3]))
        simp only [catcode_put.j0]
        rw [if_neg (by simp), if_pos h3]
      · refine Ev.step (fun k => ?_) (hj (v.f0 == 4) (by rw [beq_dec]; simp [h3]))
        simp only [catcode_put.j0]
        rw [if_neg (by simp), if_neg h3]
    · rw [if_pos (of_decide_eq_true hc.symm)]
      have hl := sb_len10 (n := (zigS v.f1).toNat) (by omega)
      refine Ev.step (fun k => by simp only [catcode_put.j0]; rw [if_pos (by trivial), word_Zig_eq v.f1 hz.1 hz.2, Option.bind_some]) (Ev.bind (short1 (zigS v.f1) hr.1 hr.2) ?_)
      exact Ev.congr (f := fun _ => some (b ++ sb (zigS v.f1).toNat)) (fun k => by rw [strOfNums_size, if_pos (by omega), bytesOf_sb]) (Ev.now _)
  by_cases h1 : v.f0 = 1
  · exact Ev.congr (fun k => by rw [if_pos h1]) (hpre (v.f0 == 1) (by rw [beq_dec]; simp [h1]))
  · exact Ev.congr (fun k => by rw [if_neg h1]) (hpre (v.f0 == 2) (by rw [beq_dec]; simp [h1]))
theorem rone_w (n : Int) (h0 : 0 ≤ n) (h1 : n ≤ 255) : haulageref11_one.f n = some (strOfNums [n]) := by
  unfold haulageref11_one.f
  rw [show n % 256 = n by omega]
theorem rnumber_w (n : Int) (h0 : 0 ≤ n) (h1 : n ≤ 9223372036854775807) : Ev (fun k => haulageref11_number.f k n) (strOfNums (sb n.toNat)) := by
  unfold haulageref11_number.f
  rw [u64_id n h0 (by omega)]
  have := refOne_ev n.toNat (by omega)
  rw [Int.toNat_of_nonneg h0] at this
  exact Ev.bind this (Ev.now _)
theorem rtext_w (s : ByteArray) (hs : s.size ≤ 1000000000) : Ev (fun k => haulageref11_text.f k s) (strOfNums (textE s)) := by
  have hl := sb_len10 (n := s.size) (by omega)
  unfold haulageref11_text.f
  have h := rnumber_w (s.size : Int) (by omega) (by omega)
  rw [Int.toNat_natCast] at h
  refine Ev.bind h (Ev.congr (f := fun _ => some (strOfNums (textE s))) (fun k => ?_) (Ev.now _))
  rw [strOfNums_size, if_pos (by omega)]
  unfold textE
  rw [strOfNums_append, str_byt]
theorem rval_w (v : S23) (hk : 0 ≤ v.f0 ∧ v.f0 ≤ 4) (hs : v.f2.size ≤ 1000000000) (hw : (Lit.int .i64 v.f1).wf = true) : Ev (fun k => haulageref11_Value.f k v.f0 v.f1 v.f2) (strOfNums (valE v)) := by
  have hz := wf64 hw
  have hr := zigS_range v.f1 hz.1 hz.2
  have he : strOfNums (valE v) = strOfNums [v.f0] ++ strOfNums (valT v.f0 v.f1 v.f2) := by rw [← strOfNums_append]; rfl
  have h1s : (strOfNums [v.f0]).size = 1 := by rw [strOfNums_size]; rfl
  have hj : ∀ c : Bool, c = decide (v.f0 = 1 ∨ v.f0 = 2) → Ev (fun k => haulageref11_Value.j0 k c v.f0 v.f1 v.f2) (strOfNums (valE v)) := fun c hc => by
    cases c
    · have hn : ¬ (v.f0 = 1 ∨ v.f0 = 2) := fun e => by rw [decide_eq_true e] at hc; cases hc
      have hj1 : ∀ c : Bool, c = decide (v.f0 = 3 ∨ v.f0 = 4) → Ev (fun k => haulageref11_Value.j1 k c v.f0 v.f1 v.f2) (strOfNums (valE v)) := fun c hc => by
        cases c
        · have hn2 : ¬ (v.f0 = 3 ∨ v.f0 = 4) := fun e => by rw [decide_eq_true e] at hc; cases hc
          have h0 : v.f0 = 0 := by omega
          refine Ev.step (f := fun _ => some (strOfNums (valE v))) (fun k => ?_) (Ev.now _)
          simp only [haulageref11_Value.j1]
          rw [if_neg (by simp), rone_w 0 (by decide) (by decide), Option.bind_some]
          unfold valE valT
          rw [if_neg hn, if_neg hn2, h0]
        · have h34 := of_decide_eq_true hc.symm
          refine Ev.step (fun k => by simp only [haulageref11_Value.j1]; rw [if_pos (by trivial), rone_w v.f0 (by omega) (by omega), Option.bind_some]) (Ev.bind (rtext_w v.f2 hs) ?_)
          have hl := text_len v.f2 hs
          refine Ev.congr (f := fun _ => some (strOfNums (valE v))) (fun k => ?_) (Ev.now _)
          rw [he, strOfNums_size (textE v.f2), h1s, if_pos (by omega)]
          unfold valT
          rw [if_neg hn, if_pos h34]
      by_cases h3 : v.f0 = 3
      · refine Ev.step (fun k => ?_) (hj1 true (by simp [h3]))
        simp only [haulageref11_Value.j0]
        rw [if_neg (by simp), if_pos h3]
      · refine Ev.step (fun k => ?_) (hj1 (v.f0 == 4) (by rw [beq_dec]; simp [h3]))
        simp only [haulageref11_Value.j0]
        rw [if_neg (by simp), if_neg h3]
    · have h12 := of_decide_eq_true hc.symm
      have hl := sb_len10 (n := (zigS v.f1).toNat) (by omega)
      have h1 := refOne_ev (zigS v.f1).toNat (by omega)
      rw [Int.toNat_of_nonneg hr.1] at h1
      refine Ev.step (fun k => by simp only [haulageref11_Value.j0]; rw [if_pos (by trivial), rone_w v.f0 (by omega) (by omega), Option.bind_some, refZig_eq v.f1 hz.1 hz.2, Option.bind_some]) (Ev.bind h1 ?_)
      refine Ev.congr (f := fun _ => some (strOfNums (valE v))) (fun k => ?_) (Ev.now _)
      rw [he, h1s, strOfNums_size (sb (zigS v.f1).toNat), if_pos (by omega)]
      unfold valT
      rw [if_pos h12]
  unfold haulageref11_Value.f
  by_cases h1 : v.f0 = 1
  · exact Ev.congr (fun k => by rw [if_pos h1]) (hj true (by simp [h1]))
  · exact Ev.congr (fun k => by rw [if_neg h1]) (hj (v.f0 == 2) (by rw [beq_dec]; simp [h1]))
/- piece catval -/
def zeroVal : S23 := ⟨0, 0, nilB⟩
def readvS (s : ByteArray) : S23 × Int × Int := if (valP (s, 0)).2.2 = 0 then ((valP (s, 0)).1, (s.size : Int) - ((valP (s, 0)).2.1.size : Int), 0) else (zeroVal, 0, (valP (s, 0)).2.2)
theorem readval_ev1 (s : ByteArray) (hs : s.size ≤ 1000000000) : Ev (fun k => catcode_ReadValue.f k s) ((readvS s).1.f0, (readvS s).1.f1, (readvS s).1.f2, (readvS s).2.1, (readvS s).2.2) := by
  obtain ⟨s', k1, k2⟩ := value_ev1 s (s, 0) ⟨hs, fun _ => rfl⟩
  unfold catcode_ReadValue.f readvS
  by_cases h : (valP (s, 0)).2.2 = 0
  · have e := k2.2 h
    have hz := k2.1
    rw [if_pos h]
    exact Ev.bind k1 (Ev.congr (f := fun _ => some _) (fun k => by rw [if_pos h]; simp only; rw [e, wrap_id _ (by rw [← e]; omega) (by rw [← e]; omega)]) (Ev.now _))
  · rw [if_neg h]
    exact Ev.bind k1 (Ev.congr (f := fun _ => some _) (fun k => by rw [if_neg h]; rfl) (Ev.now _))
theorem readval_ev2 (s : ByteArray) (hs : s.size ≤ 1000000000) : Ev (fun k => haulageref11_ReadValue.f k s) ((readvS s).1.f0, (readvS s).1.f1, (readvS s).1.f2, (readvS s).2.1, (readvS s).2.2) := by
  obtain ⟨p', k1, k2⟩ := value_ev2 s 0 (s, 0) ⟨hs, fun _ => ⟨0, rfl, by omega, (rest0 s).symm⟩⟩
  unfold haulageref11_ReadValue.f readvS
  by_cases h : (valP (s, 0)).2.2 = 0
  · obtain ⟨n, e1, e2, e3⟩ := k2.2 h
    rw [if_pos h]
    refine Ev.bind k1 (Ev.congr (f := fun _ => some _) (fun k => by rw [if_pos h]) (Ev.eq (Ev.now _) ?_))
    simp only [e3, rest_size, e1, Prod.mk.injEq, true_and, and_true]
    omega
  · rw [if_neg h]
    exact Ev.bind k1 (Ev.congr (f := fun _ => some _) (fun k => by rw [if_neg h]; rfl) (Ev.now _))
theorem valB04 {k n : Int} {s : ByteArray} (h : valB k n s = true) : 0 ≤ k ∧ k ≤ 4 := by
  unfold valB at h
  by_cases e0 : k = 0
  · omega
  · rw [if_neg e0] at h
    by_cases e1 : k = 1
    · omega
    · rw [if_neg e1] at h
      by_cases e2 : k = 2
      · omega
      · rw [if_neg e2] at h
        by_cases e3 : k = 3
        · omega
        · rw [if_neg e3] at h
          by_cases e4 : k = 4
          · omega
          · rw [if_neg e4] at h
            cases h
theorem catvalue_ev (v : S23) (hs : v.f2.size ≤ 1000000000) (hw : (Lit.int .i64 v.f1).wf = true) : Ev (fun k => catcode_Value.f k v.f0 v.f1 v.f2) (if valB v.f0 v.f1 v.f2 = true then (strOfNums (valE v), 0) else (nilB, 2)) := by
  unfold catcode_Value.f
  refine Ev.bind (val_ev v.f0 v.f1 v.f2 hs) ?_
  by_cases h : valB v.f0 v.f1 v.f2 = true
  · have hk := valB04 h
    rw [if_pos h]
    exact Ev.congr (fun k => by rw [if_pos h]) (Ev.bind (put_w [] v (by omega) hs hw (by simp)) (Ev.now _))
  · rw [if_neg h]
    exact Ev.congr (f := fun _ => some (nilB, 2)) (fun k => by rw [if_neg h]; rfl) (Ev.now _)
theorem valE_len (v : S23) (hs : v.f2.size ≤ 1000000) (hw : (Lit.int .i64 v.f1).wf = true) : (valE v).length ≤ 1000100 := by
  have hz := wf64 hw
  have hr := zigS_range v.f1 hz.1 hz.2
  have h1 := sb_len10 (n := (zigS v.f1).toNat) (by omega)
  have h2 := text_len v.f2 (by omega)
  unfold valE valT
  rw [List.length_cons]
  split
  · omega
  · split
    · omega
    · simp
theorem valE_bytes (v : S23) (h : 0 ≤ v.f0 ∧ v.f0 ≤ 255) : Bytes (valE v) := by
  intro x hx
  unfold valE at hx
  rcases List.mem_cons.1 hx with e | e
  · omega
  · unfold valT at e
    split at e
    · exact sb_bytes _ x e
    · split at e
      · exact textE_bytes _ x e
      · simp at e
theorem lives_ev : Ev (fun k => haulagelaw11_lives.f k) true := Ev.of haulagelaw11_lives.mono (k := 60) (by decide +kernel)
theorem haulagelaw11_CatcodeValues : ∀ (x0 : S23) (a1 : ByteArray), Ok23 x0 → a1.size ≤ 140737488351232 → ∃ k, haulagelaw11_CatcodeValues.f k x0.f0 x0.f1 x0.f2 a1 = some true := by
  intro v s h0 h1
  unfold Ok23 at h0
  refine Ev.rounds (r := true) ?_
  unfold haulagelaw11_CatcodeValues.f
  refine Ev.bind lives_ev ?_
  refine Ev.congr (fun k => by rw [if_pos rfl]) ?_
  have hjt : Ev (fun k => haulagelaw11_CatcodeValues.j0 k s true v.f0 v.f1 v.f2) true := Ev.step (f := fun _ => some true) (fun k => by simp only [haulagelaw11_CatcodeValues.j0]; rw [if_pos (by trivial)]) (Ev.now _)
  by_cases e1 : v.f2.size > 300
  · exact Ev.congr (fun k => by rw [if_pos (show (v.f2.size : Int) > 300 by omega)]) hjt
  refine Ev.congr (fun k => by rw [if_neg (show ¬ (v.f2.size : Int) > 300 by omega)]) ?_
  by_cases e2 : s.size > 400
  · rw [decide_eq_true (show (s.size : Int) > 400 by omega)]
    exact hjt
  rw [decide_eq_false (show ¬ (s.size : Int) > 400 by omega)]
  refine Ev.step (fun k => by simp only [haulagelaw11_CatcodeValues.j0]; rw [if_neg (by simp)]) (Ev.bind (catvalue_ev v (by omega) h0.2.1) (Ev.bind (readval_ev1 s (by omega)) (Ev.bind (readval_ev2 s (by omega)) ?_)))
  refine Ev.congr (fun k => by rw [if_neg (by simp), if_pos rfl]) ?_
  refine Ev.step (fun k => by simp only [haulagelaw11_CatcodeValues.j1]; rw [if_neg (by simp)]) (Ev.bind (rval_ev v.f0 v.f1 v.f2 (by omega) h0.2.1) ?_)
  by_cases hv : valB v.f0 v.f1 v.f2 = true
  · have hk := valB04 hv
    have hlen := valE_len v (by omega) h0.2.1
    have hsz : (strOfNums (valE v)).size = (valE v).length := strOfNums_size _
    have hfit : (strOfNums (valE v) ++ s).size ≤ 1000000000 := by rw [ByteArray.size_append, hsz]; omega
    have hread : readvS (strOfNums (valE v) ++ s) = (v, ((valE v).length : Int), 0) := by
      have h := valP_fwd (v := v) (q := (strOfNums (valE v) ++ s, 0)) (r := (s, 0)) ⟨rfl, rfl, valE_bytes v (by omega), rfl⟩ hv h0.2.1
      unfold readvS
      rw [h, if_pos rfl]
      simp only [ByteArray.size_append, hsz, Prod.mk.injEq, true_and, and_true]
      omega
    have h1 := readval_ev1 _ hfit
    rw [hread] at h1
    rw [if_pos hv]
    refine Ev.congr (fun k => by rw [if_pos hv, if_pos (by simp only [hsz]; omega)]) (Ev.bind h1 (Ev.bind (rval_w v hk (by omega) h0.2.1) ?_))
    exact Ev.congr (f := fun _ => some true) (fun k => by rw [if_pos rfl, if_pos rfl, if_pos (by simp), if_pos (by simp only [hsz])]; rfl) (Ev.now _)
  · rw [if_neg hv]
    exact Ev.congr (f := fun _ => some true) (fun k => by rw [if_neg hv]; decide +kernel) (Ev.now _)
end Go.Proofs.YtgefikclhfjcgaaDoor.Pure

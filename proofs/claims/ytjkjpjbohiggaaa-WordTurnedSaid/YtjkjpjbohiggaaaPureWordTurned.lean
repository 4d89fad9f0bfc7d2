/- For every number of 64 bits and every turned one: the program's turned number and its way back are the reference's, and they lead back; no condition. -/
import Derived.Test.YtjkjpjbohiggaaaHWordTurnedx1
set_option linter.unusedVariables false
set_option linter.unusedSimpArgs false
namespace Go.Proofs.Ytjkjpjbohiggaaa.Pure
open Go.RowKit Go.Proofs.Ytjkjpjbohiggaaa.HWordTurned Go.Proofs.YtjkjpjbohiggaaaW.PrintWords Go.Proofs.YtjkjpjbohiggaaaW.PrintLast Go.Proofs.YtjkjpjbohiggaaaW.PrintMore
/- piece base -/
theorem tmod_nonneg_eq (a b : Int) (ha : 0 ≤ a) : Int.tmod a b = a % b := Int.tmod_eq_emod_of_nonneg ha
theorem tdiv_nonneg_eq (a b : Int) (ha : 0 ≤ a) : Int.tdiv a b = a / b := Int.tdiv_eq_ediv_of_nonneg ha
theorem u64_id (n : Int) (h0 : 0 ≤ n) (h1 : n < 18446744073709551616) : IntKind.u64.wrap n = n := by
  simp only [IntKind.wrap, IntKind.bits, IntKind.signed]
  simp
  omega

theorem i64_eq (n : Int) : IntKind.i64.wrap n = wrap64 n := by unfold wrap64; exact Go.IntKind.wrap_i64 n
theorem u64_eq (n : Int) : IntKind.u64.wrap n = n % 18446744073709551616 := by simp [IntKind.wrap, IntKind.bits, IntKind.signed]

/- piece word -/
/-! ### short bytes -/
/-- The short bytes of a number. -/
def sb (n : Nat) : List Int := if n < 128 then [(n : Int)] else (((n % 128 + 128 : Nat) : Int)) :: sb (n / 128)
termination_by n
decreasing_by omega

theorem sb_small {n : Nat} (h : n < 128) : sb n = [(n : Int)] := by rw [sb, if_pos h]
theorem sb_big {n : Nat} (h : ¬ n < 128) : sb n = (((n % 128 + 128 : Nat) : Int)) :: sb (n / 128) := by rw [sb, if_neg h]

theorem sb_len (m : Nat) : ∀ n, n < 128 ^ (m + 1) → (sb n).length ≤ m + 1 := by
  induction m with
  | zero => intro n h; rw [sb_small (by simpa using h)]; simp
  | succ m ih =>
    intro n h
    by_cases h1 : n < 128
    · rw [sb_small h1]; simp
    · rw [sb_big h1]
      have : n / 128 < 128 ^ (m + 1) := by
        rw [Nat.div_lt_iff_lt_mul (by decide)]
        rw [Nat.pow_succ] at h
        exact h
      have := ih _ this
      simp only [List.length_cons]
      omega

theorem sb_len10 {n : Nat} (h : n < 18446744073709551616) : (sb n).length ≤ 10 := sb_len 9 n (Nat.lt_of_lt_of_le h (by decide))
theorem sb_pos (n : Nat) : 0 < (sb n).length := by
  by_cases h : n < 128
  · rw [sb_small h]; simp
  · rw [sb_big h]; simp

theorem or128_fin : ∀ a : Fin 256, (a.val ||| 128) = a.val % 128 + 128 := by decide +kernel

theorem or128 (x : Int) (h : 0 ≤ x) : Go.bits .or .u8 (x % 256) 128 = x % 128 + 128 := by
  obtain ⟨n, rfl⟩ := Int.eq_ofNat_of_zero_le h
  have e : ((n : Int) % 256) = ((n % 256 : Nat) : Int) := by omega
  have := (Go.bits_nat .u8 8 (by decide) Go.wraps_u8 (n % 256) 128 (by omega) (by decide)).2
  rw [e]
  refine this.trans ?_
  have h2 := or128_fin ⟨n % 256, by omega⟩
  simp only at h2
  rw [h2]
  omega

theorem short_l1 (l : List Int) (len i : Int) (r : ByteArray) (n : Nat) : ∀ acc : List Int, acc.length + (sb n).length ≤ 140737488355328 →
    Ev (fun k => word_Short.l0 k (acc ++ sb n) l len (wrap64 (i + 1))) r → Ev (fun k => word_Short.l1 k acc (n : Int) l len i) r := by
  induction n using Nat.strongRecOn with
  | _ n ih =>
    intro acc hb hk
    by_cases h : n < 128
    · rw [sb_small h] at hb hk
      simp only [List.length_cons, List.length_nil] at hb
      refine Ev.step (f := fun k => word_Short.l0 k (acc ++ [(n : Int)]) l len (wrap64 (i + 1))) (fun k => ?_) hk
      simp only [word_Short.l1]
      rw [if_neg (by omega), if_pos (by omega), show ((n : Int) % 256) = n by omega]
    · rw [sb_big h] at hb hk
      simp only [List.length_cons] at hb
      refine Ev.step (f := fun k => word_Short.l1 k (acc ++ [((n % 128 + 128 : Nat) : Int)]) ((n / 128 : Nat) : Int) l len i) (fun k => ?_) (ih (n / 128) (by omega) _ (by simp only [List.length_append, List.length_cons, List.length_nil]; omega) ?_)
      · simp only [word_Short.l1]
        rw [if_pos (by omega), if_pos (by omega), or128 _ (by omega), show ((n : Int) % 128 + 128) = ((n % 128 + 128 : Nat) : Int) by omega, show ((n : Int) / 128) = ((n / 128 : Nat) : Int) by omega]
      · rw [List.append_assoc]; exact hk

/-- The short bytes of several. -/
def sbs (l : List Int) : List Int := l.flatMap fun x => sb x.toNat

theorem sbs_cons (x : Int) (l : List Int) : sbs (x :: l) = sb x.toNat ++ sbs l := by simp [sbs]
theorem sbs_len (l : List Int) (h : ∀ x ∈ l, 0 ≤ x ∧ x < 18446744073709551616) : (sbs l).length ≤ 10 * l.length := by
  induction l with
  | nil => simp [sbs]
  | cons x l ih =>
    have := ih (fun y hy => h y (by simp [hy]))
    have h1 := h x (by simp)
    have := sb_len10 (n := x.toNat) (by omega)
    rw [sbs_cons]
    simp only [List.length_append, List.length_cons]
    omega

theorem rd_at (l : List Int) (i : Nat) (h : i < l.length) : rd l (i : Int) = l[i] := by
  simp [rd, h]

theorem short_l0 (l : List Int) (hl : l.length ≤ 1000000000000) (hr : ∀ x ∈ l, 0 ≤ x ∧ x < 18446744073709551616) (d : Nat) : ∀ (i : Nat) (acc : List Int), l.length = i + d → acc.length ≤ 10 * i →
    Ev (fun k => word_Short.l0 k acc l (l.length : Int) (i : Int)) (strOfNums (acc ++ sbs (l.drop i))) := by
  induction d with
  | zero =>
    intro i acc hi ha
    refine Ev.step (f := fun _ => some (strOfNums acc)) (fun k => ?_) ?_
    · simp only [word_Short.l0]
      rw [if_neg (by omega)]
    · rw [show l.drop i = [] from List.drop_eq_nil_of_le (by omega)]
      simpa [sbs] using Ev.now (strOfNums acc)
  | succ d ih =>
    intro i acc hi ha
    have hlt : i < l.length := by omega
    have hx := hr l[i] (List.getElem_mem hlt)
    have h10 := sb_len10 (n := l[i].toNat) (by omega)
    refine Ev.step (f := fun k => word_Short.l1 k acc ((l[i].toNat : Nat) : Int) l (l.length : Int) (i : Int)) (fun k => ?_) ?_
    · simp only [word_Short.l0]
      rw [if_pos (by omega), if_pos (by omega), if_pos (by omega), rd_at l i hlt, show ((l[i].toNat : Nat) : Int) = l[i] by omega]
    · refine short_l1 l _ _ _ _ _ (by omega) ?_
      have := ih (i + 1) (acc ++ sb l[i].toNat) (by omega) (by simp only [List.length_append]; omega)
      rw [show l.drop i = l[i] :: l.drop (i + 1) from List.drop_eq_getElem_cons hlt, sbs_cons, ← List.append_assoc]
      rw [show wrap64 ((i : Int) + 1) = ((i + 1 : Nat) : Int) by unfold wrap64; omega]
      exact this

theorem word_Short_ev (l : List Int) (hl : l.length ≤ 1000000000000) (hr : ∀ x ∈ l, 0 ≤ x ∧ x < 18446744073709551616) :
    Ev (fun k => word_Short.f k l) (strOfNums (sbs l)) := by
  have := short_l0 l hl hr l.length 0 [] (by omega) (by simp)
  simpa [word_Short.f] using this

theorem strOfNums_append (a b : List Int) : strOfNums (a ++ b) = strOfNums a ++ strOfNums b := by
  apply ByteArray.ext
  simp [strOfNums]
theorem strOfNums_size (a : List Int) : (strOfNums a).size = a.length := by simp [strOfNums, ByteArray.size]

theorem lives_Short : Ev (fun k => word_Short.f k ([300] : List Int)) (strOfNums [172, 2]) := by
  have := word_Short_ev [300] (by simp) (by simp)
  rw [show sbs [300] = [172, 2] by simp [sbs, sb_big, sb_small]] at this
  exact this

theorem lives_ev : Ev (fun k => haulagelaw01_lives.f k) true := by
  unfold haulagelaw01_lives.f
  refine Ev.bind (f := fun _ t => _) lives_Short ?_
  rw [if_pos (by decide +kernel)]
  rw [show word_Zig.f (-2) = some 3 by decide +kernel, Option.bind_some, if_pos rfl, show word_Low.f 200 8 = some (-56) by decide +kernel, Option.bind_some]
  exact Ev.now _

/- piece zig -/
/-! ### turned numbers -/
/-- A number's turned one. -/
def zigS (n : Int) : Int := if 0 ≤ n then 2 * n else -2 * n - 1
/-- The number of a turned one. -/
def zagS (u : Int) : Int := if u % 2 = 0 then u / 2 else -1 - u / 2

theorem xor_u64 (x y : Int) : Go.bits .xor .u64 x y = ((BitVec.ofInt 64 x ^^^ BitVec.ofInt 64 y).toNat : Int) % 18446744073709551616 := u64_eq _
theorem xor_i64 (x y : Int) : Go.bits .xor .i64 x y = wrap64 ((BitVec.ofInt 64 x ^^^ BitVec.ofInt 64 y).toNat : Int) := i64_eq _

theorem xor_u64_zero (x : Int) (h0 : 0 ≤ x) (h1 : x < 18446744073709551616) : Go.bits .xor .u64 x 0 = x := by
  rw [xor_u64, show (BitVec.ofInt 64 0) = 0#64 by rfl, BitVec.xor_zero, BitVec.toNat_ofInt]
  omega

theorem xor_u64_ones (x : Int) (h0 : 0 ≤ x) (h1 : x < 18446744073709551616) : Go.bits .xor .u64 x 18446744073709551615 = 18446744073709551615 - x := by
  rw [xor_u64, show (BitVec.ofInt 64 18446744073709551615) = BitVec.allOnes 64 by decide, BitVec.xor_allOnes, BitVec.toNat_not, BitVec.toNat_ofInt]
  omega

theorem xor_i64_zero (x : Int) (h0 : 0 ≤ x) (h1 : x < 9223372036854775808) : Go.bits .xor .i64 x 0 = x := by
  rw [xor_i64, show (BitVec.ofInt 64 0) = 0#64 by rfl, BitVec.xor_zero, BitVec.toNat_ofInt]
  unfold wrap64
  omega

theorem xor_i64_ones (x : Int) (h0 : 0 ≤ x) (h1 : x < 9223372036854775808) : Go.bits .xor .i64 x (-1) = -1 - x := by
  rw [xor_i64, show (BitVec.ofInt 64 (-1)) = BitVec.allOnes 64 by decide, BitVec.xor_allOnes, BitVec.toNat_not, BitVec.toNat_ofInt]
  unfold wrap64
  omega

theorem and_u64_one (x : Int) (h0 : 0 ≤ x) (h1 : x < 18446744073709551616) : Go.bits .and .u64 x 1 = x % 2 := by
  have := Go.bits_mask .u64 64 (by decide) (fun n h0 h1 => by rw [u64_eq]; omega) 1 (by decide) x h0 (by omega)
  simpa using this

theorem word_Zig_eq (n : Int) (h0 : -9223372036854775808 ≤ n) (h1 : n ≤ 9223372036854775807) : word_Zig.f n = some (zigS n) := by
  unfold word_Zig.f zigS
  simp only [u64_eq]
  by_cases h : 0 ≤ n
  · rw [if_pos h, show n / 9223372036854775808 % 18446744073709551616 = 0 by omega, xor_u64_zero _ (by omega) (by omega)]
    congr 1
    omega
  · rw [if_neg h, show n / 9223372036854775808 % 18446744073709551616 = 18446744073709551615 by omega, xor_u64_ones _ (by omega) (by omega)]
    congr 1
    omega

theorem word_Zag_eq (u : Int) (h0 : 0 ≤ u) (h1 : u ≤ 18446744073709551615) : word_Zag.f u = some (zagS u) := by
  unfold word_Zag.f zagS
  rw [and_u64_one u h0 (by omega), show wrap64 (u / 2) = u / 2 by unfold wrap64; omega]
  by_cases h : u % 2 = 0
  · rw [if_pos h, h, show wrap64 (-(wrap64 0)) = 0 by decide +kernel, xor_i64_zero _ (by omega) (by omega)]
  · rw [if_neg h, show u % 2 = 1 by omega, show wrap64 (-(wrap64 1)) = -1 by decide +kernel, xor_i64_ones _ (by omega) (by omega)]

theorem zigS_range (n : Int) (h0 : -9223372036854775808 ≤ n) (h1 : n ≤ 9223372036854775807) : 0 ≤ zigS n ∧ zigS n ≤ 18446744073709551615 := by unfold zigS; split <;> omega
theorem zagS_range (u : Int) (h0 : 0 ≤ u) (h1 : u ≤ 18446744073709551615) : -9223372036854775808 ≤ zagS u ∧ zagS u ≤ 9223372036854775807 := by unfold zagS; split <;> omega
theorem zag_zig (n : Int) : zagS (zigS n) = n := by unfold zagS zigS; split <;> split <;> omega
theorem zig_zag (u : Int) (h0 : 0 ≤ u) : zigS (zagS u) = u := by unfold zagS zigS; split <;> split <;> omega

/- piece refzig -/
theorem refZig_eq (n : Int) (h0 : -9223372036854775808 ≤ n) (h1 : n ≤ 9223372036854775807) : haulageref01_Zig.f n = some (zigS n) := by
  unfold haulageref01_Zig.f zigS
  simp only [u64_eq]
  by_cases h : 0 ≤ n
  · rw [if_pos (show n ≥ 0 from h), if_pos h]
    congr 1
    omega
  · rw [if_neg (show ¬ n ≥ 0 from h), if_neg h, show wrap64 ((-1) - n) = -1 - n by unfold wrap64; omega]
    congr 1
    omega

theorem refZag_eq (u : Int) (h0 : 0 ≤ u) (h1 : u ≤ 18446744073709551615) : haulageref01_Zag.f u = some (zagS u) := by
  unfold haulageref01_Zag.f zagS
  simp only [u64_eq, tmod_nonneg_eq _ _ h0, tdiv_nonneg_eq _ _ h0]
  rw [show u / 2 % 18446744073709551616 = u / 2 by omega, show wrap64 (u / 2) = u / 2 by unfold wrap64; omega]
  by_cases h : u % 2 = 0
  · rw [if_pos h, if_pos h]
  · rw [if_neg h, if_neg h, show wrap64 ((-1) - u / 2) = -1 - u / 2 by unfold wrap64; omega]

theorem WordTurned : haulagelaw01_WordTurned.Pure := by
  intro n u hn hu
  simp [Lit.wf, IntKind.min, IntKind.max, IntKind.bits, IntKind.signed] at hn hu
  refine Ev.rounds (r := true) ?_
  unfold haulagelaw01_WordTurned.f
  refine Ev.bind (f := fun k t => _) lives_ev ?_
  have a := zigS_range n hn.1 hn.2
  have b := zagS_range u hu.1 hu.2
  rw [if_pos rfl, word_Zig_eq n hn.1 hn.2, refZig_eq n hn.1 hn.2, word_Zag_eq u hu.1 hu.2, refZag_eq u hu.1 hu.2]
  simp only [Option.bind_some, if_true]
  rw [word_Zag_eq _ a.1 a.2, zag_zig]
  simp only [Option.bind_some, if_true]
  rw [word_Zig_eq _ b.1 b.2, zig_zag u hu.1]
  simp only [Option.bind_some]
  simpa using Ev.now true

end Go.Proofs.Ytjkjpjbohiggaaa.Pure

/- For every number of 64 bits and every count of bits: whether the number fits, and the one that is cut of it, are the reference's, and what is cut fits; no condition. -/
import Derived.Test.YtjkjpjbohiggaaaHWordFitsx2
set_option linter.unusedVariables false
set_option linter.unusedSimpArgs false
namespace Go.Proofs.Ytjkjpjbohiggaaa.Pure
open Go.RowKit Go.Proofs.Ytjkjpjbohiggaaa.HWordFits Go.Proofs.YtjkjpjbohiggaaaW.PrintWords Go.Proofs.YtjkjpjbohiggaaaW.PrintLast Go.Proofs.YtjkjpjbohiggaaaW.PrintMore
/- piece base -/
theorem tmod_nonneg_eq (a b : Int) (ha : 0 ≤ a) : Int.tmod a b = a % b := Int.tmod_eq_emod_of_nonneg ha
theorem tdiv_nonneg_eq (a b : Int) (ha : 0 ≤ a) : Int.tdiv a b = a / b := Int.tdiv_eq_ediv_of_nonneg ha
theorem u64_id (n : Int) (h0 : 0 ≤ n) (h1 : n < 18446744073709551616) : IntKind.u64.wrap n = n := by
  simp only [IntKind.wrap, IntKind.bits, IntKind.signed]
  simp
  omega

theorem i64_eq (n : Int) : IntKind.i64.wrap n = wrap64 n := by unfold wrap64; exact Go.IntKind.wrap_i64 n
theorem u64_eq (n : Int) : IntKind.u64.wrap n = n % 18446744073709551616 := by simp [IntKind.wrap, IntKind.bits, IntKind.signed]

/- piece word -/
/-! ### short bytes -/
/-- The short bytes of a number. -/
def sb (n : Nat) : List Int := if n < 128 then [(n : Int)] else (((n % 128 + 128 : Nat) : Int)) :: sb (n / 128)
termination_by n
decreasing_by omega

theorem sb_small {n : Nat} (h : n < 128) : sb n = [(n : Int)] := by rw [sb, if_pos h]
theorem sb_big {n : Nat} (h : ¬ n < 128) : sb n = (((n % 128 + 128 : Nat) : Int)) :: sb (n / 128) := by rw [sb, if_neg h]

theorem sb_len (m : Nat) : ∀ n, n < 128 ^ (m + 1) → (sb n).length ≤ m + 1 := by
  induction m with
  | zero => intro n h; rw [sb_small (by simpa using h)]; simp
  | succ m ih =>
    intro n h
    by_cases h1 : n < 128
    · rw [sb_small h1]; simp
    · rw [sb_big h1]
      have : n / 128 < 128 ^ (m + 1) := by
        rw [Nat.div_lt_iff_lt_mul (by decide)]
        rw [Nat.pow_succ] at h
        exact h
      have := ih _ this
      simp only [List.length_cons]
      omega

theorem sb_len10 {n : Nat} (h : n < 18446744073709551616) : (sb n).length ≤ 10 := sb_len 9 n (Nat.lt_of_lt_of_le h (by decide))
theorem sb_pos (n : Nat) : 0 < (sb n).length := by
  by_cases h : n < 128
  · rw [sb_small h]; simp
  · rw [sb_big h]; simp

theorem or128_fin : ∀ a : Fin 256, (a.val ||| 128) = a.val % 128 + 128 := by decide +kernel

theorem or128 (x : Int) (h : 0 ≤ x) : Go.bits .or .u8 (x % 256) 128 = x % 128 + 128 := by
  obtain ⟨n, rfl⟩ := Int.eq_ofNat_of_zero_le h
  have e : ((n : Int) % 256) = ((n % 256 : Nat) : Int) := by omega
  have := (Go.bits_nat .u8 8 (by decide) Go.wraps_u8 (n % 256) 128 (by omega) (by decide)).2
  rw [e]
  refine this.trans ?_
  have h2 := or128_fin ⟨n % 256, by omega⟩
  simp only at h2
  rw [h2]
  omega

theorem short_l1 (l : List Int) (len i : Int) (r : ByteArray) (n : Nat) : ∀ acc : List Int, acc.length + (sb n).length ≤ 140737488355328 →
    Ev (fun k => word_Short.l0 k (acc ++ sb n) l len (wrap64 (i + 1))) r → Ev (fun k => word_Short.l1 k acc (n : Int) l len i) r := by
  induction n using Nat.strongRecOn with
  | _ n ih =>
    intro acc hb hk
    by_cases h : n < 128
    · rw [sb_small h] at hb hk
      simp only [List.length_cons, List.length_nil] at hb
      refine Ev.step (f := fun k => word_Short.l0 k (acc ++ [(n : Int)]) l len (wrap64 (i + 1))) (fun k => ?_) hk
      simp only [word_Short.l1]
      rw [if_neg (by omega), if_pos (by omega), show ((n : Int) % 256) = n by omega]
    · rw [sb_big h] at hb hk
      simp only [List.length_cons] at hb
      refine Ev.step (f := fun k => word_Short.l1 k (acc ++ [((n % 128 + 128 : Nat) : Int)]) ((n / 128 : Nat) : Int) l len i) (fun k => ?_) (ih (n / 128) (by omega) _ (by simp only [List.length_append, List.length_cons, List.length_nil]; omega) ?_)
      · simp only [word_Short.l1]
        rw [if_pos (by omega), if_pos (by omega), or128 _ (by omega), show ((n : Int) % 128 + 128) = ((n % 128 + 128 : Nat) : Int) by omega, show ((n : Int) / 128) = ((n / 128 : Nat) : Int) by omega]
      · rw [List.append_assoc]; exact hk

/-- The short bytes of several. -/
def sbs (l : List Int) : List Int := l.flatMap fun x => sb x.toNat

theorem sbs_cons (x : Int) (l : List Int) : sbs (x :: l) = sb x.toNat ++ sbs l := by simp [sbs]
theorem sbs_len (l : List Int) (h : ∀ x ∈ l, 0 ≤ x ∧ x < 18446744073709551616) : (sbs l).length ≤ 10 * l.length := by
  induction l with
  | nil => simp [sbs]
  | cons x l ih =>
    have := ih (fun y hy => h y (by simp [hy]))
    have h1 := h x (by simp)
    have := sb_len10 (n := x.toNat) (by omega)
    rw [sbs_cons]
    simp only [List.length_append, List.length_cons]
    omega

theorem rd_at (l : List Int) (i : Nat) (h : i < l.length) : rd l (i : Int) = l[i] := by
  simp [rd, h]

theorem short_l0 (l : List Int) (hl : l.length ≤ 1000000000000) (hr : ∀ x ∈ l, 0 ≤ x ∧ x < 18446744073709551616) (d : Nat) : ∀ (i : Nat) (acc : List Int), l.length = i + d → acc.length ≤ 10 * i →
    Ev (fun k => word_Short.l0 k acc l (l.length : Int) (i : Int)) (strOfNums (acc ++ sbs (l.drop i))) := by
  induction d with
  | zero =>
    intro i acc hi ha
    refine Ev.step (f := fun _ => some (strOfNums acc)) (fun k => ?_) ?_
    · simp only [word_Short.l0]
      rw [if_neg (by omega)]
    · rw [show l.drop i = [] from List.drop_eq_nil_of_le (by omega)]
      simpa [sbs] using Ev.now (strOfNums acc)
  | succ d ih =>
    intro i acc hi ha
    have hlt : i < l.length := by omega
    have hx := hr l[i] (List.getElem_mem hlt)
    have h10 := sb_len10 (n := l[i].toNat) (by omega)
    refine Ev.step (f := fun k => word_Short.l1 k acc ((l[i].toNat : Nat) : Int) l (l.length : Int) (i : Int)) (fun k => ?_) ?_
    · simp only [word_Short.l0]
      rw [if_pos (by omega), if_pos (by omega), if_pos (by omega), rd_at l i hlt, show ((l[i].toNat : Nat) : Int) = l[i] by omega]
    · refine short_l1 l _ _ _ _ _ (by omega) ?_
      have := ih (i + 1) (acc ++ sb l[i].toNat) (by omega) (by simp only [List.length_append]; omega)
      rw [show l.drop i = l[i] :: l.drop (i + 1) from List.drop_eq_getElem_cons hlt, sbs_cons, ← List.append_assoc]
      rw [show wrap64 ((i : Int) + 1) = ((i + 1 : Nat) : Int) by unfold wrap64; omega]
      exact this

theorem word_Short_ev (l : List Int) (hl : l.length ≤ 1000000000000) (hr : ∀ x ∈ l, 0 ≤ x ∧ x < 18446744073709551616) :
    Ev (fun k => word_Short.f k l) (strOfNums (sbs l)) := by
  have := short_l0 l hl hr l.length 0 [] (by omega) (by simp)
  simpa [word_Short.f] using this

theorem strOfNums_append (a b : List Int) : strOfNums (a ++ b) = strOfNums a ++ strOfNums b := by
  apply ByteArray.ext
  simp [strOfNums]
theorem strOfNums_size (a : List Int) : (strOfNums a).size = a.length := by simp [strOfNums, ByteArray.size]

theorem lives_Short : Ev (fun k => word_Short.f k ([300] : List Int)) (strOfNums [172, 2]) := by
  have := word_Short_ev [300] (by simp) (by simp)
  rw [show sbs [300] = [172, 2] by simp [sbs, sb_big, sb_small]] at this
  exact this

theorem lives_ev : Ev (fun k => haulagelaw01_lives.f k) true := by
  unfold haulagelaw01_lives.f
  refine Ev.bind (f := fun _ t => _) lives_Short ?_
  rw [if_pos (by decide +kernel)]
  rw [show word_Zig.f (-2) = some 3 by decide +kernel, Option.bind_some, if_pos rfl, show word_Low.f 200 8 = some (-56) by decide +kernel, Option.bind_some]
  exact Ev.now _

/- piece low -/
/-! ### numbers of so many bits -/
/-- A number's lowest bits, signed. -/
def lowS (n : Int) (b : Nat) : Int := (n + 2 ^ (b - 1)) % 2 ^ b - 2 ^ (b - 1)

theorem p2_pos (b : Nat) : (0 : Int) < 2 ^ b := Int.pow_pos (by decide)
theorem p2_half (b : Nat) (h : 1 ≤ b) : (2 : Int) ^ b = 2 * 2 ^ (b - 1) := by
  obtain ⟨m, rfl⟩ : ∃ m, b = m + 1 := ⟨b - 1, by omega⟩
  simp only [Nat.add_sub_cancel, Int.pow_succ]
  omega
theorem lowS_range (n : Int) (b : Nat) (h : 1 ≤ b) : -2 ^ (b - 1) ≤ lowS n b ∧ lowS n b < 2 ^ (b - 1) := by
  have hp := p2_pos b
  have h1 := Int.emod_nonneg (n + 2 ^ (b - 1)) (Int.ne_of_gt hp)
  have h2 := Int.emod_lt_of_pos (n + 2 ^ (b - 1)) hp
  have h3 := p2_half b h
  unfold lowS
  omega
theorem lowS_of (n r q : Int) (b : Nat) (h : 1 ≤ b) (e : n = r + 2 ^ b * q) (h0 : -2 ^ (b - 1) ≤ r) (h1 : r < 2 ^ (b - 1)) : lowS n b = r := by
  have h3 := p2_half b h
  unfold lowS
  rw [e, show r + 2 ^ b * q + 2 ^ (b - 1) = (r + 2 ^ (b - 1)) + 2 ^ b * q by omega, Int.add_mul_emod_self_left, Int.emod_eq_of_lt (by omega) (by omega)]
  omega
theorem lowS_id (n : Int) (b : Nat) (h : 1 ≤ b) (h0 : -2 ^ (b - 1) ≤ n) (h1 : n < 2 ^ (b - 1)) : lowS n b = n := lowS_of n n 0 b h (by omega) h0 h1
theorem lowS_iff (n : Int) (b : Nat) (h : 1 ≤ b) : lowS n b = n ↔ -2 ^ (b - 1) ≤ n ∧ n < 2 ^ (b - 1) :=
  ⟨fun e => by have := lowS_range n b h; rw [e] at this; exact this, fun h2 => lowS_id n b h h2.1 h2.2⟩

theorem word_Low_eq (n : Int) (b : Nat) (h1 : 1 ≤ b) (h2 : b ≤ 64) : word_Low.f n (b : Int) = some (lowS n b) := by
  unfold word_Low.f
  have hw : wrap64 (64 - (b : Int)) = ((64 - b : Nat) : Int) := by unfold wrap64; omega
  rw [if_neg (by omega), if_neg (by omega), hw, if_pos (by omega)]
  congr 1
  have hm : min (((64 - b : Nat) : Int)).toNat (IntKind.bits .i64) = 64 - b := by simp [IntKind.bits]
  unfold shr shl
  rw [hm, i64_eq]
  unfold wrap64 lowS
  have hu := p2_pos (64 - b)
  have e63 : (9223372036854775808 : Int) = 2 ^ (b - 1) * 2 ^ (64 - b) := by
    rw [← Int.pow_add, show b - 1 + (64 - b) = 63 by omega]; decide
  have e64 : (18446744073709551616 : Int) = 2 ^ b * 2 ^ (64 - b) := by
    rw [← Int.pow_add, show b + (64 - b) = 64 by omega]; decide
  rw [e63, e64, ← Int.add_mul, Int.mul_comm _ (2 ^ (64 - b)), Int.mul_comm (2 ^ b) (2 ^ (64 - b)), Int.mul_emod_mul_of_pos _ _ hu, Int.mul_comm (2 ^ (b - 1)) (2 ^ (64 - b)), ← Int.mul_sub]
  exact Int.mul_ediv_cancel_left _ (Int.ne_of_gt hu)

theorem word_Fits_eq (n : Int) (b : Nat) (h1 : 1 ≤ b) (h2 : b ≤ 64) : word_Fits.f n (b : Int) = some (lowS n b == n) := by
  unfold word_Fits.f
  rw [if_neg (by omega), if_neg (by omega), word_Low_eq n b h1 h2]
  rfl

/- piece reflow -/
theorem refHalf_l0 (b : Nat) (hb : b ≤ 63) (d : Nat) : ∀ i : Nat, i + d = b → 1 ≤ i → Ev (fun k => haulageref01_Half.l0 k (b : Int) (2 ^ (i - 1)) (i : Int)) (2 ^ (b - 1)) := by
  induction d with
  | zero =>
    intro i hi h1
    refine Ev.step (f := fun _ => some (2 ^ (b - 1))) (fun k => ?_) (Ev.now _)
    simp only [haulageref01_Half.l0]
    rw [if_neg (by omega), show i = b by omega]
  | succ d ih =>
    intro i hi h1
    refine Ev.step (f := fun k => haulageref01_Half.l0 k (b : Int) (2 ^ (i + 1 - 1)) ((i + 1 : Nat) : Int)) (fun k => ?_) (ih (i + 1) (by omega) (by omega))
    simp only [haulageref01_Half.l0]
    have h3 : (2 : Int) ^ i ≤ 2 ^ 62 := by
      have : (2 : Nat) ^ i ≤ 2 ^ 62 := Nat.pow_le_pow_right (by decide) (by omega)
      exact_mod_cast this
    have h4 := p2_pos i
    have h5 := p2_half i h1
    have h6 : (2 : Int) ^ 62 = 4611686018427387904 := by decide
    rw [if_pos (by omega), show wrap64 ((i : Int) + 1) = ((i + 1 : Nat) : Int) by unfold wrap64; omega, show wrap64 (2 * 2 ^ (i - 1)) = 2 ^ (i + 1 - 1) by rw [Nat.add_sub_cancel, ← h5]; unfold wrap64; omega]

theorem refHalf_ev (b : Nat) (h1 : 1 ≤ b) (hb : b ≤ 63) : Ev (fun k => haulageref01_Half.f k (b : Int)) (2 ^ (b - 1)) := by
  have := refHalf_l0 b hb (b - 1) 1 (by omega) (by omega)
  simpa [haulageref01_Half.f] using this

theorem p2_le62 (b : Nat) (hb : b ≤ 62) : (2 : Int) ^ b ≤ 4611686018427387904 := by
  have h3 : (2 : Int) ^ b ≤ 2 ^ 62 := by
    have : (2 : Nat) ^ b ≤ 2 ^ 62 := Nat.pow_le_pow_right (by decide) hb
    exact_mod_cast this
  have h6 : (2 : Int) ^ 62 = 4611686018427387904 := by decide
  omega

theorem refFits_ev (n : Int) (b : Nat) (h1 : 1 ≤ b) (h2 : b ≤ 64) (hn0 : -9223372036854775808 ≤ n) (hn1 : n ≤ 9223372036854775807) : Ev (fun k => haulageref01_Fits.f k n (b : Int)) (lowS n b == n) := by
  have hd : decide ((b : Int) > 64) = false := by simp; omega
  refine Ev.congr (f := fun k => haulageref01_Fits.j0 k n (b : Int) false) (fun k => ?_) ?_
  · unfold haulageref01_Fits.f
    rw [if_neg (by omega), hd]
  · by_cases e : b = 64
    · subst e
      refine Ev.step (f := fun _ => some (lowS n 64 == n)) (fun k => ?_) (Ev.now _)
      simp only [haulageref01_Fits.j0]
      rw [if_neg (by decide), if_pos (by omega), lowS_id n 64 (by decide) (by simp; omega) (by simp; omega)]
      simp
    · have h3 := p2_le62 (b - 1) (by omega)
      have h4 := p2_pos (b - 1)
      refine Ev.step (f := fun k => (haulageref01_Half.f k (b : Int)).bind fun t115 => (if n ≥ (wrap64 (-t115)) then ((haulageref01_Half.f k (b : Int)).bind fun t116 => (some (decide (n < t116)))) else (some false))) (fun k => ?_) ?_
      · simp only [haulageref01_Fits.j0]
        rw [if_neg (by decide), if_neg (by omega)]
      · refine Ev.bind (refHalf_ev b h1 (by omega)) ?_
        rw [show wrap64 (-2 ^ (b - 1)) = -2 ^ (b - 1) by unfold wrap64; omega]
        have hi := lowS_iff n b h1
        by_cases c : n ≥ -2 ^ (b - 1)
        · refine Ev.congr (fun k => by rw [if_pos c]) ?_
          refine Ev.bind (refHalf_ev b h1 (by omega)) ?_
          rw [show decide (n < 2 ^ (b - 1)) = (lowS n b == n) by
            rw [Bool.eq_iff_iff, decide_eq_true_iff, beq_iff_eq, hi]; exact ⟨fun h => ⟨c, h⟩, fun h => h.2⟩]
          exact Ev.now _
        · refine Ev.congr (f := fun _ => some (lowS n b == n)) (fun k => ?_) (Ev.now _)
          rw [if_neg c]
          congr 1
          rw [eq_comm, beq_eq_false_iff_ne]
          exact fun h => c (hi.1 h).1

theorem refLow_ev (n : Int) (b : Nat) (h1 : 1 ≤ b) (h2 : b ≤ 64) (hn0 : -9223372036854775808 ≤ n) (hn1 : n ≤ 9223372036854775807) : Ev (fun k => haulageref01_Low.f k n (b : Int)) (lowS n b) := by
  have hd : decide ((b : Int) > 64) = false := by simp; omega
  refine Ev.congr (f := fun k => haulageref01_Low.j0 k n (b : Int) false) (fun k => ?_) ?_
  · unfold haulageref01_Low.f
    rw [if_neg (by omega), hd]
  · by_cases e : b = 64
    · subst e
      refine Ev.step (f := fun _ => some (lowS n 64)) (fun k => ?_) (Ev.now _)
      simp only [haulageref01_Low.j0]
      rw [if_neg (by decide), if_pos (by omega), lowS_id n 64 (by decide) (by simp; omega) (by simp; omega)]
    · by_cases e3 : b = 63
      · subst e3
        have e62 : (2 : Int) ^ 62 = 4611686018427387904 := by decide
        have e63 : (2 : Int) ^ 63 = 9223372036854775808 := by decide
        have hh := refHalf_ev 63 (by decide) (by decide)
        simp only [Nat.reduceSub, e62] at hh
        refine Ev.step (f := fun k => ((haulageref01_Half.f k 63).bind fun t117 => (if n ≥ t117 then ((haulageref01_Half.f k 63).bind fun t118 => ((haulageref01_Half.f k 63).bind fun t119 => (some (wrap64 ((wrap64 (n - t118)) - t119))))) else ((haulageref01_Half.f k 63).bind fun t120 => (if n < (wrap64 (-t120)) then ((haulageref01_Half.f k 63).bind fun t121 => ((haulageref01_Half.f k 63).bind fun t122 => (some (wrap64 ((wrap64 (n + t121)) + t122))))) else (some n)))))) (fun k => ?_) ?_
        · simp only [haulageref01_Low.j0]
          rw [if_neg (by decide), if_neg (by omega), if_pos (by omega)]
        · refine Ev.bind hh ?_
          by_cases c : n ≥ 4611686018427387904
          · refine Ev.congr (fun k => by rw [if_pos c]) ?_
            refine Ev.bind hh (Ev.bind hh ?_)
            rw [lowS_of n (n - 9223372036854775808) 1 63 (by decide) (by rw [e63]; omega) (by simp; omega) (by simp; omega), show wrap64 (wrap64 (n - 4611686018427387904) - 4611686018427387904) = n - 9223372036854775808 by unfold wrap64; omega]
            exact Ev.now _
          · refine Ev.congr (fun k => by rw [if_neg c]) ?_
            refine Ev.bind hh ?_
            rw [show wrap64 (-4611686018427387904) = -4611686018427387904 by decide +kernel]
            by_cases c2 : n < -4611686018427387904
            · refine Ev.congr (fun k => by rw [if_pos c2]) ?_
              refine Ev.bind hh (Ev.bind hh ?_)
              rw [lowS_of n (n + 9223372036854775808) (-1) 63 (by decide) (by rw [e63]; omega) (by simp; omega) (by simp; omega), show wrap64 (wrap64 (n + 4611686018427387904) + 4611686018427387904) = n + 9223372036854775808 by unfold wrap64; omega]
              exact Ev.now _
            · refine Ev.congr (f := fun _ => some (lowS n 63)) (fun k => ?_) (Ev.now _)
              rw [if_neg c2, lowS_id n 63 (by decide) (by simp; omega) (by simp; omega)]
      · have h3 := p2_le62 b (by omega)
        have h4 := p2_pos (b - 1)
        have h5 := p2_half b h1
        have hh := refHalf_ev b h1 (by omega)
        generalize hH : (2 : Int) ^ (b - 1) = H at *
        generalize hB : (2 : Int) ^ b = B at *
        have hq := Int.mul_tdiv_add_tmod n B
        have hlt : Int.tmod n B < B := Int.tmod_lt_of_pos n (by omega)
        have hgt : -B < Int.tmod n B := by
          have := Int.lt_tmod_of_pos n (b := B) (by omega)
          omega
        generalize hR : Int.tmod n B = R at *
        refine Ev.step (fun k => by simp only [haulageref01_Low.j0]; rw [if_neg (by decide), if_neg (by omega), if_neg (by omega)]) ?_
        · refine Ev.bind hh ?_
          rw [show wrap64 (2 * H) = B by unfold wrap64; omega, hR]
          refine Ev.congr (fun k => by rw [if_neg (by omega)]) ?_
          refine Ev.bind hh ?_
          by_cases c : R ≥ H
          · refine Ev.congr (fun k => by rw [if_pos c]) ?_
            refine Ev.bind hh ?_
            refine Ev.congr (f := fun _ => some (lowS n b)) (fun k => ?_) (Ev.now _)
            rw [if_neg (by unfold wrap64; omega), lowS_of n (R - B) (n.tdiv B + 1) b h1 (by rw [hB, Int.mul_add]; omega) (by rw [hH]; omega) (by rw [hH]; omega), show wrap64 (R - B) = R - B by unfold wrap64; omega]
          · refine Ev.congr (fun k => by rw [if_neg c]) ?_
            refine Ev.bind hh ?_
            rw [show wrap64 (-H) = -H by unfold wrap64; omega]
            by_cases c2 : R < -H
            · refine Ev.congr (f := fun _ => some (lowS n b)) (fun k => ?_) (Ev.now _)
              rw [if_pos c2, lowS_of n (R + B) (n.tdiv B - 1) b h1 (by rw [hB, Int.mul_sub]; omega) (by rw [hH]; omega) (by rw [hH]; omega), show wrap64 (R + B) = R + B by unfold wrap64; omega]
            · refine Ev.congr (f := fun _ => some (lowS n b)) (fun k => ?_) (Ev.now _)
              rw [if_neg c2, lowS_of n R (n.tdiv B) b h1 (by rw [hB]; omega) (by rw [hH]; omega) (by rw [hH]; omega)]

theorem WordFits : haulagelaw01_WordFits.Pure := by
  intro n b hn hb
  simp [Lit.wf, IntKind.min, IntKind.max, IntKind.bits, IntKind.signed] at hn hb
  refine Ev.rounds (r := true) ?_
  unfold haulagelaw01_WordFits.f
  refine Ev.bind lives_ev ?_
  refine Ev.congr (fun k => by rw [if_pos rfl]) ?_
  by_cases h1 : b < 1
  · -- out of the bounds
    have e1 : word_Low.f n b = some 0 := by unfold word_Low.f; rw [if_pos h1]
    have e2 : word_Fits.f n b = some false := by unfold word_Fits.f; rw [if_pos h1]
    rw [e1, e2]
    simp only [Option.bind_some]
    have e3 : Ev (fun k => haulageref01_Fits.f k n b) false := by
      unfold haulageref01_Fits.f
      refine Ev.congr (fun k => by rw [if_pos h1]) (Ev.step (f := fun _ => some false) (fun k => ?_) (Ev.now _))
      simp only [haulageref01_Fits.j0]; rw [if_pos (by trivial)]
    have e4 : Ev (fun k => haulageref01_Low.f k n b) 0 := by
      unfold haulageref01_Low.f
      refine Ev.congr (fun k => by rw [if_pos h1]) (Ev.step (f := fun _ => some 0) (fun k => ?_) (Ev.now _))
      simp only [haulageref01_Low.j0]; rw [if_pos (by trivial)]
    refine Ev.bind e3 ?_
    refine Ev.congr (fun k => by rw [if_neg (by decide)]) ?_
    refine Ev.bind e4 ?_
    refine Ev.step (f := fun k => haulagelaw01_WordFits.j1 k n b 0 true) (fun k => ?_) (Ev.step (f := fun _ => some true) (fun k => ?_) (Ev.now _))
    · simp only [haulagelaw01_WordFits.j0]; rw [if_neg (by decide), if_pos h1]
    · simp only [haulagelaw01_WordFits.j1]; rw [if_pos (by trivial)]; rfl
  · by_cases h2 : b > 64
    · have e1 : word_Low.f n b = some 0 := by unfold word_Low.f; rw [if_neg h1, if_pos h2]
      have e2 : word_Fits.f n b = some false := by unfold word_Fits.f; rw [if_neg h1, if_pos h2]
      have hd : decide (b > 64) = true := by simpa using h2
      rw [e1, e2]
      simp only [Option.bind_some]
      have e3 : Ev (fun k => haulageref01_Fits.f k n b) false := by
        unfold haulageref01_Fits.f
        refine Ev.congr (fun k => by rw [if_neg h1, hd]) (Ev.step (f := fun _ => some false) (fun k => ?_) (Ev.now _))
        simp only [haulageref01_Fits.j0]; rw [if_pos (by trivial)]
      have e4 : Ev (fun k => haulageref01_Low.f k n b) 0 := by
        unfold haulageref01_Low.f
        refine Ev.congr (fun k => by rw [if_neg h1, hd]) (Ev.step (f := fun _ => some 0) (fun k => ?_) (Ev.now _))
        simp only [haulageref01_Low.j0]; rw [if_pos (by trivial)]
      refine Ev.bind e3 ?_
      refine Ev.congr (fun k => by rw [if_neg (by decide)]) ?_
      refine Ev.bind e4 ?_
      refine Ev.step (f := fun k => haulagelaw01_WordFits.j1 k n b 0 true) (fun k => ?_) (Ev.step (f := fun _ => some true) (fun k => ?_) (Ev.now _))
      · simp only [haulagelaw01_WordFits.j0]; rw [if_neg (by decide), if_neg h1, hd]
      · simp only [haulagelaw01_WordFits.j1]; rw [if_pos (by trivial)]; rfl
    · obtain ⟨m, rfl⟩ := Int.eq_ofNat_of_zero_le (show 0 ≤ b by omega)
      have hm1 : 1 ≤ m := by omega
      have hm2 : m ≤ 64 := by omega
      have hd : decide ((m : Int) > 64) = false := by simp; omega
      rw [word_Low_eq n m hm1 hm2, word_Fits_eq n m hm1 hm2]
      simp only [Option.bind_some]
      refine Ev.bind (refFits_ev n m hm1 hm2 hn.1 hn.2) ?_
      refine Ev.congr (fun k => by rw [if_neg (by simp)]) ?_
      refine Ev.bind (refLow_ev n m hm1 hm2 hn.1 hn.2) ?_
      have hl := lowS_range n m hm1
      refine Ev.step (f := fun k => haulagelaw01_WordFits.j1 k n (m : Int) (lowS n m) false) (fun k => ?_) (Ev.step (f := fun _ => some true) (fun k => ?_) (Ev.now _))
      · simp only [haulagelaw01_WordFits.j0]; rw [if_neg (by simp), if_neg h1, hd]
      · simp only [haulagelaw01_WordFits.j1]
        rw [if_neg (by decide), word_Fits_eq _ m hm1 hm2, lowS_id (lowS n m) m hm1 hl.1 hl.2]
        simp only [beq_self_eq_true, Option.bind_some, if_true]
        rw [word_Low_eq _ m hm1 hm2, lowS_id (lowS n m) m hm1 hl.1 hl.2]
        simp only [Option.bind_some, if_true]
        rw [word_Fits_eq _ m hm1 hm2]
        simp

end Go.Proofs.Ytjkjpjbohiggaaa.Pure

/- For every two numbers: a kind's word is what the page says, none for what is no kind, and no other kind has it; no condition but that the table holds what the program's text lays in it. -/
import Derived.Test.YtjkjpjbohiggaaaDoorHWalrecWordsx2
set_option linter.unusedVariables false
set_option linter.unusedSimpArgs false
namespace Go.Proofs.YtjkjpjbohiggaaaDoor.Pure
open Go.RowKit Go.Proofs.YtjkjpjbohiggaaaDoor.HWalrecWords Go.Proofs.YtjkjpjbohiggaaaDoorW.PrintWords Go.Proofs.YtjkjpjbohiggaaaDoorW.PrintLast Go.Proofs.YtjkjpjbohiggaaaDoorW.PrintMore
/- piece base -/
theorem tmod_nonneg_eq (a b : Int) (ha : 0 ≤ a) : Int.tmod a b = a % b := Int.tmod_eq_emod_of_nonneg ha
theorem tdiv_nonneg_eq (a b : Int) (ha : 0 ≤ a) : Int.tdiv a b = a / b := Int.tdiv_eq_ediv_of_nonneg ha
theorem u64_id (n : Int) (h0 : 0 ≤ n) (h1 : n < 18446744073709551616) : IntKind.u64.wrap n = n := by
  simp only [IntKind.wrap, IntKind.bits, IntKind.signed]
  simp
  omega

theorem i64_eq (n : Int) : IntKind.i64.wrap n = wrap64 n := by unfold wrap64; exact Go.IntKind.wrap_i64 n
theorem u64_eq (n : Int) : IntKind.u64.wrap n = n % 18446744073709551616 := by simp [IntKind.wrap, IntKind.bits, IntKind.signed]

theorem wf_parts {k : IntKind} {x : Int} (h : (Lit.int k x).wf = true) : k.min ≤ x ∧ x ≤ k.max := by
  unfold Lit.wf at h
  rw [Bool.and_eq_true, decide_eq_true_eq, decide_eq_true_eq] at h
  exact h
theorem wf_i64 {x : Int} (h : (Lit.int .i64 x).wf = true) : -9223372036854775808 ≤ x ∧ x ≤ 9223372036854775807 := by
  have := wf_parts h
  rw [show IntKind.min .i64 = -9223372036854775808 by decide, show IntKind.max .i64 = 9223372036854775807 by decide] at this
  exact this
theorem wf_u64 {x : Int} (h : (Lit.int .u64 x).wf = true) : 0 ≤ x ∧ x ≤ 18446744073709551615 := by
  have := wf_parts h
  rw [show IntKind.min .u64 = 0 by decide, show IntKind.max .u64 = 18446744073709551615 by decide] at this
  exact this
theorem wf_u32 {x : Int} (h : (Lit.int .u32 x).wf = true) : 0 ≤ x ∧ x ≤ 4294967295 := by
  have := wf_parts h
  rw [show IntKind.min .u32 = 0 by decide, show IntKind.max .u32 = 4294967295 by decide] at this
  exact this
theorem wf_u16 {x : Int} (h : (Lit.int .u16 x).wf = true) : 0 ≤ x ∧ x ≤ 65535 := by
  have := wf_parts h
  rw [show IntKind.min .u16 = 0 by decide, show IntKind.max .u16 = 65535 by decide] at this
  exact this
theorem wf_u8 {x : Int} (h : (Lit.int .u8 x).wf = true) : 0 ≤ x ∧ x ≤ 255 := by
  have := wf_parts h
  rw [show IntKind.min .u8 = 0 by decide, show IntKind.max .u8 = 255 by decide] at this
  exact this

/- piece byt -/
/-! ### a text as a list of numbers -/
def byt (s : ByteArray) : List Int := s.data.toList.map fun c => (c.toNat : Int)
/-- All are bytes. -/
def Bytes (l : List Int) : Prop := ∀ x ∈ l, 0 ≤ x ∧ x ≤ 255

theorem byt_len (s : ByteArray) : (byt s).length = s.size := by
  unfold byt
  rw [List.length_map, Array.length_toList]
  rfl
theorem byt_bytes (s : ByteArray) : Bytes (byt s) := by
  intro x hx
  obtain ⟨c, _, rfl⟩ := List.mem_map.1 hx
  have := c.toNat_lt
  omega
theorem str_byt (s : ByteArray) : strOfNums (byt s) = s := by
  apply ByteArray.ext
  unfold strOfNums byt
  rw [List.map_map]
  have : ((fun n : Int => UInt8.ofNat n.toNat) ∘ fun c : UInt8 => (c.toNat : Int)) = id := by
    funext c
    simp
  rw [this]
  simp
theorem byt_str {l : List Int} (h : Bytes l) : byt (strOfNums l) = l := by
  unfold strOfNums byt
  rw [List.toList_toArray, List.map_map]
  have : ∀ x ∈ l, ((fun c : UInt8 => (c.toNat : Int)) ∘ fun n : Int => UInt8.ofNat n.toNat) x = x := by
    intro x hx
    have := h x hx
    simp only [Function.comp]
    rw [UInt8.toNat_ofNat', Nat.mod_eq_of_lt (by omega)]
    omega
  rw [List.map_congr_left this]
  simp
theorem byt_append (a b : ByteArray) : byt (a ++ b) = byt a ++ byt b := by
  unfold byt
  rw [show (a ++ b).data.toList = a.data.toList ++ b.data.toList by simp, List.map_append]
theorem byt_inj {a b : ByteArray} (h : byt a = byt b) : a = b := by rw [← str_byt a, h, str_byt]
theorem byt_extract (s : ByteArray) (a b : Nat) : byt (s.extract a b) = ((byt s).drop a).take (b - a) := by
  unfold byt
  rw [show (s.extract a b).data.toList = (s.data.toList.drop a).take (b - a) by simp [ByteArray.data_extract, Array.toList_extract, List.extract_eq_take_drop], List.map_take, List.map_drop]
theorem byt_cut (s : ByteArray) (a : Nat) : byt (s.extract a s.size) = (byt s).drop a := by
  rw [byt_extract, ← byt_len, List.take_of_length_le (by simp)]
theorem byt_to (s : ByteArray) (b : Nat) : byt (s.extract 0 b) = (byt s).take b := by
  rw [byt_extract]; simp
theorem bt_byt (s : ByteArray) (i : Nat) (h : i < s.size) : bt s (i : Int) = (byt s)[i]'(by rw [byt_len]; exact h) := by
  unfold bt byt
  simp [h]
  rfl
theorem Bytes.append {a b : List Int} (h : Bytes a) (k : Bytes b) : Bytes (a ++ b) := by
  intro x hx
  rcases List.mem_append.1 hx with h1 | h1
  · exact h x h1
  · exact k x h1
theorem Bytes.take {a : List Int} (h : Bytes a) (n : Nat) : Bytes (a.take n) := fun x hx => h x (List.mem_of_mem_take hx)
theorem Bytes.drop {a : List Int} (h : Bytes a) (n : Nat) : Bytes (a.drop n) := fun x hx => h x (List.mem_of_mem_drop hx)
theorem toList_eq_iff (a b : ByteArray) : a.toList = b.toList ↔ a = b := by
  rw [ByteArray.toList_eq, ByteArray.toList_eq]
  exact ⟨fun h => ByteArray.ext (Array.toList_inj.1 h), fun h => by rw [h]⟩
theorem beq_toList (a b : ByteArray) : (a.toList == b.toList) = decide (a = b) := by
  rw [Bool.eq_iff_iff, beq_iff_eq, decide_eq_true_iff, toList_eq_iff]

theorem lives_ev : Ev (fun k => haulagelaw18_lives.f k) true := Ev.of haulagelaw18_lives.mono (k := 30) (by decide +kernel)

/-- A kind's word. -/
def wordS (n : Int) : ByteArray := if n < 0 then ⟨#[]⟩ else if n ≥ 9 then ⟨#[]⟩ else rdOf ByteArray.empty G1 n
theorem word_eq (n : Int) : walrec_Word.f n = some (wordS n) := by
  unfold walrec_Word.f wordS
  by_cases h1 : n < 0
  · rw [if_pos h1, if_pos h1]
  · rw [if_neg h1, if_neg h1]
    by_cases h2 : n ≥ 9
    · rw [if_pos h2, if_pos h2]
    · rw [if_neg h2, if_neg h2, if_pos (by omega), if_pos (by omega)]

theorem words_fin : ∀ i : Fin 9, ∀ j : Fin 9, i ≠ j → (rdOf ByteArray.empty G1 (i.val : Int)).data ≠ (rdOf ByteArray.empty G1 (j.val : Int)).data := by decide +kernel
theorem words_none : ∀ i : Fin 9, i.val ≠ 0 → (rdOf ByteArray.empty G1 (i.val : Int)).data ≠ #[] := by decide +kernel
theorem words_zero : rdOf ByteArray.empty G1 0 = ⟨#[]⟩ := by decide +kernel

theorem wordS_out (n : Int) (h : ¬ (1 ≤ n ∧ n ≤ 8)) : wordS n = ⟨#[]⟩ := by
  unfold wordS
  by_cases h1 : n < 0
  · rw [if_pos h1]
  · rw [if_neg h1]
    by_cases h2 : n ≥ 9
    · rw [if_pos h2]
    · rw [if_neg h2, show n = 0 by omega, words_zero]

theorem wordS_in (n : Int) (h : 1 ≤ n ∧ n ≤ 8) : wordS n ≠ ⟨#[]⟩ ∧ ∀ m, m ≠ n → wordS m ≠ wordS n := by
  obtain ⟨i, rfl⟩ := Int.eq_ofNat_of_zero_le (show 0 ≤ n by omega)
  have e : wordS (i : Int) = rdOf ByteArray.empty G1 (i : Int) := by unfold wordS; rw [if_neg (by omega), if_neg (by omega)]
  have h0 := words_none ⟨i, by omega⟩ (by simp only; omega)
  refine ⟨fun he => h0 (by rw [e] at he; exact congrArg ByteArray.data he), fun m hm he => ?_⟩
  by_cases hr : 1 ≤ m ∧ m ≤ 8
  · obtain ⟨j, rfl⟩ := Int.eq_ofNat_of_zero_le (show 0 ≤ m by omega)
    have e2 : wordS (j : Int) = rdOf ByteArray.empty G1 (j : Int) := by unfold wordS; rw [if_neg (by omega), if_neg (by omega)]
    exact words_fin ⟨j, by omega⟩ ⟨i, by omega⟩ (fun h => hm (by have := congrArg Fin.val h; simp only at this; omega)) (by rw [e, e2] at he; exact congrArg ByteArray.data he)
  · rw [wordS_out m hr, e] at he
    exact h0 (congrArg ByteArray.data he.symm)

theorem nilL : ([] : List UInt8) = (⟨#[]⟩ : ByteArray).toList := by rw [ByteArray.toList_eq]

theorem WalrecWords : haulagelaw18_WalrecWords.Pure := by
  intro a b ha hb
  replace ha := wf_i64 ha
  refine Ev.rounds (r := true) ?_
  unfold haulagelaw18_WalrecWords.f
  refine Ev.bind lives_ev ?_
  refine Ev.congr (fun k => by rw [if_pos rfl, Option.bind_some]) ?_
  have hj : ∀ l e (bo : Bool), bo = decide (1 ≤ a ∧ a ≤ 8) → l.length = 8 → (∀ i : Nat, i < 8 → rdOf ByteArray.empty l (i : Int) = rdOf ByteArray.empty G1 ((i + 1 : Nat) : Int)) → e = (⟨#[]⟩ : ByteArray) → Ev (fun k => haulagelaw18_WalrecWords.j0 k a b l e bo) true := by
    intro l e bo hbo hl hg he
    subst he
    by_cases h : 1 ≤ a ∧ a ≤ 8
    · have hw : wrap64 (a - 1) = a - 1 := by unfold wrap64; omega
      obtain ⟨i, hi⟩ := Int.eq_ofNat_of_zero_le (show 0 ≤ a - 1 by omega)
      have ei : rdOf ByteArray.empty l (a - 1) = wordS a := by
        rw [hi, hg i (by omega)]
        unfold wordS
        rw [if_neg (by omega), if_neg (by omega), show ((i + 1 : Nat) : Int) = a by omega]
      have hin := wordS_in a h
      refine Ev.step (f := fun _ => some true) (fun k => ?_) (Ev.now _)
      simp only [haulagelaw18_WalrecWords.j0]
      rw [hbo, if_pos (by simpa using h), hw, if_pos (by omega), if_pos (by omega), word_eq, ei, Option.bind_some, if_pos rfl, if_neg (fun h => hin.1 ((toList_eq_iff _ _).1 (h.trans nilL))), word_eq, Option.bind_some]
      by_cases hab : a = b
      · rw [if_pos hab]
      · rw [if_neg hab]
        congr 1
        rw [bne_iff_ne, Ne, toList_eq_iff]
        exact hin.2 b (fun h => hab h.symm)
    · refine Ev.step (f := fun _ => some true) (fun k => ?_) (Ev.now _)
      simp only [haulagelaw18_WalrecWords.j0]
      rw [hbo, if_neg (by simpa using h), word_eq, Option.bind_some, wordS_out a h, if_pos rfl, if_pos nilL.symm]
  by_cases h1 : a ≥ 1
  · refine Ev.congr (fun k => by rw [if_pos h1]) (hj _ _ _ ?_ rfl ?_ rfl)
    · by_cases h2 : a ≤ 8
      · simp [h2]; omega
      · simp [h2]
    · intro i hi
      have : ∀ i : Fin 8, rdOf ByteArray.empty ([(⟨#[98, 101, 103, 105, 110]⟩ : ByteArray), (⟨#[105, 110, 115, 101, 114, 116]⟩ : ByteArray), (⟨#[117, 112, 100, 97, 116, 101]⟩ : ByteArray), (⟨#[100, 101, 108, 101, 116, 101]⟩ : ByteArray), (⟨#[100, 100, 108]⟩ : ByteArray), (⟨#[99, 111, 109, 109, 105, 116]⟩ : ByteArray), (⟨#[97, 98, 111, 114, 116]⟩ : ByteArray), (⟨#[114, 101, 115, 101, 116]⟩ : ByteArray)] : List ByteArray) (i.val : Int) = rdOf ByteArray.empty G1 ((i.val + 1 : Nat) : Int) := by decide +kernel
      exact this ⟨i, hi⟩
  · refine Ev.congr (fun k => by rw [if_neg h1]) (hj _ _ _ (by simp; omega) rfl ?_ rfl)
    intro i hi
    have : ∀ i : Fin 8, rdOf ByteArray.empty ([(⟨#[98, 101, 103, 105, 110]⟩ : ByteArray), (⟨#[105, 110, 115, 101, 114, 116]⟩ : ByteArray), (⟨#[117, 112, 100, 97, 116, 101]⟩ : ByteArray), (⟨#[100, 101, 108, 101, 116, 101]⟩ : ByteArray), (⟨#[100, 100, 108]⟩ : ByteArray), (⟨#[99, 111, 109, 109, 105, 116]⟩ : ByteArray), (⟨#[97, 98, 111, 114, 116]⟩ : ByteArray), (⟨#[114, 101, 115, 101, 116]⟩ : ByteArray)] : List ByteArray) (i.val : Int) = rdOf ByteArray.empty G1 ((i.val + 1 : Nat) : Int) := by decide +kernel
    exact this ⟨i, hi⟩

end Go.Proofs.YtjkjpjbohiggaaaDoor.Pure

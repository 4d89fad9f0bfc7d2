/- For Go functions that SumTells reaches: Lean functions, and walks that show that each call comes to what its Lean function tells; no condition but those that each theorem states. (Made by a program of this session over the kit's print.py.) -/
import Derived.Test.YtapjhgenjghfbaaDoorHSumTellsx0
namespace Go.Proofs.YtapjhgenjghfbaaDoor.HSumTells
open Go.RowKit Go.Proofs.YtapjhgenjghfbaaDoorW.PrintWords Go.Proofs.YtapjhgenjghfbaaDoorW.PrintLast Go.Proofs.YtapjhgenjghfbaaDoorW.PrintMore
attribute [local go_sem] max2_int min2_int max_two min_two max_three min_three max_four min_four   -- for this text's walks alone
set_option linter.unusedVariables false
set_option linter.unusedSimpArgs false

attribute [local go_sem] hp_s8 hp_s16 hp_s32 hp_s64 hp_m8 hp_m16 hp_m32 hp_m64
/-! ### haulagelaw02_turned: function 5 (by hand) -/
/-- Memory in the loop: the bytes' block, and the array's. -/
structure TW (w W : World) (g gx : Nat) (n : Nat) (L : Nat → Int) (b0 b1 b2 b3 : Int) : Prop where
  below : Below w.heap.size w W
  hg : w.heap.size ≤ g
  hx : w.heap.size ≤ gx
  hne : g ≠ gx
  row : ∃ C : Array Value, W.heap[g]? = some (.cells C 5 (C.size, C.size + 1)) ∧ n ≤ C.size ∧ ∀ j, j < n → C[j]? = some (.int .u8 (L j))
  box : W.heap[gx]? = some (.cells #[.int .u8 b0, .int .u8 b1, .int .u8 b2, .int .u8 b3] 23 (0, 0))
theorem TW.cell {w W : World} {g gx n : Nat} {L : Nat → Int} {b0 b1 b2 b3 : Int} (h : TW w W g gx n L b0 b1 b2 b3) (j : Nat) (hj : j < n) : W.cell? ⟨g, j, none⟩ = some (.int .u8 (L j)) := by
  obtain ⟨C, h1, h2, h3⟩ := h.row
  simp only [World.cell?, h1]
  exact h3 j hj
theorem TW.frozen {w W : World} {g gx n : Nat} {L : Nat → Int} {b0 b1 b2 b3 : Int} (h : TW w W g gx n L b0 b1 b2 b3) (j : Nat) (hj : j < n) : W.frozen? ⟨g, j, none⟩ = false := by
  obtain ⟨C, h1, h2, h3⟩ := h.row
  simp only [World.frozen?, h1]
  simp
  omega
theorem TW.drew {w W : World} {g gx n : Nat} {L : Nat → Int} {b0 b1 b2 b3 : Int} (h : TW w W g gx n L b0 b1 b2 b3) : TW w W.drew g gx n L b0 b1 b2 b3 := ⟨below_drew1 h.below, h.hg, h.hx, h.hne, h.row, h.box⟩
theorem TW.set {w W : World} {g gx n : Nat} {L : Nat → Int} {b0 b1 b2 b3 : Int} (h : TW w W g gx n L b0 b1 b2 b3) (p : Nat) (hp : p < n) (v : Int) : TW w (W.setCell ⟨g, p, none⟩ (.int .u8 v)) g gx n (fun j => if j = p then v else L j) b0 b1 b2 b3 := by
  obtain ⟨C, h1, h2, h3⟩ := h.row
  refine ⟨below_set h.below h.hg, h.hg, h.hx, h.hne, ⟨C.setIfInBounds p (.int .u8 v), ?_, by simpa using h2, fun j hj => ?_⟩, blk_far h.box (fun e => h.hne e.symm) _⟩
  · simp [World.setCell, Array.getElem?_modify, h1]
  · rw [Array.getElem?_setIfInBounds]
    by_cases e : p = j
    · subst e
      rw [if_pos rfl, if_pos rfl, if_pos (by omega)]
    · rw [if_neg e, if_neg (fun c => e c.symm)]
      exact h3 j hj
theorem TW.first {w W : World} {gx : Nat} {s : ByteArray} {c : Nat} {b0 b1 b2 b3 : Int} (hB : Below w.heap.size w W) (hx : w.heap.size ≤ gx) (hb : W.heap[gx]? = some (.cells #[.int .u8 b0, .int .u8 b1, .int .u8 b2, .int .u8 b3] 23 (0, 0))) (hc : s.size ≤ c) :
    TW w (W.drew.alloc (.cells (bytesRow s c) 5 ((bytesRow s c).size, (bytesRow s c).size + 1))) W.heap.size gx s.size (fun j => bt s j) b0 b1 b2 b3 := by
  have hlt := blk_lt hb
  refine ⟨below_alloc (below_drew1 hB) _, hB.size, hx, by omega, ⟨bytesRow s c, ?_, ?_, fun j hj => ?_⟩, ?_⟩
  · exact heap_alloc_new W.drew _
  · simp [bytesRow]
  · rw [bytesRow_at s c j hj]
    unfold bt
    simp only [Int.toNat_natCast]
    rw [dif_pos hj]
    rfl
  · exact blk_alloc (blk_drew hb) _
theorem xor_u8_range (a b : Int) : 0 ≤ Go.bits .xor .u8 a b ∧ Go.bits .xor .u8 a b ≤ 255 := by
  have e : Go.bits .xor .u8 a b = IntKind.u8.wrap ((BitVec.ofInt 8 a ^^^ BitVec.ofInt 8 b).toNat : Int) := rfl
  have := (BitVec.ofInt 8 a ^^^ BitVec.ofInt 8 b).isLt
  rw [e, Go.IntKind.wrap_u8]
  omega
def turnV (s : ByteArray) (p : Nat) (b0 b1 b2 b3 : Int) (j : Nat) : Int := if j = p + 3 then Go.bits .xor .u8 (bt s (j : Int)) b3 else if j = p + 2 then Go.bits .xor .u8 (bt s (j : Int)) b2 else if j = p + 1 then Go.bits .xor .u8 (bt s (j : Int)) b1 else if j = p then Go.bits .xor .u8 (bt s (j : Int)) b0 else bt s (j : Int)
def turnL (s : ByteArray) (p : Nat) (b0 b1 b2 b3 : Int) : List Int := (List.range s.size).map (turnV s p b0 b1 b2 b3)
theorem turnV_range (s : ByteArray) (p : Nat) (b0 b1 b2 b3 : Int) (j : Nat) : 0 ≤ turnV s p b0 b1 b2 b3 j ∧ turnV s p b0 b1 b2 b3 j ≤ 255 := by
  unfold turnV
  repeat' split
  · exact xor_u8_range _ _
  · exact xor_u8_range _ _
  · exact xor_u8_range _ _
  · exact xor_u8_range _ _
  · unfold bt
    split
    · have := (s[(j : Int).toNat]).toNat_lt
      omega
    · omega
def haulagelaw02_turned.f (k : Nat) (a0 : ByteArray) (a1 b0 b1 b2 b3 : Int) : Option ByteArray := if 4 ≤ a0.size ∧ a0.size ≤ 1000000000 ∧ 0 ≤ a1 ∧ a1 < 65536 then some (strOfNums (turnL a0 (a1 % ((a0.size : Int) - 3)).toNat b0 b1 b2 b3)) else none
theorem haulagelaw02_turned.mono : ∀ a0 a1 b0 b1 b2 b3 k, LeO (haulagelaw02_turned.f k a0 a1 b0 b1 b2 b3) (haulagelaw02_turned.f (k + 1) a0 a1 b0 b1 b2 b3) := fun _ _ _ _ _ _ _ _ h => h
theorem TW.back {w W : World} {g gx : Nat} {s : ByteArray} {L : Nat → Int} {p : Nat} {b0 b1 b2 b3 : Int} (cap : Nat) (h : TW w W g gx s.size L b0 b1 b2 b3) (hL : ∀ j, j < s.size → L j = turnV s p b0 b1 b2 b3 j) :
    (convert 33 9 (.slice (some ⟨g, 0, none⟩) s.size cap)).run Tryd.prog W = .ok (.string (strOfNums (turnL s p b0 b1 b2 b3))) W := by
  have hz : (List.map (fun n : Int => UInt8.ofNat n.toNat) (turnL s p b0 b1 b2 b3)).length = s.size := by simp [turnL]
  have e := run_convert_bytes_back (P := Tryd.prog) W 33 9 5 ⟨g, 0, none⟩ cap (List.map (fun n : Int => UInt8.ofNat n.toNat) (turnL s p b0 b1 b2 b3)) Tryd.underlying33 Tryd.underlying5 Tryd.underlying9 (fun j hj => by
    rw [hz] at hj
    have hc := h.cell j hj
    have hr := turnV_range s p b0 b1 b2 b3 j
    have ha : (Addr.add ⟨g, 0, none⟩ j) = ⟨g, j, none⟩ := by simp [Addr.add]; omega
    rw [ha, hc, hL j hj]
    have : (List.map (fun n : Int => UInt8.ofNat n.toNat) (turnL s p b0 b1 b2 b3))[j]'(by rw [hz]; exact hj) = UInt8.ofNat (turnV s p b0 b1 b2 b3 j).toNat := by simp [turnL]
    rw [this, UInt8.toNat_ofNat', Nat.mod_eq_of_lt (by omega)]
    congr 2
    omega)
  rw [hz] at e
  exact e
set_option maxHeartbeats 4000000 in
set_option maxRecDepth 100000 in
theorem haulagelaw02_turned.calls (k : Nat) (a0 : ByteArray) (a1 b0 b1 b2 b3 : Int) (r : ByteArray) (w : World) (h : haulagelaw02_turned.f k a0 a1 b0 b1 b2 b3 = some r) :
    Calls Tryd.prog 5 #[.string a0, .int .u16 a1, .agg #[.int .u8 b0, .int .u8 b1, .int .u8 b2, .int .u8 b3]] w fun e w' => e = .returned (.string r) ∧ Below w.heap.size w w' := by
  unfold haulagelaw02_turned.f at h
  split at h
  rotate_left
  · exact absurd h (by simp)
  rename_i hcnd
  obtain ⟨h4, hs, h0, h1⟩ := hcnd
  have HR := Aside0.mk (Option.some.inj h); clear h
  have HB := Aside0.mk (Below.refl w.heap.size w)
  have hu23 := Tryd.underlying23
  have hconv := fun (W : World) => run_bytes_of_string (P := Tryd.prog) W 9 33 5 a0 Tryd.underlying9 Tryd.underlying33 Tryd.underlying5
  have hw3 : wrap64 ((a0.size : Int) - 3) = ((a0.size - 3 : Nat) : Int) := by unfold wrap64; omega
  have hz3 : (((a0.size - 3 : Nat) : Int) == 0) = false := by rw [beq_eq_false_iff_ne]; omega
  have hz4 : (((a0.size - 3 : Nat) : Int) = 0) = False := eq_false (by omega)
  go_enter Tryd.func5, Tryd.ntmps5
  go_wp2_with (first | ((with_reducible refine gate_dst (N := 5) rfl ?_); refine box_event ?hg (N := 5) ?hd (cs := #[.int .u8 b0, .int .u8 b1, .int .u8 b2, .int .u8 b3]) (t := 23) ?hr ?_; (case hd => rfl); (case hg => rfl); (case hr => first | (go_simp; done) | (go_simp; rfl)); intro gx hg w1 hbox hb; have BX := Aside0.mk hbox; have GX := Aside0.mk (show w.heap.size ≤ gx by rw [hg]; exact Nat.le_refl _); replace HB := Aside0.mk hb; clear hb hbox hg))
  obtain ⟨p, hp⟩ : ∃ p : Nat, a1 % ((a0.size : Int) - 3) = (p : Int) := ⟨(a1 % ((a0.size : Int) - 3)).toNat, by have := Int.emod_nonneg a1 (show (a0.size : Int) - 3 ≠ 0 by omega); omega⟩
  have hpl : p + 3 < a0.size := by have := Int.emod_lt_of_pos a1 (show (0 : Int) < (a0.size : Int) - 3 by omega); omega
  have hp' := hp
  rw [hp]
  have HT : TW w ((w1.alloc (.cells (bytesRow a0 (grownCap w1 a0.size 0 5)) 5 ((bytesRow a0 (grownCap w1 a0.size 0 5)).size, (bytesRow a0 (grownCap w1 a0.size 0 5)).size + 1))).drew) w1.heap.size gx a0.size (fun j : Nat => bt a0 (j : Int)) b0 b1 b2 b3 := TW.first HB.out GX.out BX.out (by unfold grownCap; simp only [Question.cut]; omega)
  have HTA := Aside0.mk HT
  clear HT HB BX GX hconv hw3 hz3 hz4
  generalize ((w1.alloc (.cells (bytesRow a0 (grownCap w1 a0.size 0 5)) 5 ((bytesRow a0 (grownCap w1 a0.size 0 5)).size, (bytesRow a0 (grownCap w1 a0.size 0 5)).size + 1))).drew) = W0 at HTA ⊢
  generalize w1.heap.size = gB at HTA ⊢
  generalize grownCap w1 a0.size 0 5 = cp
  obtain ⟨L0, hL0⟩ : ∃ L : Nat → Int, L = fun j : Nat => bt a0 (j : Int) := ⟨_, rfl⟩
  rw [← hL0] at HTA
  have HL0 := Aside0.mk hL0; clear hL0
  refine wp_loop_rounds 5 ?_
  rw [rounds_succ]
  have hw0 : wrap64 (p : Int) = (p : Int) := by unfold wrap64; omega
  have ht0 : (p : Int).toNat = p := by omega
  have hp0 : (0 ≤ (p : Int)) = True := eq_true (by omega)
  have hq0 : ((p : Int) < (a0.size : Int)) = True := eq_true (by omega)
  go_upto_region 6 with (fail)
  have hcell := HTA.out.drew.cell (p) (by omega)
  have hfro := HTA.out.drew.frozen (p) (by omega)
  have hbox := (blk_cell HTA.out.drew.box 0).trans rfl
  obtain ⟨x0, hx0⟩ : ∃ x : Int, x = L0 (p) := ⟨_, rfl⟩
  rw [← hx0] at hcell
  have HX0 := Aside0.mk hx0; clear hx0
  refine start_ (n := 16) (S := fun w' => w'.cell? ⟨gB, p, none⟩ = some (.int .u8 x0) ∧ w'.cell? ⟨gx, 0, none⟩ = some (.int .u8 b0)) (ds := [15]) #[false, false, false, false, false, false, false, false, false, false, false, false, false, false, false, false] (by kernel_rfl) rfl rfl ⟨hcell, hbox⟩ (fun hHeld => ?_)
  refine pure_ (i := 0) (N := some 22) (v := ?_) (a' := ?_) #[true, false, false, false, false, false, false, false, false, false, false, false, false, false, false, false] rfl rfl (by kernel_rfl) (fun _ _ _ h => h) (Or.inl ⟨by rfl, ?_⟩) ?_ ?_
  rotate_left
  · intro w'
    go_simp
    with_reducible rfl
  rotate_left
  · simp only [Act.put, List.setIfInBounds_toArray, List.set_cons_zero, List.set_cons_succ, i64_w, i32_w]
    rfl
  refine pure_ (i := 1) (N := some 23) (v := ?_) (a' := ?_) #[true, true, false, false, false, false, false, false, false, false, false, false, false, false, false, false] rfl rfl (by kernel_rfl) (fun _ _ _ h => h) (Or.inl ⟨by rfl, ?_⟩) ?_ ?_
  rotate_left
  · intro w'
    go_simp
    with_reducible rfl
  rotate_left
  · simp only [Act.put, List.setIfInBounds_toArray, List.set_cons_zero, List.set_cons_succ, i64_w, i32_w]
    rfl
  refine pure_ (i := 2) (N := some 24) (v := ?_) (a' := ?_) #[true, true, true, false, false, false, false, false, false, false, false, false, false, false, false, false] rfl rfl (by kernel_rfl) (fun _ _ _ h => h) (Or.inl ⟨by rfl, ?_⟩) ?_ ?_
  rotate_left
  · intro w'
    go_simp
    with_reducible rfl
  rotate_left
  · simp only [Act.put, List.setIfInBounds_toArray, List.set_cons_zero, List.set_cons_succ, i64_w, i32_w]
    rfl
  refine pure_ (i := 3) (N := some 25) (v := ?_) (a' := ?_) #[true, true, true, true, false, false, false, false, false, false, false, false, false, false, false, false] rfl rfl (by kernel_rfl) (fun _ _ _ h => h) (Or.inl ⟨by rfl, ?_⟩) ?_ ?_
  rotate_left
  · intro w'
    go_simp
    with_reducible rfl
  rotate_left
  · simp only [Act.put, List.setIfInBounds_toArray, List.set_cons_zero, List.set_cons_succ, i64_w, i32_w]
    rfl
  refine pure_ (i := 4) (N := some 26) (v := ?_) (a' := ?_) #[true, true, true, true, true, false, false, false, false, false, false, false, false, false, false, false] rfl rfl (by kernel_rfl) (fun _ _ _ h => h) (Or.inl ⟨by rfl, ?_⟩) ?_ ?_
  rotate_left
  · intro w'
    go_simp
    with_reducible rfl
  rotate_left
  · simp only [Act.put, List.setIfInBounds_toArray, List.set_cons_zero, List.set_cons_succ, i64_w, i32_w]
    rfl
  refine pure_ (i := 5) (N := some 27) (v := ?_) (a' := ?_) #[true, true, true, true, true, true, false, false, false, false, false, false, false, false, false, false] rfl rfl (by kernel_rfl) (fun _ _ _ h => h) (Or.inl ⟨by rfl, ?_⟩) ?_ ?_
  rotate_left
  · intro w'
    go_simp
    with_reducible rfl
  rotate_left
  · simp only [Act.put, List.setIfInBounds_toArray, List.set_cons_zero, List.set_cons_succ, i64_w, i32_w]
    rfl
  refine pure_ (i := 6) (N := some 28) (v := ?_) (a' := ?_) #[true, true, true, true, true, true, true, false, false, false, false, false, false, false, false, false] rfl rfl (by kernel_rfl) (fun _ _ _ h => h) (Or.inl ⟨by rfl, ?_⟩) ?_ ?_
  rotate_left
  · intro w'
    go_simp
    with_reducible rfl
  rotate_left
  · simp only [Act.put, List.setIfInBounds_toArray, List.set_cons_zero, List.set_cons_succ, i64_w, i32_w]
    rfl
  refine pure_ (i := 7) (N := some 29) (v := ?_) (a' := ?_) #[true, true, true, true, true, true, true, true, false, false, false, false, false, false, false, false] rfl rfl (by kernel_rfl) (fun _ _ _ h => h) (Or.inl ⟨by rfl, ?_⟩) ?_ ?_
  rotate_left
  · intro w'
    go_simp
    with_reducible rfl
  rotate_left
  · simp only [Act.put, List.setIfInBounds_toArray, List.set_cons_zero, List.set_cons_succ, i64_w, i32_w]
    rfl
  refine pure_ (i := 8) (N := some 30) (v := ?_) (a' := ?_) #[true, true, true, true, true, true, true, true, true, false, false, false, false, false, false, false] rfl rfl (by kernel_rfl) (fun _ _ _ h => h) (Or.inl ⟨by rfl, ?_⟩) ?_ ?_
  rotate_left
  · intro w'
    go_simp
    with_reducible rfl
  rotate_left
  · simp only [Act.put, List.setIfInBounds_toArray, List.set_cons_zero, List.set_cons_succ, i64_w, i32_w]
    rfl
  refine pure_ (i := 10) (N := some 32) (v := ?_) (a' := ?_) #[true, true, true, true, true, true, true, true, true, false, true, false, false, false, false, false] rfl rfl (by kernel_rfl) (fun _ _ _ h => h) (Or.inl ⟨by rfl, ?_⟩) ?_ ?_
  rotate_left
  · intro w'
    go_simp
    with_reducible rfl
  rotate_left
  · simp only [Act.put, List.setIfInBounds_toArray, List.set_cons_zero, List.set_cons_succ, i64_w, i32_w]
    rfl
  refine pure_ (i := 11) (N := some 33) (v := ?_) (a' := ?_) #[true, true, true, true, true, true, true, true, true, false, true, true, false, false, false, false] rfl rfl (by kernel_rfl) (fun _ _ _ h => h) (Or.inl ⟨by rfl, ?_⟩) ?_ ?_
  rotate_left
  · intro w'
    go_simp
    with_reducible rfl
  rotate_left
  · simp only [Act.put, List.setIfInBounds_toArray, List.set_cons_zero, List.set_cons_succ, i64_w, i32_w]
    rfl
  refine take_ (i := 9) (N := some 31) (v := ?_) (a' := ?_) #[true, true, true, true, true, true, true, true, true, true, true, true, false, false, false, false] rfl rfl (by kernel_rfl) (fun _ _ _ h => h) (Or.inl ⟨by rfl, ?_⟩) hHeld ?_ ?_
  rotate_left
  · rintro w' ⟨s0, s1⟩
    go_simp
    with_reducible rfl
  rotate_left
  · simp only [Act.put, List.setIfInBounds_toArray, List.set_cons_zero, List.set_cons_succ, i64_w, i32_w]
    rfl
  refine take_ (i := 12) (N := some 34) (v := ?_) (a' := ?_) #[true, true, true, true, true, true, true, true, true, true, true, true, true, false, false, false] rfl rfl (by kernel_rfl) (fun _ _ _ h => h) (Or.inl ⟨by rfl, ?_⟩) hHeld ?_ ?_
  rotate_left
  · rintro w' ⟨s0, s1⟩
    go_simp
    with_reducible rfl
  rotate_left
  · simp only [Act.put, List.setIfInBounds_toArray, List.set_cons_zero, List.set_cons_succ, i64_w, i32_w]
    rfl
  refine pure_ (i := 13) (N := some 35) (v := ?_) (a' := ?_) #[true, true, true, true, true, true, true, true, true, true, true, true, true, true, false, false] rfl rfl (by kernel_rfl) (fun _ _ _ h => h) (Or.inl ⟨by rfl, ?_⟩) ?_ ?_
  rotate_left
  · intro w'
    go_simp
    with_reducible rfl
  rotate_left
  · simp only [Act.put, List.setIfInBounds_toArray, List.set_cons_zero, List.set_cons_succ, i64_w, i32_w]
    rfl
  refine pure_ (i := 14) (N := some 36) (v := ?_) (a' := ?_) #[true, true, true, true, true, true, true, true, true, true, true, true, true, true, true, false] rfl rfl (by kernel_rfl) (fun _ _ _ h => h) (Or.inl ⟨by rfl, ?_⟩) ?_ ?_
  rotate_left
  · intro w'
    go_simp
    with_reducible rfl
  rotate_left
  · simp only [Act.put, List.setIfInBounds_toArray, List.set_cons_zero, List.set_cons_succ, i64_w, i32_w]
    rfl
  refine last_ (i := 15) (N := none) #[true, true, true, true, true, true, true, true, true, true, true, true, true, true, true, true] rfl rfl (by kernel_rfl) (by decide) (fun K hK => ?_)
  refine skip_ (w1 := ?_) (by rfl) rfl ?_ ?_
  rotate_left
  · go_simp
    rfl
  refine hK.out _ _ ?_
  clear hK K
  refine done_ (by kernel_rfl) ?_
  go_wp2
  replace HTA := Aside0.mk (TW.set HTA.out (p) (by omega) (Go.bits .xor .u8 x0 b0)).drew
  clear hcell hfro hbox hw0 ht0 hp0 hq0
  generalize ((W0.setCell ⟨gB, p, none⟩ (.int .u8 (Go.bits .xor .u8 x0 b0))).drew) = W1 at HTA ⊢
  obtain ⟨L1, hL1⟩ : ∃ L : Nat → Int, L = fun j => if j = p then Go.bits .xor .u8 x0 b0 else L0 j := ⟨_, rfl⟩
  rw [← hL1] at HTA
  have HL1 := Aside0.mk hL1; clear hL1
  rw [rounds_succ]
  have hw1 : wrap64 ((p : Int) + 1) = ((p : Int) + 1) := by unfold wrap64; omega
  have ht1 : ((p : Int) + 1).toNat = p + 1 := by omega
  have hp1 : (0 ≤ ((p : Int) + 1)) = True := eq_true (by omega)
  have hq1 : (((p : Int) + 1) < (a0.size : Int)) = True := eq_true (by omega)
  go_upto_region 6 with (fail)
  have hcell := HTA.out.drew.cell (p + 1) (by omega)
  have hfro := HTA.out.drew.frozen (p + 1) (by omega)
  have hbox := (blk_cell HTA.out.drew.box 1).trans rfl
  obtain ⟨x1, hx1⟩ : ∃ x : Int, x = L1 (p + 1) := ⟨_, rfl⟩
  rw [← hx1] at hcell
  have HX1 := Aside0.mk hx1; clear hx1
  refine start_ (n := 16) (S := fun w' => w'.cell? ⟨gB, p + 1, none⟩ = some (.int .u8 x1) ∧ w'.cell? ⟨gx, 1, none⟩ = some (.int .u8 b1)) (ds := [15]) #[false, false, false, false, false, false, false, false, false, false, false, false, false, false, false, false] (by kernel_rfl) rfl rfl ⟨hcell, hbox⟩ (fun hHeld => ?_)
  refine pure_ (i := 0) (N := some 22) (v := ?_) (a' := ?_) #[true, false, false, false, false, false, false, false, false, false, false, false, false, false, false, false] rfl rfl (by kernel_rfl) (fun _ _ _ h => h) (Or.inl ⟨by rfl, ?_⟩) ?_ ?_
  rotate_left
  · intro w'
    go_simp
    with_reducible rfl
  rotate_left
  · simp only [Act.put, List.setIfInBounds_toArray, List.set_cons_zero, List.set_cons_succ, i64_w, i32_w]
    rfl
  refine pure_ (i := 1) (N := some 23) (v := ?_) (a' := ?_) #[true, true, false, false, false, false, false, false, false, false, false, false, false, false, false, false] rfl rfl (by kernel_rfl) (fun _ _ _ h => h) (Or.inl ⟨by rfl, ?_⟩) ?_ ?_
  rotate_left
  · intro w'
    go_simp
    with_reducible rfl
  rotate_left
  · simp only [Act.put, List.setIfInBounds_toArray, List.set_cons_zero, List.set_cons_succ, i64_w, i32_w]
    rfl
  refine pure_ (i := 2) (N := some 24) (v := ?_) (a' := ?_) #[true, true, true, false, false, false, false, false, false, false, false, false, false, false, false, false] rfl rfl (by kernel_rfl) (fun _ _ _ h => h) (Or.inl ⟨by rfl, ?_⟩) ?_ ?_
  rotate_left
  · intro w'
    go_simp
    with_reducible rfl
  rotate_left
  · simp only [Act.put, List.setIfInBounds_toArray, List.set_cons_zero, List.set_cons_succ, i64_w, i32_w]
    rfl
  refine pure_ (i := 3) (N := some 25) (v := ?_) (a' := ?_) #[true, true, true, true, false, false, false, false, false, false, false, false, false, false, false, false] rfl rfl (by kernel_rfl) (fun _ _ _ h => h) (Or.inl ⟨by rfl, ?_⟩) ?_ ?_
  rotate_left
  · intro w'
    go_simp
    with_reducible rfl
  rotate_left
  · simp only [Act.put, List.setIfInBounds_toArray, List.set_cons_zero, List.set_cons_succ, i64_w, i32_w]
    rfl
  refine pure_ (i := 4) (N := some 26) (v := ?_) (a' := ?_) #[true, true, true, true, true, false, false, false, false, false, false, false, false, false, false, false] rfl rfl (by kernel_rfl) (fun _ _ _ h => h) (Or.inl ⟨by rfl, ?_⟩) ?_ ?_
  rotate_left
  · intro w'
    go_simp
    with_reducible rfl
  rotate_left
  · simp only [Act.put, List.setIfInBounds_toArray, List.set_cons_zero, List.set_cons_succ, i64_w, i32_w]
    rfl
  refine pure_ (i := 5) (N := some 27) (v := ?_) (a' := ?_) #[true, true, true, true, true, true, false, false, false, false, false, false, false, false, false, false] rfl rfl (by kernel_rfl) (fun _ _ _ h => h) (Or.inl ⟨by rfl, ?_⟩) ?_ ?_
  rotate_left
  · intro w'
    go_simp
    with_reducible rfl
  rotate_left
  · simp only [Act.put, List.setIfInBounds_toArray, List.set_cons_zero, List.set_cons_succ, i64_w, i32_w]
    rfl
  refine pure_ (i := 6) (N := some 28) (v := ?_) (a' := ?_) #[true, true, true, true, true, true, true, false, false, false, false, false, false, false, false, false] rfl rfl (by kernel_rfl) (fun _ _ _ h => h) (Or.inl ⟨by rfl, ?_⟩) ?_ ?_
  rotate_left
  · intro w'
    go_simp
    with_reducible rfl
  rotate_left
  · simp only [Act.put, List.setIfInBounds_toArray, List.set_cons_zero, List.set_cons_succ, i64_w, i32_w]
    rfl
  refine pure_ (i := 7) (N := some 29) (v := ?_) (a' := ?_) #[true, true, true, true, true, true, true, true, false, false, false, false, false, false, false, false] rfl rfl (by kernel_rfl) (fun _ _ _ h => h) (Or.inl ⟨by rfl, ?_⟩) ?_ ?_
  rotate_left
  · intro w'
    go_simp
    with_reducible rfl
  rotate_left
  · simp only [Act.put, List.setIfInBounds_toArray, List.set_cons_zero, List.set_cons_succ, i64_w, i32_w]
    rfl
  refine pure_ (i := 8) (N := some 30) (v := ?_) (a' := ?_) #[true, true, true, true, true, true, true, true, true, false, false, false, false, false, false, false] rfl rfl (by kernel_rfl) (fun _ _ _ h => h) (Or.inl ⟨by rfl, ?_⟩) ?_ ?_
  rotate_left
  · intro w'
    go_simp
    with_reducible rfl
  rotate_left
  · simp only [Act.put, List.setIfInBounds_toArray, List.set_cons_zero, List.set_cons_succ, i64_w, i32_w]
    rfl
  refine pure_ (i := 10) (N := some 32) (v := ?_) (a' := ?_) #[true, true, true, true, true, true, true, true, true, false, true, false, false, false, false, false] rfl rfl (by kernel_rfl) (fun _ _ _ h => h) (Or.inl ⟨by rfl, ?_⟩) ?_ ?_
  rotate_left
  · intro w'
    go_simp
    with_reducible rfl
  rotate_left
  · simp only [Act.put, List.setIfInBounds_toArray, List.set_cons_zero, List.set_cons_succ, i64_w, i32_w]
    rfl
  refine pure_ (i := 11) (N := some 33) (v := ?_) (a' := ?_) #[true, true, true, true, true, true, true, true, true, false, true, true, false, false, false, false] rfl rfl (by kernel_rfl) (fun _ _ _ h => h) (Or.inl ⟨by rfl, ?_⟩) ?_ ?_
  rotate_left
  · intro w'
    go_simp
    with_reducible rfl
  rotate_left
  · simp only [Act.put, List.setIfInBounds_toArray, List.set_cons_zero, List.set_cons_succ, i64_w, i32_w]
    rfl
  refine take_ (i := 9) (N := some 31) (v := ?_) (a' := ?_) #[true, true, true, true, true, true, true, true, true, true, true, true, false, false, false, false] rfl rfl (by kernel_rfl) (fun _ _ _ h => h) (Or.inl ⟨by rfl, ?_⟩) hHeld ?_ ?_
  rotate_left
  · rintro w' ⟨s0, s1⟩
    go_simp
    with_reducible rfl
  rotate_left
  · simp only [Act.put, List.setIfInBounds_toArray, List.set_cons_zero, List.set_cons_succ, i64_w, i32_w]
    rfl
  refine take_ (i := 12) (N := some 34) (v := ?_) (a' := ?_) #[true, true, true, true, true, true, true, true, true, true, true, true, true, false, false, false] rfl rfl (by kernel_rfl) (fun _ _ _ h => h) (Or.inl ⟨by rfl, ?_⟩) hHeld ?_ ?_
  rotate_left
  · rintro w' ⟨s0, s1⟩
    go_simp
    with_reducible rfl
  rotate_left
  · simp only [Act.put, List.setIfInBounds_toArray, List.set_cons_zero, List.set_cons_succ, i64_w, i32_w]
    rfl
  refine pure_ (i := 13) (N := some 35) (v := ?_) (a' := ?_) #[true, true, true, true, true, true, true, true, true, true, true, true, true, true, false, false] rfl rfl (by kernel_rfl) (fun _ _ _ h => h) (Or.inl ⟨by rfl, ?_⟩) ?_ ?_
  rotate_left
  · intro w'
    go_simp
    with_reducible rfl
  rotate_left
  · simp only [Act.put, List.setIfInBounds_toArray, List.set_cons_zero, List.set_cons_succ, i64_w, i32_w]
    rfl
  refine pure_ (i := 14) (N := some 36) (v := ?_) (a' := ?_) #[true, true, true, true, true, true, true, true, true, true, true, true, true, true, true, false] rfl rfl (by kernel_rfl) (fun _ _ _ h => h) (Or.inl ⟨by rfl, ?_⟩) ?_ ?_
  rotate_left
  · intro w'
    go_simp
    with_reducible rfl
  rotate_left
  · simp only [Act.put, List.setIfInBounds_toArray, List.set_cons_zero, List.set_cons_succ, i64_w, i32_w]
    rfl
  refine last_ (i := 15) (N := none) #[true, true, true, true, true, true, true, true, true, true, true, true, true, true, true, true] rfl rfl (by kernel_rfl) (by decide) (fun K hK => ?_)
  refine skip_ (w1 := ?_) (by rfl) rfl ?_ ?_
  rotate_left
  · go_simp
    rfl
  refine hK.out _ _ ?_
  clear hK K
  refine done_ (by kernel_rfl) ?_
  go_wp2
  replace HTA := Aside0.mk (TW.set HTA.out (p + 1) (by omega) (Go.bits .xor .u8 x1 b1)).drew
  clear hcell hfro hbox hw1 ht1 hp1 hq1
  generalize ((W1.setCell ⟨gB, p + 1, none⟩ (.int .u8 (Go.bits .xor .u8 x1 b1))).drew) = W2 at HTA ⊢
  obtain ⟨L2, hL2⟩ : ∃ L : Nat → Int, L = fun j => if j = p + 1 then Go.bits .xor .u8 x1 b1 else L1 j := ⟨_, rfl⟩
  rw [← hL2] at HTA
  have HL2 := Aside0.mk hL2; clear hL2
  rw [rounds_succ]
  have hw2 : wrap64 ((p : Int) + 2) = ((p : Int) + 2) := by unfold wrap64; omega
  have ht2 : ((p : Int) + 2).toNat = p + 2 := by omega
  have hp2 : (0 ≤ ((p : Int) + 2)) = True := eq_true (by omega)
  have hq2 : (((p : Int) + 2) < (a0.size : Int)) = True := eq_true (by omega)
  go_upto_region 6 with (fail)
  have hcell := HTA.out.drew.cell (p + 2) (by omega)
  have hfro := HTA.out.drew.frozen (p + 2) (by omega)
  have hbox := (blk_cell HTA.out.drew.box 2).trans rfl
  obtain ⟨x2, hx2⟩ : ∃ x : Int, x = L2 (p + 2) := ⟨_, rfl⟩
  rw [← hx2] at hcell
  have HX2 := Aside0.mk hx2; clear hx2
  refine start_ (n := 16) (S := fun w' => w'.cell? ⟨gB, p + 2, none⟩ = some (.int .u8 x2) ∧ w'.cell? ⟨gx, 2, none⟩ = some (.int .u8 b2)) (ds := [15]) #[false, false, false, false, false, false, false, false, false, false, false, false, false, false, false, false] (by kernel_rfl) rfl rfl ⟨hcell, hbox⟩ (fun hHeld => ?_)
  refine pure_ (i := 0) (N := some 22) (v := ?_) (a' := ?_) #[true, false, false, false, false, false, false, false, false, false, false, false, false, false, false, false] rfl rfl (by kernel_rfl) (fun _ _ _ h => h) (Or.inl ⟨by rfl, ?_⟩) ?_ ?_
  rotate_left
  · intro w'
    go_simp
    with_reducible rfl
  rotate_left
  · simp only [Act.put, List.setIfInBounds_toArray, List.set_cons_zero, List.set_cons_succ, i64_w, i32_w]
    rfl
  refine pure_ (i := 1) (N := some 23) (v := ?_) (a' := ?_) #[true, true, false, false, false, false, false, false, false, false, false, false, false, false, false, false] rfl rfl (by kernel_rfl) (fun _ _ _ h => h) (Or.inl ⟨by rfl, ?_⟩) ?_ ?_
  rotate_left
  · intro w'
    go_simp
    with_reducible rfl
  rotate_left
  · simp only [Act.put, List.setIfInBounds_toArray, List.set_cons_zero, List.set_cons_succ, i64_w, i32_w]
    rfl
  refine pure_ (i := 2) (N := some 24) (v := ?_) (a' := ?_) #[true, true, true, false, false, false, false, false, false, false, false, false, false, false, false, false] rfl rfl (by kernel_rfl) (fun _ _ _ h => h) (Or.inl ⟨by rfl, ?_⟩) ?_ ?_
  rotate_left
  · intro w'
    go_simp
    with_reducible rfl
  rotate_left
  · simp only [Act.put, List.setIfInBounds_toArray, List.set_cons_zero, List.set_cons_succ, i64_w, i32_w]
    rfl
  refine pure_ (i := 3) (N := some 25) (v := ?_) (a' := ?_) #[true, true, true, true, false, false, false, false, false, false, false, false, false, false, false, false] rfl rfl (by kernel_rfl) (fun _ _ _ h => h) (Or.inl ⟨by rfl, ?_⟩) ?_ ?_
  rotate_left
  · intro w'
    go_simp
    with_reducible rfl
  rotate_left
  · simp only [Act.put, List.setIfInBounds_toArray, List.set_cons_zero, List.set_cons_succ, i64_w, i32_w]
    rfl
  refine pure_ (i := 4) (N := some 26) (v := ?_) (a' := ?_) #[true, true, true, true, true, false, false, false, false, false, false, false, false, false, false, false] rfl rfl (by kernel_rfl) (fun _ _ _ h => h) (Or.inl ⟨by rfl, ?_⟩) ?_ ?_
  rotate_left
  · intro w'
    go_simp
    with_reducible rfl
  rotate_left
  · simp only [Act.put, List.setIfInBounds_toArray, List.set_cons_zero, List.set_cons_succ, i64_w, i32_w]
    rfl
  refine pure_ (i := 5) (N := some 27) (v := ?_) (a' := ?_) #[true, true, true, true, true, true, false, false, false, false, false, false, false, false, false, false] rfl rfl (by kernel_rfl) (fun _ _ _ h => h) (Or.inl ⟨by rfl, ?_⟩) ?_ ?_
  rotate_left
  · intro w'
    go_simp
    with_reducible rfl
  rotate_left
  · simp only [Act.put, List.setIfInBounds_toArray, List.set_cons_zero, List.set_cons_succ, i64_w, i32_w]
    rfl
  refine pure_ (i := 6) (N := some 28) (v := ?_) (a' := ?_) #[true, true, true, true, true, true, true, false, false, false, false, false, false, false, false, false] rfl rfl (by kernel_rfl) (fun _ _ _ h => h) (Or.inl ⟨by rfl, ?_⟩) ?_ ?_
  rotate_left
  · intro w'
    go_simp
    with_reducible rfl
  rotate_left
  · simp only [Act.put, List.setIfInBounds_toArray, List.set_cons_zero, List.set_cons_succ, i64_w, i32_w]
    rfl
  refine pure_ (i := 7) (N := some 29) (v := ?_) (a' := ?_) #[true, true, true, true, true, true, true, true, false, false, false, false, false, false, false, false] rfl rfl (by kernel_rfl) (fun _ _ _ h => h) (Or.inl ⟨by rfl, ?_⟩) ?_ ?_
  rotate_left
  · intro w'
    go_simp
    with_reducible rfl
  rotate_left
  · simp only [Act.put, List.setIfInBounds_toArray, List.set_cons_zero, List.set_cons_succ, i64_w, i32_w]
    rfl
  refine pure_ (i := 8) (N := some 30) (v := ?_) (a' := ?_) #[true, true, true, true, true, true, true, true, true, false, false, false, false, false, false, false] rfl rfl (by kernel_rfl) (fun _ _ _ h => h) (Or.inl ⟨by rfl, ?_⟩) ?_ ?_
  rotate_left
  · intro w'
    go_simp
    with_reducible rfl
  rotate_left
  · simp only [Act.put, List.setIfInBounds_toArray, List.set_cons_zero, List.set_cons_succ, i64_w, i32_w]
    rfl
  refine pure_ (i := 10) (N := some 32) (v := ?_) (a' := ?_) #[true, true, true, true, true, true, true, true, true, false, true, false, false, false, false, false] rfl rfl (by kernel_rfl) (fun _ _ _ h => h) (Or.inl ⟨by rfl, ?_⟩) ?_ ?_
  rotate_left
  · intro w'
    go_simp
    with_reducible rfl
  rotate_left
  · simp only [Act.put, List.setIfInBounds_toArray, List.set_cons_zero, List.set_cons_succ, i64_w, i32_w]
    rfl
  refine pure_ (i := 11) (N := some 33) (v := ?_) (a' := ?_) #[true, true, true, true, true, true, true, true, true, false, true, true, false, false, false, false] rfl rfl (by kernel_rfl) (fun _ _ _ h => h) (Or.inl ⟨by rfl, ?_⟩) ?_ ?_
  rotate_left
  · intro w'
    go_simp
    with_reducible rfl
  rotate_left
  · simp only [Act.put, List.setIfInBounds_toArray, List.set_cons_zero, List.set_cons_succ, i64_w, i32_w]
    rfl
  refine take_ (i := 9) (N := some 31) (v := ?_) (a' := ?_) #[true, true, true, true, true, true, true, true, true, true, true, true, false, false, false, false] rfl rfl (by kernel_rfl) (fun _ _ _ h => h) (Or.inl ⟨by rfl, ?_⟩) hHeld ?_ ?_
  rotate_left
  · rintro w' ⟨s0, s1⟩
    go_simp
    with_reducible rfl
  rotate_left
  · simp only [Act.put, List.setIfInBounds_toArray, List.set_cons_zero, List.set_cons_succ, i64_w, i32_w]
    rfl
  refine take_ (i := 12) (N := some 34) (v := ?_) (a' := ?_) #[true, true, true, true, true, true, true, true, true, true, true, true, true, false, false, false] rfl rfl (by kernel_rfl) (fun _ _ _ h => h) (Or.inl ⟨by rfl, ?_⟩) hHeld ?_ ?_
  rotate_left
  · rintro w' ⟨s0, s1⟩
    go_simp
    with_reducible rfl
  rotate_left
  · simp only [Act.put, List.setIfInBounds_toArray, List.set_cons_zero, List.set_cons_succ, i64_w, i32_w]
    rfl
  refine pure_ (i := 13) (N := some 35) (v := ?_) (a' := ?_) #[true, true, true, true, true, true, true, true, true, true, true, true, true, true, false, false] rfl rfl (by kernel_rfl) (fun _ _ _ h => h) (Or.inl ⟨by rfl, ?_⟩) ?_ ?_
  rotate_left
  · intro w'
    go_simp
    with_reducible rfl
  rotate_left
  · simp only [Act.put, List.setIfInBounds_toArray, List.set_cons_zero, List.set_cons_succ, i64_w, i32_w]
    rfl
  refine pure_ (i := 14) (N := some 36) (v := ?_) (a' := ?_) #[true, true, true, true, true, true, true, true, true, true, true, true, true, true, true, false] rfl rfl (by kernel_rfl) (fun _ _ _ h => h) (Or.inl ⟨by rfl, ?_⟩) ?_ ?_
  rotate_left
  · intro w'
    go_simp
    with_reducible rfl
  rotate_left
  · simp only [Act.put, List.setIfInBounds_toArray, List.set_cons_zero, List.set_cons_succ, i64_w, i32_w]
    rfl
  refine last_ (i := 15) (N := none) #[true, true, true, true, true, true, true, true, true, true, true, true, true, true, true, true] rfl rfl (by kernel_rfl) (by decide) (fun K hK => ?_)
  refine skip_ (w1 := ?_) (by rfl) rfl ?_ ?_
  rotate_left
  · go_simp
    rfl
  refine hK.out _ _ ?_
  clear hK K
  refine done_ (by kernel_rfl) ?_
  go_wp2
  replace HTA := Aside0.mk (TW.set HTA.out (p + 2) (by omega) (Go.bits .xor .u8 x2 b2)).drew
  clear hcell hfro hbox hw2 ht2 hp2 hq2
  generalize ((W2.setCell ⟨gB, p + 2, none⟩ (.int .u8 (Go.bits .xor .u8 x2 b2))).drew) = W3 at HTA ⊢
  obtain ⟨L3, hL3⟩ : ∃ L : Nat → Int, L = fun j => if j = p + 2 then Go.bits .xor .u8 x2 b2 else L2 j := ⟨_, rfl⟩
  rw [← hL3] at HTA
  have HL3 := Aside0.mk hL3; clear hL3
  rw [rounds_succ]
  have hw3 : wrap64 ((p : Int) + 3) = ((p : Int) + 3) := by unfold wrap64; omega
  have ht3 : ((p : Int) + 3).toNat = p + 3 := by omega
  have hp3 : (0 ≤ ((p : Int) + 3)) = True := eq_true (by omega)
  have hq3 : (((p : Int) + 3) < (a0.size : Int)) = True := eq_true (by omega)
  go_upto_region 6 with (fail)
  have hcell := HTA.out.drew.cell (p + 3) (by omega)
  have hfro := HTA.out.drew.frozen (p + 3) (by omega)
  have hbox := (blk_cell HTA.out.drew.box 3).trans rfl
  obtain ⟨x3, hx3⟩ : ∃ x : Int, x = L3 (p + 3) := ⟨_, rfl⟩
  rw [← hx3] at hcell
  have HX3 := Aside0.mk hx3; clear hx3
  refine start_ (n := 16) (S := fun w' => w'.cell? ⟨gB, p + 3, none⟩ = some (.int .u8 x3) ∧ w'.cell? ⟨gx, 3, none⟩ = some (.int .u8 b3)) (ds := [15]) #[false, false, false, false, false, false, false, false, false, false, false, false, false, false, false, false] (by kernel_rfl) rfl rfl ⟨hcell, hbox⟩ (fun hHeld => ?_)
  refine pure_ (i := 0) (N := some 22) (v := ?_) (a' := ?_) #[true, false, false, false, false, false, false, false, false, false, false, false, false, false, false, false] rfl rfl (by kernel_rfl) (fun _ _ _ h => h) (Or.inl ⟨by rfl, ?_⟩) ?_ ?_
  rotate_left
  · intro w'
    go_simp
    with_reducible rfl
  rotate_left
  · simp only [Act.put, List.setIfInBounds_toArray, List.set_cons_zero, List.set_cons_succ, i64_w, i32_w]
    rfl
  refine pure_ (i := 1) (N := some 23) (v := ?_) (a' := ?_) #[true, true, false, false, false, false, false, false, false, false, false, false, false, false, false, false] rfl rfl (by kernel_rfl) (fun _ _ _ h => h) (Or.inl ⟨by rfl, ?_⟩) ?_ ?_
  rotate_left
  · intro w'
    go_simp
    with_reducible rfl
  rotate_left
  · simp only [Act.put, List.setIfInBounds_toArray, List.set_cons_zero, List.set_cons_succ, i64_w, i32_w]
    rfl
  refine pure_ (i := 2) (N := some 24) (v := ?_) (a' := ?_) #[true, true, true, false, false, false, false, false, false, false, false, false, false, false, false, false] rfl rfl (by kernel_rfl) (fun _ _ _ h => h) (Or.inl ⟨by rfl, ?_⟩) ?_ ?_
  rotate_left
  · intro w'
    go_simp
    with_reducible rfl
  rotate_left
  · simp only [Act.put, List.setIfInBounds_toArray, List.set_cons_zero, List.set_cons_succ, i64_w, i32_w]
    rfl
  refine pure_ (i := 3) (N := some 25) (v := ?_) (a' := ?_) #[true, true, true, true, false, false, false, false, false, false, false, false, false, false, false, false] rfl rfl (by kernel_rfl) (fun _ _ _ h => h) (Or.inl ⟨by rfl, ?_⟩) ?_ ?_
  rotate_left
  · intro w'
    go_simp
    with_reducible rfl
  rotate_left
  · simp only [Act.put, List.setIfInBounds_toArray, List.set_cons_zero, List.set_cons_succ, i64_w, i32_w]
    rfl
  refine pure_ (i := 4) (N := some 26) (v := ?_) (a' := ?_) #[true, true, true, true, true, false, false, false, false, false, false, false, false, false, false, false] rfl rfl (by kernel_rfl) (fun _ _ _ h => h) (Or.inl ⟨by rfl, ?_⟩) ?_ ?_
  rotate_left
  · intro w'
    go_simp
    with_reducible rfl
  rotate_left
  · simp only [Act.put, List.setIfInBounds_toArray, List.set_cons_zero, List.set_cons_succ, i64_w, i32_w]
    rfl
  refine pure_ (i := 5) (N := some 27) (v := ?_) (a' := ?_) #[true, true, true, true, true, true, false, false, false, false, false, false, false, false, false, false] rfl rfl (by kernel_rfl) (fun _ _ _ h => h) (Or.inl ⟨by rfl, ?_⟩) ?_ ?_
  rotate_left
  · intro w'
    go_simp
    with_reducible rfl
  rotate_left
  · simp only [Act.put, List.setIfInBounds_toArray, List.set_cons_zero, List.set_cons_succ, i64_w, i32_w]
    rfl
  refine pure_ (i := 6) (N := some 28) (v := ?_) (a' := ?_) #[true, true, true, true, true, true, true, false, false, false, false, false, false, false, false, false] rfl rfl (by kernel_rfl) (fun _ _ _ h => h) (Or.inl ⟨by rfl, ?_⟩) ?_ ?_
  rotate_left
  · intro w'
    go_simp
    with_reducible rfl
  rotate_left
  · simp only [Act.put, List.setIfInBounds_toArray, List.set_cons_zero, List.set_cons_succ, i64_w, i32_w]
    rfl
  refine pure_ (i := 7) (N := some 29) (v := ?_) (a' := ?_) #[true, true, true, true, true, true, true, true, false, false, false, false, false, false, false, false] rfl rfl (by kernel_rfl) (fun _ _ _ h => h) (Or.inl ⟨by rfl, ?_⟩) ?_ ?_
  rotate_left
  · intro w'
    go_simp
    with_reducible rfl
  rotate_left
  · simp only [Act.put, List.setIfInBounds_toArray, List.set_cons_zero, List.set_cons_succ, i64_w, i32_w]
    rfl
  refine pure_ (i := 8) (N := some 30) (v := ?_) (a' := ?_) #[true, true, true, true, true, true, true, true, true, false, false, false, false, false, false, false] rfl rfl (by kernel_rfl) (fun _ _ _ h => h) (Or.inl ⟨by rfl, ?_⟩) ?_ ?_
  rotate_left
  · intro w'
    go_simp
    with_reducible rfl
  rotate_left
  · simp only [Act.put, List.setIfInBounds_toArray, List.set_cons_zero, List.set_cons_succ, i64_w, i32_w]
    rfl
  refine pure_ (i := 10) (N := some 32) (v := ?_) (a' := ?_) #[true, true, true, true, true, true, true, true, true, false, true, false, false, false, false, false] rfl rfl (by kernel_rfl) (fun _ _ _ h => h) (Or.inl ⟨by rfl, ?_⟩) ?_ ?_
  rotate_left
  · intro w'
    go_simp
    with_reducible rfl
  rotate_left
  · simp only [Act.put, List.setIfInBounds_toArray, List.set_cons_zero, List.set_cons_succ, i64_w, i32_w]
    rfl
  refine pure_ (i := 11) (N := some 33) (v := ?_) (a' := ?_) #[true, true, true, true, true, true, true, true, true, false, true, true, false, false, false, false] rfl rfl (by kernel_rfl) (fun _ _ _ h => h) (Or.inl ⟨by rfl, ?_⟩) ?_ ?_
  rotate_left
  · intro w'
    go_simp
    with_reducible rfl
  rotate_left
  · simp only [Act.put, List.setIfInBounds_toArray, List.set_cons_zero, List.set_cons_succ, i64_w, i32_w]
    rfl
  refine take_ (i := 9) (N := some 31) (v := ?_) (a' := ?_) #[true, true, true, true, true, true, true, true, true, true, true, true, false, false, false, false] rfl rfl (by kernel_rfl) (fun _ _ _ h => h) (Or.inl ⟨by rfl, ?_⟩) hHeld ?_ ?_
  rotate_left
  · rintro w' ⟨s0, s1⟩
    go_simp
    with_reducible rfl
  rotate_left
  · simp only [Act.put, List.setIfInBounds_toArray, List.set_cons_zero, List.set_cons_succ, i64_w, i32_w]
    rfl
  refine take_ (i := 12) (N := some 34) (v := ?_) (a' := ?_) #[true, true, true, true, true, true, true, true, true, true, true, true, true, false, false, false] rfl rfl (by kernel_rfl) (fun _ _ _ h => h) (Or.inl ⟨by rfl, ?_⟩) hHeld ?_ ?_
  rotate_left
  · rintro w' ⟨s0, s1⟩
    go_simp
    with_reducible rfl
  rotate_left
  · simp only [Act.put, List.setIfInBounds_toArray, List.set_cons_zero, List.set_cons_succ, i64_w, i32_w]
    rfl
  refine pure_ (i := 13) (N := some 35) (v := ?_) (a' := ?_) #[true, true, true, true, true, true, true, true, true, true, true, true, true, true, false, false] rfl rfl (by kernel_rfl) (fun _ _ _ h => h) (Or.inl ⟨by rfl, ?_⟩) ?_ ?_
  rotate_left
  · intro w'
    go_simp
    with_reducible rfl
  rotate_left
  · simp only [Act.put, List.setIfInBounds_toArray, List.set_cons_zero, List.set_cons_succ, i64_w, i32_w]
    rfl
  refine pure_ (i := 14) (N := some 36) (v := ?_) (a' := ?_) #[true, true, true, true, true, true, true, true, true, true, true, true, true, true, true, false] rfl rfl (by kernel_rfl) (fun _ _ _ h => h) (Or.inl ⟨by rfl, ?_⟩) ?_ ?_
  rotate_left
  · intro w'
    go_simp
    with_reducible rfl
  rotate_left
  · simp only [Act.put, List.setIfInBounds_toArray, List.set_cons_zero, List.set_cons_succ, i64_w, i32_w]
    rfl
  refine last_ (i := 15) (N := none) #[true, true, true, true, true, true, true, true, true, true, true, true, true, true, true, true] rfl rfl (by kernel_rfl) (by decide) (fun K hK => ?_)
  refine skip_ (w1 := ?_) (by rfl) rfl ?_ ?_
  rotate_left
  · go_simp
    rfl
  refine hK.out _ _ ?_
  clear hK K
  refine done_ (by kernel_rfl) ?_
  go_wp2
  replace HTA := Aside0.mk (TW.set HTA.out (p + 3) (by omega) (Go.bits .xor .u8 x3 b3)).drew
  clear hcell hfro hbox hw3 ht3 hp3 hq3
  generalize ((W3.setCell ⟨gB, p + 3, none⟩ (.int .u8 (Go.bits .xor .u8 x3 b3))).drew) = W4 at HTA ⊢
  obtain ⟨L4, hL4⟩ : ∃ L : Nat → Int, L = fun j => if j = p + 3 then Go.bits .xor .u8 x3 b3 else L3 j := ⟨_, rfl⟩
  rw [← hL4] at HTA
  have HL4 := Aside0.mk hL4; clear hL4
  rw [rounds_succ]
  have hback := TW.back (p := p) cp HTA.out (fun j hj => by
    have d1 : p + 1 ≠ p := by omega
    have d2 : p + 2 ≠ p := by omega
    have d3 : p + 3 ≠ p := by omega
    have d4 : p + 2 ≠ p + 1 := by omega
    have d5 : p + 3 ≠ p + 1 := by omega
    have d6 : p + 3 ≠ p + 2 := by omega
    simp only [HL4.out, HX3.out, HL3.out, HX2.out, HL2.out, HX1.out, HL1.out, HX0.out, HL0.out, if_neg d1, if_neg d2, if_neg d3, if_neg d4, if_neg d5, if_neg d6]
    unfold turnV
    repeat' split
    all_goals first | rfl | (subst_vars; rfl) | omega)
  go_wp2

  go_ret
  refine ⟨?_, HTA.out.below⟩
  rw [← HR.out, hp', Int.toNat_natCast]
  rfl


end Go.Proofs.YtapjhgenjghfbaaDoor.HSumTells

/- For Go functions that RowcodeKeys reaches: Lean functions, and walks that show that each call comes to what its Lean function tells; no condition but those that each theorem states. (Made by a program of this session over the kit's print.py.) -/
import Derived.Test.YtdeophpjammbpaaDoorHRowcodeKeysx0
import Derived.Test.YtdeophpjammbpaaDoorHRowcodeKeysx3
import Derived.Test.YtdeophpjammbpaaDoorHRowcodeKeysx4
import Derived.Test.YtdeophpjammbpaaDoorHRowcodeKeysx14
namespace Go.Proofs.YtdeophpjammbpaaDoor.HRowcodeKeys
open Go.RowKit Go.Proofs.YtdeophpjammbpaaDoorW.PrintWords Go.Proofs.YtdeophpjammbpaaDoorW.PrintLast Go.Proofs.YtdeophpjammbpaaDoorW.PrintMore
attribute [local go_sem] max2_int min2_int max_two min_two max_three min_three max_four min_four   -- for this text's walks alone
set_option linter.unusedVariables false
set_option linter.unusedSimpArgs false
attribute [local go_sem] hp_s8 hp_s16 hp_s32 hp_s64 hp_m8 hp_m16 hp_m32 hp_m64
/-- A state of type 112 at block g of W; what its slices lead to came in by w0. -/
def IsS112 (w0 W : World) (g : Nat) (f0 : ByteArray) : Prop := W.heap[g]? = some (.cells #[.string f0] 112 (0, 0)) ∧ w0.heap.size ≤ g
theorem IsS112.grown {w0 W : World} {g : Nat} {f0 : ByteArray} {W1 : World} {row : Option Nat} (h : IsS112 w0 W g f0) (hw : W.grownBy W1 row) (hne : some g ≠ row) : IsS112 w0 W1 g f0 := by
 obtain ⟨hb, hg⟩ := h
 exact ⟨blk_grown hb hw hne, hg⟩
theorem IsS112.own_neN {w0 W : World} {g : Nat} {f0 : ByteArray} {α : Type} {d : Kd α} {e : Nat} {base : Nat} {ok : Nat → Prop} {v : Value} {xs : List α} (h : IsS112 w0 W g f0) (ho : Kd.N d e W base ok v xs) (ht : e ≠ 112) : some g ≠ v.ownBlock := by
 obtain ⟨hb, hg⟩ := h
 exact Kd.N_ne ho hb ht
theorem IsS112.fresh {w0 W : World} {g : Nat} {f0 : ByteArray} (h : IsS112 w0 W g f0) : ∀ k, W.heap.size ≤ k → k ≠ g := by
 obtain ⟨hb, hg⟩ := h
 exact Kd.freshB hb
theorem IsS112.kept {w0 W : World} {g : Nat} {f0 : ByteArray} {W1 : World} {S : Nat → Prop} (h : IsS112 w0 W g f0) (hk : Kept W W1 S) (hne : ¬ S g) : IsS112 w0 W1 g f0 := by
 obtain ⟨hb, hg⟩ := h
 exact ⟨blk_kept hb hk hne, hg⟩
theorem IsS112.below {w0 W : World} {g : Nat} {f0 : ByteArray} {W1 : World} (h : IsS112 w0 W g f0) (hw : Below W.heap.size W W1) : IsS112 w0 W1 g f0 := h.grown (grown_of_below hw none) (by simp)
theorem IsS112.alloc {w0 W : World} {g : Nat} {f0 : ByteArray} (h : IsS112 w0 W g f0) (o : Obj) : IsS112 w0 (W.alloc o) g f0 := h.below (bA (Below.refl _ _) o)
theorem IsS112.drewN {w0 W : World} {g : Nat} {f0 : ByteArray} (h : IsS112 w0 W g f0) (m : Nat) : IsS112 w0 (W.drewN m) g f0 := h
theorem IsS112.drew {w0 W : World} {g : Nat} {f0 : ByteArray} (h : IsS112 w0 W g f0) : IsS112 w0 W.drew g f0 := h
theorem IsS112.at_ {w0 W : World} {g : Nat} {f0 : ByteArray} {w' : World} {m : Nat} (hq : W.drewN m = w') (h : IsS112 w0 W g f0) : IsS112 w0 w' g f0 := by subst hq; exact IsS112.drewN h m
theorem IsS112.apart {w0 W : World} {g : Nat} {f0 : ByteArray} {α : Type} {d : Kd α} {e : Nat} {base : Nat} {ok : Nat → Prop} {v : Value} {xs : List α} (h : IsS112 w0 W g f0) (ho : d.R e W base ok v xs) (ht : ∀ q, q ∈ e :: d.E → q ≠ 112) : d.R e W base (fun k => ok k ∧ k ≠ g) v xs := by
 obtain ⟨hb, hg⟩ := h
 exact Kd.R_types ho hb ht
theorem IsS112.own_ne {w0 W : World} {g : Nat} {f0 : ByteArray} {α : Type} {d : Kd α} {e : Nat} {base : Nat} {ok : Nat → Prop} {v : Value} {xs : List α} (h : IsS112 w0 W g f0) (ho : d.R e W base ok v xs) (ht : e ≠ 112) : some g ≠ v.ownBlock := by
 obtain ⟨hb, hg⟩ := h
 exact Kd.R_ne ho hb ht
theorem IsS112.apartQ {w0 W : World} {g : Nat} {f0 : ByteArray} {α : Type} {d : Kd α} {e : Nat} {base : Nat} {ok : Nat → Prop} {v : Value} {xs : List α} (h : IsS112 w0 W g f0) (ho : d.Q e W base ok v xs) (ht : ∀ q, q ∈ e :: d.E → q ≠ 112) : d.Q e W base (fun k => ok k ∧ k ≠ g) v xs := by
 obtain ⟨hb, hg⟩ := h
 exact Kd.Q_types ho hb ht
theorem IsS112.own_neQ {w0 W : World} {g : Nat} {f0 : ByteArray} {α : Type} {d : Kd α} {e : Nat} {base : Nat} {ok : Nat → Prop} {v : Value} {xs : List α} (h : IsS112 w0 W g f0) (ho : d.Q e W base ok v xs) (ht : e ≠ 112) : some g ≠ v.ownBlock := by
 obtain ⟨hb, hg⟩ := h
 exact Kd.Q_ne ho hb ht
theorem IsS112.apartS {w0 W : World} {g : Nat} {f0 : ByteArray} {α : Type} {d : Kd α} {e : Nat} {base : Nat} {ok : Nat → Prop} {v : Value} {xs : List α} (h : IsS112 w0 W g f0) (ho : d.S e W base ok v xs) (ht : ∀ q, q ∈ e :: d.E → q ≠ 112) : d.S e W base (fun k => ok k ∧ k ≠ g) v xs := by
 obtain ⟨hb, hg⟩ := h
 exact Kd.S_types ho hb ht
theorem IsS112.own_neS {w0 W : World} {g : Nat} {f0 : ByteArray} {α : Type} {d : Kd α} {e : Nat} {base : Nat} {ok : Nat → Prop} {v : Value} {xs : List α} (h : IsS112 w0 W g f0) (ho : d.S e W base ok v xs) (ht : e ≠ 112) : some g ≠ v.ownBlock := by
 obtain ⟨hb, hg⟩ := h
 exact Kd.S_ne ho hb ht
theorem IsS112.lt {w0 W : World} {g : Nat} {f0 : ByteArray} (h : IsS112 w0 W g f0) : g < W.heap.size := by
 obtain ⟨hb, hg⟩ := h
 exact blk_lt hb
theorem IsS112.ge {w0 W : World} {g : Nat} {f0 : ByteArray} (h : IsS112 w0 W g f0) : w0.heap.size ≤ g := by
 obtain ⟨hb, hg⟩ := h
 exact hg
theorem IsS112.ne_blk {w0 W : World} {g : Nat} {f0 : ByteArray} {a : Nat} {cs : Array Value} {t : TypeId} {fr : Nat × Nat} (h : IsS112 w0 W g f0) (hb2 : W.heap[a]? = some (.cells cs t fr)) (ht : t ≠ 112) : g ≠ a := by
 obtain ⟨hb, hg⟩ := h
 rintro rfl
 rw [hb] at hb2
 injection hb2 with hb2
 injection hb2 with _ ht2
 exact ht ht2.symm
theorem IsS112.far {w0 W : World} {g : Nat} {f0 : ByteArray} {p : Addr} (h : IsS112 w0 W g f0) (hne : g ≠ p.block) (u : Value) : IsS112 w0 (W.setCell p u) g f0 := by
 obtain ⟨hb, hg⟩ := h
 exact ⟨kF hb hne u, hg⟩
theorem cellS112_0 {W : World} {g : Nat} {f0 : ByteArray} (h : W.heap[g]? = some (.cells #[.string f0] 112 (0, 0))) : W.cell? ⟨g, 0, none⟩ = some (.string f0) := (blk_cell h 0).trans rfl
theorem IsS112.set_0 {w0 W : World} {g : Nat} {f0 : ByteArray} (h : IsS112 w0 W g f0) (x : ByteArray) : IsS112 w0 (W.setCell ⟨g, 0, none⟩ (.string x)) g x := by
 obtain ⟨hb, hg⟩ := h
 exact ⟨by simpa using blk_set hb 0 (.string x), hg⟩
theorem IsS112.new (w0 W : World) (f0 : ByteArray) (hB : Below w0.heap.size w0 W) : IsS112 w0 (W.alloc (.cells #[.string f0] 112)) W.heap.size f0 := ⟨by simpa using heap_alloc_new W _, hB.size⟩
theorem IsS112.box {w0 W : World} {g : Nat} {f0 : ByteArray} (h : Aside0 (IsS112 w0 W g f0)) : Aside0 (W.heap[g]? = some (.cells #[.string f0] 112 (0, 0))) := ⟨h.out.1⟩
/-! ### rowcode_reader_value: function 84 -/
def rowcode_reader_value.j0 : Nat → Int → Bool → ByteArray → Int → Int → Int → Int → ByteArray → Option (Int × Int × ByteArray × Int × ByteArray)
 | 0, _, _, _, _, _, _, _, _ => none
 | k + 1, x6, x42, x1000, x303000, x303001, x308000, x308001, x308002 => if x42 = true then ((word_Zag.f x6).bind fun t308 => ((typ_Fits.f k x303000 x303001 x308000 t308 x308002).bind fun t309 => (if t309 = true then (some (x308000, t308, x308002, 0, x1000)) else (some (0, 0, (⟨#[]⟩ : ByteArray), 10, x1000))))) else (if x6 > (IntKind.u64.wrap (x303001)) then (some (0, 0, (⟨#[]⟩ : ByteArray), 10, x1000)) else (if x6 > (IntKind.u64.wrap ((x1000.size : Int))) then (some (0, 0, (⟨#[]⟩ : ByteArray), 4, x1000)) else (if 0 ≤ x6 then (if x6 ≤ (x1000.size : Int) then (if x303000 = 3 then ((utf_Right.f k (x1000.extract 0 (x6 : Int).toNat)).bind fun t310 => (if t310 = true then (some (x308000, x308001, x1000.extract 0 (x6 : Int).toNat, 0, x1000.extract (x6 : Int).toNat x1000.size)) else (some (0, 0, (⟨#[]⟩ : ByteArray), 5, x1000.extract (x6 : Int).toNat x1000.size)))) else (some (x308000, x308001, x1000.extract 0 (x6 : Int).toNat, 0, x1000.extract (x6 : Int).toNat x1000.size))) else (none)) else (none))))
def rowcode_reader_value.f (k : Nat) (s0_0 : ByteArray) (a1_0 : Int) (a1_1 : Int) : Option (Int × Int × ByteArray × Int × ByteArray) := (word_Long.f k s0_0).bind fun bt304 => (if bt304.2.2 = 0 then (if 0 ≤ bt304.2.1 then (if bt304.2.1 ≤ (s0_0.size : Int) then (if a1_0 = 1 then (rowcode_reader_value.j0 k bt304.1 true (s0_0.extract (bt304.2.1 : Int).toNat s0_0.size) a1_0 a1_1 a1_0 0 (⟨#[]⟩ : ByteArray)) else (rowcode_reader_value.j0 k bt304.1 (a1_0 == 2) (s0_0.extract (bt304.2.1 : Int).toNat s0_0.size) a1_0 a1_1 a1_0 0 (⟨#[]⟩ : ByteArray))) else (none)) else (none)) else (some (0, 0, (⟨#[]⟩ : ByteArray), bt304.2.2, s0_0)))
theorem rowcode_reader_value.mono_l : ∀ k, (∀ y0 y1 y2 y3 y4 y5 y6 y7, LeO (rowcode_reader_value.j0 k y0 y1 y2 y3 y4 y5 y6 y7) (rowcode_reader_value.j0 (k + 1) y0 y1 y2 y3 y4 y5 y6 y7))
 | 0 => fun _ _ _ _ _ _ _ _ r h => by simp [rowcode_reader_value.j0] at h
 | k + 1 => by
  have ih0 := rowcode_reader_value.mono_l k
  ·
   intro y0 y1 y2 y3 y4 y5 y6 y7
   unfold rowcode_reader_value.j0
   repeat' first
   | (with_reducible exact ih0 _ _ _ _ _ _ _ _)
   | (with_reducible exact typ_Fits.mono _ _ _ _ _ _)
   | (with_reducible exact utf_Right.mono _ _)
   | (with_reducible exact word_Long.mono _ _)
   | (with_reducible exact LeO.refl _)
   | (with_reducible exact LeO.none _)
   | (with_reducible refine LeO.ite ?_ ?_)
   | (with_reducible refine LeO.bind ?_ (fun _ => ?_))
   | exact ih0 _ _ _ _ _ _ _ _
   | exact typ_Fits.mono _ _ _ _ _ _
   | exact utf_Right.mono _ _
   | exact word_Long.mono _ _
   | exact LeO.none _
   | refine LeO.ite ?_ ?_
   | refine LeO.bind ?_ (fun _ => ?_)
theorem rowcode_reader_value.mono : ∀ a0 a1 a2 k, LeO (rowcode_reader_value.f k a0 a1 a2) (rowcode_reader_value.f (k + 1) a0 a1 a2) := by
 intro a0 a1 a2 k
 have ih0 := rowcode_reader_value.mono_l k
 unfold rowcode_reader_value.f
 repeat' first | with_reducible (first | exact ih0 .. | exact typ_Fits.mono .. | exact utf_Right.mono .. | exact word_Long.mono .. | exact LeO.refl .. | exact LeO.none .. | refine LeO.ite ?_ ?_ | refine LeO.bind ?_ (fun _ => ?_)) | exact ih0 .. | exact typ_Fits.mono .. | exact utf_Right.mono .. | exact word_Long.mono .. | exact LeO.none .. | refine LeO.ite ?_ ?_ | refine LeO.bind ?_ (fun _ => ?_)
def rowcode_reader_value.T15 : Bool × List (List Nat × List Nat) := (true, [([], []), ([], []), ([1], [1]), ([2], [2]), ([3], [3]), ([], []), ([4, 5], [4, 5]), ([], []), ([7], [7]), ([8], [8]), ([9], [9]), ([], []), ([10, 11], [10, 11]), ([1, 2, 3, 4, 5, 6], []), ([13, 6, 1, 2, 3, 4, 5, 6], [6, 13]), ([0, 0, 1, 2, 3, 4, 5, 6, 7, 8, 9, 10, 11, 12, 13, 14], [0]), ([15, 0, 1, 2, 3, 4, 5, 6, 7, 8, 9, 10, 11, 12, 13, 14], [15]), ([16, 12, 14, 0, 1, 2, 3, 4, 5, 6, 7, 8, 9, 10, 11, 12, 13, 14], [12, 16])])
def rowcode_reader_value.B15 : List Nat := [0, 0, 2, 6, 14, 0, 62, 0, 128, 384, 896, 0, 3968, 126, 8318, 32767, 65535, 131071]
theorem rowcode_reader_value.tab15 : rtab .any (opsOf Tryd.f84 15) = rowcode_reader_value.T15 := by kernel_rfl
theorem rowcode_reader_value.bits15 : waitsOk rowcode_reader_value.T15.2 rowcode_reader_value.B15 = true := by kernel_rfl
set_option maxHeartbeats 8000000 in
set_option maxRecDepth 100000 in
theorem rowcode_reader_value.calls (k : Nat) (g : Nat) (s0_0 : ByteArray) (a1_0 : Int) (a1_1 : Int) (r1 : Int) (r2 : Int) (r3 : ByteArray) (r4 : Int) (r5 : ByteArray) (w0 w : World) (hI : IsS112 w0 w g s0_0) (hB : Below w0.heap.size w0 w) (hG : Glob w0) (h : rowcode_reader_value.f k s0_0 a1_0 a1_1 = some (r1, r2, r3, r4, r5)) :
  Calls Tryd.prog 84 #[.pointer (some ⟨g, 0, none⟩), .agg #[.int .i64 a1_0, .int .i64 a1_1]] w fun e w' => e = .returned (.tuple #[.agg #[.int .i64 r1, .int .i64 r2, .string r3], .int .i64 r4]) ∧ IsS112 w0 w' g r5 ∧ Below w0.heap.size w0 w' ∧ KeepBut w w' g none := by
 have hu50 := Tryd.underlying50
 have hu52 := Tryd.underlying52
 have HG := aM hG
 clear hG
 have HI0 := aM hI
 have HK := aM (KeepBut.refl w g none)
 have HL := aM hB.size
 clear hI
 have HW0 := aM hB.size
 have HB := aM hB
 clear hB
 have H : ((word_Long.f k s0_0).bind fun bt304 => (if bt304.2.2 = 0 then (if 0 ≤ bt304.2.1 then (if bt304.2.1 ≤ (s0_0.size : Int) then (if a1_0 = 1 then (rowcode_reader_value.j0 k bt304.1 true (s0_0.extract (bt304.2.1 : Int).toNat s0_0.size) a1_0 a1_1 a1_0 0 (⟨#[]⟩ : ByteArray)) else (rowcode_reader_value.j0 k bt304.1 (a1_0 == 2) (s0_0.extract (bt304.2.1 : Int).toNat s0_0.size) a1_0 a1_1 a1_0 0 (⟨#[]⟩ : ByteArray))) else (none)) else (none)) else (some (0, 0, (⟨#[]⟩ : ByteArray), bt304.2.2, s0_0)))) = some (r1, r2, r3, r4, r5) := h
 clear h
 obtain ⟨⟨t304, t305, t306⟩, A3, H⟩ := yb H
 try dsimp -simprocs only at H
 by_cases c4 : t306 = 0
 ·
  rw [if_pos c4] at H
  have c4b0 : (t306 == 0) = true := beq_iff_eq.mpr c4
  have c4b1 : (t306 != 0) = false := bne_eq_false_iff_eq.mpr c4
  clear c4
  by_cases c5 : 0 ≤ t305
  ·
   rw [if_pos c5] at H
   have c5b0 := eq_true c5
   have c5b1 : decide (0 ≤ t305) = true := decide_eq_true c5
   clear c5
   by_cases c6 : t305 ≤ (s0_0.size : Int)
   ·
    rw [if_pos c6] at H
    have c6b0 := eq_true c6
    have c6b1 : decide (t305 ≤ (s0_0.size : Int)) = true := decide_eq_true c6
    clear c6
    have HC7 := aM H
    clear H
    go_enter Tryd.func84, Tryd.ntmps84
    go_upto_region 6 with (first | ((with_reducible refine gate_dst (N := 3) rfl ?_); refine yX (N := 3) (cs := #[.int .i64 a1_0, .int .i64 a1_1]) (t := 50) ?_; intro gb302 hg w8 hbox hb; replace HB := aM (bP (yG1 HB (IsS112.ge HI0.out)) hb); have BK302 := aM (hbox); have GW302 := aM ((by rw [hg]; exact (keep_size (w := w) (g := g) (row := none) (by repeat (first | (with_reducible first | exact HK.out | apply KeepBut.set_ | apply keep_drewN | apply keep_drew | apply keep_alloc) | exact HK.out))) : w.heap.size ≤ gb302)); have GE302 := aM ((Nat.le_trans HW0.out (by rw [hg]; exact (keep_size (w := w) (g := g) (row := none) (by repeat (first | (with_reducible first | exact HK.out | apply KeepBut.set_ | apply keep_drewN | apply keep_drew | apply keep_alloc) | exact HK.out))) : w.heap.size ≤ gb302) : w0.heap.size ≤ gb302)); replace HK := aM (KeepBut.trans (by repeat (first | (with_reducible first | exact HK.out | apply KeepBut.set_ | apply keep_drewN | apply keep_drew | apply keep_alloc) | exact HK.out)) (KeepBut.of_below hb g none) (.inl rfl)); have NB0_302 := aM ((by rw [hg]; exact Nat.ne_of_lt (IsS112.lt (show IsS112 w0 _ g s0_0 from by repeat (first | (with_reducible first | exact HI0.out | apply IsS112.alloc | apply IsS112.drewN | apply IsS112.drew | apply IsS112.set_0) | exact HI0.out))) : g ≠ gb302)); have NB302_0 := aM ((by rw [hg]; exact Nat.ne_of_gt (IsS112.lt (show IsS112 w0 _ g s0_0 from by repeat (first | (with_reducible first | exact HI0.out | apply IsS112.alloc | apply IsS112.drewN | apply IsS112.drew | apply IsS112.set_0) | exact HI0.out))) : gb302 ≠ g)); replace HI0 := aM (IsS112.below (by repeat (first | (with_reducible first | exact HI0.out | apply IsS112.alloc | apply IsS112.drewN | apply IsS112.drew | apply IsS112.set_0) | exact HI0.out)) hb); clear hb hbox hg) | ((with_reducible refine gate_dst (N := 4) rfl ?_); refine yX (N := 4) (cs := #[.int .i64 0, .int .i64 0, .string (⟨#[]⟩ : ByteArray)]) (t := 52) ?_; intro gb303 hg w9 hbox hb; replace HB := aM (bP (yG2 HB (IsS112.ge HI0.out) GE302.out) hb); have BK303 := aM (hbox); have GW303 := aM ((by rw [hg]; exact (keep_size (w := w) (g := g) (row := none) (by repeat (first | (with_reducible first | exact HK.out | apply KeepBut.set_ | apply keep_drewN | apply keep_drew | apply keep_alloc | refine keep_far ?_ GW302.out _) | exact HK.out))) : w.heap.size ≤ gb303)); have GE303 := aM ((Nat.le_trans HW0.out (by rw [hg]; exact (keep_size (w := w) (g := g) (row := none) (by repeat (first | (with_reducible first | exact HK.out | apply KeepBut.set_ | apply keep_drewN | apply keep_drew | apply keep_alloc | refine keep_far ?_ GW302.out _) | exact HK.out))) : w.heap.size ≤ gb303) : w0.heap.size ≤ gb303)); replace HK := aM (KeepBut.trans (by repeat (first | (with_reducible first | exact HK.out | apply KeepBut.set_ | apply keep_drewN | apply keep_drew | apply keep_alloc | refine keep_far ?_ GW302.out _) | exact HK.out)) (KeepBut.of_below hb g none) (.inl rfl)); have NB302_303 := yN hg (yK BK302); have NB303_302 := yM hg (yK BK302); replace BK302 := aM (kB (yK BK302) hb); have NB0_303 := aM ((by rw [hg]; exact Nat.ne_of_lt (IsS112.lt (show IsS112 w0 _ g s0_0 from by repeat (first | (with_reducible first | exact HI0.out | apply IsS112.alloc | apply IsS112.drewN | apply IsS112.drew | apply IsS112.set_0 | apply IsS112.far (hne := NB0_302.out)) | exact HI0.out))) : g ≠ gb303)); have NB303_0 := aM ((by rw [hg]; exact Nat.ne_of_gt (IsS112.lt (show IsS112 w0 _ g s0_0 from by repeat (first | (with_reducible first | exact HI0.out | apply IsS112.alloc | apply IsS112.drewN | apply IsS112.drew | apply IsS112.set_0 | apply IsS112.far (hne := NB0_302.out)) | exact HI0.out))) : gb303 ≠ g)); replace HI0 := aM (IsS112.below (by repeat (first | (with_reducible first | exact HI0.out | apply IsS112.alloc | apply IsS112.drewN | apply IsS112.drew | apply IsS112.set_0 | apply IsS112.far (hne := NB0_302.out)) | exact HI0.out)) hb); clear hb hbox hg; obtain ⟨HGz10, hgz10⟩ := HI0.out; have hcz10_0 := cellS112_0 HGz10; have hfz10_0 := blk_frozen HGz10 0; clear HGz10 hgz10) | ((with_reducible refine gate_callee (f := 99) rfl ?_); refine yC 15 Tryd.func99 #[.string s0_0] rfl ?_; (with_reducible refine (word_Long.calls k s0_0 t304 t305 t306 _ A3.out).mono ?_); rintro e w' ⟨rfl, ⟨nd, rfl⟩⟩; refine ⟨_, rfl, ?_⟩; (try (rw [drewN_self w9]; generalize hq_ : World.drewN w9 _ = w9; have n0_ : Aside0 (w9.heap[gb302]? = some (.cells #[.int .i64 a1_0, .int .i64 a1_1] 50 (0, 0))) := ⟨by rw [← hq_]; exact (yK BK302)⟩; have n1_ : Aside0 (w9.heap[gb303]? = some (.cells #[.int .i64 0, .int .i64 0, .string (⟨#[]⟩ : ByteArray)] 52 (0, 0))) := ⟨by rw [← hq_]; exact (yK BK303)⟩; have n2_ : Aside0 (IsS112 w0 w9 g s0_0) := ⟨by rw [← hq_]; exact (by repeat (first | (with_reducible first | exact HI0.out | apply IsS112.alloc | apply IsS112.drewN | apply IsS112.drew | apply IsS112.set_0 | apply IsS112.far (hne := NB0_302.out) | apply IsS112.far (hne := NB0_303.out)) | exact HI0.out))⟩; have n3_ : Aside0 (KeepBut w w9 g none) := ⟨by rw [← hq_]; exact (by repeat (first | (with_reducible first | exact HK.out | apply KeepBut.set_ | apply keep_drewN | apply keep_drew | apply keep_alloc | refine keep_far ?_ GW302.out _ | refine keep_far ?_ GW303.out _) | exact HK.out))⟩; have n4_ : Aside0 (Below w0.heap.size w0 w9) := ⟨by rw [← hq_]; exact (yG3 HB (IsS112.ge HI0.out) GE302.out GE303.out)⟩; clear BK302 BK303 HI0 HK HB hq_; have BK302 := n0_; have BK303 := n1_; have HI0 := n2_; have HK := n3_; have HB := n4_; clear n0_ n1_ n2_ n3_ n4_)); obtain ⟨HGm, hgm⟩ := HI0.out; have hczm0_0 := cellS112_0 HGm; have hfzm0_0 := blk_frozen HGm 0; clear HGm hgm; have hnb11 := NB302_303.out; have hnc11 := NB303_302.out; have hnb12 := NB302_0.out; have hnc12 := NB0_302.out; obtain ⟨hcz13_0, hcz13_1, hfz13_0, hfz13_1⟩ := cells2 BK302.out) | ((with_reducible refine gate_dst (N := 9) rfl ?_); refine yX (N := 9) (cs := #[.int .i64 0, .int .i64 0, .string (⟨#[]⟩ : ByteArray)]) (t := 52) ?_; intro gb307 hg w14 hbox hb; replace HB := aM (bP (yG3 HB (IsS112.ge HI0.out) GE302.out GE303.out) hb); have BK307 := aM (hbox); have GW307 := aM ((by rw [hg]; exact (keep_size (w := w) (g := g) (row := none) (by repeat (first | (with_reducible first | exact HK.out | apply KeepBut.set_ | apply keep_drewN | apply keep_drew | apply keep_alloc | refine keep_far ?_ GW302.out _ | refine keep_far ?_ GW303.out _) | exact HK.out))) : w.heap.size ≤ gb307)); have GE307 := aM ((Nat.le_trans HW0.out (by rw [hg]; exact (keep_size (w := w) (g := g) (row := none) (by repeat (first | (with_reducible first | exact HK.out | apply KeepBut.set_ | apply keep_drewN | apply keep_drew | apply keep_alloc | refine keep_far ?_ GW302.out _ | refine keep_far ?_ GW303.out _) | exact HK.out))) : w.heap.size ≤ gb307) : w0.heap.size ≤ gb307)); replace HK := aM (KeepBut.trans (by repeat (first | (with_reducible first | exact HK.out | apply KeepBut.set_ | apply keep_drewN | apply keep_drew | apply keep_alloc | refine keep_far ?_ GW302.out _ | refine keep_far ?_ GW303.out _) | exact HK.out)) (KeepBut.of_below hb g none) (.inl rfl)); have NB302_307 := yN hg (yF1 BK302 NB302_0.out); have NB307_302 := yM hg (yF1 BK302 NB302_0.out); replace BK302 := aM (kB (yF1 BK302 NB302_0.out) hb); have NB303_307 := yN hg (yF1 BK303 NB303_0.out); have NB307_303 := yM hg (yF1 BK303 NB303_0.out); replace BK303 := aM (kB (yF1 BK303 NB303_0.out) hb); have NB0_307 := aM ((by rw [hg]; exact Nat.ne_of_lt (IsS112.lt (show IsS112 w0 _ g (s0_0.extract (t305 : Int).toNat s0_0.size) from by repeat (first | (with_reducible first | exact HI0.out | apply IsS112.alloc | apply IsS112.drewN | apply IsS112.drew | apply IsS112.set_0 | apply IsS112.far (hne := NB0_302.out) | apply IsS112.far (hne := NB0_303.out)) | exact HI0.out))) : g ≠ gb307)); have NB307_0 := aM ((by rw [hg]; exact Nat.ne_of_gt (IsS112.lt (show IsS112 w0 _ g (s0_0.extract (t305 : Int).toNat s0_0.size) from by repeat (first | (with_reducible first | exact HI0.out | apply IsS112.alloc | apply IsS112.drewN | apply IsS112.drew | apply IsS112.set_0 | apply IsS112.far (hne := NB0_302.out) | apply IsS112.far (hne := NB0_303.out)) | exact HI0.out))) : gb307 ≠ g)); replace HI0 := aM (IsS112.below (show IsS112 w0 (w9.setCell ⟨g, 0, none⟩ (.string (s0_0.extract (t305 : Int).toNat s0_0.size))) g (s0_0.extract (t305 : Int).toNat s0_0.size) from by repeat (first | (with_reducible first | exact HI0.out | apply IsS112.alloc | apply IsS112.drewN | apply IsS112.drew | apply IsS112.set_0 | apply IsS112.far (hne := NB0_302.out) | apply IsS112.far (hne := NB0_303.out)) | exact HI0.out)) hb); clear hb hbox hg; have hnb15 := NB307_302.out; have hnc15 := NB302_307.out; have hnb16 := NB307_303.out; have hnc16 := NB303_307.out; have hnb17 := NB307_0.out; have hnc17 := NB0_307.out; obtain ⟨hcz18_0, hcz18_1, hcz18_2, hfz18_0, hfz18_1, hfz18_2⟩ := cells3 BK307.out))
    (try simp only [Act.put, s1_, s2_, s3_])
    go_cut [42] (fun v42 wc => ∃ (kq : Nat) (x42_6 : Bool), v42 = .bool x42_6 ∧ Aside0 (rowcode_reader_value.j0 kq t304 x42_6 (s0_0.extract (t305 : Int).toNat s0_0.size) a1_0 a1_1 a1_0 0 (⟨#[]⟩ : ByteArray) = some (r1, r2, r3, r4, r5)) ∧ Aside0 (kq ≤ k) ∧ Aside0 (wc.heap[gb302]? = some (.cells #[.int .i64 a1_0, .int .i64 a1_1] 50 (0, 0))) ∧ Aside0 (wc.heap[gb303]? = some (.cells #[.int .i64 0, .int .i64 0, .string (⟨#[]⟩ : ByteArray)] 52 (0, 0))) ∧ Aside0 (wc.heap[gb307]? = some (.cells #[.int .i64 a1_0, .int .i64 0, .string (⟨#[]⟩ : ByteArray)] 52 (0, 0))) ∧ Aside0 (IsS112 w0 wc g (s0_0.extract (t305 : Int).toNat s0_0.size)) ∧ Aside0 (KeepBut w wc g none) ∧ Aside0 (Below w0.heap.size w0 wc))
    case first =>
     have H := HC7.out
     clear HC7
     by_cases c19 : a1_0 = 1
     ·
      rw [if_pos c19] at H
      have c19b0 : (a1_0 == 1) = true := beq_iff_eq.mpr c19
      have c19b1 : (a1_0 != 1) = false := bne_eq_false_iff_eq.mpr c19
      clear c19
      (first | rw [c19b0] | (simp only [i64_w, i32_w]; rw [c19b0]) | skip)
      have H' := aM H
      clear H
      have hnb20 := NB302_303.out
      have hnc20 := NB303_302.out
      have hnb21 := NB302_307.out
      have hnc21 := NB307_302.out
      have hnb22 := NB302_0.out
      have hnc22 := NB0_302.out
      obtain ⟨hcz23_0, hcz23_1, hfz23_0, hfz23_1⟩ := cells2 BK302.out
      go_wp2
      go_meet
      case rel => exact ⟨_, (true), yS, H', ⟨yO⟩, ⟨yF1 BK302 NB302_307.out⟩, ⟨yF1 BK303 NB303_307.out⟩, ⟨puts3 BK307.out⟩, ⟨by repeat (first | (with_reducible first | exact HI0.out | apply IsS112.alloc | apply IsS112.drewN | apply IsS112.drew | apply IsS112.set_0 | apply IsS112.far (hne := NB0_302.out) | apply IsS112.far (hne := NB0_303.out) | apply IsS112.far (hne := NB0_307.out)) | exact HI0.out)⟩, ⟨by repeat (first | (with_reducible first | exact HK.out | apply KeepBut.set_ | apply keep_drewN | apply keep_drew | apply keep_alloc | refine keep_far ?_ GW302.out _ | refine keep_far ?_ GW303.out _ | refine keep_far ?_ GW307.out _) | exact HK.out)⟩, ⟨yG4 HB (IsS112.ge HI0.out) GE302.out GE303.out GE307.out⟩⟩
     ·
      rw [if_neg c19] at H
      have c19b0 : (a1_0 == 1) = false := beq_eq_false_iff_ne.mpr c19
      have c19b1 : (a1_0 != 1) = true := bne_iff_ne.mpr c19
      (first | rw [c19b0] | (simp only [i64_w, i32_w]; rw [c19b0]) | skip)
      have H' := aM H
      clear H
      have hnb24 := NB302_303.out
      have hnc24 := NB303_302.out
      have hnb25 := NB302_307.out
      have hnc25 := NB307_302.out
      have hnb26 := NB302_0.out
      have hnc26 := NB0_302.out
      obtain ⟨hcz27_0, hcz27_1, hfz27_0, hfz27_1⟩ := cells2 BK302.out
      go_wp2
      go_meet
      case rel => exact ⟨_, ((a1_0 == 2)), yS, H', ⟨yO⟩, ⟨yF1 BK302 NB302_307.out⟩, ⟨yF1 BK303 NB303_307.out⟩, ⟨puts3 BK307.out⟩, ⟨by repeat (first | (with_reducible first | exact HI0.out | apply IsS112.alloc | apply IsS112.drewN | apply IsS112.drew | apply IsS112.set_0 | apply IsS112.far (hne := NB0_302.out) | apply IsS112.far (hne := NB0_303.out) | apply IsS112.far (hne := NB0_307.out)) | exact HI0.out)⟩, ⟨by repeat (first | (with_reducible first | exact HK.out | apply KeepBut.set_ | apply keep_drewN | apply keep_drew | apply keep_alloc | refine keep_far ?_ GW302.out _ | refine keep_far ?_ GW303.out _ | refine keep_far ?_ GW307.out _) | exact HK.out)⟩, ⟨yG4 HB (IsS112.ge HI0.out) GE302.out GE303.out GE307.out⟩⟩
    case rest =>
     clear HC7
     try clear c4
     try clear c4b0
     try clear c4b1
     try clear c5
     try clear c5b0
     try clear c5b1
     try clear c6
     try clear c6b0
     try clear c6b1
     try clear hcz10_0
     try clear hcz13_0 hcz13_1
     try clear hcz18_0 hcz18_1 hcz18_2
     try clear hfz10_0
     try clear hfz13_0 hfz13_1
     try clear hfz18_0 hfz18_1 hfz18_2
     obtain ⟨kq, x42_6, rfl, HA, HJ6, BK302, BK303, BK307, HI0, HK, HB⟩ := hcut
     obtain ⟨sg1_, hsg1_⟩ : ∃ y_ : ByteArray, y_ = s0_0.extract (t305 : Int).toNat s0_0.size := ⟨_, rfl⟩
     try rw [← hsg1_] at HA
     try rw [← hsg1_] at HI0
     clear hsg1_
     cases kq with
     | zero => exact absurd HA.out (by simp [rowcode_reader_value.j0])
     | succ kj6 =>
      have H := HA.out
      clear HA
      simp only [rowcode_reader_value.j0] at H
      by_cases c28 : x42_6 = true
      ·
       subst c28
       replace H := yt H
       obtain ⟨t308, A29, H⟩ := yb H
       obtain ⟨t309, A30, H⟩ := yb H
       by_cases c31 : t309 = true
       ·
        subst c31
        replace H := yt H
        simp only [Option.some.injEq, Prod.mk.injEq] at H
        obtain ⟨rfl, rfl, rfl, rfl, rfl⟩ := H
        go_wp2_with (first | ((with_reducible refine gate_callee (f := 100) rfl ?_); refine yC 44 Tryd.func100 #[.int .u64 t304] rfl ?_; (with_reducible refine (word_Zag.calls t304 t308 _ A29.out).mono ?_); rintro e w' ⟨rfl, ⟨nd, rfl⟩⟩; refine ⟨_, rfl, ?_⟩; (try (rw [drewN_self wc]; generalize hq_ : World.drewN wc _ = wc; have n0_ : Aside0 (wc.heap[gb302]? = some (.cells #[.int .i64 a1_0, .int .i64 a1_1] 50 (0, 0))) := ⟨by rw [← hq_]; exact (yK BK302)⟩; have n1_ : Aside0 (wc.heap[gb303]? = some (.cells #[.int .i64 0, .int .i64 0, .string (⟨#[]⟩ : ByteArray)] 52 (0, 0))) := ⟨by rw [← hq_]; exact (yK BK303)⟩; have n2_ : Aside0 (wc.heap[gb307]? = some (.cells #[.int .i64 a1_0, .int .i64 0, .string (⟨#[]⟩ : ByteArray)] 52 (0, 0))) := ⟨by rw [← hq_]; exact (yK BK307)⟩; have n3_ : Aside0 (IsS112 w0 wc g sg1_) := ⟨by rw [← hq_]; exact (by repeat (first | (with_reducible first | exact HI0.out | apply IsS112.alloc | apply IsS112.drewN | apply IsS112.drew | apply IsS112.set_0 | apply IsS112.far (hne := NB0_302.out) | apply IsS112.far (hne := NB0_303.out) | apply IsS112.far (hne := NB0_307.out)) | exact HI0.out))⟩; have n4_ : Aside0 (KeepBut w wc g none) := ⟨by rw [← hq_]; exact (by repeat (first | (with_reducible first | exact HK.out | apply KeepBut.set_ | apply keep_drewN | apply keep_drew | apply keep_alloc | refine keep_far ?_ GW302.out _ | refine keep_far ?_ GW303.out _ | refine keep_far ?_ GW307.out _) | exact HK.out))⟩; have n5_ : Aside0 (Below w0.heap.size w0 wc) := ⟨by rw [← hq_]; exact (yG4 HB (IsS112.ge HI0.out) GE302.out GE303.out GE307.out)⟩; clear BK302 BK303 BK307 HI0 HK HB hq_; have BK302 := n0_; have BK303 := n1_; have BK307 := n2_; have HI0 := n3_; have HK := n4_; have HB := n5_; clear n0_ n1_ n2_ n3_ n4_ n5_)); obtain ⟨HGm, hgm⟩ := HI0.out; have hczm0_0 := cellS112_0 HGm; have hfzm0_0 := blk_frozen HGm 0; clear HGm hgm; have hnb32 := NB307_302.out; have hnc32 := NB302_307.out; have hnb33 := NB307_303.out; have hnc33 := NB303_307.out; have hnb34 := NB307_0.out; have hnc34 := NB0_307.out; obtain ⟨hcz35_0, hcz35_1, hcz35_2, hfz35_0, hfz35_1, hfz35_2⟩ := cells3 BK307.out; have hnb36 := NB302_303.out; have hnc36 := NB303_302.out; have hnb37 := NB302_0.out; have hnc37 := NB0_302.out; obtain ⟨hcz38_0, hcz38_1, hfz38_0, hfz38_1⟩ := cells2 BK302.out) | ((with_reducible refine gate_callee (f := 71) rfl ?_); refine yC 48 Tryd.func71 #[.agg #[.int .i64 a1_0, .int .i64 a1_1], .agg #[.int .i64 a1_0, .int .i64 t308, .string (⟨#[]⟩ : ByteArray)]] rfl ?_; (with_reducible refine (typ_Fits.calls kj6 a1_0 a1_1 a1_0 t308 (⟨#[]⟩ : ByteArray) true _ ?side1 A30.out).mono ?_); (case side1 => first | (with_reducible exact HG.out) | exact Glob.below HG.out (yG4 HB (IsS112.ge HI0.out) GE302.out GE303.out GE307.out)); rintro e w39 ⟨rfl, hb⟩; refine ⟨_, rfl, ?_⟩; replace BK302 := aM (kB (yF1 BK302 NB302_307.out) hb); replace BK303 := aM (kB (yF1 BK303 NB303_307.out) hb); replace BK307 := aM (kB (g := gb307) (o := .cells #[.int .i64 a1_0, .int .i64 t308, .string (⟨#[]⟩ : ByteArray)] 52 (0, 0)) (by (with_reducible repeat (first | refine kN ?_ _ | refine kD ?_ | refine kA ?_ _)); refine kP (cs := #[.int .i64 a1_0, .int .i64 0, .string (⟨#[]⟩ : ByteArray)]) ?_ 1 _ rfl; (with_reducible repeat (first | refine kN ?_ _ | refine kD ?_ | refine kA ?_ _)); exact BK307.out) hb); replace HK := aM (KeepBut.trans (by repeat (first | (with_reducible first | exact HK.out | apply KeepBut.set_ | apply keep_drewN | apply keep_drew | apply keep_alloc | refine keep_far ?_ GW302.out _ | refine keep_far ?_ GW303.out _ | refine keep_far ?_ GW307.out _) | exact HK.out)) (KeepBut.of_below hb g none) (.inl rfl)); replace HB := aM (bP (yG4 HB (IsS112.ge HI0.out) GE302.out GE303.out GE307.out) hb); replace HI0 := aM (IsS112.below (show IsS112 w0 (wc.setCell ⟨gb307, 1, none⟩ (.int .i64 t308)) g sg1_ from by repeat (first | (with_reducible first | exact HI0.out | apply IsS112.alloc | apply IsS112.drewN | apply IsS112.drew | apply IsS112.set_0 | apply IsS112.far (hne := NB0_302.out) | apply IsS112.far (hne := NB0_303.out) | apply IsS112.far (hne := NB0_307.out)) | exact HI0.out)) hb); (try clear hb); obtain ⟨hcz40_0, hcz40_1, hcz40_2, hfz40_0, hfz40_1, hfz40_2⟩ := cells3 BK307.out; have hnb41 := NB303_0.out; have hnc41 := NB0_303.out; obtain ⟨hcz42_0, hcz42_1, hcz42_2, hfz42_0, hfz42_1, hfz42_2⟩ := cells3 BK303.out))
        refine bodyPost_ret (results_ct rfl _ _ gb303 52 #[.int .i64 a1_0, .int .i64 t308, .string (⟨#[]⟩ : ByteArray)] (0, 0) _ rfl (puts3 BK303.out) Tryd.underlying52 rfl (by kernel_rfl)) rfl ?_
        exact ⟨yE, by repeat (first | (with_reducible first | exact HI0.out | apply IsS112.alloc | apply IsS112.drewN | apply IsS112.drew | apply IsS112.set_0 | apply IsS112.far (hne := NB0_302.out) | apply IsS112.far (hne := NB0_303.out) | apply IsS112.far (hne := NB0_307.out)) | exact HI0.out), yG4 HB (IsS112.ge HI0.out) GE302.out GE303.out GE307.out, by repeat (first | (with_reducible first | exact HK.out | apply KeepBut.set_ | apply keep_drewN | apply keep_drew | apply keep_alloc | refine keep_far ?_ GW302.out _ | refine keep_far ?_ GW303.out _ | refine keep_far ?_ GW307.out _) | exact HK.out)⟩
       ·
        replace c31 := Bool.eq_false_iff.mpr c31
        subst c31
        replace H := yf H
        simp only [Option.some.injEq, Prod.mk.injEq] at H
        obtain ⟨rfl, rfl, rfl, rfl, rfl⟩ := H
        go_wp2_with (first | ((with_reducible refine gate_callee (f := 100) rfl ?_); refine yC 44 Tryd.func100 #[.int .u64 t304] rfl ?_; (with_reducible refine (word_Zag.calls t304 t308 _ A29.out).mono ?_); rintro e w' ⟨rfl, ⟨nd, rfl⟩⟩; refine ⟨_, rfl, ?_⟩; (try (rw [drewN_self wc]; generalize hq_ : World.drewN wc _ = wc; have n0_ : Aside0 (wc.heap[gb302]? = some (.cells #[.int .i64 a1_0, .int .i64 a1_1] 50 (0, 0))) := ⟨by rw [← hq_]; exact (yK BK302)⟩; have n1_ : Aside0 (wc.heap[gb303]? = some (.cells #[.int .i64 0, .int .i64 0, .string (⟨#[]⟩ : ByteArray)] 52 (0, 0))) := ⟨by rw [← hq_]; exact (yK BK303)⟩; have n2_ : Aside0 (wc.heap[gb307]? = some (.cells #[.int .i64 a1_0, .int .i64 0, .string (⟨#[]⟩ : ByteArray)] 52 (0, 0))) := ⟨by rw [← hq_]; exact (yK BK307)⟩; have n3_ : Aside0 (IsS112 w0 wc g sg1_) := ⟨by rw [← hq_]; exact (by repeat (first | (with_reducible first | exact HI0.out | apply IsS112.alloc | apply IsS112.drewN | apply IsS112.drew | apply IsS112.set_0 | apply IsS112.far (hne := NB0_302.out) | apply IsS112.far (hne := NB0_303.out) | apply IsS112.far (hne := NB0_307.out)) | exact HI0.out))⟩; have n4_ : Aside0 (KeepBut w wc g none) := ⟨by rw [← hq_]; exact (by repeat (first | (with_reducible first | exact HK.out | apply KeepBut.set_ | apply keep_drewN | apply keep_drew | apply keep_alloc | refine keep_far ?_ GW302.out _ | refine keep_far ?_ GW303.out _ | refine keep_far ?_ GW307.out _) | exact HK.out))⟩; have n5_ : Aside0 (Below w0.heap.size w0 wc) := ⟨by rw [← hq_]; exact (yG4 HB (IsS112.ge HI0.out) GE302.out GE303.out GE307.out)⟩; clear BK302 BK303 BK307 HI0 HK HB hq_; have BK302 := n0_; have BK303 := n1_; have BK307 := n2_; have HI0 := n3_; have HK := n4_; have HB := n5_; clear n0_ n1_ n2_ n3_ n4_ n5_)); obtain ⟨HGm, hgm⟩ := HI0.out; have hczm0_0 := cellS112_0 HGm; have hfzm0_0 := blk_frozen HGm 0; clear HGm hgm; have hnb43 := NB307_302.out; have hnc43 := NB302_307.out; have hnb44 := NB307_303.out; have hnc44 := NB303_307.out; have hnb45 := NB307_0.out; have hnc45 := NB0_307.out; obtain ⟨hcz46_0, hcz46_1, hcz46_2, hfz46_0, hfz46_1, hfz46_2⟩ := cells3 BK307.out; have hnb47 := NB302_303.out; have hnc47 := NB303_302.out; have hnb48 := NB302_0.out; have hnc48 := NB0_302.out; obtain ⟨hcz49_0, hcz49_1, hfz49_0, hfz49_1⟩ := cells2 BK302.out) | ((with_reducible refine gate_callee (f := 71) rfl ?_); refine yC 48 Tryd.func71 #[.agg #[.int .i64 a1_0, .int .i64 a1_1], .agg #[.int .i64 a1_0, .int .i64 t308, .string (⟨#[]⟩ : ByteArray)]] rfl ?_; (with_reducible refine (typ_Fits.calls kj6 a1_0 a1_1 a1_0 t308 (⟨#[]⟩ : ByteArray) false _ ?side1 A30.out).mono ?_); (case side1 => first | (with_reducible exact HG.out) | exact Glob.below HG.out (yG4 HB (IsS112.ge HI0.out) GE302.out GE303.out GE307.out)); rintro e w50 ⟨rfl, hb⟩; refine ⟨_, rfl, ?_⟩; replace BK302 := aM (kB (yF1 BK302 NB302_307.out) hb); replace BK303 := aM (kB (yF1 BK303 NB303_307.out) hb); replace BK307 := aM (kB (g := gb307) (o := .cells #[.int .i64 a1_0, .int .i64 t308, .string (⟨#[]⟩ : ByteArray)] 52 (0, 0)) (by (with_reducible repeat (first | refine kN ?_ _ | refine kD ?_ | refine kA ?_ _)); refine kP (cs := #[.int .i64 a1_0, .int .i64 0, .string (⟨#[]⟩ : ByteArray)]) ?_ 1 _ rfl; (with_reducible repeat (first | refine kN ?_ _ | refine kD ?_ | refine kA ?_ _)); exact BK307.out) hb); replace HK := aM (KeepBut.trans (by repeat (first | (with_reducible first | exact HK.out | apply KeepBut.set_ | apply keep_drewN | apply keep_drew | apply keep_alloc | refine keep_far ?_ GW302.out _ | refine keep_far ?_ GW303.out _ | refine keep_far ?_ GW307.out _) | exact HK.out)) (KeepBut.of_below hb g none) (.inl rfl)); replace HB := aM (bP (yG4 HB (IsS112.ge HI0.out) GE302.out GE303.out GE307.out) hb); replace HI0 := aM (IsS112.below (show IsS112 w0 (wc.setCell ⟨gb307, 1, none⟩ (.int .i64 t308)) g sg1_ from by repeat (first | (with_reducible first | exact HI0.out | apply IsS112.alloc | apply IsS112.drewN | apply IsS112.drew | apply IsS112.set_0 | apply IsS112.far (hne := NB0_302.out) | apply IsS112.far (hne := NB0_303.out) | apply IsS112.far (hne := NB0_307.out)) | exact HI0.out)) hb); (try clear hb); have hnb51 := NB303_0.out; have hnc51 := NB0_303.out; obtain ⟨hcz52_0, hcz52_1, hcz52_2, hfz52_0, hfz52_1, hfz52_2⟩ := cells3 BK303.out))
        refine bodyPost_ret (results_ct rfl _ _ gb303 52 #[.int .i64 0, .int .i64 0, .string (⟨#[]⟩ : ByteArray)] (0, 0) _ rfl (puts3 BK303.out) Tryd.underlying52 rfl (by kernel_rfl)) rfl ?_
        exact ⟨yE, by repeat (first | (with_reducible first | exact HI0.out | apply IsS112.alloc | apply IsS112.drewN | apply IsS112.drew | apply IsS112.set_0 | apply IsS112.far (hne := NB0_302.out) | apply IsS112.far (hne := NB0_303.out) | apply IsS112.far (hne := NB0_307.out)) | exact HI0.out), yG4 HB (IsS112.ge HI0.out) GE302.out GE303.out GE307.out, by repeat (first | (with_reducible first | exact HK.out | apply KeepBut.set_ | apply keep_drewN | apply keep_drew | apply keep_alloc | refine keep_far ?_ GW302.out _ | refine keep_far ?_ GW303.out _ | refine keep_far ?_ GW307.out _) | exact HK.out)⟩
      ·
       replace c28 := Bool.eq_false_iff.mpr c28
       subst c28
       replace H := yf H
       by_cases c53 : t304 > (IntKind.u64.wrap (a1_1))
       ·
        rw [if_pos c53] at H
        have c53b0 : decide ((IntKind.u64.wrap (a1_1)) < t304) = true := decide_eq_true c53
        clear c53
        simp only [Option.some.injEq, Prod.mk.injEq] at H
        obtain ⟨rfl, rfl, rfl, rfl, rfl⟩ := H
        have hnb54 := NB302_303.out
        have hnc54 := NB303_302.out
        have hnb55 := NB302_307.out
        have hnc55 := NB307_302.out
        have hnb56 := NB302_0.out
        have hnc56 := NB0_302.out
        obtain ⟨hcz57_0, hcz57_1, hfz57_0, hfz57_1⟩ := cells2 BK302.out
        have hnb58 := NB303_307.out
        have hnc58 := NB307_303.out
        have hnb59 := NB303_0.out
        have hnc59 := NB0_303.out
        obtain ⟨hcz60_0, hcz60_1, hcz60_2, hfz60_0, hfz60_1, hfz60_2⟩ := cells3 BK303.out
        go_wp2
        refine bodyPost_ret (results_ct rfl _ _ gb303 52 #[.int .i64 0, .int .i64 0, .string (⟨#[]⟩ : ByteArray)] (0, 0) _ rfl (puts3 BK303.out) Tryd.underlying52 rfl (by kernel_rfl)) rfl ?_
        exact ⟨yE, by repeat (first | (with_reducible first | exact HI0.out | apply IsS112.alloc | apply IsS112.drewN | apply IsS112.drew | apply IsS112.set_0 | apply IsS112.far (hne := NB0_302.out) | apply IsS112.far (hne := NB0_303.out) | apply IsS112.far (hne := NB0_307.out)) | exact HI0.out), yG4 HB (IsS112.ge HI0.out) GE302.out GE303.out GE307.out, by repeat (first | (with_reducible first | exact HK.out | apply KeepBut.set_ | apply keep_drewN | apply keep_drew | apply keep_alloc | refine keep_far ?_ GW302.out _ | refine keep_far ?_ GW303.out _ | refine keep_far ?_ GW307.out _) | exact HK.out)⟩
       ·
        rw [if_neg c53] at H
        have c53b0 : decide ((IntKind.u64.wrap (a1_1)) < t304) = false := decide_eq_false c53
        clear c53
        by_cases c61 : t304 > (IntKind.u64.wrap ((sg1_.size : Int)))
        ·
         rw [if_pos c61] at H
         have c61b0 : decide ((IntKind.u64.wrap ((sg1_.size : Int))) < t304) = true := decide_eq_true c61
         have c61b0_s := c61b0
         (try simp only [ByteArray.size_extract, Nat.min_self] at c61b0_s)
         clear c61
         simp only [Option.some.injEq, Prod.mk.injEq] at H
         obtain ⟨rfl, rfl, rfl, rfl, rfl⟩ := H
         have hnb62 := NB302_303.out
         have hnc62 := NB303_302.out
         have hnb63 := NB302_307.out
         have hnc63 := NB307_302.out
         have hnb64 := NB302_0.out
         have hnc64 := NB0_302.out
         obtain ⟨hcz65_0, hcz65_1, hfz65_0, hfz65_1⟩ := cells2 BK302.out
         obtain ⟨HGz66, hgz66⟩ := HI0.out
         have hcz66_0 := cellS112_0 HGz66
         have hfz66_0 := blk_frozen HGz66 0
         clear HGz66 hgz66
         have hnb67 := NB303_307.out
         have hnc67 := NB307_303.out
         have hnb68 := NB303_0.out
         have hnc68 := NB0_303.out
         obtain ⟨hcz69_0, hcz69_1, hcz69_2, hfz69_0, hfz69_1, hfz69_2⟩ := cells3 BK303.out
         go_wp2
         refine bodyPost_ret (results_ct rfl _ _ gb303 52 #[.int .i64 0, .int .i64 0, .string (⟨#[]⟩ : ByteArray)] (0, 0) _ rfl (puts3 BK303.out) Tryd.underlying52 rfl (by kernel_rfl)) rfl ?_
         exact ⟨yE, by repeat (first | (with_reducible first | exact HI0.out | apply IsS112.alloc | apply IsS112.drewN | apply IsS112.drew | apply IsS112.set_0 | apply IsS112.far (hne := NB0_302.out) | apply IsS112.far (hne := NB0_303.out) | apply IsS112.far (hne := NB0_307.out)) | exact HI0.out), yG4 HB (IsS112.ge HI0.out) GE302.out GE303.out GE307.out, by repeat (first | (with_reducible first | exact HK.out | apply KeepBut.set_ | apply keep_drewN | apply keep_drew | apply keep_alloc | refine keep_far ?_ GW302.out _ | refine keep_far ?_ GW303.out _ | refine keep_far ?_ GW307.out _) | exact HK.out)⟩
        ·
         rw [if_neg c61] at H
         have c61b0 : decide ((IntKind.u64.wrap ((sg1_.size : Int))) < t304) = false := decide_eq_false c61
         have c61b0_s := c61b0
         (try simp only [ByteArray.size_extract, Nat.min_self] at c61b0_s)
         clear c61
         by_cases c70 : 0 ≤ t304
         ·
          rw [if_pos c70] at H
          have c70b0 := eq_true c70
          have c70b1 : decide (0 ≤ t304) = true := decide_eq_true c70
          clear c70
          by_cases c71 : t304 ≤ (sg1_.size : Int)
          ·
           rw [if_pos c71] at H
           have c71b0 := eq_true c71
           have c71b1 : decide (t304 ≤ (sg1_.size : Int)) = true := decide_eq_true c71
           have c71b1_s := c71b1
           (try simp only [ByteArray.size_extract, Nat.min_self] at c71b1_s)
           clear c71
           have c72b0 := eq_true (oD yA : 0 ≤ t304)
           have c73b0 := eq_true (oD yA : t304 ≤ (sg1_.size : Int))
           have c73b0_s := c73b0
           (try simp only [ByteArray.size_extract, Nat.min_self] at c73b0_s)
           by_cases c74 : a1_0 = 3
           ·
            rw [if_pos c74] at H
            have c74b0 : (a1_0 == 3) = true := beq_iff_eq.mpr c74
            have c74b1 : (a1_0 != 3) = false := bne_eq_false_iff_eq.mpr c74
            clear c74
            obtain ⟨t310, A75, H⟩ := yb H
            by_cases c76 : t310 = true
            ·
             subst c76
             replace H := yt H
             simp only [Option.some.injEq, Prod.mk.injEq] at H
             obtain ⟨rfl, rfl, rfl, rfl, rfl⟩ := H
             have hnb77 := NB302_303.out
             have hnc77 := NB303_302.out
             have hnb78 := NB302_307.out
             have hnc78 := NB307_302.out
             have hnb79 := NB302_0.out
             have hnc79 := NB0_302.out
             obtain ⟨hcz80_0, hcz80_1, hfz80_0, hfz80_1⟩ := cells2 BK302.out
             obtain ⟨HGz81, hgz81⟩ := HI0.out
             have hcz81_0 := cellS112_0 HGz81
             have hfz81_0 := blk_frozen HGz81 0
             clear HGz81 hgz81
             try go_wp2
             have n0_ := aM (kD BK302.out)
             have n1_ := aM (kD BK303.out)
             have n2_ := aM (kD BK307.out)
             have n3_ := aM (IsS112.drew HI0.out)
             have n4_ := aM (keep_drew HK.out)
             have n5_ := aM (b1 HB.out)
             clear BK302
             clear BK303
             clear BK307
             clear HI0
             clear HK
             clear HB
             have BK302 := n0_
             have BK303 := n1_
             have BK307 := n2_
             have HI0 := n3_
             have HK := n4_
             have HB := n5_
             clear n0_ n1_ n2_ n3_ n4_ n5_
             refine start_ (n := 18) (S := fun w' => w'.cell? ⟨g, 0, none⟩ = some (.string sg1_)) (ds := [17]) (tB 0 18) (by kernel_rfl) rfl rfl ((blk_cell (IsS112.box HI0).out 0).trans rfl) (fun hHeld => ?_); refine with_tabW rowcode_reader_value.tab15 rowcode_reader_value.bits15 (fun HT_ HW_ => ?_)
             generalize wc.drew = w82 at BK302 BK303 BK307 HI0 HK HB hHeld ⊢
             refine yP HT_ 0 69 (tB 1 18) rfl rfl ?_
             refine yP HT_ 1 70 (tB 3 18) rfl rfl ?_
             refine yP HT_ 2 71 (tB 7 18) rfl rfl ?_
             refine yP HT_ 3 72 (tB 15 18) rfl rfl ?_
             refine yP HT_ 5 74 (tB 47 18) rfl rfl ?_
             refine yP HT_ 7 76 (tB 175 18) rfl rfl ?_
             refine yP HT_ 8 77 (tB 431 18) rfl rfl ?_
             refine yP HT_ 9 78 (tB 943 18) rfl rfl ?_
             refine yP HT_ 11 80 (tB 2991 18) rfl rfl ?_
             refine yT HT_ HW_ 4 73 (tB 3007 18) rfl rfl hHeld ?_
             refine yP HT_ 6 75 (tB 3071 18) rfl rfl ?_
             refine yP HT_ 13 82 (tB 11263 18) rfl rfl ?_
             refine yT HT_ HW_ 10 79 (tB 12287 18) rfl rfl hHeld ?_
             refine yP HT_ 12 81 (tB 16383 18) rfl rfl ?_
             refine yI HT_ 14 (tB 32767 18) rfl rfl fun K hK => ?_
             have hs83 : w82.cell? ⟨gb307, 2, none⟩ = some (.string (⟨#[]⟩ : ByteArray)) := (blk_cell BK307.out 2).trans rfl
             have hfs83 := blk_frozen BK307.out 2
             have hns83_0 := NB302_307.out
             have hns83_1 := NB303_307.out
             have hms83_0 := NB307_302.out
             have hms83_1 := NB307_303.out
             refine skip_ (w1 := ?_) (by rfl) rfl ?_ ?_
             rotate_left
             ·
              go_simp
              rfl
             refine hK.out _ _ ((cF1 NB0_307.out hHeld)) (fun hHeld => ?_)
             clear hK K
             refine yP HT_ 15 83 (tB 65535 18) rfl rfl ?_
             refine yP HT_ 16 84 (tB 131071 18) rfl rfl ?_
             refine last_ (i := 17) (N := none) (tB 262143 18) rfl rfl (one_of HT_.out (by kernel_rfl)) (by decide) (fun K hK => ?_)
             try (obtain ⟨HGm, hgm⟩ := HI0.out; have hfzm0 := blk_frozen HGm 0; clear HGm hgm)
             refine skip_ (w1 := ?_) (by rfl) rfl ?_ ?_
             rotate_left
             ·
              go_simp
              rfl
             refine hK.out _ _ ?_
             clear hK K
             refine done_ (done_of HT_.out (by kernel_rfl)) ?_
             obtain ⟨hcz84_0, hcz84_1, hfz84_0, hfz84_1⟩ := cells2 BK302.out
             have hnb85 := NB307_303.out
             have hnc85 := NB303_307.out
             have hnb86 := NB307_0.out
             have hnc86 := NB0_307.out
             obtain ⟨hcz87_0, hcz87_1, hcz87_2, hfz87_0, hfz87_1, hfz87_2⟩ := cells3 BK307.out
             try go_wp2_with (first | (go_at_call 101; (with_reducible refine (utf_Right.calls kj6 (sg1_.extract 0 (t304 : Int).toNat) true _ ?side1 A75.out).mono ?_); (case side1 => first | (with_reducible exact HG.out) | exact Glob.below HG.out (yG4 HB (IsS112.ge HI0.out) GE302.out GE303.out GE307.out)); rintro e w88 ⟨rfl, hb⟩; replace BK302 := aM (kB (yF2 BK302 NB302_0.out NB302_307.out) hb); replace BK303 := aM (kB (yF2 BK303 NB303_0.out NB303_307.out) hb); replace BK307 := aM (kB (g := gb307) (o := .cells #[.int .i64 a1_0, .int .i64 0, .string (sg1_.extract 0 (t304 : Int).toNat)] 52 (0, 0)) (by (with_reducible repeat (first | refine kN ?_ _ | refine kD ?_ | refine kA ?_ _)); refine kF ?_ NB307_0.out _; (with_reducible repeat (first | refine kN ?_ _ | refine kD ?_ | refine kA ?_ _)); refine kP (cs := #[.int .i64 a1_0, .int .i64 0, .string (⟨#[]⟩ : ByteArray)]) ?_ 2 _ rfl; (with_reducible repeat (first | refine kN ?_ _ | refine kD ?_ | refine kA ?_ _)); exact BK307.out) hb); replace HK := aM (KeepBut.trans (by repeat (first | (with_reducible first | exact HK.out | apply KeepBut.set_ | apply keep_drewN | apply keep_drew | apply keep_alloc | refine keep_far ?_ GW302.out _ | refine keep_far ?_ GW303.out _ | refine keep_far ?_ GW307.out _) | exact HK.out)) (KeepBut.of_below hb g none) (.inl rfl)); replace HB := aM (bP (yG4 HB (IsS112.ge HI0.out) GE302.out GE303.out GE307.out) hb); replace HI0 := aM (IsS112.below (show IsS112 w0 ((w82.setCell ⟨gb307, 2, none⟩ (.string (sg1_.extract 0 (t304 : Int).toNat))).setCell ⟨g, 0, none⟩ (.string (sg1_.extract (t304 : Int).toNat sg1_.size))) g (sg1_.extract (t304 : Int).toNat sg1_.size) from by repeat (first | (with_reducible first | exact HI0.out | apply IsS112.alloc | apply IsS112.drewN | apply IsS112.drew | apply IsS112.set_0 | apply IsS112.far (hne := NB0_302.out) | apply IsS112.far (hne := NB0_303.out) | apply IsS112.far (hne := NB0_307.out)) | exact HI0.out)) hb); (try clear hb); (try clear hb2); (try clear hk); (try clear hi); obtain ⟨hcz89_0, hcz89_1, hcz89_2, hfz89_0, hfz89_1, hfz89_2⟩ := cells3 BK307.out; have hnb90 := NB303_0.out; have hnc90 := NB0_303.out; obtain ⟨hcz91_0, hcz91_1, hcz91_2, hfz91_0, hfz91_1, hfz91_2⟩ := cells3 BK303.out))
             refine bodyPost_ret (results_ct rfl _ _ gb303 52 #[.int .i64 a1_0, .int .i64 0, .string (sg1_.extract 0 (t304 : Int).toNat)] (0, 0) _ rfl (puts3 BK303.out) Tryd.underlying52 rfl (by kernel_rfl)) rfl ?_
             exact ⟨yE, by repeat (first | (with_reducible first | exact HI0.out | apply IsS112.alloc | apply IsS112.drewN | apply IsS112.drew | apply IsS112.set_0 | apply IsS112.far (hne := NB0_302.out) | apply IsS112.far (hne := NB0_303.out) | apply IsS112.far (hne := NB0_307.out)) | exact HI0.out), yG4 HB (IsS112.ge HI0.out) GE302.out GE303.out GE307.out, by repeat (first | (with_reducible first | exact HK.out | apply KeepBut.set_ | apply keep_drewN | apply keep_drew | apply keep_alloc | refine keep_far ?_ GW302.out _ | refine keep_far ?_ GW303.out _ | refine keep_far ?_ GW307.out _) | exact HK.out)⟩
            ·
             replace c76 := Bool.eq_false_iff.mpr c76
             subst c76
             replace H := yf H
             simp only [Option.some.injEq, Prod.mk.injEq] at H
             obtain ⟨rfl, rfl, rfl, rfl, rfl⟩ := H
             have hnb92 := NB302_303.out
             have hnc92 := NB303_302.out
             have hnb93 := NB302_307.out
             have hnc93 := NB307_302.out
             have hnb94 := NB302_0.out
             have hnc94 := NB0_302.out
             obtain ⟨hcz95_0, hcz95_1, hfz95_0, hfz95_1⟩ := cells2 BK302.out
             obtain ⟨HGz96, hgz96⟩ := HI0.out
             have hcz96_0 := cellS112_0 HGz96
             have hfz96_0 := blk_frozen HGz96 0
             clear HGz96 hgz96
             try go_wp2
             have n0_ := aM (kD BK302.out)
             have n1_ := aM (kD BK303.out)
             have n2_ := aM (kD BK307.out)
             have n3_ := aM (IsS112.drew HI0.out)
             have n4_ := aM (keep_drew HK.out)
             have n5_ := aM (b1 HB.out)
             clear BK302
             clear BK303
             clear BK307
             clear HI0
             clear HK
             clear HB
             have BK302 := n0_
             have BK303 := n1_
             have BK307 := n2_
             have HI0 := n3_
             have HK := n4_
             have HB := n5_
             clear n0_ n1_ n2_ n3_ n4_ n5_
             refine start_ (n := 18) (S := fun w' => w'.cell? ⟨g, 0, none⟩ = some (.string sg1_)) (ds := [17]) (tB 0 18) (by kernel_rfl) rfl rfl ((blk_cell (IsS112.box HI0).out 0).trans rfl) (fun hHeld => ?_); refine with_tabW rowcode_reader_value.tab15 rowcode_reader_value.bits15 (fun HT_ HW_ => ?_)
             generalize wc.drew = w97 at BK302 BK303 BK307 HI0 HK HB hHeld ⊢
             refine yP HT_ 0 69 (tB 1 18) rfl rfl ?_
             refine yP HT_ 1 70 (tB 3 18) rfl rfl ?_
             refine yP HT_ 2 71 (tB 7 18) rfl rfl ?_
             refine yP HT_ 3 72 (tB 15 18) rfl rfl ?_
             refine yP HT_ 5 74 (tB 47 18) rfl rfl ?_
             refine yP HT_ 7 76 (tB 175 18) rfl rfl ?_
             refine yP HT_ 8 77 (tB 431 18) rfl rfl ?_
             refine yP HT_ 9 78 (tB 943 18) rfl rfl ?_
             refine yP HT_ 11 80 (tB 2991 18) rfl rfl ?_
             refine yT HT_ HW_ 4 73 (tB 3007 18) rfl rfl hHeld ?_
             refine yP HT_ 6 75 (tB 3071 18) rfl rfl ?_
             refine yP HT_ 13 82 (tB 11263 18) rfl rfl ?_
             refine yT HT_ HW_ 10 79 (tB 12287 18) rfl rfl hHeld ?_
             refine yP HT_ 12 81 (tB 16383 18) rfl rfl ?_
             refine yI HT_ 14 (tB 32767 18) rfl rfl fun K hK => ?_
             have hs98 : w97.cell? ⟨gb307, 2, none⟩ = some (.string (⟨#[]⟩ : ByteArray)) := (blk_cell BK307.out 2).trans rfl
             have hfs98 := blk_frozen BK307.out 2
             have hns98_0 := NB302_307.out
             have hns98_1 := NB303_307.out
             have hms98_0 := NB307_302.out
             have hms98_1 := NB307_303.out
             refine skip_ (w1 := ?_) (by rfl) rfl ?_ ?_
             rotate_left
             ·
              go_simp
              rfl
             refine hK.out _ _ ((cF1 NB0_307.out hHeld)) (fun hHeld => ?_)
             clear hK K
             refine yP HT_ 15 83 (tB 65535 18) rfl rfl ?_
             refine yP HT_ 16 84 (tB 131071 18) rfl rfl ?_
             refine last_ (i := 17) (N := none) (tB 262143 18) rfl rfl (one_of HT_.out (by kernel_rfl)) (by decide) (fun K hK => ?_)
             try (obtain ⟨HGm, hgm⟩ := HI0.out; have hfzm0 := blk_frozen HGm 0; clear HGm hgm)
             refine skip_ (w1 := ?_) (by rfl) rfl ?_ ?_
             rotate_left
             ·
              go_simp
              rfl
             refine hK.out _ _ ?_
             clear hK K
             refine done_ (done_of HT_.out (by kernel_rfl)) ?_
             obtain ⟨hcz99_0, hcz99_1, hfz99_0, hfz99_1⟩ := cells2 BK302.out
             have hnb100 := NB307_303.out
             have hnc100 := NB303_307.out
             have hnb101 := NB307_0.out
             have hnc101 := NB0_307.out
             obtain ⟨hcz102_0, hcz102_1, hcz102_2, hfz102_0, hfz102_1, hfz102_2⟩ := cells3 BK307.out
             try go_wp2_with (first | (go_at_call 101; (with_reducible refine (utf_Right.calls kj6 (sg1_.extract 0 (t304 : Int).toNat) false _ ?side1 A75.out).mono ?_); (case side1 => first | (with_reducible exact HG.out) | exact Glob.below HG.out (yG4 HB (IsS112.ge HI0.out) GE302.out GE303.out GE307.out)); rintro e w103 ⟨rfl, hb⟩; replace BK302 := aM (kB (yF2 BK302 NB302_0.out NB302_307.out) hb); replace BK303 := aM (kB (yF2 BK303 NB303_0.out NB303_307.out) hb); replace BK307 := aM (kB (g := gb307) (o := .cells #[.int .i64 a1_0, .int .i64 0, .string (sg1_.extract 0 (t304 : Int).toNat)] 52 (0, 0)) (by (with_reducible repeat (first | refine kN ?_ _ | refine kD ?_ | refine kA ?_ _)); refine kF ?_ NB307_0.out _; (with_reducible repeat (first | refine kN ?_ _ | refine kD ?_ | refine kA ?_ _)); refine kP (cs := #[.int .i64 a1_0, .int .i64 0, .string (⟨#[]⟩ : ByteArray)]) ?_ 2 _ rfl; (with_reducible repeat (first | refine kN ?_ _ | refine kD ?_ | refine kA ?_ _)); exact BK307.out) hb); replace HK := aM (KeepBut.trans (by repeat (first | (with_reducible first | exact HK.out | apply KeepBut.set_ | apply keep_drewN | apply keep_drew | apply keep_alloc | refine keep_far ?_ GW302.out _ | refine keep_far ?_ GW303.out _ | refine keep_far ?_ GW307.out _) | exact HK.out)) (KeepBut.of_below hb g none) (.inl rfl)); replace HB := aM (bP (yG4 HB (IsS112.ge HI0.out) GE302.out GE303.out GE307.out) hb); replace HI0 := aM (IsS112.below (show IsS112 w0 ((w97.setCell ⟨gb307, 2, none⟩ (.string (sg1_.extract 0 (t304 : Int).toNat))).setCell ⟨g, 0, none⟩ (.string (sg1_.extract (t304 : Int).toNat sg1_.size))) g (sg1_.extract (t304 : Int).toNat sg1_.size) from by repeat (first | (with_reducible first | exact HI0.out | apply IsS112.alloc | apply IsS112.drewN | apply IsS112.drew | apply IsS112.set_0 | apply IsS112.far (hne := NB0_302.out) | apply IsS112.far (hne := NB0_303.out) | apply IsS112.far (hne := NB0_307.out)) | exact HI0.out)) hb); (try clear hb); (try clear hb2); (try clear hk); (try clear hi); have hnb104 := NB303_0.out; have hnc104 := NB0_303.out; obtain ⟨hcz105_0, hcz105_1, hcz105_2, hfz105_0, hfz105_1, hfz105_2⟩ := cells3 BK303.out))
             refine bodyPost_ret (results_ct rfl _ _ gb303 52 #[.int .i64 0, .int .i64 0, .string (⟨#[]⟩ : ByteArray)] (0, 0) _ rfl (puts3 BK303.out) Tryd.underlying52 rfl (by kernel_rfl)) rfl ?_
             exact ⟨yE, by repeat (first | (with_reducible first | exact HI0.out | apply IsS112.alloc | apply IsS112.drewN | apply IsS112.drew | apply IsS112.set_0 | apply IsS112.far (hne := NB0_302.out) | apply IsS112.far (hne := NB0_303.out) | apply IsS112.far (hne := NB0_307.out)) | exact HI0.out), yG4 HB (IsS112.ge HI0.out) GE302.out GE303.out GE307.out, by repeat (first | (with_reducible first | exact HK.out | apply KeepBut.set_ | apply keep_drewN | apply keep_drew | apply keep_alloc | refine keep_far ?_ GW302.out _ | refine keep_far ?_ GW303.out _ | refine keep_far ?_ GW307.out _) | exact HK.out)⟩
           ·
            rw [if_neg c74] at H
            have c74b0 : (a1_0 == 3) = false := beq_eq_false_iff_ne.mpr c74
            have c74b1 : (a1_0 != 3) = true := bne_iff_ne.mpr c74
            simp only [Option.some.injEq, Prod.mk.injEq] at H
            obtain ⟨rfl, rfl, rfl, rfl, rfl⟩ := H
            have hnb106 := NB302_303.out
            have hnc106 := NB303_302.out
            have hnb107 := NB302_307.out
            have hnc107 := NB307_302.out
            have hnb108 := NB302_0.out
            have hnc108 := NB0_302.out
            obtain ⟨hcz109_0, hcz109_1, hfz109_0, hfz109_1⟩ := cells2 BK302.out
            obtain ⟨HGz110, hgz110⟩ := HI0.out
            have hcz110_0 := cellS112_0 HGz110
            have hfz110_0 := blk_frozen HGz110 0
            clear HGz110 hgz110
            try go_wp2
            have n0_ := aM (kD BK302.out)
            have n1_ := aM (kD BK303.out)
            have n2_ := aM (kD BK307.out)
            have n3_ := aM (IsS112.drew HI0.out)
            have n4_ := aM (keep_drew HK.out)
            have n5_ := aM (b1 HB.out)
            clear BK302
            clear BK303
            clear BK307
            clear HI0
            clear HK
            clear HB
            have BK302 := n0_
            have BK303 := n1_
            have BK307 := n2_
            have HI0 := n3_
            have HK := n4_
            have HB := n5_
            clear n0_ n1_ n2_ n3_ n4_ n5_
            refine start_ (n := 18) (S := fun w' => w'.cell? ⟨g, 0, none⟩ = some (.string sg1_)) (ds := [17]) (tB 0 18) (by kernel_rfl) rfl rfl ((blk_cell (IsS112.box HI0).out 0).trans rfl) (fun hHeld => ?_); refine with_tabW rowcode_reader_value.tab15 rowcode_reader_value.bits15 (fun HT_ HW_ => ?_)
            generalize wc.drew = w111 at BK302 BK303 BK307 HI0 HK HB hHeld ⊢
            refine yP HT_ 0 69 (tB 1 18) rfl rfl ?_
            refine yP HT_ 1 70 (tB 3 18) rfl rfl ?_
            refine yP HT_ 2 71 (tB 7 18) rfl rfl ?_
            refine yP HT_ 3 72 (tB 15 18) rfl rfl ?_
            refine yP HT_ 5 74 (tB 47 18) rfl rfl ?_
            refine yP HT_ 7 76 (tB 175 18) rfl rfl ?_
            refine yP HT_ 8 77 (tB 431 18) rfl rfl ?_
            refine yP HT_ 9 78 (tB 943 18) rfl rfl ?_
            refine yP HT_ 11 80 (tB 2991 18) rfl rfl ?_
            refine yT HT_ HW_ 4 73 (tB 3007 18) rfl rfl hHeld ?_
            refine yP HT_ 6 75 (tB 3071 18) rfl rfl ?_
            refine yP HT_ 13 82 (tB 11263 18) rfl rfl ?_
            refine yT HT_ HW_ 10 79 (tB 12287 18) rfl rfl hHeld ?_
            refine yP HT_ 12 81 (tB 16383 18) rfl rfl ?_
            refine yI HT_ 14 (tB 32767 18) rfl rfl fun K hK => ?_
            have hs112 : w111.cell? ⟨gb307, 2, none⟩ = some (.string (⟨#[]⟩ : ByteArray)) := (blk_cell BK307.out 2).trans rfl
            have hfs112 := blk_frozen BK307.out 2
            have hns112_0 := NB302_307.out
            have hns112_1 := NB303_307.out
            have hms112_0 := NB307_302.out
            have hms112_1 := NB307_303.out
            refine skip_ (w1 := ?_) (by rfl) rfl ?_ ?_
            rotate_left
            ·
             go_simp
             rfl
            refine hK.out _ _ ((cF1 NB0_307.out hHeld)) (fun hHeld => ?_)
            clear hK K
            refine yP HT_ 15 83 (tB 65535 18) rfl rfl ?_
            refine yP HT_ 16 84 (tB 131071 18) rfl rfl ?_
            refine last_ (i := 17) (N := none) (tB 262143 18) rfl rfl (one_of HT_.out (by kernel_rfl)) (by decide) (fun K hK => ?_)
            try (obtain ⟨HGm, hgm⟩ := HI0.out; have hfzm0 := blk_frozen HGm 0; clear HGm hgm)
            refine skip_ (w1 := ?_) (by rfl) rfl ?_ ?_
            rotate_left
            ·
             go_simp
             rfl
            refine hK.out _ _ ?_
            clear hK K
            refine done_ (done_of HT_.out (by kernel_rfl)) ?_
            obtain ⟨hcz113_0, hcz113_1, hfz113_0, hfz113_1⟩ := cells2 BK302.out
            have hnb114 := NB307_303.out
            have hnc114 := NB303_307.out
            have hnb115 := NB307_0.out
            have hnc115 := NB0_307.out
            obtain ⟨hcz116_0, hcz116_1, hcz116_2, hfz116_0, hfz116_1, hfz116_2⟩ := cells3 BK307.out
            have hnb117 := NB303_0.out
            have hnc117 := NB0_303.out
            obtain ⟨hcz118_0, hcz118_1, hcz118_2, hfz118_0, hfz118_1, hfz118_2⟩ := cells3 BK303.out
            try go_wp2
            refine bodyPost_ret (results_ct rfl _ _ gb303 52 #[.int .i64 a1_0, .int .i64 0, .string (sg1_.extract 0 (t304 : Int).toNat)] (0, 0) _ rfl (by (with_reducible repeat (first | refine kN ?_ _ | refine kD ?_ | refine kA ?_ _)); refine kP (cs := #[.int .i64 a1_0, .int .i64 0, .string (⟨#[]⟩ : ByteArray)]) ?_ 2 _ rfl; (with_reducible repeat (first | refine kN ?_ _ | refine kD ?_ | refine kA ?_ _)); refine kP (cs := #[.int .i64 a1_0, .int .i64 0, .string (⟨#[]⟩ : ByteArray)]) ?_ 1 _ rfl; (with_reducible repeat (first | refine kN ?_ _ | refine kD ?_ | refine kA ?_ _)); refine kP (cs := #[.int .i64 0, .int .i64 0, .string (⟨#[]⟩ : ByteArray)]) ?_ 0 _ rfl; (with_reducible repeat (first | refine kN ?_ _ | refine kD ?_ | refine kA ?_ _)); refine kF ?_ NB303_0.out _; (with_reducible repeat (first | refine kN ?_ _ | refine kD ?_ | refine kA ?_ _)); refine kF ?_ NB303_307.out _; (with_reducible repeat (first | refine kN ?_ _ | refine kD ?_ | refine kA ?_ _)); exact BK303.out) Tryd.underlying52 rfl (by kernel_rfl)) rfl ?_
            exact ⟨yE, by repeat (first | (with_reducible first | exact HI0.out | apply IsS112.alloc | apply IsS112.drewN | apply IsS112.drew | apply IsS112.set_0 | apply IsS112.far (hne := NB0_302.out) | apply IsS112.far (hne := NB0_303.out) | apply IsS112.far (hne := NB0_307.out)) | exact HI0.out), yG4 HB (IsS112.ge HI0.out) GE302.out GE303.out GE307.out, by repeat (first | (with_reducible first | exact HK.out | apply KeepBut.set_ | apply keep_drewN | apply keep_drew | apply keep_alloc | refine keep_far ?_ GW302.out _ | refine keep_far ?_ GW303.out _ | refine keep_far ?_ GW307.out _) | exact HK.out)⟩
          ·
           rw [if_neg c71] at H
           exact absurd H (by simp)
         ·
          rw [if_neg c70] at H
          exact absurd H (by simp)
   ·
    rw [if_neg c6] at H
    exact absurd H (by simp)
  ·
   rw [if_neg c5] at H
   exact absurd H (by simp)
 ·
  rw [if_neg c4] at H
  have c4b0 : (t306 == 0) = false := beq_eq_false_iff_ne.mpr c4
  have c4b1 : (t306 != 0) = true := bne_iff_ne.mpr c4
  simp only [Option.some.injEq, Prod.mk.injEq] at H
  obtain ⟨rfl, rfl, rfl, rfl, rfl⟩ := H
  go_enter Tryd.func84, Tryd.ntmps84
  go_wp2_with (first | ((with_reducible refine gate_dst (N := 3) rfl ?_); refine yX (N := 3) (cs := #[.int .i64 a1_0, .int .i64 a1_1]) (t := 50) ?_; intro gb302 hg w119 hbox hb; replace HB := aM (bP (yG1 HB (IsS112.ge HI0.out)) hb); have BK302 := aM (hbox); have GW302 := aM ((by rw [hg]; exact (keep_size (w := w) (g := g) (row := none) (by repeat (first | (with_reducible first | exact HK.out | apply KeepBut.set_ | apply keep_drewN | apply keep_drew | apply keep_alloc) | exact HK.out))) : w.heap.size ≤ gb302)); have GE302 := aM ((Nat.le_trans HW0.out (by rw [hg]; exact (keep_size (w := w) (g := g) (row := none) (by repeat (first | (with_reducible first | exact HK.out | apply KeepBut.set_ | apply keep_drewN | apply keep_drew | apply keep_alloc) | exact HK.out))) : w.heap.size ≤ gb302) : w0.heap.size ≤ gb302)); replace HK := aM (KeepBut.trans (by repeat (first | (with_reducible first | exact HK.out | apply KeepBut.set_ | apply keep_drewN | apply keep_drew | apply keep_alloc) | exact HK.out)) (KeepBut.of_below hb g none) (.inl rfl)); have NB0_302 := aM ((by rw [hg]; exact Nat.ne_of_lt (IsS112.lt (show IsS112 w0 _ g s0_0 from by repeat (first | (with_reducible first | exact HI0.out | apply IsS112.alloc | apply IsS112.drewN | apply IsS112.drew | apply IsS112.set_0) | exact HI0.out))) : g ≠ gb302)); have NB302_0 := aM ((by rw [hg]; exact Nat.ne_of_gt (IsS112.lt (show IsS112 w0 _ g s0_0 from by repeat (first | (with_reducible first | exact HI0.out | apply IsS112.alloc | apply IsS112.drewN | apply IsS112.drew | apply IsS112.set_0) | exact HI0.out))) : gb302 ≠ g)); replace HI0 := aM (IsS112.below (by repeat (first | (with_reducible first | exact HI0.out | apply IsS112.alloc | apply IsS112.drewN | apply IsS112.drew | apply IsS112.set_0) | exact HI0.out)) hb); clear hb hbox hg) | ((with_reducible refine gate_dst (N := 4) rfl ?_); refine yX (N := 4) (cs := #[.int .i64 0, .int .i64 0, .string (⟨#[]⟩ : ByteArray)]) (t := 52) ?_; intro gb303 hg w120 hbox hb; replace HB := aM (bP (yG2 HB (IsS112.ge HI0.out) GE302.out) hb); have BK303 := aM (hbox); have GW303 := aM ((by rw [hg]; exact (keep_size (w := w) (g := g) (row := none) (by repeat (first | (with_reducible first | exact HK.out | apply KeepBut.set_ | apply keep_drewN | apply keep_drew | apply keep_alloc | refine keep_far ?_ GW302.out _) | exact HK.out))) : w.heap.size ≤ gb303)); have GE303 := aM ((Nat.le_trans HW0.out (by rw [hg]; exact (keep_size (w := w) (g := g) (row := none) (by repeat (first | (with_reducible first | exact HK.out | apply KeepBut.set_ | apply keep_drewN | apply keep_drew | apply keep_alloc | refine keep_far ?_ GW302.out _) | exact HK.out))) : w.heap.size ≤ gb303) : w0.heap.size ≤ gb303)); replace HK := aM (KeepBut.trans (by repeat (first | (with_reducible first | exact HK.out | apply KeepBut.set_ | apply keep_drewN | apply keep_drew | apply keep_alloc | refine keep_far ?_ GW302.out _) | exact HK.out)) (KeepBut.of_below hb g none) (.inl rfl)); have NB302_303 := yN hg (yK BK302); have NB303_302 := yM hg (yK BK302); replace BK302 := aM (kB (yK BK302) hb); have NB0_303 := aM ((by rw [hg]; exact Nat.ne_of_lt (IsS112.lt (show IsS112 w0 _ g s0_0 from by repeat (first | (with_reducible first | exact HI0.out | apply IsS112.alloc | apply IsS112.drewN | apply IsS112.drew | apply IsS112.set_0 | apply IsS112.far (hne := NB0_302.out)) | exact HI0.out))) : g ≠ gb303)); have NB303_0 := aM ((by rw [hg]; exact Nat.ne_of_gt (IsS112.lt (show IsS112 w0 _ g s0_0 from by repeat (first | (with_reducible first | exact HI0.out | apply IsS112.alloc | apply IsS112.drewN | apply IsS112.drew | apply IsS112.set_0 | apply IsS112.far (hne := NB0_302.out)) | exact HI0.out))) : gb303 ≠ g)); replace HI0 := aM (IsS112.below (by repeat (first | (with_reducible first | exact HI0.out | apply IsS112.alloc | apply IsS112.drewN | apply IsS112.drew | apply IsS112.set_0 | apply IsS112.far (hne := NB0_302.out)) | exact HI0.out)) hb); clear hb hbox hg; obtain ⟨HGz121, hgz121⟩ := HI0.out; have hcz121_0 := cellS112_0 HGz121; have hfz121_0 := blk_frozen HGz121 0; clear HGz121 hgz121) | ((with_reducible refine gate_callee (f := 99) rfl ?_); refine yC 15 Tryd.func99 #[.string s0_0] rfl ?_; (with_reducible refine (word_Long.calls k s0_0 t304 t305 t306 _ A3.out).mono ?_); rintro e w' ⟨rfl, ⟨nd, rfl⟩⟩; refine ⟨_, rfl, ?_⟩; (try (rw [drewN_self w120]; generalize hq_ : World.drewN w120 _ = w120; have n0_ : Aside0 (w120.heap[gb302]? = some (.cells #[.int .i64 a1_0, .int .i64 a1_1] 50 (0, 0))) := ⟨by rw [← hq_]; exact (yK BK302)⟩; have n1_ : Aside0 (w120.heap[gb303]? = some (.cells #[.int .i64 0, .int .i64 0, .string (⟨#[]⟩ : ByteArray)] 52 (0, 0))) := ⟨by rw [← hq_]; exact (yK BK303)⟩; have n2_ : Aside0 (IsS112 w0 w120 g s0_0) := ⟨by rw [← hq_]; exact (by repeat (first | (with_reducible first | exact HI0.out | apply IsS112.alloc | apply IsS112.drewN | apply IsS112.drew | apply IsS112.set_0 | apply IsS112.far (hne := NB0_302.out) | apply IsS112.far (hne := NB0_303.out)) | exact HI0.out))⟩; have n3_ : Aside0 (KeepBut w w120 g none) := ⟨by rw [← hq_]; exact (by repeat (first | (with_reducible first | exact HK.out | apply KeepBut.set_ | apply keep_drewN | apply keep_drew | apply keep_alloc | refine keep_far ?_ GW302.out _ | refine keep_far ?_ GW303.out _) | exact HK.out))⟩; have n4_ : Aside0 (Below w0.heap.size w0 w120) := ⟨by rw [← hq_]; exact (yG3 HB (IsS112.ge HI0.out) GE302.out GE303.out)⟩; clear BK302 BK303 HI0 HK HB hq_; have BK302 := n0_; have BK303 := n1_; have HI0 := n2_; have HK := n3_; have HB := n4_; clear n0_ n1_ n2_ n3_ n4_)); obtain ⟨HGm, hgm⟩ := HI0.out; have hczm0_0 := cellS112_0 HGm; have hfzm0_0 := blk_frozen HGm 0; clear HGm hgm; have hnb122 := NB303_302.out; have hnc122 := NB302_303.out; have hnb123 := NB303_0.out; have hnc123 := NB0_303.out; obtain ⟨hcz124_0, hcz124_1, hcz124_2, hfz124_0, hfz124_1, hfz124_2⟩ := cells3 BK303.out))
  refine bodyPost_ret (results_ct rfl _ _ gb303 52 #[.int .i64 0, .int .i64 0, .string (⟨#[]⟩ : ByteArray)] (0, 0) _ rfl (puts3 BK303.out) Tryd.underlying52 rfl (by kernel_rfl)) rfl ?_
  exact ⟨yE, by repeat (first | (with_reducible first | exact HI0.out | apply IsS112.alloc | apply IsS112.drewN | apply IsS112.drew | apply IsS112.set_0 | apply IsS112.far (hne := NB0_302.out) | apply IsS112.far (hne := NB0_303.out)) | exact HI0.out), yG3 HB (IsS112.ge HI0.out) GE302.out GE303.out, by repeat (first | (with_reducible first | exact HK.out | apply KeepBut.set_ | apply keep_drewN | apply keep_drew | apply keep_alloc | refine keep_far ?_ GW302.out _ | refine keep_far ?_ GW303.out _) | exact HK.out)⟩
end Go.Proofs.YtdeophpjammbpaaDoor.HRowcodeKeys

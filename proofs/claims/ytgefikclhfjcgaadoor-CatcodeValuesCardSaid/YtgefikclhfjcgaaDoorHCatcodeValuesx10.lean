/- For Go functions that CatcodeValues reaches: Lean functions, and walks that show that each call comes to what its Lean function tells; no condition but those that each theorem states. (Made by a program of this session over the kit's print.py.) -/
import Derived.Test.YtgefikclhfjcgaaDoorHCatcodeValuesx0
import Derived.Test.YtgefikclhfjcgaaDoorHCatcodeValuesx4
import Derived.Test.YtgefikclhfjcgaaDoorHCatcodeValuesx9
namespace Go.Proofs.YtgefikclhfjcgaaDoor.HCatcodeValues
open Go.RowKit Go.Proofs.YtgefikclhfjcgaaDoorW.PrintWords Go.Proofs.YtgefikclhfjcgaaDoorW.PrintLast Go.Proofs.YtgefikclhfjcgaaDoorW.PrintMore
attribute [local go_sem] max2_int min2_int max_two min_two max_three min_three max_four min_four   -- for this text's walks alone
set_option linter.unusedVariables false
set_option linter.unusedSimpArgs false
attribute [local go_sem] hp_s8 hp_s16 hp_s32 hp_s64 hp_m8 hp_m16 hp_m32 hp_m64
/-! ### haulagelaw11_lives: function 8 -/
def haulagelaw11_lives.f (k : Nat)  : Option (Bool) := (catcode_Catalog.f k ([] : List (S63))).bind fun bt247 => ((catcode_Value.f k 1 (-1) (⟨#[]⟩ : ByteArray)).bind fun bt249 => (if bt247.2 = 0 then (if bt249.2 = 0 then (if bt247.1.toList = ([1, 0] : List UInt8) then (some (bt249.1.toList == ([1, 1] : List UInt8))) else (some false)) else (some false)) else (some false)))
theorem haulagelaw11_lives.mono : ∀ k, LeO (haulagelaw11_lives.f k ) (haulagelaw11_lives.f (k + 1) ) := by
 intro  k
 unfold haulagelaw11_lives.f
 repeat' first | with_reducible (first | exact catcode_Catalog.mono .. | exact catcode_Value.mono .. | exact LeO.refl .. | exact LeO.none .. | refine LeO.ite ?_ ?_ | refine LeO.bind ?_ (fun _ => ?_)) | exact catcode_Catalog.mono .. | exact catcode_Value.mono .. | exact LeO.none .. | refine LeO.ite ?_ ?_ | refine LeO.bind ?_ (fun _ => ?_)
set_option maxHeartbeats 8000000 in
set_option maxRecDepth 100000 in
theorem haulagelaw11_lives.calls (k : Nat)  (r : Bool) (w : World) (hG : Glob w) (h : haulagelaw11_lives.f k  = some r) :
  Calls Tryd.prog 8 #[] w fun e w' => e = .returned (.bool r) ∧ Below w.heap.size w w' := by
 have hu37 := Tryd.underlying37
 have hu23 := Tryd.underlying23
 have HG := aM hG
 clear hG
 have HB := aM (Below.refl w.heap.size w)
 have H : ((catcode_Catalog.f k ([] : List (S63))).bind fun bt247 => ((catcode_Value.f k 1 (-1) (⟨#[]⟩ : ByteArray)).bind fun bt249 => (if bt247.2 = 0 then (if bt249.2 = 0 then (if bt247.1.toList = ([1, 0] : List UInt8) then (some (bt249.1.toList == ([1, 1] : List UInt8))) else (some false)) else (some false)) else (some false)))) = some r := h
 clear h
 obtain ⟨⟨t247, t248⟩, A1, H⟩ := yb H
 try dsimp -simprocs only at H
 obtain ⟨⟨t249, t250⟩, A2, H⟩ := yb H
 try dsimp -simprocs only at H
 by_cases c3 : t248 = 0
 ·
  rw [if_pos c3] at H
  have c3b0 : (t248 == 0) = true := beq_iff_eq.mpr c3
  have c3b1 : (t248 != 0) = false := bne_eq_false_iff_eq.mpr c3
  clear c3
  by_cases c4 : t250 = 0
  ·
   rw [if_pos c4] at H
   have c4b0 : (t250 == 0) = true := beq_iff_eq.mpr c4
   have c4b1 : (t250 != 0) = false := bne_eq_false_iff_eq.mpr c4
   clear c4
   by_cases c5 : t247.toList = ([1, 0] : List UInt8)
   ·
    rw [if_pos c5] at H
    have c5b0 : (t247.toList == ([1, 0] : List UInt8)) = true := beq_iff_eq.mpr c5
    have c5b1 : (t247.toList != ([1, 0] : List UInt8)) = false := bne_eq_false_iff_eq.mpr c5
    clear c5
    obtain rfl := Option.some.inj H
    go_enter Tryd.func8, Tryd.ntmps8
    go_wp2_with (first | ((with_reducible refine gate_callee (f := 15) rfl ?_); refine yC 7 Tryd.func15 #[.agg #[.slice none 0 0]] rfl ?_; (refine (catcode_Catalog.calls k _ _ ([] : List (S63)) t247 t248 _ ?side1 ?side2 ?side3 A1.out).mono ?_); (case side1 => exact Kd.C_nil _ _); (case side2 => exact Nat.le_refl _); (case side3 => first | (with_reducible exact HG.out) | exact Glob.below HG.out (yB HB)); rintro e w6 ⟨rfl, hb⟩; refine ⟨_, rfl, ?_⟩; replace HB := aM (bP (yB HB) hb); (try clear hb)) | ((with_reducible refine gate_callee (f := 9) rfl ?_); refine yC 12 Tryd.func9 #[.agg #[.int .i64 1, .int .i64 (-1), .string (⟨#[]⟩ : ByteArray)]] rfl ?_; (with_reducible refine (catcode_Value.calls k 1 (-1) (⟨#[]⟩ : ByteArray) t249 t250 _ ?side1 A2.out).mono ?_); (case side1 => first | (with_reducible exact HG.out) | exact Glob.below HG.out (yB HB)); rintro e w7 ⟨rfl, hb⟩; refine ⟨_, rfl, ?_⟩; replace HB := aM (bP (yB HB) hb); (try clear hb)))
    go_ret
    exact ⟨yE, yB HB⟩
   ·
    rw [if_neg c5] at H
    have c5b0 : (t247.toList == ([1, 0] : List UInt8)) = false := beq_eq_false_iff_ne.mpr c5
    have c5b1 : (t247.toList != ([1, 0] : List UInt8)) = true := bne_iff_ne.mpr c5
    obtain rfl := Option.some.inj H
    go_enter Tryd.func8, Tryd.ntmps8
    go_wp2_with (first | ((with_reducible refine gate_callee (f := 15) rfl ?_); refine yC 7 Tryd.func15 #[.agg #[.slice none 0 0]] rfl ?_; (refine (catcode_Catalog.calls k _ _ ([] : List (S63)) t247 t248 _ ?side1 ?side2 ?side3 A1.out).mono ?_); (case side1 => exact Kd.C_nil _ _); (case side2 => exact Nat.le_refl _); (case side3 => first | (with_reducible exact HG.out) | exact Glob.below HG.out (yB HB)); rintro e w8 ⟨rfl, hb⟩; refine ⟨_, rfl, ?_⟩; replace HB := aM (bP (yB HB) hb); (try clear hb)) | ((with_reducible refine gate_callee (f := 9) rfl ?_); refine yC 12 Tryd.func9 #[.agg #[.int .i64 1, .int .i64 (-1), .string (⟨#[]⟩ : ByteArray)]] rfl ?_; (with_reducible refine (catcode_Value.calls k 1 (-1) (⟨#[]⟩ : ByteArray) t249 t250 _ ?side1 A2.out).mono ?_); (case side1 => first | (with_reducible exact HG.out) | exact Glob.below HG.out (yB HB)); rintro e w9 ⟨rfl, hb⟩; refine ⟨_, rfl, ?_⟩; replace HB := aM (bP (yB HB) hb); (try clear hb)))
    go_ret
    exact ⟨yE, yB HB⟩
  ·
   rw [if_neg c4] at H
   have c4b0 : (t250 == 0) = false := beq_eq_false_iff_ne.mpr c4
   have c4b1 : (t250 != 0) = true := bne_iff_ne.mpr c4
   obtain rfl := Option.some.inj H
   go_enter Tryd.func8, Tryd.ntmps8
   go_wp2_with (first | ((with_reducible refine gate_callee (f := 15) rfl ?_); refine yC 7 Tryd.func15 #[.agg #[.slice none 0 0]] rfl ?_; (refine (catcode_Catalog.calls k _ _ ([] : List (S63)) t247 t248 _ ?side1 ?side2 ?side3 A1.out).mono ?_); (case side1 => exact Kd.C_nil _ _); (case side2 => exact Nat.le_refl _); (case side3 => first | (with_reducible exact HG.out) | exact Glob.below HG.out (yB HB)); rintro e w10 ⟨rfl, hb⟩; refine ⟨_, rfl, ?_⟩; replace HB := aM (bP (yB HB) hb); (try clear hb)) | ((with_reducible refine gate_callee (f := 9) rfl ?_); refine yC 12 Tryd.func9 #[.agg #[.int .i64 1, .int .i64 (-1), .string (⟨#[]⟩ : ByteArray)]] rfl ?_; (with_reducible refine (catcode_Value.calls k 1 (-1) (⟨#[]⟩ : ByteArray) t249 t250 _ ?side1 A2.out).mono ?_); (case side1 => first | (with_reducible exact HG.out) | exact Glob.below HG.out (yB HB)); rintro e w11 ⟨rfl, hb⟩; refine ⟨_, rfl, ?_⟩; replace HB := aM (bP (yB HB) hb); (try clear hb)))
   go_ret
   exact ⟨yE, yB HB⟩
 ·
  rw [if_neg c3] at H
  have c3b0 : (t248 == 0) = false := beq_eq_false_iff_ne.mpr c3
  have c3b1 : (t248 != 0) = true := bne_iff_ne.mpr c3
  obtain rfl := Option.some.inj H
  go_enter Tryd.func8, Tryd.ntmps8
  go_wp2_with (first | ((with_reducible refine gate_callee (f := 15) rfl ?_); refine yC 7 Tryd.func15 #[.agg #[.slice none 0 0]] rfl ?_; (refine (catcode_Catalog.calls k _ _ ([] : List (S63)) t247 t248 _ ?side1 ?side2 ?side3 A1.out).mono ?_); (case side1 => exact Kd.C_nil _ _); (case side2 => exact Nat.le_refl _); (case side3 => first | (with_reducible exact HG.out) | exact Glob.below HG.out (yB HB)); rintro e w12 ⟨rfl, hb⟩; refine ⟨_, rfl, ?_⟩; replace HB := aM (bP (yB HB) hb); (try clear hb)) | ((with_reducible refine gate_callee (f := 9) rfl ?_); refine yC 12 Tryd.func9 #[.agg #[.int .i64 1, .int .i64 (-1), .string (⟨#[]⟩ : ByteArray)]] rfl ?_; (with_reducible refine (catcode_Value.calls k 1 (-1) (⟨#[]⟩ : ByteArray) t249 t250 _ ?side1 A2.out).mono ?_); (case side1 => first | (with_reducible exact HG.out) | exact Glob.below HG.out (yB HB)); rintro e w13 ⟨rfl, hb⟩; refine ⟨_, rfl, ?_⟩; replace HB := aM (bP (yB HB) hb); (try clear hb)))
  go_ret
  exact ⟨yE, yB HB⟩
/-- A state of type 82 at block g of W; what its slices lead to came in by w0. -/
def IsS82 (w0 W : World) (g : Nat) (f0 : ByteArray) (f1 : Int) : Prop := W.heap[g]? = some (.cells #[.string f0, .int .i64 f1] 82 (0, 0)) ∧ w0.heap.size ≤ g
theorem IsS82.grown {w0 W : World} {g : Nat} {f0 : ByteArray} {f1 : Int} {W1 : World} {row : Option Nat} (h : IsS82 w0 W g f0 f1) (hw : W.grownBy W1 row) (hne : some g ≠ row) : IsS82 w0 W1 g f0 f1 := by
 obtain ⟨hb, hg⟩ := h
 exact ⟨blk_grown hb hw hne, hg⟩
theorem IsS82.own_neN {w0 W : World} {g : Nat} {f0 : ByteArray} {f1 : Int} {α : Type} {d : Kd α} {e : Nat} {base : Nat} {ok : Nat → Prop} {v : Value} {xs : List α} (h : IsS82 w0 W g f0 f1) (ho : Kd.N d e W base ok v xs) (ht : e ≠ 82) : some g ≠ v.ownBlock := by
 obtain ⟨hb, hg⟩ := h
 exact Kd.N_ne ho hb ht
theorem IsS82.fresh {w0 W : World} {g : Nat} {f0 : ByteArray} {f1 : Int} (h : IsS82 w0 W g f0 f1) : ∀ k, W.heap.size ≤ k → k ≠ g := by
 obtain ⟨hb, hg⟩ := h
 exact Kd.freshB hb
theorem IsS82.kept {w0 W : World} {g : Nat} {f0 : ByteArray} {f1 : Int} {W1 : World} {S : Nat → Prop} (h : IsS82 w0 W g f0 f1) (hk : Kept W W1 S) (hne : ¬ S g) : IsS82 w0 W1 g f0 f1 := by
 obtain ⟨hb, hg⟩ := h
 exact ⟨blk_kept hb hk hne, hg⟩
theorem IsS82.below {w0 W : World} {g : Nat} {f0 : ByteArray} {f1 : Int} {W1 : World} (h : IsS82 w0 W g f0 f1) (hw : Below W.heap.size W W1) : IsS82 w0 W1 g f0 f1 := h.grown (grown_of_below hw none) (by simp)
theorem IsS82.alloc {w0 W : World} {g : Nat} {f0 : ByteArray} {f1 : Int} (h : IsS82 w0 W g f0 f1) (o : Obj) : IsS82 w0 (W.alloc o) g f0 f1 := h.below (bA (Below.refl _ _) o)
theorem IsS82.drewN {w0 W : World} {g : Nat} {f0 : ByteArray} {f1 : Int} (h : IsS82 w0 W g f0 f1) (m : Nat) : IsS82 w0 (W.drewN m) g f0 f1 := h
theorem IsS82.drew {w0 W : World} {g : Nat} {f0 : ByteArray} {f1 : Int} (h : IsS82 w0 W g f0 f1) : IsS82 w0 W.drew g f0 f1 := h
theorem IsS82.at_ {w0 W : World} {g : Nat} {f0 : ByteArray} {f1 : Int} {w' : World} {m : Nat} (hq : W.drewN m = w') (h : IsS82 w0 W g f0 f1) : IsS82 w0 w' g f0 f1 := by subst hq; exact IsS82.drewN h m
theorem IsS82.apart {w0 W : World} {g : Nat} {f0 : ByteArray} {f1 : Int} {α : Type} {d : Kd α} {e : Nat} {base : Nat} {ok : Nat → Prop} {v : Value} {xs : List α} (h : IsS82 w0 W g f0 f1) (ho : d.R e W base ok v xs) (ht : ∀ q, q ∈ e :: d.E → q ≠ 82) : d.R e W base (fun k => ok k ∧ k ≠ g) v xs := by
 obtain ⟨hb, hg⟩ := h
 exact Kd.R_types ho hb ht
theorem IsS82.own_ne {w0 W : World} {g : Nat} {f0 : ByteArray} {f1 : Int} {α : Type} {d : Kd α} {e : Nat} {base : Nat} {ok : Nat → Prop} {v : Value} {xs : List α} (h : IsS82 w0 W g f0 f1) (ho : d.R e W base ok v xs) (ht : e ≠ 82) : some g ≠ v.ownBlock := by
 obtain ⟨hb, hg⟩ := h
 exact Kd.R_ne ho hb ht
theorem IsS82.apartQ {w0 W : World} {g : Nat} {f0 : ByteArray} {f1 : Int} {α : Type} {d : Kd α} {e : Nat} {base : Nat} {ok : Nat → Prop} {v : Value} {xs : List α} (h : IsS82 w0 W g f0 f1) (ho : d.Q e W base ok v xs) (ht : ∀ q, q ∈ e :: d.E → q ≠ 82) : d.Q e W base (fun k => ok k ∧ k ≠ g) v xs := by
 obtain ⟨hb, hg⟩ := h
 exact Kd.Q_types ho hb ht
theorem IsS82.own_neQ {w0 W : World} {g : Nat} {f0 : ByteArray} {f1 : Int} {α : Type} {d : Kd α} {e : Nat} {base : Nat} {ok : Nat → Prop} {v : Value} {xs : List α} (h : IsS82 w0 W g f0 f1) (ho : d.Q e W base ok v xs) (ht : e ≠ 82) : some g ≠ v.ownBlock := by
 obtain ⟨hb, hg⟩ := h
 exact Kd.Q_ne ho hb ht
theorem IsS82.apartS {w0 W : World} {g : Nat} {f0 : ByteArray} {f1 : Int} {α : Type} {d : Kd α} {e : Nat} {base : Nat} {ok : Nat → Prop} {v : Value} {xs : List α} (h : IsS82 w0 W g f0 f1) (ho : d.S e W base ok v xs) (ht : ∀ q, q ∈ e :: d.E → q ≠ 82) : d.S e W base (fun k => ok k ∧ k ≠ g) v xs := by
 obtain ⟨hb, hg⟩ := h
 exact Kd.S_types ho hb ht
theorem IsS82.own_neS {w0 W : World} {g : Nat} {f0 : ByteArray} {f1 : Int} {α : Type} {d : Kd α} {e : Nat} {base : Nat} {ok : Nat → Prop} {v : Value} {xs : List α} (h : IsS82 w0 W g f0 f1) (ho : d.S e W base ok v xs) (ht : e ≠ 82) : some g ≠ v.ownBlock := by
 obtain ⟨hb, hg⟩ := h
 exact Kd.S_ne ho hb ht
theorem IsS82.lt {w0 W : World} {g : Nat} {f0 : ByteArray} {f1 : Int} (h : IsS82 w0 W g f0 f1) : g < W.heap.size := by
 obtain ⟨hb, hg⟩ := h
 exact blk_lt hb
theorem IsS82.ge {w0 W : World} {g : Nat} {f0 : ByteArray} {f1 : Int} (h : IsS82 w0 W g f0 f1) : w0.heap.size ≤ g := by
 obtain ⟨hb, hg⟩ := h
 exact hg
theorem IsS82.ne_blk {w0 W : World} {g : Nat} {f0 : ByteArray} {f1 : Int} {a : Nat} {cs : Array Value} {t : TypeId} {fr : Nat × Nat} (h : IsS82 w0 W g f0 f1) (hb2 : W.heap[a]? = some (.cells cs t fr)) (ht : t ≠ 82) : g ≠ a := by
 obtain ⟨hb, hg⟩ := h
 rintro rfl
 rw [hb] at hb2
 injection hb2 with hb2
 injection hb2 with _ ht2
 exact ht ht2.symm
theorem IsS82.far {w0 W : World} {g : Nat} {f0 : ByteArray} {f1 : Int} {p : Addr} (h : IsS82 w0 W g f0 f1) (hne : g ≠ p.block) (u : Value) : IsS82 w0 (W.setCell p u) g f0 f1 := by
 obtain ⟨hb, hg⟩ := h
 exact ⟨kF hb hne u, hg⟩
theorem cellS82_0 {W : World} {g : Nat} {f0 : ByteArray} {f1 : Int} (h : W.heap[g]? = some (.cells #[.string f0, .int .i64 f1] 82 (0, 0))) : W.cell? ⟨g, 0, none⟩ = some (.string f0) := (blk_cell h 0).trans rfl
theorem IsS82.set_0 {w0 W : World} {g : Nat} {f0 : ByteArray} {f1 : Int} (h : IsS82 w0 W g f0 f1) (x : ByteArray) : IsS82 w0 (W.setCell ⟨g, 0, none⟩ (.string x)) g x f1 := by
 obtain ⟨hb, hg⟩ := h
 exact ⟨by simpa using blk_set hb 0 (.string x), hg⟩
theorem cellS82_1 {W : World} {g : Nat} {f0 : ByteArray} {f1 : Int} (h : W.heap[g]? = some (.cells #[.string f0, .int .i64 f1] 82 (0, 0))) : W.cell? ⟨g, 1, none⟩ = some (.int .i64 f1) := (blk_cell h 1).trans rfl
theorem IsS82.set_1 {w0 W : World} {g : Nat} {f0 : ByteArray} {f1 : Int} (h : IsS82 w0 W g f0 f1) (x : Int) : IsS82 w0 (W.setCell ⟨g, 1, none⟩ (.int .i64 x)) g f0 x := by
 obtain ⟨hb, hg⟩ := h
 exact ⟨by simpa using blk_set hb 1 (.int .i64 x), hg⟩
theorem IsS82.new (w0 W : World) (f0 : ByteArray) (f1 : Int) (hB : Below w0.heap.size w0 W) : IsS82 w0 (W.alloc (.cells #[.string f0, .int .i64 f1] 82)) W.heap.size f0 f1 := ⟨by simpa using heap_alloc_new W _, hB.size⟩
theorem IsS82.box {w0 W : World} {g : Nat} {f0 : ByteArray} {f1 : Int} (h : Aside0 (IsS82 w0 W g f0 f1)) : Aside0 (W.heap[g]? = some (.cells #[.string f0, .int .i64 f1] 82 (0, 0))) := ⟨h.out.1⟩
/-! ### catcode_reader_fail: function 96 -/
def catcode_reader_fail.f (s0_0 : ByteArray) (s0_1 : Int) (a1 : Int) : Option (ByteArray × Int) := if s0_1 = 0 then (some (s0_0, a1)) else (some (s0_0, s0_1))
set_option maxHeartbeats 8000000 in
set_option maxRecDepth 100000 in
theorem catcode_reader_fail.calls (g : Nat) (s0_0 : ByteArray) (s0_1 : Int) (a1 : Int) (r1 : ByteArray) (r2 : Int) (w0 w : World) (hI : IsS82 w0 w g s0_0 s0_1) (hB : Below w0.heap.size w0 w) (h : catcode_reader_fail.f s0_0 s0_1 a1 = some (r1, r2)) :
  Calls Tryd.prog 96 #[.pointer (some ⟨g, 0, none⟩), .int .i64 a1] w fun e w' => e = .returned (.tuple #[]) ∧ IsS82 w0 w' g r1 r2 ∧ Below w0.heap.size w0 w' ∧ KeepBut w w' g none := by
 have HI0 := aM hI
 have HK := aM (KeepBut.refl w g none)
 have HL := aM hB.size
 clear hI
 have HW0 := aM hB.size
 have HB := aM hB
 clear hB
 have H : (if s0_1 = 0 then (some (s0_0, a1)) else (some (s0_0, s0_1))) = some (r1, r2) := h
 clear h
 by_cases c3 : s0_1 = 0
 ·
  rw [if_pos c3] at H
  have c3b0 : (s0_1 == 0) = true := beq_iff_eq.mpr c3
  have c3b1 : (s0_1 != 0) = false := bne_eq_false_iff_eq.mpr c3
  clear c3
  simp only [Option.some.injEq, Prod.mk.injEq] at H
  obtain ⟨rfl, rfl⟩ := H
  obtain ⟨HGz4, hgz4⟩ := HI0.out
  have hcz4_0 := cellS82_0 HGz4
  have hcz4_1 := cellS82_1 HGz4
  have hfz4_0 := blk_frozen HGz4 0
  have hfz4_1 := blk_frozen HGz4 1
  clear HGz4 hgz4
  go_enter Tryd.func96, Tryd.ntmps96
  go_wp2
  first | go_end0 | ((try simp only [Exit.inBlock, Exit.then]); refine bodyPost_ret (results_none rfl _ _ _) rfl ?_)
  exact ⟨yE, by repeat (first | (with_reducible first | exact HI0.out | apply IsS82.alloc | apply IsS82.drewN | apply IsS82.drew | apply IsS82.set_0 | apply IsS82.set_1) | exact HI0.out), yG1 HB (IsS82.ge HI0.out), by repeat (first | (with_reducible first | exact HK.out | apply KeepBut.set_ | apply keep_drewN | apply keep_drew | apply keep_alloc) | exact HK.out)⟩
 ·
  rw [if_neg c3] at H
  have c3b0 : (s0_1 == 0) = false := beq_eq_false_iff_ne.mpr c3
  have c3b1 : (s0_1 != 0) = true := bne_iff_ne.mpr c3
  simp only [Option.some.injEq, Prod.mk.injEq] at H
  obtain ⟨rfl, rfl⟩ := H
  obtain ⟨HGz5, hgz5⟩ := HI0.out
  have hcz5_0 := cellS82_0 HGz5
  have hcz5_1 := cellS82_1 HGz5
  have hfz5_0 := blk_frozen HGz5 0
  have hfz5_1 := blk_frozen HGz5 1
  clear HGz5 hgz5
  go_enter Tryd.func96, Tryd.ntmps96
  go_wp2
  first | go_end0 | ((try simp only [Exit.inBlock, Exit.then]); refine bodyPost_ret (results_none rfl _ _ _) rfl ?_)
  exact ⟨yE, by repeat (first | (with_reducible first | exact HI0.out | apply IsS82.alloc | apply IsS82.drewN | apply IsS82.drew | apply IsS82.set_0 | apply IsS82.set_1) | exact HI0.out), yG1 HB (IsS82.ge HI0.out), by repeat (first | (with_reducible first | exact HK.out | apply KeepBut.set_ | apply keep_drewN | apply keep_drew | apply keep_alloc) | exact HK.out)⟩
/-! ### catcode_reader_one: function 50 -/
def catcode_reader_one.f (s0_0 : ByteArray) (s0_1 : Int) (a1 : Int) (a2 : Int) : Option (Int × ByteArray × Int) := if s0_1 = 0 then (if s0_0.toList = ([] : List UInt8) then ((catcode_reader_fail.f s0_0 s0_1 4).bind fun bt251 => (some (0, bt251.1, bt251.2))) else (if 0 < (s0_0.size : Int) then (if (bt s0_0 0) < a1 then ((catcode_reader_fail.f s0_0 s0_1 5).bind fun bt253 => (some (0, bt253.1, bt253.2))) else (if (bt s0_0 0) > a2 then ((catcode_reader_fail.f s0_0 s0_1 5).bind fun bt255 => (some (0, bt255.1, bt255.2))) else (if 1 ≤ (s0_0.size : Int) then (some (bt s0_0 0, s0_0.extract 1 s0_0.size, s0_1)) else (none)))) else (none))) else (some (0, s0_0, s0_1))
set_option maxHeartbeats 8000000 in
set_option maxRecDepth 100000 in
theorem catcode_reader_one.calls (g : Nat) (s0_0 : ByteArray) (s0_1 : Int) (a1 : Int) (a2 : Int) (r1 : Int) (r2 : ByteArray) (r3 : Int) (w0 w : World) (hI : IsS82 w0 w g s0_0 s0_1) (hB : Below w0.heap.size w0 w) (h : catcode_reader_one.f s0_0 s0_1 a1 a2 = some (r1, r2, r3)) :
  Calls Tryd.prog 50 #[.pointer (some ⟨g, 0, none⟩), .int .u8 a1, .int .u8 a2] w fun e w' => e = .returned (.int .u8 r1) ∧ IsS82 w0 w' g r2 r3 ∧ Below w0.heap.size w0 w' ∧ KeepBut w w' g none := by
 have HI0 := aM hI
 have HK := aM (KeepBut.refl w g none)
 have HL := aM hB.size
 clear hI
 have HW0 := aM hB.size
 have HB := aM hB
 clear hB
 have H : (if s0_1 = 0 then (if s0_0.toList = ([] : List UInt8) then ((catcode_reader_fail.f s0_0 s0_1 4).bind fun bt251 => (some (0, bt251.1, bt251.2))) else (if 0 < (s0_0.size : Int) then (if (bt s0_0 0) < a1 then ((catcode_reader_fail.f s0_0 s0_1 5).bind fun bt253 => (some (0, bt253.1, bt253.2))) else (if (bt s0_0 0) > a2 then ((catcode_reader_fail.f s0_0 s0_1 5).bind fun bt255 => (some (0, bt255.1, bt255.2))) else (if 1 ≤ (s0_0.size : Int) then (some (bt s0_0 0, s0_0.extract 1 s0_0.size, s0_1)) else (none)))) else (none))) else (some (0, s0_0, s0_1))) = some (r1, r2, r3) := h
 clear h
 by_cases c4 : s0_1 = 0
 ·
  rw [if_pos c4] at H
  have c4b0 : (s0_1 == 0) = true := beq_iff_eq.mpr c4
  have c4b1 : (s0_1 != 0) = false := bne_eq_false_iff_eq.mpr c4
  clear c4
  by_cases c5 : s0_0.toList = ([] : List UInt8)
  ·
   rw [if_pos c5] at H
   have c5b0 : (s0_0.toList == ([] : List UInt8)) = true := beq_iff_eq.mpr c5
   have c5b1 : (s0_0.toList != ([] : List UInt8)) = false := bne_eq_false_iff_eq.mpr c5
   clear c5
   obtain ⟨⟨t251, t252⟩, A6, H⟩ := yb H
   try dsimp -simprocs only at H
   simp only [Option.some.injEq, Prod.mk.injEq] at H
   obtain ⟨rfl, rfl, rfl⟩ := H
   obtain ⟨HGz7, hgz7⟩ := HI0.out
   have hcz7_0 := cellS82_0 HGz7
   have hcz7_1 := cellS82_1 HGz7
   have hfz7_0 := blk_frozen HGz7 0
   have hfz7_1 := blk_frozen HGz7 1
   clear HGz7 hgz7
   go_enter Tryd.func50, Tryd.ntmps50
   go_wp2_with (first | ((with_reducible refine gate_callee (f := 96) rfl ?_); refine yC 35 Tryd.func96 #[.pointer (some ⟨g, 0, none⟩), .int .i64 4] rfl ?_; (with_reducible refine (catcode_reader_fail.calls g s0_0 s0_1 4 t251 t252 w0 _ ?side1 ?side2 A6.out).mono ?_); (case side1 => repeat (first | (with_reducible first | exact HI0.out | apply IsS82.alloc | apply IsS82.drewN | apply IsS82.drew | apply IsS82.set_0 | apply IsS82.set_1) | exact HI0.out)); (case side2 => exact yG1 HB (IsS82.ge HI0.out)); rintro e w8 ⟨rfl, hi, hb, hk⟩; refine ⟨_, rfl, ?_⟩; replace HK := aM (KeepBut.trans (by repeat (first | (with_reducible first | exact HK.out | apply KeepBut.set_ | apply keep_drewN | apply keep_drew | apply keep_alloc) | exact HK.out)) hk (.inl rfl)); replace HB := aM (hb); replace HI0 := aM (hi); (try clear hb); (try clear hk); (try clear hi)))
   go_ret
   exact ⟨yE, by repeat (first | (with_reducible first | exact HI0.out | apply IsS82.alloc | apply IsS82.drewN | apply IsS82.drew | apply IsS82.set_0 | apply IsS82.set_1) | exact HI0.out), yG1 HB (IsS82.ge HI0.out), by repeat (first | (with_reducible first | exact HK.out | apply KeepBut.set_ | apply keep_drewN | apply keep_drew | apply keep_alloc) | exact HK.out)⟩
  ·
   rw [if_neg c5] at H
   have c5b0 : (s0_0.toList == ([] : List UInt8)) = false := beq_eq_false_iff_ne.mpr c5
   have c5b1 : (s0_0.toList != ([] : List UInt8)) = true := bne_iff_ne.mpr c5
   by_cases c9 : 0 < (s0_0.size : Int)
   ·
    rw [if_pos c9] at H
    have c9b0 : decide (0 < (s0_0.size : Int)) = true := decide_eq_true c9
    have c9b1 : decide (0 < s0_0.size) = true := decide_eq_true (by omega)
    clear c9
    by_cases c11 : (bt s0_0 0) < a1
    ·
     rw [if_pos c11] at H
     have c11b0 : decide ((bt s0_0 0) < a1) = true := decide_eq_true c11
     clear c11
     obtain ⟨⟨t253, t254⟩, A12, H⟩ := yb H
     try dsimp -simprocs only at H
     simp only [Option.some.injEq, Prod.mk.injEq] at H
     obtain ⟨rfl, rfl, rfl⟩ := H
     obtain ⟨HGz13, hgz13⟩ := HI0.out
     have hcz13_0 := cellS82_0 HGz13
     have hcz13_1 := cellS82_1 HGz13
     have hfz13_0 := blk_frozen HGz13 0
     have hfz13_1 := blk_frozen HGz13 1
     clear HGz13 hgz13
     have p10 : 0 ≤ (0 : Int) := (by omega)
     have q10 : 0 < s0_0.size := (by have : (0 : Int) < (s0_0.size : Int) := oD yA; omega)
     have hx10 : ∀ h : 0 < s0_0.size, ((s0_0[0]'h).toNat : Int) = bt s0_0 0 := bt_at s0_0 0
     clear p10
     have qi10 : (0 < (s0_0.size : Int)) = True := eq_true (oD yA)
     replace q10 := eq_true q10
     go_enter Tryd.func50, Tryd.ntmps50
     go_wp2_with (first | ((with_reducible refine gate_callee (f := 96) rfl ?_); refine yC 54 Tryd.func96 #[.pointer (some ⟨g, 0, none⟩), .int .i64 5] rfl ?_; (with_reducible refine (catcode_reader_fail.calls g s0_0 s0_1 5 t253 t254 w0 _ ?side1 ?side2 A12.out).mono ?_); (case side1 => repeat (first | (with_reducible first | exact HI0.out | apply IsS82.alloc | apply IsS82.drewN | apply IsS82.drew | apply IsS82.set_0 | apply IsS82.set_1) | exact HI0.out)); (case side2 => exact yG1 HB (IsS82.ge HI0.out)); rintro e w14 ⟨rfl, hi, hb, hk⟩; refine ⟨_, rfl, ?_⟩; replace HK := aM (KeepBut.trans (by repeat (first | (with_reducible first | exact HK.out | apply KeepBut.set_ | apply keep_drewN | apply keep_drew | apply keep_alloc) | exact HK.out)) hk (.inl rfl)); replace HB := aM (hb); replace HI0 := aM (hi); (try clear hb); (try clear hk); (try clear hi)))
     go_ret
     exact ⟨yE, by repeat (first | (with_reducible first | exact HI0.out | apply IsS82.alloc | apply IsS82.drewN | apply IsS82.drew | apply IsS82.set_0 | apply IsS82.set_1) | exact HI0.out), yG1 HB (IsS82.ge HI0.out), by repeat (first | (with_reducible first | exact HK.out | apply KeepBut.set_ | apply keep_drewN | apply keep_drew | apply keep_alloc) | exact HK.out)⟩
    ·
     rw [if_neg c11] at H
     have c11b0 : decide ((bt s0_0 0) < a1) = false := decide_eq_false c11
     clear c11
     by_cases c16 : (bt s0_0 0) > a2
     ·
      rw [if_pos c16] at H
      have c16b0 : decide (a2 < (bt s0_0 0)) = true := decide_eq_true c16
      clear c16
      obtain ⟨⟨t255, t256⟩, A17, H⟩ := yb H
      try dsimp -simprocs only at H
      simp only [Option.some.injEq, Prod.mk.injEq] at H
      obtain ⟨rfl, rfl, rfl⟩ := H
      obtain ⟨HGz18, hgz18⟩ := HI0.out
      have hcz18_0 := cellS82_0 HGz18
      have hcz18_1 := cellS82_1 HGz18
      have hfz18_0 := blk_frozen HGz18 0
      have hfz18_1 := blk_frozen HGz18 1
      clear HGz18 hgz18
      have p10 : 0 ≤ (0 : Int) := (by omega)
      have q10 : 0 < s0_0.size := (by have : (0 : Int) < (s0_0.size : Int) := oD yA; omega)
      have hx10 : ∀ h : 0 < s0_0.size, ((s0_0[0]'h).toNat : Int) = bt s0_0 0 := bt_at s0_0 0
      clear p10
      have qi10 : (0 < (s0_0.size : Int)) = True := eq_true (oD yA)
      replace q10 := eq_true q10
      have p15 : 0 ≤ (0 : Int) := (by omega)
      have q15 : 0 < s0_0.size := (by have : (0 : Int) < (s0_0.size : Int) := oD yA; omega)
      have hx15 : ∀ h : 0 < s0_0.size, ((s0_0[0]'h).toNat : Int) = bt s0_0 0 := bt_at s0_0 0
      clear p15
      have qi15 : (0 < (s0_0.size : Int)) = True := eq_true (oD yA)
      replace q15 := eq_true q15
      go_enter Tryd.func50, Tryd.ntmps50
      go_wp2_with (first | ((with_reducible refine gate_callee (f := 96) rfl ?_); refine yC 54 Tryd.func96 #[.pointer (some ⟨g, 0, none⟩), .int .i64 5] rfl ?_; (with_reducible refine (catcode_reader_fail.calls g s0_0 s0_1 5 t255 t256 w0 _ ?side1 ?side2 A17.out).mono ?_); (case side1 => repeat (first | (with_reducible first | exact HI0.out | apply IsS82.alloc | apply IsS82.drewN | apply IsS82.drew | apply IsS82.set_0 | apply IsS82.set_1) | exact HI0.out)); (case side2 => exact yG1 HB (IsS82.ge HI0.out)); rintro e w19 ⟨rfl, hi, hb, hk⟩; refine ⟨_, rfl, ?_⟩; replace HK := aM (KeepBut.trans (by repeat (first | (with_reducible first | exact HK.out | apply KeepBut.set_ | apply keep_drewN | apply keep_drew | apply keep_alloc) | exact HK.out)) hk (.inl rfl)); replace HB := aM (hb); replace HI0 := aM (hi); (try clear hb); (try clear hk); (try clear hi)))
      go_ret
      exact ⟨yE, by repeat (first | (with_reducible first | exact HI0.out | apply IsS82.alloc | apply IsS82.drewN | apply IsS82.drew | apply IsS82.set_0 | apply IsS82.set_1) | exact HI0.out), yG1 HB (IsS82.ge HI0.out), by repeat (first | (with_reducible first | exact HK.out | apply KeepBut.set_ | apply keep_drewN | apply keep_drew | apply keep_alloc) | exact HK.out)⟩
     ·
      rw [if_neg c16] at H
      have c16b0 : decide (a2 < (bt s0_0 0)) = false := decide_eq_false c16
      clear c16
      by_cases c21 : 1 ≤ (s0_0.size : Int)
      ·
       rw [if_pos c21] at H
       have c21b0 := eq_true c21
       have c21b1 : decide (1 ≤ (s0_0.size : Int)) = true := decide_eq_true c21
       clear c21
       simp only [Option.some.injEq, Prod.mk.injEq] at H
       obtain ⟨rfl, rfl, rfl⟩ := H
       obtain ⟨HGz22, hgz22⟩ := HI0.out
       have hcz22_0 := cellS82_0 HGz22
       have hcz22_1 := cellS82_1 HGz22
       have hfz22_0 := blk_frozen HGz22 0
       have hfz22_1 := blk_frozen HGz22 1
       clear HGz22 hgz22
       have p10 : 0 ≤ (0 : Int) := (by omega)
       have q10 : 0 < s0_0.size := (by have : (0 : Int) < (s0_0.size : Int) := oD yA; omega)
       have hx10 : ∀ h : 0 < s0_0.size, ((s0_0[0]'h).toNat : Int) = bt s0_0 0 := bt_at s0_0 0
       clear p10
       have qi10 : (0 < (s0_0.size : Int)) = True := eq_true (oD yA)
       replace q10 := eq_true q10
       have p15 : 0 ≤ (0 : Int) := (by omega)
       have q15 : 0 < s0_0.size := (by have : (0 : Int) < (s0_0.size : Int) := oD yA; omega)
       have hx15 : ∀ h : 0 < s0_0.size, ((s0_0[0]'h).toNat : Int) = bt s0_0 0 := bt_at s0_0 0
       clear p15
       have qi15 : (0 < (s0_0.size : Int)) = True := eq_true (oD yA)
       replace q15 := eq_true q15
       have p20 : 0 ≤ (0 : Int) := (by omega)
       have q20 : 0 < s0_0.size := (by have : (0 : Int) < (s0_0.size : Int) := oD yA; omega)
       have hx20 : ∀ h : 0 < s0_0.size, ((s0_0[0]'h).toNat : Int) = bt s0_0 0 := bt_at s0_0 0
       clear p20
       have qi20 : (0 < (s0_0.size : Int)) = True := eq_true (oD yA)
       replace q20 := eq_true q20
       go_enter Tryd.func50, Tryd.ntmps50
       go_wp2
       go_ret
       exact ⟨yE, by repeat (first | (with_reducible first | exact HI0.out | apply IsS82.alloc | apply IsS82.drewN | apply IsS82.drew | apply IsS82.set_0 | apply IsS82.set_1) | exact HI0.out), yG1 HB (IsS82.ge HI0.out), by repeat (first | (with_reducible first | exact HK.out | apply KeepBut.set_ | apply keep_drewN | apply keep_drew | apply keep_alloc) | exact HK.out)⟩
      ·
       rw [if_neg c21] at H
       exact absurd H (by simp)
   ·
    rw [if_neg c9] at H
    exact absurd H (by simp)
 ·
  rw [if_neg c4] at H
  have c4b0 : (s0_1 == 0) = false := beq_eq_false_iff_ne.mpr c4
  have c4b1 : (s0_1 != 0) = true := bne_iff_ne.mpr c4
  simp only [Option.some.injEq, Prod.mk.injEq] at H
  obtain ⟨rfl, rfl, rfl⟩ := H
  obtain ⟨HGz23, hgz23⟩ := HI0.out
  have hcz23_0 := cellS82_0 HGz23
  have hcz23_1 := cellS82_1 HGz23
  have hfz23_0 := blk_frozen HGz23 0
  have hfz23_1 := blk_frozen HGz23 1
  clear HGz23 hgz23
  go_enter Tryd.func50, Tryd.ntmps50
  go_wp2
  go_ret
  exact ⟨yE, by repeat (first | (with_reducible first | exact HI0.out | apply IsS82.alloc | apply IsS82.drewN | apply IsS82.drew | apply IsS82.set_0 | apply IsS82.set_1) | exact HI0.out), yG1 HB (IsS82.ge HI0.out), by repeat (first | (with_reducible first | exact HK.out | apply KeepBut.set_ | apply keep_drewN | apply keep_drew | apply keep_alloc) | exact HK.out)⟩
/-! ### word_Long: function 124 -/
mutual
def word_Long.l0 : Nat → ByteArray → Int → Int → Option (Int × Int × Int)
 | 0, _, _, _ => none
 | k + 1, x0, x2, x5 => if x5 < (x0.size : Int) then (word_Long.j1 k x0 x2 x5 (decide (x5 < 10))) else (word_Long.j1 k x0 x2 x5 false)
def word_Long.j1 : Nat → ByteArray → Int → Int → Bool → Option (Int × Int × Int)
 | 0, _, _, _, _ => none
 | k + 1, x0, x2, x5, x14 => if x14 = true then (if 0 ≤ x5 then (if x5 < (x0.size : Int) then (if 0 ≤ (wrap64 (7 * x5)) then (if (bt x0 x5) ≥ 128 then (word_Long.l0 k x0 (Go.bits .or .u64 x2 (shl .u64 (IntKind.u64.wrap (Go.bits .and .u8 (bt x0 x5) 127)) (wrap64 (7 * x5)))) (wrap64 (x5 + 1))) else (if x5 > 0 then (if (bt x0 x5) = 0 then (word_Long.j2 k (Go.bits .or .u64 x2 (shl .u64 (IntKind.u64.wrap (Go.bits .and .u8 (bt x0 x5) 127)) (wrap64 (7 * x5)))) x5 true) else (if x5 = 9 then (word_Long.j2 k (Go.bits .or .u64 x2 (shl .u64 (IntKind.u64.wrap (Go.bits .and .u8 (bt x0 x5) 127)) (wrap64 (7 * x5)))) x5 (decide ((bt x0 x5) > 1))) else (word_Long.j2 k (Go.bits .or .u64 x2 (shl .u64 (IntKind.u64.wrap (Go.bits .and .u8 (bt x0 x5) 127)) (wrap64 (7 * x5)))) x5 false))) else (if x5 = 9 then (word_Long.j2 k (Go.bits .or .u64 x2 (shl .u64 (IntKind.u64.wrap (Go.bits .and .u8 (bt x0 x5) 127)) (wrap64 (7 * x5)))) x5 (decide ((bt x0 x5) > 1))) else (word_Long.j2 k (Go.bits .or .u64 x2 (shl .u64 (IntKind.u64.wrap (Go.bits .and .u8 (bt x0 x5) 127)) (wrap64 (7 * x5)))) x5 false)))) else (none)) else (none)) else (none)) else (if (x0.size : Int) < 10 then (some (0, 0, 4)) else (some (0, 0, 5)))
def word_Long.j2 : Nat → Int → Int → Bool → Option (Int × Int × Int)
 | 0, _, _, _ => none
 | k + 1, x2, x5, x43 => if x43 = true then (some (0, 0, 5)) else (some (x2, wrap64 (x5 + 1), 0))
end
def word_Long.f (k : Nat) (a0 : ByteArray) : Option (Int × Int × Int) := word_Long.l0 k a0 0 0
theorem word_Long.mono_l : ∀ k, (∀ y0 y1 y2, LeO (word_Long.l0 k y0 y1 y2) (word_Long.l0 (k + 1) y0 y1 y2)) ∧ (∀ y0 y1 y2 y3, LeO (word_Long.j1 k y0 y1 y2 y3) (word_Long.j1 (k + 1) y0 y1 y2 y3)) ∧ (∀ y0 y1 y2, LeO (word_Long.j2 k y0 y1 y2) (word_Long.j2 (k + 1) y0 y1 y2))
 | 0 => by refine ⟨?_, ?_, ?_⟩ <;> intros <;> exact LeO.none _
 | k + 1 => by
  obtain ⟨ih0, ih1, ih2⟩ := word_Long.mono_l k
  refine ⟨?_, ?_, ?_⟩ <;> intros <;> first | unfold word_Long.l0 | unfold word_Long.j1 | unfold word_Long.j2
  all_goals repeat' first | with_reducible (first | exact ih0 .. | exact ih1 .. | exact ih2 .. | exact LeO.refl .. | exact LeO.none .. | refine LeO.ite ?_ ?_ | refine LeO.bind ?_ (fun _ => ?_)) | exact ih0 .. | exact ih1 .. | exact ih2 .. | exact LeO.none .. | refine LeO.ite ?_ ?_ | refine LeO.bind ?_ (fun _ => ?_)
theorem word_Long.mono : ∀ a0 k, LeO (word_Long.f k a0) (word_Long.f (k + 1) a0) := by
 intro a0 k
 obtain ⟨ih0, ih1, ih2⟩ := word_Long.mono_l k
 unfold word_Long.f
 repeat' first | with_reducible (first | exact ih0 .. | exact ih1 .. | exact ih2 .. | exact LeO.refl .. | exact LeO.none .. | refine LeO.ite ?_ ?_ | refine LeO.bind ?_ (fun _ => ?_)) | exact ih0 .. | exact ih1 .. | exact ih2 .. | exact LeO.none .. | refine LeO.ite ?_ ?_ | refine LeO.bind ?_ (fun _ => ?_)
set_option maxHeartbeats 8000000 in
set_option maxRecDepth 100000 in
theorem word_Long.calls (k : Nat) (a0 : ByteArray) (r1 : Int) (r2 : Int) (r3 : Int) (w : World) (h : word_Long.f k a0 = some (r1, r2, r3)) :
  Calls Tryd.prog 124 #[.string a0] w fun e w' => e = .returned (.tuple #[.int .u64 r1, .int .i64 r2, .int .i64 r3]) ∧ Drawn0 w w' := by
 have H : (word_Long.l0 k a0 0 0) = some (r1, r2, r3) := h
 clear h
 have H' := aM H
 clear H
 go_enter Tryd.func124, Tryd.ntmps124
 go_wp2
 go_loopg [2, 5] k (fun kq v2 v5 w' => ∃ (x2_1 : Int) (x5_1 : Int), v2 = .int .u64 x2_1 ∧ v5 = .int .i64 x5_1 ∧ Aside0 (word_Long.l0 kq a0 x2_1 x5_1 = some (r1, r2, r3)) ∧ Aside0 (kq ≤ k) ∧ Drawn0 w w')
 case atStart => exact ⟨(0), (0), yS, yS, H', ⟨Nat.le_refl _⟩, yD⟩
 case round =>
  clear H'
  obtain ⟨x2_1, x5_1, rfl, rfl, HA, HK1, ⟨m1, rfl⟩⟩ := hrel
  cases gk with
  | zero => exact absurd HA.out (by simp [word_Long.l0])
  | succ k1 =>
   have H := HA.out
   clear HA
   simp only [word_Long.l0] at H
   have HC2 := aM H
   clear H
   go_upto_region 2 with (fail)
   go_cut [14] (fun v14 wc => ∃ (kq : Nat) (x14_1 : Bool), v14 = .bool x14_1 ∧ Aside0 (word_Long.j1 kq a0 x2_1 x5_1 x14_1 = some (r1, r2, r3)) ∧ Aside0 (kq ≤ k1) ∧ Drawn0 w wc)
   case first =>
    have H := HC2.out
    clear HC2
    by_cases c3 : x5_1 < (a0.size : Int)
    ·
     rw [if_pos c3] at H
     have c3b0 : decide (x5_1 < (a0.size : Int)) = true := decide_eq_true c3
     clear c3
     (first | rw [c3b0] | (simp only [i64_w, i32_w]; rw [c3b0]) | skip)
     have H' := aM H
     clear H
     go_wp2
     go_meet
     case rel => exact ⟨_, (decide (x5_1 < 10)), yS, H', ⟨by have := HK1.out; first | omega | exact Nat.le_refl _⟩, yD⟩
    ·
     rw [if_neg c3] at H
     have c3b0 : decide (x5_1 < (a0.size : Int)) = false := decide_eq_false c3
     clear c3
     (first | rw [c3b0] | (simp only [i64_w, i32_w]; rw [c3b0]) | skip)
     have H' := aM H
     clear H
     go_wp2
     go_meet
     case rel => exact ⟨_, (false), yS, H', ⟨by have := HK1.out; first | omega | exact Nat.le_refl _⟩, yD⟩
   case rest =>
    clear HC2
    obtain ⟨kq, x14_1, rfl, HA, HJ1, ⟨mc1, rfl⟩⟩ := hcut
    cases kq with
    | zero => exact absurd HA.out (by simp [word_Long.j1])
    | succ kj1 =>
     have H := HA.out
     clear HA
     simp only [word_Long.j1] at H
     by_cases c4 : x14_1 = true
     ·
      subst c4
      replace H := yt H
      by_cases c5 : 0 ≤ x5_1
      ·
       rw [if_pos c5] at H
       have c5b0 : decide (0 ≤ x5_1) = true := decide_eq_true c5
       clear c5
       by_cases c6 : x5_1 < (a0.size : Int)
       ·
        rw [if_pos c6] at H
        have c6b0 : decide (x5_1 < (a0.size : Int)) = true := decide_eq_true c6
        clear c6
        obtain ⟨ji8, hji8⟩ : ∃ j_ : Int, (wrap64 (7 * x5_1)) = j_ := ⟨_, rfl⟩
        replace H : (if 0 ≤ (ji8) then (if (bt a0 x5_1) ≥ 128 then (word_Long.l0 kj1 a0 (Go.bits .or .u64 x2_1 (shl .u64 (IntKind.u64.wrap (Go.bits .and .u8 (bt a0 x5_1) 127)) (ji8))) (wrap64 (x5_1 + 1))) else (if x5_1 > 0 then (if (bt a0 x5_1) = 0 then (word_Long.j2 kj1 (Go.bits .or .u64 x2_1 (shl .u64 (IntKind.u64.wrap (Go.bits .and .u8 (bt a0 x5_1) 127)) (ji8))) x5_1 true) else (if x5_1 = 9 then (word_Long.j2 kj1 (Go.bits .or .u64 x2_1 (shl .u64 (IntKind.u64.wrap (Go.bits .and .u8 (bt a0 x5_1) 127)) (ji8))) x5_1 (decide ((bt a0 x5_1) > 1))) else (word_Long.j2 kj1 (Go.bits .or .u64 x2_1 (shl .u64 (IntKind.u64.wrap (Go.bits .and .u8 (bt a0 x5_1) 127)) (ji8))) x5_1 false))) else (if x5_1 = 9 then (word_Long.j2 kj1 (Go.bits .or .u64 x2_1 (shl .u64 (IntKind.u64.wrap (Go.bits .and .u8 (bt a0 x5_1) 127)) (ji8))) x5_1 (decide ((bt a0 x5_1) > 1))) else (word_Long.j2 kj1 (Go.bits .or .u64 x2_1 (shl .u64 (IntKind.u64.wrap (Go.bits .and .u8 (bt a0 x5_1) 127)) (ji8))) x5_1 false)))) else (none)) = some (r1, r2, r3) := by first | (rw [hji8] at H; exact H) | (simp only [hji8] at H ⊢; exact H)
        have hji8w : (IntKind.i64.wrap (7 * x5_1)) = ji8 := (i64_w _).trans hji8
        by_cases c9 : 0 ≤ (ji8)
        ·
         rw [if_pos c9] at H
         have c9b0 := eq_true c9
         have c9b1 : decide (0 ≤ (ji8)) = true := decide_eq_true c9
         clear c9
         obtain ⟨ji10, hji10⟩ : ∃ j_ : Int, (shl .u64 (IntKind.u64.wrap (Go.bits .and .u8 (bt a0 x5_1) 127)) (ji8)) = j_ := ⟨_, rfl⟩
         replace H : (if (bt a0 x5_1) ≥ 128 then (word_Long.l0 kj1 a0 (Go.bits .or .u64 x2_1 (ji10)) (wrap64 (x5_1 + 1))) else (if x5_1 > 0 then (if (bt a0 x5_1) = 0 then (word_Long.j2 kj1 (Go.bits .or .u64 x2_1 (ji10)) x5_1 true) else (if x5_1 = 9 then (word_Long.j2 kj1 (Go.bits .or .u64 x2_1 (ji10)) x5_1 (decide ((bt a0 x5_1) > 1))) else (word_Long.j2 kj1 (Go.bits .or .u64 x2_1 (ji10)) x5_1 false))) else (if x5_1 = 9 then (word_Long.j2 kj1 (Go.bits .or .u64 x2_1 (ji10)) x5_1 (decide ((bt a0 x5_1) > 1))) else (word_Long.j2 kj1 (Go.bits .or .u64 x2_1 (ji10)) x5_1 false)))) = some (r1, r2, r3) := by first | (rw [hji10] at H; exact H) | (simp only [hji10] at H ⊢; exact H)
         have hji10_ : (IntKind.u64.wrap ((IntKind.u64.wrap (Go.bits .and .u8 (bt a0 x5_1) 127)) * 2 ^ min (ji8).toNat 64)) = ji10 := hji10
         have hji10z : (ji8) ≤ 64 → (IntKind.u64.wrap ((IntKind.u64.wrap (Go.bits .and .u8 (bt a0 x5_1) 127)) * 2 ^ (ji8).toNat)) = ji10 := shl_small hji10
         by_cases c11 : (bt a0 x5_1) ≥ 128
         ·
          rw [if_pos c11] at H
          have c11b0 : decide (128 ≤ (bt a0 x5_1)) = true := decide_eq_true c11
          clear c11
          have H' := aM H
          clear H
          have p7 : 0 ≤ (x5_1 : Int) := oD yA
          have q7 : x5_1 < (a0.size : Int) := oD yA
          have hx7 := bt_at a0 x5_1
          replace p7 := eq_true p7
          replace q7 := eq_true q7
          go_wp2
          go_roundg kj1
          case measure => have := HK1.out; have := HJ1.out; omega
          case rel => exact ⟨(Go.bits .or .u64 x2_1 (ji10)), (wrap64 (x5_1 + 1)), (by first | rfl | (simp; done) | (simp only [← hji10] <;> (first | rfl | simp)) | (simp [*]; done)), yS, H', ⟨by have := HK1.out; have := HJ1.out; omega⟩, yD⟩
         ·
          rw [if_neg c11] at H
          have c11b0 : decide (128 ≤ (bt a0 x5_1)) = false := decide_eq_false c11
          clear c11
          have HC12 := aM H
          clear H
          have p7 : 0 ≤ (x5_1 : Int) := oD yA
          have q7 : x5_1 < (a0.size : Int) := oD yA
          have hx7 := bt_at a0 x5_1
          replace p7 := eq_true p7
          replace q7 := eq_true q7
          go_upto_region 7 with (fail)
          go_cut [43] (fun v43 wc => ∃ (kq : Nat) (x43_11 : Bool), v43 = .bool x43_11 ∧ Aside0 (word_Long.j2 kq (Go.bits .or .u64 x2_1 (ji10)) x5_1 x43_11 = some (r1, r2, r3)) ∧ Aside0 (kq ≤ kj1) ∧ Drawn0 w wc)
          case first =>
           have H := HC12.out
           clear HC12
           by_cases c13 : x5_1 > 0
           ·
            rw [if_pos c13] at H
            have c13b0 : decide (0 < x5_1) = true := decide_eq_true c13
            clear c13
            (first | rw [c13b0] | (simp only [i64_w, i32_w]; rw [c13b0]) | skip)
            by_cases c14 : (bt a0 x5_1) = 0
            ·
             rw [if_pos c14] at H
             have c14b0 : ((bt a0 x5_1) == 0) = true := beq_iff_eq.mpr c14
             have c14b1 : ((bt a0 x5_1) != 0) = false := bne_eq_false_iff_eq.mpr c14
             clear c14
             have H' := aM H
             clear H
             go_wp2
             go_meet
             case rel => exact ⟨_, (true), yS, H', ⟨by have := HK1.out; have := HJ1.out; first | omega | exact Nat.le_refl _⟩, yD⟩
            ·
             rw [if_neg c14] at H
             have c14b0 : ((bt a0 x5_1) == 0) = false := beq_eq_false_iff_ne.mpr c14
             have c14b1 : ((bt a0 x5_1) != 0) = true := bne_iff_ne.mpr c14
             by_cases c15 : x5_1 = 9
             ·
              rw [if_pos c15] at H
              have c15b0 : (x5_1 == 9) = true := beq_iff_eq.mpr c15
              have c15b1 : (x5_1 != 9) = false := bne_eq_false_iff_eq.mpr c15
              clear c15
              have H' := aM H
              clear H
              go_wp2
              go_meet
              case rel => exact ⟨_, (decide ((bt a0 x5_1) > 1)), yS, H', ⟨by have := HK1.out; have := HJ1.out; first | omega | exact Nat.le_refl _⟩, yD⟩
             ·
              rw [if_neg c15] at H
              have c15b0 : (x5_1 == 9) = false := beq_eq_false_iff_ne.mpr c15
              have c15b1 : (x5_1 != 9) = true := bne_iff_ne.mpr c15
              have H' := aM H
              clear H
              go_wp2
              go_meet
              case rel => exact ⟨_, (false), yS, H', ⟨by have := HK1.out; have := HJ1.out; first | omega | exact Nat.le_refl _⟩, yD⟩
           ·
            rw [if_neg c13] at H
            have c13b0 : decide (0 < x5_1) = false := decide_eq_false c13
            clear c13
            (first | rw [c13b0] | (simp only [i64_w, i32_w]; rw [c13b0]) | skip)
            by_cases c16 : x5_1 = 9
            ·
             rw [if_pos c16] at H
             have c16b0 : (x5_1 == 9) = true := beq_iff_eq.mpr c16
             have c16b1 : (x5_1 != 9) = false := bne_eq_false_iff_eq.mpr c16
             clear c16
             have H' := aM H
             clear H
             go_wp2
             go_meet
             case rel => exact ⟨_, (decide ((bt a0 x5_1) > 1)), yS, H', ⟨by have := HK1.out; have := HJ1.out; first | omega | exact Nat.le_refl _⟩, yD⟩
            ·
             rw [if_neg c16] at H
             have c16b0 : (x5_1 == 9) = false := beq_eq_false_iff_ne.mpr c16
             have c16b1 : (x5_1 != 9) = true := bne_iff_ne.mpr c16
             have H' := aM H
             clear H
             go_wp2
             go_meet
             case rel => exact ⟨_, (false), yS, H', ⟨by have := HK1.out; have := HJ1.out; first | omega | exact Nat.le_refl _⟩, yD⟩
          case rest =>
           clear HC12
           try clear c4
           try clear c5
           try clear c5b0
           try clear c6
           try clear c6b0
           try clear p7
           try clear q7
           try clear hx7
           try clear c9
           try clear c9b0
           try clear c9b1
           try clear c11
           try clear c11b0
           try clear p7
           try clear q7
           obtain ⟨kq, x43_11, rfl, HA, HJ11, ⟨mc11, rfl⟩⟩ := hcut
           cases kq with
           | zero => exact absurd HA.out (by simp [word_Long.j2])
           | succ kj11 =>
            have H := HA.out
            clear HA
            simp only [word_Long.j2] at H
            by_cases c17 : x43_11 = true
            ·
             subst c17
             replace H := yt H
             simp only [Option.some.injEq, Prod.mk.injEq] at H
             obtain ⟨rfl, rfl, rfl⟩ := H
             go_wp2
             go_ret3
             exact ⟨by first | rfl | (simp; done) | (simp only [← hji8, ← hji10] <;> (first | rfl | simp)) | (simp [*]; done), yD⟩
            ·
             replace c17 := Bool.eq_false_iff.mpr c17
             subst c17
             replace H := yf H
             simp only [Option.some.injEq, Prod.mk.injEq] at H
             obtain ⟨rfl, rfl, rfl⟩ := H
             go_wp2
             go_ret3
             exact ⟨by first | rfl | (simp; done) | (simp only [← hji8, ← hji10] <;> (first | rfl | simp)) | (simp [*]; done), yD⟩
        ·
         rw [if_neg c9] at H
         exact absurd H (by simp)
       ·
        rw [if_neg c6] at H
        exact absurd H (by simp)
      ·
       rw [if_neg c5] at H
       exact absurd H (by simp)
     ·
      replace c4 := Bool.eq_false_iff.mpr c4
      subst c4
      replace H := yf H
      by_cases c18 : (a0.size : Int) < 10
      ·
       rw [if_pos c18] at H
       have c18b0 : decide ((a0.size : Int) < 10) = true := decide_eq_true c18
       have c18b1 : decide (a0.size < 10) = true := decide_eq_true (by omega)
       clear c18
       simp only [Option.some.injEq, Prod.mk.injEq] at H
       obtain ⟨rfl, rfl, rfl⟩ := H
       go_wp2
       go_ret3
       exact ⟨yS, yD⟩
      ·
       rw [if_neg c18] at H
       have c18b0 : decide ((a0.size : Int) < 10) = false := decide_eq_false c18
       have c18b1 : decide (a0.size < 10) = false := decide_eq_false (by omega)
       clear c18
       simp only [Option.some.injEq, Prod.mk.injEq] at H
       obtain ⟨rfl, rfl, rfl⟩ := H
       go_wp2
       go_ret3
       exact ⟨yS, yD⟩
/-! ### catcode_reader_raw: function 95 -/
def catcode_reader_raw.f (k : Nat) (s0_0 : ByteArray) (s0_1 : Int) : Option (Int × ByteArray × Int) := if s0_1 = 0 then ((word_Long.f k s0_0).bind fun bt257 => ((catcode_reader_fail.f s0_0 s0_1 bt257.2.2).bind fun bt260 => (if 0 ≤ bt257.2.1 then (if bt257.2.1 ≤ (bt260.1.size : Int) then (some (bt257.1, bt260.1.extract (bt257.2.1 : Int).toNat bt260.1.size, bt260.2)) else (none)) else (none)))) else (some (0, s0_0, s0_1))
theorem catcode_reader_raw.mono : ∀ a0 a1 k, LeO (catcode_reader_raw.f k a0 a1) (catcode_reader_raw.f (k + 1) a0 a1) := by
 intro a0 a1 k
 unfold catcode_reader_raw.f
 repeat' first | with_reducible (first | exact word_Long.mono .. | exact LeO.refl .. | exact LeO.none .. | refine LeO.ite ?_ ?_ | refine LeO.bind ?_ (fun _ => ?_)) | exact word_Long.mono .. | exact LeO.none .. | refine LeO.ite ?_ ?_ | refine LeO.bind ?_ (fun _ => ?_)
set_option maxHeartbeats 8000000 in
set_option maxRecDepth 100000 in
theorem catcode_reader_raw.calls (k : Nat) (g : Nat) (s0_0 : ByteArray) (s0_1 : Int) (r1 : Int) (r2 : ByteArray) (r3 : Int) (w0 w : World) (hI : IsS82 w0 w g s0_0 s0_1) (hB : Below w0.heap.size w0 w) (h : catcode_reader_raw.f k s0_0 s0_1 = some (r1, r2, r3)) :
  Calls Tryd.prog 95 #[.pointer (some ⟨g, 0, none⟩)] w fun e w' => e = .returned (.int .u64 r1) ∧ IsS82 w0 w' g r2 r3 ∧ Below w0.heap.size w0 w' ∧ KeepBut w w' g none := by
 have HI0 := aM hI
 have HK := aM (KeepBut.refl w g none)
 have HL := aM hB.size
 clear hI
 have HW0 := aM hB.size
 have HB := aM hB
 clear hB
 have H : (if s0_1 = 0 then ((word_Long.f k s0_0).bind fun bt257 => ((catcode_reader_fail.f s0_0 s0_1 bt257.2.2).bind fun bt260 => (if 0 ≤ bt257.2.1 then (if bt257.2.1 ≤ (bt260.1.size : Int) then (some (bt257.1, bt260.1.extract (bt257.2.1 : Int).toNat bt260.1.size, bt260.2)) else (none)) else (none)))) else (some (0, s0_0, s0_1))) = some (r1, r2, r3) := h
 clear h
 by_cases c2 : s0_1 = 0
 ·
  rw [if_pos c2] at H
  have c2b0 : (s0_1 == 0) = true := beq_iff_eq.mpr c2
  have c2b1 : (s0_1 != 0) = false := bne_eq_false_iff_eq.mpr c2
  clear c2
  obtain ⟨⟨t257, t258, t259⟩, A3, H⟩ := yb H
  try dsimp -simprocs only at H
  obtain ⟨⟨t260, t261⟩, A4, H⟩ := yb H
  try dsimp -simprocs only at H
  by_cases c5 : 0 ≤ t258
  ·
   rw [if_pos c5] at H
   have c5b0 := eq_true c5
   have c5b1 : decide (0 ≤ t258) = true := decide_eq_true c5
   clear c5
   by_cases c6 : t258 ≤ (t260.size : Int)
   ·
    rw [if_pos c6] at H
    have c6b0 := eq_true c6
    have c6b1 : decide (t258 ≤ (t260.size : Int)) = true := decide_eq_true c6
    clear c6
    simp only [Option.some.injEq, Prod.mk.injEq] at H
    obtain ⟨rfl, rfl, rfl⟩ := H
    obtain ⟨HGz7, hgz7⟩ := HI0.out
    have hcz7_0 := cellS82_0 HGz7
    have hcz7_1 := cellS82_1 HGz7
    have hfz7_0 := blk_frozen HGz7 0
    have hfz7_1 := blk_frozen HGz7 1
    clear HGz7 hgz7
    go_enter Tryd.func95, Tryd.ntmps95
    go_wp2_with (first | ((with_reducible refine gate_callee (f := 124) rfl ?_); refine yC 16 Tryd.func124 #[.string s0_0] rfl ?_; (with_reducible refine (word_Long.calls k s0_0 t257 t258 t259 _ A3.out).mono ?_); rintro e w' ⟨rfl, ⟨nd, rfl⟩⟩; refine ⟨_, rfl, ?_⟩; (try (rw [drewN_self w]; generalize hq_ : World.drewN w _ = wq_; have n0_ : Aside0 (IsS82 w0 wq_ g s0_0 s0_1) := ⟨by rw [← hq_]; exact (by repeat (first | (with_reducible first | exact HI0.out | apply IsS82.alloc | apply IsS82.drewN | apply IsS82.drew | apply IsS82.set_0 | apply IsS82.set_1) | exact HI0.out))⟩; have n1_ : Aside0 (KeepBut w wq_ g none) := ⟨by rw [← hq_]; exact (by repeat (first | (with_reducible first | exact HK.out | apply KeepBut.set_ | apply keep_drewN | apply keep_drew | apply keep_alloc) | exact HK.out))⟩; have n2_ : Aside0 (Below w0.heap.size w0 wq_) := ⟨by rw [← hq_]; exact (yG1 HB (IsS82.ge HI0.out))⟩; clear HI0 HK HB hq_; have HI0 := n0_; have HK := n1_; have HB := n2_; clear n0_ n1_ n2_)); obtain ⟨HGm, hgm⟩ := HI0.out; have hczm0_0 := cellS82_0 HGm; have hfzm0_0 := blk_frozen HGm 0; clear HGm hgm) | ((with_reducible refine gate_callee (f := 96) rfl ?_); refine yC 22 Tryd.func96 #[.pointer (some ⟨g, 0, none⟩), .int .i64 t259] rfl ?_; (with_reducible refine (catcode_reader_fail.calls g s0_0 s0_1 t259 t260 t261 w0 _ ?side1 ?side2 A4.out).mono ?_); (case side1 => repeat (first | (with_reducible first | exact HI0.out | apply IsS82.alloc | apply IsS82.drewN | apply IsS82.drew | apply IsS82.set_0 | apply IsS82.set_1) | exact HI0.out)); (case side2 => exact yG1 HB (IsS82.ge HI0.out)); rintro e w8 ⟨rfl, hi, hb, hk⟩; refine ⟨_, rfl, ?_⟩; replace HK := aM (KeepBut.trans (by repeat (first | (with_reducible first | exact HK.out | apply KeepBut.set_ | apply keep_drewN | apply keep_drew | apply keep_alloc) | exact HK.out)) hk (.inl rfl)); replace HB := aM (hb); replace HI0 := aM (hi); (try clear hb); (try clear hk); (try clear hi); obtain ⟨HGz9, hgz9⟩ := HI0.out; have hcz9_0 := cellS82_0 HGz9; have hcz9_1 := cellS82_1 HGz9; have hfz9_0 := blk_frozen HGz9 0; have hfz9_1 := blk_frozen HGz9 1; clear HGz9 hgz9))
    go_ret
    exact ⟨yE, by repeat (first | (with_reducible first | exact HI0.out | apply IsS82.alloc | apply IsS82.drewN | apply IsS82.drew | apply IsS82.set_0 | apply IsS82.set_1) | exact HI0.out), yG1 HB (IsS82.ge HI0.out), by repeat (first | (with_reducible first | exact HK.out | apply KeepBut.set_ | apply keep_drewN | apply keep_drew | apply keep_alloc) | exact HK.out)⟩
   ·
    rw [if_neg c6] at H
    exact absurd H (by simp)
  ·
   rw [if_neg c5] at H
   exact absurd H (by simp)
 ·
  rw [if_neg c2] at H
  have c2b0 : (s0_1 == 0) = false := beq_eq_false_iff_ne.mpr c2
  have c2b1 : (s0_1 != 0) = true := bne_iff_ne.mpr c2
  simp only [Option.some.injEq, Prod.mk.injEq] at H
  obtain ⟨rfl, rfl, rfl⟩ := H
  obtain ⟨HGz10, hgz10⟩ := HI0.out
  have hcz10_0 := cellS82_0 HGz10
  have hcz10_1 := cellS82_1 HGz10
  have hfz10_0 := blk_frozen HGz10 0
  have hfz10_1 := blk_frozen HGz10 1
  clear HGz10 hgz10
  go_enter Tryd.func95, Tryd.ntmps95
  go_wp2
  go_ret
  exact ⟨yE, by repeat (first | (with_reducible first | exact HI0.out | apply IsS82.alloc | apply IsS82.drewN | apply IsS82.drew | apply IsS82.set_0 | apply IsS82.set_1) | exact HI0.out), yG1 HB (IsS82.ge HI0.out), by repeat (first | (with_reducible first | exact HK.out | apply KeepBut.set_ | apply keep_drewN | apply keep_drew | apply keep_alloc) | exact HK.out)⟩
/-! ### catcode_reader_number: function 51 -/
def catcode_reader_number.f (k : Nat) (s0_0 : ByteArray) (s0_1 : Int) (a1 : Int) : Option (Int × ByteArray × Int) := (catcode_reader_raw.f k s0_0 s0_1).bind fun bt262 => (if bt262.1 > (IntKind.u64.wrap (a1)) then ((catcode_reader_fail.f bt262.2.1 bt262.2.2 5).bind fun bt265 => (some (0, bt265.1, bt265.2))) else (some (wrap64 (bt262.1), bt262.2.1, bt262.2.2)))
theorem catcode_reader_number.mono : ∀ a0 a1 a2 k, LeO (catcode_reader_number.f k a0 a1 a2) (catcode_reader_number.f (k + 1) a0 a1 a2) := by
 intro a0 a1 a2 k
 unfold catcode_reader_number.f
 repeat' first | with_reducible (first | exact catcode_reader_raw.mono .. | exact LeO.refl .. | exact LeO.none .. | refine LeO.ite ?_ ?_ | refine LeO.bind ?_ (fun _ => ?_)) | exact catcode_reader_raw.mono .. | exact LeO.none .. | refine LeO.ite ?_ ?_ | refine LeO.bind ?_ (fun _ => ?_)
set_option maxHeartbeats 8000000 in
set_option maxRecDepth 100000 in
theorem catcode_reader_number.calls (k : Nat) (g : Nat) (s0_0 : ByteArray) (s0_1 : Int) (a1 : Int) (r1 : Int) (r2 : ByteArray) (r3 : Int) (w0 w : World) (hI : IsS82 w0 w g s0_0 s0_1) (hB : Below w0.heap.size w0 w) (h : catcode_reader_number.f k s0_0 s0_1 a1 = some (r1, r2, r3)) :
  Calls Tryd.prog 51 #[.pointer (some ⟨g, 0, none⟩), .int .i64 a1] w fun e w' => e = .returned (.int .i64 r1) ∧ IsS82 w0 w' g r2 r3 ∧ Below w0.heap.size w0 w' ∧ KeepBut w w' g none := by
 have HI0 := aM hI
 have HK := aM (KeepBut.refl w g none)
 have HL := aM hB.size
 clear hI
 have HW0 := aM hB.size
 have HB := aM hB
 clear hB
 have H : ((catcode_reader_raw.f k s0_0 s0_1).bind fun bt262 => (if bt262.1 > (IntKind.u64.wrap (a1)) then ((catcode_reader_fail.f bt262.2.1 bt262.2.2 5).bind fun bt265 => (some (0, bt265.1, bt265.2))) else (some (wrap64 (bt262.1), bt262.2.1, bt262.2.2)))) = some (r1, r2, r3) := h
 clear h
 obtain ⟨⟨t262, t263, t264⟩, A3, H⟩ := yb H
 try dsimp -simprocs only at H
 by_cases c4 : t262 > (IntKind.u64.wrap (a1))
 ·
  rw [if_pos c4] at H
  have c4b0 : decide ((IntKind.u64.wrap (a1)) < t262) = true := decide_eq_true c4
  clear c4
  obtain ⟨⟨t265, t266⟩, A5, H⟩ := yb H
  try dsimp -simprocs only at H
  simp only [Option.some.injEq, Prod.mk.injEq] at H
  obtain ⟨rfl, rfl, rfl⟩ := H
  go_enter Tryd.func51, Tryd.ntmps51
  go_wp2_with (first | ((with_reducible refine gate_callee (f := 95) rfl ?_); refine yC 7 Tryd.func95 #[.pointer (some ⟨g, 0, none⟩)] rfl ?_; (with_reducible refine (catcode_reader_raw.calls k g s0_0 s0_1 t262 t263 t264 w0 _ ?side1 ?side2 A3.out).mono ?_); (case side1 => repeat (first | (with_reducible first | exact HI0.out | apply IsS82.alloc | apply IsS82.drewN | apply IsS82.drew | apply IsS82.set_0 | apply IsS82.set_1) | exact HI0.out)); (case side2 => exact yG1 HB (IsS82.ge HI0.out)); rintro e w6 ⟨rfl, hi, hb, hk⟩; refine ⟨_, rfl, ?_⟩; replace HK := aM (KeepBut.trans (by repeat (first | (with_reducible first | exact HK.out | apply KeepBut.set_ | apply keep_drewN | apply keep_drew | apply keep_alloc) | exact HK.out)) hk (.inl rfl)); replace HB := aM (hb); replace HI0 := aM (hi); (try clear hb); (try clear hk); (try clear hi)) | ((with_reducible refine gate_callee (f := 96) rfl ?_); refine yC 13 Tryd.func96 #[.pointer (some ⟨g, 0, none⟩), .int .i64 5] rfl ?_; (with_reducible refine (catcode_reader_fail.calls g t263 t264 5 t265 t266 w0 _ ?side1 ?side2 A5.out).mono ?_); (case side1 => repeat (first | (with_reducible first | exact HI0.out | apply IsS82.alloc | apply IsS82.drewN | apply IsS82.drew | apply IsS82.set_0 | apply IsS82.set_1) | exact HI0.out)); (case side2 => exact yG1 HB (IsS82.ge HI0.out)); rintro e w7 ⟨rfl, hi, hb, hk⟩; refine ⟨_, rfl, ?_⟩; replace HK := aM (KeepBut.trans (by repeat (first | (with_reducible first | exact HK.out | apply KeepBut.set_ | apply keep_drewN | apply keep_drew | apply keep_alloc) | exact HK.out)) hk (.inl rfl)); replace HB := aM (hb); replace HI0 := aM (hi); (try clear hb); (try clear hk); (try clear hi)))
  go_ret
  exact ⟨yE, by repeat (first | (with_reducible first | exact HI0.out | apply IsS82.alloc | apply IsS82.drewN | apply IsS82.drew | apply IsS82.set_0 | apply IsS82.set_1) | exact HI0.out), yG1 HB (IsS82.ge HI0.out), by repeat (first | (with_reducible first | exact HK.out | apply KeepBut.set_ | apply keep_drewN | apply keep_drew | apply keep_alloc) | exact HK.out)⟩
 ·
  rw [if_neg c4] at H
  have c4b0 : decide ((IntKind.u64.wrap (a1)) < t262) = false := decide_eq_false c4
  clear c4
  simp only [Option.some.injEq, Prod.mk.injEq] at H
  obtain ⟨rfl, rfl, rfl⟩ := H
  go_enter Tryd.func51, Tryd.ntmps51
  go_wp2_with (first | ((with_reducible refine gate_callee (f := 95) rfl ?_); refine yC 7 Tryd.func95 #[.pointer (some ⟨g, 0, none⟩)] rfl ?_; (with_reducible refine (catcode_reader_raw.calls k g s0_0 s0_1 t262 t263 t264 w0 _ ?side1 ?side2 A3.out).mono ?_); (case side1 => repeat (first | (with_reducible first | exact HI0.out | apply IsS82.alloc | apply IsS82.drewN | apply IsS82.drew | apply IsS82.set_0 | apply IsS82.set_1) | exact HI0.out)); (case side2 => exact yG1 HB (IsS82.ge HI0.out)); rintro e w8 ⟨rfl, hi, hb, hk⟩; refine ⟨_, rfl, ?_⟩; replace HK := aM (KeepBut.trans (by repeat (first | (with_reducible first | exact HK.out | apply KeepBut.set_ | apply keep_drewN | apply keep_drew | apply keep_alloc) | exact HK.out)) hk (.inl rfl)); replace HB := aM (hb); replace HI0 := aM (hi); (try clear hb); (try clear hk); (try clear hi)))
  go_ret
  exact ⟨yE, by repeat (first | (with_reducible first | exact HI0.out | apply IsS82.alloc | apply IsS82.drewN | apply IsS82.drew | apply IsS82.set_0 | apply IsS82.set_1) | exact HI0.out), yG1 HB (IsS82.ge HI0.out), by repeat (first | (with_reducible first | exact HK.out | apply KeepBut.set_ | apply keep_drewN | apply keep_drew | apply keep_alloc) | exact HK.out)⟩
end Go.Proofs.YtgefikclhfjcgaaDoor.HCatcodeValues

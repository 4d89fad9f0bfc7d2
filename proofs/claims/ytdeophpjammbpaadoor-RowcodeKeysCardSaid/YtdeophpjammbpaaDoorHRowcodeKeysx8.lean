/- For Go functions that RowcodeKeys reaches: Lean functions, and walks that show that each call comes to what its Lean function tells; no condition but those that each theorem states. (Made by a program of this session over the kit's print.py.) -/
import Derived.Test.YtdeophpjammbpaaDoorHRowcodeKeysx0
import Derived.Test.YtdeophpjammbpaaDoorHRowcodeKeysx7
namespace Go.Proofs.YtdeophpjammbpaaDoor.HRowcodeKeys
open Go.RowKit Go.Proofs.YtdeophpjammbpaaDoorW.PrintWords Go.Proofs.YtdeophpjammbpaaDoorW.PrintLast Go.Proofs.YtdeophpjammbpaaDoorW.PrintMore
attribute [local go_sem] max2_int min2_int max_two min_two max_three min_three max_four min_four   -- for this text's walks alone
set_option linter.unusedVariables false
set_option linter.unusedSimpArgs false
attribute [local go_sem] hp_s8 hp_s16 hp_s32 hp_s64 hp_m8 hp_m16 hp_m32 hp_m64
/-! ### word_Short: function 92 -/
mutual
def word_Short.l0 : Nat → List Int → List Int → Int → Int → Option (ByteArray)
 | 0, _, _, _, _ => none
 | k + 1, x3, x6, x7, x8 => if x8 < x7 then (if 0 ≤ x8 then (if x8 < (x6.length : Int) then (word_Short.l1 k x3 (rd x6 x8) x6 x7 x8) else (none)) else (none)) else (some (strOfNums x3))
def word_Short.l1 : Nat → List Int → Int → List Int → Int → Int → Option (ByteArray)
 | 0, _, _, _, _, _ => none
 | k + 1, x3, x5, x6, x7, x8 => if x5 ≥ 128 then (if x3.length < 140737488355328 then (word_Short.l1 k (x3 ++ [Go.bits .or .u8 ((x5) % 256) 128]) (x5 / 128) x6 x7 x8) else (none)) else (if x3.length < 140737488355328 then (word_Short.l0 k (x3 ++ [(x5) % 256]) x6 x7 (wrap64 (x8 + 1))) else (none))
end
def word_Short.f (k : Nat) (l0 : List Int) : Option (ByteArray) := word_Short.l0 k ([] : List Int) l0 (l0.length : Int) 0
theorem word_Short.mono_l : ∀ k, (∀ y0 y1 y2 y3, LeO (word_Short.l0 k y0 y1 y2 y3) (word_Short.l0 (k + 1) y0 y1 y2 y3)) ∧ (∀ y0 y1 y2 y3 y4, LeO (word_Short.l1 k y0 y1 y2 y3 y4) (word_Short.l1 (k + 1) y0 y1 y2 y3 y4))
 | 0 => by refine ⟨?_, ?_⟩ <;> intros <;> exact LeO.none _
 | k + 1 => by
  obtain ⟨ih0, ih1⟩ := word_Short.mono_l k
  refine ⟨?_, ?_⟩ <;> intros <;> first | unfold word_Short.l0 | unfold word_Short.l1
  all_goals repeat' first | with_reducible (first | exact ih0 .. | exact ih1 .. | exact LeO.refl .. | exact LeO.none .. | refine LeO.ite ?_ ?_ | refine LeO.bind ?_ (fun _ => ?_)) | exact ih0 .. | exact ih1 .. | exact LeO.none .. | refine LeO.ite ?_ ?_ | refine LeO.bind ?_ (fun _ => ?_)
theorem word_Short.mono : ∀ a0 k, LeO (word_Short.f k a0) (word_Short.f (k + 1) a0) := by
 intro a0 k
 obtain ⟨ih0, ih1⟩ := word_Short.mono_l k
 unfold word_Short.f
 repeat' first | with_reducible (first | exact ih0 .. | exact ih1 .. | exact LeO.refl .. | exact LeO.none .. | refine LeO.ite ?_ ?_ | refine LeO.bind ?_ (fun _ => ?_)) | exact ih0 .. | exact ih1 .. | exact LeO.none .. | refine LeO.ite ?_ ?_ | refine LeO.bind ?_ (fun _ => ?_)
set_option maxHeartbeats 8000000 in
set_option maxRecDepth 100000 in
theorem word_Short.calls (k : Nat) (A0 : Option Addr) (c0 : Nat) (l0 : List Int) (r : ByteArray) (w : World) (hr0 : Kd.C (Kd.int .u64) w A0 l0.length l0) (hc0 : l0.length ≤ c0) (h : word_Short.f k l0 = some r) :
  Calls Tryd.prog 92 #[.slice A0 l0.length c0] w fun e w' => e = .returned (.string r) ∧ Below w.heap.size w w' := by
 have HR0 := aM hr0
 have HC0 := aM hc0
 clear hr0 hc0
 have HB := aM (Below.refl w.heap.size w)
 have H : (word_Short.l0 k ([] : List Int) l0 (l0.length : Int) 0) = some r := h
 clear h
 have H' := aM H
 clear H
 go_enter Tryd.func92, Tryd.ntmps92
 go_wp2
 go_loopg [3, 8] k (fun kq v3 v8 w' => ∃ (x3_1 : List Int) (x8_1 : Int), v8 = .int .i64 x8_1 ∧ Aside0 (word_Short.l0 kq x3_1 l0 (l0.length : Int) x8_1 = some r) ∧ Aside0 (kq ≤ k) ∧ Aside0 (Kd.R (Kd.int .u8) 5 w' w.heap.size (fun _ => True) v3 x3_1) ∧ Aside0 (Below w.heap.size w w'))
 case atStart => exact ⟨(([] : List Int)), (0), yS, H', ⟨Nat.le_refl _⟩, ⟨by first | exact Kd.R_nil _ _ _ _ _ | exact Kd.N_nil _ _ _ _ _ | exact Kd.V_nil _ _ _ _ _ | exact Kd.Q_nil _ _ _ _ _ | exact Kd.S_nil _ _ _ _ _⟩, ⟨yB HB⟩⟩
 case round =>
  clear H'
  obtain ⟨x3_1, x8_1, rfl, HA, HK1, HO_3, HB⟩ := hrel
  cases gk with
  | zero => exact absurd HA.out (by simp [word_Short.l0])
  | succ k1 =>
   have H := HA.out
   clear HA
   simp only [word_Short.l0] at H
   by_cases c2 : x8_1 < (l0.length : Int)
   ·
    rw [if_pos c2] at H
    have c2b0 : decide (x8_1 < (l0.length : Int)) = true := decide_eq_true c2
    clear c2
    by_cases c3 : 0 ≤ x8_1
    ·
     rw [if_pos c3] at H
     have c3b0 : decide (0 ≤ x8_1) = true := decide_eq_true c3
     clear c3
     by_cases c4 : x8_1 < (l0.length : Int)
     ·
      rw [if_pos c4] at H
      have c4b0 : decide (x8_1 < (l0.length : Int)) = true := decide_eq_true c4
      clear c4
      have H' := aM H
      clear H
      have p150 : 0 ≤ (x8_1 : Int) := oD yA
      have q150 : x8_1 < (l0.length : Int) := oD yA
      obtain ⟨ad150, e150, hx150_0⟩ := Kd.at_int HR0.out x8_1 p150 q150
      cases e150
      replace hx150_0 := pw_cell_below HB.out hx150_0
      replace p150 := eq_true p150
      replace q150 := eq_true q150
      go_wp2
      go_loopg [3, 5] k1 (fun kq v3 v5 w' => ∃ (x3_2 : List Int) (x5_2 : Int), v5 = .int .u64 x5_2 ∧ Aside0 (word_Short.l1 kq x3_2 x5_2 l0 (l0.length : Int) x8_1 = some r) ∧ Aside0 (kq ≤ k1) ∧ Aside0 (Kd.R (Kd.int .u8) 5 w' w.heap.size (fun _ => True) v3 x3_2) ∧ Aside0 (Below w.heap.size w w'))
      case atStart => exact ⟨(x3_1), (rd l0 x8_1), yS, H', ⟨Nat.le_refl _⟩, ⟨yR HO_3.out⟩, ⟨yB HB⟩⟩
      case round =>
       clear H'
       try clear c2
       try clear c2b0
       try clear c3
       try clear c3b0
       try clear c4
       try clear c4b0
       try clear hx150_0
       try clear p150
       try clear q150
       obtain ⟨x3_2, x5_2, rfl, HA, HK2, HO_3, HB⟩ := hrel
       cases gk with
       | zero => exact absurd HA.out (by simp [word_Short.l1])
       | succ k2 =>
        have H := HA.out
        clear HA
        simp only [word_Short.l1] at H
        by_cases c5 : x5_2 ≥ 128
        ·
         rw [if_pos c5] at H
         have c5b0 : decide (128 ≤ x5_2) = true := decide_eq_true c5
         clear c5
         by_cases c6 : x3_2.length < 140737488355328
         ·
          rw [if_pos c6] at H
          have LMc6 := aM c6
          clear c6
          obtain ⟨y151, hy151⟩ : ∃ y_ : List Int, y_ = (x3_2 ++ [Go.bits .or .u8 ((x5_2) % 256) 128]) := ⟨_, rfl⟩
          replace H : (word_Short.l1 k2 y151 (x5_2 / 128) l0 (l0.length : Int) x8_1) = some r := by first | (rw [hy151]; with_reducible exact H) | (have H2_ := (Option.bind_some _ _).symm.trans H; rw [hy151]; with_reducible exact H2_) | (have H2_ := (Option.bind_some _ _).symm.trans H; with_reducible exact H2_) | with_reducible exact H | (rw [hy151]; exact H) | exact H
          have Ny151 := aM hy151
          clear hy151
          have H' := aM H
          clear H
          go_wp2_with (first | ((with_reducible refine gate_builtin (b := .append) (xs := #[.tmp 14, .tmp 18]) rfl ?_); at_builtin; refine Kd.R_append (Kd.int .u8) (w0 := w) w.heap.size rfl (.tmp 14) (.tmp 18) 91 5 (.int .u8 0) 1 rfl Tryd.underlying91 info5 rfl (by decide) (by omega) u3 x3_2 (Go.bits .or .u8 ((x5_2) % 256) 128) [.int .u8 (Go.bits .or .u8 ((x5_2) % 256) 128)] (fun _ => True) (fun _ => False) rfl rfl ?aP (fun _ hk => hk.elim) ?aF ?aO ?aB ?aS ?aL ?_; (case aP => exact rfl); (case aB => exact (yB HB)); (case aF => exact (fun _ _ => trivial)); (case aO => exact (yR HO_3.out)); (case aS => exact (bZ (yB HB))); (case aL => have := LMc6.out; omega); intro v152 w7 ho hb hg hat; rw [← Ny151.out] at ho; have n0_ := aM (hb); have n1_ := aM (ho); clear HB; clear HO_3; have HB := n0_; have HO153 := n1_; clear n0_ n1_; clear ho hb hg hat))
          go_roundg k2
          case measure => have := HK1.out; have := HK2.out; omega
          case rel => exact ⟨(y151), (x5_2 / 128), yS, H', ⟨by have := HK1.out; have := HK2.out; omega⟩, ⟨yR HO153.out⟩, ⟨yB HB⟩⟩
         ·
          rw [if_neg c6] at H
          exact absurd H (by simp)
        ·
         rw [if_neg c5] at H
         have c5b0 : decide (128 ≤ x5_2) = false := decide_eq_false c5
         clear c5
         by_cases c8 : x3_2.length < 140737488355328
         ·
          rw [if_pos c8] at H
          have LMc8 := aM c8
          clear c8
          obtain ⟨y154, hy154⟩ : ∃ y_ : List Int, y_ = (x3_2 ++ [(x5_2) % 256]) := ⟨_, rfl⟩
          replace H : (word_Short.l0 k2 y154 l0 (l0.length : Int) (wrap64 (x8_1 + 1))) = some r := by first | (rw [hy154]; with_reducible exact H) | (have H2_ := (Option.bind_some _ _).symm.trans H; rw [hy154]; with_reducible exact H2_) | (have H2_ := (Option.bind_some _ _).symm.trans H; with_reducible exact H2_) | with_reducible exact H | (rw [hy154]; exact H) | exact H
          have Ny154 := aM hy154
          clear hy154
          have H' := aM H
          clear H
          go_wp2_with (first | ((with_reducible refine gate_builtin (b := .append) (xs := #[.tmp 22, .tmp 25]) rfl ?_); at_builtin; refine Kd.R_append (Kd.int .u8) (w0 := w) w.heap.size rfl (.tmp 22) (.tmp 25) 91 5 (.int .u8 0) 1 rfl Tryd.underlying91 info5 rfl (by decide) (by omega) u3 x3_2 ((x5_2) % 256) [.int .u8 ((x5_2) % 256)] (fun _ => True) (fun _ => False) rfl rfl ?aP (fun _ hk => hk.elim) ?aF ?aO ?aB ?aS ?aL ?_; (case aP => exact rfl); (case aB => exact (yB HB)); (case aF => exact (fun _ _ => trivial)); (case aO => exact (yR HO_3.out)); (case aS => exact (bZ (yB HB))); (case aL => have := LMc8.out; omega); intro v155 w9 ho hb hg hat; rw [← Ny154.out] at ho; have n0_ := aM (hb); have n1_ := aM (ho); clear HB; clear HO_3; have HB := n0_; have HO156 := n1_; clear n0_ n1_; clear ho hb hg hat))
          go_roundg k2
          case measure => have := HK1.out; have := HK2.out; omega
          case rel => exact ⟨(y154), (wrap64 (x8_1 + 1)), yS, H', ⟨by have := HK1.out; have := HK2.out; omega⟩, ⟨yR HO156.out⟩, ⟨yB HB⟩⟩
         ·
          rw [if_neg c8] at H
          exact absurd H (by simp)
     ·
      rw [if_neg c4] at H
      exact absurd H (by simp)
    ·
     rw [if_neg c3] at H
     exact absurd H (by simp)
   ·
    rw [if_neg c2] at H
    have c2b0 : decide (x8_1 < (l0.length : Int)) = false := decide_eq_false c2
    clear c2
    obtain rfl := Option.some.inj H
    have hcv10 := own_string (P := Tryd.prog) Tryd.underlying91 Tryd.underlying5 Tryd.underlying9 (Kd.own_of_R HO_3.out)
    go_wp2
    go_ret
    exact ⟨yE, yB HB⟩
/-! ### word_Zig: function 93 -/
def word_Zig.f (a0 : Int) : Option (Int) := some (Go.bits .xor .u64 (IntKind.u64.wrap ((IntKind.u64.wrap (a0)) * 2)) (IntKind.u64.wrap (a0 / 9223372036854775808)))
set_option maxHeartbeats 8000000 in
set_option maxRecDepth 100000 in
theorem word_Zig.calls (a0 : Int) (r : Int) (w : World) (h : word_Zig.f a0 = some r) :
  Calls Tryd.prog 93 #[.int .i64 a0] w fun e w' => e = .returned (.int .u64 r) ∧ Drawn0 w w' := by
 have H : (some (Go.bits .xor .u64 (IntKind.u64.wrap ((IntKind.u64.wrap (a0)) * 2)) (IntKind.u64.wrap (a0 / 9223372036854775808)))) = some r := h
 clear h
 obtain rfl := Option.some.inj H
 go_enter Tryd.func93, Tryd.ntmps93
 go_wp2
 go_ret
 exact ⟨yS, yD⟩
/-! ### rowcode_put: function 61 -/
def rowcode_put.j0 : Nat → List Int → Bool → Int → Int → ByteArray → Option (List Int)
 | 0, _, _, _, _, _ => none
 | k + 1, x0, x7, x158000, x158001, x158002 => if x7 = true then ((word_Zig.f x158001).bind fun t158 => ((word_Short.f k (([t158] : List Int))).bind fun t162 => (if x0.length + t162.size < 140737488355328 then (some (x0 ++ bytesOf t162)) else (none)))) else ((word_Short.f k (([IntKind.u64.wrap ((x158002.size : Int))] : List Int))).bind fun t169 => (if x0.length + t169.size < 140737488355328 then ((some (x0 ++ bytesOf t169 : List Int)).bind fun y170 => (if y170.length + x158002.size < 140737488355328 then (some (y170 ++ bytesOf x158002)) else (none))) else (none)))
def rowcode_put.f (k : Nat) (l0 : List Int) (a1_0 : Int) (a1_1 : Int) (a1_2 : ByteArray) : Option (List Int) := if a1_0 = 1 then (rowcode_put.j0 k l0 (a1_0 == 1) a1_0 a1_1 a1_2) else (rowcode_put.j0 k l0 (a1_0 == 2) a1_0 a1_1 a1_2)
theorem rowcode_put.mono_l : ∀ k, (∀ y0 y1 y2 y3 y4, LeO (rowcode_put.j0 k y0 y1 y2 y3 y4) (rowcode_put.j0 (k + 1) y0 y1 y2 y3 y4))
 | 0 => fun _ _ _ _ _ r h => by simp [rowcode_put.j0] at h
 | k + 1 => by
  have ih0 := rowcode_put.mono_l k
  ·
   intro y0 y1 y2 y3 y4
   unfold rowcode_put.j0
   repeat' first
   | (with_reducible exact ih0 _ _ _ _ _)
   | (with_reducible exact word_Short.mono _ _)
   | (with_reducible exact LeO.refl _)
   | (with_reducible exact LeO.none _)
   | (with_reducible refine LeO.ite ?_ ?_)
   | (with_reducible refine LeO.bind ?_ (fun _ => ?_))
   | exact ih0 _ _ _ _ _
   | exact word_Short.mono _ _
   | exact LeO.none _
   | refine LeO.ite ?_ ?_
   | refine LeO.bind ?_ (fun _ => ?_)
theorem rowcode_put.mono : ∀ a0 a1 a2 a3 k, LeO (rowcode_put.f k a0 a1 a2 a3) (rowcode_put.f (k + 1) a0 a1 a2 a3) := by
 intro a0 a1 a2 a3 k
 have ih0 := rowcode_put.mono_l k
 unfold rowcode_put.f
 repeat' first | with_reducible (first | exact ih0 .. | exact word_Short.mono .. | exact LeO.refl .. | exact LeO.none .. | refine LeO.ite ?_ ?_ | refine LeO.bind ?_ (fun _ => ?_)) | exact ih0 .. | exact word_Short.mono .. | exact LeO.none .. | refine LeO.ite ?_ ?_ | refine LeO.bind ?_ (fun _ => ?_)
set_option maxHeartbeats 8000000 in
set_option maxRecDepth 100000 in
theorem rowcode_put.calls (k : Nat) (P0_ : Nat → Prop) (u9000_ : Value) (l0 : List Int) (a1_0 : Int) (a1_1 : Int) (a1_2 : ByteArray) (r : List Int) (w0 w : World) (hB : Below w0.heap.size w0 w) (ho0 : Kd.R (Kd.int .u8) 5 w w0.heap.size P0_ u9000_ l0) (h : rowcode_put.f k l0 a1_0 a1_1 a1_2 = some r) :
  Calls Tryd.prog 61 #[u9000_, .agg #[.int .i64 a1_0, .int .i64 a1_1, .string a1_2]] w fun e w' => ∃ v0_ : Value, e = .returned (v0_) ∧ Kd.R (Kd.int .u8) 5 w' w0.heap.size (fun k_ => (P0_ k_ ∨ w.heap.size ≤ k_)) v0_ r ∧ Below w0.heap.size w0 w' ∧ Kept w w' (fun k_ => P0_ k_) := by
 have hu52 := Tryd.underlying52
 have HO0 := aM (show Kd.R (Kd.int .u8) 5 w w0.heap.size (fun k_ => (P0_ k_ ∨ w.heap.size ≤ k_)) u9000_ l0 from Kd.R_mono ho0 (fun k_ hk => (.inl hk)))
 have HK := aM (Kept.refl w (fun k_ => P0_ k_))
 have HW0 := aM hB.size
 have HB := aM hB
 clear hB
 have H : (if a1_0 = 1 then (rowcode_put.j0 k l0 (a1_0 == 1) a1_0 a1_1 a1_2) else (rowcode_put.j0 k l0 (a1_0 == 2) a1_0 a1_1 a1_2)) = some r := h
 clear h
 have HC3 := aM H
 clear H
 go_enter Tryd.func61, Tryd.ntmps61
 go_upto_if 7 with (first | ((with_reducible refine gate_dst (N := 3) rfl ?_); refine yX (N := 3) (cs := #[.int .i64 a1_0, .int .i64 a1_1, .string a1_2]) (t := 52) ?_; intro gb157 hg w4 hbox hb; replace HO0 := aM (Kd.R_below (yR HO0.out) hb); have BK157 := aM (hbox); have GW157 := aM ((by rw [hg]; exact (by first | exact HK.out.1 | exact (show Kept w _ (fun k_ => P0_ k_) from by repeat (first | (with_reducible first | exact HK.out | apply Kept.alloc | apply Kept.drewN | apply Kept.drew) | exact HK.out)).1) : w.heap.size ≤ gb157)); replace HK := aM (Kept.below (S := (fun k_ => P0_ k_)) (by repeat (first | (with_reducible first | exact HK.out | apply Kept.alloc | apply Kept.drewN | apply Kept.drew) | exact HK.out)) hb); have GE157 := yZ hg (yB HB); replace HB := aM (bP (yB HB) hb); clear hb hbox hg; obtain ⟨hcz5_0, hcz5_1, hcz5_2, hfz5_0, hfz5_1, hfz5_2⟩ := cells3 BK157.out))
 (try simp only [Act.put, s1_, s2_, s3_])
 go_cut [7] (fun v7 wc => ∃ (kq : Nat) (x7_2 : Bool), v7 = .bool x7_2 ∧ Aside0 (rowcode_put.j0 kq l0 x7_2 a1_0 a1_1 a1_2 = some r) ∧ Aside0 (kq ≤ k) ∧ Aside0 (Kd.R (Kd.int .u8) 5 wc w0.heap.size (fun k_ => (P0_ k_ ∨ w.heap.size ≤ k_)) u9000_ l0) ∧ Aside0 (wc.heap[gb157]? = some (.cells #[.int .i64 a1_0, .int .i64 a1_1, .string a1_2] 52 (0, 0))) ∧ Aside0 (Kept w wc (fun k_ => P0_ k_)) ∧ Aside0 (Below w0.heap.size w0 wc))
 case first =>
  have H := HC3.out
  clear HC3
  by_cases c6 : a1_0 = 1
  ·
   rw [if_pos c6] at H
   have c6b0 : (a1_0 == 1) = true := beq_iff_eq.mpr c6
   have c6b1 : (a1_0 != 1) = false := bne_eq_false_iff_eq.mpr c6
   clear c6
   (first | rw [c6b0] | (simp only [i64_w, i32_w]; rw [c6b0]) | skip)
   have H' := aM H
   clear H
   go_wp2
   go_meet
   case rel => exact ⟨_, ((a1_0 == 1)), yS, H', ⟨yO⟩, ⟨yR HO0.out⟩, ⟨yK BK157⟩, ⟨by repeat (first | (with_reducible first | exact HK.out | apply Kept.alloc | apply Kept.drewN | apply Kept.drew | refine Kept.setCell ?_ (.inr GW157.out) _) | exact HK.out)⟩, ⟨yG1 HB GE157.out⟩⟩
  ·
   rw [if_neg c6] at H
   have c6b0 : (a1_0 == 1) = false := beq_eq_false_iff_ne.mpr c6
   have c6b1 : (a1_0 != 1) = true := bne_iff_ne.mpr c6
   (first | rw [c6b0] | (simp only [i64_w, i32_w]; rw [c6b0]) | skip)
   have H' := aM H
   clear H
   go_wp2
   go_meet
   case rel => exact ⟨_, ((a1_0 == 2)), yS, H', ⟨yO⟩, ⟨yR HO0.out⟩, ⟨yK BK157⟩, ⟨by repeat (first | (with_reducible first | exact HK.out | apply Kept.alloc | apply Kept.drewN | apply Kept.drew | refine Kept.setCell ?_ (.inr GW157.out) _) | exact HK.out)⟩, ⟨yG1 HB GE157.out⟩⟩
 case rest =>
  clear HC3
  try clear hcz5_0 hcz5_1 hcz5_2
  try clear hfz5_0 hfz5_1 hfz5_2
  obtain ⟨kq, x7_2, rfl, HA, HJ2, HO_0, BK157, HK, HB⟩ := hcut
  cases kq with
  | zero => exact absurd HA.out (by simp [rowcode_put.j0])
  | succ kj2 =>
   have H := HA.out
   clear HA
   simp only [rowcode_put.j0] at H
   by_cases c7 : x7_2 = true
   ·
    subst c7
    replace H := yt H
    obtain ⟨t158, A8, H⟩ := yb H
    obtain ⟨y159, hy159⟩ : ∃ y_ : List Int, y_ = (([t158] : List Int)) := ⟨_, rfl⟩
    replace H : ((word_Short.f kj2 y159).bind fun t162 => (if l0.length + t162.size < 140737488355328 then (some (l0 ++ bytesOf t162)) else (none))) = some r := by first | (rw [hy159]; with_reducible exact H) | (have H2_ := (Option.bind_some _ _).symm.trans H; rw [hy159]; with_reducible exact H2_) | (have H2_ := (Option.bind_some _ _).symm.trans H; with_reducible exact H2_) | with_reducible exact H | (rw [hy159]; exact H) | exact H
    have Ny159 := aM hy159
    clear hy159
    obtain ⟨t162, A9, H⟩ := yb H
    by_cases c10 : l0.length + t162.size < 140737488355328
    ·
     rw [if_pos c10] at H
     have LMc10 := aM c10
     clear c10
     obtain ⟨y163, hy163⟩ : ∃ y_ : List Int, y_ = (l0 ++ bytesOf t162) := ⟨_, rfl⟩
     replace H : (some y163) = some r := by first | (rw [hy163]; with_reducible exact H) | (have H2_ := (Option.bind_some _ _).symm.trans H; rw [hy163]; with_reducible exact H2_) | (have H2_ := (Option.bind_some _ _).symm.trans H; with_reducible exact H2_) | with_reducible exact H | (rw [hy163]; exact H) | exact H
     have Ny163 := aM hy163
     clear hy163
     obtain rfl := Option.some.inj H
     obtain ⟨hcz11_0, hcz11_1, hcz11_2, hfz11_0, hfz11_1, hfz11_2⟩ := cells3 BK157.out
     go_wp2_with (first | ((with_reducible refine gate_callee (f := 93) rfl ?_); refine yC 13 Tryd.func93 #[.int .i64 a1_1] rfl ?_; (with_reducible refine (word_Zig.calls a1_1 t158 _ A8.out).mono ?_); rintro e w' ⟨rfl, ⟨nd, rfl⟩⟩; refine ⟨_, rfl, ?_⟩) | ((with_reducible refine gate_dst (N := 14) rfl ?_); refine Kd.R_lit (Kd.int .u64) _ 122 ?hg (N := 14) ?hd (xs := ([t158] : List Int)) (inner := [.int .u64 t158]) (ok := fun _ => True) (okp := fun _ => True) ?hr ?hp (fun _ hk => hk) trivial (Below.refl _ _) (Nat.le_refl _) (by simp) ?_; (case hd => rfl); (case hg => rfl); (case hr => first | (go_simp; done) | (go_simp; rfl)); (case hp => exact (Reps.one (show Kd.M (Kd.int .u64) _ _ _ t158 [.int .u64 t158] from rfl) (Reps.none _ _))); intro v160 w12 ho13 hb hg_ hnew_; clear hg_ hnew_; (first | rw [← Ny159.out] at ho13 | (simp only [Int.reduceToNat] at ho13; rw [← Ny159.out] at ho13)); replace HO_0 := aM (Kd.R_below (yR HO_0.out) hb); have HO161 := aM (Kd.R_lower (Kd.R_newM (M := fun k_ => (P0_ k_ ∨ w.heap.size ≤ k_)) ho13 (by first | exact HK.out.1 | exact (show Kept w _ (fun k_ => P0_ k_) from by repeat (first | (with_reducible first | exact HK.out | apply Kept.alloc | apply Kept.drewN | apply Kept.drew | refine Kept.setCell ?_ (.inr GW157.out) _) | exact HK.out)).1) (fun k_ h_ => .inr h_)) (bZ (yG1 HB GE157.out))); replace BK157 := aM (kB (yK BK157) hb); replace HK := aM (Kept.below (S := (fun k_ => P0_ k_)) (by repeat (first | (with_reducible first | exact HK.out | apply Kept.alloc | apply Kept.drewN | apply Kept.drew | refine Kept.setCell ?_ (.inr GW157.out) _) | exact HK.out)) hb); replace HB := aM (bP (yG1 HB GE157.out) hb); clear hb ho13; obtain ⟨Ao14, co14, eo14⟩ := Kd.R_slice HO161.out; subst eo14) | ((with_reducible refine gate_callee (f := 92) rfl ?_); refine yC 15 Tryd.func92 #[.slice Ao14 y159.length co14] rfl ?_; (with_reducible refine (word_Short.calls kj2 _ _ y159 t162 _ ?side1 ?side2 A9.out).mono ?_); (case side1 => exact yW (Kd.R_reads' HO161.out).2.2); (case side2 => exact (Kd.R_reads' HO161.out).2.1); rintro e w15 ⟨rfl, hb⟩; refine ⟨_, rfl, ?_⟩; replace HO_0 := aM (Kd.R_below (yR HO_0.out) hb); replace HO161 := aM (Kd.R_below (yR HO161.out) hb); replace BK157 := aM (kB (yK BK157) hb); replace HK := aM (Kept.below (S := (fun k_ => P0_ k_)) (by repeat (first | (with_reducible first | exact HK.out | apply Kept.alloc | apply Kept.drewN | apply Kept.drew | refine Kept.setCell ?_ (.inr GW157.out) _) | exact HK.out)) hb); replace HB := aM (bP (yG1 HB GE157.out) hb); (try clear hb)) | (at_builtin; refine print_append_strM (w0 := w0) w0.heap.size rfl (.tmp 10) _ 91 9 5 rfl Tryd.underlying91 Tryd.underlying9 info5 u9000_ l0 t162 (fun k_ => (P0_ k_ ∨ w.heap.size ≤ k_)) rfl rfl ?aO ?aF ?aB ?aS ?aL ?_; (case aF => exact fun k_ hk => .inr (Nat.le_trans (by first | exact HK.out.1 | exact (show Kept w _ (fun k_ => P0_ k_) from by repeat (first | (with_reducible first | exact HK.out | apply Kept.alloc | apply Kept.drewN | apply Kept.drew | refine Kept.setCell ?_ (.inr GW157.out) _) | exact HK.out)).1) hk)); (case aB => exact (yG1 HB GE157.out)); (case aO => exact (yR HO_0.out)); (case aS => exact (bZ (yG1 HB GE157.out))); (case aL => have := LMc10.out; omega); intro v164 w16 ho hb hg; have hat := True.intro; rw [← Ny163.out] at ho; change Kd.R (Kd.int .u8) 5 w16 w0.heap.size (fun k_ => (P0_ k_ ∨ w.heap.size ≤ k_)) v164 y163 at ho; have n0_ := aM (blk_grown (g := gb157) (o := .cells #[.int .i64 a1_0, .int .i64 a1_1, .string a1_2] 52 (0, 0)) (yK BK157) hg (Kd.R_ne HO_0.out BK157.out (by decide))); have n1_ := aM (Kd.R_over' (yR HO161.out) (Kd.R_typed (yR HO_0.out)) (by decide) hg); have n2_ := aM (hb); have n3_ := aM (Kept.of_grown (S := (fun k_ => P0_ k_)) hg (by repeat (first | (with_reducible first | exact HK.out | apply Kept.alloc | apply Kept.drewN | apply Kept.drew | refine Kept.setCell ?_ (.inr GW157.out) _) | exact HK.out)) (fun k_ e_ => (HO_0.out.1 k_ e_))); have n4_ := aM (ho); clear BK157; clear HO161; clear HB; clear HK; clear HO_0; have BK157 := n0_; have HO161 := n1_; have HB := n2_; have HK := n3_; have HO165 := n4_; clear n0_ n1_ n2_ n3_ n4_; clear ho hb hg hat))
     go_ret
     exact ⟨_, yE, yR HO165.out, yG1 HB GE157.out, by repeat (first | (with_reducible first | exact HK.out | apply Kept.alloc | apply Kept.drewN | apply Kept.drew | refine Kept.setCell ?_ (.inr GW157.out) _) | exact HK.out)⟩
    ·
     rw [if_neg c10] at H
     exact absurd H (by simp)
   ·
    replace c7 := Bool.eq_false_iff.mpr c7
    subst c7
    replace H := yf H
    obtain ⟨y166, hy166⟩ : ∃ y_ : List Int, y_ = (([IntKind.u64.wrap ((a1_2.size : Int))] : List Int)) := ⟨_, rfl⟩
    replace H : ((word_Short.f kj2 y166).bind fun t169 => (if l0.length + t169.size < 140737488355328 then ((some (l0 ++ bytesOf t169 : List Int)).bind fun y170 => (if y170.length + a1_2.size < 140737488355328 then (some (y170 ++ bytesOf a1_2)) else (none))) else (none))) = some r := by first | (rw [hy166]; with_reducible exact H) | (have H2_ := (Option.bind_some _ _).symm.trans H; rw [hy166]; with_reducible exact H2_) | (have H2_ := (Option.bind_some _ _).symm.trans H; with_reducible exact H2_) | with_reducible exact H | (rw [hy166]; exact H) | exact H
    have Ny166 := aM hy166
    clear hy166
    obtain ⟨t169, A17, H⟩ := yb H
    by_cases c18 : l0.length + t169.size < 140737488355328
    ·
     rw [if_pos c18] at H
     have LMc18 := aM c18
     clear c18
     obtain ⟨y170, hy170⟩ : ∃ y_ : List Int, y_ = (l0 ++ bytesOf t169) := ⟨_, rfl⟩
     replace H : (if y170.length + a1_2.size < 140737488355328 then (some (y170 ++ bytesOf a1_2)) else (none)) = some r := by first | (rw [hy170]; with_reducible exact H) | (have H2_ := (Option.bind_some _ _).symm.trans H; rw [hy170]; with_reducible exact H2_) | (have H2_ := (Option.bind_some _ _).symm.trans H; with_reducible exact H2_) | with_reducible exact H | (rw [hy170]; exact H) | exact H
     have Ny170 := aM hy170
     clear hy170
     by_cases c19 : y170.length + a1_2.size < 140737488355328
     ·
      rw [if_pos c19] at H
      have LMc19 := aM c19
      clear c19
      obtain ⟨y173, hy173⟩ : ∃ y_ : List Int, y_ = (y170 ++ bytesOf a1_2) := ⟨_, rfl⟩
      replace H : (some y173) = some r := by first | (rw [hy173]; with_reducible exact H) | (have H2_ := (Option.bind_some _ _).symm.trans H; rw [hy173]; with_reducible exact H2_) | (have H2_ := (Option.bind_some _ _).symm.trans H; with_reducible exact H2_) | with_reducible exact H | (rw [hy173]; exact H) | exact H
      have Ny173 := aM hy173
      clear hy173
      obtain rfl := Option.some.inj H
      obtain ⟨hcz20_0, hcz20_1, hcz20_2, hfz20_0, hfz20_1, hfz20_2⟩ := cells3 BK157.out
      go_wp2_with (first | ((with_reducible refine gate_dst (N := 22) rfl ?_); refine Kd.R_lit (Kd.int .u64) _ 122 ?hg (N := 22) ?hd (xs := ([IntKind.u64.wrap ((a1_2.size : Int))] : List Int)) (inner := [.int .u64 (IntKind.u64.wrap ((a1_2.size : Int)))]) (ok := fun _ => True) (okp := fun _ => True) ?hr ?hp (fun _ hk => hk) trivial (Below.refl _ _) (Nat.le_refl _) (by simp) ?_; (case hd => rfl); (case hg => rfl); (case hr => first | (go_simp; done) | (go_simp; rfl)); (case hp => exact (Reps.one (show Kd.M (Kd.int .u64) _ _ _ (IntKind.u64.wrap ((a1_2.size : Int))) [.int .u64 (IntKind.u64.wrap ((a1_2.size : Int)))] from rfl) (Reps.none _ _))); intro v167 w21 ho22 hb hg_ hnew_; clear hg_ hnew_; (first | rw [← Ny166.out] at ho22 | (simp only [Int.reduceToNat] at ho22; rw [← Ny166.out] at ho22)); replace HO_0 := aM (Kd.R_below (yR HO_0.out) hb); have HO168 := aM (Kd.R_lower (Kd.R_newM (M := fun k_ => (P0_ k_ ∨ w.heap.size ≤ k_)) ho22 (by first | exact HK.out.1 | exact (show Kept w _ (fun k_ => P0_ k_) from by repeat (first | (with_reducible first | exact HK.out | apply Kept.alloc | apply Kept.drewN | apply Kept.drew | refine Kept.setCell ?_ (.inr GW157.out) _) | exact HK.out)).1) (fun k_ h_ => .inr h_)) (bZ (yG1 HB GE157.out))); replace BK157 := aM (kB (yK BK157) hb); replace HK := aM (Kept.below (S := (fun k_ => P0_ k_)) (by repeat (first | (with_reducible first | exact HK.out | apply Kept.alloc | apply Kept.drewN | apply Kept.drew | refine Kept.setCell ?_ (.inr GW157.out) _) | exact HK.out)) hb); replace HB := aM (bP (yG1 HB GE157.out) hb); clear hb ho22; obtain ⟨Ao23, co23, eo23⟩ := Kd.R_slice HO168.out; subst eo23) | ((with_reducible refine gate_callee (f := 92) rfl ?_); refine yC 23 Tryd.func92 #[.slice Ao23 y166.length co23] rfl ?_; (with_reducible refine (word_Short.calls kj2 _ _ y166 t169 _ ?side1 ?side2 A17.out).mono ?_); (case side1 => exact yW (Kd.R_reads' HO168.out).2.2); (case side2 => exact (Kd.R_reads' HO168.out).2.1); rintro e w24 ⟨rfl, hb⟩; refine ⟨_, rfl, ?_⟩; replace HO_0 := aM (Kd.R_below (yR HO_0.out) hb); replace HO168 := aM (Kd.R_below (yR HO168.out) hb); replace BK157 := aM (kB (yK BK157) hb); replace HK := aM (Kept.below (S := (fun k_ => P0_ k_)) (by repeat (first | (with_reducible first | exact HK.out | apply Kept.alloc | apply Kept.drewN | apply Kept.drew | refine Kept.setCell ?_ (.inr GW157.out) _) | exact HK.out)) hb); replace HB := aM (bP (yG1 HB GE157.out) hb); (try clear hb)) | (at_builtin; refine print_append_strM (w0 := w0) w0.heap.size rfl (.tmp 17) _ 91 9 5 rfl Tryd.underlying91 Tryd.underlying9 info5 u9000_ l0 t169 (fun k_ => (P0_ k_ ∨ w.heap.size ≤ k_)) rfl rfl ?aO ?aF ?aB ?aS ?aL ?_; (case aF => exact fun k_ hk => .inr (Nat.le_trans (by first | exact HK.out.1 | exact (show Kept w _ (fun k_ => P0_ k_) from by repeat (first | (with_reducible first | exact HK.out | apply Kept.alloc | apply Kept.drewN | apply Kept.drew | refine Kept.setCell ?_ (.inr GW157.out) _) | exact HK.out)).1) hk)); (case aB => exact (yG1 HB GE157.out)); (case aO => exact (yR HO_0.out)); (case aS => exact (bZ (yG1 HB GE157.out))); (case aL => have := LMc18.out; omega); intro v171 w25 ho hb hg; have hat := True.intro; rw [← Ny170.out] at ho; change Kd.R (Kd.int .u8) 5 w25 w0.heap.size (fun k_ => (P0_ k_ ∨ w.heap.size ≤ k_)) v171 y170 at ho; have n0_ := aM (blk_grown (g := gb157) (o := .cells #[.int .i64 a1_0, .int .i64 a1_1, .string a1_2] 52 (0, 0)) (yK BK157) hg (Kd.R_ne HO_0.out BK157.out (by decide))); have n1_ := aM (Kd.R_over' (yR HO168.out) (Kd.R_typed (yR HO_0.out)) (by decide) hg); have n2_ := aM (hb); have n3_ := aM (Kept.of_grown (S := (fun k_ => P0_ k_)) hg (by repeat (first | (with_reducible first | exact HK.out | apply Kept.alloc | apply Kept.drewN | apply Kept.drew | refine Kept.setCell ?_ (.inr GW157.out) _) | exact HK.out)) (fun k_ e_ => (HO_0.out.1 k_ e_))); have n4_ := aM (ho); clear BK157; clear HO168; clear HB; clear HK; clear HO_0; have BK157 := n0_; have HO168 := n1_; have HB := n2_; have HK := n3_; have HO172 := n4_; clear n0_ n1_ n2_ n3_ n4_; clear ho hb hg hat; obtain ⟨hcz26_0, hcz26_1, hcz26_2, hfz26_0, hfz26_1, hfz26_2⟩ := cells3 BK157.out) | (at_builtin; refine print_append_strM (w0 := w0) w0.heap.size rfl (.tmp 25) _ 91 9 5 rfl Tryd.underlying91 Tryd.underlying9 info5 v171 y170 a1_2 (fun k_ => (P0_ k_ ∨ w.heap.size ≤ k_)) rfl rfl ?aO ?aF ?aB ?aS ?aL ?_; (case aF => exact fun k_ hk => .inr (Nat.le_trans (by first | exact HK.out.1 | exact (show Kept w _ (fun k_ => P0_ k_) from by repeat (first | (with_reducible first | exact HK.out | apply Kept.alloc | apply Kept.drewN | apply Kept.drew | refine Kept.setCell ?_ (.inr GW157.out) _) | exact HK.out)).1) hk)); (case aB => exact (yG1 HB GE157.out)); (case aO => exact (yR HO172.out)); (case aS => exact (bZ (yG1 HB GE157.out))); (case aL => have := LMc19.out; omega); intro v174 w27 ho hb hg; have hat := True.intro; rw [← Ny173.out] at ho; change Kd.R (Kd.int .u8) 5 w27 w0.heap.size (fun k_ => (P0_ k_ ∨ w.heap.size ≤ k_)) v174 y173 at ho; have n0_ := aM (blk_grown (g := gb157) (o := .cells #[.int .i64 a1_0, .int .i64 a1_1, .string a1_2] 52 (0, 0)) (yK BK157) hg (Kd.R_ne HO172.out BK157.out (by decide))); have n1_ := aM (Kd.R_over' (yR HO168.out) (Kd.R_typed (yR HO172.out)) (by decide) hg); have n2_ := aM (hb); have n3_ := aM (Kept.of_grown (S := (fun k_ => P0_ k_)) hg (by repeat (first | (with_reducible first | exact HK.out | apply Kept.alloc | apply Kept.drewN | apply Kept.drew | refine Kept.setCell ?_ (.inr GW157.out) _) | exact HK.out)) (fun k_ e_ => (HO172.out.1 k_ e_))); have n4_ := aM (ho); clear BK157; clear HO168; clear HB; clear HK; clear HO172; have BK157 := n0_; have HO168 := n1_; have HB := n2_; have HK := n3_; have HO175 := n4_; clear n0_ n1_ n2_ n3_ n4_; clear ho hb hg hat))
      go_ret
      exact ⟨_, yE, yR HO175.out, yG1 HB GE157.out, by repeat (first | (with_reducible first | exact HK.out | apply Kept.alloc | apply Kept.drewN | apply Kept.drew | refine Kept.setCell ?_ (.inr GW157.out) _) | exact HK.out)⟩
     ·
      rw [if_neg c19] at H
      exact absurd H (by simp)
    ·
     rw [if_neg c18] at H
     exact absurd H (by simp)
/-! ### rowcode_Encode: function 16 -/
def rowcode_Encode.l0 : Nat → List Int → List (S52) → Int → Int → Option (ByteArray × Int)
 | 0, _, _, _, _ => none
 | k + 1, x7, x20, x21, x22 => if x22 < x21 then (if 0 ≤ x22 then (if x22 < (x20.length : Int) then (if ((rd_T52 x20 x22).f0) = 0 then (if 0 ≤ (x22 / 8) then (if (x22 / 8) < (x7.length : Int) then (if 0 ≤ (Go.bits .and .i64 x22 7) then (rowcode_Encode.l0 k (x7.set ((x22 / 8) : Int).toNat (Go.bits .or .u8 (rd x7 (x22 / 8)) (shl .u8 1 (Go.bits .and .i64 x22 7)))) x20 x21 (wrap64 (x22 + 1))) else (none)) else (none)) else (none)) else ((rowcode_put.f k x7 ((rd_T52 x20 x22).f0) ((rd_T52 x20 x22).f1) ((rd_T52 x20 x22).f2)).bind fun t186 => (rowcode_Encode.l0 k t186 x20 x21 (wrap64 (x22 + 1))))) else (none)) else (none)) else (some (strOfNums x7, 0))
def rowcode_Encode.f (k : Nat) (a0_0 : Int) (a0_1 : ByteArray) (a0_2 : Int) (a0_3 : Int) (l0_4 : List (S54)) (l1 : List (S52)) : Option (ByteArray × Int) := (schema_Row.f k a0_0 a0_1 a0_2 a0_3 l0_4 l1).bind fun t177 => (if t177 = 0 then ((rowcode_size.f (l1.length : Int)).bind fun t178 => (if 0 ≤ t178 then (if (t178 : Int).toNat ≤ 281474976710656 then (rowcode_Encode.l0 k (List.replicate (t178 : Int).toNat 0) l1 (l1.length : Int) 0) else (none)) else (none))) else (some ((⟨#[]⟩ : ByteArray), t177)))
theorem rowcode_Encode.mono_l : ∀ k, (∀ y0 y1 y2 y3, LeO (rowcode_Encode.l0 k y0 y1 y2 y3) (rowcode_Encode.l0 (k + 1) y0 y1 y2 y3))
 | 0 => fun _ _ _ _ r h => by simp [rowcode_Encode.l0] at h
 | k + 1 => by
  have ih0 := rowcode_Encode.mono_l k
  ·
   intro y0 y1 y2 y3
   unfold rowcode_Encode.l0
   repeat' first
   | (with_reducible exact ih0 _ _ _ _)
   | (with_reducible exact rowcode_put.mono _ _ _ _ _)
   | (with_reducible exact schema_Row.mono _ _ _ _ _ _ _)
   | (with_reducible exact LeO.refl _)
   | (with_reducible exact LeO.none _)
   | (with_reducible refine LeO.ite ?_ ?_)
   | (with_reducible refine LeO.bind ?_ (fun _ => ?_))
   | exact ih0 _ _ _ _
   | exact rowcode_put.mono _ _ _ _ _
   | exact schema_Row.mono _ _ _ _ _ _ _
   | exact LeO.none _
   | refine LeO.ite ?_ ?_
   | refine LeO.bind ?_ (fun _ => ?_)
theorem rowcode_Encode.mono : ∀ a0 a1 a2 a3 a4 a5 k, LeO (rowcode_Encode.f k a0 a1 a2 a3 a4 a5) (rowcode_Encode.f (k + 1) a0 a1 a2 a3 a4 a5) := by
 intro a0 a1 a2 a3 a4 a5 k
 have ih0 := rowcode_Encode.mono_l k
 unfold rowcode_Encode.f
 repeat' first | with_reducible (first | exact ih0 .. | exact rowcode_put.mono .. | exact schema_Row.mono .. | exact LeO.refl .. | exact LeO.none .. | refine LeO.ite ?_ ?_ | refine LeO.bind ?_ (fun _ => ?_)) | exact ih0 .. | exact rowcode_put.mono .. | exact schema_Row.mono .. | exact LeO.none .. | refine LeO.ite ?_ ?_ | refine LeO.bind ?_ (fun _ => ?_)
def rowcode_Encode.T9 : Bool × List (List Nat × List Nat) := (true, [([], []), ([], []), ([1], [1]), ([0, 2], [0, 2]), ([3], [3]), ([], []), ([5], [5]), ([6], [6]), ([4, 7], [4, 7]), ([0, 2, 0, 1, 2, 3, 4, 5, 6, 7, 8], [0, 2]), ([9, 8, 0, 1, 2, 3, 4, 5, 6, 7, 8], [8, 9])])
def rowcode_Encode.B9 : List Nat := [0, 0, 2, 7, 15, 0, 32, 96, 255, 511, 1023]
theorem rowcode_Encode.tab9 : rtab .any (opsOf Tryd.f16 9) = rowcode_Encode.T9 := by kernel_rfl
theorem rowcode_Encode.bits9 : waitsOk rowcode_Encode.T9.2 rowcode_Encode.B9 = true := by kernel_rfl
set_option maxHeartbeats 8000000 in
set_option maxRecDepth 100000 in
theorem rowcode_Encode.calls (k : Nat) (a0_0 : Int) (a0_1 : ByteArray) (a0_2 : Int) (a0_3 : Int) (A0_4 : Option Addr) (c0_4 : Nat) (l0_4 : List (S54)) (A1 : Option Addr) (c1 : Nat) (l1 : List (S52)) (r1 : ByteArray) (r2 : Int) (w : World) (hr0_4 : Kd.C k54 w A0_4 l0_4.length l0_4) (hc0_4 : l0_4.length ≤ c0_4) (hr1 : Kd.C k52 w A1 l1.length l1) (hc1 : l1.length ≤ c1) (hG : Glob w) (h : rowcode_Encode.f k a0_0 a0_1 a0_2 a0_3 l0_4 l1 = some (r1, r2)) :
  Calls Tryd.prog 16 #[.agg #[.int .i64 a0_0, .string a0_1, .int .i64 a0_2, .int .i64 a0_3, .slice A0_4 l0_4.length c0_4], .slice A1 l1.length c1] w fun e w' => e = .returned (.tuple #[.string r1, .int .i64 r2]) ∧ Below w.heap.size w w' := by
 have hu24 := Tryd.underlying24
 have hu52 := Tryd.underlying52
 have HR0_4 := aM hr0_4
 have HC0_4 := aM hc0_4
 clear hr0_4 hc0_4
 have HR1 := aM hr1
 have HC1 := aM hc1
 clear hr1 hc1
 have HG := aM hG
 clear hG
 have HB := aM (Below.refl w.heap.size w)
 have H : ((schema_Row.f k a0_0 a0_1 a0_2 a0_3 l0_4 l1).bind fun t177 => (if t177 = 0 then ((rowcode_size.f (l1.length : Int)).bind fun t178 => (if 0 ≤ t178 then (if (t178 : Int).toNat ≤ 281474976710656 then (rowcode_Encode.l0 k (List.replicate (t178 : Int).toNat 0) l1 (l1.length : Int) 0) else (none)) else (none))) else (some ((⟨#[]⟩ : ByteArray), t177)))) = some (r1, r2) := h
 clear h
 obtain ⟨t177, A3, H⟩ := yb H
 by_cases c4 : t177 = 0
 ·
  rw [if_pos c4] at H
  have c4b0 : (t177 == 0) = true := beq_iff_eq.mpr c4
  have c4b1 : (t177 != 0) = false := bne_eq_false_iff_eq.mpr c4
  clear c4
  obtain ⟨t178, A5, H⟩ := yb H
  by_cases c6 : 0 ≤ t178
  ·
   rw [if_pos c6] at H
   have c6b0 := eq_true c6
   have c6b1 : decide (0 ≤ t178) = true := decide_eq_true c6
   clear c6
   by_cases c7 : (t178 : Int).toNat ≤ 281474976710656
   ·
    rw [if_pos c7] at H
    have c7b0 := eq_true c7
    have c7b1 : decide ((t178 : Int).toNat ≤ 281474976710656) = true := decide_eq_true c7
    clear c7
    obtain ⟨y179, hy179⟩ : ∃ y_ : List Int, y_ = (List.replicate (t178 : Int).toNat 0) := ⟨_, rfl⟩
    replace H : (rowcode_Encode.l0 k y179 l1 (l1.length : Int) 0) = some (r1, r2) := by first | (rw [hy179]; with_reducible exact H) | (have H2_ := (Option.bind_some _ _).symm.trans H; rw [hy179]; with_reducible exact H2_) | (have H2_ := (Option.bind_some _ _).symm.trans H; with_reducible exact H2_) | with_reducible exact H | (rw [hy179]; exact H) | exact H
    have Ny179 := aM hy179
    clear hy179
    have H' := aM H
    clear H
    go_enter Tryd.func16, Tryd.ntmps16
    go_wp2_with (first | ((with_reducible refine gate_dst (N := 2) rfl ?_); refine yX (N := 2) (cs := #[.int .i64 a0_0, .string a0_1, .int .i64 a0_2, .int .i64 a0_3, .slice A0_4 l0_4.length c0_4]) (t := 24) ?_; intro gb176 hg w8 hbox hb; have BK176 := aM (hbox); have GW176 := yZ hg (yB HB); have GE176 := yZ hg (yB HB); replace HB := aM (bP (yB HB) hb); clear hb hbox hg; obtain ⟨hcz9_0, hcz9_1, hcz9_2, hcz9_3, hcz9_4, hfz9_0, hfz9_1, hfz9_2, hfz9_3, hfz9_4⟩ := cells5 BK176.out) | ((with_reducible refine gate_callee (f := 24) rfl ?_); refine yC 12 Tryd.func24 #[.agg #[.int .i64 a0_0, .string a0_1, .int .i64 a0_2, .int .i64 a0_3, .slice A0_4 l0_4.length c0_4], .slice A1 l1.length c1] rfl ?_; (with_reducible refine (schema_Row.calls k a0_0 a0_1 a0_2 a0_3 _ _ l0_4 _ _ l1 t177 _ ?side1 ?side2 ?side3 ?side4 ?side5 A3.out).mono ?_); (case side1 => exact yW (Kd.C_below HR0_4.out HB.out)); (case side2 => exact HC0_4.out); (case side3 => exact yW (Kd.C_below HR1.out HB.out)); (case side4 => exact HC1.out); (case side5 => first | (with_reducible exact HG.out) | exact Glob.below HG.out (yG1 HB GE176.out)); rintro e w10 ⟨rfl, hb⟩; refine ⟨_, rfl, ?_⟩; replace BK176 := aM (kB (yK BK176) hb); replace HB := aM (bP (yG1 HB GE176.out) hb); (try clear hb)) | ((with_reducible refine gate_callee (f := 60) rfl ?_); refine yC 18 Tryd.func60 #[.int .i64 (l1.length : Int)] rfl ?_; (with_reducible refine (rowcode_size.calls (l1.length : Int) t178 _ A5.out).mono ?_); rintro e w' ⟨rfl, ⟨nd, rfl⟩⟩; refine ⟨_, rfl, ?_⟩) | ((with_reducible refine gate_dst (N := 19) rfl ?_); refine Kd.R_make (Kd.int .u8) _ 5 rfl (N := 19) rfl 91 _ _ rfl t178 rfl rfl Tryd.underlying91 (.int .u8 0) 1 info5 rfl (by decide) (by omega) 0 (ok := fun _ => True) (okp := fun _ => True) rfl (fun _ hk => hk) trivial (oD yA) (Nat.le_trans (Nat.mul_le_mul_right _ (oD yA : t178.toNat ≤ 281474976710656)) (by omega)) (Below.refl _ _) (Nat.le_refl _) ?_; intro v180 w11 ho12 hb hg_ hnew_; clear hg_ hnew_; (first | rw [← Ny179.out] at ho12 | (simp only [Int.reduceToNat] at ho12; rw [← Ny179.out] at ho12)); have HO181 := aM (Kd.R_lower ho12 (bZ (yG1 HB GE176.out))); replace BK176 := aM (kB (yK BK176) hb); replace HB := aM (bP (yG1 HB GE176.out) hb); clear hb ho12))
    go_loopg [7, 22] k (fun kq v7 v22 w' => ∃ (x7_1 : List Int) (x22_1 : Int), v22 = .int .i64 x22_1 ∧ Aside0 (rowcode_Encode.l0 kq x7_1 l1 (l1.length : Int) x22_1 = some (r1, r2)) ∧ Aside0 (kq ≤ k) ∧ Aside0 (Kd.R (Kd.int .u8) 5 w' w.heap.size (fun _ => True) v7 x7_1) ∧ Aside0 (w'.heap[gb176]? = some (.cells #[.int .i64 a0_0, .string a0_1, .int .i64 a0_2, .int .i64 a0_3, (.slice A0_4 l0_4.length c0_4)] 24 (0, 0))) ∧ Aside0 (Below w.heap.size w w'))
    case atStart => exact ⟨(y179), (0), yS, H', ⟨Nat.le_refl _⟩, ⟨yR HO181.out⟩, ⟨yK BK176⟩, ⟨yG1 HB GE176.out⟩⟩
    case round =>
     clear H'
     try clear c1
     try clear c4
     try clear c4b0
     try clear c4b1
     try clear c6
     try clear c6b0
     try clear c6b1
     try clear c7
     try clear c7b0
     try clear c7b1
     try clear hcz9_0 hcz9_1 hcz9_2 hcz9_3 hcz9_4
     try clear hfz9_0 hfz9_1 hfz9_2 hfz9_3 hfz9_4
     obtain ⟨x7_1, x22_1, rfl, HA, HK1, HO_7, BK176, HB⟩ := hrel
     cases gk with
     | zero => exact absurd HA.out (by simp [rowcode_Encode.l0])
     | succ k1 =>
      have H := HA.out
      clear HA
      simp only [rowcode_Encode.l0] at H
      by_cases c13 : x22_1 < (l1.length : Int)
      ·
       rw [if_pos c13] at H
       have c13b0 : decide (x22_1 < (l1.length : Int)) = true := decide_eq_true c13
       clear c13
       by_cases c14 : 0 ≤ x22_1
       ·
        rw [if_pos c14] at H
        have c14b0 : decide (0 ≤ x22_1) = true := decide_eq_true c14
        clear c14
        by_cases c15 : x22_1 < (l1.length : Int)
        ·
         rw [if_pos c15] at H
         have c15b0 : decide (x22_1 < (l1.length : Int)) = true := decide_eq_true c15
         clear c15
         by_cases c16 : ((rd_T52 l1 x22_1).f0) = 0
         ·
          rw [if_pos c16] at H
          have c16b0 : (((rd_T52 l1 x22_1).f0) == 0) = true := beq_iff_eq.mpr c16
          have c16b1 : (((rd_T52 l1 x22_1).f0) != 0) = false := bne_eq_false_iff_eq.mpr c16
          clear c16
          obtain ⟨ji17, hji17⟩ : ∃ j_ : Int, (x22_1 / 8) = j_ := ⟨_, rfl⟩
          replace H : (if 0 ≤ (ji17) then (if (ji17) < (x7_1.length : Int) then (if 0 ≤ (Go.bits .and .i64 x22_1 7) then (rowcode_Encode.l0 k1 (x7_1.set ((ji17) : Int).toNat (Go.bits .or .u8 (rd x7_1 (ji17)) (shl .u8 1 (Go.bits .and .i64 x22_1 7)))) l1 (l1.length : Int) (wrap64 (x22_1 + 1))) else (none)) else (none)) else (none)) = some (r1, r2) := by first | (rw [hji17] at H; exact H) | (simp only [hji17] at H ⊢; exact H)
          by_cases c18 : 0 ≤ (ji17)
          ·
           rw [if_pos c18] at H
           have c18b0 : decide (0 ≤ (ji17)) = true := decide_eq_true c18
           clear c18
           by_cases c19 : (ji17) < (x7_1.length : Int)
           ·
            rw [if_pos c19] at H
            have c19b0 : decide ((ji17) < (x7_1.length : Int)) = true := decide_eq_true c19
            clear c19
            by_cases c20 : 0 ≤ (Go.bits .and .i64 x22_1 7)
            ·
             rw [if_pos c20] at H
             have c20b0 := eq_true c20
             have c20b1 : decide (0 ≤ (Go.bits .and .i64 x22_1 7)) = true := decide_eq_true c20
             clear c20
             obtain ⟨ji21, hji21⟩ : ∃ j_ : Int, (shl .u8 1 (Go.bits .and .i64 x22_1 7)) = j_ := ⟨_, rfl⟩
             replace H : (rowcode_Encode.l0 k1 (x7_1.set ((ji17) : Int).toNat (Go.bits .or .u8 (rd x7_1 (ji17)) (ji21))) l1 (l1.length : Int) (wrap64 (x22_1 + 1))) = some (r1, r2) := by first | (rw [hji21] at H; exact H) | (simp only [hji21] at H ⊢; exact H)
             have hji21_ : (IntKind.u8.wrap (1 * 2 ^ min (Go.bits .and .i64 x22_1 7).toNat 8)) = ji21 := hji21
             have hji21z : (Go.bits .and .i64 x22_1 7) ≤ 8 → (IntKind.u8.wrap (1 * 2 ^ (Go.bits .and .i64 x22_1 7).toNat)) = ji21 := shl_small hji21
             have hji21u : (IntKind.u8.wrap (2 ^ min (Go.bits .and .i64 x22_1 7).toNat 8)) = ji21 := by have h_ := hji21_; rw [Int.one_mul] at h_; exact h_
             have hji21v : (Go.bits .and .i64 x22_1 7) ≤ 8 → (IntKind.u8.wrap (2 ^ (Go.bits .and .i64 x22_1 7).toNat)) = ji21 := fun hle_ => by have h_ := hji21z hle_; rw [Int.one_mul] at h_; exact h_
             obtain ⟨y185, hy185⟩ : ∃ y_ : List Int, y_ = (x7_1.set ((ji17) : Int).toNat (Go.bits .or .u8 (rd x7_1 (ji17)) (ji21))) := ⟨_, rfl⟩
             replace H : (rowcode_Encode.l0 k1 y185 l1 (l1.length : Int) (wrap64 (x22_1 + 1))) = some (r1, r2) := by first | (rw [hy185]; with_reducible exact H) | (have H2_ := (Option.bind_some _ _).symm.trans H; rw [hy185]; with_reducible exact H2_) | (have H2_ := (Option.bind_some _ _).symm.trans H; with_reducible exact H2_) | with_reducible exact H | (rw [hy185]; exact H) | exact H
             have Ny185 := aM hy185
             clear hy185
             have H' := aM H
             clear H
             have p182 : 0 ≤ (x22_1 : Int) := oD yA
             have q182 : x22_1 < (l1.length : Int) := oD yA
             obtain ⟨ad182, e182, hx182_0, hx182_1, hx182_2⟩ := at_T52 HR1.out x22_1 p182 q182
             cases e182
             replace hx182_0 := pw_cell_below HB.out hx182_0
             replace hx182_1 := pw_cell_below HB.out hx182_1
             replace hx182_2 := pw_cell_below HB.out hx182_2
             replace p182 := eq_true p182
             replace q182 := eq_true q182
             try go_wp2_with (first | ((with_reducible refine gate_dst (N := 9) rfl ?_); refine yX (N := 9) (cs := #[.int .i64 0, .int .i64 0, .string (⟨#[]⟩ : ByteArray)]) (t := 52) ?_; intro gb183 hg w23 hbox hb; replace HO_7 := aM (Kd.R_below (yR HO_7.out) hb); have BK183 := aM (hbox); have GW183 := yZ hg (yG1 HB GE176.out); have GE183 := yZ hg (yG1 HB GE176.out); replace HB := aM (bP (yG1 HB GE176.out) hb); have NB176_183 := yN hg (yK BK176); have NB183_176 := yM hg (yK BK176); replace BK176 := aM (kB (yK BK176) hb); clear hb hbox hg; have hnb24 := NB183_176.out; have hnc24 := NB176_183.out; obtain ⟨hcz25_0, hcz25_1, hcz25_2, hfz25_0, hfz25_1, hfz25_2⟩ := cells3 BK183.out))
             have n0_ : Aside0 (Kd.R (Kd.int .u8) 5 (((w23.setCell ⟨gb183, 0, none⟩ (.int .i64 ((rd_T52 l1 x22_1).f0))).setCell ⟨gb183, 1, none⟩ (.int .i64 ((rd_T52 l1 x22_1).f1))).setCell ⟨gb183, 2, none⟩ (.string ((rd_T52 l1 x22_1).f2))) w.heap.size (fun _ => True) u7 x7_1) := ⟨by (with_reducible repeat (first | apply Kd.R_alloc | apply Kd.R_drewN | apply Kd.R_drew)); exact Kd.R_mono (Kd.R_far (p := ⟨gb183, 2, none⟩) (Kd.R_far (p := ⟨gb183, 1, none⟩) (Kd.R_far (p := ⟨gb183, 0, none⟩) (Kd.R_types HO_7.out BK183.out (by decide)) (fun _ hk => hk.2) (.int .i64 ((rd_T52 l1 x22_1).f0))) (fun _ hk => hk.2) (.int .i64 ((rd_T52 l1 x22_1).f1))) (fun _ hk => hk.2) (.string ((rd_T52 l1 x22_1).f2))) (fun _ hk => trivial)⟩
             have n1_ : Aside0 ((((w23.setCell ⟨gb183, 0, none⟩ (.int .i64 ((rd_T52 l1 x22_1).f0))).setCell ⟨gb183, 1, none⟩ (.int .i64 ((rd_T52 l1 x22_1).f1))).setCell ⟨gb183, 2, none⟩ (.string ((rd_T52 l1 x22_1).f2))).heap[gb176]? = some (.cells #[.int .i64 a0_0, .string a0_1, .int .i64 a0_2, .int .i64 a0_3, .slice A0_4 l0_4.length c0_4] 24 (0, 0))) := ⟨yF1 BK176 NB176_183.out⟩
             have n2_ : Aside0 ((((w23.setCell ⟨gb183, 0, none⟩ (.int .i64 ((rd_T52 l1 x22_1).f0))).setCell ⟨gb183, 1, none⟩ (.int .i64 ((rd_T52 l1 x22_1).f1))).setCell ⟨gb183, 2, none⟩ (.string ((rd_T52 l1 x22_1).f2))).heap[gb183]? = some (.cells #[.int .i64 ((rd_T52 l1 x22_1).f0), .int .i64 ((rd_T52 l1 x22_1).f1), .string ((rd_T52 l1 x22_1).f2)] 52 (0, 0))) := ⟨puts3 BK183.out⟩
             have n3_ : Aside0 (Below w.heap.size w (((w23.setCell ⟨gb183, 0, none⟩ (.int .i64 ((rd_T52 l1 x22_1).f0))).setCell ⟨gb183, 1, none⟩ (.int .i64 ((rd_T52 l1 x22_1).f1))).setCell ⟨gb183, 2, none⟩ (.string ((rd_T52 l1 x22_1).f2)))) := ⟨yG2 HB GE176.out GE183.out⟩
             (try clear HO_7)
             (try clear BK176)
             (try clear BK183)
             (try clear HB)
             generalize (((w23.setCell ⟨gb183, 0, none⟩ (.int .i64 ((rd_T52 l1 x22_1).f0))).setCell ⟨gb183, 1, none⟩ (.int .i64 ((rd_T52 l1 x22_1).f1))).setCell ⟨gb183, 2, none⟩ (.string ((rd_T52 l1 x22_1).f2))) = w26 at n0_ n1_ n2_ n3_ ⊢
             have HO_7 := n0_
             have BK176 := n1_
             have BK183 := n2_
             have HB := n3_
             clear n0_ n1_ n2_ n3_
             have n0_ := aM (Kd.R_drew HO_7.out)
             have n1_ := aM (kD BK176.out)
             have n2_ := aM (kD BK183.out)
             have n3_ := aM (b1 HB.out)
             clear HO_7
             clear BK176
             clear BK183
             clear HB
             have HO_7 := n0_
             have BK176 := n1_
             have BK183 := n2_
             have HB := n3_
             clear n0_ n1_ n2_ n3_
             obtain ⟨Ao28, co28, eo28⟩ := Kd.R_slice HO_7.out
             (first | subst eo28 | (injection eo28 with f1_ f2_ f3_; have f4_ := f1_.symm; have f5_ := f3_.symm; clear f1_ f2_ f3_; subst f4_; subst f5_))
             have p184 : 0 ≤ ((ji17) : Int) := oD yA
             have q184 : (ji17) < (x7_1.length : Int) := oD yA
             obtain ⟨ad184, e184, hx184_0⟩ := Kd.at_int (Kd.R_reads' HO_7.out).2.2 (ji17) p184 q184
             cases e184
             replace p184 := eq_true p184
             replace q184 := eq_true q184
             have p22 : 0 ≤ ((ji17) : Int) := oD yA
             have q22 : ((ji17) : Int) < ((x7_1.length : Int) : Int) := oD yA
             obtain ⟨go22, co22, eo22, gb22, gl22, cl22, HG22⟩ := Kd.R_form HO_7.out (by omega)
             (first | cases eo22 | (injection eo22 with ea_ en_ ec_; (first | subst ea_ | (injection ea_ with ea_; subst ea_)); subst ec_; clear en_))
             have GB22 := aM gb22
             have GG22 := aM HG22
             clear gb22 gl22 HG22
             (first | simp only [add_plain] at hx184_0 | skip)
             obtain ⟨hx22_0, hf22_0⟩ := Kd.R_celln 0 HO_7.out ((ji17) : Int) p22 q22
             replace p22 := eq_true p22
             replace q22 := eq_true q22
             have HP29 := Kd.R_putn HO_7.out ((ji17) : Int) (Go.bits .or .u8 (rd x7_1 (ji17)) (ji21))
             rw [← Ny185.out] at HP29
             have HQ29 := aM HP29
             clear HP29
             refine start_ (n := 11) (S := fun w' => w'.cell? ⟨go22, ((ji17)).toNat, none⟩ = some (.int .u8 (rd x7_1 (ji17)))) (ds := [10]) (tB 0 11) (by kernel_rfl) rfl rfl (hx184_0) (fun hHeld => ?_); refine with_tabW rowcode_Encode.tab9 rowcode_Encode.bits9 (fun HT_ HW_ => ?_)
             generalize w26.drew = w27 at HO_7 BK176 BK183 HB GG22 HQ29 hf22_0 hx184_0 hx22_0 hHeld ⊢
             refine yP HT_ 0 30 (tB 1 11) rfl rfl ?_
             refine yP HT_ 1 31 (tB 3 11) rfl rfl ?_
             refine yP HT_ 2 32 (tB 7 11) rfl rfl ?_
             refine yP HT_ 3 33 (tB 15 11) rfl rfl ?_
             refine yP HT_ 5 35 (tB 47 11) rfl rfl ?_
             refine yP HT_ 6 36 (tB 111 11) rfl rfl ?_
             refine yP HT_ 7 37 (tB 239 11) rfl rfl ?_
             refine yT HT_ HW_ 4 34 (tB 255 11) rfl rfl hHeld ?_
             refine yP HT_ 8 38 (tB 511 11) rfl rfl ?_
             refine yP HT_ 9 39 (tB 1023 11) rfl rfl ?_
             refine last_ (i := 10) (N := none) (tB 2047 11) rfl rfl (one_of HT_.out (by kernel_rfl)) (by decide) (fun K hK => ?_)
             refine skip_ (w1 := ?_) (by rfl) rfl ?_ ?_
             rotate_left
             ·
              go_simp
              rfl
             refine hK.out _ _ ?_
             clear hK K
             refine done_ (done_of HT_.out (by kernel_rfl)) ?_
             try go_wp2
             go_roundg k1
             case measure => have := HK1.out; omega
             case rel => exact ⟨(y185), (wrap64 (x22_1 + 1)), yS, H', ⟨by have := HK1.out; omega⟩, ⟨yR HQ29.out⟩, ⟨by (with_reducible repeat (first | refine kN ?_ _ | refine kD ?_ | refine kA ?_ _)); refine kF ?_ (by have h_ := Kd.R_ne HO_7.out BK176.out (by decide); intro e_; exact h_ (by rw [e_]; rfl)) _; (with_reducible repeat (first | refine kN ?_ _ | refine kD ?_ | refine kA ?_ _)); exact BK176.out⟩, ⟨yG3 HB GB22.out GE176.out GE183.out⟩⟩
            ·
             rw [if_neg c20] at H
             exact absurd H (by simp)
           ·
            rw [if_neg c19] at H
            exact absurd H (by simp)
          ·
           rw [if_neg c18] at H
           exact absurd H (by simp)
         ·
          rw [if_neg c16] at H
          have c16b0 : (((rd_T52 l1 x22_1).f0) == 0) = false := beq_eq_false_iff_ne.mpr c16
          have c16b1 : (((rd_T52 l1 x22_1).f0) != 0) = true := bne_iff_ne.mpr c16
          obtain ⟨t186, A30, H⟩ := yb H
          have H' := aM H
          clear H
          have p182 : 0 ≤ (x22_1 : Int) := oD yA
          have q182 : x22_1 < (l1.length : Int) := oD yA
          obtain ⟨ad182, e182, hx182_0, hx182_1, hx182_2⟩ := at_T52 HR1.out x22_1 p182 q182
          cases e182
          replace hx182_0 := pw_cell_below HB.out hx182_0
          replace hx182_1 := pw_cell_below HB.out hx182_1
          replace hx182_2 := pw_cell_below HB.out hx182_2
          replace p182 := eq_true p182
          replace q182 := eq_true q182
          go_wp2_with (first | ((with_reducible refine gate_dst (N := 9) rfl ?_); refine yX (N := 9) (cs := #[.int .i64 0, .int .i64 0, .string (⟨#[]⟩ : ByteArray)]) (t := 52) ?_; intro gb183 hg w31 hbox hb; replace HO_7 := aM (Kd.R_below (yR HO_7.out) hb); have BK183 := aM (hbox); have GW183 := yZ hg (yG1 HB GE176.out); have GE183 := yZ hg (yG1 HB GE176.out); replace HB := aM (bP (yG1 HB GE176.out) hb); have NB176_183 := yN hg (yK BK176); have NB183_176 := yM hg (yK BK176); replace BK176 := aM (kB (yK BK176) hb); clear hb hbox hg; have hnb32 := NB183_176.out; have hnc32 := NB176_183.out; obtain ⟨hcz33_0, hcz33_1, hcz33_2, hfz33_0, hfz33_1, hfz33_2⟩ := cells3 BK183.out) | ((with_reducible refine gate_store (t := 52) (p := 9) rfl ?_); refine store_event (t := 52) (p := 9) (v := ?vo_w34) (w1 := (((w31.setCell ⟨gb183, 0, none⟩ (.int .i64 ((rd_T52 l1 x22_1).f0))).setCell ⟨gb183, 1, none⟩ (.int .i64 ((rd_T52 l1 x22_1).f1))).setCell ⟨gb183, 2, none⟩ (.string ((rd_T52 l1 x22_1).f2)))) ?hg ?ho ?hn ?hr ?_; (case ho => rfl); (case hg => rfl); (case hn => rfl); (case hr => first | (go_simp; done) | (go_simp; rfl)); intro w34 hw; have n0_ : Aside0 (Kd.R (Kd.int .u8) 5 w34 w.heap.size (fun _ => True) u7 x7_1) := ⟨(by rw [hw]; exact (by (with_reducible repeat (first | apply Kd.R_alloc | apply Kd.R_drewN | apply Kd.R_drew)); exact Kd.R_mono (Kd.R_far (p := ⟨gb183, 2, none⟩) (Kd.R_far (p := ⟨gb183, 1, none⟩) (Kd.R_far (p := ⟨gb183, 0, none⟩) (Kd.R_types HO_7.out BK183.out (by decide)) (fun _ hk => hk.2) (.int .i64 ((rd_T52 l1 x22_1).f0))) (fun _ hk => hk.2) (.int .i64 ((rd_T52 l1 x22_1).f1))) (fun _ hk => hk.2) (.string ((rd_T52 l1 x22_1).f2))) (fun _ hk => trivial)))⟩; have n1_ : Aside0 (w34.heap[gb176]? = some (.cells #[.int .i64 a0_0, .string a0_1, .int .i64 a0_2, .int .i64 a0_3, .slice A0_4 l0_4.length c0_4] 24 (0, 0))) := ⟨(by rw [hw]; exact (yF1 BK176 NB176_183.out))⟩; have n2_ : Aside0 (w34.heap[gb183]? = some (.cells #[.int .i64 ((rd_T52 l1 x22_1).f0), .int .i64 ((rd_T52 l1 x22_1).f1), .string ((rd_T52 l1 x22_1).f2)] 52 (0, 0))) := ⟨(by rw [hw]; exact (puts3 BK183.out))⟩; have n3_ : Aside0 (Below w.heap.size w w34) := ⟨(by rw [hw]; exact (yG2 HB GE176.out GE183.out))⟩; clear hw; clear HO_7; clear BK176; clear BK183; clear HB; have HO_7 := n0_; have BK176 := n1_; have BK183 := n2_; have HB := n3_; clear n0_ n1_ n2_ n3_; obtain ⟨hcz35_0, hcz35_1, hcz35_2, hfz35_0, hfz35_1, hfz35_2⟩ := cells3 BK183.out; obtain ⟨Ao36, co36, eo36⟩ := Kd.R_slice HO_7.out; subst eo36) | ((with_reducible refine gate_callee (f := 61) rfl ?_); refine yC 42 Tryd.func61 #[.slice Ao36 x7_1.length co36, .agg #[.int .i64 ((rd_T52 l1 x22_1).f0), .int .i64 ((rd_T52 l1 x22_1).f1), .string ((rd_T52 l1 x22_1).f2)]] rfl ?_; (with_reducible refine (rowcode_put.calls k1 (fun k_ => some k_ = (.slice Ao36 x7_1.length co36 : Value).ownBlock) (.slice Ao36 x7_1.length co36) x7_1 ((rd_T52 l1 x22_1).f0) ((rd_T52 l1 x22_1).f1) ((rd_T52 l1 x22_1).f2) t186 w _ ?side1 ?side2 A30.out).mono ?_); (case side1 => exact yG2 HB GE176.out GE183.out); (case side2 => exact Kd.R_tight rfl HO_7.out); rintro e w37 ⟨v187, rfl, ho0, hb, hkp⟩; refine ⟨_, rfl, ?_⟩; have n0_ := aM (blk_kept (yK BK176) hkp (fun hs_ => (fun e_ => (Kd.R_ne HO_7.out BK176.out (by decide)) e_) hs_)); have n1_ := aM (blk_kept (yK BK183) hkp (fun hs_ => (fun e_ => (Kd.R_ne HO_7.out BK183.out (by decide)) e_) hs_)); have n2_ := aM (Kd.R_mono (ok' := fun k_ => True) ho0 (fun k_ hk_ => trivial)); have n3_ := aM (hb); clear BK176; clear BK183; clear HB; clear HO_7; have BK176 := n0_; have BK183 := n1_; have HO188 := n2_; have HB := n3_; clear n0_ n1_ n2_ n3_; (try clear hb); (try clear hkp); (try clear ho0)))
          go_roundg k1
          case measure => have := HK1.out; omega
          case rel => exact ⟨(t186), (wrap64 (x22_1 + 1)), yS, H', ⟨by have := HK1.out; omega⟩, ⟨yR HO188.out⟩, ⟨yK BK176⟩, ⟨yG2 HB GE176.out GE183.out⟩⟩
        ·
         rw [if_neg c15] at H
         exact absurd H (by simp)
       ·
        rw [if_neg c14] at H
        exact absurd H (by simp)
      ·
       rw [if_neg c13] at H
       have c13b0 : decide (x22_1 < (l1.length : Int)) = false := decide_eq_false c13
       clear c13
       simp only [Option.some.injEq, Prod.mk.injEq] at H
       obtain ⟨rfl, rfl⟩ := H
       have hcv38 := own_string (P := Tryd.prog) Tryd.underlying91 Tryd.underlying5 Tryd.underlying9 (Kd.own_of_R HO_7.out)
       go_wp2
       go_ret2
       exact ⟨yE, yG1 HB GE176.out⟩
   ·
    rw [if_neg c7] at H
    exact absurd H (by simp)
  ·
   rw [if_neg c6] at H
   exact absurd H (by simp)
 ·
  rw [if_neg c4] at H
  have c4b0 : (t177 == 0) = false := beq_eq_false_iff_ne.mpr c4
  have c4b1 : (t177 != 0) = true := bne_iff_ne.mpr c4
  simp only [Option.some.injEq, Prod.mk.injEq] at H
  obtain ⟨rfl, rfl⟩ := H
  go_enter Tryd.func16, Tryd.ntmps16
  go_wp2_with (first | ((with_reducible refine gate_dst (N := 2) rfl ?_); refine yX (N := 2) (cs := #[.int .i64 a0_0, .string a0_1, .int .i64 a0_2, .int .i64 a0_3, .slice A0_4 l0_4.length c0_4]) (t := 24) ?_; intro gb176 hg w39 hbox hb; have BK176 := aM (hbox); have GW176 := yZ hg (yB HB); have GE176 := yZ hg (yB HB); replace HB := aM (bP (yB HB) hb); clear hb hbox hg; obtain ⟨hcz40_0, hcz40_1, hcz40_2, hcz40_3, hcz40_4, hfz40_0, hfz40_1, hfz40_2, hfz40_3, hfz40_4⟩ := cells5 BK176.out) | ((with_reducible refine gate_callee (f := 24) rfl ?_); refine yC 12 Tryd.func24 #[.agg #[.int .i64 a0_0, .string a0_1, .int .i64 a0_2, .int .i64 a0_3, .slice A0_4 l0_4.length c0_4], .slice A1 l1.length c1] rfl ?_; (with_reducible refine (schema_Row.calls k a0_0 a0_1 a0_2 a0_3 _ _ l0_4 _ _ l1 t177 _ ?side1 ?side2 ?side3 ?side4 ?side5 A3.out).mono ?_); (case side1 => exact yW (Kd.C_below HR0_4.out HB.out)); (case side2 => exact HC0_4.out); (case side3 => exact yW (Kd.C_below HR1.out HB.out)); (case side4 => exact HC1.out); (case side5 => first | (with_reducible exact HG.out) | exact Glob.below HG.out (yG1 HB GE176.out)); rintro e w41 ⟨rfl, hb⟩; refine ⟨_, rfl, ?_⟩; replace BK176 := aM (kB (yK BK176) hb); replace HB := aM (bP (yG1 HB GE176.out) hb); (try clear hb)))
  go_ret2
  exact ⟨yE, yG1 HB GE176.out⟩
/-! ### haulagelaw08_Small: function 59 -/
def haulagelaw08_Small.f  : Option (Int × ByteArray × Int × Int × (List (S54))) := some (3, (⟨#[116]⟩ : ByteArray), 0, 2, (([(⟨0, (⟨#[97]⟩ : ByteArray), (⟨1, 0⟩ : S50), false, (⟨0, 0, (⟨#[]⟩ : ByteArray)⟩ : S52)⟩ : S54), (⟨1, (⟨#[98]⟩ : ByteArray), (⟨3, 5⟩ : S50), true, (⟨0, 0, (⟨#[]⟩ : ByteArray)⟩ : S52)⟩ : S54)] : List (S54))))
set_option maxHeartbeats 8000000 in
set_option maxRecDepth 100000 in
theorem haulagelaw08_Small.calls  (r1 : Int) (r2 : ByteArray) (r3 : Int) (r4 : Int) (r5 : List (S54)) (w : World) (h : haulagelaw08_Small.f  = some (r1, r2, r3, r4, r5)) :
  Calls Tryd.prog 59 #[] w fun e w' => ∃ v4_ : Value, e = .returned (.agg #[.int .i64 r1, .string r2, .int .i64 r3, .int .i64 r4, v4_]) ∧ Kd.R k54 54 w' w.heap.size (fun _ => True) v4_ r5 ∧ Below w.heap.size w w' := by
 have hu24 := Tryd.underlying24
 have hu50 := Tryd.underlying50
 have hu54 := Tryd.underlying54
 have HB := aM (Below.refl w.heap.size w)
 have H : (some (3, (⟨#[116]⟩ : ByteArray), 0, 2, (([(⟨0, (⟨#[97]⟩ : ByteArray), (⟨1, 0⟩ : S50), false, (⟨0, 0, (⟨#[]⟩ : ByteArray)⟩ : S52)⟩ : S54), (⟨1, (⟨#[98]⟩ : ByteArray), (⟨3, 5⟩ : S50), true, (⟨0, 0, (⟨#[]⟩ : ByteArray)⟩ : S52)⟩ : S54)] : List (S54))))) = some (r1, r2, r3, r4, r5) := h
 clear h
 obtain ⟨y190, hy190⟩ : ∃ y_ : List (S54), y_ = (([(⟨0, (⟨#[97]⟩ : ByteArray), (⟨1, 0⟩ : S50), false, (⟨0, 0, (⟨#[]⟩ : ByteArray)⟩ : S52)⟩ : S54), (⟨1, (⟨#[98]⟩ : ByteArray), (⟨3, 5⟩ : S50), true, (⟨0, 0, (⟨#[]⟩ : ByteArray)⟩ : S52)⟩ : S54)] : List (S54))) := ⟨_, rfl⟩
 replace H : (some (3, (⟨#[116]⟩ : ByteArray), 0, 2, y190)) = some (r1, r2, r3, r4, r5) := by first | (rw [hy190]; with_reducible exact H) | (have H2_ := (Option.bind_some _ _).symm.trans H; rw [hy190]; with_reducible exact H2_) | (have H2_ := (Option.bind_some _ _).symm.trans H; with_reducible exact H2_) | with_reducible exact H | (rw [hy190]; exact H) | exact H
 have Ny190 := aM hy190
 clear hy190
 simp only [Option.some.injEq, Prod.mk.injEq] at H
 obtain ⟨rfl, rfl, rfl, rfl, rfl⟩ := H
 go_enter Tryd.func59, Tryd.ntmps59
 go_wp2_with (first | ((with_reducible refine gate_dst (N := 0) rfl ?_); refine yX (N := 0) (cs := #[.int .i64 0, .string (⟨#[]⟩ : ByteArray), .int .i64 0, .int .i64 0, .slice none 0 0]) (t := 24) ?_; intro gb189 hg w1 hbox hb; have BK189 := aM (hbox); have GW189 := yZ hg (yB HB); have GE189 := yZ hg (yB HB); replace HB := aM (bP (yB HB) hb); clear hb hbox hg) | ((with_reducible refine gate_dst (N := 5) rfl ?_); refine Kd.R_lit k54 _ 54 ?hg (N := 5) ?hd (xs := ([(⟨0, (⟨#[97]⟩ : ByteArray), (⟨1, 0⟩ : S50), false, (⟨0, 0, (⟨#[]⟩ : ByteArray)⟩ : S52)⟩ : S54), (⟨1, (⟨#[98]⟩ : ByteArray), (⟨3, 5⟩ : S50), true, (⟨0, 0, (⟨#[]⟩ : ByteArray)⟩ : S52)⟩ : S54)] : List (S54))) (inner := [.int .i64 0, .string (⟨#[97]⟩ : ByteArray), .int .i64 1, .int .i64 0, .bool false, .int .i64 0, .int .i64 0, .string (⟨#[]⟩ : ByteArray), .int .i64 1, .string (⟨#[98]⟩ : ByteArray), .int .i64 3, .int .i64 5, .bool true, .int .i64 0, .int .i64 0, .string (⟨#[]⟩ : ByteArray)]) (ok := fun _ => True) (okp := fun _ => True) ?hr ?hp (fun _ hk => hk) trivial (Below.refl _ _) (Nat.le_refl _) (by simp) ?_; (case hd => rfl); (case hg => rfl); (case hr => first | (go_simp; done) | (go_simp; rfl)); (case hp => exact (Reps.c8 (show Kd.M k54 _ _ _ (⟨0, (⟨#[97]⟩ : ByteArray), (⟨1, 0⟩ : S50), false, (⟨0, 0, (⟨#[]⟩ : ByteArray)⟩ : S52)⟩ : S54) [.int .i64 0, .string (⟨#[97]⟩ : ByteArray), .int .i64 1, .int .i64 0, .bool false, .int .i64 0, .int .i64 0, .string (⟨#[]⟩ : ByteArray)] from (k54_mkM _ _ _ (⟨0, (⟨#[97]⟩ : ByteArray), (⟨1, 0⟩ : S50), false, (⟨0, 0, (⟨#[]⟩ : ByteArray)⟩ : S52)⟩ : S54) )) (Reps.c8 (show Kd.M k54 _ _ _ (⟨1, (⟨#[98]⟩ : ByteArray), (⟨3, 5⟩ : S50), true, (⟨0, 0, (⟨#[]⟩ : ByteArray)⟩ : S52)⟩ : S54) [.int .i64 1, .string (⟨#[98]⟩ : ByteArray), .int .i64 3, .int .i64 5, .bool true, .int .i64 0, .int .i64 0, .string (⟨#[]⟩ : ByteArray)] from (k54_mkM _ _ _ (⟨1, (⟨#[98]⟩ : ByteArray), (⟨3, 5⟩ : S50), true, (⟨0, 0, (⟨#[]⟩ : ByteArray)⟩ : S52)⟩ : S54) )) (Reps.none _ _)))); intro v191 w2 ho3 hb hg_ hnew_; clear hg_ hnew_; (first | rw [← Ny190.out] at ho3 | (simp only [Int.reduceToNat] at ho3; rw [← Ny190.out] at ho3)); have HO192 := aM (Kd.R_lower ho3 (bZ (yG1 HB GE189.out))); replace BK189 := aM (kB (yK BK189) hb); replace HB := aM (bP (yG1 HB GE189.out) hb); clear hb ho3; obtain ⟨Ao4, co4, eo4⟩ := Kd.R_slice HO192.out; subst eo4; obtain ⟨hcz5_0, hcz5_1, hcz5_2, hcz5_3, hcz5_4, hfz5_0, hfz5_1, hfz5_2, hfz5_3, hfz5_4⟩ := cells5 BK189.out))
 refine bodyPost_ret (results_cell_row rfl _ _ gb189 24 #[.int .i64 3, .string (⟨#[116]⟩ : ByteArray), .int .i64 0, .int .i64 2, .slice Ao4 y190.length co4] (0, 0) _ rfl (puts5 BK189.out) Tryd.underlying24 rfl (by kernel_rfl)) rfl ?_
 exact ⟨_, yE, by (with_reducible repeat (first | apply Kd.R_alloc | apply Kd.R_drewN | apply Kd.R_drew)); exact Kd.R_mono (Kd.R_far (p := ⟨gb189, 4, none⟩) (Kd.R_far (p := ⟨gb189, 3, none⟩) (Kd.R_far (p := ⟨gb189, 2, none⟩) (Kd.R_far (p := ⟨gb189, 1, none⟩) (Kd.R_far (p := ⟨gb189, 0, none⟩) (Kd.R_types HO192.out BK189.out (by decide)) (fun _ hk => hk.2) (.int .i64 3)) (fun _ hk => hk.2) (.string (⟨#[116]⟩ : ByteArray))) (fun _ hk => hk.2) (.int .i64 0)) (fun _ hk => hk.2) (.int .i64 2)) (fun _ hk => hk.2) (.slice Ao4 y190.length co4)) (fun _ hk => trivial), yG1 HB GE189.out⟩
/-! ### haulagelaw12_lives: function 13 -/
def haulagelaw12_lives.f (k : Nat)  : Option (Bool) := (haulagelaw08_Small.f).bind fun bt193 => ((rowcode_Encode.f k bt193.1 bt193.2.1 bt193.2.2.1 bt193.2.2.2.1 bt193.2.2.2.2 (([(⟨1, 1, (⟨#[]⟩ : ByteArray)⟩ : S52), (⟨0, 0, (⟨#[]⟩ : ByteArray)⟩ : S52)] : List (S52)))).bind fun bt203 => ((haulagelaw08_Small.f).bind fun bt205 => ((rowcode_Encode.f k bt205.1 bt205.2.1 bt205.2.2.1 bt205.2.2.2.1 bt205.2.2.2.2 (([(⟨1, 1, (⟨#[]⟩ : ByteArray)⟩ : S52), (⟨3, 0, (⟨#[120]⟩ : ByteArray)⟩ : S52)] : List (S52)))).bind fun bt215 => (if bt203.2 = 0 then (if bt215.2 = 0 then (if bt203.1.toList = ([2, 2] : List UInt8) then (some (bt215.1.toList == ([0, 2, 1, 120] : List UInt8))) else (some false)) else (some false)) else (some false)))))
theorem haulagelaw12_lives.mono : ∀ k, LeO (haulagelaw12_lives.f k ) (haulagelaw12_lives.f (k + 1) ) := by
 intro  k
 unfold haulagelaw12_lives.f
 repeat' first | with_reducible (first | exact rowcode_Encode.mono .. | exact LeO.refl .. | exact LeO.none .. | refine LeO.ite ?_ ?_ | refine LeO.bind ?_ (fun _ => ?_)) | exact rowcode_Encode.mono .. | exact LeO.none .. | refine LeO.ite ?_ ?_ | refine LeO.bind ?_ (fun _ => ?_)
set_option maxHeartbeats 8000000 in
set_option maxRecDepth 100000 in
theorem haulagelaw12_lives.calls (k : Nat)  (r : Bool) (w : World) (hG : Glob w) (h : haulagelaw12_lives.f k  = some r) :
  Calls Tryd.prog 13 #[] w fun e w' => e = .returned (.bool r) ∧ Below w.heap.size w w' := by
 have hu52 := Tryd.underlying52
 have HG := aM hG
 clear hG
 have HB := aM (Below.refl w.heap.size w)
 have H : ((haulagelaw08_Small.f).bind fun bt193 => ((rowcode_Encode.f k bt193.1 bt193.2.1 bt193.2.2.1 bt193.2.2.2.1 bt193.2.2.2.2 (([(⟨1, 1, (⟨#[]⟩ : ByteArray)⟩ : S52), (⟨0, 0, (⟨#[]⟩ : ByteArray)⟩ : S52)] : List (S52)))).bind fun bt203 => ((haulagelaw08_Small.f).bind fun bt205 => ((rowcode_Encode.f k bt205.1 bt205.2.1 bt205.2.2.1 bt205.2.2.2.1 bt205.2.2.2.2 (([(⟨1, 1, (⟨#[]⟩ : ByteArray)⟩ : S52), (⟨3, 0, (⟨#[120]⟩ : ByteArray)⟩ : S52)] : List (S52)))).bind fun bt215 => (if bt203.2 = 0 then (if bt215.2 = 0 then (if bt203.1.toList = ([2, 2] : List UInt8) then (some (bt215.1.toList == ([0, 2, 1, 120] : List UInt8))) else (some false)) else (some false)) else (some false)))))) = some r := h
 clear h
 obtain ⟨⟨t193, t194, t195, t196, t197⟩, A1, H⟩ := yb H
 try dsimp -simprocs only at H
 obtain ⟨y200, hy200⟩ : ∃ y_ : List (S52), y_ = (([(⟨1, 1, (⟨#[]⟩ : ByteArray)⟩ : S52), (⟨0, 0, (⟨#[]⟩ : ByteArray)⟩ : S52)] : List (S52))) := ⟨_, rfl⟩
 replace H : ((rowcode_Encode.f k t193 t194 t195 t196 t197 y200).bind fun bt203 => ((haulagelaw08_Small.f).bind fun bt205 => ((rowcode_Encode.f k bt205.1 bt205.2.1 bt205.2.2.1 bt205.2.2.2.1 bt205.2.2.2.2 (([(⟨1, 1, (⟨#[]⟩ : ByteArray)⟩ : S52), (⟨3, 0, (⟨#[120]⟩ : ByteArray)⟩ : S52)] : List (S52)))).bind fun bt215 => (if bt203.2 = 0 then (if bt215.2 = 0 then (if bt203.1.toList = ([2, 2] : List UInt8) then (some (bt215.1.toList == ([0, 2, 1, 120] : List UInt8))) else (some false)) else (some false)) else (some false))))) = some r := by first | (rw [hy200]; with_reducible exact H) | (have H2_ := (Option.bind_some _ _).symm.trans H; rw [hy200]; with_reducible exact H2_) | (have H2_ := (Option.bind_some _ _).symm.trans H; with_reducible exact H2_) | with_reducible exact H | (rw [hy200]; exact H) | exact H
 have Ny200 := aM hy200
 clear hy200
 obtain ⟨⟨t203, t204⟩, A2, H⟩ := yb H
 try dsimp -simprocs only at H
 obtain ⟨⟨t205, t206, t207, t208, t209⟩, A3, H⟩ := yb H
 try dsimp -simprocs only at H
 obtain ⟨y212, hy212⟩ : ∃ y_ : List (S52), y_ = (([(⟨1, 1, (⟨#[]⟩ : ByteArray)⟩ : S52), (⟨3, 0, (⟨#[120]⟩ : ByteArray)⟩ : S52)] : List (S52))) := ⟨_, rfl⟩
 replace H : ((rowcode_Encode.f k t205 t206 t207 t208 t209 y212).bind fun bt215 => (if t204 = 0 then (if bt215.2 = 0 then (if t203.toList = ([2, 2] : List UInt8) then (some (bt215.1.toList == ([0, 2, 1, 120] : List UInt8))) else (some false)) else (some false)) else (some false))) = some r := by first | (rw [hy212]; with_reducible exact H) | (have H2_ := (Option.bind_some _ _).symm.trans H; rw [hy212]; with_reducible exact H2_) | (have H2_ := (Option.bind_some _ _).symm.trans H; with_reducible exact H2_) | with_reducible exact H | (rw [hy212]; exact H) | exact H
 have Ny212 := aM hy212
 clear hy212
 obtain ⟨⟨t215, t216⟩, A4, H⟩ := yb H
 try dsimp -simprocs only at H
 by_cases c5 : t204 = 0
 ·
  rw [if_pos c5] at H
  have c5b0 : (t204 == 0) = true := beq_iff_eq.mpr c5
  have c5b1 : (t204 != 0) = false := bne_eq_false_iff_eq.mpr c5
  clear c5
  by_cases c6 : t216 = 0
  ·
   rw [if_pos c6] at H
   have c6b0 : (t216 == 0) = true := beq_iff_eq.mpr c6
   have c6b1 : (t216 != 0) = false := bne_eq_false_iff_eq.mpr c6
   clear c6
   by_cases c7 : t203.toList = ([2, 2] : List UInt8)
   ·
    rw [if_pos c7] at H
    have c7b0 : (t203.toList == ([2, 2] : List UInt8)) = true := beq_iff_eq.mpr c7
    have c7b1 : (t203.toList != ([2, 2] : List UInt8)) = false := bne_eq_false_iff_eq.mpr c7
    clear c7
    obtain rfl := Option.some.inj H
    go_enter Tryd.func13, Tryd.ntmps13
    go_wp2_with (first | ((with_reducible refine gate_callee (f := 59) rfl ?_); refine yC 6 Tryd.func59 #[] rfl ?_; (with_reducible refine (haulagelaw08_Small.calls  t193 t194 t195 t196 t197 _ A1.out).mono ?_); rintro e w8 ⟨v198, rfl, ho0, hb⟩; refine ⟨_, rfl, ?_⟩; have HO199 := aM (Kd.R_lower ho0 (bZ (yB HB))); replace HB := aM (bP (yB HB) hb); (try clear hb); (try clear ho0)) | ((with_reducible refine gate_dst (N := 9) rfl ?_); refine Kd.R_lit k52 _ 52 ?hg (N := 9) ?hd (xs := ([(⟨1, 1, (⟨#[]⟩ : ByteArray)⟩ : S52), (⟨0, 0, (⟨#[]⟩ : ByteArray)⟩ : S52)] : List (S52))) (inner := [.int .i64 1, .int .i64 1, .string (⟨#[]⟩ : ByteArray), .int .i64 0, .int .i64 0, .string (⟨#[]⟩ : ByteArray)]) (ok := fun _ => True) (okp := fun _ => True) ?hr ?hp (fun _ hk => hk) trivial (Below.refl _ _) (Nat.le_refl _) (by simp) ?_; (case hd => rfl); (case hg => rfl); (case hr => first | (go_simp; done) | (go_simp; rfl)); (case hp => exact (Reps.c3 (show Kd.M k52 _ _ _ (⟨1, 1, (⟨#[]⟩ : ByteArray)⟩ : S52) [.int .i64 1, .int .i64 1, .string (⟨#[]⟩ : ByteArray)] from (k52_mkM _ _ _ (⟨1, 1, (⟨#[]⟩ : ByteArray)⟩ : S52) )) (Reps.c3 (show Kd.M k52 _ _ _ (⟨0, 0, (⟨#[]⟩ : ByteArray)⟩ : S52) [.int .i64 0, .int .i64 0, .string (⟨#[]⟩ : ByteArray)] from (k52_mkM _ _ _ (⟨0, 0, (⟨#[]⟩ : ByteArray)⟩ : S52) )) (Reps.none _ _)))); intro v201 w9 ho10 hb hg_ hnew_; clear hg_ hnew_; (first | rw [← Ny200.out] at ho10 | (simp only [Int.reduceToNat] at ho10; rw [← Ny200.out] at ho10)); replace HO199 := aM (Kd.R_below (yR HO199.out) hb); have HO202 := aM (Kd.R_lower ho10 (bZ (yB HB))); replace HB := aM (bP (yB HB) hb); clear hb ho10; obtain ⟨Ao11, co11, eo11⟩ := Kd.R_slice HO199.out; subst eo11; obtain ⟨Ao12, co12, eo12⟩ := Kd.R_slice HO202.out; subst eo12) | ((with_reducible refine gate_callee (f := 16) rfl ?_); refine yC 10 Tryd.func16 #[.agg #[.int .i64 t193, .string t194, .int .i64 t195, .int .i64 t196, .slice Ao11 t197.length co11], .slice Ao12 y200.length co12] rfl ?_; (with_reducible refine (rowcode_Encode.calls k t193 t194 t195 t196 _ _ t197 _ _ y200 t203 t204 _ ?side1 ?side2 ?side3 ?side4 ?side5 A2.out).mono ?_); (case side1 => exact yW (Kd.R_reads' HO199.out).2.2); (case side2 => exact (Kd.R_reads' HO199.out).2.1); (case side3 => exact yW (Kd.R_reads' HO202.out).2.2); (case side4 => exact (Kd.R_reads' HO202.out).2.1); (case side5 => first | (with_reducible exact HG.out) | exact Glob.below HG.out (yB HB)); rintro e w13 ⟨rfl, hb⟩; refine ⟨_, rfl, ?_⟩; replace HO199 := aM (Kd.R_below (yR HO199.out) hb); replace HO202 := aM (Kd.R_below (yR HO202.out) hb); replace HB := aM (bP (yB HB) hb); (try clear hb)) | ((with_reducible refine gate_callee (f := 59) rfl ?_); refine yC 14 Tryd.func59 #[] rfl ?_; (with_reducible refine (haulagelaw08_Small.calls  t205 t206 t207 t208 t209 _ A3.out).mono ?_); rintro e w14 ⟨v210, rfl, ho0, hb⟩; refine ⟨_, rfl, ?_⟩; replace HO202 := aM (Kd.R_below (yR HO202.out) hb); have HO211 := aM (Kd.R_lower (Kd.R_new' ho0 (Kd.R_lt (yR HO199.out))) (bZ (yB HB))); replace HO199 := aM (Kd.R_elder' (yR HO199.out) (Kd.R_base ho0) hb); replace HB := aM (bP (yB HB) hb); (try clear hb); (try clear ho0)) | ((with_reducible refine gate_dst (N := 17) rfl ?_); refine Kd.R_lit k52 _ 52 ?hg (N := 17) ?hd (xs := ([(⟨1, 1, (⟨#[]⟩ : ByteArray)⟩ : S52), (⟨3, 0, (⟨#[120]⟩ : ByteArray)⟩ : S52)] : List (S52))) (inner := [.int .i64 1, .int .i64 1, .string (⟨#[]⟩ : ByteArray), .int .i64 3, .int .i64 0, .string (⟨#[120]⟩ : ByteArray)]) (ok := fun _ => True) (okp := fun _ => True) ?hr ?hp (fun _ hk => hk) trivial (Below.refl _ _) (Nat.le_refl _) (by simp) ?_; (case hd => rfl); (case hg => rfl); (case hr => first | (go_simp; done) | (go_simp; rfl)); (case hp => exact (Reps.c3 (show Kd.M k52 _ _ _ (⟨1, 1, (⟨#[]⟩ : ByteArray)⟩ : S52) [.int .i64 1, .int .i64 1, .string (⟨#[]⟩ : ByteArray)] from (k52_mkM _ _ _ (⟨1, 1, (⟨#[]⟩ : ByteArray)⟩ : S52) )) (Reps.c3 (show Kd.M k52 _ _ _ (⟨3, 0, (⟨#[120]⟩ : ByteArray)⟩ : S52) [.int .i64 3, .int .i64 0, .string (⟨#[120]⟩ : ByteArray)] from (k52_mkM _ _ _ (⟨3, 0, (⟨#[120]⟩ : ByteArray)⟩ : S52) )) (Reps.none _ _)))); intro v213 w15 ho16 hb hg_ hnew_; clear hg_ hnew_; (first | rw [← Ny212.out] at ho16 | (simp only [Int.reduceToNat] at ho16; rw [← Ny212.out] at ho16)); replace HO199 := aM (Kd.R_below (yR HO199.out) hb); replace HO211 := aM (Kd.R_below (yR HO211.out) hb); have HO214 := aM (Kd.R_lower (Kd.R_new' ho16 (Kd.R_lt (yR HO202.out))) (bZ (yB HB))); replace HO202 := aM (Kd.R_elder' (yR HO202.out) (Kd.R_base ho16) hb); replace HB := aM (bP (yB HB) hb); clear hb ho16; obtain ⟨Ao17, co17, eo17⟩ := Kd.R_slice HO211.out; subst eo17; obtain ⟨Ao18, co18, eo18⟩ := Kd.R_slice HO214.out; subst eo18) | ((with_reducible refine gate_callee (f := 16) rfl ?_); refine yC 18 Tryd.func16 #[.agg #[.int .i64 t205, .string t206, .int .i64 t207, .int .i64 t208, .slice Ao17 t209.length co17], .slice Ao18 y212.length co18] rfl ?_; (with_reducible refine (rowcode_Encode.calls k t205 t206 t207 t208 _ _ t209 _ _ y212 t215 t216 _ ?side1 ?side2 ?side3 ?side4 ?side5 A4.out).mono ?_); (case side1 => exact yW (Kd.R_reads' HO211.out).2.2); (case side2 => exact (Kd.R_reads' HO211.out).2.1); (case side3 => exact yW (Kd.R_reads' HO214.out).2.2); (case side4 => exact (Kd.R_reads' HO214.out).2.1); (case side5 => first | (with_reducible exact HG.out) | exact Glob.below HG.out (yB HB)); rintro e w19 ⟨rfl, hb⟩; refine ⟨_, rfl, ?_⟩; replace HO199 := aM (Kd.R_below (yR HO199.out) hb); replace HO202 := aM (Kd.R_below (yR HO202.out) hb); replace HO211 := aM (Kd.R_below (yR HO211.out) hb); replace HO214 := aM (Kd.R_below (yR HO214.out) hb); replace HB := aM (bP (yB HB) hb); (try clear hb)))
    go_ret
    exact ⟨yE, yB HB⟩
   ·
    rw [if_neg c7] at H
    have c7b0 : (t203.toList == ([2, 2] : List UInt8)) = false := beq_eq_false_iff_ne.mpr c7
    have c7b1 : (t203.toList != ([2, 2] : List UInt8)) = true := bne_iff_ne.mpr c7
    obtain rfl := Option.some.inj H
    go_enter Tryd.func13, Tryd.ntmps13
    go_wp2_with (first | ((with_reducible refine gate_callee (f := 59) rfl ?_); refine yC 6 Tryd.func59 #[] rfl ?_; (with_reducible refine (haulagelaw08_Small.calls  t193 t194 t195 t196 t197 _ A1.out).mono ?_); rintro e w20 ⟨v198, rfl, ho0, hb⟩; refine ⟨_, rfl, ?_⟩; have HO199 := aM (Kd.R_lower ho0 (bZ (yB HB))); replace HB := aM (bP (yB HB) hb); (try clear hb); (try clear ho0)) | ((with_reducible refine gate_dst (N := 9) rfl ?_); refine Kd.R_lit k52 _ 52 ?hg (N := 9) ?hd (xs := ([(⟨1, 1, (⟨#[]⟩ : ByteArray)⟩ : S52), (⟨0, 0, (⟨#[]⟩ : ByteArray)⟩ : S52)] : List (S52))) (inner := [.int .i64 1, .int .i64 1, .string (⟨#[]⟩ : ByteArray), .int .i64 0, .int .i64 0, .string (⟨#[]⟩ : ByteArray)]) (ok := fun _ => True) (okp := fun _ => True) ?hr ?hp (fun _ hk => hk) trivial (Below.refl _ _) (Nat.le_refl _) (by simp) ?_; (case hd => rfl); (case hg => rfl); (case hr => first | (go_simp; done) | (go_simp; rfl)); (case hp => exact (Reps.c3 (show Kd.M k52 _ _ _ (⟨1, 1, (⟨#[]⟩ : ByteArray)⟩ : S52) [.int .i64 1, .int .i64 1, .string (⟨#[]⟩ : ByteArray)] from (k52_mkM _ _ _ (⟨1, 1, (⟨#[]⟩ : ByteArray)⟩ : S52) )) (Reps.c3 (show Kd.M k52 _ _ _ (⟨0, 0, (⟨#[]⟩ : ByteArray)⟩ : S52) [.int .i64 0, .int .i64 0, .string (⟨#[]⟩ : ByteArray)] from (k52_mkM _ _ _ (⟨0, 0, (⟨#[]⟩ : ByteArray)⟩ : S52) )) (Reps.none _ _)))); intro v201 w21 ho22 hb hg_ hnew_; clear hg_ hnew_; (first | rw [← Ny200.out] at ho22 | (simp only [Int.reduceToNat] at ho22; rw [← Ny200.out] at ho22)); replace HO199 := aM (Kd.R_below (yR HO199.out) hb); have HO202 := aM (Kd.R_lower ho22 (bZ (yB HB))); replace HB := aM (bP (yB HB) hb); clear hb ho22; obtain ⟨Ao23, co23, eo23⟩ := Kd.R_slice HO199.out; subst eo23; obtain ⟨Ao24, co24, eo24⟩ := Kd.R_slice HO202.out; subst eo24) | ((with_reducible refine gate_callee (f := 16) rfl ?_); refine yC 10 Tryd.func16 #[.agg #[.int .i64 t193, .string t194, .int .i64 t195, .int .i64 t196, .slice Ao23 t197.length co23], .slice Ao24 y200.length co24] rfl ?_; (with_reducible refine (rowcode_Encode.calls k t193 t194 t195 t196 _ _ t197 _ _ y200 t203 t204 _ ?side1 ?side2 ?side3 ?side4 ?side5 A2.out).mono ?_); (case side1 => exact yW (Kd.R_reads' HO199.out).2.2); (case side2 => exact (Kd.R_reads' HO199.out).2.1); (case side3 => exact yW (Kd.R_reads' HO202.out).2.2); (case side4 => exact (Kd.R_reads' HO202.out).2.1); (case side5 => first | (with_reducible exact HG.out) | exact Glob.below HG.out (yB HB)); rintro e w25 ⟨rfl, hb⟩; refine ⟨_, rfl, ?_⟩; replace HO199 := aM (Kd.R_below (yR HO199.out) hb); replace HO202 := aM (Kd.R_below (yR HO202.out) hb); replace HB := aM (bP (yB HB) hb); (try clear hb)) | ((with_reducible refine gate_callee (f := 59) rfl ?_); refine yC 14 Tryd.func59 #[] rfl ?_; (with_reducible refine (haulagelaw08_Small.calls  t205 t206 t207 t208 t209 _ A3.out).mono ?_); rintro e w26 ⟨v210, rfl, ho0, hb⟩; refine ⟨_, rfl, ?_⟩; replace HO202 := aM (Kd.R_below (yR HO202.out) hb); have HO211 := aM (Kd.R_lower (Kd.R_new' ho0 (Kd.R_lt (yR HO199.out))) (bZ (yB HB))); replace HO199 := aM (Kd.R_elder' (yR HO199.out) (Kd.R_base ho0) hb); replace HB := aM (bP (yB HB) hb); (try clear hb); (try clear ho0)) | ((with_reducible refine gate_dst (N := 17) rfl ?_); refine Kd.R_lit k52 _ 52 ?hg (N := 17) ?hd (xs := ([(⟨1, 1, (⟨#[]⟩ : ByteArray)⟩ : S52), (⟨3, 0, (⟨#[120]⟩ : ByteArray)⟩ : S52)] : List (S52))) (inner := [.int .i64 1, .int .i64 1, .string (⟨#[]⟩ : ByteArray), .int .i64 3, .int .i64 0, .string (⟨#[120]⟩ : ByteArray)]) (ok := fun _ => True) (okp := fun _ => True) ?hr ?hp (fun _ hk => hk) trivial (Below.refl _ _) (Nat.le_refl _) (by simp) ?_; (case hd => rfl); (case hg => rfl); (case hr => first | (go_simp; done) | (go_simp; rfl)); (case hp => exact (Reps.c3 (show Kd.M k52 _ _ _ (⟨1, 1, (⟨#[]⟩ : ByteArray)⟩ : S52) [.int .i64 1, .int .i64 1, .string (⟨#[]⟩ : ByteArray)] from (k52_mkM _ _ _ (⟨1, 1, (⟨#[]⟩ : ByteArray)⟩ : S52) )) (Reps.c3 (show Kd.M k52 _ _ _ (⟨3, 0, (⟨#[120]⟩ : ByteArray)⟩ : S52) [.int .i64 3, .int .i64 0, .string (⟨#[120]⟩ : ByteArray)] from (k52_mkM _ _ _ (⟨3, 0, (⟨#[120]⟩ : ByteArray)⟩ : S52) )) (Reps.none _ _)))); intro v213 w27 ho28 hb hg_ hnew_; clear hg_ hnew_; (first | rw [← Ny212.out] at ho28 | (simp only [Int.reduceToNat] at ho28; rw [← Ny212.out] at ho28)); replace HO199 := aM (Kd.R_below (yR HO199.out) hb); replace HO211 := aM (Kd.R_below (yR HO211.out) hb); have HO214 := aM (Kd.R_lower (Kd.R_new' ho28 (Kd.R_lt (yR HO202.out))) (bZ (yB HB))); replace HO202 := aM (Kd.R_elder' (yR HO202.out) (Kd.R_base ho28) hb); replace HB := aM (bP (yB HB) hb); clear hb ho28; obtain ⟨Ao29, co29, eo29⟩ := Kd.R_slice HO211.out; subst eo29; obtain ⟨Ao30, co30, eo30⟩ := Kd.R_slice HO214.out; subst eo30) | ((with_reducible refine gate_callee (f := 16) rfl ?_); refine yC 18 Tryd.func16 #[.agg #[.int .i64 t205, .string t206, .int .i64 t207, .int .i64 t208, .slice Ao29 t209.length co29], .slice Ao30 y212.length co30] rfl ?_; (with_reducible refine (rowcode_Encode.calls k t205 t206 t207 t208 _ _ t209 _ _ y212 t215 t216 _ ?side1 ?side2 ?side3 ?side4 ?side5 A4.out).mono ?_); (case side1 => exact yW (Kd.R_reads' HO211.out).2.2); (case side2 => exact (Kd.R_reads' HO211.out).2.1); (case side3 => exact yW (Kd.R_reads' HO214.out).2.2); (case side4 => exact (Kd.R_reads' HO214.out).2.1); (case side5 => first | (with_reducible exact HG.out) | exact Glob.below HG.out (yB HB)); rintro e w31 ⟨rfl, hb⟩; refine ⟨_, rfl, ?_⟩; replace HO199 := aM (Kd.R_below (yR HO199.out) hb); replace HO202 := aM (Kd.R_below (yR HO202.out) hb); replace HO211 := aM (Kd.R_below (yR HO211.out) hb); replace HO214 := aM (Kd.R_below (yR HO214.out) hb); replace HB := aM (bP (yB HB) hb); (try clear hb)))
    go_ret
    exact ⟨yE, yB HB⟩
  ·
   rw [if_neg c6] at H
   have c6b0 : (t216 == 0) = false := beq_eq_false_iff_ne.mpr c6
   have c6b1 : (t216 != 0) = true := bne_iff_ne.mpr c6
   obtain rfl := Option.some.inj H
   go_enter Tryd.func13, Tryd.ntmps13
   go_wp2_with (first | ((with_reducible refine gate_callee (f := 59) rfl ?_); refine yC 6 Tryd.func59 #[] rfl ?_; (with_reducible refine (haulagelaw08_Small.calls  t193 t194 t195 t196 t197 _ A1.out).mono ?_); rintro e w32 ⟨v198, rfl, ho0, hb⟩; refine ⟨_, rfl, ?_⟩; have HO199 := aM (Kd.R_lower ho0 (bZ (yB HB))); replace HB := aM (bP (yB HB) hb); (try clear hb); (try clear ho0)) | ((with_reducible refine gate_dst (N := 9) rfl ?_); refine Kd.R_lit k52 _ 52 ?hg (N := 9) ?hd (xs := ([(⟨1, 1, (⟨#[]⟩ : ByteArray)⟩ : S52), (⟨0, 0, (⟨#[]⟩ : ByteArray)⟩ : S52)] : List (S52))) (inner := [.int .i64 1, .int .i64 1, .string (⟨#[]⟩ : ByteArray), .int .i64 0, .int .i64 0, .string (⟨#[]⟩ : ByteArray)]) (ok := fun _ => True) (okp := fun _ => True) ?hr ?hp (fun _ hk => hk) trivial (Below.refl _ _) (Nat.le_refl _) (by simp) ?_; (case hd => rfl); (case hg => rfl); (case hr => first | (go_simp; done) | (go_simp; rfl)); (case hp => exact (Reps.c3 (show Kd.M k52 _ _ _ (⟨1, 1, (⟨#[]⟩ : ByteArray)⟩ : S52) [.int .i64 1, .int .i64 1, .string (⟨#[]⟩ : ByteArray)] from (k52_mkM _ _ _ (⟨1, 1, (⟨#[]⟩ : ByteArray)⟩ : S52) )) (Reps.c3 (show Kd.M k52 _ _ _ (⟨0, 0, (⟨#[]⟩ : ByteArray)⟩ : S52) [.int .i64 0, .int .i64 0, .string (⟨#[]⟩ : ByteArray)] from (k52_mkM _ _ _ (⟨0, 0, (⟨#[]⟩ : ByteArray)⟩ : S52) )) (Reps.none _ _)))); intro v201 w33 ho34 hb hg_ hnew_; clear hg_ hnew_; (first | rw [← Ny200.out] at ho34 | (simp only [Int.reduceToNat] at ho34; rw [← Ny200.out] at ho34)); replace HO199 := aM (Kd.R_below (yR HO199.out) hb); have HO202 := aM (Kd.R_lower ho34 (bZ (yB HB))); replace HB := aM (bP (yB HB) hb); clear hb ho34; obtain ⟨Ao35, co35, eo35⟩ := Kd.R_slice HO199.out; subst eo35; obtain ⟨Ao36, co36, eo36⟩ := Kd.R_slice HO202.out; subst eo36) | ((with_reducible refine gate_callee (f := 16) rfl ?_); refine yC 10 Tryd.func16 #[.agg #[.int .i64 t193, .string t194, .int .i64 t195, .int .i64 t196, .slice Ao35 t197.length co35], .slice Ao36 y200.length co36] rfl ?_; (with_reducible refine (rowcode_Encode.calls k t193 t194 t195 t196 _ _ t197 _ _ y200 t203 t204 _ ?side1 ?side2 ?side3 ?side4 ?side5 A2.out).mono ?_); (case side1 => exact yW (Kd.R_reads' HO199.out).2.2); (case side2 => exact (Kd.R_reads' HO199.out).2.1); (case side3 => exact yW (Kd.R_reads' HO202.out).2.2); (case side4 => exact (Kd.R_reads' HO202.out).2.1); (case side5 => first | (with_reducible exact HG.out) | exact Glob.below HG.out (yB HB)); rintro e w37 ⟨rfl, hb⟩; refine ⟨_, rfl, ?_⟩; replace HO199 := aM (Kd.R_below (yR HO199.out) hb); replace HO202 := aM (Kd.R_below (yR HO202.out) hb); replace HB := aM (bP (yB HB) hb); (try clear hb)) | ((with_reducible refine gate_callee (f := 59) rfl ?_); refine yC 14 Tryd.func59 #[] rfl ?_; (with_reducible refine (haulagelaw08_Small.calls  t205 t206 t207 t208 t209 _ A3.out).mono ?_); rintro e w38 ⟨v210, rfl, ho0, hb⟩; refine ⟨_, rfl, ?_⟩; replace HO202 := aM (Kd.R_below (yR HO202.out) hb); have HO211 := aM (Kd.R_lower (Kd.R_new' ho0 (Kd.R_lt (yR HO199.out))) (bZ (yB HB))); replace HO199 := aM (Kd.R_elder' (yR HO199.out) (Kd.R_base ho0) hb); replace HB := aM (bP (yB HB) hb); (try clear hb); (try clear ho0)) | ((with_reducible refine gate_dst (N := 17) rfl ?_); refine Kd.R_lit k52 _ 52 ?hg (N := 17) ?hd (xs := ([(⟨1, 1, (⟨#[]⟩ : ByteArray)⟩ : S52), (⟨3, 0, (⟨#[120]⟩ : ByteArray)⟩ : S52)] : List (S52))) (inner := [.int .i64 1, .int .i64 1, .string (⟨#[]⟩ : ByteArray), .int .i64 3, .int .i64 0, .string (⟨#[120]⟩ : ByteArray)]) (ok := fun _ => True) (okp := fun _ => True) ?hr ?hp (fun _ hk => hk) trivial (Below.refl _ _) (Nat.le_refl _) (by simp) ?_; (case hd => rfl); (case hg => rfl); (case hr => first | (go_simp; done) | (go_simp; rfl)); (case hp => exact (Reps.c3 (show Kd.M k52 _ _ _ (⟨1, 1, (⟨#[]⟩ : ByteArray)⟩ : S52) [.int .i64 1, .int .i64 1, .string (⟨#[]⟩ : ByteArray)] from (k52_mkM _ _ _ (⟨1, 1, (⟨#[]⟩ : ByteArray)⟩ : S52) )) (Reps.c3 (show Kd.M k52 _ _ _ (⟨3, 0, (⟨#[120]⟩ : ByteArray)⟩ : S52) [.int .i64 3, .int .i64 0, .string (⟨#[120]⟩ : ByteArray)] from (k52_mkM _ _ _ (⟨3, 0, (⟨#[120]⟩ : ByteArray)⟩ : S52) )) (Reps.none _ _)))); intro v213 w39 ho40 hb hg_ hnew_; clear hg_ hnew_; (first | rw [← Ny212.out] at ho40 | (simp only [Int.reduceToNat] at ho40; rw [← Ny212.out] at ho40)); replace HO199 := aM (Kd.R_below (yR HO199.out) hb); replace HO211 := aM (Kd.R_below (yR HO211.out) hb); have HO214 := aM (Kd.R_lower (Kd.R_new' ho40 (Kd.R_lt (yR HO202.out))) (bZ (yB HB))); replace HO202 := aM (Kd.R_elder' (yR HO202.out) (Kd.R_base ho40) hb); replace HB := aM (bP (yB HB) hb); clear hb ho40; obtain ⟨Ao41, co41, eo41⟩ := Kd.R_slice HO211.out; subst eo41; obtain ⟨Ao42, co42, eo42⟩ := Kd.R_slice HO214.out; subst eo42) | ((with_reducible refine gate_callee (f := 16) rfl ?_); refine yC 18 Tryd.func16 #[.agg #[.int .i64 t205, .string t206, .int .i64 t207, .int .i64 t208, .slice Ao41 t209.length co41], .slice Ao42 y212.length co42] rfl ?_; (with_reducible refine (rowcode_Encode.calls k t205 t206 t207 t208 _ _ t209 _ _ y212 t215 t216 _ ?side1 ?side2 ?side3 ?side4 ?side5 A4.out).mono ?_); (case side1 => exact yW (Kd.R_reads' HO211.out).2.2); (case side2 => exact (Kd.R_reads' HO211.out).2.1); (case side3 => exact yW (Kd.R_reads' HO214.out).2.2); (case side4 => exact (Kd.R_reads' HO214.out).2.1); (case side5 => first | (with_reducible exact HG.out) | exact Glob.below HG.out (yB HB)); rintro e w43 ⟨rfl, hb⟩; refine ⟨_, rfl, ?_⟩; replace HO199 := aM (Kd.R_below (yR HO199.out) hb); replace HO202 := aM (Kd.R_below (yR HO202.out) hb); replace HO211 := aM (Kd.R_below (yR HO211.out) hb); replace HO214 := aM (Kd.R_below (yR HO214.out) hb); replace HB := aM (bP (yB HB) hb); (try clear hb)))
   go_ret
   exact ⟨yE, yB HB⟩
 ·
  rw [if_neg c5] at H
  have c5b0 : (t204 == 0) = false := beq_eq_false_iff_ne.mpr c5
  have c5b1 : (t204 != 0) = true := bne_iff_ne.mpr c5
  obtain rfl := Option.some.inj H
  go_enter Tryd.func13, Tryd.ntmps13
  go_wp2_with (first | ((with_reducible refine gate_callee (f := 59) rfl ?_); refine yC 6 Tryd.func59 #[] rfl ?_; (with_reducible refine (haulagelaw08_Small.calls  t193 t194 t195 t196 t197 _ A1.out).mono ?_); rintro e w44 ⟨v198, rfl, ho0, hb⟩; refine ⟨_, rfl, ?_⟩; have HO199 := aM (Kd.R_lower ho0 (bZ (yB HB))); replace HB := aM (bP (yB HB) hb); (try clear hb); (try clear ho0)) | ((with_reducible refine gate_dst (N := 9) rfl ?_); refine Kd.R_lit k52 _ 52 ?hg (N := 9) ?hd (xs := ([(⟨1, 1, (⟨#[]⟩ : ByteArray)⟩ : S52), (⟨0, 0, (⟨#[]⟩ : ByteArray)⟩ : S52)] : List (S52))) (inner := [.int .i64 1, .int .i64 1, .string (⟨#[]⟩ : ByteArray), .int .i64 0, .int .i64 0, .string (⟨#[]⟩ : ByteArray)]) (ok := fun _ => True) (okp := fun _ => True) ?hr ?hp (fun _ hk => hk) trivial (Below.refl _ _) (Nat.le_refl _) (by simp) ?_; (case hd => rfl); (case hg => rfl); (case hr => first | (go_simp; done) | (go_simp; rfl)); (case hp => exact (Reps.c3 (show Kd.M k52 _ _ _ (⟨1, 1, (⟨#[]⟩ : ByteArray)⟩ : S52) [.int .i64 1, .int .i64 1, .string (⟨#[]⟩ : ByteArray)] from (k52_mkM _ _ _ (⟨1, 1, (⟨#[]⟩ : ByteArray)⟩ : S52) )) (Reps.c3 (show Kd.M k52 _ _ _ (⟨0, 0, (⟨#[]⟩ : ByteArray)⟩ : S52) [.int .i64 0, .int .i64 0, .string (⟨#[]⟩ : ByteArray)] from (k52_mkM _ _ _ (⟨0, 0, (⟨#[]⟩ : ByteArray)⟩ : S52) )) (Reps.none _ _)))); intro v201 w45 ho46 hb hg_ hnew_; clear hg_ hnew_; (first | rw [← Ny200.out] at ho46 | (simp only [Int.reduceToNat] at ho46; rw [← Ny200.out] at ho46)); replace HO199 := aM (Kd.R_below (yR HO199.out) hb); have HO202 := aM (Kd.R_lower ho46 (bZ (yB HB))); replace HB := aM (bP (yB HB) hb); clear hb ho46; obtain ⟨Ao47, co47, eo47⟩ := Kd.R_slice HO199.out; subst eo47; obtain ⟨Ao48, co48, eo48⟩ := Kd.R_slice HO202.out; subst eo48) | ((with_reducible refine gate_callee (f := 16) rfl ?_); refine yC 10 Tryd.func16 #[.agg #[.int .i64 t193, .string t194, .int .i64 t195, .int .i64 t196, .slice Ao47 t197.length co47], .slice Ao48 y200.length co48] rfl ?_; (with_reducible refine (rowcode_Encode.calls k t193 t194 t195 t196 _ _ t197 _ _ y200 t203 t204 _ ?side1 ?side2 ?side3 ?side4 ?side5 A2.out).mono ?_); (case side1 => exact yW (Kd.R_reads' HO199.out).2.2); (case side2 => exact (Kd.R_reads' HO199.out).2.1); (case side3 => exact yW (Kd.R_reads' HO202.out).2.2); (case side4 => exact (Kd.R_reads' HO202.out).2.1); (case side5 => first | (with_reducible exact HG.out) | exact Glob.below HG.out (yB HB)); rintro e w49 ⟨rfl, hb⟩; refine ⟨_, rfl, ?_⟩; replace HO199 := aM (Kd.R_below (yR HO199.out) hb); replace HO202 := aM (Kd.R_below (yR HO202.out) hb); replace HB := aM (bP (yB HB) hb); (try clear hb)) | ((with_reducible refine gate_callee (f := 59) rfl ?_); refine yC 14 Tryd.func59 #[] rfl ?_; (with_reducible refine (haulagelaw08_Small.calls  t205 t206 t207 t208 t209 _ A3.out).mono ?_); rintro e w50 ⟨v210, rfl, ho0, hb⟩; refine ⟨_, rfl, ?_⟩; replace HO202 := aM (Kd.R_below (yR HO202.out) hb); have HO211 := aM (Kd.R_lower (Kd.R_new' ho0 (Kd.R_lt (yR HO199.out))) (bZ (yB HB))); replace HO199 := aM (Kd.R_elder' (yR HO199.out) (Kd.R_base ho0) hb); replace HB := aM (bP (yB HB) hb); (try clear hb); (try clear ho0)) | ((with_reducible refine gate_dst (N := 17) rfl ?_); refine Kd.R_lit k52 _ 52 ?hg (N := 17) ?hd (xs := ([(⟨1, 1, (⟨#[]⟩ : ByteArray)⟩ : S52), (⟨3, 0, (⟨#[120]⟩ : ByteArray)⟩ : S52)] : List (S52))) (inner := [.int .i64 1, .int .i64 1, .string (⟨#[]⟩ : ByteArray), .int .i64 3, .int .i64 0, .string (⟨#[120]⟩ : ByteArray)]) (ok := fun _ => True) (okp := fun _ => True) ?hr ?hp (fun _ hk => hk) trivial (Below.refl _ _) (Nat.le_refl _) (by simp) ?_; (case hd => rfl); (case hg => rfl); (case hr => first | (go_simp; done) | (go_simp; rfl)); (case hp => exact (Reps.c3 (show Kd.M k52 _ _ _ (⟨1, 1, (⟨#[]⟩ : ByteArray)⟩ : S52) [.int .i64 1, .int .i64 1, .string (⟨#[]⟩ : ByteArray)] from (k52_mkM _ _ _ (⟨1, 1, (⟨#[]⟩ : ByteArray)⟩ : S52) )) (Reps.c3 (show Kd.M k52 _ _ _ (⟨3, 0, (⟨#[120]⟩ : ByteArray)⟩ : S52) [.int .i64 3, .int .i64 0, .string (⟨#[120]⟩ : ByteArray)] from (k52_mkM _ _ _ (⟨3, 0, (⟨#[120]⟩ : ByteArray)⟩ : S52) )) (Reps.none _ _)))); intro v213 w51 ho52 hb hg_ hnew_; clear hg_ hnew_; (first | rw [← Ny212.out] at ho52 | (simp only [Int.reduceToNat] at ho52; rw [← Ny212.out] at ho52)); replace HO199 := aM (Kd.R_below (yR HO199.out) hb); replace HO211 := aM (Kd.R_below (yR HO211.out) hb); have HO214 := aM (Kd.R_lower (Kd.R_new' ho52 (Kd.R_lt (yR HO202.out))) (bZ (yB HB))); replace HO202 := aM (Kd.R_elder' (yR HO202.out) (Kd.R_base ho52) hb); replace HB := aM (bP (yB HB) hb); clear hb ho52; obtain ⟨Ao53, co53, eo53⟩ := Kd.R_slice HO211.out; subst eo53; obtain ⟨Ao54, co54, eo54⟩ := Kd.R_slice HO214.out; subst eo54) | ((with_reducible refine gate_callee (f := 16) rfl ?_); refine yC 18 Tryd.func16 #[.agg #[.int .i64 t205, .string t206, .int .i64 t207, .int .i64 t208, .slice Ao53 t209.length co53], .slice Ao54 y212.length co54] rfl ?_; (with_reducible refine (rowcode_Encode.calls k t205 t206 t207 t208 _ _ t209 _ _ y212 t215 t216 _ ?side1 ?side2 ?side3 ?side4 ?side5 A4.out).mono ?_); (case side1 => exact yW (Kd.R_reads' HO211.out).2.2); (case side2 => exact (Kd.R_reads' HO211.out).2.1); (case side3 => exact yW (Kd.R_reads' HO214.out).2.2); (case side4 => exact (Kd.R_reads' HO214.out).2.1); (case side5 => first | (with_reducible exact HG.out) | exact Glob.below HG.out (yB HB)); rintro e w55 ⟨rfl, hb⟩; refine ⟨_, rfl, ?_⟩; replace HO199 := aM (Kd.R_below (yR HO199.out) hb); replace HO202 := aM (Kd.R_below (yR HO202.out) hb); replace HO211 := aM (Kd.R_below (yR HO211.out) hb); replace HO214 := aM (Kd.R_below (yR HO214.out) hb); replace HB := aM (bP (yB HB) hb); (try clear hb)))
  go_ret
  exact ⟨yE, yB HB⟩
/-! ### haulagelaw08_short: function 38 -/
def haulagelaw08_short.f (a0 : ByteArray) : Option (Bool) := some (decide ((a0.size : Int) ≤ 200))
set_option maxHeartbeats 8000000 in
set_option maxRecDepth 100000 in
theorem haulagelaw08_short.calls (a0 : ByteArray) (r : Bool) (w : World) (h : haulagelaw08_short.f a0 = some r) :
  Calls Tryd.prog 38 #[.string a0] w fun e w' => e = .returned (.bool r) ∧ Drawn0 w w' := by
 have H : (some (decide ((a0.size : Int) ≤ 200))) = some r := h
 clear h
 obtain rfl := Option.some.inj H
 go_enter Tryd.func38, Tryd.ntmps38
 go_wp2
 go_ret
 exact ⟨yS, yD⟩
end Go.Proofs.YtdeophpjammbpaaDoor.HRowcodeKeys

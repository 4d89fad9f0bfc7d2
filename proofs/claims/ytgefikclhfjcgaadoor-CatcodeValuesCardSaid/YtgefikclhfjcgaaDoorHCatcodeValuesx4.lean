/- For Go functions that CatcodeValues reaches: Lean functions, and walks that show that each call comes to what its Lean function tells; no condition but those that each theorem states. (Made by a program of this session over the kit's print.py.) -/
import Derived.Test.YtgefikclhfjcgaaDoorHCatcodeValuesx0
import Derived.Test.YtgefikclhfjcgaaDoorHCatcodeValuesx3
namespace Go.Proofs.YtgefikclhfjcgaaDoor.HCatcodeValues
open Go.RowKit Go.Proofs.YtgefikclhfjcgaaDoorW.PrintWords Go.Proofs.YtgefikclhfjcgaaDoorW.PrintLast Go.Proofs.YtgefikclhfjcgaaDoorW.PrintMore
attribute [local go_sem] max2_int min2_int max_two min_two max_three min_three max_four min_four   -- for this text's walks alone
set_option linter.unusedVariables false
set_option linter.unusedSimpArgs false
attribute [local go_sem] hp_s8 hp_s16 hp_s32 hp_s64 hp_m8 hp_m16 hp_m32 hp_m64
/-! ### catcode_put: function 37 -/
mutual
def catcode_put.j0 : Nat → List Int → Int → Bool → Int → Int → ByteArray → Option (List Int)
 | 0, _, _, _, _, _, _ => none
 | k + 1, x0, x12, x13, x136000, x136001, x136002 => if x13 = true then ((word_Zig.f x136001).bind fun t139 => ((word_Short.f k (([t139] : List Int))).bind fun t143 => (if x0.length + t143.size < 140737488355328 then (some (x0 ++ bytesOf t143)) else (none)))) else (if x12 = 3 then (catcode_put.j1 k x0 (x12 == 3) x136000 x136001 x136002) else (catcode_put.j1 k x0 (x12 == 4) x136000 x136001 x136002))
def catcode_put.j1 : Nat → List Int → Bool → Int → Int → ByteArray → Option (List Int)
 | 0, _, _, _, _, _ => none
 | k + 1, x0, x23, x136000, x136001, x136002 => if x23 = true then ((catcode_text.f k x0 x136002).bind fun t147 => (some t147)) else (some x0)
end
def catcode_put.f (k : Nat) (l0 : List Int) (a1_0 : Int) (a1_1 : Int) (a1_2 : ByteArray) : Option (List Int) := if l0.length < 140737488355328 then ((some (l0 ++ [(a1_0) % 256] : List Int)).bind fun y136 => (if a1_0 = 1 then (catcode_put.j0 k y136 a1_0 (a1_0 == 1) a1_0 a1_1 a1_2) else (catcode_put.j0 k y136 a1_0 (a1_0 == 2) a1_0 a1_1 a1_2))) else (none)
theorem catcode_put.mono_l : ∀ k, (∀ y0 y1 y2 y3 y4 y5, LeO (catcode_put.j0 k y0 y1 y2 y3 y4 y5) (catcode_put.j0 (k + 1) y0 y1 y2 y3 y4 y5)) ∧ (∀ y0 y1 y2 y3 y4, LeO (catcode_put.j1 k y0 y1 y2 y3 y4) (catcode_put.j1 (k + 1) y0 y1 y2 y3 y4))
 | 0 => by refine ⟨?_, ?_⟩ <;> intros <;> exact LeO.none _
 | k + 1 => by
  obtain ⟨ih0, ih1⟩ := catcode_put.mono_l k
  refine ⟨?_, ?_⟩ <;> intros <;> first | unfold catcode_put.j0 | unfold catcode_put.j1
  all_goals repeat' first | with_reducible (first | exact ih0 .. | exact ih1 .. | exact catcode_text.mono .. | exact word_Short.mono .. | exact LeO.refl .. | exact LeO.none .. | refine LeO.ite ?_ ?_ | refine LeO.bind ?_ (fun _ => ?_)) | exact ih0 .. | exact ih1 .. | exact catcode_text.mono .. | exact word_Short.mono .. | exact LeO.none .. | refine LeO.ite ?_ ?_ | refine LeO.bind ?_ (fun _ => ?_)
theorem catcode_put.mono : ∀ a0 a1 a2 a3 k, LeO (catcode_put.f k a0 a1 a2 a3) (catcode_put.f (k + 1) a0 a1 a2 a3) := by
 intro a0 a1 a2 a3 k
 obtain ⟨ih0, ih1⟩ := catcode_put.mono_l k
 unfold catcode_put.f
 repeat' first | with_reducible (first | exact ih0 .. | exact ih1 .. | exact catcode_text.mono .. | exact word_Short.mono .. | exact LeO.refl .. | exact LeO.none .. | refine LeO.ite ?_ ?_ | refine LeO.bind ?_ (fun _ => ?_)) | exact ih0 .. | exact ih1 .. | exact catcode_text.mono .. | exact word_Short.mono .. | exact LeO.none .. | refine LeO.ite ?_ ?_ | refine LeO.bind ?_ (fun _ => ?_)
set_option maxHeartbeats 8000000 in
set_option maxRecDepth 100000 in
theorem catcode_put.calls (k : Nat) (P0_ : Nat → Prop) (u9000_ : Value) (l0 : List Int) (a1_0 : Int) (a1_1 : Int) (a1_2 : ByteArray) (r : List Int) (w0 w : World) (hB : Below w0.heap.size w0 w) (ho0 : Kd.R (Kd.int .u8) 5 w w0.heap.size P0_ u9000_ l0) (h : catcode_put.f k l0 a1_0 a1_1 a1_2 = some r) :
  Calls Tryd.prog 37 #[u9000_, .agg #[.int .i64 a1_0, .int .i64 a1_1, .string a1_2]] w fun e w' => ∃ v0_ : Value, e = .returned (v0_) ∧ Kd.R (Kd.int .u8) 5 w' w0.heap.size (fun k_ => (P0_ k_ ∨ w.heap.size ≤ k_)) v0_ r ∧ Below w0.heap.size w0 w' ∧ Kept w w' (fun k_ => P0_ k_) := by
 have hu23 := Tryd.underlying23
 have HO0 := aM (show Kd.R (Kd.int .u8) 5 w w0.heap.size (fun k_ => (P0_ k_ ∨ w.heap.size ≤ k_)) u9000_ l0 from Kd.R_mono ho0 (fun k_ hk => (.inl hk)))
 have HK := aM (Kept.refl w (fun k_ => P0_ k_))
 have HW0 := aM hB.size
 have HB := aM hB
 clear hB
 have H : (if l0.length < 140737488355328 then ((some (l0 ++ [(a1_0) % 256] : List Int)).bind fun y136 => (if a1_0 = 1 then (catcode_put.j0 k y136 a1_0 (a1_0 == 1) a1_0 a1_1 a1_2) else (catcode_put.j0 k y136 a1_0 (a1_0 == 2) a1_0 a1_1 a1_2))) else (none)) = some r := h
 clear h
 by_cases c3 : l0.length < 140737488355328
 ·
  rw [if_pos c3] at H
  have LMc3 := aM c3
  clear c3
  obtain ⟨y136, hy136⟩ : ∃ y_ : List Int, y_ = (l0 ++ [(a1_0) % 256]) := ⟨_, rfl⟩
  replace H : (if a1_0 = 1 then (catcode_put.j0 k y136 a1_0 (a1_0 == 1) a1_0 a1_1 a1_2) else (catcode_put.j0 k y136 a1_0 (a1_0 == 2) a1_0 a1_1 a1_2)) = some r := by first | (rw [hy136]; with_reducible exact H) | (have H2_ := (Option.bind_some _ _).symm.trans H; rw [hy136]; with_reducible exact H2_) | (have H2_ := (Option.bind_some _ _).symm.trans H; with_reducible exact H2_) | with_reducible exact H | (rw [hy136]; exact H) | exact H
  have Ny136 := aM hy136
  clear hy136
  have HC4 := aM H
  clear H
  go_enter Tryd.func37, Tryd.ntmps37
  go_upto_if 13 with (first | ((with_reducible refine gate_dst (N := 3) rfl ?_); refine yX (N := 3) (cs := #[.int .i64 a1_0, .int .i64 a1_1, .string a1_2]) (t := 23) ?_; intro gb135 hg w5 hbox hb; replace HO0 := aM (Kd.R_below (yR HO0.out) hb); have BK135 := aM (hbox); have GW135 := aM ((by rw [hg]; exact (by first | exact HK.out.1 | exact (show Kept w _ (fun k_ => P0_ k_) from by repeat (first | (with_reducible first | exact HK.out | apply Kept.alloc | apply Kept.drewN | apply Kept.drew) | exact HK.out)).1) : w.heap.size ≤ gb135)); replace HK := aM (Kept.below (S := (fun k_ => P0_ k_)) (by repeat (first | (with_reducible first | exact HK.out | apply Kept.alloc | apply Kept.drewN | apply Kept.drew) | exact HK.out)) hb); have GE135 := yZ hg (yB HB); replace HB := aM (bP (yB HB) hb); clear hb hbox hg; obtain ⟨hcz6_0, hcz6_1, hcz6_2, hfz6_0, hfz6_1, hfz6_2⟩ := cells3 BK135.out) | ((with_reducible refine gate_builtin (b := .append) (xs := #[.tmp 5, .tmp 9]) rfl ?_); at_builtin; refine Kd.R_append (Kd.int .u8) (w0 := w0) w0.heap.size rfl (.tmp 5) (.tmp 9) 78 5 (.int .u8 0) 1 rfl Tryd.underlying78 info5 rfl (by decide) (by omega) u9000_ l0 ((a1_0) % 256) [.int .u8 ((a1_0) % 256)] (fun k_ => (P0_ k_ ∨ w.heap.size ≤ k_)) (fun _ => False) rfl rfl ?aP (fun _ hk => hk.elim) ?aF ?aO ?aB ?aS ?aL ?_; (case aP => exact rfl); (case aB => exact (yG1 HB GE135.out)); (case aF => exact (fun k_ hk => (.inr (Nat.le_trans (by first | exact HK.out.1 | exact (show Kept w _ (fun k_ => P0_ k_) from by repeat (first | (with_reducible first | exact HK.out | apply Kept.alloc | apply Kept.drewN | apply Kept.drew | refine Kept.setCell ?_ (.inr GW135.out) _) | exact HK.out)).1) hk)))); (case aO => exact (yR HO0.out)); (case aS => exact (bZ (yG1 HB GE135.out))); (case aL => have := LMc3.out; omega); intro v137 w7 ho hb hg hat; rw [← Ny136.out] at ho; have n0_ := aM (blk_grown (g := gb135) (o := .cells #[.int .i64 a1_0, .int .i64 a1_1, .string a1_2] 23 (0, 0)) (yK BK135) hg (Kd.R_ne HO0.out BK135.out (by decide))); have n1_ := aM (hb); have n2_ := aM (Kept.of_grown (S := (fun k_ => P0_ k_)) hg (by repeat (first | (with_reducible first | exact HK.out | apply Kept.alloc | apply Kept.drewN | apply Kept.drew | refine Kept.setCell ?_ (.inr GW135.out) _) | exact HK.out)) (fun k_ e_ => (HO0.out.1 k_ e_))); have n3_ := aM (ho); clear BK135; clear HB; clear HK; clear HO0; have BK135 := n0_; have HB := n1_; have HK := n2_; have HO138 := n3_; clear n0_ n1_ n2_ n3_; clear ho hb hg hat; obtain ⟨hcz8_0, hcz8_1, hcz8_2, hfz8_0, hfz8_1, hfz8_2⟩ := cells3 BK135.out))
  (try simp only [Act.put, s1_, s2_, s3_])
  go_cut [13] (fun v13 wc => ∃ (kq : Nat) (x13_3 : Bool), v13 = .bool x13_3 ∧ Aside0 (catcode_put.j0 kq y136 a1_0 x13_3 a1_0 a1_1 a1_2 = some r) ∧ Aside0 (kq ≤ k) ∧ Aside0 (Kd.R (Kd.int .u8) 5 wc w0.heap.size (fun k_ => (P0_ k_ ∨ w.heap.size ≤ k_)) v137 y136) ∧ Aside0 (wc.heap[gb135]? = some (.cells #[.int .i64 a1_0, .int .i64 a1_1, .string a1_2] 23 (0, 0))) ∧ Aside0 (Kept w wc (fun k_ => P0_ k_)) ∧ Aside0 (Below w0.heap.size w0 wc))
  case first =>
   have H := HC4.out
   clear HC4
   by_cases c9 : a1_0 = 1
   ·
    rw [if_pos c9] at H
    have c9b0 : (a1_0 == 1) = true := beq_iff_eq.mpr c9
    have c9b1 : (a1_0 != 1) = false := bne_eq_false_iff_eq.mpr c9
    clear c9
    (first | rw [c9b0] | (simp only [i64_w, i32_w]; rw [c9b0]) | skip)
    have H' := aM H
    clear H
    go_wp2
    go_meet
    case rel => exact ⟨_, ((a1_0 == 1)), yS, H', ⟨yO⟩, ⟨yR HO138.out⟩, ⟨yK BK135⟩, ⟨by repeat (first | (with_reducible first | exact HK.out | apply Kept.alloc | apply Kept.drewN | apply Kept.drew | refine Kept.setCell ?_ (.inr GW135.out) _) | exact HK.out)⟩, ⟨yG1 HB GE135.out⟩⟩
   ·
    rw [if_neg c9] at H
    have c9b0 : (a1_0 == 1) = false := beq_eq_false_iff_ne.mpr c9
    have c9b1 : (a1_0 != 1) = true := bne_iff_ne.mpr c9
    (first | rw [c9b0] | (simp only [i64_w, i32_w]; rw [c9b0]) | skip)
    have H' := aM H
    clear H
    go_wp2
    go_meet
    case rel => exact ⟨_, ((a1_0 == 2)), yS, H', ⟨yO⟩, ⟨yR HO138.out⟩, ⟨yK BK135⟩, ⟨by repeat (first | (with_reducible first | exact HK.out | apply Kept.alloc | apply Kept.drewN | apply Kept.drew | refine Kept.setCell ?_ (.inr GW135.out) _) | exact HK.out)⟩, ⟨yG1 HB GE135.out⟩⟩
  case rest =>
   clear HC4
   try clear c3
   try clear hcz6_0 hcz6_1 hcz6_2
   try clear hcz8_0 hcz8_1 hcz8_2
   try clear hfz6_0 hfz6_1 hfz6_2
   try clear hfz8_0 hfz8_1 hfz8_2
   obtain ⟨kq, x13_3, rfl, HA, HJ3, HO_0, BK135, HK, HB⟩ := hcut
   cases kq with
   | zero => exact absurd HA.out (by simp [catcode_put.j0])
   | succ kj3 =>
    have H := HA.out
    clear HA
    simp only [catcode_put.j0] at H
    by_cases c10 : x13_3 = true
    ·
     subst c10
     replace H := yt H
     obtain ⟨t139, A11, H⟩ := yb H
     obtain ⟨y140, hy140⟩ : ∃ y_ : List Int, y_ = (([t139] : List Int)) := ⟨_, rfl⟩
     replace H : ((word_Short.f kj3 y140).bind fun t143 => (if y136.length + t143.size < 140737488355328 then (some (y136 ++ bytesOf t143)) else (none))) = some r := by first | (rw [hy140]; with_reducible exact H) | (have H2_ := (Option.bind_some _ _).symm.trans H; rw [hy140]; with_reducible exact H2_) | (have H2_ := (Option.bind_some _ _).symm.trans H; with_reducible exact H2_) | with_reducible exact H | (rw [hy140]; exact H) | exact H
     have Ny140 := aM hy140
     clear hy140
     obtain ⟨t143, A12, H⟩ := yb H
     by_cases c13 : y136.length + t143.size < 140737488355328
     ·
      rw [if_pos c13] at H
      have LMc13 := aM c13
      clear c13
      obtain ⟨y144, hy144⟩ : ∃ y_ : List Int, y_ = (y136 ++ bytesOf t143) := ⟨_, rfl⟩
      replace H : (some y144) = some r := by first | (rw [hy144]; with_reducible exact H) | (have H2_ := (Option.bind_some _ _).symm.trans H; rw [hy144]; with_reducible exact H2_) | (have H2_ := (Option.bind_some _ _).symm.trans H; with_reducible exact H2_) | with_reducible exact H | (rw [hy144]; exact H) | exact H
      have Ny144 := aM hy144
      clear hy144
      obtain rfl := Option.some.inj H
      obtain ⟨hcz14_0, hcz14_1, hcz14_2, hfz14_0, hfz14_1, hfz14_2⟩ := cells3 BK135.out
      go_wp2_with (first | ((with_reducible refine gate_callee (f := 93) rfl ?_); refine yC 19 Tryd.func93 #[.int .i64 a1_1] rfl ?_; (with_reducible refine (word_Zig.calls a1_1 t139 _ A11.out).mono ?_); rintro e w' ⟨rfl, ⟨nd, rfl⟩⟩; refine ⟨_, rfl, ?_⟩) | ((with_reducible refine gate_dst (N := 20) rfl ?_); refine Kd.R_lit (Kd.int .u64) _ 91 ?hg (N := 20) ?hd (xs := ([t139] : List Int)) (inner := [.int .u64 t139]) (ok := fun _ => True) (okp := fun _ => True) ?hr ?hp (fun _ hk => hk) trivial (Below.refl _ _) (Nat.le_refl _) (by simp) ?_; (case hd => rfl); (case hg => rfl); (case hr => first | (go_simp; done) | (go_simp; rfl)); (case hp => exact (Reps.one (show Kd.M (Kd.int .u64) _ _ _ t139 [.int .u64 t139] from rfl) (Reps.none _ _))); intro v141 w15 ho16 hb hg_ hnew_; clear hg_ hnew_; (first | rw [← Ny140.out] at ho16 | (simp only [Int.reduceToNat] at ho16; rw [← Ny140.out] at ho16)); replace HO_0 := aM (Kd.R_below (yR HO_0.out) hb); have HO142 := aM (Kd.R_lower (Kd.R_newM (M := fun k_ => (P0_ k_ ∨ w.heap.size ≤ k_)) ho16 (by first | exact HK.out.1 | exact (show Kept w _ (fun k_ => P0_ k_) from by repeat (first | (with_reducible first | exact HK.out | apply Kept.alloc | apply Kept.drewN | apply Kept.drew | refine Kept.setCell ?_ (.inr GW135.out) _) | exact HK.out)).1) (fun k_ h_ => .inr h_)) (bZ (yG1 HB GE135.out))); replace BK135 := aM (kB (yK BK135) hb); replace HK := aM (Kept.below (S := (fun k_ => P0_ k_)) (by repeat (first | (with_reducible first | exact HK.out | apply Kept.alloc | apply Kept.drewN | apply Kept.drew | refine Kept.setCell ?_ (.inr GW135.out) _) | exact HK.out)) hb); replace HB := aM (bP (yG1 HB GE135.out) hb); clear hb ho16; obtain ⟨Ao17, co17, eo17⟩ := Kd.R_slice HO142.out; subst eo17) | ((with_reducible refine gate_callee (f := 92) rfl ?_); refine yC 21 Tryd.func92 #[.slice Ao17 y140.length co17] rfl ?_; (with_reducible refine (word_Short.calls kj3 _ _ y140 t143 _ ?side1 ?side2 A12.out).mono ?_); (case side1 => exact yW (Kd.R_reads' HO142.out).2.2); (case side2 => exact (Kd.R_reads' HO142.out).2.1); rintro e w18 ⟨rfl, hb⟩; refine ⟨_, rfl, ?_⟩; replace HO_0 := aM (Kd.R_below (yR HO_0.out) hb); replace HO142 := aM (Kd.R_below (yR HO142.out) hb); replace BK135 := aM (kB (yK BK135) hb); replace HK := aM (Kept.below (S := (fun k_ => P0_ k_)) (by repeat (first | (with_reducible first | exact HK.out | apply Kept.alloc | apply Kept.drewN | apply Kept.drew | refine Kept.setCell ?_ (.inr GW135.out) _) | exact HK.out)) hb); replace HB := aM (bP (yG1 HB GE135.out) hb); (try clear hb)) | (at_builtin; refine print_append_strM (w0 := w0) w0.heap.size rfl (.tmp 16) _ 78 9 5 rfl Tryd.underlying78 Tryd.underlying9 info5 v137 y136 t143 (fun k_ => (P0_ k_ ∨ w.heap.size ≤ k_)) rfl rfl ?aO ?aF ?aB ?aS ?aL ?_; (case aF => exact fun k_ hk => .inr (Nat.le_trans (by first | exact HK.out.1 | exact (show Kept w _ (fun k_ => P0_ k_) from by repeat (first | (with_reducible first | exact HK.out | apply Kept.alloc | apply Kept.drewN | apply Kept.drew | refine Kept.setCell ?_ (.inr GW135.out) _) | exact HK.out)).1) hk)); (case aB => exact (yG1 HB GE135.out)); (case aO => exact (yR HO_0.out)); (case aS => exact (bZ (yG1 HB GE135.out))); (case aL => have := LMc13.out; omega); intro v145 w19 ho hb hg; have hat := True.intro; rw [← Ny144.out] at ho; change Kd.R (Kd.int .u8) 5 w19 w0.heap.size (fun k_ => (P0_ k_ ∨ w.heap.size ≤ k_)) v145 y144 at ho; have n0_ := aM (blk_grown (g := gb135) (o := .cells #[.int .i64 a1_0, .int .i64 a1_1, .string a1_2] 23 (0, 0)) (yK BK135) hg (Kd.R_ne HO_0.out BK135.out (by decide))); have n1_ := aM (Kd.R_over' (yR HO142.out) (Kd.R_typed (yR HO_0.out)) (by decide) hg); have n2_ := aM (hb); have n3_ := aM (Kept.of_grown (S := (fun k_ => P0_ k_)) hg (by repeat (first | (with_reducible first | exact HK.out | apply Kept.alloc | apply Kept.drewN | apply Kept.drew | refine Kept.setCell ?_ (.inr GW135.out) _) | exact HK.out)) (fun k_ e_ => (HO_0.out.1 k_ e_))); have n4_ := aM (ho); clear BK135; clear HO142; clear HB; clear HK; clear HO_0; have BK135 := n0_; have HO142 := n1_; have HB := n2_; have HK := n3_; have HO146 := n4_; clear n0_ n1_ n2_ n3_ n4_; clear ho hb hg hat))
      go_ret
      exact ⟨_, yE, yR HO146.out, yG1 HB GE135.out, by repeat (first | (with_reducible first | exact HK.out | apply Kept.alloc | apply Kept.drewN | apply Kept.drew | refine Kept.setCell ?_ (.inr GW135.out) _) | exact HK.out)⟩
     ·
      rw [if_neg c13] at H
      exact absurd H (by simp)
    ·
     replace c10 := Bool.eq_false_iff.mpr c10
     subst c10
     replace H := yf H
     have HC20 := aM H
     clear H
     go_upto_if 23 with (fail)
     go_cut [23] (fun v23 wc => ∃ (kq : Nat) (x23_19 : Bool), v23 = .bool x23_19 ∧ Aside0 (catcode_put.j1 kq y136 x23_19 a1_0 a1_1 a1_2 = some r) ∧ Aside0 (kq ≤ kj3) ∧ Aside0 (Kd.R (Kd.int .u8) 5 wc w0.heap.size (fun k_ => (P0_ k_ ∨ w.heap.size ≤ k_)) v137 y136) ∧ Aside0 (wc.heap[gb135]? = some (.cells #[.int .i64 a1_0, .int .i64 a1_1, .string a1_2] 23 (0, 0))) ∧ Aside0 (Kept w wc (fun k_ => P0_ k_)) ∧ Aside0 (Below w0.heap.size w0 wc))
     case first =>
      have H := HC20.out
      clear HC20
      by_cases c21 : a1_0 = 3
      ·
       rw [if_pos c21] at H
       have c21b0 : (a1_0 == 3) = true := beq_iff_eq.mpr c21
       have c21b1 : (a1_0 != 3) = false := bne_eq_false_iff_eq.mpr c21
       clear c21
       (first | rw [c21b0] | (simp only [i64_w, i32_w]; rw [c21b0]) | skip)
       have H' := aM H
       clear H
       go_wp2
       go_meet
       case rel => exact ⟨_, ((a1_0 == 3)), yS, H', ⟨by have := HJ3.out; first | omega | exact Nat.le_refl _⟩, ⟨yR HO_0.out⟩, ⟨yK BK135⟩, ⟨by repeat (first | (with_reducible first | exact HK.out | apply Kept.alloc | apply Kept.drewN | apply Kept.drew | refine Kept.setCell ?_ (.inr GW135.out) _) | exact HK.out)⟩, ⟨yG1 HB GE135.out⟩⟩
      ·
       rw [if_neg c21] at H
       have c21b0 : (a1_0 == 3) = false := beq_eq_false_iff_ne.mpr c21
       have c21b1 : (a1_0 != 3) = true := bne_iff_ne.mpr c21
       (first | rw [c21b0] | (simp only [i64_w, i32_w]; rw [c21b0]) | skip)
       have H' := aM H
       clear H
       go_wp2
       go_meet
       case rel => exact ⟨_, ((a1_0 == 4)), yS, H', ⟨by have := HJ3.out; first | omega | exact Nat.le_refl _⟩, ⟨yR HO_0.out⟩, ⟨yK BK135⟩, ⟨by repeat (first | (with_reducible first | exact HK.out | apply Kept.alloc | apply Kept.drewN | apply Kept.drew | refine Kept.setCell ?_ (.inr GW135.out) _) | exact HK.out)⟩, ⟨yG1 HB GE135.out⟩⟩
     case rest =>
      clear HC20
      try clear c3
      try clear c10
      try clear hcz6_0 hcz6_1 hcz6_2
      try clear hcz8_0 hcz8_1 hcz8_2
      try clear hfz6_0 hfz6_1 hfz6_2
      try clear hfz8_0 hfz8_1 hfz8_2
      obtain ⟨kq, x23_19, rfl, HA, HJ19, HO_0, BK135, HK, HB⟩ := hcut
      cases kq with
      | zero => exact absurd HA.out (by simp [catcode_put.j1])
      | succ kj19 =>
       have H := HA.out
       clear HA
       simp only [catcode_put.j1] at H
       by_cases c22 : x23_19 = true
       ·
        subst c22
        replace H := yt H
        obtain ⟨t147, A23, H⟩ := yb H
        obtain rfl := Option.some.inj H
        obtain ⟨hcz24_0, hcz24_1, hcz24_2, hfz24_0, hfz24_1, hfz24_2⟩ := cells3 BK135.out
        obtain ⟨Ao25, co25, eo25⟩ := Kd.R_slice HO_0.out
        subst eo25
        go_wp2_with (first | ((with_reducible refine gate_callee (f := 48) rfl ?_); refine yC 29 Tryd.func48 #[.slice Ao25 y136.length co25, .string a1_2] rfl ?_; (with_reducible refine (catcode_text.calls kj19 (fun k_ => some k_ = (.slice Ao25 y136.length co25 : Value).ownBlock) (.slice Ao25 y136.length co25) y136 a1_2 t147 w0 _ ?side1 ?side2 A23.out).mono ?_); (case side1 => exact yG1 HB GE135.out); (case side2 => exact Kd.R_tight rfl HO_0.out); rintro e w26 ⟨v148, rfl, ho0, hb, hkp⟩; refine ⟨_, rfl, ?_⟩; have n0_ := aM (blk_kept (yK BK135) hkp (fun hs_ => (fun e_ => (Kd.R_ne HO_0.out BK135.out (by decide)) e_) hs_)); have n1_ := aM (Kd.R_mono (ok' := fun k_ => (P0_ k_ ∨ w.heap.size ≤ k_)) ho0 (fun k_ hk_ => Or.elim hk_ (fun hs_ => (HO_0.out.1 k_ (hs_).symm)) (fun hn_ => (.inr (Nat.le_trans (by first | exact HK.out.1 | exact (show Kept w _ (fun k_ => P0_ k_) from by repeat (first | (with_reducible first | exact HK.out | apply Kept.alloc | apply Kept.drewN | apply Kept.drew | refine Kept.setCell ?_ (.inr GW135.out) _) | exact HK.out)).1) hn_))))); have n2_ := aM (Kept.then_ (S := (fun k_ => P0_ k_)) (by repeat (first | (with_reducible first | exact HK.out | apply Kept.alloc | apply Kept.drewN | apply Kept.drew | refine Kept.setCell ?_ (.inr GW135.out) _) | exact HK.out)) hkp (fun k_ hs_ => (fun e_ => (HO_0.out.1 k_ e_.symm)) hs_)); have n3_ := aM (hb); clear BK135; clear HK; clear HB; clear HO_0; have BK135 := n0_; have HO149 := n1_; have HK := n2_; have HB := n3_; clear n0_ n1_ n2_ n3_; (try clear hb); (try clear hkp); (try clear ho0)))
        go_ret
        exact ⟨_, yE, yR HO149.out, yG1 HB GE135.out, by repeat (first | (with_reducible first | exact HK.out | apply Kept.alloc | apply Kept.drewN | apply Kept.drew | refine Kept.setCell ?_ (.inr GW135.out) _) | exact HK.out)⟩
       ·
        replace c22 := Bool.eq_false_iff.mpr c22
        subst c22
        replace H := yf H
        obtain rfl := Option.some.inj H
        go_wp2
        go_ret
        exact ⟨_, yE, yR HO_0.out, yG1 HB GE135.out, by repeat (first | (with_reducible first | exact HK.out | apply Kept.alloc | apply Kept.drewN | apply Kept.drew | refine Kept.setCell ?_ (.inr GW135.out) _) | exact HK.out)⟩
 ·
  rw [if_neg c3] at H
  exact absurd H (by simp)
/-! ### catcode_Value: function 9 -/
def catcode_Value.f (k : Nat) (a0_0 : Int) (a0_1 : Int) (a0_2 : ByteArray) : Option (ByteArray × Int) := (value_Right.f k a0_0 a0_1 a0_2).bind fun t151 => (if t151 = true then ((catcode_put.f k ([] : List Int) a0_0 a0_1 a0_2).bind fun t152 => (some (strOfNums t152, 0))) else (some ((⟨#[]⟩ : ByteArray), 2)))
theorem catcode_Value.mono : ∀ a0 a1 a2 k, LeO (catcode_Value.f k a0 a1 a2) (catcode_Value.f (k + 1) a0 a1 a2) := by
 intro a0 a1 a2 k
 unfold catcode_Value.f
 repeat' first | with_reducible (first | exact catcode_put.mono .. | exact value_Right.mono .. | exact LeO.refl .. | exact LeO.none .. | refine LeO.ite ?_ ?_ | refine LeO.bind ?_ (fun _ => ?_)) | exact catcode_put.mono .. | exact value_Right.mono .. | exact LeO.none .. | refine LeO.ite ?_ ?_ | refine LeO.bind ?_ (fun _ => ?_)
set_option maxHeartbeats 8000000 in
set_option maxRecDepth 100000 in
theorem catcode_Value.calls (k : Nat) (a0_0 : Int) (a0_1 : Int) (a0_2 : ByteArray) (r1 : ByteArray) (r2 : Int) (w : World) (hG : Glob w) (h : catcode_Value.f k a0_0 a0_1 a0_2 = some (r1, r2)) :
  Calls Tryd.prog 9 #[.agg #[.int .i64 a0_0, .int .i64 a0_1, .string a0_2]] w fun e w' => e = .returned (.tuple #[.string r1, .int .i64 r2]) ∧ Below w.heap.size w w' := by
 have hu23 := Tryd.underlying23
 have HG := aM hG
 clear hG
 have HB := aM (Below.refl w.heap.size w)
 have H : ((value_Right.f k a0_0 a0_1 a0_2).bind fun t151 => (if t151 = true then ((catcode_put.f k ([] : List Int) a0_0 a0_1 a0_2).bind fun t152 => (some (strOfNums t152, 0))) else (some ((⟨#[]⟩ : ByteArray), 2)))) = some (r1, r2) := h
 clear h
 obtain ⟨t151, A2, H⟩ := yb H
 by_cases c3 : t151 = true
 ·
  subst c3
  replace H := yt H
  obtain ⟨t152, A4, H⟩ := yb H
  simp only [Option.some.injEq, Prod.mk.injEq] at H
  obtain ⟨rfl, rfl⟩ := H
  go_enter Tryd.func9, Tryd.ntmps9
  go_wp2_with (first | ((with_reducible refine gate_dst (N := 1) rfl ?_); refine yX (N := 1) (cs := #[.int .i64 a0_0, .int .i64 a0_1, .string a0_2]) (t := 23) ?_; intro gb150 hg w5 hbox hb; have BK150 := aM (hbox); have GW150 := yZ hg (yB HB); have GE150 := yZ hg (yB HB); replace HB := aM (bP (yB HB) hb); clear hb hbox hg; obtain ⟨hcz6_0, hcz6_1, hcz6_2, hfz6_0, hfz6_1, hfz6_2⟩ := cells3 BK150.out) | ((with_reducible refine gate_callee (f := 36) rfl ?_); refine yC 5 Tryd.func36 #[.agg #[.int .i64 a0_0, .int .i64 a0_1, .string a0_2]] rfl ?_; (with_reducible refine (value_Right.calls k a0_0 a0_1 a0_2 true _ ?side1 A2.out).mono ?_); (case side1 => first | (with_reducible exact HG.out) | exact Glob.below HG.out (yG1 HB GE150.out)); rintro e w7 ⟨rfl, hb⟩; refine ⟨_, rfl, ?_⟩; replace BK150 := aM (kB (yK BK150) hb); replace HB := aM (bP (yG1 HB GE150.out) hb); (try clear hb); obtain ⟨hcz8_0, hcz8_1, hcz8_2, hfz8_0, hfz8_1, hfz8_2⟩ := cells3 BK150.out) | ((with_reducible refine gate_callee (f := 37) rfl ?_); refine yC 8 Tryd.func37 #[.slice none 0 0, .agg #[.int .i64 a0_0, .int .i64 a0_1, .string a0_2]] rfl ?_; (refine (catcode_put.calls k (fun k_ => some k_ = (.slice none 0 0 : Value).ownBlock) (.slice none 0 0) ([] : List Int) a0_0 a0_1 a0_2 t152 w _ ?side1 ?side2 A4.out).mono ?_); (case side1 => exact yG1 HB GE150.out); (case side2 => exact Kd.R_nil _ _ _ _ _); rintro e w9 ⟨v153, rfl, ho0, hb, hkp⟩; refine ⟨_, rfl, ?_⟩; replace BK150 := aM (blk_kept (yK BK150) hkp (fun hs_ => (fun e_ => by simp [Value.ownBlock] at e_) hs_)); have HO154 := aM (Kd.R_mono (ok' := fun k_ => True) ho0 (fun k_ hk_ => trivial)); replace HB := aM (hb); (try clear hb); (try clear hkp); (try clear ho0); have hcv10 := own_string (P := Tryd.prog) Tryd.underlying78 Tryd.underlying5 Tryd.underlying9 (Kd.own_of_R HO154.out)))
  go_ret2
  exact ⟨yE, yG1 HB GE150.out⟩
 ·
  replace c3 := Bool.eq_false_iff.mpr c3
  subst c3
  replace H := yf H
  simp only [Option.some.injEq, Prod.mk.injEq] at H
  obtain ⟨rfl, rfl⟩ := H
  go_enter Tryd.func9, Tryd.ntmps9
  go_wp2_with (first | ((with_reducible refine gate_dst (N := 1) rfl ?_); refine yX (N := 1) (cs := #[.int .i64 a0_0, .int .i64 a0_1, .string a0_2]) (t := 23) ?_; intro gb150 hg w11 hbox hb; have BK150 := aM (hbox); have GW150 := yZ hg (yB HB); have GE150 := yZ hg (yB HB); replace HB := aM (bP (yB HB) hb); clear hb hbox hg; obtain ⟨hcz12_0, hcz12_1, hcz12_2, hfz12_0, hfz12_1, hfz12_2⟩ := cells3 BK150.out) | ((with_reducible refine gate_callee (f := 36) rfl ?_); refine yC 5 Tryd.func36 #[.agg #[.int .i64 a0_0, .int .i64 a0_1, .string a0_2]] rfl ?_; (with_reducible refine (value_Right.calls k a0_0 a0_1 a0_2 false _ ?side1 A2.out).mono ?_); (case side1 => first | (with_reducible exact HG.out) | exact Glob.below HG.out (yG1 HB GE150.out)); rintro e w13 ⟨rfl, hb⟩; refine ⟨_, rfl, ?_⟩; replace BK150 := aM (kB (yK BK150) hb); replace HB := aM (bP (yG1 HB GE150.out) hb); (try clear hb)))
  go_ret2
  exact ⟨yE, yG1 HB GE150.out⟩
/-! ### name_part: function 144 -/
mutual
def name_part.j0 : Nat → Int → Int → Bool → Option (Bool)
 | 0, _, _, _ => none
 | k + 1, x0, x1, x5 => if x5 = true then (some true) else (if x0 ≥ 48 then (name_part.j1 k x0 x1 (decide (x0 ≤ 57))) else (name_part.j1 k x0 x1 false))
def name_part.j1 : Nat → Int → Int → Bool → Option (Bool)
 | 0, _, _, _ => none
 | k + 1, x0, x1, x12 => if x12 = true then (name_part.j2 k x1 x12) else (name_part.j2 k x1 (x0 == 95))
def name_part.j2 : Nat → Int → Bool → Option (Bool)
 | 0, _, _ => none
 | k + 1, x1, x12 => if x12 = true then (some (decide (x1 > 0))) else (some false)
end
def name_part.f (k : Nat) (a0 : Int) (a1 : Int) : Option (Bool) := if a0 ≥ 97 then (name_part.j0 k a0 a1 (decide (a0 ≤ 122))) else (name_part.j0 k a0 a1 false)
theorem name_part.mono_l : ∀ k, (∀ y0 y1 y2, LeO (name_part.j0 k y0 y1 y2) (name_part.j0 (k + 1) y0 y1 y2)) ∧ (∀ y0 y1 y2, LeO (name_part.j1 k y0 y1 y2) (name_part.j1 (k + 1) y0 y1 y2)) ∧ (∀ y0 y1, LeO (name_part.j2 k y0 y1) (name_part.j2 (k + 1) y0 y1))
 | 0 => by refine ⟨?_, ?_, ?_⟩ <;> intros <;> exact LeO.none _
 | k + 1 => by
  obtain ⟨ih0, ih1, ih2⟩ := name_part.mono_l k
  refine ⟨?_, ?_, ?_⟩ <;> intros <;> first | unfold name_part.j0 | unfold name_part.j1 | unfold name_part.j2
  all_goals repeat' first | with_reducible (first | exact ih0 .. | exact ih1 .. | exact ih2 .. | exact LeO.refl .. | exact LeO.none .. | refine LeO.ite ?_ ?_ | refine LeO.bind ?_ (fun _ => ?_)) | exact ih0 .. | exact ih1 .. | exact ih2 .. | exact LeO.none .. | refine LeO.ite ?_ ?_ | refine LeO.bind ?_ (fun _ => ?_)
theorem name_part.mono : ∀ a0 a1 k, LeO (name_part.f k a0 a1) (name_part.f (k + 1) a0 a1) := by
 intro a0 a1 k
 obtain ⟨ih0, ih1, ih2⟩ := name_part.mono_l k
 unfold name_part.f
 repeat' first | with_reducible (first | exact ih0 .. | exact ih1 .. | exact ih2 .. | exact LeO.refl .. | exact LeO.none .. | refine LeO.ite ?_ ?_ | refine LeO.bind ?_ (fun _ => ?_)) | exact ih0 .. | exact ih1 .. | exact ih2 .. | exact LeO.none .. | refine LeO.ite ?_ ?_ | refine LeO.bind ?_ (fun _ => ?_)
set_option maxHeartbeats 8000000 in
set_option maxRecDepth 100000 in
theorem name_part.calls (k : Nat) (a0 : Int) (a1 : Int) (r : Bool) (w : World) (h : name_part.f k a0 a1 = some r) :
  Calls Tryd.prog 144 #[.int .u8 a0, .int .i64 a1] w fun e w' => e = .returned (.bool r) ∧ Drawn0 w w' := by
 have H : (if a0 ≥ 97 then (name_part.j0 k a0 a1 (decide (a0 ≤ 122))) else (name_part.j0 k a0 a1 false)) = some r := h
 clear h
 have HC3 := aM H
 clear H
 go_enter Tryd.func144, Tryd.ntmps144
 go_upto_region 1 with (fail)
 go_cut [5] (fun v5 wc => ∃ (kq : Nat) (x5_2 : Bool), v5 = .bool x5_2 ∧ Aside0 (name_part.j0 kq a0 a1 x5_2 = some r) ∧ Aside0 (kq ≤ k) ∧ Drawn0 w wc)
 case first =>
  have H := HC3.out
  clear HC3
  by_cases c4 : a0 ≥ 97
  ·
   rw [if_pos c4] at H
   have c4b0 : decide (97 ≤ a0) = true := decide_eq_true c4
   clear c4
   (first | rw [c4b0] | (simp only [i64_w, i32_w]; rw [c4b0]) | skip)
   have H' := aM H
   clear H
   go_wp2
   go_meet
   case rel => exact ⟨_, (decide (a0 ≤ 122)), yS, H', ⟨yO⟩, yD⟩
  ·
   rw [if_neg c4] at H
   have c4b0 : decide (97 ≤ a0) = false := decide_eq_false c4
   clear c4
   (first | rw [c4b0] | (simp only [i64_w, i32_w]; rw [c4b0]) | skip)
   have H' := aM H
   clear H
   go_wp2
   go_meet
   case rel => exact ⟨_, (false), yS, H', ⟨yO⟩, yD⟩
 case rest =>
  clear HC3
  obtain ⟨kq, x5_2, rfl, HA, HJ2, ⟨mc2, rfl⟩⟩ := hcut
  cases kq with
  | zero => exact absurd HA.out (by simp [name_part.j0])
  | succ kj2 =>
   have H := HA.out
   clear HA
   simp only [name_part.j0] at H
   by_cases c5 : x5_2 = true
   ·
    subst c5
    replace H := yt H
    obtain rfl := Option.some.inj H
    go_wp2
    go_ret
    exact ⟨yS, yD⟩
   ·
    replace c5 := Bool.eq_false_iff.mpr c5
    subst c5
    replace H := yf H
    have HC6 := aM H
    clear H
    go_upto_region 3 with (fail)
    go_cut [12] (fun v12 wc => ∃ (kq : Nat) (x12_5 : Bool), v12 = .bool x12_5 ∧ Aside0 (name_part.j1 kq a0 a1 x12_5 = some r) ∧ Aside0 (kq ≤ kj2) ∧ Drawn0 w wc)
    case first =>
     have H := HC6.out
     clear HC6
     by_cases c7 : a0 ≥ 48
     ·
      rw [if_pos c7] at H
      have c7b0 : decide (48 ≤ a0) = true := decide_eq_true c7
      clear c7
      (first | rw [c7b0] | (simp only [i64_w, i32_w]; rw [c7b0]) | skip)
      have H' := aM H
      clear H
      go_wp2
      go_meet
      case rel => exact ⟨_, (decide (a0 ≤ 57)), yS, H', ⟨by have := HJ2.out; first | omega | exact Nat.le_refl _⟩, yD⟩
     ·
      rw [if_neg c7] at H
      have c7b0 : decide (48 ≤ a0) = false := decide_eq_false c7
      clear c7
      (first | rw [c7b0] | (simp only [i64_w, i32_w]; rw [c7b0]) | skip)
      have H' := aM H
      clear H
      go_wp2
      go_meet
      case rel => exact ⟨_, (false), yS, H', ⟨by have := HJ2.out; first | omega | exact Nat.le_refl _⟩, yD⟩
    case rest =>
     clear HC6
     try clear c5
     obtain ⟨kq, x12_5, rfl, HA, HJ5, ⟨mc5, rfl⟩⟩ := hcut
     cases kq with
     | zero => exact absurd HA.out (by simp [name_part.j1])
     | succ kj5 =>
      have H := HA.out
      clear HA
      simp only [name_part.j1] at H
      have HC8 := aM H
      clear H
      go_upto_if 12 with (fail)
      go_cut [12] (fun v12 wc => ∃ (kq : Nat) (x12_7 : Bool), v12 = .bool x12_7 ∧ Aside0 (name_part.j2 kq a1 x12_7 = some r) ∧ Aside0 (kq ≤ kj5) ∧ Drawn0 w wc)
      case first =>
       have H := HC8.out
       clear HC8
       by_cases c9 : x12_5 = true
       ·
        subst c9
        replace H := yt H
        have H' := aM H
        clear H
        go_wp2
        go_meet
        case rel => exact ⟨_, (true), yS, H', ⟨by have := HJ2.out; have := HJ5.out; first | omega | exact Nat.le_refl _⟩, yD⟩
       ·
        replace c9 := Bool.eq_false_iff.mpr c9
        subst c9
        replace H := yf H
        have H' := aM H
        clear H
        go_wp2
        go_meet
        case rel => exact ⟨_, ((a0 == 95)), yS, H', ⟨by have := HJ2.out; have := HJ5.out; first | omega | exact Nat.le_refl _⟩, yD⟩
      case rest =>
       clear HC8
       try clear c5
       obtain ⟨kq, x12_7, rfl, HA, HJ7, ⟨mc7, rfl⟩⟩ := hcut
       cases kq with
       | zero => exact absurd HA.out (by simp [name_part.j2])
       | succ kj7 =>
        have H := HA.out
        clear HA
        simp only [name_part.j2] at H
        by_cases c10 : x12_7 = true
        ·
         subst c10
         replace H := yt H
         obtain rfl := Option.some.inj H
         go_wp2
         go_ret
         exact ⟨yS, yD⟩
        ·
         replace c10 := Bool.eq_false_iff.mpr c10
         subst c10
         replace H := yf H
         obtain rfl := Option.some.inj H
         go_wp2
         go_ret
         exact ⟨yS, yD⟩
/-! ### name_Read: function 132 -/
def name_Read.l0 : Nat → ByteArray → Int → Int → Option (Int)
 | 0, _, _, _ => none
 | k + 1, x0, x5, x6 => if x6 < x5 then (if 0 ≤ x6 then (if x6 < (x0.size : Int) then ((name_part.f k (bt x0 x6) x6).bind fun t155 => (if t155 = true then (name_Read.l0 k x0 x5 (wrap64 (x6 + 1))) else (some x6))) else (none)) else (none)) else (some (x0.size : Int))
def name_Read.f (k : Nat) (a0 : ByteArray) : Option (Int) := name_Read.l0 k a0 (a0.size : Int) 0
theorem name_Read.mono_l : ∀ k, (∀ y0 y1 y2, LeO (name_Read.l0 k y0 y1 y2) (name_Read.l0 (k + 1) y0 y1 y2))
 | 0 => fun _ _ _ r h => by simp [name_Read.l0] at h
 | k + 1 => by
  have ih0 := name_Read.mono_l k
  ·
   intro y0 y1 y2
   unfold name_Read.l0
   repeat' first
   | (with_reducible exact ih0 _ _ _)
   | (with_reducible exact name_part.mono _ _ _)
   | (with_reducible exact LeO.refl _)
   | (with_reducible exact LeO.none _)
   | (with_reducible refine LeO.ite ?_ ?_)
   | (with_reducible refine LeO.bind ?_ (fun _ => ?_))
   | exact ih0 _ _ _
   | exact name_part.mono _ _ _
   | exact LeO.none _
   | refine LeO.ite ?_ ?_
   | refine LeO.bind ?_ (fun _ => ?_)
theorem name_Read.mono : ∀ a0 k, LeO (name_Read.f k a0) (name_Read.f (k + 1) a0) := by
 intro a0 k
 have ih0 := name_Read.mono_l k
 unfold name_Read.f
 repeat' first | with_reducible (first | exact ih0 .. | exact name_part.mono .. | exact LeO.refl .. | exact LeO.none .. | refine LeO.ite ?_ ?_ | refine LeO.bind ?_ (fun _ => ?_)) | exact ih0 .. | exact name_part.mono .. | exact LeO.none .. | refine LeO.ite ?_ ?_ | refine LeO.bind ?_ (fun _ => ?_)
set_option maxHeartbeats 8000000 in
set_option maxRecDepth 100000 in
theorem name_Read.calls (k : Nat) (a0 : ByteArray) (r : Int) (w : World) (h : name_Read.f k a0 = some r) :
  Calls Tryd.prog 132 #[.string a0] w fun e w' => e = .returned (.int .i64 r) ∧ Drawn0 w w' := by
 have H : (name_Read.l0 k a0 (a0.size : Int) 0) = some r := h
 clear h
 have H' := aM H
 clear H
 go_enter Tryd.func132, Tryd.ntmps132
 go_wp2
 go_loopg [6] k (fun kq v6 w' => ∃ (x6_1 : Int), v6 = .int .i64 x6_1 ∧ Aside0 (name_Read.l0 kq a0 (a0.size : Int) x6_1 = some r) ∧ Aside0 (kq ≤ k) ∧ Drawn0 w w')
 case atStart => exact ⟨(0), yS, H', ⟨Nat.le_refl _⟩, yD⟩
 case round =>
  clear H'
  obtain ⟨x6_1, rfl, HA, HK1, ⟨m1, rfl⟩⟩ := hrel
  cases gk with
  | zero => exact absurd HA.out (by simp [name_Read.l0])
  | succ k1 =>
   have H := HA.out
   clear HA
   simp only [name_Read.l0] at H
   by_cases c2 : x6_1 < (a0.size : Int)
   ·
    rw [if_pos c2] at H
    have c2b0 : decide (x6_1 < (a0.size : Int)) = true := decide_eq_true c2
    clear c2
    by_cases c3 : 0 ≤ x6_1
    ·
     rw [if_pos c3] at H
     have c3b0 : decide (0 ≤ x6_1) = true := decide_eq_true c3
     clear c3
     by_cases c4 : x6_1 < (a0.size : Int)
     ·
      rw [if_pos c4] at H
      have c4b0 : decide (x6_1 < (a0.size : Int)) = true := decide_eq_true c4
      clear c4
      obtain ⟨t155, A6, H⟩ := yb H
      by_cases c7 : t155 = true
      ·
       subst c7
       replace H := yt H
       have H' := aM H
       clear H
       have p5 : 0 ≤ (x6_1 : Int) := oD yA
       have q5 : x6_1 < (a0.size : Int) := oD yA
       have hx5 := bt_at a0 x6_1
       replace p5 := eq_true p5
       replace q5 := eq_true q5
       go_wp2_with (first | ((with_reducible refine gate_callee (f := 144) rfl ?_); refine yC 13 Tryd.func144 #[.int .u8 (bt a0 x6_1), .int .i64 x6_1] rfl ?_; (with_reducible refine (name_part.calls k1 (bt a0 x6_1) x6_1 true _ A6.out).mono ?_); rintro e w' ⟨rfl, ⟨nd, rfl⟩⟩; refine ⟨_, rfl, ?_⟩))
       go_roundg k1
       case measure => have := HK1.out; omega
       case rel => exact ⟨(wrap64 (x6_1 + 1)), yS, H', ⟨by have := HK1.out; omega⟩, yD⟩
      ·
       replace c7 := Bool.eq_false_iff.mpr c7
       subst c7
       replace H := yf H
       obtain rfl := Option.some.inj H
       have p5 : 0 ≤ (x6_1 : Int) := oD yA
       have q5 : x6_1 < (a0.size : Int) := oD yA
       have hx5 := bt_at a0 x6_1
       replace p5 := eq_true p5
       replace q5 := eq_true q5
       go_wp2_with (first | ((with_reducible refine gate_callee (f := 144) rfl ?_); refine yC 13 Tryd.func144 #[.int .u8 (bt a0 x6_1), .int .i64 x6_1] rfl ?_; (with_reducible refine (name_part.calls k1 (bt a0 x6_1) x6_1 false _ A6.out).mono ?_); rintro e w' ⟨rfl, ⟨nd, rfl⟩⟩; refine ⟨_, rfl, ?_⟩))
       go_ret
       exact ⟨yS, yD⟩
     ·
      rw [if_neg c4] at H
      exact absurd H (by simp)
    ·
     rw [if_neg c3] at H
     exact absurd H (by simp)
   ·
    rw [if_neg c2] at H
    have c2b0 : decide (x6_1 < (a0.size : Int)) = false := decide_eq_false c2
    clear c2
    obtain rfl := Option.some.inj H
    go_wp2
    go_ret
    exact ⟨yS, yD⟩
/-! ### name_Right: function 111 -/
def name_Right.f (k : Nat) (a0 : ByteArray) : Option (Bool) := if a0.toList = ([] : List UInt8) then (some false) else (if (a0.size : Int) ≤ 16 then ((name_Read.f k a0).bind fun t156 => (some (t156 == (a0.size : Int)))) else (some false))
theorem name_Right.mono : ∀ a0 k, LeO (name_Right.f k a0) (name_Right.f (k + 1) a0) := by
 intro a0 k
 unfold name_Right.f
 repeat' first | with_reducible (first | exact name_Read.mono .. | exact LeO.refl .. | exact LeO.none .. | refine LeO.ite ?_ ?_ | refine LeO.bind ?_ (fun _ => ?_)) | exact name_Read.mono .. | exact LeO.none .. | refine LeO.ite ?_ ?_ | refine LeO.bind ?_ (fun _ => ?_)
set_option maxHeartbeats 8000000 in
set_option maxRecDepth 100000 in
theorem name_Right.calls (k : Nat) (a0 : ByteArray) (r : Bool) (w : World) (h : name_Right.f k a0 = some r) :
  Calls Tryd.prog 111 #[.string a0] w fun e w' => e = .returned (.bool r) ∧ Drawn0 w w' := by
 have H : (if a0.toList = ([] : List UInt8) then (some false) else (if (a0.size : Int) ≤ 16 then ((name_Read.f k a0).bind fun t156 => (some (t156 == (a0.size : Int)))) else (some false))) = some r := h
 clear h
 by_cases c2 : a0.toList = ([] : List UInt8)
 ·
  rw [if_pos c2] at H
  have c2b0 : (a0.toList == ([] : List UInt8)) = true := beq_iff_eq.mpr c2
  have c2b1 : (a0.toList != ([] : List UInt8)) = false := bne_eq_false_iff_eq.mpr c2
  clear c2
  obtain rfl := Option.some.inj H
  go_enter Tryd.func111, Tryd.ntmps111
  go_wp2
  go_ret
  exact ⟨yS, yD⟩
 ·
  rw [if_neg c2] at H
  have c2b0 : (a0.toList == ([] : List UInt8)) = false := beq_eq_false_iff_ne.mpr c2
  have c2b1 : (a0.toList != ([] : List UInt8)) = true := bne_iff_ne.mpr c2
  by_cases c3 : (a0.size : Int) ≤ 16
  ·
   rw [if_pos c3] at H
   have c3b0 : decide ((a0.size : Int) ≤ 16) = true := decide_eq_true c3
   have c3b1 : decide (a0.size ≤ 16) = true := decide_eq_true (by omega)
   clear c3
   obtain ⟨t156, A4, H⟩ := yb H
   obtain rfl := Option.some.inj H
   go_enter Tryd.func111, Tryd.ntmps111
   go_wp2_with (first | (go_at_call 132; (with_reducible refine (name_Read.calls k a0 t156 _ A4.out).mono ?_); rintro e w' ⟨rfl, ⟨nd, rfl⟩⟩))
   go_ret
   exact ⟨yS, yD⟩
  ·
   rw [if_neg c3] at H
   have c3b0 : decide ((a0.size : Int) ≤ 16) = false := decide_eq_false c3
   have c3b1 : decide (a0.size ≤ 16) = false := decide_eq_false (by omega)
   clear c3
   obtain rfl := Option.some.inj H
   go_enter Tryd.func111, Tryd.ntmps111
   go_wp2
   go_ret
   exact ⟨yS, yD⟩
end Go.Proofs.YtgefikclhfjcgaaDoor.HCatcodeValues

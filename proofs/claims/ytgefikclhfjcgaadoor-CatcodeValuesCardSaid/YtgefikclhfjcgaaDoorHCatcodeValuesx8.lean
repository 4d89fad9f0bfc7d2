/- For Go functions that CatcodeValues reaches: Lean functions, and walks that show that each call comes to what its Lean function tells; no condition but those that each theorem states. (Made by a program of this session over the kit's print.py.) -/
import Derived.Test.YtgefikclhfjcgaaDoorHCatcodeValuesx0
import Derived.Test.YtgefikclhfjcgaaDoorHCatcodeValuesx3
import Derived.Test.YtgefikclhfjcgaaDoorHCatcodeValuesx4
import Derived.Test.YtgefikclhfjcgaaDoorHCatcodeValuesx7
namespace Go.Proofs.YtgefikclhfjcgaaDoor.HCatcodeValues
open Go.RowKit Go.Proofs.YtgefikclhfjcgaaDoorW.PrintWords Go.Proofs.YtgefikclhfjcgaaDoorW.PrintLast Go.Proofs.YtgefikclhfjcgaaDoorW.PrintMore
attribute [local go_sem] max2_int min2_int max_two min_two max_three min_three max_four min_four   -- for this text's walks alone
set_option linter.unusedVariables false
set_option linter.unusedSimpArgs false
attribute [local go_sem] hp_s8 hp_s16 hp_s32 hp_s64 hp_m8 hp_m16 hp_m32 hp_m64
/-! ### catcode_body: function 49 -/
def catcode_body.j0 : Nat → List Int → Int → ByteArray → Int → Int → Bool → Int → Int → ByteArray → Option (List Int)
 | 0, _, _, _, _, _, _, _, _, _ => none
 | k + 1, x0, x199000, x199001, x199002, x199003, x199004, x199005, x199006, x199007 => (catcode_put.f k x0 x199005 x199006 x199007).bind fun t211 => (some t211)
def catcode_body.f (k : Nat) (l0 : List Int) (a1_0 : Int) (a1_1 : ByteArray) (a1_2 : Int) (a1_3 : Int) (a1_4 : Bool) (a1_5 : Int) (a1_6 : Int) (a1_7 : ByteArray) : Option (List Int) := (catcode_text.f k l0 a1_1).bind fun t199 => ((catcode_kind.f k t199 a1_2 a1_3).bind fun t202 => (if a1_4 = true then (if t202.length < 140737488355328 then (catcode_body.j0 k (t202 ++ [1]) a1_0 a1_1 a1_2 a1_3 a1_4 a1_5 a1_6 a1_7) else (none)) else (if t202.length < 140737488355328 then (catcode_body.j0 k (t202 ++ [0]) a1_0 a1_1 a1_2 a1_3 a1_4 a1_5 a1_6 a1_7) else (none))))
theorem catcode_body.mono_l : ∀ k, (∀ y0 y1 y2 y3 y4 y5 y6 y7 y8, LeO (catcode_body.j0 k y0 y1 y2 y3 y4 y5 y6 y7 y8) (catcode_body.j0 (k + 1) y0 y1 y2 y3 y4 y5 y6 y7 y8))
 | 0 => fun _ _ _ _ _ _ _ _ _ r h => by simp [catcode_body.j0] at h
 | k + 1 => by
  have ih0 := catcode_body.mono_l k
  ·
   intro y0 y1 y2 y3 y4 y5 y6 y7 y8
   unfold catcode_body.j0
   repeat' first
   | (with_reducible exact ih0 _ _ _ _ _ _ _ _ _)
   | (with_reducible exact catcode_kind.mono _ _ _ _)
   | (with_reducible exact catcode_put.mono _ _ _ _ _)
   | (with_reducible exact catcode_text.mono _ _ _)
   | (with_reducible exact LeO.refl _)
   | (with_reducible exact LeO.none _)
   | (with_reducible refine LeO.ite ?_ ?_)
   | (with_reducible refine LeO.bind ?_ (fun _ => ?_))
   | exact ih0 _ _ _ _ _ _ _ _ _
   | exact catcode_kind.mono _ _ _ _
   | exact catcode_put.mono _ _ _ _ _
   | exact catcode_text.mono _ _ _
   | exact LeO.none _
   | refine LeO.ite ?_ ?_
   | refine LeO.bind ?_ (fun _ => ?_)
theorem catcode_body.mono : ∀ a0 a1 a2 a3 a4 a5 a6 a7 a8 k, LeO (catcode_body.f k a0 a1 a2 a3 a4 a5 a6 a7 a8) (catcode_body.f (k + 1) a0 a1 a2 a3 a4 a5 a6 a7 a8) := by
 intro a0 a1 a2 a3 a4 a5 a6 a7 a8 k
 have ih0 := catcode_body.mono_l k
 unfold catcode_body.f
 repeat' first | with_reducible (first | exact ih0 .. | exact catcode_kind.mono .. | exact catcode_put.mono .. | exact catcode_text.mono .. | exact LeO.refl .. | exact LeO.none .. | refine LeO.ite ?_ ?_ | refine LeO.bind ?_ (fun _ => ?_)) | exact ih0 .. | exact catcode_kind.mono .. | exact catcode_put.mono .. | exact catcode_text.mono .. | exact LeO.none .. | refine LeO.ite ?_ ?_ | refine LeO.bind ?_ (fun _ => ?_)
def catcode_body.T1 : Bool × List (List Nat × List Nat) := (true, [([], []), ([], []), ([1], [1]), ([0, 2], [0, 2]), ([], []), ([4], [4]), ([3, 5, 3], [3, 5]), ([6, 6, 0, 1, 2, 3, 4, 5, 6], [0, 6])])
def catcode_body.B1 : List Nat := [0, 0, 2, 7, 0, 16, 63, 127]
theorem catcode_body.tab1 : rtab .any (opsOf Tryd.f49 1) = catcode_body.T1 := by kernel_rfl
theorem catcode_body.bits1 : waitsOk catcode_body.T1.2 catcode_body.B1 = true := by kernel_rfl
set_option maxHeartbeats 8000000 in
set_option maxRecDepth 100000 in
theorem catcode_body.calls (k : Nat) (P0_ : Nat → Prop) (u9000_ : Value) (l0 : List Int) (a1_0 : Int) (a1_1 : ByteArray) (a1_2 : Int) (a1_3 : Int) (a1_4 : Bool) (a1_5 : Int) (a1_6 : Int) (a1_7 : ByteArray) (r : List Int) (w0 w : World) (hB : Below w0.heap.size w0 w) (ho0 : Kd.R (Kd.int .u8) 5 w w0.heap.size P0_ u9000_ l0) (h : catcode_body.f k l0 a1_0 a1_1 a1_2 a1_3 a1_4 a1_5 a1_6 a1_7 = some r) :
  Calls Tryd.prog 49 #[u9000_, .agg #[.int .i64 a1_0, .string a1_1, .int .i64 a1_2, .int .i64 a1_3, .bool a1_4, .int .i64 a1_5, .int .i64 a1_6, .string a1_7]] w fun e w' => ∃ v0_ : Value, e = .returned (v0_) ∧ Kd.R (Kd.int .u8) 5 w' w0.heap.size (fun k_ => (P0_ k_ ∨ w.heap.size ≤ k_)) v0_ r ∧ Below w0.heap.size w0 w' ∧ Kept w w' (fun k_ => P0_ k_) := by
 have hu97 := Tryd.underlying97
 have hu48 := Tryd.underlying48
 have hu23 := Tryd.underlying23
 have HO0 := aM (show Kd.R (Kd.int .u8) 5 w w0.heap.size (fun k_ => (P0_ k_ ∨ w.heap.size ≤ k_)) u9000_ l0 from Kd.R_mono ho0 (fun k_ hk => (.inl hk)))
 have HK := aM (Kept.refl w (fun k_ => P0_ k_))
 have HW0 := aM hB.size
 have HB := aM hB
 clear hB
 have H : ((catcode_text.f k l0 a1_1).bind fun t199 => ((catcode_kind.f k t199 a1_2 a1_3).bind fun t202 => (if a1_4 = true then (if t202.length < 140737488355328 then (catcode_body.j0 k (t202 ++ [1]) a1_0 a1_1 a1_2 a1_3 a1_4 a1_5 a1_6 a1_7) else (none)) else (if t202.length < 140737488355328 then (catcode_body.j0 k (t202 ++ [0]) a1_0 a1_1 a1_2 a1_3 a1_4 a1_5 a1_6 a1_7) else (none))))) = some r := h
 clear h
 obtain ⟨t199, A3, H⟩ := yb H
 obtain ⟨t202, A4, H⟩ := yb H
 have HC5 := aM H
 clear H
 go_enter Tryd.func49, Tryd.ntmps49
 try go_wp2_with (first | ((with_reducible refine gate_dst (N := 3) rfl ?_); refine yX (N := 3) (cs := #[.int .i64 a1_0, .string a1_1, .int .i64 a1_2, .int .i64 a1_3, .bool a1_4, .int .i64 a1_5, .int .i64 a1_6, .string a1_7]) (t := 97) ?_; intro gb198 hg w6 hbox hb; replace HO0 := aM (Kd.R_below (yR HO0.out) hb); have BK198 := aM (hbox); have GW198 := aM ((by rw [hg]; exact (by first | exact HK.out.1 | exact (show Kept w _ (fun k_ => P0_ k_) from by repeat (first | (with_reducible first | exact HK.out | apply Kept.alloc | apply Kept.drewN | apply Kept.drew) | exact HK.out)).1) : w.heap.size ≤ gb198)); replace HK := aM (Kept.below (S := (fun k_ => P0_ k_)) (by repeat (first | (with_reducible first | exact HK.out | apply Kept.alloc | apply Kept.drewN | apply Kept.drew) | exact HK.out)) hb); have GE198 := yZ hg (yB HB); replace HB := aM (bP (yB HB) hb); clear hb hbox hg))
 have n0_ := aM (Kd.R_drew HO0.out)
 have n1_ := aM (kD BK198.out)
 have n2_ := aM (Kept.drew HK.out)
 have n3_ := aM (b1 HB.out)
 clear HO0
 clear BK198
 clear HK
 clear HB
 have HO0 := n0_
 have BK198 := n1_
 have HK := n2_
 have HB := n3_
 clear n0_ n1_ n2_ n3_
 obtain ⟨Ao8, co8, eo8⟩ := Kd.R_slice HO0.out
 (first | subst eo8 | (injection eo8 with f1_ f2_ f3_; have f4_ := f1_.symm; have f5_ := f3_.symm; clear f1_ f2_ f3_; subst f4_; subst f5_))
 refine start_ (n := 8) (S := fun w' => w'.cell? ⟨gb198, 0, none⟩ = some (.int .i64 a1_0) ∧ w'.cell? ⟨gb198, 1, none⟩ = some (.string a1_1) ∧ w'.cell? ⟨gb198, 2, none⟩ = some (.int .i64 a1_2) ∧ w'.cell? ⟨gb198, 3, none⟩ = some (.int .i64 a1_3) ∧ w'.cell? ⟨gb198, 4, none⟩ = some (.bool a1_4) ∧ w'.cell? ⟨gb198, 5, none⟩ = some (.int .i64 a1_5) ∧ w'.cell? ⟨gb198, 6, none⟩ = some (.int .i64 a1_6) ∧ w'.cell? ⟨gb198, 7, none⟩ = some (.string a1_7)) (ds := []) (tB 0 8) (by kernel_rfl) rfl rfl (cellc8 BK198.out) (fun hHeld => ?_); refine with_tabW catcode_body.tab1 catcode_body.bits1 (fun HT_ HW_ => ?_)
 generalize w6.drew = w7 at HO0 BK198 HK HB hHeld ⊢
 refine yP HT_ 0 5 (tB 1 8) rfl rfl ?_
 refine yP HT_ 1 6 (tB 3 8) rfl rfl ?_
 refine yP HT_ 4 9 (tB 19 8) rfl rfl ?_
 refine yT HT_ HW_ 2 7 (tB 23 8) rfl rfl hHeld ?_
 refine yT HT_ HW_ 5 10 (tB 55 8) rfl rfl hHeld ?_
 refine yI HT_ 3 (tB 63 8) rfl rfl fun K hK => ?_
 refine yc Tryd.func48 #[.slice Ao8 l0.length co8, .string a1_1] rfl rfl ?_
 with_reducible refine (catcode_text.calls k (fun k_ => some k_ = (.slice Ao8 l0.length co8 : Value).ownBlock) (.slice Ao8 l0.length co8) l0 a1_1 t199 w0 _ ?side1 ?side2 A3.out).mono ?_
 (case side1 => exact yG1 HB GE198.out)
 (case side2 => exact Kd.R_tight rfl HO0.out)
 rintro e w9 ⟨v200, rfl, ho0, hb, hkp⟩
 refine ⟨_, rfl, ?_⟩
 have n0_ := aM (blk_kept (yK BK198) hkp (fun hs_ => (fun e_ => (Kd.R_ne HO0.out BK198.out (by decide)) e_) hs_))
 have n1_ := aM (Kd.R_mono (ok' := fun k_ => (P0_ k_ ∨ w.heap.size ≤ k_)) ho0 (fun k_ hk_ => Or.elim hk_ (fun hs_ => (HO0.out.1 k_ (hs_).symm)) (fun hn_ => (.inr (Nat.le_trans (by first | exact HK.out.1 | exact (show Kept w _ (fun k_ => P0_ k_) from by repeat (first | (with_reducible first | exact HK.out | apply Kept.alloc | apply Kept.drewN | apply Kept.drew | refine Kept.setCell ?_ (.inr GW198.out) _) | exact HK.out)).1) hn_)))))
 have n2_ := aM (Kept.then_ (S := (fun k_ => P0_ k_)) (by repeat (first | (with_reducible first | exact HK.out | apply Kept.alloc | apply Kept.drewN | apply Kept.drew | refine Kept.setCell ?_ (.inr GW198.out) _) | exact HK.out)) hkp (fun k_ hs_ => (fun e_ => (HO0.out.1 k_ e_.symm)) hs_))
 have n3_ := aM (hb)
 clear BK198
 clear HK
 clear HB
 clear HO0
 have BK198 := n0_
 have HO201 := n1_
 have HK := n2_
 have HB := n3_
 clear n0_ n1_ n2_ n3_
 (try clear hb)
 (try clear hkp)
 (try clear ho0)
 obtain ⟨Ao10, co10, eo10⟩ := Kd.R_slice HO201.out
 (first | subst eo10 | (injection eo10 with f1_ f2_ f3_; have f4_ := f1_.symm; have f5_ := f3_.symm; clear f1_ f2_ f3_; subst f4_; subst f5_))
 refine hK.out _ _ (cellc8 BK198.out) (fun hHeld => ?_)
 clear hK K
 refine norm_ (a' := ?_) ?_ ?_
 rotate_left
 ·
  show Act.put _ (some 8) _ = _
  simp only [Act.put, s1_, s2_, s3_, i64_w, i32_w]
  rfl
 refine yI HT_ 6 (tB 127 8) rfl rfl fun K hK => ?_
 refine yc Tryd.func66 #[.slice Ao10 t199.length co10, .agg #[.int .i64 a1_2, .int .i64 a1_3]] rfl rfl ?_
 with_reducible refine (catcode_kind.calls k (fun k_ => some k_ = (.slice Ao10 t199.length co10 : Value).ownBlock) (.slice Ao10 t199.length co10) t199 a1_2 a1_3 t202 w0 _ ?side1 ?side2 A4.out).mono ?_
 (case side1 => exact yG1 HB GE198.out)
 (case side2 => exact Kd.R_tight rfl HO201.out)
 rintro e w11 ⟨v203, rfl, ho0, hb, hkp⟩
 refine ⟨_, rfl, ?_⟩
 have n0_ := aM (blk_kept (yK BK198) hkp (fun hs_ => (fun e_ => (Kd.R_ne HO201.out BK198.out (by decide)) e_) hs_))
 have n1_ := aM (Kd.R_mono (ok' := fun k_ => (P0_ k_ ∨ w.heap.size ≤ k_)) ho0 (fun k_ hk_ => Or.elim hk_ (fun hs_ => (HO201.out.1 k_ (hs_).symm)) (fun hn_ => (.inr (Nat.le_trans (by first | exact HK.out.1 | exact (show Kept w _ (fun k_ => P0_ k_) from by repeat (first | (with_reducible first | exact HK.out | apply Kept.alloc | apply Kept.drewN | apply Kept.drew | refine Kept.setCell ?_ (.inr GW198.out) _) | exact HK.out)).1) hn_)))))
 have n2_ := aM (Kept.then_ (S := (fun k_ => P0_ k_)) (by repeat (first | (with_reducible first | exact HK.out | apply Kept.alloc | apply Kept.drewN | apply Kept.drew | refine Kept.setCell ?_ (.inr GW198.out) _) | exact HK.out)) hkp (fun k_ hs_ => (fun e_ => (HO201.out.1 k_ e_.symm)) hs_))
 have n3_ := aM (hb)
 clear BK198
 clear HK
 clear HB
 clear HO201
 have BK198 := n0_
 have HO204 := n1_
 have HK := n2_
 have HB := n3_
 clear n0_ n1_ n2_ n3_
 (try clear hb)
 (try clear hkp)
 (try clear ho0)
 refine hK.out _ _ (cellc8 BK198.out) (fun hHeld => ?_)
 clear hK K
 refine norm_ (a' := ?_) ?_ ?_
 rotate_left
 ·
  show Act.put _ (some 11) _ = _
  simp only [Act.put, s1_, s2_, s3_, i64_w, i32_w]
  rfl
 refine yP HT_ 7 0 (tB 255 8) rfl rfl ?_
 refine done_ (done_of HT_.out (by kernel_rfl)) ?_
 obtain ⟨hcz12_0, hcz12_1, hcz12_2, hcz12_3, hcz12_4, hcz12_5, hcz12_6, hcz12_7, hfz12_0, hfz12_1, hfz12_2, hfz12_3, hfz12_4, hfz12_5, hfz12_6, hfz12_7⟩ := cells8 BK198.out
 go_upto_if 13 with (fail)
 go_cut [0] (fun v0 wc => ∃ (kq : Nat) (x0_4 : List Int), Aside0 (catcode_body.j0 kq x0_4 a1_0 a1_1 a1_2 a1_3 a1_4 a1_5 a1_6 a1_7 = some r) ∧ Aside0 (kq ≤ k) ∧ Aside0 (Kd.R (Kd.int .u8) 5 wc w0.heap.size (fun k_ => (P0_ k_ ∨ w.heap.size ≤ k_)) v0 x0_4) ∧ Aside0 (wc.heap[gb198]? = some (.cells #[.int .i64 a1_0, .string a1_1, .int .i64 a1_2, .int .i64 a1_3, .bool a1_4, .int .i64 a1_5, .int .i64 a1_6, .string a1_7] 97 (0, 0))) ∧ Aside0 (Kept w wc (fun k_ => P0_ k_)) ∧ Aside0 (Below w0.heap.size w0 wc))
 case first =>
  have H := HC5.out
  clear HC5
  by_cases c13 : a1_4 = true
  ·
   subst c13
   replace H := yt H
   by_cases c14 : t202.length < 140737488355328
   ·
    rw [if_pos c14] at H
    have LMc14 := aM c14
    clear c14
    obtain ⟨y205, hy205⟩ : ∃ y_ : List Int, y_ = (t202 ++ [1]) := ⟨_, rfl⟩
    replace H : (catcode_body.j0 k y205 a1_0 a1_1 a1_2 a1_3 true a1_5 a1_6 a1_7) = some r := by first | (rw [hy205]; with_reducible exact H) | (have H2_ := (Option.bind_some _ _).symm.trans H; rw [hy205]; with_reducible exact H2_) | (have H2_ := (Option.bind_some _ _).symm.trans H; with_reducible exact H2_) | with_reducible exact H | (rw [hy205]; exact H) | exact H
    have Ny205 := aM hy205
    clear hy205
    have H' := aM H
    clear H
    go_wp2_with (first | ((with_reducible refine gate_builtin (b := .append) (xs := #[.tmp 14, .tmp 15]) rfl ?_); at_builtin; refine Kd.R_append (Kd.int .u8) (w0 := w0) w0.heap.size rfl (.tmp 14) (.tmp 15) 78 5 (.int .u8 0) 1 rfl Tryd.underlying78 info5 rfl (by decide) (by omega) v203 t202 1 [.int .u8 1] (fun k_ => (P0_ k_ ∨ w.heap.size ≤ k_)) (fun _ => False) rfl rfl ?aP (fun _ hk => hk.elim) ?aF ?aO ?aB ?aS ?aL ?_; (case aP => exact rfl); (case aB => exact (yG1 HB GE198.out)); (case aF => exact (fun k_ hk => (.inr (Nat.le_trans (by first | exact HK.out.1 | exact (show Kept w _ (fun k_ => P0_ k_) from by repeat (first | (with_reducible first | exact HK.out | apply Kept.alloc | apply Kept.drewN | apply Kept.drew | refine Kept.setCell ?_ (.inr GW198.out) _) | exact HK.out)).1) hk)))); (case aO => exact (yR HO204.out)); (case aS => exact (bZ (yG1 HB GE198.out))); (case aL => have := LMc14.out; omega); intro v206 w15 ho hb hg hat; rw [← Ny205.out] at ho; have n0_ := aM (blk_grown (g := gb198) (o := .cells #[.int .i64 a1_0, .string a1_1, .int .i64 a1_2, .int .i64 a1_3, .bool true, .int .i64 a1_5, .int .i64 a1_6, .string a1_7] 97 (0, 0)) (yK BK198) hg (Kd.R_ne HO204.out BK198.out (by decide))); have n1_ := aM (hb); have n2_ := aM (Kept.of_grown (S := (fun k_ => P0_ k_)) hg (by repeat (first | (with_reducible first | exact HK.out | apply Kept.alloc | apply Kept.drewN | apply Kept.drew | refine Kept.setCell ?_ (.inr GW198.out) _) | exact HK.out)) (fun k_ e_ => (HO204.out.1 k_ e_))); have n3_ := aM (ho); clear BK198; clear HB; clear HK; clear HO204; have BK198 := n0_; have HB := n1_; have HK := n2_; have HO207 := n3_; clear n0_ n1_ n2_ n3_; clear ho hb hg hat))
    go_meet
    case rel => exact ⟨_, (y205), H', ⟨yO⟩, ⟨yR HO207.out⟩, ⟨yK BK198⟩, ⟨by repeat (first | (with_reducible first | exact HK.out | apply Kept.alloc | apply Kept.drewN | apply Kept.drew | refine Kept.setCell ?_ (.inr GW198.out) _) | exact HK.out)⟩, ⟨yG1 HB GE198.out⟩⟩
   ·
    rw [if_neg c14] at H
    exact absurd H (by simp)
  ·
   replace c13 := Bool.eq_false_iff.mpr c13
   subst c13
   replace H := yf H
   by_cases c16 : t202.length < 140737488355328
   ·
    rw [if_pos c16] at H
    have LMc16 := aM c16
    clear c16
    obtain ⟨y208, hy208⟩ : ∃ y_ : List Int, y_ = (t202 ++ [0]) := ⟨_, rfl⟩
    replace H : (catcode_body.j0 k y208 a1_0 a1_1 a1_2 a1_3 false a1_5 a1_6 a1_7) = some r := by first | (rw [hy208]; with_reducible exact H) | (have H2_ := (Option.bind_some _ _).symm.trans H; rw [hy208]; with_reducible exact H2_) | (have H2_ := (Option.bind_some _ _).symm.trans H; with_reducible exact H2_) | with_reducible exact H | (rw [hy208]; exact H) | exact H
    have Ny208 := aM hy208
    clear hy208
    have H' := aM H
    clear H
    go_wp2_with (first | ((with_reducible refine gate_builtin (b := .append) (xs := #[.tmp 17, .tmp 18]) rfl ?_); at_builtin; refine Kd.R_append (Kd.int .u8) (w0 := w0) w0.heap.size rfl (.tmp 17) (.tmp 18) 78 5 (.int .u8 0) 1 rfl Tryd.underlying78 info5 rfl (by decide) (by omega) v203 t202 0 [.int .u8 0] (fun k_ => (P0_ k_ ∨ w.heap.size ≤ k_)) (fun _ => False) rfl rfl ?aP (fun _ hk => hk.elim) ?aF ?aO ?aB ?aS ?aL ?_; (case aP => exact rfl); (case aB => exact (yG1 HB GE198.out)); (case aF => exact (fun k_ hk => (.inr (Nat.le_trans (by first | exact HK.out.1 | exact (show Kept w _ (fun k_ => P0_ k_) from by repeat (first | (with_reducible first | exact HK.out | apply Kept.alloc | apply Kept.drewN | apply Kept.drew | refine Kept.setCell ?_ (.inr GW198.out) _) | exact HK.out)).1) hk)))); (case aO => exact (yR HO204.out)); (case aS => exact (bZ (yG1 HB GE198.out))); (case aL => have := LMc16.out; omega); intro v209 w17 ho hb hg hat; rw [← Ny208.out] at ho; have n0_ := aM (blk_grown (g := gb198) (o := .cells #[.int .i64 a1_0, .string a1_1, .int .i64 a1_2, .int .i64 a1_3, .bool false, .int .i64 a1_5, .int .i64 a1_6, .string a1_7] 97 (0, 0)) (yK BK198) hg (Kd.R_ne HO204.out BK198.out (by decide))); have n1_ := aM (hb); have n2_ := aM (Kept.of_grown (S := (fun k_ => P0_ k_)) hg (by repeat (first | (with_reducible first | exact HK.out | apply Kept.alloc | apply Kept.drewN | apply Kept.drew | refine Kept.setCell ?_ (.inr GW198.out) _) | exact HK.out)) (fun k_ e_ => (HO204.out.1 k_ e_))); have n3_ := aM (ho); clear BK198; clear HB; clear HK; clear HO204; have BK198 := n0_; have HB := n1_; have HK := n2_; have HO210 := n3_; clear n0_ n1_ n2_ n3_; clear ho hb hg hat))
    go_meet
    case rel => exact ⟨_, (y208), H', ⟨yO⟩, ⟨yR HO210.out⟩, ⟨yK BK198⟩, ⟨by repeat (first | (with_reducible first | exact HK.out | apply Kept.alloc | apply Kept.drewN | apply Kept.drew | refine Kept.setCell ?_ (.inr GW198.out) _) | exact HK.out)⟩, ⟨yG1 HB GE198.out⟩⟩
   ·
    rw [if_neg c16] at H
    exact absurd H (by simp)
 case rest =>
  clear HC5
  obtain ⟨kq, x0_4, HA, HJ4, HO_0, BK198, HK, HB⟩ := hcut
  cases kq with
  | zero => exact absurd HA.out (by simp [catcode_body.j0])
  | succ kj4 =>
   have H := HA.out
   clear HA
   simp only [catcode_body.j0] at H
   obtain ⟨t211, A18, H⟩ := yb H
   obtain rfl := Option.some.inj H
   obtain ⟨hcz19_0, hcz19_1, hcz19_2, hcz19_3, hcz19_4, hcz19_5, hcz19_6, hcz19_7, hfz19_0, hfz19_1, hfz19_2, hfz19_3, hfz19_4, hfz19_5, hfz19_6, hfz19_7⟩ := cells8 BK198.out
   obtain ⟨Ao20, co20, eo20⟩ := Kd.R_slice HO_0.out
   subst eo20
   go_wp2_with (first | ((with_reducible refine gate_callee (f := 37) rfl ?_); refine yC 23 Tryd.func37 #[.slice Ao20 x0_4.length co20, .agg #[.int .i64 a1_5, .int .i64 a1_6, .string a1_7]] rfl ?_; (with_reducible refine (catcode_put.calls kj4 (fun k_ => some k_ = (.slice Ao20 x0_4.length co20 : Value).ownBlock) (.slice Ao20 x0_4.length co20) x0_4 a1_5 a1_6 a1_7 t211 w0 _ ?side1 ?side2 A18.out).mono ?_); (case side1 => exact yG1 HB GE198.out); (case side2 => exact Kd.R_tight rfl HO_0.out); rintro e w21 ⟨v212, rfl, ho0, hb, hkp⟩; refine ⟨_, rfl, ?_⟩; have n0_ := aM (blk_kept (yK BK198) hkp (fun hs_ => (fun e_ => (Kd.R_ne HO_0.out BK198.out (by decide)) e_) hs_)); have n1_ := aM (Kd.R_mono (ok' := fun k_ => (P0_ k_ ∨ w.heap.size ≤ k_)) ho0 (fun k_ hk_ => Or.elim hk_ (fun hs_ => (HO_0.out.1 k_ (hs_).symm)) (fun hn_ => (.inr (Nat.le_trans (by first | exact HK.out.1 | exact (show Kept w _ (fun k_ => P0_ k_) from by repeat (first | (with_reducible first | exact HK.out | apply Kept.alloc | apply Kept.drewN | apply Kept.drew | refine Kept.setCell ?_ (.inr GW198.out) _) | exact HK.out)).1) hn_))))); have n2_ := aM (Kept.then_ (S := (fun k_ => P0_ k_)) (by repeat (first | (with_reducible first | exact HK.out | apply Kept.alloc | apply Kept.drewN | apply Kept.drew | refine Kept.setCell ?_ (.inr GW198.out) _) | exact HK.out)) hkp (fun k_ hs_ => (fun e_ => (HO_0.out.1 k_ e_.symm)) hs_)); have n3_ := aM (hb); clear BK198; clear HK; clear HB; clear HO_0; have BK198 := n0_; have HO213 := n1_; have HK := n2_; have HB := n3_; clear n0_ n1_ n2_ n3_; (try clear hb); (try clear hkp); (try clear ho0)))
   go_ret
   exact ⟨_, yE, yR HO213.out, yG1 HB GE198.out, by repeat (first | (with_reducible first | exact HK.out | apply Kept.alloc | apply Kept.drewN | apply Kept.drew | refine Kept.setCell ?_ (.inr GW198.out) _) | exact HK.out)⟩
end Go.Proofs.YtgefikclhfjcgaaDoor.HCatcodeValues

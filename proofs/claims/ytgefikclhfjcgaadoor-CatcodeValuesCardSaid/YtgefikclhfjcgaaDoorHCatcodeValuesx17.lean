/- For Go functions that CatcodeValues reaches: Lean functions, and walks that show that each call comes to what its Lean function tells; no condition but those that each theorem states. (Made by a program of this session over the kit's print.py.) -/
import Derived.Test.YtgefikclhfjcgaaDoorHCatcodeValuesx0
import Derived.Test.YtgefikclhfjcgaaDoorHCatcodeValuesx12
import Derived.Test.YtgefikclhfjcgaaDoorHCatcodeValuesx14
import Derived.Test.YtgefikclhfjcgaaDoorHCatcodeValuesx16
namespace Go.Proofs.YtgefikclhfjcgaaDoor.HCatcodeValues
open Go.RowKit Go.Proofs.YtgefikclhfjcgaaDoorW.PrintWords Go.Proofs.YtgefikclhfjcgaaDoorW.PrintLast Go.Proofs.YtgefikclhfjcgaaDoorW.PrintMore
attribute [local go_sem] max2_int min2_int max_two min_two max_three min_three max_four min_four   -- for this text's walks alone
set_option linter.unusedVariables false
set_option linter.unusedSimpArgs false
attribute [local go_sem] hp_s8 hp_s16 hp_s32 hp_s64 hp_m8 hp_m16 hp_m32 hp_m64
/-! ### haulageref11_ReadValue: function 11 -/
def haulageref11_ReadValue.f (k : Nat) (a0 : ByteArray) : Option (Int × Int × ByteArray × Int × Int) := (haulageref11_R_Value.f k a0 0 0).bind fun bt380 => (if bt380.2.2.2.2.2 = 0 then (some (bt380.1, bt380.2.1, bt380.2.2.1, bt380.2.2.2.2.1, 0)) else (some (0, 0, (⟨#[]⟩ : ByteArray), 0, bt380.2.2.2.2.2)))
theorem haulageref11_ReadValue.mono : ∀ a0 k, LeO (haulageref11_ReadValue.f k a0) (haulageref11_ReadValue.f (k + 1) a0) := by
 intro a0 k
 unfold haulageref11_ReadValue.f
 repeat' first | with_reducible (first | exact haulageref11_R_Value.mono .. | exact LeO.refl .. | exact LeO.none .. | refine LeO.ite ?_ ?_ | refine LeO.bind ?_ (fun _ => ?_)) | exact haulageref11_R_Value.mono .. | exact LeO.none .. | refine LeO.ite ?_ ?_ | refine LeO.bind ?_ (fun _ => ?_)
def haulageref11_ReadValue.T4 : Bool × List (List Nat × List Nat) := (true, [([], []), ([], []), ([1], [1]), ([2], [2]), ([3], [3]), ([0, 0], [0]), ([5, 0, 5], []), ([4, 6, 0, 1, 2, 3, 4, 5, 6], [4])])
def haulageref11_ReadValue.B4 : List Nat := [0, 0, 2, 6, 14, 1, 33, 127]
theorem haulageref11_ReadValue.tab4 : rtab .any (opsOf Tryd.f11 4) = haulageref11_ReadValue.T4 := by kernel_rfl
theorem haulageref11_ReadValue.bits4 : waitsOk haulageref11_ReadValue.T4.2 haulageref11_ReadValue.B4 = true := by kernel_rfl
def haulageref11_ReadValue.T5 : Bool × List (List Nat × List Nat) := (true, [([], []), ([], []), ([1], [1]), ([2], [2]), ([3], [3]), ([0, 0], [0]), ([4, 5, 0, 1, 2, 3, 4, 5], [4]), ([6, 0, 1, 2, 3, 4, 5, 6], [])])
def haulageref11_ReadValue.B5 : List Nat := [0, 0, 2, 6, 14, 1, 63, 127]
theorem haulageref11_ReadValue.tab5 : rtab .any (opsOf Tryd.f11 5) = haulageref11_ReadValue.T5 := by kernel_rfl
theorem haulageref11_ReadValue.bits5 : waitsOk haulageref11_ReadValue.T5.2 haulageref11_ReadValue.B5 = true := by kernel_rfl
set_option maxHeartbeats 8000000 in
set_option maxRecDepth 100000 in
theorem haulageref11_ReadValue.calls (k : Nat) (a0 : ByteArray) (r1 : Int) (r2 : Int) (r3 : ByteArray) (r4 : Int) (r5 : Int) (w : World) (h : haulageref11_ReadValue.f k a0 = some (r1, r2, r3, r4, r5)) :
  Calls Tryd.prog 11 #[.string a0] w fun e w' => e = .returned (.tuple #[.agg #[.int .i64 r1, .int .i64 r2, .string r3], .int .i64 r4, .int .i64 r5]) ∧ Below w.heap.size w w' := by
 have hu23 := Tryd.underlying23
 have hu86 := Tryd.underlying86
 have HB := aM (Below.refl w.heap.size w)
 have H : ((haulageref11_R_Value.f k a0 0 0).bind fun bt380 => (if bt380.2.2.2.2.2 = 0 then (some (bt380.1, bt380.2.1, bt380.2.2.1, bt380.2.2.2.2.1, 0)) else (some (0, 0, (⟨#[]⟩ : ByteArray), 0, bt380.2.2.2.2.2)))) = some (r1, r2, r3, r4, r5) := h
 clear h
 obtain ⟨⟨t380, t381, t382, t383, t384, t385⟩, A2, H⟩ := yb H
 try dsimp -simprocs only at H
 by_cases c3 : t385 = 0
 ·
  rw [if_pos c3] at H
  have c3b0 : (t385 == 0) = true := beq_iff_eq.mpr c3
  have c3b1 : (t385 != 0) = false := bne_eq_false_iff_eq.mpr c3
  clear c3
  simp only [Option.some.injEq, Prod.mk.injEq] at H
  obtain ⟨rfl, rfl, rfl, rfl, rfl⟩ := H
  go_enter Tryd.func11, Tryd.ntmps11
  try go_wp2_with (first | ((with_reducible refine gate_dst (N := 2) rfl ?_); refine yX (N := 2) (cs := #[.int .i64 0, .int .i64 0, .string (⟨#[]⟩ : ByteArray)]) (t := 23) ?_; intro gb378 hg w4 hbox hb; have BK378 := aM (hbox); have GW378 := yZ hg (yB HB); have GE378 := yZ hg (yB HB); replace HB := aM (bP (yB HB) hb); clear hb hbox hg) | ((with_reducible refine gate_dst (N := 9) rfl ?_); refine yX (N := 9) (cs := #[.string a0, .int .i64 0, .int .i64 0]) (t := 86) ?_; intro gb379 hg w5 hbox hb; have HI379 := aM ((show IsS86 w w5 gb379 a0 0 0 from ⟨hbox, by rw [hg]; exact (bZ (yG1 HB GE378.out))⟩)); have GW379 := yZ hg (yG1 HB GE378.out); have GE379 := yZ hg (yG1 HB GE378.out); replace HB := aM (bP (yG1 HB GE378.out) hb); have NB378_379 := yN hg (yK BK378); have NB379_378 := yM hg (yK BK378); replace BK378 := aM (kB (yK BK378) hb); clear hb hbox hg) | ((with_reducible refine gate_callee (f := 39) rfl ?_); refine yC 11 Tryd.func39 #[.pointer (some ⟨gb379, 0, none⟩)] rfl ?_; (with_reducible refine (haulageref11_R_Value.calls k gb379 a0 0 0 t380 t381 t382 t383 t384 t385 w _ ?side1 ?side2 A2.out).mono ?_); (case side1 => repeat (first | (with_reducible first | exact HI379.out | apply IsS86.alloc | apply IsS86.drewN | apply IsS86.drew | apply IsS86.set_0 | apply IsS86.set_1 | apply IsS86.set_2 | apply IsS86.far (hne := NB379_378.out)) | exact HI379.out)); (case side2 => exact yG2 HB (IsS86.ge HI379.out) GE378.out); rintro e w6 ⟨rfl, hi, hb, hk⟩; refine ⟨_, rfl, ?_⟩; replace BK378 := aM (KeepBut.blk hk (g' := gb378) (o := .cells #[.int .i64 0, .int .i64 0, .string (⟨#[]⟩ : ByteArray)] 23 (0, 0)) (yK BK378) NB378_379.out (by simp)); replace HB := aM (hb); replace HI379 := aM (hi); (try clear hb); (try clear hk); (try clear hi)) | ((with_reducible refine gate_dst (N := 6) rfl ?_); refine yX (N := 6) (cs := #[.int .i64 0, .int .i64 0, .string (⟨#[]⟩ : ByteArray)]) (t := 23) ?_; intro gb386 hg w7 hbox hb; have BK386 := aM (hbox); have GW386 := yZ hg (yG2 HB (IsS86.ge HI379.out) GE378.out); have GE386 := yZ hg (yG2 HB (IsS86.ge HI379.out) GE378.out); replace HB := aM (bP (yG2 HB (IsS86.ge HI379.out) GE378.out) hb); have NB378_386 := yN hg (yK BK378); have NB386_378 := yM hg (yK BK378); replace BK378 := aM (kB (yK BK378) hb); have NB379_386 := aM ((by rw [hg]; exact Nat.ne_of_lt (IsS86.lt (show IsS86 w _ gb379 t383 t384 t385 from by repeat (first | (with_reducible first | exact HI379.out | apply IsS86.alloc | apply IsS86.drewN | apply IsS86.drew | apply IsS86.set_0 | apply IsS86.set_1 | apply IsS86.set_2 | apply IsS86.far (hne := NB379_378.out)) | exact HI379.out))) : gb379 ≠ gb386)); have NB386_379 := aM ((by rw [hg]; exact Nat.ne_of_gt (IsS86.lt (show IsS86 w _ gb379 t383 t384 t385 from by repeat (first | (with_reducible first | exact HI379.out | apply IsS86.alloc | apply IsS86.drewN | apply IsS86.drew | apply IsS86.set_0 | apply IsS86.set_1 | apply IsS86.set_2 | apply IsS86.far (hne := NB379_378.out)) | exact HI379.out))) : gb386 ≠ gb379)); replace HI379 := aM (IsS86.below (by repeat (first | (with_reducible first | exact HI379.out | apply IsS86.alloc | apply IsS86.drewN | apply IsS86.drew | apply IsS86.set_0 | apply IsS86.set_1 | apply IsS86.set_2 | apply IsS86.far (hne := NB379_378.out)) | exact HI379.out)) hb); clear hb hbox hg; have hnb8 := NB386_378.out; have hnc8 := NB378_386.out; have hnb9 := NB386_379.out; have hnc9 := NB379_386.out; obtain ⟨hcz10_0, hcz10_1, hcz10_2, hfz10_0, hfz10_1, hfz10_2⟩ := cells3 BK386.out; obtain ⟨HGz11, hgz11⟩ := HI379.out; have hcz11_0 := cellS86_0 HGz11; have hcz11_1 := cellS86_1 HGz11; have hcz11_2 := cellS86_2 HGz11; have hfz11_0 := blk_frozen HGz11 0; have hfz11_1 := blk_frozen HGz11 1; have hfz11_2 := blk_frozen HGz11 2; clear HGz11 hgz11))
  have n0_ : Aside0 ((((w7.setCell ⟨gb386, 0, none⟩ (.int .i64 t380)).setCell ⟨gb386, 1, none⟩ (.int .i64 t381)).setCell ⟨gb386, 2, none⟩ (.string t382)).heap[gb378]? = some (.cells #[.int .i64 0, .int .i64 0, .string (⟨#[]⟩ : ByteArray)] 23 (0, 0))) := ⟨yF1 BK378 NB378_386.out⟩
  have n1_ : Aside0 ((((w7.setCell ⟨gb386, 0, none⟩ (.int .i64 t380)).setCell ⟨gb386, 1, none⟩ (.int .i64 t381)).setCell ⟨gb386, 2, none⟩ (.string t382)).heap[gb386]? = some (.cells #[.int .i64 t380, .int .i64 t381, .string t382] 23 (0, 0))) := ⟨puts3 BK386.out⟩
  have n2_ : Aside0 (IsS86 w (((w7.setCell ⟨gb386, 0, none⟩ (.int .i64 t380)).setCell ⟨gb386, 1, none⟩ (.int .i64 t381)).setCell ⟨gb386, 2, none⟩ (.string t382)) gb379 t383 t384 t385) := ⟨by repeat (first | (with_reducible first | exact HI379.out | apply IsS86.alloc | apply IsS86.drewN | apply IsS86.drew | apply IsS86.set_0 | apply IsS86.set_1 | apply IsS86.set_2 | apply IsS86.far (hne := NB379_378.out) | apply IsS86.far (hne := NB379_386.out)) | exact HI379.out)⟩
  have n3_ : Aside0 (Below w.heap.size w (((w7.setCell ⟨gb386, 0, none⟩ (.int .i64 t380)).setCell ⟨gb386, 1, none⟩ (.int .i64 t381)).setCell ⟨gb386, 2, none⟩ (.string t382))) := ⟨yG3 HB (IsS86.ge HI379.out) GE378.out GE386.out⟩
  (try clear BK378)
  (try clear BK386)
  (try clear HI379)
  (try clear HB)
  generalize (((w7.setCell ⟨gb386, 0, none⟩ (.int .i64 t380)).setCell ⟨gb386, 1, none⟩ (.int .i64 t381)).setCell ⟨gb386, 2, none⟩ (.string t382)) = w12 at n0_ n1_ n2_ n3_ ⊢
  have BK378 := n0_
  have BK386 := n1_
  have HI379 := n2_
  have HB := n3_
  clear n0_ n1_ n2_ n3_
  have n0_ := aM (kD BK378.out)
  have n1_ := aM (kD BK386.out)
  have n2_ := aM (IsS86.drew HI379.out)
  have n3_ := aM (b1 HB.out)
  clear BK378
  clear BK386
  clear HI379
  clear HB
  have BK378 := n0_
  have BK386 := n1_
  have HI379 := n2_
  have HB := n3_
  clear n0_ n1_ n2_ n3_
  refine start_ (n := 8) (S := fun w' => w'.cell? ⟨gb386, 0, none⟩ = some (.int .i64 t380) ∧ w'.cell? ⟨gb386, 1, none⟩ = some (.int .i64 t381) ∧ w'.cell? ⟨gb386, 2, none⟩ = some (.string t382) ∧ w'.cell? ⟨gb379, 0, none⟩ = some (.string t383) ∧ w'.cell? ⟨gb379, 1, none⟩ = some (.int .i64 t384) ∧ w'.cell? ⟨gb379, 2, none⟩ = some (.int .i64 t385)) (ds := []) (tB 0 8) (by kernel_rfl) rfl rfl ⟨yV BK386 0, yV BK386 1, yV BK386 2, (blk_cell (IsS86.box HI379).out 0).trans rfl, (blk_cell (IsS86.box HI379).out 1).trans rfl, (blk_cell (IsS86.box HI379).out 2).trans rfl⟩ (fun hHeld => ?_); refine with_tabW haulageref11_ReadValue.tab5 haulageref11_ReadValue.bits5 (fun HT_ HW_ => ?_)
  generalize w12.drew = w13 at BK378 BK386 HI379 HB hHeld ⊢
  refine yP HT_ 1 23 (tB 2 8) rfl rfl ?_
  refine yP HT_ 2 24 (tB 6 8) rfl rfl ?_
  refine yP HT_ 3 25 (tB 14 8) rfl rfl ?_
  refine yT HT_ HW_ 0 22 (tB 15 8) rfl rfl hHeld ?_
  refine yT HT_ HW_ 4 26 (tB 31 8) rfl rfl hHeld ?_
  refine yI HT_ 5 (tB 63 8) rfl rfl fun K hK => ?_
  have hs14 : w13.cell? ⟨gb378, 0, none⟩ = some (.int .i64 0) := (blk_cell BK378.out 0).trans rfl
  have hfs14 := blk_frozen BK378.out 0
  have hns14_1 := NB386_378.out
  have hms14_1 := NB378_386.out
  have hs15 : w13.cell? ⟨gb378, 1, none⟩ = some (.int .i64 0) := (blk_cell BK378.out 1).trans rfl
  have hfs15 := blk_frozen BK378.out 1
  have hns15_1 := NB386_378.out
  have hms15_1 := NB378_386.out
  have hs16 : w13.cell? ⟨gb378, 2, none⟩ = some (.string (⟨#[]⟩ : ByteArray)) := (blk_cell BK378.out 2).trans rfl
  have hfs16 := blk_frozen BK378.out 2
  have hns16_1 := NB386_378.out
  have hms16_1 := NB378_386.out
  refine skip_ (w1 := ?_) (by rfl) rfl ?_ ?_
  rotate_left
  ·
   go_simp
   rfl
  refine hK.out _ _ ⟨(cF3 NB386_378.out hHeld.1), (cF3 NB386_378.out hHeld.2.1), (cF3 NB386_378.out hHeld.2.2.1), (cF3 NB379_378.out hHeld.2.2.2.1), (cF3 NB379_378.out hHeld.2.2.2.2.1), (cF3 NB379_378.out hHeld.2.2.2.2.2)⟩ (fun hHeld => ?_)
  clear hK K
  refine yP HT_ 6 3 (tB 127 8) rfl rfl ?_
  refine yP HT_ 7 4 (tB 255 8) rfl rfl ?_
  refine done_ (done_of HT_.out (by kernel_rfl)) ?_
  try go_wp2
  refine bodyPost_ret (results_ctt rfl _ _ gb378 23 #[.int .i64 t380, .int .i64 t381, .string t382] (0, 0) _ rfl (puts3 BK378.out) Tryd.underlying23 rfl (by kernel_rfl)) rfl ?_
  exact ⟨yE, yG3 HB (IsS86.ge HI379.out) GE378.out GE386.out⟩
 ·
  rw [if_neg c3] at H
  have c3b0 : (t385 == 0) = false := beq_eq_false_iff_ne.mpr c3
  have c3b1 : (t385 != 0) = true := bne_iff_ne.mpr c3
  simp only [Option.some.injEq, Prod.mk.injEq] at H
  obtain ⟨rfl, rfl, rfl, rfl, rfl⟩ := H
  go_enter Tryd.func11, Tryd.ntmps11
  try go_wp2_with (first | ((with_reducible refine gate_dst (N := 2) rfl ?_); refine yX (N := 2) (cs := #[.int .i64 0, .int .i64 0, .string (⟨#[]⟩ : ByteArray)]) (t := 23) ?_; intro gb378 hg w17 hbox hb; have BK378 := aM (hbox); have GW378 := yZ hg (yB HB); have GE378 := yZ hg (yB HB); replace HB := aM (bP (yB HB) hb); clear hb hbox hg) | ((with_reducible refine gate_dst (N := 9) rfl ?_); refine yX (N := 9) (cs := #[.string a0, .int .i64 0, .int .i64 0]) (t := 86) ?_; intro gb379 hg w18 hbox hb; have HI379 := aM ((show IsS86 w w18 gb379 a0 0 0 from ⟨hbox, by rw [hg]; exact (bZ (yG1 HB GE378.out))⟩)); have GW379 := yZ hg (yG1 HB GE378.out); have GE379 := yZ hg (yG1 HB GE378.out); replace HB := aM (bP (yG1 HB GE378.out) hb); have NB378_379 := yN hg (yK BK378); have NB379_378 := yM hg (yK BK378); replace BK378 := aM (kB (yK BK378) hb); clear hb hbox hg) | ((with_reducible refine gate_callee (f := 39) rfl ?_); refine yC 11 Tryd.func39 #[.pointer (some ⟨gb379, 0, none⟩)] rfl ?_; (with_reducible refine (haulageref11_R_Value.calls k gb379 a0 0 0 t380 t381 t382 t383 t384 t385 w _ ?side1 ?side2 A2.out).mono ?_); (case side1 => repeat (first | (with_reducible first | exact HI379.out | apply IsS86.alloc | apply IsS86.drewN | apply IsS86.drew | apply IsS86.set_0 | apply IsS86.set_1 | apply IsS86.set_2 | apply IsS86.far (hne := NB379_378.out)) | exact HI379.out)); (case side2 => exact yG2 HB (IsS86.ge HI379.out) GE378.out); rintro e w19 ⟨rfl, hi, hb, hk⟩; refine ⟨_, rfl, ?_⟩; replace BK378 := aM (KeepBut.blk hk (g' := gb378) (o := .cells #[.int .i64 0, .int .i64 0, .string (⟨#[]⟩ : ByteArray)] 23 (0, 0)) (yK BK378) NB378_379.out (by simp)); replace HB := aM (hb); replace HI379 := aM (hi); (try clear hb); (try clear hk); (try clear hi)) | ((with_reducible refine gate_dst (N := 6) rfl ?_); refine yX (N := 6) (cs := #[.int .i64 0, .int .i64 0, .string (⟨#[]⟩ : ByteArray)]) (t := 23) ?_; intro gb386 hg w20 hbox hb; have BK386 := aM (hbox); have GW386 := yZ hg (yG2 HB (IsS86.ge HI379.out) GE378.out); have GE386 := yZ hg (yG2 HB (IsS86.ge HI379.out) GE378.out); replace HB := aM (bP (yG2 HB (IsS86.ge HI379.out) GE378.out) hb); have NB378_386 := yN hg (yK BK378); have NB386_378 := yM hg (yK BK378); replace BK378 := aM (kB (yK BK378) hb); have NB379_386 := aM ((by rw [hg]; exact Nat.ne_of_lt (IsS86.lt (show IsS86 w _ gb379 t383 t384 t385 from by repeat (first | (with_reducible first | exact HI379.out | apply IsS86.alloc | apply IsS86.drewN | apply IsS86.drew | apply IsS86.set_0 | apply IsS86.set_1 | apply IsS86.set_2 | apply IsS86.far (hne := NB379_378.out)) | exact HI379.out))) : gb379 ≠ gb386)); have NB386_379 := aM ((by rw [hg]; exact Nat.ne_of_gt (IsS86.lt (show IsS86 w _ gb379 t383 t384 t385 from by repeat (first | (with_reducible first | exact HI379.out | apply IsS86.alloc | apply IsS86.drewN | apply IsS86.drew | apply IsS86.set_0 | apply IsS86.set_1 | apply IsS86.set_2 | apply IsS86.far (hne := NB379_378.out)) | exact HI379.out))) : gb386 ≠ gb379)); replace HI379 := aM (IsS86.below (by repeat (first | (with_reducible first | exact HI379.out | apply IsS86.alloc | apply IsS86.drewN | apply IsS86.drew | apply IsS86.set_0 | apply IsS86.set_1 | apply IsS86.set_2 | apply IsS86.far (hne := NB379_378.out)) | exact HI379.out)) hb); clear hb hbox hg; have hnb21 := NB386_378.out; have hnc21 := NB378_386.out; have hnb22 := NB386_379.out; have hnc22 := NB379_386.out; obtain ⟨hcz23_0, hcz23_1, hcz23_2, hfz23_0, hfz23_1, hfz23_2⟩ := cells3 BK386.out; obtain ⟨HGz24, hgz24⟩ := HI379.out; have hcz24_0 := cellS86_0 HGz24; have hcz24_1 := cellS86_1 HGz24; have hcz24_2 := cellS86_2 HGz24; have hfz24_0 := blk_frozen HGz24 0; have hfz24_1 := blk_frozen HGz24 1; have hfz24_2 := blk_frozen HGz24 2; clear HGz24 hgz24))
  have n0_ : Aside0 ((((w20.setCell ⟨gb386, 0, none⟩ (.int .i64 t380)).setCell ⟨gb386, 1, none⟩ (.int .i64 t381)).setCell ⟨gb386, 2, none⟩ (.string t382)).heap[gb378]? = some (.cells #[.int .i64 0, .int .i64 0, .string (⟨#[]⟩ : ByteArray)] 23 (0, 0))) := ⟨yF1 BK378 NB378_386.out⟩
  have n1_ : Aside0 ((((w20.setCell ⟨gb386, 0, none⟩ (.int .i64 t380)).setCell ⟨gb386, 1, none⟩ (.int .i64 t381)).setCell ⟨gb386, 2, none⟩ (.string t382)).heap[gb386]? = some (.cells #[.int .i64 t380, .int .i64 t381, .string t382] 23 (0, 0))) := ⟨puts3 BK386.out⟩
  have n2_ : Aside0 (IsS86 w (((w20.setCell ⟨gb386, 0, none⟩ (.int .i64 t380)).setCell ⟨gb386, 1, none⟩ (.int .i64 t381)).setCell ⟨gb386, 2, none⟩ (.string t382)) gb379 t383 t384 t385) := ⟨by repeat (first | (with_reducible first | exact HI379.out | apply IsS86.alloc | apply IsS86.drewN | apply IsS86.drew | apply IsS86.set_0 | apply IsS86.set_1 | apply IsS86.set_2 | apply IsS86.far (hne := NB379_378.out) | apply IsS86.far (hne := NB379_386.out)) | exact HI379.out)⟩
  have n3_ : Aside0 (Below w.heap.size w (((w20.setCell ⟨gb386, 0, none⟩ (.int .i64 t380)).setCell ⟨gb386, 1, none⟩ (.int .i64 t381)).setCell ⟨gb386, 2, none⟩ (.string t382))) := ⟨yG3 HB (IsS86.ge HI379.out) GE378.out GE386.out⟩
  (try clear BK378)
  (try clear BK386)
  (try clear HI379)
  (try clear HB)
  generalize (((w20.setCell ⟨gb386, 0, none⟩ (.int .i64 t380)).setCell ⟨gb386, 1, none⟩ (.int .i64 t381)).setCell ⟨gb386, 2, none⟩ (.string t382)) = w25 at n0_ n1_ n2_ n3_ ⊢
  have BK378 := n0_
  have BK386 := n1_
  have HI379 := n2_
  have HB := n3_
  clear n0_ n1_ n2_ n3_
  have n0_ := aM (kD BK378.out)
  have n1_ := aM (kD BK386.out)
  have n2_ := aM (IsS86.drew HI379.out)
  have n3_ := aM (b1 HB.out)
  clear BK378
  clear BK386
  clear HI379
  clear HB
  have BK378 := n0_
  have BK386 := n1_
  have HI379 := n2_
  have HB := n3_
  clear n0_ n1_ n2_ n3_
  refine start_ (n := 8) (S := fun w' => w'.cell? ⟨gb379, 0, none⟩ = some (.string t383) ∧ w'.cell? ⟨gb379, 1, none⟩ = some (.int .i64 t384) ∧ w'.cell? ⟨gb379, 2, none⟩ = some (.int .i64 t385)) (ds := []) (tB 0 8) (by kernel_rfl) rfl rfl ⟨(blk_cell (IsS86.box HI379).out 0).trans rfl, (blk_cell (IsS86.box HI379).out 1).trans rfl, (blk_cell (IsS86.box HI379).out 2).trans rfl⟩ (fun hHeld => ?_); refine with_tabW haulageref11_ReadValue.tab4 haulageref11_ReadValue.bits4 (fun HT_ HW_ => ?_)
  generalize w25.drew = w26 at BK378 BK386 HI379 HB hHeld ⊢
  refine yP HT_ 0 17 (tB 1 8) rfl rfl ?_
  refine yP HT_ 1 18 (tB 3 8) rfl rfl ?_
  refine yP HT_ 2 19 (tB 7 8) rfl rfl ?_
  refine yP HT_ 3 20 (tB 15 8) rfl rfl ?_
  refine yT HT_ HW_ 4 21 (tB 31 8) rfl rfl hHeld ?_
  refine yI HT_ 5 (tB 63 8) rfl rfl fun K hK => ?_
  have hs27 : w26.cell? ⟨gb378, 0, none⟩ = some (.int .i64 0) := (blk_cell BK378.out 0).trans rfl
  have hfs27 := blk_frozen BK378.out 0
  have hns27_1 := NB386_378.out
  have hms27_1 := NB378_386.out
  have hs28 : w26.cell? ⟨gb378, 1, none⟩ = some (.int .i64 0) := (blk_cell BK378.out 1).trans rfl
  have hfs28 := blk_frozen BK378.out 1
  have hns28_1 := NB386_378.out
  have hms28_1 := NB378_386.out
  have hs29 : w26.cell? ⟨gb378, 2, none⟩ = some (.string (⟨#[]⟩ : ByteArray)) := (blk_cell BK378.out 2).trans rfl
  have hfs29 := blk_frozen BK378.out 2
  have hns29_1 := NB386_378.out
  have hms29_1 := NB378_386.out
  refine skip_ (w1 := ?_) (by rfl) rfl ?_ ?_
  rotate_left
  ·
   go_simp
   rfl
  refine hK.out _ _ ⟨(cF3 NB379_378.out hHeld.1), (cF3 NB379_378.out hHeld.2.1), (cF3 NB379_378.out hHeld.2.2)⟩ (fun hHeld => ?_)
  clear hK K
  refine yP HT_ 6 3 (tB 127 8) rfl rfl ?_
  refine yP HT_ 7 4 (tB 255 8) rfl rfl ?_
  refine done_ (done_of HT_.out (by kernel_rfl)) ?_
  try go_wp2
  refine bodyPost_ret (results_ctt rfl _ _ gb378 23 #[.int .i64 0, .int .i64 0, .string (⟨#[]⟩ : ByteArray)] (0, 0) _ rfl (puts3 BK378.out) Tryd.underlying23 rfl (by kernel_rfl)) rfl ?_
  exact ⟨yE, yG3 HB (IsS86.ge HI379.out) GE378.out GE386.out⟩
/-! ### haulageref05_Right: function 12 -/
def haulageref05_Right.f (k : Nat) (a0_0 : Int) (a0_1 : Int) (a0_2 : ByteArray) : Option (Bool) := if a0_0 = 0 then (if a0_1 = 0 then (some (a0_2.toList == ([] : List UInt8))) else (some false)) else (if a0_0 = 1 then ((haulageref01_Fits.f k a0_1 32).bind fun t388 => (if t388 = true then (some (a0_2.toList == ([] : List UInt8))) else (some false))) else (if a0_0 = 2 then (some (a0_2.toList == ([] : List UInt8))) else (if a0_0 = 3 then (if a0_1 = 0 then (if (a0_2.size : Int) ≤ 120 then ((haulageref03_Right.f k a0_2).bind fun t389 => (some t389)) else (some false)) else (some false)) else (if a0_0 = 4 then (if a0_1 = 0 then (some (decide ((a0_2.size : Int) ≤ 120))) else (some false)) else (some false)))))
theorem haulageref05_Right.mono : ∀ a0 a1 a2 k, LeO (haulageref05_Right.f k a0 a1 a2) (haulageref05_Right.f (k + 1) a0 a1 a2) := by
 intro a0 a1 a2 k
 unfold haulageref05_Right.f
 repeat' first | with_reducible (first | exact haulageref01_Fits.mono .. | exact haulageref03_Right.mono .. | exact LeO.refl .. | exact LeO.none .. | refine LeO.ite ?_ ?_ | refine LeO.bind ?_ (fun _ => ?_)) | exact haulageref01_Fits.mono .. | exact haulageref03_Right.mono .. | exact LeO.none .. | refine LeO.ite ?_ ?_ | refine LeO.bind ?_ (fun _ => ?_)
set_option maxHeartbeats 8000000 in
set_option maxRecDepth 100000 in
theorem haulageref05_Right.calls (k : Nat) (a0_0 : Int) (a0_1 : Int) (a0_2 : ByteArray) (r : Bool) (w : World) (h : haulageref05_Right.f k a0_0 a0_1 a0_2 = some r) :
  Calls Tryd.prog 12 #[.agg #[.int .i64 a0_0, .int .i64 a0_1, .string a0_2]] w fun e w' => e = .returned (.bool r) ∧ Below w.heap.size w w' := by
 have hu23 := Tryd.underlying23
 have HB := aM (Below.refl w.heap.size w)
 have H : (if a0_0 = 0 then (if a0_1 = 0 then (some (a0_2.toList == ([] : List UInt8))) else (some false)) else (if a0_0 = 1 then ((haulageref01_Fits.f k a0_1 32).bind fun t388 => (if t388 = true then (some (a0_2.toList == ([] : List UInt8))) else (some false))) else (if a0_0 = 2 then (some (a0_2.toList == ([] : List UInt8))) else (if a0_0 = 3 then (if a0_1 = 0 then (if (a0_2.size : Int) ≤ 120 then ((haulageref03_Right.f k a0_2).bind fun t389 => (some t389)) else (some false)) else (some false)) else (if a0_0 = 4 then (if a0_1 = 0 then (some (decide ((a0_2.size : Int) ≤ 120))) else (some false)) else (some false)))))) = some r := h
 clear h
 by_cases c2 : a0_0 = 0
 ·
  rw [if_pos c2] at H
  have c2b0 : (a0_0 == 0) = true := beq_iff_eq.mpr c2
  have c2b1 : (a0_0 != 0) = false := bne_eq_false_iff_eq.mpr c2
  clear c2
  by_cases c3 : a0_1 = 0
  ·
   rw [if_pos c3] at H
   have c3b0 : (a0_1 == 0) = true := beq_iff_eq.mpr c3
   have c3b1 : (a0_1 != 0) = false := bne_eq_false_iff_eq.mpr c3
   clear c3
   obtain rfl := Option.some.inj H
   go_enter Tryd.func12, Tryd.ntmps12
   go_wp2_with (first | ((with_reducible refine gate_dst (N := 1) rfl ?_); (try (refine gate_guard (by rfl) ?_; dsimp only)); refine yX (N := 1) (cs := #[.int .i64 a0_0, .int .i64 a0_1, .string a0_2]) (t := 23) ?_; intro gb387 hg w4 hbox hb; have BK387 := aM (hbox); have GW387 := yZ hg (yB HB); have GE387 := yZ hg (yB HB); replace HB := aM (bP (yB HB) hb); clear hb hbox hg; obtain ⟨hcz5_0, hcz5_1, hcz5_2, hfz5_0, hfz5_1, hfz5_2⟩ := cells3 BK387.out))
   go_ret
   exact ⟨yE, yG1 HB GE387.out⟩
  ·
   rw [if_neg c3] at H
   have c3b0 : (a0_1 == 0) = false := beq_eq_false_iff_ne.mpr c3
   have c3b1 : (a0_1 != 0) = true := bne_iff_ne.mpr c3
   obtain rfl := Option.some.inj H
   go_enter Tryd.func12, Tryd.ntmps12
   go_wp2_with (first | ((with_reducible refine gate_dst (N := 1) rfl ?_); (try (refine gate_guard (by rfl) ?_; dsimp only)); refine yX (N := 1) (cs := #[.int .i64 a0_0, .int .i64 a0_1, .string a0_2]) (t := 23) ?_; intro gb387 hg w6 hbox hb; have BK387 := aM (hbox); have GW387 := yZ hg (yB HB); have GE387 := yZ hg (yB HB); replace HB := aM (bP (yB HB) hb); clear hb hbox hg; obtain ⟨hcz7_0, hcz7_1, hcz7_2, hfz7_0, hfz7_1, hfz7_2⟩ := cells3 BK387.out))
   go_ret
   exact ⟨yE, yG1 HB GE387.out⟩
 ·
  rw [if_neg c2] at H
  have c2b0 : (a0_0 == 0) = false := beq_eq_false_iff_ne.mpr c2
  have c2b1 : (a0_0 != 0) = true := bne_iff_ne.mpr c2
  by_cases c8 : a0_0 = 1
  ·
   rw [if_pos c8] at H
   have c8b0 : (a0_0 == 1) = true := beq_iff_eq.mpr c8
   have c8b1 : (a0_0 != 1) = false := bne_eq_false_iff_eq.mpr c8
   clear c8
   obtain ⟨t388, A9, H⟩ := yb H
   by_cases c10 : t388 = true
   ·
    subst c10
    replace H := yt H
    obtain rfl := Option.some.inj H
    go_enter Tryd.func12, Tryd.ntmps12
    go_wp2_with (first | ((with_reducible refine gate_dst (N := 1) rfl ?_); (try (refine gate_guard (by rfl) ?_; dsimp only)); refine yX (N := 1) (cs := #[.int .i64 a0_0, .int .i64 a0_1, .string a0_2]) (t := 23) ?_; intro gb387 hg w11 hbox hb; have BK387 := aM (hbox); have GW387 := yZ hg (yB HB); have GE387 := yZ hg (yB HB); replace HB := aM (bP (yB HB) hb); clear hb hbox hg; obtain ⟨hcz12_0, hcz12_1, hcz12_2, hfz12_0, hfz12_1, hfz12_2⟩ := cells3 BK387.out) | ((with_reducible refine gate_callee (f := 40) rfl ?_); refine yC 19 Tryd.func40 #[.int .i64 a0_1, .int .i64 32] rfl ?_; (with_reducible refine (haulageref01_Fits.calls k a0_1 32 true _ A9.out).mono ?_); rintro e w' ⟨rfl, ⟨nd, rfl⟩⟩; refine ⟨_, rfl, ?_⟩))
    go_ret
    exact ⟨yE, yG1 HB GE387.out⟩
   ·
    replace c10 := Bool.eq_false_iff.mpr c10
    subst c10
    replace H := yf H
    obtain rfl := Option.some.inj H
    go_enter Tryd.func12, Tryd.ntmps12
    go_wp2_with (first | ((with_reducible refine gate_dst (N := 1) rfl ?_); (try (refine gate_guard (by rfl) ?_; dsimp only)); refine yX (N := 1) (cs := #[.int .i64 a0_0, .int .i64 a0_1, .string a0_2]) (t := 23) ?_; intro gb387 hg w13 hbox hb; have BK387 := aM (hbox); have GW387 := yZ hg (yB HB); have GE387 := yZ hg (yB HB); replace HB := aM (bP (yB HB) hb); clear hb hbox hg; obtain ⟨hcz14_0, hcz14_1, hcz14_2, hfz14_0, hfz14_1, hfz14_2⟩ := cells3 BK387.out) | ((with_reducible refine gate_callee (f := 40) rfl ?_); refine yC 19 Tryd.func40 #[.int .i64 a0_1, .int .i64 32] rfl ?_; (with_reducible refine (haulageref01_Fits.calls k a0_1 32 false _ A9.out).mono ?_); rintro e w' ⟨rfl, ⟨nd, rfl⟩⟩; refine ⟨_, rfl, ?_⟩))
    go_ret
    exact ⟨yE, yG1 HB GE387.out⟩
  ·
   rw [if_neg c8] at H
   have c8b0 : (a0_0 == 1) = false := beq_eq_false_iff_ne.mpr c8
   have c8b1 : (a0_0 != 1) = true := bne_iff_ne.mpr c8
   by_cases c15 : a0_0 = 2
   ·
    rw [if_pos c15] at H
    have c15b0 : (a0_0 == 2) = true := beq_iff_eq.mpr c15
    have c15b1 : (a0_0 != 2) = false := bne_eq_false_iff_eq.mpr c15
    clear c15
    obtain rfl := Option.some.inj H
    go_enter Tryd.func12, Tryd.ntmps12
    go_wp2_with (first | ((with_reducible refine gate_dst (N := 1) rfl ?_); (try (refine gate_guard (by rfl) ?_; dsimp only)); refine yX (N := 1) (cs := #[.int .i64 a0_0, .int .i64 a0_1, .string a0_2]) (t := 23) ?_; intro gb387 hg w16 hbox hb; have BK387 := aM (hbox); have GW387 := yZ hg (yB HB); have GE387 := yZ hg (yB HB); replace HB := aM (bP (yB HB) hb); clear hb hbox hg; obtain ⟨hcz17_0, hcz17_1, hcz17_2, hfz17_0, hfz17_1, hfz17_2⟩ := cells3 BK387.out))
    go_ret
    exact ⟨yE, yG1 HB GE387.out⟩
   ·
    rw [if_neg c15] at H
    have c15b0 : (a0_0 == 2) = false := beq_eq_false_iff_ne.mpr c15
    have c15b1 : (a0_0 != 2) = true := bne_iff_ne.mpr c15
    by_cases c18 : a0_0 = 3
    ·
     rw [if_pos c18] at H
     have c18b0 : (a0_0 == 3) = true := beq_iff_eq.mpr c18
     have c18b1 : (a0_0 != 3) = false := bne_eq_false_iff_eq.mpr c18
     clear c18
     by_cases c19 : a0_1 = 0
     ·
      rw [if_pos c19] at H
      have c19b0 : (a0_1 == 0) = true := beq_iff_eq.mpr c19
      have c19b1 : (a0_1 != 0) = false := bne_eq_false_iff_eq.mpr c19
      clear c19
      by_cases c20 : (a0_2.size : Int) ≤ 120
      ·
       rw [if_pos c20] at H
       have c20b0 : decide ((a0_2.size : Int) ≤ 120) = true := decide_eq_true c20
       have c20b1 : decide (a0_2.size ≤ 120) = true := decide_eq_true (by omega)
       clear c20
       obtain ⟨t389, A21, H⟩ := yb H
       obtain rfl := Option.some.inj H
       go_enter Tryd.func12, Tryd.ntmps12
       go_wp2_with (first | ((with_reducible refine gate_dst (N := 1) rfl ?_); (try (refine gate_guard (by rfl) ?_; dsimp only)); refine yX (N := 1) (cs := #[.int .i64 a0_0, .int .i64 a0_1, .string a0_2]) (t := 23) ?_; intro gb387 hg w22 hbox hb; have BK387 := aM (hbox); have GW387 := yZ hg (yB HB); have GE387 := yZ hg (yB HB); replace HB := aM (bP (yB HB) hb); clear hb hbox hg; obtain ⟨hcz23_0, hcz23_1, hcz23_2, hfz23_0, hfz23_1, hfz23_2⟩ := cells3 BK387.out) | (go_at_call 41; (with_reducible refine (haulageref03_Right.calls k a0_2 t389 _ A21.out).mono ?_); rintro e w24 ⟨rfl, hb⟩; replace BK387 := aM (kB (yK BK387) hb); replace HB := aM (bP (yG1 HB GE387.out) hb); (try clear hb)))
       go_ret
       exact ⟨yE, yG1 HB GE387.out⟩
      ·
       rw [if_neg c20] at H
       have c20b0 : decide ((a0_2.size : Int) ≤ 120) = false := decide_eq_false c20
       have c20b1 : decide (a0_2.size ≤ 120) = false := decide_eq_false (by omega)
       clear c20
       obtain rfl := Option.some.inj H
       go_enter Tryd.func12, Tryd.ntmps12
       go_wp2_with (first | ((with_reducible refine gate_dst (N := 1) rfl ?_); (try (refine gate_guard (by rfl) ?_; dsimp only)); refine yX (N := 1) (cs := #[.int .i64 a0_0, .int .i64 a0_1, .string a0_2]) (t := 23) ?_; intro gb387 hg w25 hbox hb; have BK387 := aM (hbox); have GW387 := yZ hg (yB HB); have GE387 := yZ hg (yB HB); replace HB := aM (bP (yB HB) hb); clear hb hbox hg; obtain ⟨hcz26_0, hcz26_1, hcz26_2, hfz26_0, hfz26_1, hfz26_2⟩ := cells3 BK387.out))
       go_ret
       exact ⟨yE, yG1 HB GE387.out⟩
     ·
      rw [if_neg c19] at H
      have c19b0 : (a0_1 == 0) = false := beq_eq_false_iff_ne.mpr c19
      have c19b1 : (a0_1 != 0) = true := bne_iff_ne.mpr c19
      obtain rfl := Option.some.inj H
      go_enter Tryd.func12, Tryd.ntmps12
      go_wp2_with (first | ((with_reducible refine gate_dst (N := 1) rfl ?_); (try (refine gate_guard (by rfl) ?_; dsimp only)); refine yX (N := 1) (cs := #[.int .i64 a0_0, .int .i64 a0_1, .string a0_2]) (t := 23) ?_; intro gb387 hg w27 hbox hb; have BK387 := aM (hbox); have GW387 := yZ hg (yB HB); have GE387 := yZ hg (yB HB); replace HB := aM (bP (yB HB) hb); clear hb hbox hg; obtain ⟨hcz28_0, hcz28_1, hcz28_2, hfz28_0, hfz28_1, hfz28_2⟩ := cells3 BK387.out))
      go_ret
      exact ⟨yE, yG1 HB GE387.out⟩
    ·
     rw [if_neg c18] at H
     have c18b0 : (a0_0 == 3) = false := beq_eq_false_iff_ne.mpr c18
     have c18b1 : (a0_0 != 3) = true := bne_iff_ne.mpr c18
     by_cases c29 : a0_0 = 4
     ·
      rw [if_pos c29] at H
      have c29b0 : (a0_0 == 4) = true := beq_iff_eq.mpr c29
      have c29b1 : (a0_0 != 4) = false := bne_eq_false_iff_eq.mpr c29
      clear c29
      by_cases c30 : a0_1 = 0
      ·
       rw [if_pos c30] at H
       have c30b0 : (a0_1 == 0) = true := beq_iff_eq.mpr c30
       have c30b1 : (a0_1 != 0) = false := bne_eq_false_iff_eq.mpr c30
       clear c30
       obtain rfl := Option.some.inj H
       go_enter Tryd.func12, Tryd.ntmps12
       go_wp2_with (first | ((with_reducible refine gate_dst (N := 1) rfl ?_); (try (refine gate_guard (by rfl) ?_; dsimp only)); refine yX (N := 1) (cs := #[.int .i64 a0_0, .int .i64 a0_1, .string a0_2]) (t := 23) ?_; intro gb387 hg w31 hbox hb; have BK387 := aM (hbox); have GW387 := yZ hg (yB HB); have GE387 := yZ hg (yB HB); replace HB := aM (bP (yB HB) hb); clear hb hbox hg; obtain ⟨hcz32_0, hcz32_1, hcz32_2, hfz32_0, hfz32_1, hfz32_2⟩ := cells3 BK387.out))
       go_ret
       exact ⟨yE, yG1 HB GE387.out⟩
      ·
       rw [if_neg c30] at H
       have c30b0 : (a0_1 == 0) = false := beq_eq_false_iff_ne.mpr c30
       have c30b1 : (a0_1 != 0) = true := bne_iff_ne.mpr c30
       obtain rfl := Option.some.inj H
       go_enter Tryd.func12, Tryd.ntmps12
       go_wp2_with (first | ((with_reducible refine gate_dst (N := 1) rfl ?_); (try (refine gate_guard (by rfl) ?_; dsimp only)); refine yX (N := 1) (cs := #[.int .i64 a0_0, .int .i64 a0_1, .string a0_2]) (t := 23) ?_; intro gb387 hg w33 hbox hb; have BK387 := aM (hbox); have GW387 := yZ hg (yB HB); have GE387 := yZ hg (yB HB); replace HB := aM (bP (yB HB) hb); clear hb hbox hg; obtain ⟨hcz34_0, hcz34_1, hcz34_2, hfz34_0, hfz34_1, hfz34_2⟩ := cells3 BK387.out))
       go_ret
       exact ⟨yE, yG1 HB GE387.out⟩
     ·
      rw [if_neg c29] at H
      have c29b0 : (a0_0 == 4) = false := beq_eq_false_iff_ne.mpr c29
      have c29b1 : (a0_0 != 4) = true := bne_iff_ne.mpr c29
      obtain rfl := Option.some.inj H
      go_enter Tryd.func12, Tryd.ntmps12
      go_wp2_with (first | ((with_reducible refine gate_dst (N := 1) rfl ?_); (try (refine gate_guard (by rfl) ?_; dsimp only)); refine yX (N := 1) (cs := #[.int .i64 a0_0, .int .i64 a0_1, .string a0_2]) (t := 23) ?_; intro gb387 hg w35 hbox hb; have BK387 := aM (hbox); have GW387 := yZ hg (yB HB); have GE387 := yZ hg (yB HB); replace HB := aM (bP (yB HB) hb); clear hb hbox hg; obtain ⟨hcz36_0, hcz36_1, hcz36_2, hfz36_0, hfz36_1, hfz36_2⟩ := cells3 BK387.out))
      go_ret
      exact ⟨yE, yG1 HB GE387.out⟩
/-! ### haulageref11_one: function 42 -/
def haulageref11_one.f (a0 : Int) : Option (ByteArray) := some (strOfNums (([(a0) % 256] : List Int)))
set_option maxHeartbeats 8000000 in
set_option maxRecDepth 100000 in
theorem haulageref11_one.calls (a0 : Int) (r : ByteArray) (w : World) (h : haulageref11_one.f a0 = some r) :
  Calls Tryd.prog 42 #[.int .i64 a0] w fun e w' => e = .returned (.string r) ∧ Below w.heap.size w w' := by
 have HB := aM (Below.refl w.heap.size w)
 have H : (some (strOfNums (([(a0) % 256] : List Int)))) = some r := h
 clear h
 obtain ⟨y390, hy390⟩ : ∃ y_ : List Int, y_ = (([(a0) % 256] : List Int)) := ⟨_, rfl⟩
 replace H : (some (strOfNums y390)) = some r := by first | (rw [hy390]; with_reducible exact H) | (have H2_ := (Option.bind_some _ _).symm.trans H; rw [hy390]; with_reducible exact H2_) | (have H2_ := (Option.bind_some _ _).symm.trans H; with_reducible exact H2_) | with_reducible exact H | (rw [hy390]; exact H) | exact H
 have Ny390 := aM hy390
 clear hy390
 obtain rfl := Option.some.inj H
 go_enter Tryd.func42, Tryd.ntmps42
 go_wp2_with (first | ((with_reducible refine gate_dst (N := 5) rfl ?_); refine Kd.R_lit (Kd.int .u8) _ 5 ?hg (N := 5) ?hd (xs := ([(a0) % 256] : List Int)) (inner := [.int .u8 ((a0) % 256)]) (ok := fun _ => True) (okp := fun _ => True) ?hr ?hp (fun _ hk => hk) trivial (Below.refl _ _) (Nat.le_refl _) (by simp) ?_; (case hd => rfl); (case hg => rfl); (case hr => first | (go_simp; done) | (go_simp; rfl)); (case hp => exact (Reps.one (show Kd.M (Kd.int .u8) _ _ _ ((a0) % 256) [.int .u8 ((a0) % 256)] from rfl) (Reps.none _ _))); intro v391 w2 ho3 hb hg_ hnew_; clear hg_ hnew_; (first | rw [← Ny390.out] at ho3 | (simp only [Int.reduceToNat] at ho3; rw [← Ny390.out] at ho3)); have HO392 := aM (Kd.R_lower ho3 (bZ (yB HB))); replace HB := aM (bP (yB HB) hb); clear hb ho3; have hcv4 := own_string (P := Tryd.prog) Tryd.underlying78 Tryd.underlying5 Tryd.underlying9 (Kd.own_of_R HO392.out)))
 go_ret
 exact ⟨yE, yB HB⟩
/-! ### haulageref01_One: function 43 -/
def haulageref01_One.f : Nat → Int → Option (ByteArray)
 | 0, _ => none
 | k + 1, a0 => if a0 < 128 then (some (strOfNums (([(a0) % 256] : List Int)))) else ((some (([(IntKind.u64.wrap ((Int.tmod a0 128) + 128)) % 256] : List Int) : List Int)).bind fun y396 => ((haulageref01_One.f k (IntKind.u64.wrap (Int.tdiv a0 128))).bind fun t399 => (if (strOfNums y396).size + t399.size ≤ 9223372036854775807 then (some ((strOfNums y396) ++ t399)) else (none))))
theorem haulageref01_One.mono_l : ∀ k, (∀ y0, LeO (haulageref01_One.f k y0) (haulageref01_One.f (k + 1) y0))
 | 0 => fun _ r h => by simp [haulageref01_One.f] at h
 | k + 1 => by
  have ih0 := haulageref01_One.mono_l k
  ·
   intro y0
   unfold haulageref01_One.f
   repeat' first
   | (with_reducible exact ih0 _)
   | (with_reducible exact LeO.refl _)
   | (with_reducible exact LeO.none _)
   | (with_reducible refine LeO.ite ?_ ?_)
   | (with_reducible refine LeO.bind ?_ (fun _ => ?_))
   | exact ih0 _
   | exact LeO.none _
   | refine LeO.ite ?_ ?_
   | refine LeO.bind ?_ (fun _ => ?_)
theorem haulageref01_One.mono : ∀ a0 k, LeO (haulageref01_One.f k a0) (haulageref01_One.f (k + 1) a0) := by
 intro a0 k
 have ih0 := haulageref01_One.mono_l k
 exact ih0 a0
def haulageref01_One.T3 : Bool × List (List Nat × List Nat) := (true, [([], []), ([0], [0]), ([1], [1]), ([2], [2]), ([3], [3]), ([4], [4]), ([], []), ([6], [6]), ([7], [7]), ([5, 8], [5, 8]), ([9, 8, 0, 1, 2, 3, 4, 5, 6, 7, 8, 9], [9])])
def haulageref01_One.B3 : List Nat := [0, 1, 3, 7, 15, 31, 0, 64, 192, 511, 1023]
theorem haulageref01_One.tab3 : rtab .any (opsOf Tryd.f43 3) = haulageref01_One.T3 := by kernel_rfl
theorem haulageref01_One.bits3 : waitsOk haulageref01_One.T3.2 haulageref01_One.B3 = true := by kernel_rfl
set_option maxHeartbeats 8000000 in
set_option maxRecDepth 100000 in
theorem haulageref01_One.calls (k : Nat) : ∀ (a0 : Int) (r : ByteArray) (w : World) (h : haulageref01_One.f k a0 = some r),
  Calls Tryd.prog 43 #[.int .u64 a0] w fun e w' => e = .returned (.string r) ∧ Below w.heap.size w w' := by
 induction k using Nat.strongRecOn with
 | _ k ih =>
 intro a0 r w h
 cases k with
 | zero => exact absurd h (by simp [haulageref01_One.f])
 | succ k =>
 simp only [haulageref01_One.f] at h
 have HB := aM (Below.refl w.heap.size w)
 have H : (if a0 < 128 then (some (strOfNums (([(a0) % 256] : List Int)))) else ((some (([(IntKind.u64.wrap ((Int.tmod a0 128) + 128)) % 256] : List Int) : List Int)).bind fun y396 => ((haulageref01_One.f k (IntKind.u64.wrap (Int.tdiv a0 128))).bind fun t399 => (if (strOfNums y396).size + t399.size ≤ 9223372036854775807 then (some ((strOfNums y396) ++ t399)) else (none))))) = some r := h
 clear h
 by_cases c2 : a0 < 128
 ·
  rw [if_pos c2] at H
  have c2b0 : decide (a0 < 128) = true := decide_eq_true c2
  clear c2
  obtain ⟨y393, hy393⟩ : ∃ y_ : List Int, y_ = (([(a0) % 256] : List Int)) := ⟨_, rfl⟩
  replace H : (some (strOfNums y393)) = some r := by first | (rw [hy393]; with_reducible exact H) | (have H2_ := (Option.bind_some _ _).symm.trans H; rw [hy393]; with_reducible exact H2_) | (have H2_ := (Option.bind_some _ _).symm.trans H; with_reducible exact H2_) | with_reducible exact H | (rw [hy393]; exact H) | exact H
  have Ny393 := aM hy393
  clear hy393
  obtain rfl := Option.some.inj H
  go_enter Tryd.func43, Tryd.ntmps43
  go_wp2_with (first | ((with_reducible refine gate_dst (N := 7) rfl ?_); refine Kd.R_lit (Kd.int .u8) _ 5 ?hg (N := 7) ?hd (xs := ([(a0) % 256] : List Int)) (inner := [.int .u8 ((a0) % 256)]) (ok := fun _ => True) (okp := fun _ => True) ?hr ?hp (fun _ hk => hk) trivial (Below.refl _ _) (Nat.le_refl _) (by simp) ?_; (case hd => rfl); (case hg => rfl); (case hr => first | (go_simp; done) | (go_simp; rfl)); (case hp => exact (Reps.one (show Kd.M (Kd.int .u8) _ _ _ ((a0) % 256) [.int .u8 ((a0) % 256)] from rfl) (Reps.none _ _))); intro v394 w3 ho4 hb hg_ hnew_; clear hg_ hnew_; (first | rw [← Ny393.out] at ho4 | (simp only [Int.reduceToNat] at ho4; rw [← Ny393.out] at ho4)); have HO395 := aM (Kd.R_lower ho4 (bZ (yB HB))); replace HB := aM (bP (yB HB) hb); clear hb ho4; have hcv5 := own_string (P := Tryd.prog) Tryd.underlying78 Tryd.underlying5 Tryd.underlying9 (Kd.own_of_R HO395.out)))
  go_ret
  exact ⟨yE, yB HB⟩
 ·
  rw [if_neg c2] at H
  have c2b0 : decide (a0 < 128) = false := decide_eq_false c2
  clear c2
  obtain ⟨y396, hy396⟩ : ∃ y_ : List Int, y_ = (([(IntKind.u64.wrap ((Int.tmod a0 128) + 128)) % 256] : List Int)) := ⟨_, rfl⟩
  replace H : ((haulageref01_One.f k (IntKind.u64.wrap (Int.tdiv a0 128))).bind fun t399 => (if (strOfNums y396).size + t399.size ≤ 9223372036854775807 then (some ((strOfNums y396) ++ t399)) else (none))) = some r := by first | (rw [hy396]; with_reducible exact H) | (have H2_ := (Option.bind_some _ _).symm.trans H; rw [hy396]; with_reducible exact H2_) | (have H2_ := (Option.bind_some _ _).symm.trans H; with_reducible exact H2_) | with_reducible exact H | (rw [hy396]; exact H) | exact H
  have Ny396 := aM hy396
  clear hy396
  obtain ⟨t399, A6, H⟩ := yb H
  by_cases c7 : (strOfNums y396).size + t399.size ≤ 9223372036854775807
  ·
   rw [if_pos c7] at H
   have c7b0 := eq_true c7
   have c7b1 : decide ((strOfNums y396).size + t399.size ≤ 9223372036854775807) = true := decide_eq_true c7
   try have c7b2 : (9223372036854775807 < (strOfNums y396).size + t399.size) = False := eq_false (Nat.not_lt.2 c7)
   obtain rfl := Option.some.inj H
   go_enter Tryd.func43, Tryd.ntmps43
   try go_wp2
   have n0_ := aM (b1 HB.out)
   clear HB
   have HB := n0_
   clear n0_
   refine start_ (n := 11) (S := fun w' => True) (ds := []) (tB 0 11) (by kernel_rfl) rfl rfl trivial (fun hHeld => ?_); refine with_tabW haulageref01_One.tab3 haulageref01_One.bits3 (fun HT_ HW_ => ?_)
   generalize w.drew = w8 at HB hHeld ⊢
   refine yP HT_ 0 9 (tB 1 11) rfl rfl ?_
   refine yP HT_ 1 10 (tB 3 11) rfl rfl ?_
   refine yP HT_ 2 11 (tB 7 11) rfl rfl ?_
   refine yP HT_ 3 12 (tB 15 11) rfl rfl ?_
   refine yP HT_ 6 15 (tB 79 11) rfl rfl ?_
   refine yP HT_ 7 16 (tB 207 11) rfl rfl ?_
   refine join_ (σ := Value) 2 #[true, true, true, true, true, true, true, true, true, false, false] (fun s_ => [(13, s_), (14, .string (strOfNums y396)), (17, .string t399)]) (fun s_ w' => (Kd.R (Kd.int .u8) 5 w' w.heap.size (fun _ => True) s_ y396) ∧ (Below w.heap.size w w')) ?_ ?_
   rotate_left
   ·
    intro hCont
    refine two_ (i := 4) (j := 8) (Ni := some 13) (Nj := some 17) (tB 223 11) (tB 463 11) rfl rfl rfl rfl (two_of HT_.out (by kernel_rfl)) (by decide) (by decide) (fun K hK => ?_) (fun K hK => ?_)
    ·
     skip
     refine Kd.R_lit_step (Kd.int .u8) _ 5 ?hg (N := 13) ?hd (xs := ([(IntKind.u64.wrap ((Int.tmod a0 128) + 128)) % 256] : List Int)) (inner := [.int .u8 ((IntKind.u64.wrap ((Int.tmod a0 128) + 128)) % 256)]) (ok := fun _ => True) (okp := fun _ => True) ?hr ?hp (fun _ hk => hk) trivial (Below.refl _ _) (Nat.le_refl _) (by simp) ?_; (case hd => rfl); (case hg => rfl); (case hr => first | (go_simp; done) | (go_simp; rfl)); (case hp => exact (Reps.one (show Kd.M (Kd.int .u8) _ _ _ ((IntKind.u64.wrap ((Int.tmod a0 128) + 128)) % 256) [.int .u8 ((IntKind.u64.wrap ((Int.tmod a0 128) + 128)) % 256)] from rfl) (Reps.none _ _)))
     intro v397 w9 ho10 hb hg_ hnew_
     clear hg_ hnew_
     (first | rw [← Ny396.out] at ho10 | (simp only [Int.reduceToNat] at ho10; rw [← Ny396.out] at ho10))
     have n0_ := aM (Kd.R_lower ho10 (bZ (yB HB)))
     have n1_ := aM (bP (yB HB) hb)
     clear HB
     have HO398 := n0_
     have HB := n1_
     clear n0_ n1_
     clear hb ho10
     refine hK.out _ _ trivial (fun hHeld => ?_)
     clear hK K
     refine norm_ (a' := ?_) ?_ ?_
     rotate_left
     ·
      show Act.put _ (some 13) _ = _
      simp only [Act.put, s1_, s2_, s3_, i64_w, i32_w]
      rfl
     refine two_ (i := 5) (j := 8) (Ni := some 14) (Nj := some 17) (tB 255 11) (tB 479 11) rfl rfl rfl rfl (two_of HT_.out (by kernel_rfl)) (by decide) (by decide) (fun K hK => ?_) (fun K hK => ?_)
     ·
      skip
      have hcv11 := own_string (P := Tryd.prog) Tryd.underlying78 Tryd.underlying5 Tryd.underlying9 (Kd.own_of_R HO398.out)
      refine value_ (w1 := ?_) (v := ?_) (by rfl) rfl ?_ ?_
      rotate_left 2
      ·
       go_simp
       constructor
       ·
        rfl
       ·
        rfl
      clear hcv11
      refine hK.out _ _ trivial (fun hHeld => ?_)
      clear hK K
      refine norm_ (a' := ?_) ?_ ?_
      rotate_left
      ·
       show Act.put _ (some 14) _ = _
       simp only [Act.put, s1_, s2_, s3_, i64_w, i32_w]
       rfl
      refine yI HT_ 8 (tB 511 11) rfl rfl fun K hK => ?_
      refine yc Tryd.func43 #[.int .u64 (IntKind.u64.wrap (Int.tdiv a0 128))] rfl rfl ?_
      with_reducible refine (ih k (by omega) (IntKind.u64.wrap (Int.tdiv a0 128)) t399 _ A6.out).mono ?_
      rintro e w12 ⟨rfl, hb⟩
      refine ⟨_, rfl, ?_⟩
      have n0_ := aM (Kd.R_below (yR HO398.out) hb)
      have n1_ := aM (bP (yB HB) hb)
      clear HO398
      clear HB
      have HO398 := n0_
      have HB := n1_
      clear n0_ n1_
      (try clear hb)
      (try clear hb2)
      (try clear hk)
      (try clear hi)
      refine hK.out _ _ trivial (fun hHeld => ?_)
      clear hK K
      refine norm_ (a' := ?_) ?_ ?_
      rotate_left
      ·
       show Act.put _ (some 17) _ = _
       simp only [Act.put, s1_, s2_, s3_, i64_w, i32_w]
       rfl
      exact norm_ (by simp only [putAll, Act.put, s1_, s2_, s3_]) (hCont (v397) _ ⟨(yR HO398.out), (yB HB)⟩)
     ·
      skip
      refine yc Tryd.func43 #[.int .u64 (IntKind.u64.wrap (Int.tdiv a0 128))] rfl rfl ?_
      with_reducible refine (ih k (by omega) (IntKind.u64.wrap (Int.tdiv a0 128)) t399 _ A6.out).mono ?_
      rintro e w11 ⟨rfl, hb⟩
      refine ⟨_, rfl, ?_⟩
      have n0_ := aM (Kd.R_below (yR HO398.out) hb)
      have n1_ := aM (bP (yB HB) hb)
      clear HO398
      clear HB
      have HO398 := n0_
      have HB := n1_
      clear n0_ n1_
      (try clear hb)
      (try clear hb2)
      (try clear hk)
      (try clear hi)
      refine hK.out _ _ trivial (fun hHeld => ?_)
      clear hK K
      refine norm_ (a' := ?_) ?_ ?_
      rotate_left
      ·
       show Act.put _ (some 17) _ = _
       simp only [Act.put, s1_, s2_, s3_, i64_w, i32_w]
       rfl
      refine yI HT_ 5 (tB 511 11) rfl rfl fun K hK => ?_
      have hcv12 := own_string (P := Tryd.prog) Tryd.underlying78 Tryd.underlying5 Tryd.underlying9 (Kd.own_of_R HO398.out)
      refine value_ (w1 := ?_) (v := ?_) (by rfl) rfl ?_ ?_
      rotate_left 2
      ·
       go_simp
       constructor
       ·
        rfl
       ·
        rfl
      clear hcv12
      refine hK.out _ _ trivial (fun hHeld => ?_)
      clear hK K
      refine norm_ (a' := ?_) ?_ ?_
      rotate_left
      ·
       show Act.put _ (some 14) _ = _
       simp only [Act.put, s1_, s2_, s3_, i64_w, i32_w]
       rfl
      exact norm_ (by simp only [putAll, Act.put, s1_, s2_, s3_]) (hCont (v397) _ ⟨(yR HO398.out), (yB HB)⟩)
    ·
     skip
     refine yc Tryd.func43 #[.int .u64 (IntKind.u64.wrap (Int.tdiv a0 128))] rfl rfl ?_
     with_reducible refine (ih k (by omega) (IntKind.u64.wrap (Int.tdiv a0 128)) t399 _ A6.out).mono ?_
     rintro e w9 ⟨rfl, hb⟩
     refine ⟨_, rfl, ?_⟩
     have n0_ := aM (bP (yB HB) hb)
     clear HB
     have HB := n0_
     clear n0_
     (try clear hb)
     (try clear hb2)
     (try clear hk)
     (try clear hi)
     refine hK.out _ _ trivial (fun hHeld => ?_)
     clear hK K
     refine norm_ (a' := ?_) ?_ ?_
     rotate_left
     ·
      show Act.put _ (some 17) _ = _
      simp only [Act.put, s1_, s2_, s3_, i64_w, i32_w]
      rfl
     refine yI HT_ 4 (tB 479 11) rfl rfl fun K hK => ?_
     refine Kd.R_lit_step (Kd.int .u8) _ 5 ?hg (N := 13) ?hd (xs := ([(IntKind.u64.wrap ((Int.tmod a0 128) + 128)) % 256] : List Int)) (inner := [.int .u8 ((IntKind.u64.wrap ((Int.tmod a0 128) + 128)) % 256)]) (ok := fun _ => True) (okp := fun _ => True) ?hr ?hp (fun _ hk => hk) trivial (Below.refl _ _) (Nat.le_refl _) (by simp) ?_; (case hd => rfl); (case hg => rfl); (case hr => first | (go_simp; done) | (go_simp; rfl)); (case hp => exact (Reps.one (show Kd.M (Kd.int .u8) _ _ _ ((IntKind.u64.wrap ((Int.tmod a0 128) + 128)) % 256) [.int .u8 ((IntKind.u64.wrap ((Int.tmod a0 128) + 128)) % 256)] from rfl) (Reps.none _ _)))
     intro v397 w10 ho11 hb hg_ hnew_
     clear hg_ hnew_
     (first | rw [← Ny396.out] at ho11 | (simp only [Int.reduceToNat] at ho11; rw [← Ny396.out] at ho11))
     have n0_ := aM (Kd.R_lower ho11 (bZ (yB HB)))
     have n1_ := aM (bP (yB HB) hb)
     clear HB
     have HO398 := n0_
     have HB := n1_
     clear n0_ n1_
     clear hb ho11
     refine hK.out _ _ trivial (fun hHeld => ?_)
     clear hK K
     refine norm_ (a' := ?_) ?_ ?_
     rotate_left
     ·
      show Act.put _ (some 13) _ = _
      simp only [Act.put, s1_, s2_, s3_, i64_w, i32_w]
      rfl
     refine yI HT_ 5 (tB 511 11) rfl rfl fun K hK => ?_
     have hcv12 := own_string (P := Tryd.prog) Tryd.underlying78 Tryd.underlying5 Tryd.underlying9 (Kd.own_of_R HO398.out)
     refine value_ (w1 := ?_) (v := ?_) (by rfl) rfl ?_ ?_
     rotate_left 2
     ·
      go_simp
      constructor
      ·
       rfl
      ·
       rfl
     clear hcv12
     refine hK.out _ _ trivial (fun hHeld => ?_)
     clear hK K
     refine norm_ (a' := ?_) ?_ ?_
     rotate_left
     ·
      show Act.put _ (some 14) _ = _
      simp only [Act.put, s1_, s2_, s3_, i64_w, i32_w]
      rfl
     exact norm_ (by simp only [putAll, Act.put, s1_, s2_, s3_]) (hCont (v397) _ ⟨(yR HO398.out), (yB HB)⟩)
   rintro v397 w13 ⟨h0_, h1_⟩
   have n0_ : Aside0 (Kd.R (Kd.int .u8) 5 w13 w.heap.size (fun _ => True) v397 y396) := ⟨h0_⟩
   have n1_ : Aside0 (Below w.heap.size w w13) := ⟨h1_⟩
   clear HB
   clear h0_ h1_
   have HO398 := n0_
   have HB := n1_
   clear n0_ n1_
   have hHeld := trivial
   refine norm_ (a' := ?_) ?_ ?_
   rotate_left
   ·
    simp only [putAll, Act.put, s1_, s2_, s3_]
    rfl
   refine yP HT_ 9 18 (tB 1023 11) rfl rfl ?_
   refine yP HT_ 10 2 (tB 2047 11) rfl rfl ?_
   refine done_ (done_of HT_.out (by kernel_rfl)) ?_
   try go_wp2
   go_ret
   exact ⟨yE, yB HB⟩
  ·
   rw [if_neg c7] at H
   exact absurd H (by simp)
/-! ### haulageref01_Zig: function 44 -/
def haulageref01_Zig.f (a0 : Int) : Option (Int) := if a0 ≥ 0 then (some (IntKind.u64.wrap (2 * (IntKind.u64.wrap (a0))))) else (some (IntKind.u64.wrap ((IntKind.u64.wrap (2 * (IntKind.u64.wrap (wrap64 ((-1) - a0))))) + 1)))
set_option maxHeartbeats 8000000 in
set_option maxRecDepth 100000 in
theorem haulageref01_Zig.calls (a0 : Int) (r : Int) (w : World) (h : haulageref01_Zig.f a0 = some r) :
  Calls Tryd.prog 44 #[.int .i64 a0] w fun e w' => e = .returned (.int .u64 r) ∧ Drawn0 w w' := by
 have H : (if a0 ≥ 0 then (some (IntKind.u64.wrap (2 * (IntKind.u64.wrap (a0))))) else (some (IntKind.u64.wrap ((IntKind.u64.wrap (2 * (IntKind.u64.wrap (wrap64 ((-1) - a0))))) + 1)))) = some r := h
 clear h
 by_cases c2 : a0 ≥ 0
 ·
  rw [if_pos c2] at H
  have c2b0 : decide (0 ≤ a0) = true := decide_eq_true c2
  clear c2
  obtain rfl := Option.some.inj H
  go_enter Tryd.func44, Tryd.ntmps44
  go_wp2
  go_ret
  exact ⟨yS, yD⟩
 ·
  rw [if_neg c2] at H
  have c2b0 : decide (0 ≤ a0) = false := decide_eq_false c2
  clear c2
  obtain rfl := Option.some.inj H
  go_enter Tryd.func44, Tryd.ntmps44
  go_wp2
  go_ret
  exact ⟨yS, yD⟩
/-! ### haulageref11_number: function 63 -/
def haulageref11_number.f (k : Nat) (a0 : Int) : Option (ByteArray) := (haulageref01_One.f k (IntKind.u64.wrap (a0))).bind fun t400 => (some t400)
theorem haulageref11_number.mono : ∀ a0 k, LeO (haulageref11_number.f k a0) (haulageref11_number.f (k + 1) a0) := by
 intro a0 k
 unfold haulageref11_number.f
 repeat' first | with_reducible (first | exact haulageref01_One.mono .. | exact LeO.refl .. | exact LeO.none .. | refine LeO.ite ?_ ?_ | refine LeO.bind ?_ (fun _ => ?_)) | exact haulageref01_One.mono .. | exact LeO.none .. | refine LeO.ite ?_ ?_ | refine LeO.bind ?_ (fun _ => ?_)
set_option maxHeartbeats 8000000 in
set_option maxRecDepth 100000 in
theorem haulageref11_number.calls (k : Nat) (a0 : Int) (r : ByteArray) (w : World) (h : haulageref11_number.f k a0 = some r) :
  Calls Tryd.prog 63 #[.int .i64 a0] w fun e w' => e = .returned (.string r) ∧ Below w.heap.size w w' := by
 have HB := aM (Below.refl w.heap.size w)
 have H : ((haulageref01_One.f k (IntKind.u64.wrap (a0))).bind fun t400 => (some t400)) = some r := h
 clear h
 obtain ⟨t400, A2, H⟩ := yb H
 obtain rfl := Option.some.inj H
 go_enter Tryd.func63, Tryd.ntmps63
 go_wp2_with (first | ((with_reducible refine gate_callee (f := 43) rfl ?_); refine yC 5 Tryd.func43 #[.int .u64 (IntKind.u64.wrap (a0))] rfl ?_; (with_reducible refine (haulageref01_One.calls k (IntKind.u64.wrap (a0)) t400 _ A2.out).mono ?_); rintro e w3 ⟨rfl, hb⟩; refine ⟨_, rfl, ?_⟩; replace HB := aM (bP (yB HB) hb); (try clear hb)))
 go_ret
 exact ⟨yE, yB HB⟩
/-! ### haulageref11_text: function 45 -/
def haulageref11_text.f (k : Nat) (a0 : ByteArray) : Option (ByteArray) := (haulageref11_number.f k (a0.size : Int)).bind fun t401 => (if t401.size + a0.size ≤ 9223372036854775807 then (some (t401 ++ a0)) else (none))
theorem haulageref11_text.mono : ∀ a0 k, LeO (haulageref11_text.f k a0) (haulageref11_text.f (k + 1) a0) := by
 intro a0 k
 unfold haulageref11_text.f
 repeat' first | with_reducible (first | exact haulageref11_number.mono .. | exact LeO.refl .. | exact LeO.none .. | refine LeO.ite ?_ ?_ | refine LeO.bind ?_ (fun _ => ?_)) | exact haulageref11_number.mono .. | exact LeO.none .. | refine LeO.ite ?_ ?_ | refine LeO.bind ?_ (fun _ => ?_)
set_option maxHeartbeats 8000000 in
set_option maxRecDepth 100000 in
theorem haulageref11_text.calls (k : Nat) (a0 : ByteArray) (r : ByteArray) (w : World) (h : haulageref11_text.f k a0 = some r) :
  Calls Tryd.prog 45 #[.string a0] w fun e w' => e = .returned (.string r) ∧ Below w.heap.size w w' := by
 have HB := aM (Below.refl w.heap.size w)
 have H : ((haulageref11_number.f k (a0.size : Int)).bind fun t401 => (if t401.size + a0.size ≤ 9223372036854775807 then (some (t401 ++ a0)) else (none))) = some r := h
 clear h
 obtain ⟨t401, A2, H⟩ := yb H
 by_cases c3 : t401.size + a0.size ≤ 9223372036854775807
 ·
  rw [if_pos c3] at H
  have c3b0 := eq_true c3
  have c3b1 : decide (t401.size + a0.size ≤ 9223372036854775807) = true := decide_eq_true c3
  try have c3b2 : (9223372036854775807 < t401.size + a0.size) = False := eq_false (Nat.not_lt.2 c3)
  obtain rfl := Option.some.inj H
  go_enter Tryd.func45, Tryd.ntmps45
  go_wp2_with (first | ((with_reducible refine gate_callee (f := 63) rfl ?_); refine yC 5 Tryd.func63 #[.int .i64 (a0.size : Int)] rfl ?_; (with_reducible refine (haulageref11_number.calls k (a0.size : Int) t401 _ A2.out).mono ?_); rintro e w4 ⟨rfl, hb⟩; refine ⟨_, rfl, ?_⟩; replace HB := aM (bP (yB HB) hb); (try clear hb)))
  go_ret
  exact ⟨yE, yB HB⟩
 ·
  rw [if_neg c3] at H
  exact absurd H (by simp)
end Go.Proofs.YtgefikclhfjcgaaDoor.HCatcodeValues

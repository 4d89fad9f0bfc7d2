/- For Go functions that RowcodeKeys reaches: Lean functions, and walks that show that each call comes to what its Lean function tells; no condition but those that each theorem states. (Made by a program of this session over the kit's print.py.) -/
import Derived.Test.YtdeophpjammbpaaDoorHRowcodeKeysx0
import Derived.Test.YtdeophpjammbpaaDoorHRowcodeKeysx14
import Derived.Test.YtdeophpjammbpaaDoorHRowcodeKeysx17
namespace Go.Proofs.YtdeophpjammbpaaDoor.HRowcodeKeys
open Go.RowKit Go.Proofs.YtdeophpjammbpaaDoorW.PrintWords Go.Proofs.YtdeophpjammbpaaDoorW.PrintLast Go.Proofs.YtdeophpjammbpaaDoorW.PrintMore
attribute [local go_sem] max2_int min2_int max_two min_two max_three min_three max_four min_four   -- for this text's walks alone
set_option linter.unusedVariables false
set_option linter.unusedSimpArgs false
attribute [local go_sem] hp_s8 hp_s16 hp_s32 hp_s64 hp_m8 hp_m16 hp_m32 hp_m64
/-! ### haulageref12_ReadKey: function 56 -/
def haulageref12_ReadKey.f (k : Nat) (a0_0 : Int) (a0_1 : ByteArray) (a0_2 : Int) (a0_3 : Int) (l0_4 : List (S54)) (a1 : ByteArray) : Option (Int × Int × ByteArray × Int) := (haulageref08_Key.f k a0_0 a0_1 a0_2 a0_3 l0_4).bind fun t341 => (if 0 ≤ t341 then (if t341 < (l0_4.length : Int) then ((haulageref12_read.f k ((rd_T54 l0_4 t341).f2.f0) ((rd_T54 l0_4 t341).f2.f1) a1).bind fun bt343 => (if bt343.2.2.2.2 = 0 then (if bt343.2.2.2.1 < (a1.size : Int) then (some (0, 0, (⟨#[]⟩ : ByteArray), 6)) else (some (bt343.1, bt343.2.1, bt343.2.2.1, bt343.2.2.2.2))) else (some (bt343.1, bt343.2.1, bt343.2.2.1, bt343.2.2.2.2)))) else (none)) else (none))
theorem haulageref12_ReadKey.mono : ∀ a0 a1 a2 a3 a4 a5 k, LeO (haulageref12_ReadKey.f k a0 a1 a2 a3 a4 a5) (haulageref12_ReadKey.f (k + 1) a0 a1 a2 a3 a4 a5) := by
 intro a0 a1 a2 a3 a4 a5 k
 unfold haulageref12_ReadKey.f
 repeat' first | with_reducible (first | exact haulageref08_Key.mono .. | exact haulageref12_read.mono .. | exact LeO.refl .. | exact LeO.none .. | refine LeO.ite ?_ ?_ | refine LeO.bind ?_ (fun _ => ?_)) | exact haulageref08_Key.mono .. | exact haulageref12_read.mono .. | exact LeO.none .. | refine LeO.ite ?_ ?_ | refine LeO.bind ?_ (fun _ => ?_)
def haulageref12_ReadKey.T1 : Bool × List (List Nat × List Nat) := (true, [([], []), ([0], [0]), ([], []), ([2], [2]), ([1, 3], [1, 3]), ([4], [4]), ([5], [5]), ([], []), ([6, 7, 3], [6, 7]), ([8], [8]), ([9], [9]), ([9], [9]), ([9], [9]), ([], []), ([13, 10, 8, 0, 1, 2, 3, 4, 5, 6, 7, 8, 9, 10, 13], [10, 13]), ([11, 14, 0, 1, 2, 3, 4, 5, 6, 7, 8, 9, 10, 11, 13, 14], [11]), ([12, 15, 0, 1, 2, 3, 4, 5, 6, 7, 8, 9, 10, 11, 12, 13, 14, 15], [12])])
def haulageref12_ReadKey.B1 : List Nat := [0, 1, 0, 4, 15, 31, 63, 0, 255, 511, 1023, 1023, 1023, 0, 10239, 28671, 65535]
theorem haulageref12_ReadKey.tab1 : rtab .any (opsOf Tryd.f56 1) = haulageref12_ReadKey.T1 := by kernel_rfl
theorem haulageref12_ReadKey.bits1 : waitsOk haulageref12_ReadKey.T1.2 haulageref12_ReadKey.B1 = true := by kernel_rfl
set_option maxHeartbeats 8000000 in
set_option maxRecDepth 100000 in
theorem haulageref12_ReadKey.calls (k : Nat) (a0_0 : Int) (a0_1 : ByteArray) (a0_2 : Int) (a0_3 : Int) (A0_4 : Option Addr) (c0_4 : Nat) (l0_4 : List (S54)) (a1 : ByteArray) (r1 : Int) (r2 : Int) (r3 : ByteArray) (r4 : Int) (w : World) (hr0_4 : Kd.C k54 w A0_4 l0_4.length l0_4) (hc0_4 : l0_4.length ≤ c0_4) (h : haulageref12_ReadKey.f k a0_0 a0_1 a0_2 a0_3 l0_4 a1 = some (r1, r2, r3, r4)) :
  Calls Tryd.prog 56 #[.agg #[.int .i64 a0_0, .string a0_1, .int .i64 a0_2, .int .i64 a0_3, .slice A0_4 l0_4.length c0_4], .string a1] w fun e w' => e = .returned (.tuple #[.agg #[.int .i64 r1, .int .i64 r2, .string r3], .int .i64 r4]) ∧ Below w.heap.size w w' := by
 have hu24 := Tryd.underlying24
 have hu52 := Tryd.underlying52
 have hu50 := Tryd.underlying50
 have HR0_4 := aM hr0_4
 have HC0_4 := aM hc0_4
 clear hr0_4 hc0_4
 have HB := aM (Below.refl w.heap.size w)
 have H : ((haulageref08_Key.f k a0_0 a0_1 a0_2 a0_3 l0_4).bind fun t341 => (if 0 ≤ t341 then (if t341 < (l0_4.length : Int) then ((haulageref12_read.f k ((rd_T54 l0_4 t341).f2.f0) ((rd_T54 l0_4 t341).f2.f1) a1).bind fun bt343 => (if bt343.2.2.2.2 = 0 then (if bt343.2.2.2.1 < (a1.size : Int) then (some (0, 0, (⟨#[]⟩ : ByteArray), 6)) else (some (bt343.1, bt343.2.1, bt343.2.2.1, bt343.2.2.2.2))) else (some (bt343.1, bt343.2.1, bt343.2.2.1, bt343.2.2.2.2)))) else (none)) else (none))) = some (r1, r2, r3, r4) := h
 clear h
 obtain ⟨t341, A3, H⟩ := yb H
 by_cases c4 : 0 ≤ t341
 ·
  rw [if_pos c4] at H
  have c4b0 : decide (0 ≤ t341) = true := decide_eq_true c4
  clear c4
  by_cases c5 : t341 < (l0_4.length : Int)
  ·
   rw [if_pos c5] at H
   have c5b0 : decide (t341 < (l0_4.length : Int)) = true := decide_eq_true c5
   clear c5
   obtain ⟨⟨t343, t344, t345, t346, t347⟩, A6, H⟩ := yb H
   try dsimp -simprocs only at H
   by_cases c7 : t347 = 0
   ·
    rw [if_pos c7] at H
    have c7b0 : (t347 == 0) = true := beq_iff_eq.mpr c7
    have c7b1 : (t347 != 0) = false := bne_eq_false_iff_eq.mpr c7
    clear c7
    by_cases c8 : t346 < (a1.size : Int)
    ·
     rw [if_pos c8] at H
     have c8b0 : decide (t346 < (a1.size : Int)) = true := decide_eq_true c8
     clear c8
     simp only [Option.some.injEq, Prod.mk.injEq] at H
     obtain ⟨rfl, rfl, rfl, rfl⟩ := H
     go_enter Tryd.func56, Tryd.ntmps56
     try go_wp2_with (first | ((with_reducible refine gate_dst (N := 2) rfl ?_); (try (refine gate_guard (by rfl) ?_; dsimp only)); refine yX (N := 2) (cs := #[.int .i64 a0_0, .string a0_1, .int .i64 a0_2, .int .i64 a0_3, .slice A0_4 l0_4.length c0_4]) (t := 24) ?_; intro gb339 hg w9 hbox hb; have BK339 := aM (hbox); have GW339 := yZ hg (yB HB); have GE339 := yZ hg (yB HB); replace HB := aM (bP (yB HB) hb); clear hb hbox hg) | ((with_reducible refine gate_dst (N := 4) rfl ?_); (try (refine gate_guard (by rfl) ?_; dsimp only)); refine yX (N := 4) (cs := #[.int .i64 0, .int .i64 0, .string (⟨#[]⟩ : ByteArray)]) (t := 52) ?_; intro gb340 hg w10 hbox hb; have BK340 := aM (hbox); have GW340 := yZ hg (yG1 HB GE339.out); have GE340 := yZ hg (yG1 HB GE339.out); replace HB := aM (bP (yG1 HB GE339.out) hb); have NB339_340 := yN hg (yK BK339); have NB340_339 := yM hg (yK BK339); replace BK339 := aM (kB (yK BK339) hb); clear hb hbox hg))
     have n0_ := aM (kD BK339.out)
     have n1_ := aM (kD BK340.out)
     have n2_ := aM (b1 HB.out)
     clear BK339
     clear BK340
     clear HB
     have BK339 := n0_
     have BK340 := n1_
     have HB := n2_
     clear n0_ n1_ n2_
     have p342 : 0 ≤ (t341 : Int) := oD yA
     have q342 : t341 < (l0_4.length : Int) := oD yA
     obtain ⟨ad342, e342, hx342_0, hx342_1, hx342_2, hx342_3, hx342_4, hx342_5, hx342_6, hx342_7⟩ := at_T54 HR0_4.out t341 p342 q342
     have hw342_7 := hx342_7
     have hw342_6 := hx342_6
     have hw342_5 := hx342_5
     have hw342_4 := hx342_4
     have hw342_3 := hx342_3
     have hw342_2 := hx342_2
     have hw342_1 := hx342_1
     have hw342_0 := hx342_0
     cases e342
     replace hx342_0 := pw_cell_below HB.out hx342_0
     replace hx342_1 := pw_cell_below HB.out hx342_1
     replace hx342_2 := pw_cell_below HB.out hx342_2
     replace hx342_3 := pw_cell_below HB.out hx342_3
     replace hx342_4 := pw_cell_below HB.out hx342_4
     replace hx342_5 := pw_cell_below HB.out hx342_5
     replace hx342_6 := pw_cell_below HB.out hx342_6
     replace hx342_7 := pw_cell_below HB.out hx342_7
     replace p342 := eq_true p342
     replace q342 := eq_true q342
     refine start_ (n := 17) (S := fun w' => w'.cell? ⟨gb339, 0, none⟩ = some (.int .i64 a0_0) ∧ w'.cell? ⟨gb339, 1, none⟩ = some (.string a0_1) ∧ w'.cell? ⟨gb339, 2, none⟩ = some (.int .i64 a0_2) ∧ w'.cell? ⟨gb339, 3, none⟩ = some (.int .i64 a0_3) ∧ w'.cell? ⟨gb339, 4, none⟩ = some (.slice (some ad342) l0_4.length c0_4) ∧ w'.cell? (ad342.add ((t341).toNat * 8)) = some (.int .i64 ((rd_T54 l0_4 t341).f0)) ∧ w'.cell? ⟨(ad342.add ((t341).toNat * 8)).block, (ad342.add ((t341).toNat * 8)).off + 1, none⟩ = some (.string ((rd_T54 l0_4 t341).f1)) ∧ w'.cell? ⟨(ad342.add ((t341).toNat * 8)).block, (ad342.add ((t341).toNat * 8)).off + 2, none⟩ = some (.int .i64 ((rd_T54 l0_4 t341).f2.f0)) ∧ w'.cell? ⟨(ad342.add ((t341).toNat * 8)).block, (ad342.add ((t341).toNat * 8)).off + 3, none⟩ = some (.int .i64 ((rd_T54 l0_4 t341).f2.f1)) ∧ w'.cell? ⟨(ad342.add ((t341).toNat * 8)).block, (ad342.add ((t341).toNat * 8)).off + 4, none⟩ = some (.bool ((rd_T54 l0_4 t341).f3)) ∧ w'.cell? ⟨(ad342.add ((t341).toNat * 8)).block, (ad342.add ((t341).toNat * 8)).off + 5, none⟩ = some (.int .i64 ((rd_T54 l0_4 t341).f4.f0)) ∧ w'.cell? ⟨(ad342.add ((t341).toNat * 8)).block, (ad342.add ((t341).toNat * 8)).off + 6, none⟩ = some (.int .i64 ((rd_T54 l0_4 t341).f4.f1)) ∧ w'.cell? ⟨(ad342.add ((t341).toNat * 8)).block, (ad342.add ((t341).toNat * 8)).off + 7, none⟩ = some (.string ((rd_T54 l0_4 t341).f4.f2))) (ds := []) (tB 0 17) (by kernel_rfl) rfl rfl ⟨yV BK339 0, yV BK339 1, yV BK339 2, yV BK339 3, yV BK339 4, (pw_cell_below HB.out hw342_0), (pw_cell_below HB.out hw342_1), (pw_cell_below HB.out hw342_2), (pw_cell_below HB.out hw342_3), (pw_cell_below HB.out hw342_4), (pw_cell_below HB.out hw342_5), (pw_cell_below HB.out hw342_6), (pw_cell_below HB.out hw342_7)⟩ (fun hHeld => ?_); refine with_tabW haulageref12_ReadKey.tab1 haulageref12_ReadKey.bits1 (fun HT_ HW_ => ?_)
     generalize w10.drew = w11 at BK339 BK340 HB hx342_0 hx342_1 hx342_2 hx342_3 hx342_4 hx342_5 hx342_6 hx342_7 hHeld ⊢
     refine yP HT_ 0 10 (tB 1 17) rfl rfl ?_
     refine yP HT_ 7 17 (tB 129 17) rfl rfl ?_
     refine yT HT_ HW_ 1 11 (tB 131 17) rfl rfl hHeld ?_
     refine yT HT_ HW_ 2 12 (tB 135 17) rfl rfl hHeld ?_
     refine join_ (σ := Nat) 3 #[true, true, true, true, true, true, true, true, true, true, true, true, true, true, false, false, false] (fun s_ => [(13, .int .i64 t341), (18, .tuple #[.agg #[.int .i64 t343, .int .i64 t344, .string t345], .int .i64 t346, .int .i64 t347]), (6, .pointer (some ⟨s_, 0, none⟩)), (14, .pointer (some (ad342.add ((t341).toNat * 8)))), (15, .pointer (some ⟨(ad342.add ((t341).toNat * 8)).block, (ad342.add ((t341).toNat * 8)).off + 2, none⟩)), (16, .agg #[.int .i64 ((rd_T54 l0_4 t341).f2.f0), .int .i64 ((rd_T54 l0_4 t341).f2.f1)]), (9, .tuple #[.agg #[.int .i64 t343, .int .i64 t344, .string t345], .int .i64 t346, .int .i64 t347]), (19, .agg #[.int .i64 t343, .int .i64 t344, .string t345]), (20, .int .i64 t346), (21, .int .i64 t347)]) (fun s_ w' => (w'.cell? ⟨gb339, 0, none⟩ = some (.int .i64 a0_0) ∧ w'.cell? ⟨gb339, 1, none⟩ = some (.string a0_1) ∧ w'.cell? ⟨gb339, 2, none⟩ = some (.int .i64 a0_2) ∧ w'.cell? ⟨gb339, 3, none⟩ = some (.int .i64 a0_3) ∧ w'.cell? ⟨gb339, 4, none⟩ = some (.slice (some ad342) l0_4.length c0_4) ∧ w'.cell? (ad342.add ((t341).toNat * 8)) = some (.int .i64 ((rd_T54 l0_4 t341).f0)) ∧ w'.cell? ⟨(ad342.add ((t341).toNat * 8)).block, (ad342.add ((t341).toNat * 8)).off + 1, none⟩ = some (.string ((rd_T54 l0_4 t341).f1)) ∧ w'.cell? ⟨(ad342.add ((t341).toNat * 8)).block, (ad342.add ((t341).toNat * 8)).off + 2, none⟩ = some (.int .i64 ((rd_T54 l0_4 t341).f2.f0)) ∧ w'.cell? ⟨(ad342.add ((t341).toNat * 8)).block, (ad342.add ((t341).toNat * 8)).off + 3, none⟩ = some (.int .i64 ((rd_T54 l0_4 t341).f2.f1)) ∧ w'.cell? ⟨(ad342.add ((t341).toNat * 8)).block, (ad342.add ((t341).toNat * 8)).off + 4, none⟩ = some (.bool ((rd_T54 l0_4 t341).f3)) ∧ w'.cell? ⟨(ad342.add ((t341).toNat * 8)).block, (ad342.add ((t341).toNat * 8)).off + 5, none⟩ = some (.int .i64 ((rd_T54 l0_4 t341).f4.f0)) ∧ w'.cell? ⟨(ad342.add ((t341).toNat * 8)).block, (ad342.add ((t341).toNat * 8)).off + 6, none⟩ = some (.int .i64 ((rd_T54 l0_4 t341).f4.f1)) ∧ w'.cell? ⟨(ad342.add ((t341).toNat * 8)).block, (ad342.add ((t341).toNat * 8)).off + 7, none⟩ = some (.string ((rd_T54 l0_4 t341).f4.f2))) ∧ (w'.heap[gb339]? = some (.cells #[.int .i64 a0_0, .string a0_1, .int .i64 a0_2, .int .i64 a0_3, .slice (some ad342) l0_4.length c0_4] 24 (0, 0))) ∧ (w'.heap[gb340]? = some (.cells #[.int .i64 0, .int .i64 0, .string (⟨#[]⟩ : ByteArray)] 52 (0, 0))) ∧ (w'.heap[s_]? = some (.cells #[.int .i64 0, .int .i64 0, .string (⟨#[]⟩ : ByteArray)] 52 (0, 0))) ∧ (w.heap.size ≤ s_) ∧ (w.heap.size ≤ s_) ∧ (gb339 ≠ s_) ∧ (s_ ≠ gb339) ∧ (gb340 ≠ s_) ∧ (s_ ≠ gb340) ∧ (Below w.heap.size w w')) ?_ ?_
     rotate_left
     ·
      intro hCont
      refine two_ (i := 3) (j := 13) (Ni := some 13) (Nj := some 6) (tB 143 17) (tB 8327 17) rfl rfl rfl rfl (two_of HT_.out (by kernel_rfl)) (by decide) (by decide) (fun K hK => ?_) (fun K hK => ?_)
      ·
       skip
       refine yc Tryd.func48 #[.agg #[.int .i64 a0_0, .string a0_1, .int .i64 a0_2, .int .i64 a0_3, .slice (some ad342) l0_4.length c0_4]] rfl rfl ?_
       with_reducible refine (haulageref08_Key.calls k a0_0 a0_1 a0_2 a0_3 _ _ l0_4 t341 _ ?side1 ?side2 A3.out).mono ?_
       (case side1 => exact yW (Kd.C_below HR0_4.out HB.out))
       (case side2 => exact HC0_4.out)
       rintro e w12 ⟨rfl, hb⟩
       refine ⟨_, rfl, ?_⟩
       have n0_ := aM (kB (yK BK339) hb)
       have n1_ := aM (kB (yK BK340) hb)
       have n2_ := aM (bP (yG2 HB GE339.out GE340.out) hb)
       clear BK339
       clear BK340
       clear HB
       have BK339 := n0_
       have BK340 := n1_
       have HB := n2_
       clear n0_ n1_ n2_
       (try clear hb)
       (try clear hb2)
       (try clear hk)
       (try clear hi)
       refine hK.out _ _ ⟨yV BK339 0, yV BK339 1, yV BK339 2, yV BK339 3, yV BK339 4, (pw_cell_below HB.out hw342_0), (pw_cell_below HB.out hw342_1), (pw_cell_below HB.out hw342_2), (pw_cell_below HB.out hw342_3), (pw_cell_below HB.out hw342_4), (pw_cell_below HB.out hw342_5), (pw_cell_below HB.out hw342_6), (pw_cell_below HB.out hw342_7)⟩ (fun hHeld => ?_)
       clear hK K
       refine norm_ (a' := ?_) ?_ ?_
       rotate_left
       ·
        show Act.put _ (some 13) _ = _
        simp only [Act.put, s1_, s2_, s3_, i64_w, i32_w]
        rfl
       refine yP HT_ 4 14 (tB 159 17) rfl rfl ?_
       refine yP HT_ 5 15 (tB 191 17) rfl rfl ?_
       refine yT HT_ HW_ 6 16 (tB 255 17) rfl rfl hHeld ?_
       refine two_ (i := 8) (j := 13) (Ni := some 18) (Nj := some 6) (tB 511 17) (tB 8447 17) rfl rfl rfl rfl (two_of HT_.out (by kernel_rfl)) (by decide) (by decide) (fun K hK => ?_) (fun K hK => ?_)
       ·
        skip
        refine yc Tryd.func87 #[.agg #[.int .i64 ((rd_T54 l0_4 t341).f2.f0), .int .i64 ((rd_T54 l0_4 t341).f2.f1)], .string a1] rfl rfl ?_
        with_reducible refine (haulageref12_read.calls k ((rd_T54 l0_4 t341).f2.f0) ((rd_T54 l0_4 t341).f2.f1) a1 t343 t344 t345 t346 t347 _ A6.out).mono ?_
        rintro e w13 ⟨rfl, hb⟩
        refine ⟨_, rfl, ?_⟩
        have n0_ := aM (kB (yK BK339) hb)
        have n1_ := aM (kB (yK BK340) hb)
        have n2_ := aM (bP (yG2 HB GE339.out GE340.out) hb)
        clear BK339
        clear BK340
        clear HB
        have BK339 := n0_
        have BK340 := n1_
        have HB := n2_
        clear n0_ n1_ n2_
        (try clear hb)
        (try clear hb2)
        (try clear hk)
        (try clear hi)
        refine hK.out _ _ ⟨yV BK339 0, yV BK339 1, yV BK339 2, yV BK339 3, yV BK339 4, (pw_cell_below HB.out hw342_0), (pw_cell_below HB.out hw342_1), (pw_cell_below HB.out hw342_2), (pw_cell_below HB.out hw342_3), (pw_cell_below HB.out hw342_4), (pw_cell_below HB.out hw342_5), (pw_cell_below HB.out hw342_6), (pw_cell_below HB.out hw342_7)⟩ (fun hHeld => ?_)
        clear hK K
        refine norm_ (a' := ?_) ?_ ?_
        rotate_left
        ·
         show Act.put _ (some 18) _ = _
         simp only [Act.put, s1_, s2_, s3_, i64_w, i32_w]
         rfl
        refine yP HT_ 9 9 (tB 1023 17) rfl rfl ?_
        refine yP HT_ 10 19 (tB 2047 17) rfl rfl ?_
        refine yP HT_ 11 20 (tB 4095 17) rfl rfl ?_
        refine yP HT_ 12 21 (tB 8191 17) rfl rfl ?_
        refine yI HT_ 13 (tB 16383 17) rfl rfl fun K hK => ?_
        refine box_step ?hg (N := 6) ?hd (cs := #[.int .i64 0, .int .i64 0, .string (⟨#[]⟩ : ByteArray)]) (t := 52) ?hr ?_; (case hd => rfl); (case hg => rfl); (case hr => first | (go_simp; done) | (go_simp; rfl))
        intro gb348 hg w14 hbox hb
        have n0_ := aM (kB (yK BK339) hb)
        have n1_ := aM (kB (yK BK340) hb)
        have n2_ := aM (bP (yG2 HB GE339.out GE340.out) hb)
        have n3_ := aM (hbox)
        have n4_ := yZ hg (yG2 HB GE339.out GE340.out)
        have n5_ := yZ hg (yG2 HB GE339.out GE340.out)
        have n6_ := yN hg (yK BK339)
        have n7_ := yM hg (yK BK339)
        have n8_ := yN hg (yK BK340)
        have n9_ := yM hg (yK BK340)
        clear BK339
        clear BK340
        clear HB
        have BK339 := n0_
        have BK340 := n1_
        have HB := n2_
        have BK348 := n3_
        have GW348 := n4_
        have GE348 := n5_
        have NB339_348 := n6_
        have NB348_339 := n7_
        have NB340_348 := n8_
        have NB348_340 := n9_
        clear n0_ n1_ n2_ n3_ n4_ n5_ n6_ n7_ n8_ n9_
        clear hb hbox hg
        refine hK.out _ _ ⟨yV BK339 0, yV BK339 1, yV BK339 2, yV BK339 3, yV BK339 4, (pw_cell_below HB.out hw342_0), (pw_cell_below HB.out hw342_1), (pw_cell_below HB.out hw342_2), (pw_cell_below HB.out hw342_3), (pw_cell_below HB.out hw342_4), (pw_cell_below HB.out hw342_5), (pw_cell_below HB.out hw342_6), (pw_cell_below HB.out hw342_7)⟩ (fun hHeld => ?_)
        clear hK K
        refine norm_ (a' := ?_) ?_ ?_
        rotate_left
        ·
         show Act.put _ (some 6) _ = _
         simp only [Act.put, s1_, s2_, s3_, i64_w, i32_w]
         rfl
        exact norm_ (by simp only [putAll, Act.put, s1_, s2_, s3_]) (hCont (gb348) _ ⟨hHeld, (yK BK339), (yK BK340), (yK BK348), GW348.out, GE348.out, NB339_348.out, NB348_339.out, NB340_348.out, NB348_340.out, (yG3 HB GE339.out GE340.out GE348.out)⟩)
       ·
        skip
        refine box_step ?hg (N := 6) ?hd (cs := #[.int .i64 0, .int .i64 0, .string (⟨#[]⟩ : ByteArray)]) (t := 52) ?hr ?_; (case hd => rfl); (case hg => rfl); (case hr => first | (go_simp; done) | (go_simp; rfl))
        intro gb348 hg w13 hbox hb
        have n0_ := aM (kB (yK BK339) hb)
        have n1_ := aM (kB (yK BK340) hb)
        have n2_ := aM (bP (yG2 HB GE339.out GE340.out) hb)
        have n3_ := aM (hbox)
        have n4_ := yZ hg (yG2 HB GE339.out GE340.out)
        have n5_ := yZ hg (yG2 HB GE339.out GE340.out)
        have n6_ := yN hg (yK BK339)
        have n7_ := yM hg (yK BK339)
        have n8_ := yN hg (yK BK340)
        have n9_ := yM hg (yK BK340)
        clear BK339
        clear BK340
        clear HB
        have BK339 := n0_
        have BK340 := n1_
        have HB := n2_
        have BK348 := n3_
        have GW348 := n4_
        have GE348 := n5_
        have NB339_348 := n6_
        have NB348_339 := n7_
        have NB340_348 := n8_
        have NB348_340 := n9_
        clear n0_ n1_ n2_ n3_ n4_ n5_ n6_ n7_ n8_ n9_
        clear hb hbox hg
        refine hK.out _ _ ⟨yV BK339 0, yV BK339 1, yV BK339 2, yV BK339 3, yV BK339 4, (pw_cell_below HB.out hw342_0), (pw_cell_below HB.out hw342_1), (pw_cell_below HB.out hw342_2), (pw_cell_below HB.out hw342_3), (pw_cell_below HB.out hw342_4), (pw_cell_below HB.out hw342_5), (pw_cell_below HB.out hw342_6), (pw_cell_below HB.out hw342_7)⟩ (fun hHeld => ?_)
        clear hK K
        refine norm_ (a' := ?_) ?_ ?_
        rotate_left
        ·
         show Act.put _ (some 6) _ = _
         simp only [Act.put, s1_, s2_, s3_, i64_w, i32_w]
         rfl
        refine yI HT_ 8 (tB 8703 17) rfl rfl fun K hK => ?_
        refine yc Tryd.func87 #[.agg #[.int .i64 ((rd_T54 l0_4 t341).f2.f0), .int .i64 ((rd_T54 l0_4 t341).f2.f1)], .string a1] rfl rfl ?_
        with_reducible refine (haulageref12_read.calls k ((rd_T54 l0_4 t341).f2.f0) ((rd_T54 l0_4 t341).f2.f1) a1 t343 t344 t345 t346 t347 _ A6.out).mono ?_
        rintro e w14 ⟨rfl, hb⟩
        refine ⟨_, rfl, ?_⟩
        have n0_ := aM (kB (yK BK339) hb)
        have n1_ := aM (kB (yK BK340) hb)
        have n2_ := aM (kB (yK BK348) hb)
        have n3_ := aM (bP (yG3 HB GE339.out GE340.out GE348.out) hb)
        clear BK339
        clear BK340
        clear BK348
        clear HB
        have BK339 := n0_
        have BK340 := n1_
        have BK348 := n2_
        have HB := n3_
        clear n0_ n1_ n2_ n3_
        (try clear hb)
        (try clear hb2)
        (try clear hk)
        (try clear hi)
        refine hK.out _ _ ⟨yV BK339 0, yV BK339 1, yV BK339 2, yV BK339 3, yV BK339 4, (pw_cell_below HB.out hw342_0), (pw_cell_below HB.out hw342_1), (pw_cell_below HB.out hw342_2), (pw_cell_below HB.out hw342_3), (pw_cell_below HB.out hw342_4), (pw_cell_below HB.out hw342_5), (pw_cell_below HB.out hw342_6), (pw_cell_below HB.out hw342_7)⟩ (fun hHeld => ?_)
        clear hK K
        refine norm_ (a' := ?_) ?_ ?_
        rotate_left
        ·
         show Act.put _ (some 18) _ = _
         simp only [Act.put, s1_, s2_, s3_, i64_w, i32_w]
         rfl
        refine yP HT_ 9 9 (tB 9215 17) rfl rfl ?_
        refine yP HT_ 10 19 (tB 10239 17) rfl rfl ?_
        refine yP HT_ 11 20 (tB 12287 17) rfl rfl ?_
        refine yP HT_ 12 21 (tB 16383 17) rfl rfl ?_
        exact norm_ (by simp only [putAll, Act.put, s1_, s2_, s3_]) (hCont (gb348) _ ⟨hHeld, (yK BK339), (yK BK340), (yK BK348), GW348.out, GE348.out, NB339_348.out, NB348_339.out, NB340_348.out, NB348_340.out, (yG3 HB GE339.out GE340.out GE348.out)⟩)
      ·
       skip
       refine box_step ?hg (N := 6) ?hd (cs := #[.int .i64 0, .int .i64 0, .string (⟨#[]⟩ : ByteArray)]) (t := 52) ?hr ?_; (case hd => rfl); (case hg => rfl); (case hr => first | (go_simp; done) | (go_simp; rfl))
       intro gb348 hg w12 hbox hb
       have n0_ := aM (kB (yK BK339) hb)
       have n1_ := aM (kB (yK BK340) hb)
       have n2_ := aM (bP (yG2 HB GE339.out GE340.out) hb)
       have n3_ := aM (hbox)
       have n4_ := yZ hg (yG2 HB GE339.out GE340.out)
       have n5_ := yZ hg (yG2 HB GE339.out GE340.out)
       have n6_ := yN hg (yK BK339)
       have n7_ := yM hg (yK BK339)
       have n8_ := yN hg (yK BK340)
       have n9_ := yM hg (yK BK340)
       clear BK339
       clear BK340
       clear HB
       have BK339 := n0_
       have BK340 := n1_
       have HB := n2_
       have BK348 := n3_
       have GW348 := n4_
       have GE348 := n5_
       have NB339_348 := n6_
       have NB348_339 := n7_
       have NB340_348 := n8_
       have NB348_340 := n9_
       clear n0_ n1_ n2_ n3_ n4_ n5_ n6_ n7_ n8_ n9_
       clear hb hbox hg
       refine hK.out _ _ ⟨yV BK339 0, yV BK339 1, yV BK339 2, yV BK339 3, yV BK339 4, (pw_cell_below HB.out hw342_0), (pw_cell_below HB.out hw342_1), (pw_cell_below HB.out hw342_2), (pw_cell_below HB.out hw342_3), (pw_cell_below HB.out hw342_4), (pw_cell_below HB.out hw342_5), (pw_cell_below HB.out hw342_6), (pw_cell_below HB.out hw342_7)⟩ (fun hHeld => ?_)
       clear hK K
       refine norm_ (a' := ?_) ?_ ?_
       rotate_left
       ·
        show Act.put _ (some 6) _ = _
        simp only [Act.put, s1_, s2_, s3_, i64_w, i32_w]
        rfl
       refine yI HT_ 3 (tB 8335 17) rfl rfl fun K hK => ?_
       refine yc Tryd.func48 #[.agg #[.int .i64 a0_0, .string a0_1, .int .i64 a0_2, .int .i64 a0_3, .slice (some ad342) l0_4.length c0_4]] rfl rfl ?_
       with_reducible refine (haulageref08_Key.calls k a0_0 a0_1 a0_2 a0_3 _ _ l0_4 t341 _ ?side1 ?side2 A3.out).mono ?_
       (case side1 => exact yW (Kd.C_below HR0_4.out HB.out))
       (case side2 => exact HC0_4.out)
       rintro e w13 ⟨rfl, hb⟩
       refine ⟨_, rfl, ?_⟩
       have n0_ := aM (kB (yK BK339) hb)
       have n1_ := aM (kB (yK BK340) hb)
       have n2_ := aM (kB (yK BK348) hb)
       have n3_ := aM (bP (yG3 HB GE339.out GE340.out GE348.out) hb)
       clear BK339
       clear BK340
       clear BK348
       clear HB
       have BK339 := n0_
       have BK340 := n1_
       have BK348 := n2_
       have HB := n3_
       clear n0_ n1_ n2_ n3_
       (try clear hb)
       (try clear hb2)
       (try clear hk)
       (try clear hi)
       refine hK.out _ _ ⟨yV BK339 0, yV BK339 1, yV BK339 2, yV BK339 3, yV BK339 4, (pw_cell_below HB.out hw342_0), (pw_cell_below HB.out hw342_1), (pw_cell_below HB.out hw342_2), (pw_cell_below HB.out hw342_3), (pw_cell_below HB.out hw342_4), (pw_cell_below HB.out hw342_5), (pw_cell_below HB.out hw342_6), (pw_cell_below HB.out hw342_7)⟩ (fun hHeld => ?_)
       clear hK K
       refine norm_ (a' := ?_) ?_ ?_
       rotate_left
       ·
        show Act.put _ (some 13) _ = _
        simp only [Act.put, s1_, s2_, s3_, i64_w, i32_w]
        rfl
       refine yP HT_ 4 14 (tB 8351 17) rfl rfl ?_
       refine yP HT_ 5 15 (tB 8383 17) rfl rfl ?_
       refine yT HT_ HW_ 6 16 (tB 8447 17) rfl rfl hHeld ?_
       refine yI HT_ 8 (tB 8703 17) rfl rfl fun K hK => ?_
       refine yc Tryd.func87 #[.agg #[.int .i64 ((rd_T54 l0_4 t341).f2.f0), .int .i64 ((rd_T54 l0_4 t341).f2.f1)], .string a1] rfl rfl ?_
       with_reducible refine (haulageref12_read.calls k ((rd_T54 l0_4 t341).f2.f0) ((rd_T54 l0_4 t341).f2.f1) a1 t343 t344 t345 t346 t347 _ A6.out).mono ?_
       rintro e w14 ⟨rfl, hb⟩
       refine ⟨_, rfl, ?_⟩
       have n0_ := aM (kB (yK BK339) hb)
       have n1_ := aM (kB (yK BK340) hb)
       have n2_ := aM (kB (yK BK348) hb)
       have n3_ := aM (bP (yG3 HB GE339.out GE340.out GE348.out) hb)
       clear BK339
       clear BK340
       clear BK348
       clear HB
       have BK339 := n0_
       have BK340 := n1_
       have BK348 := n2_
       have HB := n3_
       clear n0_ n1_ n2_ n3_
       (try clear hb)
       (try clear hb2)
       (try clear hk)
       (try clear hi)
       refine hK.out _ _ ⟨yV BK339 0, yV BK339 1, yV BK339 2, yV BK339 3, yV BK339 4, (pw_cell_below HB.out hw342_0), (pw_cell_below HB.out hw342_1), (pw_cell_below HB.out hw342_2), (pw_cell_below HB.out hw342_3), (pw_cell_below HB.out hw342_4), (pw_cell_below HB.out hw342_5), (pw_cell_below HB.out hw342_6), (pw_cell_below HB.out hw342_7)⟩ (fun hHeld => ?_)
       clear hK K
       refine norm_ (a' := ?_) ?_ ?_
       rotate_left
       ·
        show Act.put _ (some 18) _ = _
        simp only [Act.put, s1_, s2_, s3_, i64_w, i32_w]
        rfl
       refine yP HT_ 9 9 (tB 9215 17) rfl rfl ?_
       refine yP HT_ 10 19 (tB 10239 17) rfl rfl ?_
       refine yP HT_ 11 20 (tB 12287 17) rfl rfl ?_
       refine yP HT_ 12 21 (tB 16383 17) rfl rfl ?_
       exact norm_ (by simp only [putAll, Act.put, s1_, s2_, s3_]) (hCont (gb348) _ ⟨hHeld, (yK BK339), (yK BK340), (yK BK348), GW348.out, GE348.out, NB339_348.out, NB348_339.out, NB340_348.out, NB348_340.out, (yG3 HB GE339.out GE340.out GE348.out)⟩)
     rintro gb348 w15 ⟨hS_, h0_, h1_, h2_, h3_, h4_, h5_, h6_, h7_, h8_, h9_⟩
     have n0_ : Aside0 (w15.heap[gb339]? = some (.cells #[.int .i64 a0_0, .string a0_1, .int .i64 a0_2, .int .i64 a0_3, .slice (some ad342) l0_4.length c0_4] 24 (0, 0))) := ⟨h0_⟩
     have n1_ : Aside0 (w15.heap[gb340]? = some (.cells #[.int .i64 0, .int .i64 0, .string (⟨#[]⟩ : ByteArray)] 52 (0, 0))) := ⟨h1_⟩
     have n2_ : Aside0 (w15.heap[gb348]? = some (.cells #[.int .i64 0, .int .i64 0, .string (⟨#[]⟩ : ByteArray)] 52 (0, 0))) := ⟨h2_⟩
     have n3_ : Aside0 (w.heap.size ≤ gb348) := ⟨h3_⟩
     have n4_ : Aside0 (w.heap.size ≤ gb348) := ⟨h4_⟩
     have n5_ : Aside0 (gb339 ≠ gb348) := ⟨h5_⟩
     have n6_ : Aside0 (gb348 ≠ gb339) := ⟨h6_⟩
     have n7_ : Aside0 (gb340 ≠ gb348) := ⟨h7_⟩
     have n8_ : Aside0 (gb348 ≠ gb340) := ⟨h8_⟩
     have n9_ : Aside0 (Below w.heap.size w w15) := ⟨h9_⟩
     clear BK339
     clear BK340
     clear HB
     clear h0_ h1_ h2_ h3_ h4_ h5_ h6_ h7_ h8_ h9_
     have BK339 := n0_
     have BK340 := n1_
     have BK348 := n2_
     have GW348 := n3_
     have GE348 := n4_
     have NB339_348 := n5_
     have NB348_339 := n6_
     have NB340_348 := n7_
     have NB348_340 := n8_
     have HB := n9_
     clear n0_ n1_ n2_ n3_ n4_ n5_ n6_ n7_ n8_ n9_
     have hHeld : w15.cell? ⟨gb339, 0, none⟩ = some (.int .i64 a0_0) ∧ w15.cell? ⟨gb339, 1, none⟩ = some (.string a0_1) ∧ w15.cell? ⟨gb339, 2, none⟩ = some (.int .i64 a0_2) ∧ w15.cell? ⟨gb339, 3, none⟩ = some (.int .i64 a0_3) ∧ w15.cell? ⟨gb339, 4, none⟩ = some (.slice (some ad342) l0_4.length c0_4) ∧ w15.cell? (ad342.add ((t341).toNat * 8)) = some (.int .i64 ((rd_T54 l0_4 t341).f0)) ∧ w15.cell? ⟨(ad342.add ((t341).toNat * 8)).block, (ad342.add ((t341).toNat * 8)).off + 1, none⟩ = some (.string ((rd_T54 l0_4 t341).f1)) ∧ w15.cell? ⟨(ad342.add ((t341).toNat * 8)).block, (ad342.add ((t341).toNat * 8)).off + 2, none⟩ = some (.int .i64 ((rd_T54 l0_4 t341).f2.f0)) ∧ w15.cell? ⟨(ad342.add ((t341).toNat * 8)).block, (ad342.add ((t341).toNat * 8)).off + 3, none⟩ = some (.int .i64 ((rd_T54 l0_4 t341).f2.f1)) ∧ w15.cell? ⟨(ad342.add ((t341).toNat * 8)).block, (ad342.add ((t341).toNat * 8)).off + 4, none⟩ = some (.bool ((rd_T54 l0_4 t341).f3)) ∧ w15.cell? ⟨(ad342.add ((t341).toNat * 8)).block, (ad342.add ((t341).toNat * 8)).off + 5, none⟩ = some (.int .i64 ((rd_T54 l0_4 t341).f4.f0)) ∧ w15.cell? ⟨(ad342.add ((t341).toNat * 8)).block, (ad342.add ((t341).toNat * 8)).off + 6, none⟩ = some (.int .i64 ((rd_T54 l0_4 t341).f4.f1)) ∧ w15.cell? ⟨(ad342.add ((t341).toNat * 8)).block, (ad342.add ((t341).toNat * 8)).off + 7, none⟩ = some (.string ((rd_T54 l0_4 t341).f4.f2)) := hS_
     refine norm_ (a' := ?_) ?_ ?_
     rotate_left
     ·
      simp only [putAll, Act.put, s1_, s2_, s3_]
      rfl
     refine yI HT_ 14 (tB 32767 17) rfl rfl fun K hK => ?_
     have hs16 : w15.cell? ⟨gb348, 0, none⟩ = some (.int .i64 0) := (blk_cell BK348.out 0).trans rfl
     have hfs16 := blk_frozen BK348.out 0
     have hns16_0 := NB339_348.out
     have hns16_1 := NB340_348.out
     have hms16_0 := NB348_339.out
     have hms16_1 := NB348_340.out
     have hs17 : w15.cell? ⟨gb348, 1, none⟩ = some (.int .i64 0) := (blk_cell BK348.out 1).trans rfl
     have hfs17 := blk_frozen BK348.out 1
     have hns17_0 := NB339_348.out
     have hns17_1 := NB340_348.out
     have hms17_0 := NB348_339.out
     have hms17_1 := NB348_340.out
     have hs18 : w15.cell? ⟨gb348, 2, none⟩ = some (.string (⟨#[]⟩ : ByteArray)) := (blk_cell BK348.out 2).trans rfl
     have hfs18 := blk_frozen BK348.out 2
     have hns18_0 := NB339_348.out
     have hns18_1 := NB340_348.out
     have hms18_0 := NB348_339.out
     have hms18_1 := NB348_340.out
     refine skip_ (w1 := ?_) (by rfl) rfl ?_ ?_
     rotate_left
     ·
      go_simp
      rfl
     refine hK.out _ _ ⟨(cF3 NB339_348.out hHeld.1), (cF3 NB339_348.out hHeld.2.1), (cF3 NB339_348.out hHeld.2.2.1), (cF3 NB339_348.out hHeld.2.2.2.1), (cF3 NB339_348.out hHeld.2.2.2.2.1), (cF3 (yL hw342_0 GW348.out) hHeld.2.2.2.2.2.1), (cF3 (yL hw342_1 GW348.out) hHeld.2.2.2.2.2.2.1), (cF3 (yL hw342_2 GW348.out) hHeld.2.2.2.2.2.2.2.1), (cF3 (yL hw342_3 GW348.out) hHeld.2.2.2.2.2.2.2.2.1), (cF3 (yL hw342_4 GW348.out) hHeld.2.2.2.2.2.2.2.2.2.1), (cF3 (yL hw342_5 GW348.out) hHeld.2.2.2.2.2.2.2.2.2.2.1), (cF3 (yL hw342_6 GW348.out) hHeld.2.2.2.2.2.2.2.2.2.2.2.1), (cF3 (yL hw342_7 GW348.out) hHeld.2.2.2.2.2.2.2.2.2.2.2.2)⟩ (fun hHeld => ?_)
     clear hK K
     refine yP HT_ 15 7 (tB 65535 17) rfl rfl ?_
     refine yP HT_ 16 8 (tB 131071 17) rfl rfl ?_
     refine done_ (done_of HT_.out (by kernel_rfl)) ?_
     have hnb19 := NB340_339.out
     have hnc19 := NB339_340.out
     have hnb20 := NB340_348.out
     have hnc20 := NB348_340.out
     obtain ⟨hcz21_0, hcz21_1, hcz21_2, hfz21_0, hfz21_1, hfz21_2⟩ := cells3 BK340.out
     try go_wp2
     refine bodyPost_ret (results_ct rfl _ _ gb340 52 #[.int .i64 0, .int .i64 0, .string (⟨#[]⟩ : ByteArray)] (0, 0) _ rfl (by (with_reducible repeat (first | refine kN ?_ _ | refine kD ?_ | refine kA ?_ _)); refine kP (cs := #[.int .i64 0, .int .i64 0, .string (⟨#[]⟩ : ByteArray)]) ?_ 2 _ rfl; (with_reducible repeat (first | refine kN ?_ _ | refine kD ?_ | refine kA ?_ _)); refine kP (cs := #[.int .i64 0, .int .i64 0, .string (⟨#[]⟩ : ByteArray)]) ?_ 1 _ rfl; (with_reducible repeat (first | refine kN ?_ _ | refine kD ?_ | refine kA ?_ _)); refine kP (cs := #[.int .i64 0, .int .i64 0, .string (⟨#[]⟩ : ByteArray)]) ?_ 0 _ rfl; (repeat ((with_reducible repeat (first | refine kN ?_ _ | refine kD ?_ | refine kA ?_ _)); refine kF ?_ NB340_348.out _)); (with_reducible repeat (first | refine kN ?_ _ | refine kD ?_ | refine kA ?_ _)); exact BK340.out) Tryd.underlying52 rfl (by kernel_rfl)) rfl ?_
     exact ⟨yE, yG3 HB GE339.out GE340.out GE348.out⟩
    ·
     rw [if_neg c8] at H
     have c8b0 : decide (t346 < (a1.size : Int)) = false := decide_eq_false c8
     clear c8
     simp only [Option.some.injEq, Prod.mk.injEq] at H
     obtain ⟨rfl, rfl, rfl, rfl⟩ := H
     go_enter Tryd.func56, Tryd.ntmps56
     try go_wp2_with (first | ((with_reducible refine gate_dst (N := 2) rfl ?_); (try (refine gate_guard (by rfl) ?_; dsimp only)); refine yX (N := 2) (cs := #[.int .i64 a0_0, .string a0_1, .int .i64 a0_2, .int .i64 a0_3, .slice A0_4 l0_4.length c0_4]) (t := 24) ?_; intro gb339 hg w22 hbox hb; have BK339 := aM (hbox); have GW339 := yZ hg (yB HB); have GE339 := yZ hg (yB HB); replace HB := aM (bP (yB HB) hb); clear hb hbox hg) | ((with_reducible refine gate_dst (N := 4) rfl ?_); (try (refine gate_guard (by rfl) ?_; dsimp only)); refine yX (N := 4) (cs := #[.int .i64 0, .int .i64 0, .string (⟨#[]⟩ : ByteArray)]) (t := 52) ?_; intro gb340 hg w23 hbox hb; have BK340 := aM (hbox); have GW340 := yZ hg (yG1 HB GE339.out); have GE340 := yZ hg (yG1 HB GE339.out); replace HB := aM (bP (yG1 HB GE339.out) hb); have NB339_340 := yN hg (yK BK339); have NB340_339 := yM hg (yK BK339); replace BK339 := aM (kB (yK BK339) hb); clear hb hbox hg))
     have n0_ := aM (kD BK339.out)
     have n1_ := aM (kD BK340.out)
     have n2_ := aM (b1 HB.out)
     clear BK339
     clear BK340
     clear HB
     have BK339 := n0_
     have BK340 := n1_
     have HB := n2_
     clear n0_ n1_ n2_
     have p342 : 0 ≤ (t341 : Int) := oD yA
     have q342 : t341 < (l0_4.length : Int) := oD yA
     obtain ⟨ad342, e342, hx342_0, hx342_1, hx342_2, hx342_3, hx342_4, hx342_5, hx342_6, hx342_7⟩ := at_T54 HR0_4.out t341 p342 q342
     have hw342_7 := hx342_7
     have hw342_6 := hx342_6
     have hw342_5 := hx342_5
     have hw342_4 := hx342_4
     have hw342_3 := hx342_3
     have hw342_2 := hx342_2
     have hw342_1 := hx342_1
     have hw342_0 := hx342_0
     cases e342
     replace hx342_0 := pw_cell_below HB.out hx342_0
     replace hx342_1 := pw_cell_below HB.out hx342_1
     replace hx342_2 := pw_cell_below HB.out hx342_2
     replace hx342_3 := pw_cell_below HB.out hx342_3
     replace hx342_4 := pw_cell_below HB.out hx342_4
     replace hx342_5 := pw_cell_below HB.out hx342_5
     replace hx342_6 := pw_cell_below HB.out hx342_6
     replace hx342_7 := pw_cell_below HB.out hx342_7
     replace p342 := eq_true p342
     replace q342 := eq_true q342
     refine start_ (n := 17) (S := fun w' => w'.cell? ⟨gb339, 0, none⟩ = some (.int .i64 a0_0) ∧ w'.cell? ⟨gb339, 1, none⟩ = some (.string a0_1) ∧ w'.cell? ⟨gb339, 2, none⟩ = some (.int .i64 a0_2) ∧ w'.cell? ⟨gb339, 3, none⟩ = some (.int .i64 a0_3) ∧ w'.cell? ⟨gb339, 4, none⟩ = some (.slice (some ad342) l0_4.length c0_4) ∧ w'.cell? (ad342.add ((t341).toNat * 8)) = some (.int .i64 ((rd_T54 l0_4 t341).f0)) ∧ w'.cell? ⟨(ad342.add ((t341).toNat * 8)).block, (ad342.add ((t341).toNat * 8)).off + 1, none⟩ = some (.string ((rd_T54 l0_4 t341).f1)) ∧ w'.cell? ⟨(ad342.add ((t341).toNat * 8)).block, (ad342.add ((t341).toNat * 8)).off + 2, none⟩ = some (.int .i64 ((rd_T54 l0_4 t341).f2.f0)) ∧ w'.cell? ⟨(ad342.add ((t341).toNat * 8)).block, (ad342.add ((t341).toNat * 8)).off + 3, none⟩ = some (.int .i64 ((rd_T54 l0_4 t341).f2.f1)) ∧ w'.cell? ⟨(ad342.add ((t341).toNat * 8)).block, (ad342.add ((t341).toNat * 8)).off + 4, none⟩ = some (.bool ((rd_T54 l0_4 t341).f3)) ∧ w'.cell? ⟨(ad342.add ((t341).toNat * 8)).block, (ad342.add ((t341).toNat * 8)).off + 5, none⟩ = some (.int .i64 ((rd_T54 l0_4 t341).f4.f0)) ∧ w'.cell? ⟨(ad342.add ((t341).toNat * 8)).block, (ad342.add ((t341).toNat * 8)).off + 6, none⟩ = some (.int .i64 ((rd_T54 l0_4 t341).f4.f1)) ∧ w'.cell? ⟨(ad342.add ((t341).toNat * 8)).block, (ad342.add ((t341).toNat * 8)).off + 7, none⟩ = some (.string ((rd_T54 l0_4 t341).f4.f2))) (ds := []) (tB 0 17) (by kernel_rfl) rfl rfl ⟨yV BK339 0, yV BK339 1, yV BK339 2, yV BK339 3, yV BK339 4, (pw_cell_below HB.out hw342_0), (pw_cell_below HB.out hw342_1), (pw_cell_below HB.out hw342_2), (pw_cell_below HB.out hw342_3), (pw_cell_below HB.out hw342_4), (pw_cell_below HB.out hw342_5), (pw_cell_below HB.out hw342_6), (pw_cell_below HB.out hw342_7)⟩ (fun hHeld => ?_); refine with_tabW haulageref12_ReadKey.tab1 haulageref12_ReadKey.bits1 (fun HT_ HW_ => ?_)
     generalize w23.drew = w24 at BK339 BK340 HB hx342_0 hx342_1 hx342_2 hx342_3 hx342_4 hx342_5 hx342_6 hx342_7 hHeld ⊢
     refine yP HT_ 0 10 (tB 1 17) rfl rfl ?_
     refine yP HT_ 7 17 (tB 129 17) rfl rfl ?_
     refine yT HT_ HW_ 1 11 (tB 131 17) rfl rfl hHeld ?_
     refine yT HT_ HW_ 2 12 (tB 135 17) rfl rfl hHeld ?_
     refine join_ (σ := Nat) 3 #[true, true, true, true, true, true, true, true, true, true, true, true, true, true, false, false, false] (fun s_ => [(13, .int .i64 t341), (18, .tuple #[.agg #[.int .i64 t343, .int .i64 t344, .string t345], .int .i64 t346, .int .i64 t347]), (6, .pointer (some ⟨s_, 0, none⟩)), (14, .pointer (some (ad342.add ((t341).toNat * 8)))), (15, .pointer (some ⟨(ad342.add ((t341).toNat * 8)).block, (ad342.add ((t341).toNat * 8)).off + 2, none⟩)), (16, .agg #[.int .i64 ((rd_T54 l0_4 t341).f2.f0), .int .i64 ((rd_T54 l0_4 t341).f2.f1)]), (9, .tuple #[.agg #[.int .i64 t343, .int .i64 t344, .string t345], .int .i64 t346, .int .i64 t347]), (19, .agg #[.int .i64 t343, .int .i64 t344, .string t345]), (20, .int .i64 t346), (21, .int .i64 t347)]) (fun s_ w' => (w'.cell? ⟨gb339, 0, none⟩ = some (.int .i64 a0_0) ∧ w'.cell? ⟨gb339, 1, none⟩ = some (.string a0_1) ∧ w'.cell? ⟨gb339, 2, none⟩ = some (.int .i64 a0_2) ∧ w'.cell? ⟨gb339, 3, none⟩ = some (.int .i64 a0_3) ∧ w'.cell? ⟨gb339, 4, none⟩ = some (.slice (some ad342) l0_4.length c0_4) ∧ w'.cell? (ad342.add ((t341).toNat * 8)) = some (.int .i64 ((rd_T54 l0_4 t341).f0)) ∧ w'.cell? ⟨(ad342.add ((t341).toNat * 8)).block, (ad342.add ((t341).toNat * 8)).off + 1, none⟩ = some (.string ((rd_T54 l0_4 t341).f1)) ∧ w'.cell? ⟨(ad342.add ((t341).toNat * 8)).block, (ad342.add ((t341).toNat * 8)).off + 2, none⟩ = some (.int .i64 ((rd_T54 l0_4 t341).f2.f0)) ∧ w'.cell? ⟨(ad342.add ((t341).toNat * 8)).block, (ad342.add ((t341).toNat * 8)).off + 3, none⟩ = some (.int .i64 ((rd_T54 l0_4 t341).f2.f1)) ∧ w'.cell? ⟨(ad342.add ((t341).toNat * 8)).block, (ad342.add ((t341).toNat * 8)).off + 4, none⟩ = some (.bool ((rd_T54 l0_4 t341).f3)) ∧ w'.cell? ⟨(ad342.add ((t341).toNat * 8)).block, (ad342.add ((t341).toNat * 8)).off + 5, none⟩ = some (.int .i64 ((rd_T54 l0_4 t341).f4.f0)) ∧ w'.cell? ⟨(ad342.add ((t341).toNat * 8)).block, (ad342.add ((t341).toNat * 8)).off + 6, none⟩ = some (.int .i64 ((rd_T54 l0_4 t341).f4.f1)) ∧ w'.cell? ⟨(ad342.add ((t341).toNat * 8)).block, (ad342.add ((t341).toNat * 8)).off + 7, none⟩ = some (.string ((rd_T54 l0_4 t341).f4.f2))) ∧ (w'.heap[gb339]? = some (.cells #[.int .i64 a0_0, .string a0_1, .int .i64 a0_2, .int .i64 a0_3, .slice (some ad342) l0_4.length c0_4] 24 (0, 0))) ∧ (w'.heap[gb340]? = some (.cells #[.int .i64 0, .int .i64 0, .string (⟨#[]⟩ : ByteArray)] 52 (0, 0))) ∧ (w'.heap[s_]? = some (.cells #[.int .i64 0, .int .i64 0, .string (⟨#[]⟩ : ByteArray)] 52 (0, 0))) ∧ (w.heap.size ≤ s_) ∧ (w.heap.size ≤ s_) ∧ (gb339 ≠ s_) ∧ (s_ ≠ gb339) ∧ (gb340 ≠ s_) ∧ (s_ ≠ gb340) ∧ (Below w.heap.size w w')) ?_ ?_
     rotate_left
     ·
      intro hCont
      refine two_ (i := 3) (j := 13) (Ni := some 13) (Nj := some 6) (tB 143 17) (tB 8327 17) rfl rfl rfl rfl (two_of HT_.out (by kernel_rfl)) (by decide) (by decide) (fun K hK => ?_) (fun K hK => ?_)
      ·
       skip
       refine yc Tryd.func48 #[.agg #[.int .i64 a0_0, .string a0_1, .int .i64 a0_2, .int .i64 a0_3, .slice (some ad342) l0_4.length c0_4]] rfl rfl ?_
       with_reducible refine (haulageref08_Key.calls k a0_0 a0_1 a0_2 a0_3 _ _ l0_4 t341 _ ?side1 ?side2 A3.out).mono ?_
       (case side1 => exact yW (Kd.C_below HR0_4.out HB.out))
       (case side2 => exact HC0_4.out)
       rintro e w25 ⟨rfl, hb⟩
       refine ⟨_, rfl, ?_⟩
       have n0_ := aM (kB (yK BK339) hb)
       have n1_ := aM (kB (yK BK340) hb)
       have n2_ := aM (bP (yG2 HB GE339.out GE340.out) hb)
       clear BK339
       clear BK340
       clear HB
       have BK339 := n0_
       have BK340 := n1_
       have HB := n2_
       clear n0_ n1_ n2_
       (try clear hb)
       (try clear hb2)
       (try clear hk)
       (try clear hi)
       refine hK.out _ _ ⟨yV BK339 0, yV BK339 1, yV BK339 2, yV BK339 3, yV BK339 4, (pw_cell_below HB.out hw342_0), (pw_cell_below HB.out hw342_1), (pw_cell_below HB.out hw342_2), (pw_cell_below HB.out hw342_3), (pw_cell_below HB.out hw342_4), (pw_cell_below HB.out hw342_5), (pw_cell_below HB.out hw342_6), (pw_cell_below HB.out hw342_7)⟩ (fun hHeld => ?_)
       clear hK K
       refine norm_ (a' := ?_) ?_ ?_
       rotate_left
       ·
        show Act.put _ (some 13) _ = _
        simp only [Act.put, s1_, s2_, s3_, i64_w, i32_w]
        rfl
       refine yP HT_ 4 14 (tB 159 17) rfl rfl ?_
       refine yP HT_ 5 15 (tB 191 17) rfl rfl ?_
       refine yT HT_ HW_ 6 16 (tB 255 17) rfl rfl hHeld ?_
       refine two_ (i := 8) (j := 13) (Ni := some 18) (Nj := some 6) (tB 511 17) (tB 8447 17) rfl rfl rfl rfl (two_of HT_.out (by kernel_rfl)) (by decide) (by decide) (fun K hK => ?_) (fun K hK => ?_)
       ·
        skip
        refine yc Tryd.func87 #[.agg #[.int .i64 ((rd_T54 l0_4 t341).f2.f0), .int .i64 ((rd_T54 l0_4 t341).f2.f1)], .string a1] rfl rfl ?_
        with_reducible refine (haulageref12_read.calls k ((rd_T54 l0_4 t341).f2.f0) ((rd_T54 l0_4 t341).f2.f1) a1 t343 t344 t345 t346 t347 _ A6.out).mono ?_
        rintro e w26 ⟨rfl, hb⟩
        refine ⟨_, rfl, ?_⟩
        have n0_ := aM (kB (yK BK339) hb)
        have n1_ := aM (kB (yK BK340) hb)
        have n2_ := aM (bP (yG2 HB GE339.out GE340.out) hb)
        clear BK339
        clear BK340
        clear HB
        have BK339 := n0_
        have BK340 := n1_
        have HB := n2_
        clear n0_ n1_ n2_
        (try clear hb)
        (try clear hb2)
        (try clear hk)
        (try clear hi)
        refine hK.out _ _ ⟨yV BK339 0, yV BK339 1, yV BK339 2, yV BK339 3, yV BK339 4, (pw_cell_below HB.out hw342_0), (pw_cell_below HB.out hw342_1), (pw_cell_below HB.out hw342_2), (pw_cell_below HB.out hw342_3), (pw_cell_below HB.out hw342_4), (pw_cell_below HB.out hw342_5), (pw_cell_below HB.out hw342_6), (pw_cell_below HB.out hw342_7)⟩ (fun hHeld => ?_)
        clear hK K
        refine norm_ (a' := ?_) ?_ ?_
        rotate_left
        ·
         show Act.put _ (some 18) _ = _
         simp only [Act.put, s1_, s2_, s3_, i64_w, i32_w]
         rfl
        refine yP HT_ 9 9 (tB 1023 17) rfl rfl ?_
        refine yP HT_ 10 19 (tB 2047 17) rfl rfl ?_
        refine yP HT_ 11 20 (tB 4095 17) rfl rfl ?_
        refine yP HT_ 12 21 (tB 8191 17) rfl rfl ?_
        refine yI HT_ 13 (tB 16383 17) rfl rfl fun K hK => ?_
        refine box_step ?hg (N := 6) ?hd (cs := #[.int .i64 0, .int .i64 0, .string (⟨#[]⟩ : ByteArray)]) (t := 52) ?hr ?_; (case hd => rfl); (case hg => rfl); (case hr => first | (go_simp; done) | (go_simp; rfl))
        intro gb348 hg w27 hbox hb
        have n0_ := aM (kB (yK BK339) hb)
        have n1_ := aM (kB (yK BK340) hb)
        have n2_ := aM (bP (yG2 HB GE339.out GE340.out) hb)
        have n3_ := aM (hbox)
        have n4_ := yZ hg (yG2 HB GE339.out GE340.out)
        have n5_ := yZ hg (yG2 HB GE339.out GE340.out)
        have n6_ := yN hg (yK BK339)
        have n7_ := yM hg (yK BK339)
        have n8_ := yN hg (yK BK340)
        have n9_ := yM hg (yK BK340)
        clear BK339
        clear BK340
        clear HB
        have BK339 := n0_
        have BK340 := n1_
        have HB := n2_
        have BK348 := n3_
        have GW348 := n4_
        have GE348 := n5_
        have NB339_348 := n6_
        have NB348_339 := n7_
        have NB340_348 := n8_
        have NB348_340 := n9_
        clear n0_ n1_ n2_ n3_ n4_ n5_ n6_ n7_ n8_ n9_
        clear hb hbox hg
        refine hK.out _ _ ⟨yV BK339 0, yV BK339 1, yV BK339 2, yV BK339 3, yV BK339 4, (pw_cell_below HB.out hw342_0), (pw_cell_below HB.out hw342_1), (pw_cell_below HB.out hw342_2), (pw_cell_below HB.out hw342_3), (pw_cell_below HB.out hw342_4), (pw_cell_below HB.out hw342_5), (pw_cell_below HB.out hw342_6), (pw_cell_below HB.out hw342_7)⟩ (fun hHeld => ?_)
        clear hK K
        refine norm_ (a' := ?_) ?_ ?_
        rotate_left
        ·
         show Act.put _ (some 6) _ = _
         simp only [Act.put, s1_, s2_, s3_, i64_w, i32_w]
         rfl
        exact norm_ (by simp only [putAll, Act.put, s1_, s2_, s3_]) (hCont (gb348) _ ⟨hHeld, (yK BK339), (yK BK340), (yK BK348), GW348.out, GE348.out, NB339_348.out, NB348_339.out, NB340_348.out, NB348_340.out, (yG3 HB GE339.out GE340.out GE348.out)⟩)
       ·
        skip
        refine box_step ?hg (N := 6) ?hd (cs := #[.int .i64 0, .int .i64 0, .string (⟨#[]⟩ : ByteArray)]) (t := 52) ?hr ?_; (case hd => rfl); (case hg => rfl); (case hr => first | (go_simp; done) | (go_simp; rfl))
        intro gb348 hg w26 hbox hb
        have n0_ := aM (kB (yK BK339) hb)
        have n1_ := aM (kB (yK BK340) hb)
        have n2_ := aM (bP (yG2 HB GE339.out GE340.out) hb)
        have n3_ := aM (hbox)
        have n4_ := yZ hg (yG2 HB GE339.out GE340.out)
        have n5_ := yZ hg (yG2 HB GE339.out GE340.out)
        have n6_ := yN hg (yK BK339)
        have n7_ := yM hg (yK BK339)
        have n8_ := yN hg (yK BK340)
        have n9_ := yM hg (yK BK340)
        clear BK339
        clear BK340
        clear HB
        have BK339 := n0_
        have BK340 := n1_
        have HB := n2_
        have BK348 := n3_
        have GW348 := n4_
        have GE348 := n5_
        have NB339_348 := n6_
        have NB348_339 := n7_
        have NB340_348 := n8_
        have NB348_340 := n9_
        clear n0_ n1_ n2_ n3_ n4_ n5_ n6_ n7_ n8_ n9_
        clear hb hbox hg
        refine hK.out _ _ ⟨yV BK339 0, yV BK339 1, yV BK339 2, yV BK339 3, yV BK339 4, (pw_cell_below HB.out hw342_0), (pw_cell_below HB.out hw342_1), (pw_cell_below HB.out hw342_2), (pw_cell_below HB.out hw342_3), (pw_cell_below HB.out hw342_4), (pw_cell_below HB.out hw342_5), (pw_cell_below HB.out hw342_6), (pw_cell_below HB.out hw342_7)⟩ (fun hHeld => ?_)
        clear hK K
        refine norm_ (a' := ?_) ?_ ?_
        rotate_left
        ·
         show Act.put _ (some 6) _ = _
         simp only [Act.put, s1_, s2_, s3_, i64_w, i32_w]
         rfl
        refine yI HT_ 8 (tB 8703 17) rfl rfl fun K hK => ?_
        refine yc Tryd.func87 #[.agg #[.int .i64 ((rd_T54 l0_4 t341).f2.f0), .int .i64 ((rd_T54 l0_4 t341).f2.f1)], .string a1] rfl rfl ?_
        with_reducible refine (haulageref12_read.calls k ((rd_T54 l0_4 t341).f2.f0) ((rd_T54 l0_4 t341).f2.f1) a1 t343 t344 t345 t346 t347 _ A6.out).mono ?_
        rintro e w27 ⟨rfl, hb⟩
        refine ⟨_, rfl, ?_⟩
        have n0_ := aM (kB (yK BK339) hb)
        have n1_ := aM (kB (yK BK340) hb)
        have n2_ := aM (kB (yK BK348) hb)
        have n3_ := aM (bP (yG3 HB GE339.out GE340.out GE348.out) hb)
        clear BK339
        clear BK340
        clear BK348
        clear HB
        have BK339 := n0_
        have BK340 := n1_
        have BK348 := n2_
        have HB := n3_
        clear n0_ n1_ n2_ n3_
        (try clear hb)
        (try clear hb2)
        (try clear hk)
        (try clear hi)
        refine hK.out _ _ ⟨yV BK339 0, yV BK339 1, yV BK339 2, yV BK339 3, yV BK339 4, (pw_cell_below HB.out hw342_0), (pw_cell_below HB.out hw342_1), (pw_cell_below HB.out hw342_2), (pw_cell_below HB.out hw342_3), (pw_cell_below HB.out hw342_4), (pw_cell_below HB.out hw342_5), (pw_cell_below HB.out hw342_6), (pw_cell_below HB.out hw342_7)⟩ (fun hHeld => ?_)
        clear hK K
        refine norm_ (a' := ?_) ?_ ?_
        rotate_left
        ·
         show Act.put _ (some 18) _ = _
         simp only [Act.put, s1_, s2_, s3_, i64_w, i32_w]
         rfl
        refine yP HT_ 9 9 (tB 9215 17) rfl rfl ?_
        refine yP HT_ 10 19 (tB 10239 17) rfl rfl ?_
        refine yP HT_ 11 20 (tB 12287 17) rfl rfl ?_
        refine yP HT_ 12 21 (tB 16383 17) rfl rfl ?_
        exact norm_ (by simp only [putAll, Act.put, s1_, s2_, s3_]) (hCont (gb348) _ ⟨hHeld, (yK BK339), (yK BK340), (yK BK348), GW348.out, GE348.out, NB339_348.out, NB348_339.out, NB340_348.out, NB348_340.out, (yG3 HB GE339.out GE340.out GE348.out)⟩)
      ·
       skip
       refine box_step ?hg (N := 6) ?hd (cs := #[.int .i64 0, .int .i64 0, .string (⟨#[]⟩ : ByteArray)]) (t := 52) ?hr ?_; (case hd => rfl); (case hg => rfl); (case hr => first | (go_simp; done) | (go_simp; rfl))
       intro gb348 hg w25 hbox hb
       have n0_ := aM (kB (yK BK339) hb)
       have n1_ := aM (kB (yK BK340) hb)
       have n2_ := aM (bP (yG2 HB GE339.out GE340.out) hb)
       have n3_ := aM (hbox)
       have n4_ := yZ hg (yG2 HB GE339.out GE340.out)
       have n5_ := yZ hg (yG2 HB GE339.out GE340.out)
       have n6_ := yN hg (yK BK339)
       have n7_ := yM hg (yK BK339)
       have n8_ := yN hg (yK BK340)
       have n9_ := yM hg (yK BK340)
       clear BK339
       clear BK340
       clear HB
       have BK339 := n0_
       have BK340 := n1_
       have HB := n2_
       have BK348 := n3_
       have GW348 := n4_
       have GE348 := n5_
       have NB339_348 := n6_
       have NB348_339 := n7_
       have NB340_348 := n8_
       have NB348_340 := n9_
       clear n0_ n1_ n2_ n3_ n4_ n5_ n6_ n7_ n8_ n9_
       clear hb hbox hg
       refine hK.out _ _ ⟨yV BK339 0, yV BK339 1, yV BK339 2, yV BK339 3, yV BK339 4, (pw_cell_below HB.out hw342_0), (pw_cell_below HB.out hw342_1), (pw_cell_below HB.out hw342_2), (pw_cell_below HB.out hw342_3), (pw_cell_below HB.out hw342_4), (pw_cell_below HB.out hw342_5), (pw_cell_below HB.out hw342_6), (pw_cell_below HB.out hw342_7)⟩ (fun hHeld => ?_)
       clear hK K
       refine norm_ (a' := ?_) ?_ ?_
       rotate_left
       ·
        show Act.put _ (some 6) _ = _
        simp only [Act.put, s1_, s2_, s3_, i64_w, i32_w]
        rfl
       refine yI HT_ 3 (tB 8335 17) rfl rfl fun K hK => ?_
       refine yc Tryd.func48 #[.agg #[.int .i64 a0_0, .string a0_1, .int .i64 a0_2, .int .i64 a0_3, .slice (some ad342) l0_4.length c0_4]] rfl rfl ?_
       with_reducible refine (haulageref08_Key.calls k a0_0 a0_1 a0_2 a0_3 _ _ l0_4 t341 _ ?side1 ?side2 A3.out).mono ?_
       (case side1 => exact yW (Kd.C_below HR0_4.out HB.out))
       (case side2 => exact HC0_4.out)
       rintro e w26 ⟨rfl, hb⟩
       refine ⟨_, rfl, ?_⟩
       have n0_ := aM (kB (yK BK339) hb)
       have n1_ := aM (kB (yK BK340) hb)
       have n2_ := aM (kB (yK BK348) hb)
       have n3_ := aM (bP (yG3 HB GE339.out GE340.out GE348.out) hb)
       clear BK339
       clear BK340
       clear BK348
       clear HB
       have BK339 := n0_
       have BK340 := n1_
       have BK348 := n2_
       have HB := n3_
       clear n0_ n1_ n2_ n3_
       (try clear hb)
       (try clear hb2)
       (try clear hk)
       (try clear hi)
       refine hK.out _ _ ⟨yV BK339 0, yV BK339 1, yV BK339 2, yV BK339 3, yV BK339 4, (pw_cell_below HB.out hw342_0), (pw_cell_below HB.out hw342_1), (pw_cell_below HB.out hw342_2), (pw_cell_below HB.out hw342_3), (pw_cell_below HB.out hw342_4), (pw_cell_below HB.out hw342_5), (pw_cell_below HB.out hw342_6), (pw_cell_below HB.out hw342_7)⟩ (fun hHeld => ?_)
       clear hK K
       refine norm_ (a' := ?_) ?_ ?_
       rotate_left
       ·
        show Act.put _ (some 13) _ = _
        simp only [Act.put, s1_, s2_, s3_, i64_w, i32_w]
        rfl
       refine yP HT_ 4 14 (tB 8351 17) rfl rfl ?_
       refine yP HT_ 5 15 (tB 8383 17) rfl rfl ?_
       refine yT HT_ HW_ 6 16 (tB 8447 17) rfl rfl hHeld ?_
       refine yI HT_ 8 (tB 8703 17) rfl rfl fun K hK => ?_
       refine yc Tryd.func87 #[.agg #[.int .i64 ((rd_T54 l0_4 t341).f2.f0), .int .i64 ((rd_T54 l0_4 t341).f2.f1)], .string a1] rfl rfl ?_
       with_reducible refine (haulageref12_read.calls k ((rd_T54 l0_4 t341).f2.f0) ((rd_T54 l0_4 t341).f2.f1) a1 t343 t344 t345 t346 t347 _ A6.out).mono ?_
       rintro e w27 ⟨rfl, hb⟩
       refine ⟨_, rfl, ?_⟩
       have n0_ := aM (kB (yK BK339) hb)
       have n1_ := aM (kB (yK BK340) hb)
       have n2_ := aM (kB (yK BK348) hb)
       have n3_ := aM (bP (yG3 HB GE339.out GE340.out GE348.out) hb)
       clear BK339
       clear BK340
       clear BK348
       clear HB
       have BK339 := n0_
       have BK340 := n1_
       have BK348 := n2_
       have HB := n3_
       clear n0_ n1_ n2_ n3_
       (try clear hb)
       (try clear hb2)
       (try clear hk)
       (try clear hi)
       refine hK.out _ _ ⟨yV BK339 0, yV BK339 1, yV BK339 2, yV BK339 3, yV BK339 4, (pw_cell_below HB.out hw342_0), (pw_cell_below HB.out hw342_1), (pw_cell_below HB.out hw342_2), (pw_cell_below HB.out hw342_3), (pw_cell_below HB.out hw342_4), (pw_cell_below HB.out hw342_5), (pw_cell_below HB.out hw342_6), (pw_cell_below HB.out hw342_7)⟩ (fun hHeld => ?_)
       clear hK K
       refine norm_ (a' := ?_) ?_ ?_
       rotate_left
       ·
        show Act.put _ (some 18) _ = _
        simp only [Act.put, s1_, s2_, s3_, i64_w, i32_w]
        rfl
       refine yP HT_ 9 9 (tB 9215 17) rfl rfl ?_
       refine yP HT_ 10 19 (tB 10239 17) rfl rfl ?_
       refine yP HT_ 11 20 (tB 12287 17) rfl rfl ?_
       refine yP HT_ 12 21 (tB 16383 17) rfl rfl ?_
       exact norm_ (by simp only [putAll, Act.put, s1_, s2_, s3_]) (hCont (gb348) _ ⟨hHeld, (yK BK339), (yK BK340), (yK BK348), GW348.out, GE348.out, NB339_348.out, NB348_339.out, NB340_348.out, NB348_340.out, (yG3 HB GE339.out GE340.out GE348.out)⟩)
     rintro gb348 w28 ⟨hS_, h0_, h1_, h2_, h3_, h4_, h5_, h6_, h7_, h8_, h9_⟩
     have n0_ : Aside0 (w28.heap[gb339]? = some (.cells #[.int .i64 a0_0, .string a0_1, .int .i64 a0_2, .int .i64 a0_3, .slice (some ad342) l0_4.length c0_4] 24 (0, 0))) := ⟨h0_⟩
     have n1_ : Aside0 (w28.heap[gb340]? = some (.cells #[.int .i64 0, .int .i64 0, .string (⟨#[]⟩ : ByteArray)] 52 (0, 0))) := ⟨h1_⟩
     have n2_ : Aside0 (w28.heap[gb348]? = some (.cells #[.int .i64 0, .int .i64 0, .string (⟨#[]⟩ : ByteArray)] 52 (0, 0))) := ⟨h2_⟩
     have n3_ : Aside0 (w.heap.size ≤ gb348) := ⟨h3_⟩
     have n4_ : Aside0 (w.heap.size ≤ gb348) := ⟨h4_⟩
     have n5_ : Aside0 (gb339 ≠ gb348) := ⟨h5_⟩
     have n6_ : Aside0 (gb348 ≠ gb339) := ⟨h6_⟩
     have n7_ : Aside0 (gb340 ≠ gb348) := ⟨h7_⟩
     have n8_ : Aside0 (gb348 ≠ gb340) := ⟨h8_⟩
     have n9_ : Aside0 (Below w.heap.size w w28) := ⟨h9_⟩
     clear BK339
     clear BK340
     clear HB
     clear h0_ h1_ h2_ h3_ h4_ h5_ h6_ h7_ h8_ h9_
     have BK339 := n0_
     have BK340 := n1_
     have BK348 := n2_
     have GW348 := n3_
     have GE348 := n4_
     have NB339_348 := n5_
     have NB348_339 := n6_
     have NB340_348 := n7_
     have NB348_340 := n8_
     have HB := n9_
     clear n0_ n1_ n2_ n3_ n4_ n5_ n6_ n7_ n8_ n9_
     have hHeld : w28.cell? ⟨gb339, 0, none⟩ = some (.int .i64 a0_0) ∧ w28.cell? ⟨gb339, 1, none⟩ = some (.string a0_1) ∧ w28.cell? ⟨gb339, 2, none⟩ = some (.int .i64 a0_2) ∧ w28.cell? ⟨gb339, 3, none⟩ = some (.int .i64 a0_3) ∧ w28.cell? ⟨gb339, 4, none⟩ = some (.slice (some ad342) l0_4.length c0_4) ∧ w28.cell? (ad342.add ((t341).toNat * 8)) = some (.int .i64 ((rd_T54 l0_4 t341).f0)) ∧ w28.cell? ⟨(ad342.add ((t341).toNat * 8)).block, (ad342.add ((t341).toNat * 8)).off + 1, none⟩ = some (.string ((rd_T54 l0_4 t341).f1)) ∧ w28.cell? ⟨(ad342.add ((t341).toNat * 8)).block, (ad342.add ((t341).toNat * 8)).off + 2, none⟩ = some (.int .i64 ((rd_T54 l0_4 t341).f2.f0)) ∧ w28.cell? ⟨(ad342.add ((t341).toNat * 8)).block, (ad342.add ((t341).toNat * 8)).off + 3, none⟩ = some (.int .i64 ((rd_T54 l0_4 t341).f2.f1)) ∧ w28.cell? ⟨(ad342.add ((t341).toNat * 8)).block, (ad342.add ((t341).toNat * 8)).off + 4, none⟩ = some (.bool ((rd_T54 l0_4 t341).f3)) ∧ w28.cell? ⟨(ad342.add ((t341).toNat * 8)).block, (ad342.add ((t341).toNat * 8)).off + 5, none⟩ = some (.int .i64 ((rd_T54 l0_4 t341).f4.f0)) ∧ w28.cell? ⟨(ad342.add ((t341).toNat * 8)).block, (ad342.add ((t341).toNat * 8)).off + 6, none⟩ = some (.int .i64 ((rd_T54 l0_4 t341).f4.f1)) ∧ w28.cell? ⟨(ad342.add ((t341).toNat * 8)).block, (ad342.add ((t341).toNat * 8)).off + 7, none⟩ = some (.string ((rd_T54 l0_4 t341).f4.f2)) := hS_
     refine norm_ (a' := ?_) ?_ ?_
     rotate_left
     ·
      simp only [putAll, Act.put, s1_, s2_, s3_]
      rfl
     refine yI HT_ 14 (tB 32767 17) rfl rfl fun K hK => ?_
     have hs29 : w28.cell? ⟨gb348, 0, none⟩ = some (.int .i64 0) := (blk_cell BK348.out 0).trans rfl
     have hfs29 := blk_frozen BK348.out 0
     have hns29_0 := NB339_348.out
     have hns29_1 := NB340_348.out
     have hms29_0 := NB348_339.out
     have hms29_1 := NB348_340.out
     have hs30 : w28.cell? ⟨gb348, 1, none⟩ = some (.int .i64 0) := (blk_cell BK348.out 1).trans rfl
     have hfs30 := blk_frozen BK348.out 1
     have hns30_0 := NB339_348.out
     have hns30_1 := NB340_348.out
     have hms30_0 := NB348_339.out
     have hms30_1 := NB348_340.out
     have hs31 : w28.cell? ⟨gb348, 2, none⟩ = some (.string (⟨#[]⟩ : ByteArray)) := (blk_cell BK348.out 2).trans rfl
     have hfs31 := blk_frozen BK348.out 2
     have hns31_0 := NB339_348.out
     have hns31_1 := NB340_348.out
     have hms31_0 := NB348_339.out
     have hms31_1 := NB348_340.out
     refine skip_ (w1 := ?_) (by rfl) rfl ?_ ?_
     rotate_left
     ·
      go_simp
      rfl
     refine hK.out _ _ ⟨(cF3 NB339_348.out hHeld.1), (cF3 NB339_348.out hHeld.2.1), (cF3 NB339_348.out hHeld.2.2.1), (cF3 NB339_348.out hHeld.2.2.2.1), (cF3 NB339_348.out hHeld.2.2.2.2.1), (cF3 (yL hw342_0 GW348.out) hHeld.2.2.2.2.2.1), (cF3 (yL hw342_1 GW348.out) hHeld.2.2.2.2.2.2.1), (cF3 (yL hw342_2 GW348.out) hHeld.2.2.2.2.2.2.2.1), (cF3 (yL hw342_3 GW348.out) hHeld.2.2.2.2.2.2.2.2.1), (cF3 (yL hw342_4 GW348.out) hHeld.2.2.2.2.2.2.2.2.2.1), (cF3 (yL hw342_5 GW348.out) hHeld.2.2.2.2.2.2.2.2.2.2.1), (cF3 (yL hw342_6 GW348.out) hHeld.2.2.2.2.2.2.2.2.2.2.2.1), (cF3 (yL hw342_7 GW348.out) hHeld.2.2.2.2.2.2.2.2.2.2.2.2)⟩ (fun hHeld => ?_)
     clear hK K
     refine yP HT_ 15 7 (tB 65535 17) rfl rfl ?_
     refine yP HT_ 16 8 (tB 131071 17) rfl rfl ?_
     refine done_ (done_of HT_.out (by kernel_rfl)) ?_
     have hnb32 := NB348_339.out
     have hnc32 := NB339_348.out
     have hnb33 := NB348_340.out
     have hnc33 := NB340_348.out
     obtain ⟨hcz34_0, hcz34_1, hcz34_2, hfz34_0, hfz34_1, hfz34_2⟩ := cells3 BK348.out
     have hnb35 := NB340_339.out
     have hnc35 := NB339_340.out
     obtain ⟨hcz36_0, hcz36_1, hcz36_2, hfz36_0, hfz36_1, hfz36_2⟩ := cells3 BK340.out
     try go_wp2
     refine bodyPost_ret (results_ct rfl _ _ gb340 52 #[.int .i64 t343, .int .i64 t344, .string t345] (0, 0) _ rfl (by (with_reducible repeat (first | refine kN ?_ _ | refine kD ?_ | refine kA ?_ _)); refine kP (cs := #[.int .i64 t343, .int .i64 t344, .string (⟨#[]⟩ : ByteArray)]) ?_ 2 _ rfl; (with_reducible repeat (first | refine kN ?_ _ | refine kD ?_ | refine kA ?_ _)); refine kP (cs := #[.int .i64 t343, .int .i64 0, .string (⟨#[]⟩ : ByteArray)]) ?_ 1 _ rfl; (with_reducible repeat (first | refine kN ?_ _ | refine kD ?_ | refine kA ?_ _)); refine kP (cs := #[.int .i64 0, .int .i64 0, .string (⟨#[]⟩ : ByteArray)]) ?_ 0 _ rfl; (repeat ((with_reducible repeat (first | refine kN ?_ _ | refine kD ?_ | refine kA ?_ _)); refine kF ?_ NB340_348.out _)); (with_reducible repeat (first | refine kN ?_ _ | refine kD ?_ | refine kA ?_ _)); exact BK340.out) Tryd.underlying52 rfl (by kernel_rfl)) rfl ?_
     exact ⟨yE, yG3 HB GE339.out GE340.out GE348.out⟩
   ·
    rw [if_neg c7] at H
    have c7b0 : (t347 == 0) = false := beq_eq_false_iff_ne.mpr c7
    have c7b1 : (t347 != 0) = true := bne_iff_ne.mpr c7
    simp only [Option.some.injEq, Prod.mk.injEq] at H
    obtain ⟨rfl, rfl, rfl, rfl⟩ := H
    go_enter Tryd.func56, Tryd.ntmps56
    try go_wp2_with (first | ((with_reducible refine gate_dst (N := 2) rfl ?_); (try (refine gate_guard (by rfl) ?_; dsimp only)); refine yX (N := 2) (cs := #[.int .i64 a0_0, .string a0_1, .int .i64 a0_2, .int .i64 a0_3, .slice A0_4 l0_4.length c0_4]) (t := 24) ?_; intro gb339 hg w37 hbox hb; have BK339 := aM (hbox); have GW339 := yZ hg (yB HB); have GE339 := yZ hg (yB HB); replace HB := aM (bP (yB HB) hb); clear hb hbox hg) | ((with_reducible refine gate_dst (N := 4) rfl ?_); (try (refine gate_guard (by rfl) ?_; dsimp only)); refine yX (N := 4) (cs := #[.int .i64 0, .int .i64 0, .string (⟨#[]⟩ : ByteArray)]) (t := 52) ?_; intro gb340 hg w38 hbox hb; have BK340 := aM (hbox); have GW340 := yZ hg (yG1 HB GE339.out); have GE340 := yZ hg (yG1 HB GE339.out); replace HB := aM (bP (yG1 HB GE339.out) hb); have NB339_340 := yN hg (yK BK339); have NB340_339 := yM hg (yK BK339); replace BK339 := aM (kB (yK BK339) hb); clear hb hbox hg))
    have n0_ := aM (kD BK339.out)
    have n1_ := aM (kD BK340.out)
    have n2_ := aM (b1 HB.out)
    clear BK339
    clear BK340
    clear HB
    have BK339 := n0_
    have BK340 := n1_
    have HB := n2_
    clear n0_ n1_ n2_
    have p342 : 0 ≤ (t341 : Int) := oD yA
    have q342 : t341 < (l0_4.length : Int) := oD yA
    obtain ⟨ad342, e342, hx342_0, hx342_1, hx342_2, hx342_3, hx342_4, hx342_5, hx342_6, hx342_7⟩ := at_T54 HR0_4.out t341 p342 q342
    have hw342_7 := hx342_7
    have hw342_6 := hx342_6
    have hw342_5 := hx342_5
    have hw342_4 := hx342_4
    have hw342_3 := hx342_3
    have hw342_2 := hx342_2
    have hw342_1 := hx342_1
    have hw342_0 := hx342_0
    cases e342
    replace hx342_0 := pw_cell_below HB.out hx342_0
    replace hx342_1 := pw_cell_below HB.out hx342_1
    replace hx342_2 := pw_cell_below HB.out hx342_2
    replace hx342_3 := pw_cell_below HB.out hx342_3
    replace hx342_4 := pw_cell_below HB.out hx342_4
    replace hx342_5 := pw_cell_below HB.out hx342_5
    replace hx342_6 := pw_cell_below HB.out hx342_6
    replace hx342_7 := pw_cell_below HB.out hx342_7
    replace p342 := eq_true p342
    replace q342 := eq_true q342
    refine start_ (n := 17) (S := fun w' => w'.cell? ⟨gb339, 0, none⟩ = some (.int .i64 a0_0) ∧ w'.cell? ⟨gb339, 1, none⟩ = some (.string a0_1) ∧ w'.cell? ⟨gb339, 2, none⟩ = some (.int .i64 a0_2) ∧ w'.cell? ⟨gb339, 3, none⟩ = some (.int .i64 a0_3) ∧ w'.cell? ⟨gb339, 4, none⟩ = some (.slice (some ad342) l0_4.length c0_4) ∧ w'.cell? (ad342.add ((t341).toNat * 8)) = some (.int .i64 ((rd_T54 l0_4 t341).f0)) ∧ w'.cell? ⟨(ad342.add ((t341).toNat * 8)).block, (ad342.add ((t341).toNat * 8)).off + 1, none⟩ = some (.string ((rd_T54 l0_4 t341).f1)) ∧ w'.cell? ⟨(ad342.add ((t341).toNat * 8)).block, (ad342.add ((t341).toNat * 8)).off + 2, none⟩ = some (.int .i64 ((rd_T54 l0_4 t341).f2.f0)) ∧ w'.cell? ⟨(ad342.add ((t341).toNat * 8)).block, (ad342.add ((t341).toNat * 8)).off + 3, none⟩ = some (.int .i64 ((rd_T54 l0_4 t341).f2.f1)) ∧ w'.cell? ⟨(ad342.add ((t341).toNat * 8)).block, (ad342.add ((t341).toNat * 8)).off + 4, none⟩ = some (.bool ((rd_T54 l0_4 t341).f3)) ∧ w'.cell? ⟨(ad342.add ((t341).toNat * 8)).block, (ad342.add ((t341).toNat * 8)).off + 5, none⟩ = some (.int .i64 ((rd_T54 l0_4 t341).f4.f0)) ∧ w'.cell? ⟨(ad342.add ((t341).toNat * 8)).block, (ad342.add ((t341).toNat * 8)).off + 6, none⟩ = some (.int .i64 ((rd_T54 l0_4 t341).f4.f1)) ∧ w'.cell? ⟨(ad342.add ((t341).toNat * 8)).block, (ad342.add ((t341).toNat * 8)).off + 7, none⟩ = some (.string ((rd_T54 l0_4 t341).f4.f2))) (ds := []) (tB 0 17) (by kernel_rfl) rfl rfl ⟨yV BK339 0, yV BK339 1, yV BK339 2, yV BK339 3, yV BK339 4, (pw_cell_below HB.out hw342_0), (pw_cell_below HB.out hw342_1), (pw_cell_below HB.out hw342_2), (pw_cell_below HB.out hw342_3), (pw_cell_below HB.out hw342_4), (pw_cell_below HB.out hw342_5), (pw_cell_below HB.out hw342_6), (pw_cell_below HB.out hw342_7)⟩ (fun hHeld => ?_); refine with_tabW haulageref12_ReadKey.tab1 haulageref12_ReadKey.bits1 (fun HT_ HW_ => ?_)
    generalize w38.drew = w39 at BK339 BK340 HB hx342_0 hx342_1 hx342_2 hx342_3 hx342_4 hx342_5 hx342_6 hx342_7 hHeld ⊢
    refine yP HT_ 0 10 (tB 1 17) rfl rfl ?_
    refine yP HT_ 7 17 (tB 129 17) rfl rfl ?_
    refine yT HT_ HW_ 1 11 (tB 131 17) rfl rfl hHeld ?_
    refine yT HT_ HW_ 2 12 (tB 135 17) rfl rfl hHeld ?_
    refine join_ (σ := Nat) 3 #[true, true, true, true, true, true, true, true, true, true, true, true, true, true, false, false, false] (fun s_ => [(13, .int .i64 t341), (18, .tuple #[.agg #[.int .i64 t343, .int .i64 t344, .string t345], .int .i64 t346, .int .i64 t347]), (6, .pointer (some ⟨s_, 0, none⟩)), (14, .pointer (some (ad342.add ((t341).toNat * 8)))), (15, .pointer (some ⟨(ad342.add ((t341).toNat * 8)).block, (ad342.add ((t341).toNat * 8)).off + 2, none⟩)), (16, .agg #[.int .i64 ((rd_T54 l0_4 t341).f2.f0), .int .i64 ((rd_T54 l0_4 t341).f2.f1)]), (9, .tuple #[.agg #[.int .i64 t343, .int .i64 t344, .string t345], .int .i64 t346, .int .i64 t347]), (19, .agg #[.int .i64 t343, .int .i64 t344, .string t345]), (20, .int .i64 t346), (21, .int .i64 t347)]) (fun s_ w' => (w'.cell? ⟨gb339, 0, none⟩ = some (.int .i64 a0_0) ∧ w'.cell? ⟨gb339, 1, none⟩ = some (.string a0_1) ∧ w'.cell? ⟨gb339, 2, none⟩ = some (.int .i64 a0_2) ∧ w'.cell? ⟨gb339, 3, none⟩ = some (.int .i64 a0_3) ∧ w'.cell? ⟨gb339, 4, none⟩ = some (.slice (some ad342) l0_4.length c0_4) ∧ w'.cell? (ad342.add ((t341).toNat * 8)) = some (.int .i64 ((rd_T54 l0_4 t341).f0)) ∧ w'.cell? ⟨(ad342.add ((t341).toNat * 8)).block, (ad342.add ((t341).toNat * 8)).off + 1, none⟩ = some (.string ((rd_T54 l0_4 t341).f1)) ∧ w'.cell? ⟨(ad342.add ((t341).toNat * 8)).block, (ad342.add ((t341).toNat * 8)).off + 2, none⟩ = some (.int .i64 ((rd_T54 l0_4 t341).f2.f0)) ∧ w'.cell? ⟨(ad342.add ((t341).toNat * 8)).block, (ad342.add ((t341).toNat * 8)).off + 3, none⟩ = some (.int .i64 ((rd_T54 l0_4 t341).f2.f1)) ∧ w'.cell? ⟨(ad342.add ((t341).toNat * 8)).block, (ad342.add ((t341).toNat * 8)).off + 4, none⟩ = some (.bool ((rd_T54 l0_4 t341).f3)) ∧ w'.cell? ⟨(ad342.add ((t341).toNat * 8)).block, (ad342.add ((t341).toNat * 8)).off + 5, none⟩ = some (.int .i64 ((rd_T54 l0_4 t341).f4.f0)) ∧ w'.cell? ⟨(ad342.add ((t341).toNat * 8)).block, (ad342.add ((t341).toNat * 8)).off + 6, none⟩ = some (.int .i64 ((rd_T54 l0_4 t341).f4.f1)) ∧ w'.cell? ⟨(ad342.add ((t341).toNat * 8)).block, (ad342.add ((t341).toNat * 8)).off + 7, none⟩ = some (.string ((rd_T54 l0_4 t341).f4.f2))) ∧ (w'.heap[gb339]? = some (.cells #[.int .i64 a0_0, .string a0_1, .int .i64 a0_2, .int .i64 a0_3, .slice (some ad342) l0_4.length c0_4] 24 (0, 0))) ∧ (w'.heap[gb340]? = some (.cells #[.int .i64 0, .int .i64 0, .string (⟨#[]⟩ : ByteArray)] 52 (0, 0))) ∧ (w'.heap[s_]? = some (.cells #[.int .i64 0, .int .i64 0, .string (⟨#[]⟩ : ByteArray)] 52 (0, 0))) ∧ (w.heap.size ≤ s_) ∧ (w.heap.size ≤ s_) ∧ (gb339 ≠ s_) ∧ (s_ ≠ gb339) ∧ (gb340 ≠ s_) ∧ (s_ ≠ gb340) ∧ (Below w.heap.size w w')) ?_ ?_
    rotate_left
    ·
     intro hCont
     refine two_ (i := 3) (j := 13) (Ni := some 13) (Nj := some 6) (tB 143 17) (tB 8327 17) rfl rfl rfl rfl (two_of HT_.out (by kernel_rfl)) (by decide) (by decide) (fun K hK => ?_) (fun K hK => ?_)
     ·
      skip
      refine yc Tryd.func48 #[.agg #[.int .i64 a0_0, .string a0_1, .int .i64 a0_2, .int .i64 a0_3, .slice (some ad342) l0_4.length c0_4]] rfl rfl ?_
      with_reducible refine (haulageref08_Key.calls k a0_0 a0_1 a0_2 a0_3 _ _ l0_4 t341 _ ?side1 ?side2 A3.out).mono ?_
      (case side1 => exact yW (Kd.C_below HR0_4.out HB.out))
      (case side2 => exact HC0_4.out)
      rintro e w40 ⟨rfl, hb⟩
      refine ⟨_, rfl, ?_⟩
      have n0_ := aM (kB (yK BK339) hb)
      have n1_ := aM (kB (yK BK340) hb)
      have n2_ := aM (bP (yG2 HB GE339.out GE340.out) hb)
      clear BK339
      clear BK340
      clear HB
      have BK339 := n0_
      have BK340 := n1_
      have HB := n2_
      clear n0_ n1_ n2_
      (try clear hb)
      (try clear hb2)
      (try clear hk)
      (try clear hi)
      refine hK.out _ _ ⟨yV BK339 0, yV BK339 1, yV BK339 2, yV BK339 3, yV BK339 4, (pw_cell_below HB.out hw342_0), (pw_cell_below HB.out hw342_1), (pw_cell_below HB.out hw342_2), (pw_cell_below HB.out hw342_3), (pw_cell_below HB.out hw342_4), (pw_cell_below HB.out hw342_5), (pw_cell_below HB.out hw342_6), (pw_cell_below HB.out hw342_7)⟩ (fun hHeld => ?_)
      clear hK K
      refine norm_ (a' := ?_) ?_ ?_
      rotate_left
      ·
       show Act.put _ (some 13) _ = _
       simp only [Act.put, s1_, s2_, s3_, i64_w, i32_w]
       rfl
      refine yP HT_ 4 14 (tB 159 17) rfl rfl ?_
      refine yP HT_ 5 15 (tB 191 17) rfl rfl ?_
      refine yT HT_ HW_ 6 16 (tB 255 17) rfl rfl hHeld ?_
      refine two_ (i := 8) (j := 13) (Ni := some 18) (Nj := some 6) (tB 511 17) (tB 8447 17) rfl rfl rfl rfl (two_of HT_.out (by kernel_rfl)) (by decide) (by decide) (fun K hK => ?_) (fun K hK => ?_)
      ·
       skip
       refine yc Tryd.func87 #[.agg #[.int .i64 ((rd_T54 l0_4 t341).f2.f0), .int .i64 ((rd_T54 l0_4 t341).f2.f1)], .string a1] rfl rfl ?_
       with_reducible refine (haulageref12_read.calls k ((rd_T54 l0_4 t341).f2.f0) ((rd_T54 l0_4 t341).f2.f1) a1 t343 t344 t345 t346 t347 _ A6.out).mono ?_
       rintro e w41 ⟨rfl, hb⟩
       refine ⟨_, rfl, ?_⟩
       have n0_ := aM (kB (yK BK339) hb)
       have n1_ := aM (kB (yK BK340) hb)
       have n2_ := aM (bP (yG2 HB GE339.out GE340.out) hb)
       clear BK339
       clear BK340
       clear HB
       have BK339 := n0_
       have BK340 := n1_
       have HB := n2_
       clear n0_ n1_ n2_
       (try clear hb)
       (try clear hb2)
       (try clear hk)
       (try clear hi)
       refine hK.out _ _ ⟨yV BK339 0, yV BK339 1, yV BK339 2, yV BK339 3, yV BK339 4, (pw_cell_below HB.out hw342_0), (pw_cell_below HB.out hw342_1), (pw_cell_below HB.out hw342_2), (pw_cell_below HB.out hw342_3), (pw_cell_below HB.out hw342_4), (pw_cell_below HB.out hw342_5), (pw_cell_below HB.out hw342_6), (pw_cell_below HB.out hw342_7)⟩ (fun hHeld => ?_)
       clear hK K
       refine norm_ (a' := ?_) ?_ ?_
       rotate_left
       ·
        show Act.put _ (some 18) _ = _
        simp only [Act.put, s1_, s2_, s3_, i64_w, i32_w]
        rfl
       refine yP HT_ 9 9 (tB 1023 17) rfl rfl ?_
       refine yP HT_ 10 19 (tB 2047 17) rfl rfl ?_
       refine yP HT_ 11 20 (tB 4095 17) rfl rfl ?_
       refine yP HT_ 12 21 (tB 8191 17) rfl rfl ?_
       refine yI HT_ 13 (tB 16383 17) rfl rfl fun K hK => ?_
       refine box_step ?hg (N := 6) ?hd (cs := #[.int .i64 0, .int .i64 0, .string (⟨#[]⟩ : ByteArray)]) (t := 52) ?hr ?_; (case hd => rfl); (case hg => rfl); (case hr => first | (go_simp; done) | (go_simp; rfl))
       intro gb348 hg w42 hbox hb
       have n0_ := aM (kB (yK BK339) hb)
       have n1_ := aM (kB (yK BK340) hb)
       have n2_ := aM (bP (yG2 HB GE339.out GE340.out) hb)
       have n3_ := aM (hbox)
       have n4_ := yZ hg (yG2 HB GE339.out GE340.out)
       have n5_ := yZ hg (yG2 HB GE339.out GE340.out)
       have n6_ := yN hg (yK BK339)
       have n7_ := yM hg (yK BK339)
       have n8_ := yN hg (yK BK340)
       have n9_ := yM hg (yK BK340)
       clear BK339
       clear BK340
       clear HB
       have BK339 := n0_
       have BK340 := n1_
       have HB := n2_
       have BK348 := n3_
       have GW348 := n4_
       have GE348 := n5_
       have NB339_348 := n6_
       have NB348_339 := n7_
       have NB340_348 := n8_
       have NB348_340 := n9_
       clear n0_ n1_ n2_ n3_ n4_ n5_ n6_ n7_ n8_ n9_
       clear hb hbox hg
       refine hK.out _ _ ⟨yV BK339 0, yV BK339 1, yV BK339 2, yV BK339 3, yV BK339 4, (pw_cell_below HB.out hw342_0), (pw_cell_below HB.out hw342_1), (pw_cell_below HB.out hw342_2), (pw_cell_below HB.out hw342_3), (pw_cell_below HB.out hw342_4), (pw_cell_below HB.out hw342_5), (pw_cell_below HB.out hw342_6), (pw_cell_below HB.out hw342_7)⟩ (fun hHeld => ?_)
       clear hK K
       refine norm_ (a' := ?_) ?_ ?_
       rotate_left
       ·
        show Act.put _ (some 6) _ = _
        simp only [Act.put, s1_, s2_, s3_, i64_w, i32_w]
        rfl
       exact norm_ (by simp only [putAll, Act.put, s1_, s2_, s3_]) (hCont (gb348) _ ⟨hHeld, (yK BK339), (yK BK340), (yK BK348), GW348.out, GE348.out, NB339_348.out, NB348_339.out, NB340_348.out, NB348_340.out, (yG3 HB GE339.out GE340.out GE348.out)⟩)
      ·
       skip
       refine box_step ?hg (N := 6) ?hd (cs := #[.int .i64 0, .int .i64 0, .string (⟨#[]⟩ : ByteArray)]) (t := 52) ?hr ?_; (case hd => rfl); (case hg => rfl); (case hr => first | (go_simp; done) | (go_simp; rfl))
       intro gb348 hg w41 hbox hb
       have n0_ := aM (kB (yK BK339) hb)
       have n1_ := aM (kB (yK BK340) hb)
       have n2_ := aM (bP (yG2 HB GE339.out GE340.out) hb)
       have n3_ := aM (hbox)
       have n4_ := yZ hg (yG2 HB GE339.out GE340.out)
       have n5_ := yZ hg (yG2 HB GE339.out GE340.out)
       have n6_ := yN hg (yK BK339)
       have n7_ := yM hg (yK BK339)
       have n8_ := yN hg (yK BK340)
       have n9_ := yM hg (yK BK340)
       clear BK339
       clear BK340
       clear HB
       have BK339 := n0_
       have BK340 := n1_
       have HB := n2_
       have BK348 := n3_
       have GW348 := n4_
       have GE348 := n5_
       have NB339_348 := n6_
       have NB348_339 := n7_
       have NB340_348 := n8_
       have NB348_340 := n9_
       clear n0_ n1_ n2_ n3_ n4_ n5_ n6_ n7_ n8_ n9_
       clear hb hbox hg
       refine hK.out _ _ ⟨yV BK339 0, yV BK339 1, yV BK339 2, yV BK339 3, yV BK339 4, (pw_cell_below HB.out hw342_0), (pw_cell_below HB.out hw342_1), (pw_cell_below HB.out hw342_2), (pw_cell_below HB.out hw342_3), (pw_cell_below HB.out hw342_4), (pw_cell_below HB.out hw342_5), (pw_cell_below HB.out hw342_6), (pw_cell_below HB.out hw342_7)⟩ (fun hHeld => ?_)
       clear hK K
       refine norm_ (a' := ?_) ?_ ?_
       rotate_left
       ·
        show Act.put _ (some 6) _ = _
        simp only [Act.put, s1_, s2_, s3_, i64_w, i32_w]
        rfl
       refine yI HT_ 8 (tB 8703 17) rfl rfl fun K hK => ?_
       refine yc Tryd.func87 #[.agg #[.int .i64 ((rd_T54 l0_4 t341).f2.f0), .int .i64 ((rd_T54 l0_4 t341).f2.f1)], .string a1] rfl rfl ?_
       with_reducible refine (haulageref12_read.calls k ((rd_T54 l0_4 t341).f2.f0) ((rd_T54 l0_4 t341).f2.f1) a1 t343 t344 t345 t346 t347 _ A6.out).mono ?_
       rintro e w42 ⟨rfl, hb⟩
       refine ⟨_, rfl, ?_⟩
       have n0_ := aM (kB (yK BK339) hb)
       have n1_ := aM (kB (yK BK340) hb)
       have n2_ := aM (kB (yK BK348) hb)
       have n3_ := aM (bP (yG3 HB GE339.out GE340.out GE348.out) hb)
       clear BK339
       clear BK340
       clear BK348
       clear HB
       have BK339 := n0_
       have BK340 := n1_
       have BK348 := n2_
       have HB := n3_
       clear n0_ n1_ n2_ n3_
       (try clear hb)
       (try clear hb2)
       (try clear hk)
       (try clear hi)
       refine hK.out _ _ ⟨yV BK339 0, yV BK339 1, yV BK339 2, yV BK339 3, yV BK339 4, (pw_cell_below HB.out hw342_0), (pw_cell_below HB.out hw342_1), (pw_cell_below HB.out hw342_2), (pw_cell_below HB.out hw342_3), (pw_cell_below HB.out hw342_4), (pw_cell_below HB.out hw342_5), (pw_cell_below HB.out hw342_6), (pw_cell_below HB.out hw342_7)⟩ (fun hHeld => ?_)
       clear hK K
       refine norm_ (a' := ?_) ?_ ?_
       rotate_left
       ·
        show Act.put _ (some 18) _ = _
        simp only [Act.put, s1_, s2_, s3_, i64_w, i32_w]
        rfl
       refine yP HT_ 9 9 (tB 9215 17) rfl rfl ?_
       refine yP HT_ 10 19 (tB 10239 17) rfl rfl ?_
       refine yP HT_ 11 20 (tB 12287 17) rfl rfl ?_
       refine yP HT_ 12 21 (tB 16383 17) rfl rfl ?_
       exact norm_ (by simp only [putAll, Act.put, s1_, s2_, s3_]) (hCont (gb348) _ ⟨hHeld, (yK BK339), (yK BK340), (yK BK348), GW348.out, GE348.out, NB339_348.out, NB348_339.out, NB340_348.out, NB348_340.out, (yG3 HB GE339.out GE340.out GE348.out)⟩)
     ·
      skip
      refine box_step ?hg (N := 6) ?hd (cs := #[.int .i64 0, .int .i64 0, .string (⟨#[]⟩ : ByteArray)]) (t := 52) ?hr ?_; (case hd => rfl); (case hg => rfl); (case hr => first | (go_simp; done) | (go_simp; rfl))
      intro gb348 hg w40 hbox hb
      have n0_ := aM (kB (yK BK339) hb)
      have n1_ := aM (kB (yK BK340) hb)
      have n2_ := aM (bP (yG2 HB GE339.out GE340.out) hb)
      have n3_ := aM (hbox)
      have n4_ := yZ hg (yG2 HB GE339.out GE340.out)
      have n5_ := yZ hg (yG2 HB GE339.out GE340.out)
      have n6_ := yN hg (yK BK339)
      have n7_ := yM hg (yK BK339)
      have n8_ := yN hg (yK BK340)
      have n9_ := yM hg (yK BK340)
      clear BK339
      clear BK340
      clear HB
      have BK339 := n0_
      have BK340 := n1_
      have HB := n2_
      have BK348 := n3_
      have GW348 := n4_
      have GE348 := n5_
      have NB339_348 := n6_
      have NB348_339 := n7_
      have NB340_348 := n8_
      have NB348_340 := n9_
      clear n0_ n1_ n2_ n3_ n4_ n5_ n6_ n7_ n8_ n9_
      clear hb hbox hg
      refine hK.out _ _ ⟨yV BK339 0, yV BK339 1, yV BK339 2, yV BK339 3, yV BK339 4, (pw_cell_below HB.out hw342_0), (pw_cell_below HB.out hw342_1), (pw_cell_below HB.out hw342_2), (pw_cell_below HB.out hw342_3), (pw_cell_below HB.out hw342_4), (pw_cell_below HB.out hw342_5), (pw_cell_below HB.out hw342_6), (pw_cell_below HB.out hw342_7)⟩ (fun hHeld => ?_)
      clear hK K
      refine norm_ (a' := ?_) ?_ ?_
      rotate_left
      ·
       show Act.put _ (some 6) _ = _
       simp only [Act.put, s1_, s2_, s3_, i64_w, i32_w]
       rfl
      refine yI HT_ 3 (tB 8335 17) rfl rfl fun K hK => ?_
      refine yc Tryd.func48 #[.agg #[.int .i64 a0_0, .string a0_1, .int .i64 a0_2, .int .i64 a0_3, .slice (some ad342) l0_4.length c0_4]] rfl rfl ?_
      with_reducible refine (haulageref08_Key.calls k a0_0 a0_1 a0_2 a0_3 _ _ l0_4 t341 _ ?side1 ?side2 A3.out).mono ?_
      (case side1 => exact yW (Kd.C_below HR0_4.out HB.out))
      (case side2 => exact HC0_4.out)
      rintro e w41 ⟨rfl, hb⟩
      refine ⟨_, rfl, ?_⟩
      have n0_ := aM (kB (yK BK339) hb)
      have n1_ := aM (kB (yK BK340) hb)
      have n2_ := aM (kB (yK BK348) hb)
      have n3_ := aM (bP (yG3 HB GE339.out GE340.out GE348.out) hb)
      clear BK339
      clear BK340
      clear BK348
      clear HB
      have BK339 := n0_
      have BK340 := n1_
      have BK348 := n2_
      have HB := n3_
      clear n0_ n1_ n2_ n3_
      (try clear hb)
      (try clear hb2)
      (try clear hk)
      (try clear hi)
      refine hK.out _ _ ⟨yV BK339 0, yV BK339 1, yV BK339 2, yV BK339 3, yV BK339 4, (pw_cell_below HB.out hw342_0), (pw_cell_below HB.out hw342_1), (pw_cell_below HB.out hw342_2), (pw_cell_below HB.out hw342_3), (pw_cell_below HB.out hw342_4), (pw_cell_below HB.out hw342_5), (pw_cell_below HB.out hw342_6), (pw_cell_below HB.out hw342_7)⟩ (fun hHeld => ?_)
      clear hK K
      refine norm_ (a' := ?_) ?_ ?_
      rotate_left
      ·
       show Act.put _ (some 13) _ = _
       simp only [Act.put, s1_, s2_, s3_, i64_w, i32_w]
       rfl
      refine yP HT_ 4 14 (tB 8351 17) rfl rfl ?_
      refine yP HT_ 5 15 (tB 8383 17) rfl rfl ?_
      refine yT HT_ HW_ 6 16 (tB 8447 17) rfl rfl hHeld ?_
      refine yI HT_ 8 (tB 8703 17) rfl rfl fun K hK => ?_
      refine yc Tryd.func87 #[.agg #[.int .i64 ((rd_T54 l0_4 t341).f2.f0), .int .i64 ((rd_T54 l0_4 t341).f2.f1)], .string a1] rfl rfl ?_
      with_reducible refine (haulageref12_read.calls k ((rd_T54 l0_4 t341).f2.f0) ((rd_T54 l0_4 t341).f2.f1) a1 t343 t344 t345 t346 t347 _ A6.out).mono ?_
      rintro e w42 ⟨rfl, hb⟩
      refine ⟨_, rfl, ?_⟩
      have n0_ := aM (kB (yK BK339) hb)
      have n1_ := aM (kB (yK BK340) hb)
      have n2_ := aM (kB (yK BK348) hb)
      have n3_ := aM (bP (yG3 HB GE339.out GE340.out GE348.out) hb)
      clear BK339
      clear BK340
      clear BK348
      clear HB
      have BK339 := n0_
      have BK340 := n1_
      have BK348 := n2_
      have HB := n3_
      clear n0_ n1_ n2_ n3_
      (try clear hb)
      (try clear hb2)
      (try clear hk)
      (try clear hi)
      refine hK.out _ _ ⟨yV BK339 0, yV BK339 1, yV BK339 2, yV BK339 3, yV BK339 4, (pw_cell_below HB.out hw342_0), (pw_cell_below HB.out hw342_1), (pw_cell_below HB.out hw342_2), (pw_cell_below HB.out hw342_3), (pw_cell_below HB.out hw342_4), (pw_cell_below HB.out hw342_5), (pw_cell_below HB.out hw342_6), (pw_cell_below HB.out hw342_7)⟩ (fun hHeld => ?_)
      clear hK K
      refine norm_ (a' := ?_) ?_ ?_
      rotate_left
      ·
       show Act.put _ (some 18) _ = _
       simp only [Act.put, s1_, s2_, s3_, i64_w, i32_w]
       rfl
      refine yP HT_ 9 9 (tB 9215 17) rfl rfl ?_
      refine yP HT_ 10 19 (tB 10239 17) rfl rfl ?_
      refine yP HT_ 11 20 (tB 12287 17) rfl rfl ?_
      refine yP HT_ 12 21 (tB 16383 17) rfl rfl ?_
      exact norm_ (by simp only [putAll, Act.put, s1_, s2_, s3_]) (hCont (gb348) _ ⟨hHeld, (yK BK339), (yK BK340), (yK BK348), GW348.out, GE348.out, NB339_348.out, NB348_339.out, NB340_348.out, NB348_340.out, (yG3 HB GE339.out GE340.out GE348.out)⟩)
    rintro gb348 w43 ⟨hS_, h0_, h1_, h2_, h3_, h4_, h5_, h6_, h7_, h8_, h9_⟩
    have n0_ : Aside0 (w43.heap[gb339]? = some (.cells #[.int .i64 a0_0, .string a0_1, .int .i64 a0_2, .int .i64 a0_3, .slice (some ad342) l0_4.length c0_4] 24 (0, 0))) := ⟨h0_⟩
    have n1_ : Aside0 (w43.heap[gb340]? = some (.cells #[.int .i64 0, .int .i64 0, .string (⟨#[]⟩ : ByteArray)] 52 (0, 0))) := ⟨h1_⟩
    have n2_ : Aside0 (w43.heap[gb348]? = some (.cells #[.int .i64 0, .int .i64 0, .string (⟨#[]⟩ : ByteArray)] 52 (0, 0))) := ⟨h2_⟩
    have n3_ : Aside0 (w.heap.size ≤ gb348) := ⟨h3_⟩
    have n4_ : Aside0 (w.heap.size ≤ gb348) := ⟨h4_⟩
    have n5_ : Aside0 (gb339 ≠ gb348) := ⟨h5_⟩
    have n6_ : Aside0 (gb348 ≠ gb339) := ⟨h6_⟩
    have n7_ : Aside0 (gb340 ≠ gb348) := ⟨h7_⟩
    have n8_ : Aside0 (gb348 ≠ gb340) := ⟨h8_⟩
    have n9_ : Aside0 (Below w.heap.size w w43) := ⟨h9_⟩
    clear BK339
    clear BK340
    clear HB
    clear h0_ h1_ h2_ h3_ h4_ h5_ h6_ h7_ h8_ h9_
    have BK339 := n0_
    have BK340 := n1_
    have BK348 := n2_
    have GW348 := n3_
    have GE348 := n4_
    have NB339_348 := n5_
    have NB348_339 := n6_
    have NB340_348 := n7_
    have NB348_340 := n8_
    have HB := n9_
    clear n0_ n1_ n2_ n3_ n4_ n5_ n6_ n7_ n8_ n9_
    have hHeld : w43.cell? ⟨gb339, 0, none⟩ = some (.int .i64 a0_0) ∧ w43.cell? ⟨gb339, 1, none⟩ = some (.string a0_1) ∧ w43.cell? ⟨gb339, 2, none⟩ = some (.int .i64 a0_2) ∧ w43.cell? ⟨gb339, 3, none⟩ = some (.int .i64 a0_3) ∧ w43.cell? ⟨gb339, 4, none⟩ = some (.slice (some ad342) l0_4.length c0_4) ∧ w43.cell? (ad342.add ((t341).toNat * 8)) = some (.int .i64 ((rd_T54 l0_4 t341).f0)) ∧ w43.cell? ⟨(ad342.add ((t341).toNat * 8)).block, (ad342.add ((t341).toNat * 8)).off + 1, none⟩ = some (.string ((rd_T54 l0_4 t341).f1)) ∧ w43.cell? ⟨(ad342.add ((t341).toNat * 8)).block, (ad342.add ((t341).toNat * 8)).off + 2, none⟩ = some (.int .i64 ((rd_T54 l0_4 t341).f2.f0)) ∧ w43.cell? ⟨(ad342.add ((t341).toNat * 8)).block, (ad342.add ((t341).toNat * 8)).off + 3, none⟩ = some (.int .i64 ((rd_T54 l0_4 t341).f2.f1)) ∧ w43.cell? ⟨(ad342.add ((t341).toNat * 8)).block, (ad342.add ((t341).toNat * 8)).off + 4, none⟩ = some (.bool ((rd_T54 l0_4 t341).f3)) ∧ w43.cell? ⟨(ad342.add ((t341).toNat * 8)).block, (ad342.add ((t341).toNat * 8)).off + 5, none⟩ = some (.int .i64 ((rd_T54 l0_4 t341).f4.f0)) ∧ w43.cell? ⟨(ad342.add ((t341).toNat * 8)).block, (ad342.add ((t341).toNat * 8)).off + 6, none⟩ = some (.int .i64 ((rd_T54 l0_4 t341).f4.f1)) ∧ w43.cell? ⟨(ad342.add ((t341).toNat * 8)).block, (ad342.add ((t341).toNat * 8)).off + 7, none⟩ = some (.string ((rd_T54 l0_4 t341).f4.f2)) := hS_
    refine norm_ (a' := ?_) ?_ ?_
    rotate_left
    ·
     simp only [putAll, Act.put, s1_, s2_, s3_]
     rfl
    refine yI HT_ 14 (tB 32767 17) rfl rfl fun K hK => ?_
    have hs44 : w43.cell? ⟨gb348, 0, none⟩ = some (.int .i64 0) := (blk_cell BK348.out 0).trans rfl
    have hfs44 := blk_frozen BK348.out 0
    have hns44_0 := NB339_348.out
    have hns44_1 := NB340_348.out
    have hms44_0 := NB348_339.out
    have hms44_1 := NB348_340.out
    have hs45 : w43.cell? ⟨gb348, 1, none⟩ = some (.int .i64 0) := (blk_cell BK348.out 1).trans rfl
    have hfs45 := blk_frozen BK348.out 1
    have hns45_0 := NB339_348.out
    have hns45_1 := NB340_348.out
    have hms45_0 := NB348_339.out
    have hms45_1 := NB348_340.out
    have hs46 : w43.cell? ⟨gb348, 2, none⟩ = some (.string (⟨#[]⟩ : ByteArray)) := (blk_cell BK348.out 2).trans rfl
    have hfs46 := blk_frozen BK348.out 2
    have hns46_0 := NB339_348.out
    have hns46_1 := NB340_348.out
    have hms46_0 := NB348_339.out
    have hms46_1 := NB348_340.out
    refine skip_ (w1 := ?_) (by rfl) rfl ?_ ?_
    rotate_left
    ·
     go_simp
     rfl
    refine hK.out _ _ ⟨(cF3 NB339_348.out hHeld.1), (cF3 NB339_348.out hHeld.2.1), (cF3 NB339_348.out hHeld.2.2.1), (cF3 NB339_348.out hHeld.2.2.2.1), (cF3 NB339_348.out hHeld.2.2.2.2.1), (cF3 (yL hw342_0 GW348.out) hHeld.2.2.2.2.2.1), (cF3 (yL hw342_1 GW348.out) hHeld.2.2.2.2.2.2.1), (cF3 (yL hw342_2 GW348.out) hHeld.2.2.2.2.2.2.2.1), (cF3 (yL hw342_3 GW348.out) hHeld.2.2.2.2.2.2.2.2.1), (cF3 (yL hw342_4 GW348.out) hHeld.2.2.2.2.2.2.2.2.2.1), (cF3 (yL hw342_5 GW348.out) hHeld.2.2.2.2.2.2.2.2.2.2.1), (cF3 (yL hw342_6 GW348.out) hHeld.2.2.2.2.2.2.2.2.2.2.2.1), (cF3 (yL hw342_7 GW348.out) hHeld.2.2.2.2.2.2.2.2.2.2.2.2)⟩ (fun hHeld => ?_)
    clear hK K
    refine yP HT_ 15 7 (tB 65535 17) rfl rfl ?_
    refine yP HT_ 16 8 (tB 131071 17) rfl rfl ?_
    refine done_ (done_of HT_.out (by kernel_rfl)) ?_
    have hnb47 := NB348_339.out
    have hnc47 := NB339_348.out
    have hnb48 := NB348_340.out
    have hnc48 := NB340_348.out
    obtain ⟨hcz49_0, hcz49_1, hcz49_2, hfz49_0, hfz49_1, hfz49_2⟩ := cells3 BK348.out
    have hnb50 := NB340_339.out
    have hnc50 := NB339_340.out
    obtain ⟨hcz51_0, hcz51_1, hcz51_2, hfz51_0, hfz51_1, hfz51_2⟩ := cells3 BK340.out
    try go_wp2
    refine bodyPost_ret (results_ct rfl _ _ gb340 52 #[.int .i64 t343, .int .i64 t344, .string t345] (0, 0) _ rfl (by (with_reducible repeat (first | refine kN ?_ _ | refine kD ?_ | refine kA ?_ _)); refine kP (cs := #[.int .i64 t343, .int .i64 t344, .string (⟨#[]⟩ : ByteArray)]) ?_ 2 _ rfl; (with_reducible repeat (first | refine kN ?_ _ | refine kD ?_ | refine kA ?_ _)); refine kP (cs := #[.int .i64 t343, .int .i64 0, .string (⟨#[]⟩ : ByteArray)]) ?_ 1 _ rfl; (with_reducible repeat (first | refine kN ?_ _ | refine kD ?_ | refine kA ?_ _)); refine kP (cs := #[.int .i64 0, .int .i64 0, .string (⟨#[]⟩ : ByteArray)]) ?_ 0 _ rfl; (repeat ((with_reducible repeat (first | refine kN ?_ _ | refine kD ?_ | refine kA ?_ _)); refine kF ?_ NB340_348.out _)); (with_reducible repeat (first | refine kN ?_ _ | refine kD ?_ | refine kA ?_ _)); exact BK340.out) Tryd.underlying52 rfl (by kernel_rfl)) rfl ?_
    exact ⟨yE, yG3 HB GE339.out GE340.out GE348.out⟩
  ·
   rw [if_neg c5] at H
   exact absurd H (by simp)
 ·
  rw [if_neg c4] at H
  exact absurd H (by simp)
end Go.Proofs.YtdeophpjammbpaaDoor.HRowcodeKeys

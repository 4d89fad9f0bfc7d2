/- For Go functions that RowcodeKeys reaches: Lean functions, and walks that show that each call comes to what its Lean function tells; no condition but those that each theorem states. (Made by a program of this session over the kit's print.py.) -/
import Derived.Test.YtdeophpjammbpaaDoorHRowcodeKeysx0
import Derived.Test.YtdeophpjammbpaaDoorHRowcodeKeysx11
import Derived.Test.YtdeophpjammbpaaDoorHRowcodeKeysx16
namespace Go.Proofs.YtdeophpjammbpaaDoor.HRowcodeKeys
open Go.RowKit Go.Proofs.YtdeophpjammbpaaDoorW.PrintWords Go.Proofs.YtdeophpjammbpaaDoorW.PrintLast Go.Proofs.YtdeophpjammbpaaDoorW.PrintMore
attribute [local go_sem] max2_int min2_int max_two min_two max_three min_three max_four min_four   -- for this text's walks alone
set_option linter.unusedVariables false
set_option linter.unusedSimpArgs false
attribute [local go_sem] hp_s8 hp_s16 hp_s32 hp_s64 hp_m8 hp_m16 hp_m32 hp_m64
/-! ### haulageref12_read: function 87 -/
def haulageref12_read.f (k : Nat) (a0_0 : Int) (a0_1 : Int) (a1 : ByteArray) : Option (Int × Int × ByteArray × Int × Int) := (haulageref01_Long.f k a1).bind fun bt331 => (if bt331.2.2 = 0 then (if a0_0 < 3 then ((haulageref01_Zag.f bt331.1).bind fun t334 => ((haulageref06_Fits.f k a0_0 a0_1 a0_0 t334 (⟨#[]⟩ : ByteArray)).bind fun t336 => (if t336 = true then (some (a0_0, t334, (⟨#[]⟩ : ByteArray), bt331.2.1, 0)) else (some (0, 0, (⟨#[]⟩ : ByteArray), 0, 10))))) else (if bt331.1 > (IntKind.u64.wrap (a0_1)) then (some (0, 0, (⟨#[]⟩ : ByteArray), 0, 10)) else (if (wrap64 (bt331.1)) > (wrap64 ((a1.size : Int) - bt331.2.1)) then (some (0, 0, (⟨#[]⟩ : ByteArray), 0, 4)) else (if 0 ≤ bt331.2.1 then (if bt331.2.1 ≤ (wrap64 (bt331.2.1 + (wrap64 (bt331.1)))) then (if (wrap64 (bt331.2.1 + (wrap64 (bt331.1)))) ≤ (a1.size : Int) then (if a0_0 = 3 then ((haulageref03_Right.f k (a1.extract (bt331.2.1 : Int).toNat ((wrap64 (bt331.2.1 + (wrap64 (bt331.1)))) : Int).toNat)).bind fun t338 => (if t338 = true then (some (a0_0, 0, a1.extract (bt331.2.1 : Int).toNat ((wrap64 (bt331.2.1 + (wrap64 (bt331.1)))) : Int).toNat, wrap64 (bt331.2.1 + (wrap64 (bt331.1))), 0)) else (some (0, 0, (⟨#[]⟩ : ByteArray), 0, 5)))) else (some (a0_0, 0, a1.extract (bt331.2.1 : Int).toNat ((wrap64 (bt331.2.1 + (wrap64 (bt331.1)))) : Int).toNat, wrap64 (bt331.2.1 + (wrap64 (bt331.1))), 0))) else (none)) else (none)) else (none))))) else (some (0, 0, (⟨#[]⟩ : ByteArray), 0, bt331.2.2)))
theorem haulageref12_read.mono : ∀ a0 a1 a2 k, LeO (haulageref12_read.f k a0 a1 a2) (haulageref12_read.f (k + 1) a0 a1 a2) := by
 intro a0 a1 a2 k
 unfold haulageref12_read.f
 repeat' first | with_reducible (first | exact haulageref01_Long.mono .. | exact haulageref03_Right.mono .. | exact haulageref06_Fits.mono .. | exact LeO.refl .. | exact LeO.none .. | refine LeO.ite ?_ ?_ | refine LeO.bind ?_ (fun _ => ?_)) | exact haulageref01_Long.mono .. | exact haulageref03_Right.mono .. | exact haulageref06_Fits.mono .. | exact LeO.none .. | refine LeO.ite ?_ ?_ | refine LeO.bind ?_ (fun _ => ?_)
def haulageref12_read.T14 : Bool × List (List Nat × List Nat) := (true, [([], []), ([0], [0]), ([], []), ([], []), ([], []), ([], []), ([5], [5]), ([4, 6], [4, 6]), ([2, 3, 7], [2, 3, 7]), ([1, 8], [1, 8]), ([], []), ([10, 9, 0, 1, 2, 3, 4, 5, 6, 7, 8, 9, 10], [9, 10])])
def haulageref12_read.B14 : List Nat := [0, 1, 0, 0, 0, 0, 32, 112, 252, 511, 0, 2047]
theorem haulageref12_read.tab14 : rtab .any (opsOf Tryd.f87 14) = haulageref12_read.T14 := by kernel_rfl
theorem haulageref12_read.bits14 : waitsOk haulageref12_read.T14.2 haulageref12_read.B14 = true := by kernel_rfl
set_option maxHeartbeats 8000000 in
set_option maxRecDepth 100000 in
theorem haulageref12_read.calls (k : Nat) (a0_0 : Int) (a0_1 : Int) (a1 : ByteArray) (r1 : Int) (r2 : Int) (r3 : ByteArray) (r4 : Int) (r5 : Int) (w : World) (h : haulageref12_read.f k a0_0 a0_1 a1 = some (r1, r2, r3, r4, r5)) :
  Calls Tryd.prog 87 #[.agg #[.int .i64 a0_0, .int .i64 a0_1], .string a1] w fun e w' => e = .returned (.tuple #[.agg #[.int .i64 r1, .int .i64 r2, .string r3], .int .i64 r4, .int .i64 r5]) ∧ Below w.heap.size w w' := by
 have hu50 := Tryd.underlying50
 have hu52 := Tryd.underlying52
 have HB := aM (Below.refl w.heap.size w)
 have H : ((haulageref01_Long.f k a1).bind fun bt331 => (if bt331.2.2 = 0 then (if a0_0 < 3 then ((haulageref01_Zag.f bt331.1).bind fun t334 => ((haulageref06_Fits.f k a0_0 a0_1 a0_0 t334 (⟨#[]⟩ : ByteArray)).bind fun t336 => (if t336 = true then (some (a0_0, t334, (⟨#[]⟩ : ByteArray), bt331.2.1, 0)) else (some (0, 0, (⟨#[]⟩ : ByteArray), 0, 10))))) else (if bt331.1 > (IntKind.u64.wrap (a0_1)) then (some (0, 0, (⟨#[]⟩ : ByteArray), 0, 10)) else (if (wrap64 (bt331.1)) > (wrap64 ((a1.size : Int) - bt331.2.1)) then (some (0, 0, (⟨#[]⟩ : ByteArray), 0, 4)) else (if 0 ≤ bt331.2.1 then (if bt331.2.1 ≤ (wrap64 (bt331.2.1 + (wrap64 (bt331.1)))) then (if (wrap64 (bt331.2.1 + (wrap64 (bt331.1)))) ≤ (a1.size : Int) then (if a0_0 = 3 then ((haulageref03_Right.f k (a1.extract (bt331.2.1 : Int).toNat ((wrap64 (bt331.2.1 + (wrap64 (bt331.1)))) : Int).toNat)).bind fun t338 => (if t338 = true then (some (a0_0, 0, a1.extract (bt331.2.1 : Int).toNat ((wrap64 (bt331.2.1 + (wrap64 (bt331.1)))) : Int).toNat, wrap64 (bt331.2.1 + (wrap64 (bt331.1))), 0)) else (some (0, 0, (⟨#[]⟩ : ByteArray), 0, 5)))) else (some (a0_0, 0, a1.extract (bt331.2.1 : Int).toNat ((wrap64 (bt331.2.1 + (wrap64 (bt331.1)))) : Int).toNat, wrap64 (bt331.2.1 + (wrap64 (bt331.1))), 0))) else (none)) else (none)) else (none))))) else (some (0, 0, (⟨#[]⟩ : ByteArray), 0, bt331.2.2)))) = some (r1, r2, r3, r4, r5) := h
 clear h
 obtain ⟨⟨t331, t332, t333⟩, A3, H⟩ := yb H
 try dsimp -simprocs only at H
 by_cases c4 : t333 = 0
 ·
  rw [if_pos c4] at H
  have c4b0 : (t333 == 0) = true := beq_iff_eq.mpr c4
  have c4b1 : (t333 != 0) = false := bne_eq_false_iff_eq.mpr c4
  clear c4
  by_cases c5 : a0_0 < 3
  ·
   rw [if_pos c5] at H
   have c5b0 : decide (a0_0 < 3) = true := decide_eq_true c5
   clear c5
   obtain ⟨t334, A6, H⟩ := yb H
   obtain ⟨t336, A7, H⟩ := yb H
   by_cases c8 : t336 = true
   ·
    subst c8
    replace H := yt H
    simp only [Option.some.injEq, Prod.mk.injEq] at H
    obtain ⟨rfl, rfl, rfl, rfl, rfl⟩ := H
    go_enter Tryd.func87, Tryd.ntmps87
    try go_wp2_with (first | ((with_reducible refine gate_dst (N := 2) rfl ?_); refine yX (N := 2) (cs := #[.int .i64 a0_0, .int .i64 a0_1]) (t := 50) ?_; intro gb328 hg w9 hbox hb; have BK328 := aM (hbox); have GW328 := yZ hg (yB HB); have GE328 := yZ hg (yB HB); replace HB := aM (bP (yB HB) hb); clear hb hbox hg) | ((with_reducible refine gate_dst (N := 4) rfl ?_); refine yX (N := 4) (cs := #[.int .i64 0, .int .i64 0, .string (⟨#[]⟩ : ByteArray)]) (t := 52) ?_; intro gb329 hg w10 hbox hb; have BK329 := aM (hbox); have GW329 := yZ hg (yG1 HB GE328.out); have GE329 := yZ hg (yG1 HB GE328.out); replace HB := aM (bP (yG1 HB GE328.out) hb); have NB328_329 := yN hg (yK BK328); have NB329_328 := yM hg (yK BK328); replace BK328 := aM (kB (yK BK328) hb); clear hb hbox hg) | ((with_reducible refine gate_dst (N := 7) rfl ?_); refine yX (N := 7) (cs := #[.int .i64 0, .int .i64 0, .string (⟨#[]⟩ : ByteArray)]) (t := 52) ?_; intro gb330 hg w11 hbox hb; have BK330 := aM (hbox); have GW330 := yZ hg (yG2 HB GE328.out GE329.out); have GE330 := yZ hg (yG2 HB GE328.out GE329.out); replace HB := aM (bP (yG2 HB GE328.out GE329.out) hb); have NB328_330 := yN hg (yK BK328); have NB330_328 := yM hg (yK BK328); replace BK328 := aM (kB (yK BK328) hb); have NB329_330 := yN hg (yK BK329); have NB330_329 := yM hg (yK BK329); replace BK329 := aM (kB (yK BK329) hb); clear hb hbox hg; have hnb12 := NB330_328.out; have hnc12 := NB328_330.out; have hnb13 := NB330_329.out; have hnc13 := NB329_330.out; obtain ⟨hcz14_0, hcz14_1, hcz14_2, hfz14_0, hfz14_1, hfz14_2⟩ := cells3 BK330.out) | ((with_reducible refine gate_callee (f := 102) rfl ?_); refine yC 16 Tryd.func102 #[.string a1] rfl ?_; (with_reducible refine (haulageref01_Long.calls k a1 t331 t332 t333 _ A3.out).mono ?_); rintro e w' ⟨rfl, ⟨nd, rfl⟩⟩; refine ⟨_, rfl, ?_⟩; have hnb15 := NB328_329.out; have hnc15 := NB329_328.out; obtain ⟨hcz16_0, hcz16_1, hfz16_0, hfz16_1⟩ := cells2 BK328.out))
    have n0_ : Aside0 ((((w11.setCell ⟨gb330, 0, none⟩ (.int .i64 0)).setCell ⟨gb330, 1, none⟩ (.int .i64 0)).setCell ⟨gb330, 2, none⟩ (.string (⟨#[]⟩ : ByteArray))).heap[gb328]? = some (.cells #[.int .i64 a0_0, .int .i64 a0_1] 50 (0, 0))) := ⟨yF1 BK328 NB328_330.out⟩
    have n1_ : Aside0 ((((w11.setCell ⟨gb330, 0, none⟩ (.int .i64 0)).setCell ⟨gb330, 1, none⟩ (.int .i64 0)).setCell ⟨gb330, 2, none⟩ (.string (⟨#[]⟩ : ByteArray))).heap[gb329]? = some (.cells #[.int .i64 0, .int .i64 0, .string (⟨#[]⟩ : ByteArray)] 52 (0, 0))) := ⟨yF1 BK329 NB329_330.out⟩
    have n2_ : Aside0 ((((w11.setCell ⟨gb330, 0, none⟩ (.int .i64 0)).setCell ⟨gb330, 1, none⟩ (.int .i64 0)).setCell ⟨gb330, 2, none⟩ (.string (⟨#[]⟩ : ByteArray))).heap[gb330]? = some (.cells #[.int .i64 0, .int .i64 0, .string (⟨#[]⟩ : ByteArray)] 52 (0, 0))) := ⟨puts3 BK330.out⟩
    have n3_ : Aside0 (Below w.heap.size w (((w11.setCell ⟨gb330, 0, none⟩ (.int .i64 0)).setCell ⟨gb330, 1, none⟩ (.int .i64 0)).setCell ⟨gb330, 2, none⟩ (.string (⟨#[]⟩ : ByteArray)))) := ⟨yG3 HB GE328.out GE329.out GE330.out⟩
    (try clear BK328)
    (try clear BK329)
    (try clear BK330)
    (try clear HB)
    generalize (((w11.setCell ⟨gb330, 0, none⟩ (.int .i64 0)).setCell ⟨gb330, 1, none⟩ (.int .i64 0)).setCell ⟨gb330, 2, none⟩ (.string (⟨#[]⟩ : ByteArray))) = w17 at n0_ n1_ n2_ n3_ ⊢
    have BK328 := n0_
    have BK329 := n1_
    have BK330 := n2_
    have HB := n3_
    clear n0_ n1_ n2_ n3_
    (try (rw [drewN_self w17]; generalize hq_ : World.drewN w17 _ = w17; have n0_ : Aside0 (w17.heap[gb328]? = some (.cells #[.int .i64 a0_0, .int .i64 a0_1] 50 (0, 0))) := ⟨by rw [← hq_]; exact (yK BK328)⟩; have n1_ : Aside0 (w17.heap[gb329]? = some (.cells #[.int .i64 0, .int .i64 0, .string (⟨#[]⟩ : ByteArray)] 52 (0, 0))) := ⟨by rw [← hq_]; exact (yK BK329)⟩; have n2_ : Aside0 (w17.heap[gb330]? = some (.cells #[.int .i64 0, .int .i64 0, .string (⟨#[]⟩ : ByteArray)] 52 (0, 0))) := ⟨by rw [← hq_]; exact (yK BK330)⟩; have n3_ : Aside0 (Below w.heap.size w w17) := ⟨by rw [← hq_]; exact (yG3 HB GE328.out GE329.out GE330.out)⟩; clear BK328 BK329 BK330 HB hq_; have BK328 := n0_; have BK329 := n1_; have BK330 := n2_; have HB := n3_; clear n0_ n1_ n2_ n3_))
    have n0_ := aM (kD BK328.out)
    have n1_ := aM (kD BK329.out)
    have n2_ := aM (kD BK330.out)
    have n3_ := aM (b1 HB.out)
    clear BK328
    clear BK329
    clear BK330
    clear HB
    have BK328 := n0_
    have BK329 := n1_
    have BK330 := n2_
    have HB := n3_
    clear n0_ n1_ n2_ n3_
    refine start_ (n := 7) (S := fun w' => w'.cell? ⟨gb328, 0, none⟩ = some (.int .i64 a0_0) ∧ w'.cell? ⟨gb328, 1, none⟩ = some (.int .i64 a0_1)) (ds := []) (tB 0 7) (by kernel_rfl) rfl rfl (cellc2 BK328.out) (fun hHeld => ?_)
    generalize w17.drew = w18 at BK328 BK329 BK330 HB hHeld ⊢
    refine yP0 0 27 (tB 1 7) rfl rfl ?_
    refine yP0 2 29 (tB 5 7) rfl rfl ?_
    refine yT0 1 28 (tB 7 7) rfl rfl hHeld ?_
    refine join_ (σ := Nat) 1 #[true, true, true, true, true, true, false] (fun s_ => [(30, .int .i64 t334), (11, .pointer (some ⟨s_, 0, none⟩)), (31, .agg #[.int .i64 a0_0, .int .i64 t334, .string (⟨#[]⟩ : ByteArray)])]) (fun s_ w' => (w'.cell? ⟨gb328, 0, none⟩ = some (.int .i64 a0_0) ∧ w'.cell? ⟨gb328, 1, none⟩ = some (.int .i64 a0_1)) ∧ (w'.heap[gb328]? = some (.cells #[.int .i64 a0_0, .int .i64 a0_1] 50 (0, 0))) ∧ (w'.heap[gb329]? = some (.cells #[.int .i64 0, .int .i64 0, .string (⟨#[]⟩ : ByteArray)] 52 (0, 0))) ∧ (w'.heap[gb330]? = some (.cells #[.int .i64 0, .int .i64 0, .string (⟨#[]⟩ : ByteArray)] 52 (0, 0))) ∧ (w'.heap[s_]? = some (.cells #[.int .i64 0, .int .i64 0, .string (⟨#[]⟩ : ByteArray)] 52 (0, 0))) ∧ (w.heap.size ≤ s_) ∧ (w.heap.size ≤ s_) ∧ (gb328 ≠ s_) ∧ (s_ ≠ gb328) ∧ (gb329 ≠ s_) ∧ (s_ ≠ gb329) ∧ (gb330 ≠ s_) ∧ (s_ ≠ gb330) ∧ (Below w.heap.size w w')) ?_ ?_
    rotate_left
    ·
     intro hCont
     refine two_ (i := 3) (j := 5) (Ni := some 30) (Nj := some 11) (tB 15 7) (tB 39 7) rfl rfl rfl rfl (by kernel_rfl) (by decide) (by decide) (fun K hK => ?_) (fun K hK => ?_)
     ·
      skip
      refine yc Tryd.func103 #[.int .u64 t331] rfl rfl ?_
      with_reducible refine (haulageref01_Zag.calls t331 t334 _ A6.out).mono ?_
      rintro e w' ⟨rfl, ⟨nd, rfl⟩⟩
      refine ⟨_, rfl, ?_⟩
      refine hK.out _ _ (cellc2 BK328.out) (fun hHeld => ?_)
      clear hK K
      refine norm_ (a' := ?_) ?_ ?_
      rotate_left
      ·
       show Act.put _ (some 30) _ = _
       simp only [Act.put, s1_, s2_, s3_, i64_w, i32_w]
       rfl
      refine yP0 4 31 (tB 31 7) rfl rfl ?_
      refine yI0 5 (tB 63 7) rfl rfl fun K hK => ?_
      refine box_step ?hg (N := 11) ?hd (cs := #[.int .i64 0, .int .i64 0, .string (⟨#[]⟩ : ByteArray)]) (t := 52) ?hr ?_; (case hd => rfl); (case hg => rfl); (case hr => first | (go_simp; done) | (go_simp; rfl))
      intro gb335 hg w19 hbox hb
      have n0_ := aM (kB (yK BK328) hb)
      have n1_ := aM (kB (yK BK329) hb)
      have n2_ := aM (kB (yK BK330) hb)
      have n3_ := aM (bP (yG3 HB GE328.out GE329.out GE330.out) hb)
      have n4_ := aM (hbox)
      have n5_ := yZ hg (yG3 HB GE328.out GE329.out GE330.out)
      have n6_ := yZ hg (yG3 HB GE328.out GE329.out GE330.out)
      have n7_ := yN hg (yK BK328)
      have n8_ := yM hg (yK BK328)
      have n9_ := yN hg (yK BK329)
      have n10_ := yM hg (yK BK329)
      have n11_ := yN hg (yK BK330)
      have n12_ := yM hg (yK BK330)
      clear BK328
      clear BK329
      clear BK330
      clear HB
      have BK328 := n0_
      have BK329 := n1_
      have BK330 := n2_
      have HB := n3_
      have BK335 := n4_
      have GW335 := n5_
      have GE335 := n6_
      have NB328_335 := n7_
      have NB335_328 := n8_
      have NB329_335 := n9_
      have NB335_329 := n10_
      have NB330_335 := n11_
      have NB335_330 := n12_
      clear n0_ n1_ n2_ n3_ n4_ n5_ n6_ n7_ n8_ n9_ n10_ n11_ n12_
      clear hb hbox hg
      refine hK.out _ _ (cellc2 BK328.out) (fun hHeld => ?_)
      clear hK K
      refine norm_ (a' := ?_) ?_ ?_
      rotate_left
      ·
       show Act.put _ (some 11) _ = _
       simp only [Act.put, s1_, s2_, s3_, i64_w, i32_w]
       rfl
      exact norm_ (by simp only [putAll, Act.put, s1_, s2_, s3_]) (hCont (gb335) _ ⟨hHeld, (yK BK328), (yK BK329), (yK BK330), (yK BK335), GW335.out, GE335.out, NB328_335.out, NB335_328.out, NB329_335.out, NB335_329.out, NB330_335.out, NB335_330.out, (yG4 HB GE328.out GE329.out GE330.out GE335.out)⟩)
     ·
      skip
      refine box_step ?hg (N := 11) ?hd (cs := #[.int .i64 0, .int .i64 0, .string (⟨#[]⟩ : ByteArray)]) (t := 52) ?hr ?_; (case hd => rfl); (case hg => rfl); (case hr => first | (go_simp; done) | (go_simp; rfl))
      intro gb335 hg w19 hbox hb
      have n0_ := aM (kB (yK BK328) hb)
      have n1_ := aM (kB (yK BK329) hb)
      have n2_ := aM (kB (yK BK330) hb)
      have n3_ := aM (bP (yG3 HB GE328.out GE329.out GE330.out) hb)
      have n4_ := aM (hbox)
      have n5_ := yZ hg (yG3 HB GE328.out GE329.out GE330.out)
      have n6_ := yZ hg (yG3 HB GE328.out GE329.out GE330.out)
      have n7_ := yN hg (yK BK328)
      have n8_ := yM hg (yK BK328)
      have n9_ := yN hg (yK BK329)
      have n10_ := yM hg (yK BK329)
      have n11_ := yN hg (yK BK330)
      have n12_ := yM hg (yK BK330)
      clear BK328
      clear BK329
      clear BK330
      clear HB
      have BK328 := n0_
      have BK329 := n1_
      have BK330 := n2_
      have HB := n3_
      have BK335 := n4_
      have GW335 := n5_
      have GE335 := n6_
      have NB328_335 := n7_
      have NB335_328 := n8_
      have NB329_335 := n9_
      have NB335_329 := n10_
      have NB330_335 := n11_
      have NB335_330 := n12_
      clear n0_ n1_ n2_ n3_ n4_ n5_ n6_ n7_ n8_ n9_ n10_ n11_ n12_
      clear hb hbox hg
      refine hK.out _ _ (cellc2 BK328.out) (fun hHeld => ?_)
      clear hK K
      refine norm_ (a' := ?_) ?_ ?_
      rotate_left
      ·
       show Act.put _ (some 11) _ = _
       simp only [Act.put, s1_, s2_, s3_, i64_w, i32_w]
       rfl
      refine yI0 3 (tB 47 7) rfl rfl fun K hK => ?_
      refine yc Tryd.func103 #[.int .u64 t331] rfl rfl ?_
      with_reducible refine (haulageref01_Zag.calls t331 t334 _ A6.out).mono ?_
      rintro e w' ⟨rfl, ⟨nd, rfl⟩⟩
      refine ⟨_, rfl, ?_⟩
      refine hK.out _ _ (cellc2 BK328.out) (fun hHeld => ?_)
      clear hK K
      refine norm_ (a' := ?_) ?_ ?_
      rotate_left
      ·
       show Act.put _ (some 30) _ = _
       simp only [Act.put, s1_, s2_, s3_, i64_w, i32_w]
       rfl
      refine yP0 4 31 (tB 63 7) rfl rfl ?_
      exact norm_ (by simp only [putAll, Act.put, s1_, s2_, s3_]) (hCont (gb335) _ ⟨hHeld, (yK BK328), (yK BK329), (yK BK330), (yK BK335), GW335.out, GE335.out, NB328_335.out, NB335_328.out, NB329_335.out, NB335_329.out, NB330_335.out, NB335_330.out, (yG4 HB GE328.out GE329.out GE330.out GE335.out)⟩)
    rintro gb335 w20 ⟨hS_, h0_, h1_, h2_, h3_, h4_, h5_, h6_, h7_, h8_, h9_, h10_, h11_, h12_⟩
    have n0_ : Aside0 (w20.heap[gb328]? = some (.cells #[.int .i64 a0_0, .int .i64 a0_1] 50 (0, 0))) := ⟨h0_⟩
    have n1_ : Aside0 (w20.heap[gb329]? = some (.cells #[.int .i64 0, .int .i64 0, .string (⟨#[]⟩ : ByteArray)] 52 (0, 0))) := ⟨h1_⟩
    have n2_ : Aside0 (w20.heap[gb330]? = some (.cells #[.int .i64 0, .int .i64 0, .string (⟨#[]⟩ : ByteArray)] 52 (0, 0))) := ⟨h2_⟩
    have n3_ : Aside0 (w20.heap[gb335]? = some (.cells #[.int .i64 0, .int .i64 0, .string (⟨#[]⟩ : ByteArray)] 52 (0, 0))) := ⟨h3_⟩
    have n4_ : Aside0 (w.heap.size ≤ gb335) := ⟨h4_⟩
    have n5_ : Aside0 (w.heap.size ≤ gb335) := ⟨h5_⟩
    have n6_ : Aside0 (gb328 ≠ gb335) := ⟨h6_⟩
    have n7_ : Aside0 (gb335 ≠ gb328) := ⟨h7_⟩
    have n8_ : Aside0 (gb329 ≠ gb335) := ⟨h8_⟩
    have n9_ : Aside0 (gb335 ≠ gb329) := ⟨h9_⟩
    have n10_ : Aside0 (gb330 ≠ gb335) := ⟨h10_⟩
    have n11_ : Aside0 (gb335 ≠ gb330) := ⟨h11_⟩
    have n12_ : Aside0 (Below w.heap.size w w20) := ⟨h12_⟩
    clear BK328
    clear BK329
    clear BK330
    clear HB
    clear h0_ h1_ h2_ h3_ h4_ h5_ h6_ h7_ h8_ h9_ h10_ h11_ h12_
    have BK328 := n0_
    have BK329 := n1_
    have BK330 := n2_
    have BK335 := n3_
    have GW335 := n4_
    have GE335 := n5_
    have NB328_335 := n6_
    have NB335_328 := n7_
    have NB329_335 := n8_
    have NB335_329 := n9_
    have NB330_335 := n10_
    have NB335_330 := n11_
    have HB := n12_
    clear n0_ n1_ n2_ n3_ n4_ n5_ n6_ n7_ n8_ n9_ n10_ n11_ n12_
    have hHeld : w20.cell? ⟨gb328, 0, none⟩ = some (.int .i64 a0_0) ∧ w20.cell? ⟨gb328, 1, none⟩ = some (.int .i64 a0_1) := hS_
    refine norm_ (a' := ?_) ?_ ?_
    rotate_left
    ·
     simp only [putAll, Act.put, s1_, s2_, s3_]
     rfl
    refine yI0 6 (tB 127 7) rfl rfl fun K hK => ?_
    have hs21 : w20.cell? ⟨gb335, 0, none⟩ = some (.int .i64 0) := (blk_cell BK335.out 0).trans rfl
    have hfs21 := blk_frozen BK335.out 0
    have hns21_0 := NB328_335.out
    have hns21_1 := NB329_335.out
    have hns21_2 := NB330_335.out
    have hms21_0 := NB335_328.out
    have hms21_1 := NB335_329.out
    have hms21_2 := NB335_330.out
    have hs22 : w20.cell? ⟨gb335, 1, none⟩ = some (.int .i64 0) := (blk_cell BK335.out 1).trans rfl
    have hfs22 := blk_frozen BK335.out 1
    have hns22_0 := NB328_335.out
    have hns22_1 := NB329_335.out
    have hns22_2 := NB330_335.out
    have hms22_0 := NB335_328.out
    have hms22_1 := NB335_329.out
    have hms22_2 := NB335_330.out
    have hs23 : w20.cell? ⟨gb335, 2, none⟩ = some (.string (⟨#[]⟩ : ByteArray)) := (blk_cell BK335.out 2).trans rfl
    have hfs23 := blk_frozen BK335.out 2
    have hns23_0 := NB328_335.out
    have hns23_1 := NB329_335.out
    have hns23_2 := NB330_335.out
    have hms23_0 := NB335_328.out
    have hms23_1 := NB335_329.out
    have hms23_2 := NB335_330.out
    refine skip_ (w1 := ?_) (by rfl) rfl ?_ ?_
    rotate_left
    ·
     go_simp
     rfl
    refine hK.out _ _ ⟨(cF3 NB328_335.out hHeld.1), (cF3 NB328_335.out hHeld.2)⟩ (fun hHeld => ?_)
    clear hK K
    refine done_ (by kernel_rfl) ?_
    have hnb24 := NB328_335.out
    have hnc24 := NB335_328.out
    obtain ⟨hcz25_0, hcz25_1, hfz25_0, hfz25_1⟩ := cells2 BK328.out
    have hnb26 := NB335_329.out
    have hnc26 := NB329_335.out
    have hnb27 := NB335_330.out
    have hnc27 := NB330_335.out
    obtain ⟨hcz28_0, hcz28_1, hcz28_2, hfz28_0, hfz28_1, hfz28_2⟩ := cells3 BK335.out
    try go_wp2_with (first | ((with_reducible refine gate_callee (f := 57) rfl ?_); refine yC 34 Tryd.func57 #[.agg #[.int .i64 a0_0, .int .i64 a0_1], .agg #[.int .i64 a0_0, .int .i64 t334, .string (⟨#[]⟩ : ByteArray)]] rfl ?_; (with_reducible refine (haulageref06_Fits.calls k a0_0 a0_1 a0_0 t334 (⟨#[]⟩ : ByteArray) true _ A7.out).mono ?_); rintro e w29 ⟨rfl, hb⟩; refine ⟨_, rfl, ?_⟩; replace BK328 := aM (kB (yF1 BK328 NB328_335.out) hb); replace BK329 := aM (kB (yF1 BK329 NB329_335.out) hb); replace BK330 := aM (kB (yF1 BK330 NB330_335.out) hb); replace BK335 := aM (kB (puts3 BK335.out) hb); replace HB := aM (bP (yG4 HB GE328.out GE329.out GE330.out GE335.out) hb); (try clear hb); obtain ⟨hcz30_0, hcz30_1, hcz30_2, hfz30_0, hfz30_1, hfz30_2⟩ := cells3 BK335.out; obtain ⟨hcz31_0, hcz31_1, hcz31_2, hfz31_0, hfz31_1, hfz31_2⟩ := cells3 BK329.out))
    refine bodyPost_ret (results_ctt rfl _ _ gb329 52 #[.int .i64 a0_0, .int .i64 t334, .string (⟨#[]⟩ : ByteArray)] (0, 0) _ rfl (puts3 BK329.out) Tryd.underlying52 rfl (by kernel_rfl)) rfl ?_
    exact ⟨yE, yG4 HB GE328.out GE329.out GE330.out GE335.out⟩
   ·
    replace c8 := Bool.eq_false_iff.mpr c8
    subst c8
    replace H := yf H
    simp only [Option.some.injEq, Prod.mk.injEq] at H
    obtain ⟨rfl, rfl, rfl, rfl, rfl⟩ := H
    go_enter Tryd.func87, Tryd.ntmps87
    try go_wp2_with (first | ((with_reducible refine gate_dst (N := 2) rfl ?_); refine yX (N := 2) (cs := #[.int .i64 a0_0, .int .i64 a0_1]) (t := 50) ?_; intro gb328 hg w32 hbox hb; have BK328 := aM (hbox); have GW328 := yZ hg (yB HB); have GE328 := yZ hg (yB HB); replace HB := aM (bP (yB HB) hb); clear hb hbox hg) | ((with_reducible refine gate_dst (N := 4) rfl ?_); refine yX (N := 4) (cs := #[.int .i64 0, .int .i64 0, .string (⟨#[]⟩ : ByteArray)]) (t := 52) ?_; intro gb329 hg w33 hbox hb; have BK329 := aM (hbox); have GW329 := yZ hg (yG1 HB GE328.out); have GE329 := yZ hg (yG1 HB GE328.out); replace HB := aM (bP (yG1 HB GE328.out) hb); have NB328_329 := yN hg (yK BK328); have NB329_328 := yM hg (yK BK328); replace BK328 := aM (kB (yK BK328) hb); clear hb hbox hg) | ((with_reducible refine gate_dst (N := 7) rfl ?_); refine yX (N := 7) (cs := #[.int .i64 0, .int .i64 0, .string (⟨#[]⟩ : ByteArray)]) (t := 52) ?_; intro gb330 hg w34 hbox hb; have BK330 := aM (hbox); have GW330 := yZ hg (yG2 HB GE328.out GE329.out); have GE330 := yZ hg (yG2 HB GE328.out GE329.out); replace HB := aM (bP (yG2 HB GE328.out GE329.out) hb); have NB328_330 := yN hg (yK BK328); have NB330_328 := yM hg (yK BK328); replace BK328 := aM (kB (yK BK328) hb); have NB329_330 := yN hg (yK BK329); have NB330_329 := yM hg (yK BK329); replace BK329 := aM (kB (yK BK329) hb); clear hb hbox hg; have hnb35 := NB330_328.out; have hnc35 := NB328_330.out; have hnb36 := NB330_329.out; have hnc36 := NB329_330.out; obtain ⟨hcz37_0, hcz37_1, hcz37_2, hfz37_0, hfz37_1, hfz37_2⟩ := cells3 BK330.out) | ((with_reducible refine gate_callee (f := 102) rfl ?_); refine yC 16 Tryd.func102 #[.string a1] rfl ?_; (with_reducible refine (haulageref01_Long.calls k a1 t331 t332 t333 _ A3.out).mono ?_); rintro e w' ⟨rfl, ⟨nd, rfl⟩⟩; refine ⟨_, rfl, ?_⟩; have hnb38 := NB328_329.out; have hnc38 := NB329_328.out; obtain ⟨hcz39_0, hcz39_1, hfz39_0, hfz39_1⟩ := cells2 BK328.out))
    have n0_ : Aside0 ((((w34.setCell ⟨gb330, 0, none⟩ (.int .i64 0)).setCell ⟨gb330, 1, none⟩ (.int .i64 0)).setCell ⟨gb330, 2, none⟩ (.string (⟨#[]⟩ : ByteArray))).heap[gb328]? = some (.cells #[.int .i64 a0_0, .int .i64 a0_1] 50 (0, 0))) := ⟨yF1 BK328 NB328_330.out⟩
    have n1_ : Aside0 ((((w34.setCell ⟨gb330, 0, none⟩ (.int .i64 0)).setCell ⟨gb330, 1, none⟩ (.int .i64 0)).setCell ⟨gb330, 2, none⟩ (.string (⟨#[]⟩ : ByteArray))).heap[gb329]? = some (.cells #[.int .i64 0, .int .i64 0, .string (⟨#[]⟩ : ByteArray)] 52 (0, 0))) := ⟨yF1 BK329 NB329_330.out⟩
    have n2_ : Aside0 ((((w34.setCell ⟨gb330, 0, none⟩ (.int .i64 0)).setCell ⟨gb330, 1, none⟩ (.int .i64 0)).setCell ⟨gb330, 2, none⟩ (.string (⟨#[]⟩ : ByteArray))).heap[gb330]? = some (.cells #[.int .i64 0, .int .i64 0, .string (⟨#[]⟩ : ByteArray)] 52 (0, 0))) := ⟨puts3 BK330.out⟩
    have n3_ : Aside0 (Below w.heap.size w (((w34.setCell ⟨gb330, 0, none⟩ (.int .i64 0)).setCell ⟨gb330, 1, none⟩ (.int .i64 0)).setCell ⟨gb330, 2, none⟩ (.string (⟨#[]⟩ : ByteArray)))) := ⟨yG3 HB GE328.out GE329.out GE330.out⟩
    (try clear BK328)
    (try clear BK329)
    (try clear BK330)
    (try clear HB)
    generalize (((w34.setCell ⟨gb330, 0, none⟩ (.int .i64 0)).setCell ⟨gb330, 1, none⟩ (.int .i64 0)).setCell ⟨gb330, 2, none⟩ (.string (⟨#[]⟩ : ByteArray))) = w40 at n0_ n1_ n2_ n3_ ⊢
    have BK328 := n0_
    have BK329 := n1_
    have BK330 := n2_
    have HB := n3_
    clear n0_ n1_ n2_ n3_
    (try (rw [drewN_self w40]; generalize hq_ : World.drewN w40 _ = w40; have n0_ : Aside0 (w40.heap[gb328]? = some (.cells #[.int .i64 a0_0, .int .i64 a0_1] 50 (0, 0))) := ⟨by rw [← hq_]; exact (yK BK328)⟩; have n1_ : Aside0 (w40.heap[gb329]? = some (.cells #[.int .i64 0, .int .i64 0, .string (⟨#[]⟩ : ByteArray)] 52 (0, 0))) := ⟨by rw [← hq_]; exact (yK BK329)⟩; have n2_ : Aside0 (w40.heap[gb330]? = some (.cells #[.int .i64 0, .int .i64 0, .string (⟨#[]⟩ : ByteArray)] 52 (0, 0))) := ⟨by rw [← hq_]; exact (yK BK330)⟩; have n3_ : Aside0 (Below w.heap.size w w40) := ⟨by rw [← hq_]; exact (yG3 HB GE328.out GE329.out GE330.out)⟩; clear BK328 BK329 BK330 HB hq_; have BK328 := n0_; have BK329 := n1_; have BK330 := n2_; have HB := n3_; clear n0_ n1_ n2_ n3_))
    have n0_ := aM (kD BK328.out)
    have n1_ := aM (kD BK329.out)
    have n2_ := aM (kD BK330.out)
    have n3_ := aM (b1 HB.out)
    clear BK328
    clear BK329
    clear BK330
    clear HB
    have BK328 := n0_
    have BK329 := n1_
    have BK330 := n2_
    have HB := n3_
    clear n0_ n1_ n2_ n3_
    refine start_ (n := 7) (S := fun w' => w'.cell? ⟨gb328, 0, none⟩ = some (.int .i64 a0_0) ∧ w'.cell? ⟨gb328, 1, none⟩ = some (.int .i64 a0_1)) (ds := []) (tB 0 7) (by kernel_rfl) rfl rfl (cellc2 BK328.out) (fun hHeld => ?_)
    generalize w40.drew = w41 at BK328 BK329 BK330 HB hHeld ⊢
    refine yP0 0 27 (tB 1 7) rfl rfl ?_
    refine yP0 2 29 (tB 5 7) rfl rfl ?_
    refine yT0 1 28 (tB 7 7) rfl rfl hHeld ?_
    refine join_ (σ := Nat) 1 #[true, true, true, true, true, true, false] (fun s_ => [(30, .int .i64 t334), (11, .pointer (some ⟨s_, 0, none⟩)), (31, .agg #[.int .i64 a0_0, .int .i64 t334, .string (⟨#[]⟩ : ByteArray)])]) (fun s_ w' => (w'.cell? ⟨gb328, 0, none⟩ = some (.int .i64 a0_0) ∧ w'.cell? ⟨gb328, 1, none⟩ = some (.int .i64 a0_1)) ∧ (w'.heap[gb328]? = some (.cells #[.int .i64 a0_0, .int .i64 a0_1] 50 (0, 0))) ∧ (w'.heap[gb329]? = some (.cells #[.int .i64 0, .int .i64 0, .string (⟨#[]⟩ : ByteArray)] 52 (0, 0))) ∧ (w'.heap[gb330]? = some (.cells #[.int .i64 0, .int .i64 0, .string (⟨#[]⟩ : ByteArray)] 52 (0, 0))) ∧ (w'.heap[s_]? = some (.cells #[.int .i64 0, .int .i64 0, .string (⟨#[]⟩ : ByteArray)] 52 (0, 0))) ∧ (w.heap.size ≤ s_) ∧ (w.heap.size ≤ s_) ∧ (gb328 ≠ s_) ∧ (s_ ≠ gb328) ∧ (gb329 ≠ s_) ∧ (s_ ≠ gb329) ∧ (gb330 ≠ s_) ∧ (s_ ≠ gb330) ∧ (Below w.heap.size w w')) ?_ ?_
    rotate_left
    ·
     intro hCont
     refine two_ (i := 3) (j := 5) (Ni := some 30) (Nj := some 11) (tB 15 7) (tB 39 7) rfl rfl rfl rfl (by kernel_rfl) (by decide) (by decide) (fun K hK => ?_) (fun K hK => ?_)
     ·
      skip
      refine yc Tryd.func103 #[.int .u64 t331] rfl rfl ?_
      with_reducible refine (haulageref01_Zag.calls t331 t334 _ A6.out).mono ?_
      rintro e w' ⟨rfl, ⟨nd, rfl⟩⟩
      refine ⟨_, rfl, ?_⟩
      refine hK.out _ _ (cellc2 BK328.out) (fun hHeld => ?_)
      clear hK K
      refine norm_ (a' := ?_) ?_ ?_
      rotate_left
      ·
       show Act.put _ (some 30) _ = _
       simp only [Act.put, s1_, s2_, s3_, i64_w, i32_w]
       rfl
      refine yP0 4 31 (tB 31 7) rfl rfl ?_
      refine yI0 5 (tB 63 7) rfl rfl fun K hK => ?_
      refine box_step ?hg (N := 11) ?hd (cs := #[.int .i64 0, .int .i64 0, .string (⟨#[]⟩ : ByteArray)]) (t := 52) ?hr ?_; (case hd => rfl); (case hg => rfl); (case hr => first | (go_simp; done) | (go_simp; rfl))
      intro gb335 hg w42 hbox hb
      have n0_ := aM (kB (yK BK328) hb)
      have n1_ := aM (kB (yK BK329) hb)
      have n2_ := aM (kB (yK BK330) hb)
      have n3_ := aM (bP (yG3 HB GE328.out GE329.out GE330.out) hb)
      have n4_ := aM (hbox)
      have n5_ := yZ hg (yG3 HB GE328.out GE329.out GE330.out)
      have n6_ := yZ hg (yG3 HB GE328.out GE329.out GE330.out)
      have n7_ := yN hg (yK BK328)
      have n8_ := yM hg (yK BK328)
      have n9_ := yN hg (yK BK329)
      have n10_ := yM hg (yK BK329)
      have n11_ := yN hg (yK BK330)
      have n12_ := yM hg (yK BK330)
      clear BK328
      clear BK329
      clear BK330
      clear HB
      have BK328 := n0_
      have BK329 := n1_
      have BK330 := n2_
      have HB := n3_
      have BK335 := n4_
      have GW335 := n5_
      have GE335 := n6_
      have NB328_335 := n7_
      have NB335_328 := n8_
      have NB329_335 := n9_
      have NB335_329 := n10_
      have NB330_335 := n11_
      have NB335_330 := n12_
      clear n0_ n1_ n2_ n3_ n4_ n5_ n6_ n7_ n8_ n9_ n10_ n11_ n12_
      clear hb hbox hg
      refine hK.out _ _ (cellc2 BK328.out) (fun hHeld => ?_)
      clear hK K
      refine norm_ (a' := ?_) ?_ ?_
      rotate_left
      ·
       show Act.put _ (some 11) _ = _
       simp only [Act.put, s1_, s2_, s3_, i64_w, i32_w]
       rfl
      exact norm_ (by simp only [putAll, Act.put, s1_, s2_, s3_]) (hCont (gb335) _ ⟨hHeld, (yK BK328), (yK BK329), (yK BK330), (yK BK335), GW335.out, GE335.out, NB328_335.out, NB335_328.out, NB329_335.out, NB335_329.out, NB330_335.out, NB335_330.out, (yG4 HB GE328.out GE329.out GE330.out GE335.out)⟩)
     ·
      skip
      refine box_step ?hg (N := 11) ?hd (cs := #[.int .i64 0, .int .i64 0, .string (⟨#[]⟩ : ByteArray)]) (t := 52) ?hr ?_; (case hd => rfl); (case hg => rfl); (case hr => first | (go_simp; done) | (go_simp; rfl))
      intro gb335 hg w42 hbox hb
      have n0_ := aM (kB (yK BK328) hb)
      have n1_ := aM (kB (yK BK329) hb)
      have n2_ := aM (kB (yK BK330) hb)
      have n3_ := aM (bP (yG3 HB GE328.out GE329.out GE330.out) hb)
      have n4_ := aM (hbox)
      have n5_ := yZ hg (yG3 HB GE328.out GE329.out GE330.out)
      have n6_ := yZ hg (yG3 HB GE328.out GE329.out GE330.out)
      have n7_ := yN hg (yK BK328)
      have n8_ := yM hg (yK BK328)
      have n9_ := yN hg (yK BK329)
      have n10_ := yM hg (yK BK329)
      have n11_ := yN hg (yK BK330)
      have n12_ := yM hg (yK BK330)
      clear BK328
      clear BK329
      clear BK330
      clear HB
      have BK328 := n0_
      have BK329 := n1_
      have BK330 := n2_
      have HB := n3_
      have BK335 := n4_
      have GW335 := n5_
      have GE335 := n6_
      have NB328_335 := n7_
      have NB335_328 := n8_
      have NB329_335 := n9_
      have NB335_329 := n10_
      have NB330_335 := n11_
      have NB335_330 := n12_
      clear n0_ n1_ n2_ n3_ n4_ n5_ n6_ n7_ n8_ n9_ n10_ n11_ n12_
      clear hb hbox hg
      refine hK.out _ _ (cellc2 BK328.out) (fun hHeld => ?_)
      clear hK K
      refine norm_ (a' := ?_) ?_ ?_
      rotate_left
      ·
       show Act.put _ (some 11) _ = _
       simp only [Act.put, s1_, s2_, s3_, i64_w, i32_w]
       rfl
      refine yI0 3 (tB 47 7) rfl rfl fun K hK => ?_
      refine yc Tryd.func103 #[.int .u64 t331] rfl rfl ?_
      with_reducible refine (haulageref01_Zag.calls t331 t334 _ A6.out).mono ?_
      rintro e w' ⟨rfl, ⟨nd, rfl⟩⟩
      refine ⟨_, rfl, ?_⟩
      refine hK.out _ _ (cellc2 BK328.out) (fun hHeld => ?_)
      clear hK K
      refine norm_ (a' := ?_) ?_ ?_
      rotate_left
      ·
       show Act.put _ (some 30) _ = _
       simp only [Act.put, s1_, s2_, s3_, i64_w, i32_w]
       rfl
      refine yP0 4 31 (tB 63 7) rfl rfl ?_
      exact norm_ (by simp only [putAll, Act.put, s1_, s2_, s3_]) (hCont (gb335) _ ⟨hHeld, (yK BK328), (yK BK329), (yK BK330), (yK BK335), GW335.out, GE335.out, NB328_335.out, NB335_328.out, NB329_335.out, NB335_329.out, NB330_335.out, NB335_330.out, (yG4 HB GE328.out GE329.out GE330.out GE335.out)⟩)
    rintro gb335 w43 ⟨hS_, h0_, h1_, h2_, h3_, h4_, h5_, h6_, h7_, h8_, h9_, h10_, h11_, h12_⟩
    have n0_ : Aside0 (w43.heap[gb328]? = some (.cells #[.int .i64 a0_0, .int .i64 a0_1] 50 (0, 0))) := ⟨h0_⟩
    have n1_ : Aside0 (w43.heap[gb329]? = some (.cells #[.int .i64 0, .int .i64 0, .string (⟨#[]⟩ : ByteArray)] 52 (0, 0))) := ⟨h1_⟩
    have n2_ : Aside0 (w43.heap[gb330]? = some (.cells #[.int .i64 0, .int .i64 0, .string (⟨#[]⟩ : ByteArray)] 52 (0, 0))) := ⟨h2_⟩
    have n3_ : Aside0 (w43.heap[gb335]? = some (.cells #[.int .i64 0, .int .i64 0, .string (⟨#[]⟩ : ByteArray)] 52 (0, 0))) := ⟨h3_⟩
    have n4_ : Aside0 (w.heap.size ≤ gb335) := ⟨h4_⟩
    have n5_ : Aside0 (w.heap.size ≤ gb335) := ⟨h5_⟩
    have n6_ : Aside0 (gb328 ≠ gb335) := ⟨h6_⟩
    have n7_ : Aside0 (gb335 ≠ gb328) := ⟨h7_⟩
    have n8_ : Aside0 (gb329 ≠ gb335) := ⟨h8_⟩
    have n9_ : Aside0 (gb335 ≠ gb329) := ⟨h9_⟩
    have n10_ : Aside0 (gb330 ≠ gb335) := ⟨h10_⟩
    have n11_ : Aside0 (gb335 ≠ gb330) := ⟨h11_⟩
    have n12_ : Aside0 (Below w.heap.size w w43) := ⟨h12_⟩
    clear BK328
    clear BK329
    clear BK330
    clear HB
    clear h0_ h1_ h2_ h3_ h4_ h5_ h6_ h7_ h8_ h9_ h10_ h11_ h12_
    have BK328 := n0_
    have BK329 := n1_
    have BK330 := n2_
    have BK335 := n3_
    have GW335 := n4_
    have GE335 := n5_
    have NB328_335 := n6_
    have NB335_328 := n7_
    have NB329_335 := n8_
    have NB335_329 := n9_
    have NB330_335 := n10_
    have NB335_330 := n11_
    have HB := n12_
    clear n0_ n1_ n2_ n3_ n4_ n5_ n6_ n7_ n8_ n9_ n10_ n11_ n12_
    have hHeld : w43.cell? ⟨gb328, 0, none⟩ = some (.int .i64 a0_0) ∧ w43.cell? ⟨gb328, 1, none⟩ = some (.int .i64 a0_1) := hS_
    refine norm_ (a' := ?_) ?_ ?_
    rotate_left
    ·
     simp only [putAll, Act.put, s1_, s2_, s3_]
     rfl
    refine yI0 6 (tB 127 7) rfl rfl fun K hK => ?_
    have hs44 : w43.cell? ⟨gb335, 0, none⟩ = some (.int .i64 0) := (blk_cell BK335.out 0).trans rfl
    have hfs44 := blk_frozen BK335.out 0
    have hns44_0 := NB328_335.out
    have hns44_1 := NB329_335.out
    have hns44_2 := NB330_335.out
    have hms44_0 := NB335_328.out
    have hms44_1 := NB335_329.out
    have hms44_2 := NB335_330.out
    have hs45 : w43.cell? ⟨gb335, 1, none⟩ = some (.int .i64 0) := (blk_cell BK335.out 1).trans rfl
    have hfs45 := blk_frozen BK335.out 1
    have hns45_0 := NB328_335.out
    have hns45_1 := NB329_335.out
    have hns45_2 := NB330_335.out
    have hms45_0 := NB335_328.out
    have hms45_1 := NB335_329.out
    have hms45_2 := NB335_330.out
    have hs46 : w43.cell? ⟨gb335, 2, none⟩ = some (.string (⟨#[]⟩ : ByteArray)) := (blk_cell BK335.out 2).trans rfl
    have hfs46 := blk_frozen BK335.out 2
    have hns46_0 := NB328_335.out
    have hns46_1 := NB329_335.out
    have hns46_2 := NB330_335.out
    have hms46_0 := NB335_328.out
    have hms46_1 := NB335_329.out
    have hms46_2 := NB335_330.out
    refine skip_ (w1 := ?_) (by rfl) rfl ?_ ?_
    rotate_left
    ·
     go_simp
     rfl
    refine hK.out _ _ ⟨(cF3 NB328_335.out hHeld.1), (cF3 NB328_335.out hHeld.2)⟩ (fun hHeld => ?_)
    clear hK K
    refine done_ (by kernel_rfl) ?_
    have hnb47 := NB328_335.out
    have hnc47 := NB335_328.out
    obtain ⟨hcz48_0, hcz48_1, hfz48_0, hfz48_1⟩ := cells2 BK328.out
    have hnb49 := NB335_329.out
    have hnc49 := NB329_335.out
    have hnb50 := NB335_330.out
    have hnc50 := NB330_335.out
    obtain ⟨hcz51_0, hcz51_1, hcz51_2, hfz51_0, hfz51_1, hfz51_2⟩ := cells3 BK335.out
    try go_wp2_with (first | ((with_reducible refine gate_callee (f := 57) rfl ?_); refine yC 34 Tryd.func57 #[.agg #[.int .i64 a0_0, .int .i64 a0_1], .agg #[.int .i64 a0_0, .int .i64 t334, .string (⟨#[]⟩ : ByteArray)]] rfl ?_; (with_reducible refine (haulageref06_Fits.calls k a0_0 a0_1 a0_0 t334 (⟨#[]⟩ : ByteArray) false _ A7.out).mono ?_); rintro e w52 ⟨rfl, hb⟩; refine ⟨_, rfl, ?_⟩; replace BK328 := aM (kB (yF1 BK328 NB328_335.out) hb); replace BK329 := aM (kB (yF1 BK329 NB329_335.out) hb); replace BK330 := aM (kB (yF1 BK330 NB330_335.out) hb); replace BK335 := aM (kB (puts3 BK335.out) hb); replace HB := aM (bP (yG4 HB GE328.out GE329.out GE330.out GE335.out) hb); (try clear hb); obtain ⟨hcz53_0, hcz53_1, hcz53_2, hfz53_0, hfz53_1, hfz53_2⟩ := cells3 BK330.out; obtain ⟨hcz54_0, hcz54_1, hcz54_2, hfz54_0, hfz54_1, hfz54_2⟩ := cells3 BK329.out))
    refine bodyPost_ret (results_ctt rfl _ _ gb329 52 #[.int .i64 0, .int .i64 0, .string (⟨#[]⟩ : ByteArray)] (0, 0) _ rfl (puts3 BK329.out) Tryd.underlying52 rfl (by kernel_rfl)) rfl ?_
    exact ⟨yE, yG4 HB GE328.out GE329.out GE330.out GE335.out⟩
  ·
   rw [if_neg c5] at H
   have c5b0 : decide (a0_0 < 3) = false := decide_eq_false c5
   clear c5
   by_cases c55 : t331 > (IntKind.u64.wrap (a0_1))
   ·
    rw [if_pos c55] at H
    have c55b0 : decide ((IntKind.u64.wrap (a0_1)) < t331) = true := decide_eq_true c55
    clear c55
    simp only [Option.some.injEq, Prod.mk.injEq] at H
    obtain ⟨rfl, rfl, rfl, rfl, rfl⟩ := H
    go_enter Tryd.func87, Tryd.ntmps87
    go_wp2_with (first | ((with_reducible refine gate_dst (N := 2) rfl ?_); refine yX (N := 2) (cs := #[.int .i64 a0_0, .int .i64 a0_1]) (t := 50) ?_; intro gb328 hg w56 hbox hb; have BK328 := aM (hbox); have GW328 := yZ hg (yB HB); have GE328 := yZ hg (yB HB); replace HB := aM (bP (yB HB) hb); clear hb hbox hg) | ((with_reducible refine gate_dst (N := 4) rfl ?_); refine yX (N := 4) (cs := #[.int .i64 0, .int .i64 0, .string (⟨#[]⟩ : ByteArray)]) (t := 52) ?_; intro gb329 hg w57 hbox hb; have BK329 := aM (hbox); have GW329 := yZ hg (yG1 HB GE328.out); have GE329 := yZ hg (yG1 HB GE328.out); replace HB := aM (bP (yG1 HB GE328.out) hb); have NB328_329 := yN hg (yK BK328); have NB329_328 := yM hg (yK BK328); replace BK328 := aM (kB (yK BK328) hb); clear hb hbox hg) | ((with_reducible refine gate_dst (N := 7) rfl ?_); refine yX (N := 7) (cs := #[.int .i64 0, .int .i64 0, .string (⟨#[]⟩ : ByteArray)]) (t := 52) ?_; intro gb330 hg w58 hbox hb; have BK330 := aM (hbox); have GW330 := yZ hg (yG2 HB GE328.out GE329.out); have GE330 := yZ hg (yG2 HB GE328.out GE329.out); replace HB := aM (bP (yG2 HB GE328.out GE329.out) hb); have NB328_330 := yN hg (yK BK328); have NB330_328 := yM hg (yK BK328); replace BK328 := aM (kB (yK BK328) hb); have NB329_330 := yN hg (yK BK329); have NB330_329 := yM hg (yK BK329); replace BK329 := aM (kB (yK BK329) hb); clear hb hbox hg; have hnb59 := NB330_328.out; have hnc59 := NB328_330.out; have hnb60 := NB330_329.out; have hnc60 := NB329_330.out; obtain ⟨hcz61_0, hcz61_1, hcz61_2, hfz61_0, hfz61_1, hfz61_2⟩ := cells3 BK330.out) | ((with_reducible refine gate_callee (f := 102) rfl ?_); refine yC 16 Tryd.func102 #[.string a1] rfl ?_; (with_reducible refine (haulageref01_Long.calls k a1 t331 t332 t333 _ A3.out).mono ?_); rintro e w' ⟨rfl, ⟨nd, rfl⟩⟩; refine ⟨_, rfl, ?_⟩; have hnb62 := NB328_329.out; have hnc62 := NB329_328.out; obtain ⟨hcz63_0, hcz63_1, hfz63_0, hfz63_1⟩ := cells2 BK328.out; obtain ⟨hcz64_0, hcz64_1, hcz64_2, hfz64_0, hfz64_1, hfz64_2⟩ := cells3 BK329.out))
    refine bodyPost_ret (results_ctt rfl _ _ gb329 52 #[.int .i64 0, .int .i64 0, .string (⟨#[]⟩ : ByteArray)] (0, 0) _ rfl (by (with_reducible repeat (first | refine kN ?_ _ | refine kD ?_ | refine kA ?_ _)); refine kP (cs := #[.int .i64 0, .int .i64 0, .string (⟨#[]⟩ : ByteArray)]) ?_ 2 _ rfl; (with_reducible repeat (first | refine kN ?_ _ | refine kD ?_ | refine kA ?_ _)); refine kP (cs := #[.int .i64 0, .int .i64 0, .string (⟨#[]⟩ : ByteArray)]) ?_ 1 _ rfl; (with_reducible repeat (first | refine kN ?_ _ | refine kD ?_ | refine kA ?_ _)); refine kP (cs := #[.int .i64 0, .int .i64 0, .string (⟨#[]⟩ : ByteArray)]) ?_ 0 _ rfl; (repeat ((with_reducible repeat (first | refine kN ?_ _ | refine kD ?_ | refine kA ?_ _)); refine kF ?_ NB329_330.out _)); (with_reducible repeat (first | refine kN ?_ _ | refine kD ?_ | refine kA ?_ _)); exact BK329.out) Tryd.underlying52 rfl (by kernel_rfl)) rfl ?_
    exact ⟨yE, yG3 HB GE328.out GE329.out GE330.out⟩
   ·
    rw [if_neg c55] at H
    have c55b0 : decide ((IntKind.u64.wrap (a0_1)) < t331) = false := decide_eq_false c55
    clear c55
    by_cases c65 : (wrap64 (t331)) > (wrap64 ((a1.size : Int) - t332))
    ·
     rw [if_pos c65] at H
     have c65b0 : decide ((wrap64 ((a1.size : Int) - t332)) < (wrap64 (t331))) = true := decide_eq_true c65
     clear c65
     simp only [Option.some.injEq, Prod.mk.injEq] at H
     obtain ⟨rfl, rfl, rfl, rfl, rfl⟩ := H
     go_enter Tryd.func87, Tryd.ntmps87
     go_wp2_with (first | ((with_reducible refine gate_dst (N := 2) rfl ?_); refine yX (N := 2) (cs := #[.int .i64 a0_0, .int .i64 a0_1]) (t := 50) ?_; intro gb328 hg w66 hbox hb; have BK328 := aM (hbox); have GW328 := yZ hg (yB HB); have GE328 := yZ hg (yB HB); replace HB := aM (bP (yB HB) hb); clear hb hbox hg) | ((with_reducible refine gate_dst (N := 4) rfl ?_); refine yX (N := 4) (cs := #[.int .i64 0, .int .i64 0, .string (⟨#[]⟩ : ByteArray)]) (t := 52) ?_; intro gb329 hg w67 hbox hb; have BK329 := aM (hbox); have GW329 := yZ hg (yG1 HB GE328.out); have GE329 := yZ hg (yG1 HB GE328.out); replace HB := aM (bP (yG1 HB GE328.out) hb); have NB328_329 := yN hg (yK BK328); have NB329_328 := yM hg (yK BK328); replace BK328 := aM (kB (yK BK328) hb); clear hb hbox hg) | ((with_reducible refine gate_dst (N := 7) rfl ?_); refine yX (N := 7) (cs := #[.int .i64 0, .int .i64 0, .string (⟨#[]⟩ : ByteArray)]) (t := 52) ?_; intro gb330 hg w68 hbox hb; have BK330 := aM (hbox); have GW330 := yZ hg (yG2 HB GE328.out GE329.out); have GE330 := yZ hg (yG2 HB GE328.out GE329.out); replace HB := aM (bP (yG2 HB GE328.out GE329.out) hb); have NB328_330 := yN hg (yK BK328); have NB330_328 := yM hg (yK BK328); replace BK328 := aM (kB (yK BK328) hb); have NB329_330 := yN hg (yK BK329); have NB330_329 := yM hg (yK BK329); replace BK329 := aM (kB (yK BK329) hb); clear hb hbox hg; have hnb69 := NB330_328.out; have hnc69 := NB328_330.out; have hnb70 := NB330_329.out; have hnc70 := NB329_330.out; obtain ⟨hcz71_0, hcz71_1, hcz71_2, hfz71_0, hfz71_1, hfz71_2⟩ := cells3 BK330.out) | ((with_reducible refine gate_callee (f := 102) rfl ?_); refine yC 16 Tryd.func102 #[.string a1] rfl ?_; (with_reducible refine (haulageref01_Long.calls k a1 t331 t332 t333 _ A3.out).mono ?_); rintro e w' ⟨rfl, ⟨nd, rfl⟩⟩; refine ⟨_, rfl, ?_⟩; have hnb72 := NB328_329.out; have hnc72 := NB329_328.out; obtain ⟨hcz73_0, hcz73_1, hfz73_0, hfz73_1⟩ := cells2 BK328.out; obtain ⟨hcz74_0, hcz74_1, hcz74_2, hfz74_0, hfz74_1, hfz74_2⟩ := cells3 BK329.out))
     refine bodyPost_ret (results_ctt rfl _ _ gb329 52 #[.int .i64 0, .int .i64 0, .string (⟨#[]⟩ : ByteArray)] (0, 0) _ rfl (by (with_reducible repeat (first | refine kN ?_ _ | refine kD ?_ | refine kA ?_ _)); refine kP (cs := #[.int .i64 0, .int .i64 0, .string (⟨#[]⟩ : ByteArray)]) ?_ 2 _ rfl; (with_reducible repeat (first | refine kN ?_ _ | refine kD ?_ | refine kA ?_ _)); refine kP (cs := #[.int .i64 0, .int .i64 0, .string (⟨#[]⟩ : ByteArray)]) ?_ 1 _ rfl; (with_reducible repeat (first | refine kN ?_ _ | refine kD ?_ | refine kA ?_ _)); refine kP (cs := #[.int .i64 0, .int .i64 0, .string (⟨#[]⟩ : ByteArray)]) ?_ 0 _ rfl; (repeat ((with_reducible repeat (first | refine kN ?_ _ | refine kD ?_ | refine kA ?_ _)); refine kF ?_ NB329_330.out _)); (with_reducible repeat (first | refine kN ?_ _ | refine kD ?_ | refine kA ?_ _)); exact BK329.out) Tryd.underlying52 rfl (by kernel_rfl)) rfl ?_
     exact ⟨yE, yG3 HB GE328.out GE329.out GE330.out⟩
    ·
     rw [if_neg c65] at H
     have c65b0 : decide ((wrap64 ((a1.size : Int) - t332)) < (wrap64 (t331))) = false := decide_eq_false c65
     clear c65
     by_cases c75 : 0 ≤ t332
     ·
      rw [if_pos c75] at H
      have c75b0 := eq_true c75
      have c75b1 : decide (0 ≤ t332) = true := decide_eq_true c75
      clear c75
      by_cases c76 : t332 ≤ (wrap64 (t332 + (wrap64 (t331))))
      ·
       rw [if_pos c76] at H
       have c76b0 := eq_true c76
       have c76b1 : decide (t332 ≤ (wrap64 (t332 + (wrap64 (t331))))) = true := decide_eq_true c76
       by_cases c77 : (wrap64 (t332 + (wrap64 (t331)))) ≤ (a1.size : Int)
       ·
        rw [if_pos c77] at H
        have c77b0 := eq_true c77
        have c77b1 : decide ((wrap64 (t332 + (wrap64 (t331)))) ≤ (a1.size : Int)) = true := decide_eq_true c77
        by_cases c78 : a0_0 = 3
        ·
         rw [if_pos c78] at H
         have c78b0 : (a0_0 == 3) = true := beq_iff_eq.mpr c78
         have c78b1 : (a0_0 != 3) = false := bne_eq_false_iff_eq.mpr c78
         clear c78
         obtain ⟨t338, A79, H⟩ := yb H
         by_cases c80 : t338 = true
         ·
          subst c80
          replace H := yt H
          simp only [Option.some.injEq, Prod.mk.injEq] at H
          obtain ⟨rfl, rfl, rfl, rfl, rfl⟩ := H
          go_enter Tryd.func87, Tryd.ntmps87
          try go_wp2_with (first | ((with_reducible refine gate_dst (N := 2) rfl ?_); refine yX (N := 2) (cs := #[.int .i64 a0_0, .int .i64 a0_1]) (t := 50) ?_; intro gb328 hg w81 hbox hb; have BK328 := aM (hbox); have GW328 := yZ hg (yB HB); have GE328 := yZ hg (yB HB); replace HB := aM (bP (yB HB) hb); clear hb hbox hg) | ((with_reducible refine gate_dst (N := 4) rfl ?_); refine yX (N := 4) (cs := #[.int .i64 0, .int .i64 0, .string (⟨#[]⟩ : ByteArray)]) (t := 52) ?_; intro gb329 hg w82 hbox hb; have BK329 := aM (hbox); have GW329 := yZ hg (yG1 HB GE328.out); have GE329 := yZ hg (yG1 HB GE328.out); replace HB := aM (bP (yG1 HB GE328.out) hb); have NB328_329 := yN hg (yK BK328); have NB329_328 := yM hg (yK BK328); replace BK328 := aM (kB (yK BK328) hb); clear hb hbox hg) | ((with_reducible refine gate_dst (N := 7) rfl ?_); refine yX (N := 7) (cs := #[.int .i64 0, .int .i64 0, .string (⟨#[]⟩ : ByteArray)]) (t := 52) ?_; intro gb330 hg w83 hbox hb; have BK330 := aM (hbox); have GW330 := yZ hg (yG2 HB GE328.out GE329.out); have GE330 := yZ hg (yG2 HB GE328.out GE329.out); replace HB := aM (bP (yG2 HB GE328.out GE329.out) hb); have NB328_330 := yN hg (yK BK328); have NB330_328 := yM hg (yK BK328); replace BK328 := aM (kB (yK BK328) hb); have NB329_330 := yN hg (yK BK329); have NB330_329 := yM hg (yK BK329); replace BK329 := aM (kB (yK BK329) hb); clear hb hbox hg; have hnb84 := NB330_328.out; have hnc84 := NB328_330.out; have hnb85 := NB330_329.out; have hnc85 := NB329_330.out; obtain ⟨hcz86_0, hcz86_1, hcz86_2, hfz86_0, hfz86_1, hfz86_2⟩ := cells3 BK330.out) | ((with_reducible refine gate_callee (f := 102) rfl ?_); refine yC 16 Tryd.func102 #[.string a1] rfl ?_; (with_reducible refine (haulageref01_Long.calls k a1 t331 t332 t333 _ A3.out).mono ?_); rintro e w' ⟨rfl, ⟨nd, rfl⟩⟩; refine ⟨_, rfl, ?_⟩; have hnb87 := NB328_329.out; have hnc87 := NB329_328.out; obtain ⟨hcz88_0, hcz88_1, hfz88_0, hfz88_1⟩ := cells2 BK328.out))
          have n0_ : Aside0 ((((w83.setCell ⟨gb330, 0, none⟩ (.int .i64 0)).setCell ⟨gb330, 1, none⟩ (.int .i64 0)).setCell ⟨gb330, 2, none⟩ (.string (⟨#[]⟩ : ByteArray))).heap[gb328]? = some (.cells #[.int .i64 a0_0, .int .i64 a0_1] 50 (0, 0))) := ⟨yF1 BK328 NB328_330.out⟩
          have n1_ : Aside0 ((((w83.setCell ⟨gb330, 0, none⟩ (.int .i64 0)).setCell ⟨gb330, 1, none⟩ (.int .i64 0)).setCell ⟨gb330, 2, none⟩ (.string (⟨#[]⟩ : ByteArray))).heap[gb329]? = some (.cells #[.int .i64 0, .int .i64 0, .string (⟨#[]⟩ : ByteArray)] 52 (0, 0))) := ⟨yF1 BK329 NB329_330.out⟩
          have n2_ : Aside0 ((((w83.setCell ⟨gb330, 0, none⟩ (.int .i64 0)).setCell ⟨gb330, 1, none⟩ (.int .i64 0)).setCell ⟨gb330, 2, none⟩ (.string (⟨#[]⟩ : ByteArray))).heap[gb330]? = some (.cells #[.int .i64 0, .int .i64 0, .string (⟨#[]⟩ : ByteArray)] 52 (0, 0))) := ⟨puts3 BK330.out⟩
          have n3_ : Aside0 (Below w.heap.size w (((w83.setCell ⟨gb330, 0, none⟩ (.int .i64 0)).setCell ⟨gb330, 1, none⟩ (.int .i64 0)).setCell ⟨gb330, 2, none⟩ (.string (⟨#[]⟩ : ByteArray)))) := ⟨yG3 HB GE328.out GE329.out GE330.out⟩
          (try clear BK328)
          (try clear BK329)
          (try clear BK330)
          (try clear HB)
          generalize (((w83.setCell ⟨gb330, 0, none⟩ (.int .i64 0)).setCell ⟨gb330, 1, none⟩ (.int .i64 0)).setCell ⟨gb330, 2, none⟩ (.string (⟨#[]⟩ : ByteArray))) = w89 at n0_ n1_ n2_ n3_ ⊢
          have BK328 := n0_
          have BK329 := n1_
          have BK330 := n2_
          have HB := n3_
          clear n0_ n1_ n2_ n3_
          (try (rw [drewN_self w89]; generalize hq_ : World.drewN w89 _ = w89; have n0_ : Aside0 (w89.heap[gb328]? = some (.cells #[.int .i64 a0_0, .int .i64 a0_1] 50 (0, 0))) := ⟨by rw [← hq_]; exact (yK BK328)⟩; have n1_ : Aside0 (w89.heap[gb329]? = some (.cells #[.int .i64 0, .int .i64 0, .string (⟨#[]⟩ : ByteArray)] 52 (0, 0))) := ⟨by rw [← hq_]; exact (yK BK329)⟩; have n2_ : Aside0 (w89.heap[gb330]? = some (.cells #[.int .i64 0, .int .i64 0, .string (⟨#[]⟩ : ByteArray)] 52 (0, 0))) := ⟨by rw [← hq_]; exact (yK BK330)⟩; have n3_ : Aside0 (Below w.heap.size w w89) := ⟨by rw [← hq_]; exact (yG3 HB GE328.out GE329.out GE330.out)⟩; clear BK328 BK329 BK330 HB hq_; have BK328 := n0_; have BK329 := n1_; have BK330 := n2_; have HB := n3_; clear n0_ n1_ n2_ n3_))
          have n0_ := aM (kD BK328.out)
          have n1_ := aM (kD BK329.out)
          have n2_ := aM (kD BK330.out)
          have n3_ := aM (b1 HB.out)
          clear BK328
          clear BK329
          clear BK330
          clear HB
          have BK328 := n0_
          have BK329 := n1_
          have BK330 := n2_
          have HB := n3_
          clear n0_ n1_ n2_ n3_
          refine start_ (n := 12) (S := fun w' => w'.cell? ⟨gb328, 0, none⟩ = some (.int .i64 a0_0) ∧ w'.cell? ⟨gb328, 1, none⟩ = some (.int .i64 a0_1)) (ds := []) (tB 0 12) (by kernel_rfl) rfl rfl (cellc2 BK328.out) (fun hHeld => ?_); refine with_tabW haulageref12_read.tab14 haulageref12_read.bits14 (fun HT_ HW_ => ?_)
          generalize w89.drew = w90 at BK328 BK329 BK330 HB hHeld ⊢
          refine yP HT_ 0 53 (tB 1 12) rfl rfl ?_
          refine yP HT_ 2 55 (tB 5 12) rfl rfl ?_
          refine yP HT_ 3 56 (tB 13 12) rfl rfl ?_
          refine yP HT_ 4 57 (tB 29 12) rfl rfl ?_
          refine yP HT_ 5 58 (tB 61 12) rfl rfl ?_
          refine yP HT_ 6 59 (tB 125 12) rfl rfl ?_
          refine yP HT_ 7 60 (tB 253 12) rfl rfl ?_
          refine yP HT_ 8 61 (tB 509 12) rfl rfl ?_
          refine yT HT_ HW_ 1 54 (tB 511 12) rfl rfl hHeld ?_
          refine yP HT_ 9 62 (tB 1023 12) rfl rfl ?_
          refine yI HT_ 10 (tB 2047 12) rfl rfl fun K hK => ?_
          refine box_step ?hg (N := 12) ?hd (cs := #[.int .i64 0, .int .i64 0, .string (⟨#[]⟩ : ByteArray)]) (t := 52) ?hr ?_; (case hd => rfl); (case hg => rfl); (case hr => first | (go_simp; done) | (go_simp; rfl))
          intro gb337 hg w91 hbox hb
          have n0_ := aM (kB (yK BK328) hb)
          have n1_ := aM (kB (yK BK329) hb)
          have n2_ := aM (kB (yK BK330) hb)
          have n3_ := aM (bP (yG3 HB GE328.out GE329.out GE330.out) hb)
          have n4_ := aM (hbox)
          have n5_ := yZ hg (yG3 HB GE328.out GE329.out GE330.out)
          have n6_ := yZ hg (yG3 HB GE328.out GE329.out GE330.out)
          have n7_ := yN hg (yK BK328)
          have n8_ := yM hg (yK BK328)
          have n9_ := yN hg (yK BK329)
          have n10_ := yM hg (yK BK329)
          have n11_ := yN hg (yK BK330)
          have n12_ := yM hg (yK BK330)
          clear BK328
          clear BK329
          clear BK330
          clear HB
          have BK328 := n0_
          have BK329 := n1_
          have BK330 := n2_
          have HB := n3_
          have BK337 := n4_
          have GW337 := n5_
          have GE337 := n6_
          have NB328_337 := n7_
          have NB337_328 := n8_
          have NB329_337 := n9_
          have NB337_329 := n10_
          have NB330_337 := n11_
          have NB337_330 := n12_
          clear n0_ n1_ n2_ n3_ n4_ n5_ n6_ n7_ n8_ n9_ n10_ n11_ n12_
          clear hb hbox hg
          refine hK.out _ _ (cellc2 BK328.out) (fun hHeld => ?_)
          clear hK K
          refine norm_ (a' := ?_) ?_ ?_
          rotate_left
          ·
           show Act.put _ (some 12) _ = _
           simp only [Act.put, s1_, s2_, s3_, i64_w, i32_w]
           rfl
          refine yI HT_ 11 (tB 4095 12) rfl rfl fun K hK => ?_
          have hs92 : w91.cell? ⟨gb337, 0, none⟩ = some (.int .i64 0) := (blk_cell BK337.out 0).trans rfl
          have hfs92 := blk_frozen BK337.out 0
          have hns92_0 := NB328_337.out
          have hns92_1 := NB329_337.out
          have hns92_2 := NB330_337.out
          have hms92_0 := NB337_328.out
          have hms92_1 := NB337_329.out
          have hms92_2 := NB337_330.out
          have hs93 : w91.cell? ⟨gb337, 1, none⟩ = some (.int .i64 0) := (blk_cell BK337.out 1).trans rfl
          have hfs93 := blk_frozen BK337.out 1
          have hns93_0 := NB328_337.out
          have hns93_1 := NB329_337.out
          have hns93_2 := NB330_337.out
          have hms93_0 := NB337_328.out
          have hms93_1 := NB337_329.out
          have hms93_2 := NB337_330.out
          have hs94 : w91.cell? ⟨gb337, 2, none⟩ = some (.string (⟨#[]⟩ : ByteArray)) := (blk_cell BK337.out 2).trans rfl
          have hfs94 := blk_frozen BK337.out 2
          have hns94_0 := NB328_337.out
          have hns94_1 := NB329_337.out
          have hns94_2 := NB330_337.out
          have hms94_0 := NB337_328.out
          have hms94_1 := NB337_329.out
          have hms94_2 := NB337_330.out
          refine skip_ (w1 := ?_) (by rfl) rfl ?_ ?_
          rotate_left
          ·
           go_simp
           rfl
          refine hK.out _ _ ⟨(cF3 NB328_337.out hHeld.1), (cF3 NB328_337.out hHeld.2)⟩ (fun hHeld => ?_)
          clear hK K
          refine done_ (done_of HT_.out (by kernel_rfl)) ?_
          have hnb95 := NB328_337.out
          have hnc95 := NB337_328.out
          obtain ⟨hcz96_0, hcz96_1, hfz96_0, hfz96_1⟩ := cells2 BK328.out
          have hnb97 := NB337_329.out
          have hnc97 := NB329_337.out
          have hnb98 := NB337_330.out
          have hnc98 := NB330_337.out
          obtain ⟨hcz99_0, hcz99_1, hcz99_2, hfz99_0, hfz99_1, hfz99_2⟩ := cells3 BK337.out
          try go_wp2_with (first | (go_at_call 104; (with_reducible refine (haulageref03_Right.calls k (a1.extract (t332 : Int).toNat ((wrap64 (t332 + (wrap64 (t331)))) : Int).toNat) true _ A79.out).mono ?_); rintro e w100 ⟨rfl, hb⟩; replace BK328 := aM (kB (yF1 BK328 NB328_337.out) hb); replace BK329 := aM (kB (yF1 BK329 NB329_337.out) hb); replace BK330 := aM (kB (yF1 BK330 NB330_337.out) hb); replace BK337 := aM (kB (puts3 BK337.out) hb); replace HB := aM (bP (yG4 HB GE328.out GE329.out GE330.out GE337.out) hb); (try clear hb); (try clear hb2); (try clear hk); (try clear hi); obtain ⟨hcz101_0, hcz101_1, hcz101_2, hfz101_0, hfz101_1, hfz101_2⟩ := cells3 BK337.out; obtain ⟨hcz102_0, hcz102_1, hcz102_2, hfz102_0, hfz102_1, hfz102_2⟩ := cells3 BK329.out))
          refine bodyPost_ret (results_ctt rfl _ _ gb329 52 #[.int .i64 a0_0, .int .i64 0, .string (a1.extract (t332 : Int).toNat ((wrap64 (t332 + (wrap64 (t331)))) : Int).toNat)] (0, 0) _ rfl (puts3 BK329.out) Tryd.underlying52 rfl (by kernel_rfl)) rfl ?_
          exact ⟨yE, yG4 HB GE328.out GE329.out GE330.out GE337.out⟩
         ·
          replace c80 := Bool.eq_false_iff.mpr c80
          subst c80
          replace H := yf H
          simp only [Option.some.injEq, Prod.mk.injEq] at H
          obtain ⟨rfl, rfl, rfl, rfl, rfl⟩ := H
          go_enter Tryd.func87, Tryd.ntmps87
          try go_wp2_with (first | ((with_reducible refine gate_dst (N := 2) rfl ?_); refine yX (N := 2) (cs := #[.int .i64 a0_0, .int .i64 a0_1]) (t := 50) ?_; intro gb328 hg w103 hbox hb; have BK328 := aM (hbox); have GW328 := yZ hg (yB HB); have GE328 := yZ hg (yB HB); replace HB := aM (bP (yB HB) hb); clear hb hbox hg) | ((with_reducible refine gate_dst (N := 4) rfl ?_); refine yX (N := 4) (cs := #[.int .i64 0, .int .i64 0, .string (⟨#[]⟩ : ByteArray)]) (t := 52) ?_; intro gb329 hg w104 hbox hb; have BK329 := aM (hbox); have GW329 := yZ hg (yG1 HB GE328.out); have GE329 := yZ hg (yG1 HB GE328.out); replace HB := aM (bP (yG1 HB GE328.out) hb); have NB328_329 := yN hg (yK BK328); have NB329_328 := yM hg (yK BK328); replace BK328 := aM (kB (yK BK328) hb); clear hb hbox hg) | ((with_reducible refine gate_dst (N := 7) rfl ?_); refine yX (N := 7) (cs := #[.int .i64 0, .int .i64 0, .string (⟨#[]⟩ : ByteArray)]) (t := 52) ?_; intro gb330 hg w105 hbox hb; have BK330 := aM (hbox); have GW330 := yZ hg (yG2 HB GE328.out GE329.out); have GE330 := yZ hg (yG2 HB GE328.out GE329.out); replace HB := aM (bP (yG2 HB GE328.out GE329.out) hb); have NB328_330 := yN hg (yK BK328); have NB330_328 := yM hg (yK BK328); replace BK328 := aM (kB (yK BK328) hb); have NB329_330 := yN hg (yK BK329); have NB330_329 := yM hg (yK BK329); replace BK329 := aM (kB (yK BK329) hb); clear hb hbox hg; have hnb106 := NB330_328.out; have hnc106 := NB328_330.out; have hnb107 := NB330_329.out; have hnc107 := NB329_330.out; obtain ⟨hcz108_0, hcz108_1, hcz108_2, hfz108_0, hfz108_1, hfz108_2⟩ := cells3 BK330.out) | ((with_reducible refine gate_callee (f := 102) rfl ?_); refine yC 16 Tryd.func102 #[.string a1] rfl ?_; (with_reducible refine (haulageref01_Long.calls k a1 t331 t332 t333 _ A3.out).mono ?_); rintro e w' ⟨rfl, ⟨nd, rfl⟩⟩; refine ⟨_, rfl, ?_⟩; have hnb109 := NB328_329.out; have hnc109 := NB329_328.out; obtain ⟨hcz110_0, hcz110_1, hfz110_0, hfz110_1⟩ := cells2 BK328.out))
          have n0_ : Aside0 ((((w105.setCell ⟨gb330, 0, none⟩ (.int .i64 0)).setCell ⟨gb330, 1, none⟩ (.int .i64 0)).setCell ⟨gb330, 2, none⟩ (.string (⟨#[]⟩ : ByteArray))).heap[gb328]? = some (.cells #[.int .i64 a0_0, .int .i64 a0_1] 50 (0, 0))) := ⟨yF1 BK328 NB328_330.out⟩
          have n1_ : Aside0 ((((w105.setCell ⟨gb330, 0, none⟩ (.int .i64 0)).setCell ⟨gb330, 1, none⟩ (.int .i64 0)).setCell ⟨gb330, 2, none⟩ (.string (⟨#[]⟩ : ByteArray))).heap[gb329]? = some (.cells #[.int .i64 0, .int .i64 0, .string (⟨#[]⟩ : ByteArray)] 52 (0, 0))) := ⟨yF1 BK329 NB329_330.out⟩
          have n2_ : Aside0 ((((w105.setCell ⟨gb330, 0, none⟩ (.int .i64 0)).setCell ⟨gb330, 1, none⟩ (.int .i64 0)).setCell ⟨gb330, 2, none⟩ (.string (⟨#[]⟩ : ByteArray))).heap[gb330]? = some (.cells #[.int .i64 0, .int .i64 0, .string (⟨#[]⟩ : ByteArray)] 52 (0, 0))) := ⟨puts3 BK330.out⟩
          have n3_ : Aside0 (Below w.heap.size w (((w105.setCell ⟨gb330, 0, none⟩ (.int .i64 0)).setCell ⟨gb330, 1, none⟩ (.int .i64 0)).setCell ⟨gb330, 2, none⟩ (.string (⟨#[]⟩ : ByteArray)))) := ⟨yG3 HB GE328.out GE329.out GE330.out⟩
          (try clear BK328)
          (try clear BK329)
          (try clear BK330)
          (try clear HB)
          generalize (((w105.setCell ⟨gb330, 0, none⟩ (.int .i64 0)).setCell ⟨gb330, 1, none⟩ (.int .i64 0)).setCell ⟨gb330, 2, none⟩ (.string (⟨#[]⟩ : ByteArray))) = w111 at n0_ n1_ n2_ n3_ ⊢
          have BK328 := n0_
          have BK329 := n1_
          have BK330 := n2_
          have HB := n3_
          clear n0_ n1_ n2_ n3_
          (try (rw [drewN_self w111]; generalize hq_ : World.drewN w111 _ = w111; have n0_ : Aside0 (w111.heap[gb328]? = some (.cells #[.int .i64 a0_0, .int .i64 a0_1] 50 (0, 0))) := ⟨by rw [← hq_]; exact (yK BK328)⟩; have n1_ : Aside0 (w111.heap[gb329]? = some (.cells #[.int .i64 0, .int .i64 0, .string (⟨#[]⟩ : ByteArray)] 52 (0, 0))) := ⟨by rw [← hq_]; exact (yK BK329)⟩; have n2_ : Aside0 (w111.heap[gb330]? = some (.cells #[.int .i64 0, .int .i64 0, .string (⟨#[]⟩ : ByteArray)] 52 (0, 0))) := ⟨by rw [← hq_]; exact (yK BK330)⟩; have n3_ : Aside0 (Below w.heap.size w w111) := ⟨by rw [← hq_]; exact (yG3 HB GE328.out GE329.out GE330.out)⟩; clear BK328 BK329 BK330 HB hq_; have BK328 := n0_; have BK329 := n1_; have BK330 := n2_; have HB := n3_; clear n0_ n1_ n2_ n3_))
          have n0_ := aM (kD BK328.out)
          have n1_ := aM (kD BK329.out)
          have n2_ := aM (kD BK330.out)
          have n3_ := aM (b1 HB.out)
          clear BK328
          clear BK329
          clear BK330
          clear HB
          have BK328 := n0_
          have BK329 := n1_
          have BK330 := n2_
          have HB := n3_
          clear n0_ n1_ n2_ n3_
          refine start_ (n := 12) (S := fun w' => w'.cell? ⟨gb328, 0, none⟩ = some (.int .i64 a0_0) ∧ w'.cell? ⟨gb328, 1, none⟩ = some (.int .i64 a0_1)) (ds := []) (tB 0 12) (by kernel_rfl) rfl rfl (cellc2 BK328.out) (fun hHeld => ?_); refine with_tabW haulageref12_read.tab14 haulageref12_read.bits14 (fun HT_ HW_ => ?_)
          generalize w111.drew = w112 at BK328 BK329 BK330 HB hHeld ⊢
          refine yP HT_ 0 53 (tB 1 12) rfl rfl ?_
          refine yP HT_ 2 55 (tB 5 12) rfl rfl ?_
          refine yP HT_ 3 56 (tB 13 12) rfl rfl ?_
          refine yP HT_ 4 57 (tB 29 12) rfl rfl ?_
          refine yP HT_ 5 58 (tB 61 12) rfl rfl ?_
          refine yP HT_ 6 59 (tB 125 12) rfl rfl ?_
          refine yP HT_ 7 60 (tB 253 12) rfl rfl ?_
          refine yP HT_ 8 61 (tB 509 12) rfl rfl ?_
          refine yT HT_ HW_ 1 54 (tB 511 12) rfl rfl hHeld ?_
          refine yP HT_ 9 62 (tB 1023 12) rfl rfl ?_
          refine yI HT_ 10 (tB 2047 12) rfl rfl fun K hK => ?_
          refine box_step ?hg (N := 12) ?hd (cs := #[.int .i64 0, .int .i64 0, .string (⟨#[]⟩ : ByteArray)]) (t := 52) ?hr ?_; (case hd => rfl); (case hg => rfl); (case hr => first | (go_simp; done) | (go_simp; rfl))
          intro gb337 hg w113 hbox hb
          have n0_ := aM (kB (yK BK328) hb)
          have n1_ := aM (kB (yK BK329) hb)
          have n2_ := aM (kB (yK BK330) hb)
          have n3_ := aM (bP (yG3 HB GE328.out GE329.out GE330.out) hb)
          have n4_ := aM (hbox)
          have n5_ := yZ hg (yG3 HB GE328.out GE329.out GE330.out)
          have n6_ := yZ hg (yG3 HB GE328.out GE329.out GE330.out)
          have n7_ := yN hg (yK BK328)
          have n8_ := yM hg (yK BK328)
          have n9_ := yN hg (yK BK329)
          have n10_ := yM hg (yK BK329)
          have n11_ := yN hg (yK BK330)
          have n12_ := yM hg (yK BK330)
          clear BK328
          clear BK329
          clear BK330
          clear HB
          have BK328 := n0_
          have BK329 := n1_
          have BK330 := n2_
          have HB := n3_
          have BK337 := n4_
          have GW337 := n5_
          have GE337 := n6_
          have NB328_337 := n7_
          have NB337_328 := n8_
          have NB329_337 := n9_
          have NB337_329 := n10_
          have NB330_337 := n11_
          have NB337_330 := n12_
          clear n0_ n1_ n2_ n3_ n4_ n5_ n6_ n7_ n8_ n9_ n10_ n11_ n12_
          clear hb hbox hg
          refine hK.out _ _ (cellc2 BK328.out) (fun hHeld => ?_)
          clear hK K
          refine norm_ (a' := ?_) ?_ ?_
          rotate_left
          ·
           show Act.put _ (some 12) _ = _
           simp only [Act.put, s1_, s2_, s3_, i64_w, i32_w]
           rfl
          refine yI HT_ 11 (tB 4095 12) rfl rfl fun K hK => ?_
          have hs114 : w113.cell? ⟨gb337, 0, none⟩ = some (.int .i64 0) := (blk_cell BK337.out 0).trans rfl
          have hfs114 := blk_frozen BK337.out 0
          have hns114_0 := NB328_337.out
          have hns114_1 := NB329_337.out
          have hns114_2 := NB330_337.out
          have hms114_0 := NB337_328.out
          have hms114_1 := NB337_329.out
          have hms114_2 := NB337_330.out
          have hs115 : w113.cell? ⟨gb337, 1, none⟩ = some (.int .i64 0) := (blk_cell BK337.out 1).trans rfl
          have hfs115 := blk_frozen BK337.out 1
          have hns115_0 := NB328_337.out
          have hns115_1 := NB329_337.out
          have hns115_2 := NB330_337.out
          have hms115_0 := NB337_328.out
          have hms115_1 := NB337_329.out
          have hms115_2 := NB337_330.out
          have hs116 : w113.cell? ⟨gb337, 2, none⟩ = some (.string (⟨#[]⟩ : ByteArray)) := (blk_cell BK337.out 2).trans rfl
          have hfs116 := blk_frozen BK337.out 2
          have hns116_0 := NB328_337.out
          have hns116_1 := NB329_337.out
          have hns116_2 := NB330_337.out
          have hms116_0 := NB337_328.out
          have hms116_1 := NB337_329.out
          have hms116_2 := NB337_330.out
          refine skip_ (w1 := ?_) (by rfl) rfl ?_ ?_
          rotate_left
          ·
           go_simp
           rfl
          refine hK.out _ _ ⟨(cF3 NB328_337.out hHeld.1), (cF3 NB328_337.out hHeld.2)⟩ (fun hHeld => ?_)
          clear hK K
          refine done_ (done_of HT_.out (by kernel_rfl)) ?_
          have hnb117 := NB328_337.out
          have hnc117 := NB337_328.out
          obtain ⟨hcz118_0, hcz118_1, hfz118_0, hfz118_1⟩ := cells2 BK328.out
          have hnb119 := NB337_329.out
          have hnc119 := NB329_337.out
          have hnb120 := NB337_330.out
          have hnc120 := NB330_337.out
          obtain ⟨hcz121_0, hcz121_1, hcz121_2, hfz121_0, hfz121_1, hfz121_2⟩ := cells3 BK337.out
          try go_wp2_with (first | (go_at_call 104; (with_reducible refine (haulageref03_Right.calls k (a1.extract (t332 : Int).toNat ((wrap64 (t332 + (wrap64 (t331)))) : Int).toNat) false _ A79.out).mono ?_); rintro e w122 ⟨rfl, hb⟩; replace BK328 := aM (kB (yF1 BK328 NB328_337.out) hb); replace BK329 := aM (kB (yF1 BK329 NB329_337.out) hb); replace BK330 := aM (kB (yF1 BK330 NB330_337.out) hb); replace BK337 := aM (kB (puts3 BK337.out) hb); replace HB := aM (bP (yG4 HB GE328.out GE329.out GE330.out GE337.out) hb); (try clear hb); (try clear hb2); (try clear hk); (try clear hi); obtain ⟨hcz123_0, hcz123_1, hcz123_2, hfz123_0, hfz123_1, hfz123_2⟩ := cells3 BK330.out; obtain ⟨hcz124_0, hcz124_1, hcz124_2, hfz124_0, hfz124_1, hfz124_2⟩ := cells3 BK329.out))
          refine bodyPost_ret (results_ctt rfl _ _ gb329 52 #[.int .i64 0, .int .i64 0, .string (⟨#[]⟩ : ByteArray)] (0, 0) _ rfl (puts3 BK329.out) Tryd.underlying52 rfl (by kernel_rfl)) rfl ?_
          exact ⟨yE, yG4 HB GE328.out GE329.out GE330.out GE337.out⟩
        ·
         rw [if_neg c78] at H
         have c78b0 : (a0_0 == 3) = false := beq_eq_false_iff_ne.mpr c78
         have c78b1 : (a0_0 != 3) = true := bne_iff_ne.mpr c78
         simp only [Option.some.injEq, Prod.mk.injEq] at H
         obtain ⟨rfl, rfl, rfl, rfl, rfl⟩ := H
         go_enter Tryd.func87, Tryd.ntmps87
         try go_wp2_with (first | ((with_reducible refine gate_dst (N := 2) rfl ?_); refine yX (N := 2) (cs := #[.int .i64 a0_0, .int .i64 a0_1]) (t := 50) ?_; intro gb328 hg w125 hbox hb; have BK328 := aM (hbox); have GW328 := yZ hg (yB HB); have GE328 := yZ hg (yB HB); replace HB := aM (bP (yB HB) hb); clear hb hbox hg) | ((with_reducible refine gate_dst (N := 4) rfl ?_); refine yX (N := 4) (cs := #[.int .i64 0, .int .i64 0, .string (⟨#[]⟩ : ByteArray)]) (t := 52) ?_; intro gb329 hg w126 hbox hb; have BK329 := aM (hbox); have GW329 := yZ hg (yG1 HB GE328.out); have GE329 := yZ hg (yG1 HB GE328.out); replace HB := aM (bP (yG1 HB GE328.out) hb); have NB328_329 := yN hg (yK BK328); have NB329_328 := yM hg (yK BK328); replace BK328 := aM (kB (yK BK328) hb); clear hb hbox hg) | ((with_reducible refine gate_dst (N := 7) rfl ?_); refine yX (N := 7) (cs := #[.int .i64 0, .int .i64 0, .string (⟨#[]⟩ : ByteArray)]) (t := 52) ?_; intro gb330 hg w127 hbox hb; have BK330 := aM (hbox); have GW330 := yZ hg (yG2 HB GE328.out GE329.out); have GE330 := yZ hg (yG2 HB GE328.out GE329.out); replace HB := aM (bP (yG2 HB GE328.out GE329.out) hb); have NB328_330 := yN hg (yK BK328); have NB330_328 := yM hg (yK BK328); replace BK328 := aM (kB (yK BK328) hb); have NB329_330 := yN hg (yK BK329); have NB330_329 := yM hg (yK BK329); replace BK329 := aM (kB (yK BK329) hb); clear hb hbox hg; have hnb128 := NB330_328.out; have hnc128 := NB328_330.out; have hnb129 := NB330_329.out; have hnc129 := NB329_330.out; obtain ⟨hcz130_0, hcz130_1, hcz130_2, hfz130_0, hfz130_1, hfz130_2⟩ := cells3 BK330.out) | ((with_reducible refine gate_callee (f := 102) rfl ?_); refine yC 16 Tryd.func102 #[.string a1] rfl ?_; (with_reducible refine (haulageref01_Long.calls k a1 t331 t332 t333 _ A3.out).mono ?_); rintro e w' ⟨rfl, ⟨nd, rfl⟩⟩; refine ⟨_, rfl, ?_⟩; have hnb131 := NB328_329.out; have hnc131 := NB329_328.out; obtain ⟨hcz132_0, hcz132_1, hfz132_0, hfz132_1⟩ := cells2 BK328.out))
         have n0_ : Aside0 ((((w127.setCell ⟨gb330, 0, none⟩ (.int .i64 0)).setCell ⟨gb330, 1, none⟩ (.int .i64 0)).setCell ⟨gb330, 2, none⟩ (.string (⟨#[]⟩ : ByteArray))).heap[gb328]? = some (.cells #[.int .i64 a0_0, .int .i64 a0_1] 50 (0, 0))) := ⟨yF1 BK328 NB328_330.out⟩
         have n1_ : Aside0 ((((w127.setCell ⟨gb330, 0, none⟩ (.int .i64 0)).setCell ⟨gb330, 1, none⟩ (.int .i64 0)).setCell ⟨gb330, 2, none⟩ (.string (⟨#[]⟩ : ByteArray))).heap[gb329]? = some (.cells #[.int .i64 0, .int .i64 0, .string (⟨#[]⟩ : ByteArray)] 52 (0, 0))) := ⟨yF1 BK329 NB329_330.out⟩
         have n2_ : Aside0 ((((w127.setCell ⟨gb330, 0, none⟩ (.int .i64 0)).setCell ⟨gb330, 1, none⟩ (.int .i64 0)).setCell ⟨gb330, 2, none⟩ (.string (⟨#[]⟩ : ByteArray))).heap[gb330]? = some (.cells #[.int .i64 0, .int .i64 0, .string (⟨#[]⟩ : ByteArray)] 52 (0, 0))) := ⟨puts3 BK330.out⟩
         have n3_ : Aside0 (Below w.heap.size w (((w127.setCell ⟨gb330, 0, none⟩ (.int .i64 0)).setCell ⟨gb330, 1, none⟩ (.int .i64 0)).setCell ⟨gb330, 2, none⟩ (.string (⟨#[]⟩ : ByteArray)))) := ⟨yG3 HB GE328.out GE329.out GE330.out⟩
         (try clear BK328)
         (try clear BK329)
         (try clear BK330)
         (try clear HB)
         generalize (((w127.setCell ⟨gb330, 0, none⟩ (.int .i64 0)).setCell ⟨gb330, 1, none⟩ (.int .i64 0)).setCell ⟨gb330, 2, none⟩ (.string (⟨#[]⟩ : ByteArray))) = w133 at n0_ n1_ n2_ n3_ ⊢
         have BK328 := n0_
         have BK329 := n1_
         have BK330 := n2_
         have HB := n3_
         clear n0_ n1_ n2_ n3_
         (try (rw [drewN_self w133]; generalize hq_ : World.drewN w133 _ = w133; have n0_ : Aside0 (w133.heap[gb328]? = some (.cells #[.int .i64 a0_0, .int .i64 a0_1] 50 (0, 0))) := ⟨by rw [← hq_]; exact (yK BK328)⟩; have n1_ : Aside0 (w133.heap[gb329]? = some (.cells #[.int .i64 0, .int .i64 0, .string (⟨#[]⟩ : ByteArray)] 52 (0, 0))) := ⟨by rw [← hq_]; exact (yK BK329)⟩; have n2_ : Aside0 (w133.heap[gb330]? = some (.cells #[.int .i64 0, .int .i64 0, .string (⟨#[]⟩ : ByteArray)] 52 (0, 0))) := ⟨by rw [← hq_]; exact (yK BK330)⟩; have n3_ : Aside0 (Below w.heap.size w w133) := ⟨by rw [← hq_]; exact (yG3 HB GE328.out GE329.out GE330.out)⟩; clear BK328 BK329 BK330 HB hq_; have BK328 := n0_; have BK329 := n1_; have BK330 := n2_; have HB := n3_; clear n0_ n1_ n2_ n3_))
         have n0_ := aM (kD BK328.out)
         have n1_ := aM (kD BK329.out)
         have n2_ := aM (kD BK330.out)
         have n3_ := aM (b1 HB.out)
         clear BK328
         clear BK329
         clear BK330
         clear HB
         have BK328 := n0_
         have BK329 := n1_
         have BK330 := n2_
         have HB := n3_
         clear n0_ n1_ n2_ n3_
         refine start_ (n := 12) (S := fun w' => w'.cell? ⟨gb328, 0, none⟩ = some (.int .i64 a0_0) ∧ w'.cell? ⟨gb328, 1, none⟩ = some (.int .i64 a0_1)) (ds := []) (tB 0 12) (by kernel_rfl) rfl rfl (cellc2 BK328.out) (fun hHeld => ?_); refine with_tabW haulageref12_read.tab14 haulageref12_read.bits14 (fun HT_ HW_ => ?_)
         generalize w133.drew = w134 at BK328 BK329 BK330 HB hHeld ⊢
         refine yP HT_ 0 53 (tB 1 12) rfl rfl ?_
         refine yP HT_ 2 55 (tB 5 12) rfl rfl ?_
         refine yP HT_ 3 56 (tB 13 12) rfl rfl ?_
         refine yP HT_ 4 57 (tB 29 12) rfl rfl ?_
         refine yP HT_ 5 58 (tB 61 12) rfl rfl ?_
         refine yP HT_ 6 59 (tB 125 12) rfl rfl ?_
         refine yP HT_ 7 60 (tB 253 12) rfl rfl ?_
         refine yP HT_ 8 61 (tB 509 12) rfl rfl ?_
         refine yT HT_ HW_ 1 54 (tB 511 12) rfl rfl hHeld ?_
         refine yP HT_ 9 62 (tB 1023 12) rfl rfl ?_
         refine yI HT_ 10 (tB 2047 12) rfl rfl fun K hK => ?_
         refine box_step ?hg (N := 12) ?hd (cs := #[.int .i64 0, .int .i64 0, .string (⟨#[]⟩ : ByteArray)]) (t := 52) ?hr ?_; (case hd => rfl); (case hg => rfl); (case hr => first | (go_simp; done) | (go_simp; rfl))
         intro gb337 hg w135 hbox hb
         have n0_ := aM (kB (yK BK328) hb)
         have n1_ := aM (kB (yK BK329) hb)
         have n2_ := aM (kB (yK BK330) hb)
         have n3_ := aM (bP (yG3 HB GE328.out GE329.out GE330.out) hb)
         have n4_ := aM (hbox)
         have n5_ := yZ hg (yG3 HB GE328.out GE329.out GE330.out)
         have n6_ := yZ hg (yG3 HB GE328.out GE329.out GE330.out)
         have n7_ := yN hg (yK BK328)
         have n8_ := yM hg (yK BK328)
         have n9_ := yN hg (yK BK329)
         have n10_ := yM hg (yK BK329)
         have n11_ := yN hg (yK BK330)
         have n12_ := yM hg (yK BK330)
         clear BK328
         clear BK329
         clear BK330
         clear HB
         have BK328 := n0_
         have BK329 := n1_
         have BK330 := n2_
         have HB := n3_
         have BK337 := n4_
         have GW337 := n5_
         have GE337 := n6_
         have NB328_337 := n7_
         have NB337_328 := n8_
         have NB329_337 := n9_
         have NB337_329 := n10_
         have NB330_337 := n11_
         have NB337_330 := n12_
         clear n0_ n1_ n2_ n3_ n4_ n5_ n6_ n7_ n8_ n9_ n10_ n11_ n12_
         clear hb hbox hg
         refine hK.out _ _ (cellc2 BK328.out) (fun hHeld => ?_)
         clear hK K
         refine norm_ (a' := ?_) ?_ ?_
         rotate_left
         ·
          show Act.put _ (some 12) _ = _
          simp only [Act.put, s1_, s2_, s3_, i64_w, i32_w]
          rfl
         refine yI HT_ 11 (tB 4095 12) rfl rfl fun K hK => ?_
         have hs136 : w135.cell? ⟨gb337, 0, none⟩ = some (.int .i64 0) := (blk_cell BK337.out 0).trans rfl
         have hfs136 := blk_frozen BK337.out 0
         have hns136_0 := NB328_337.out
         have hns136_1 := NB329_337.out
         have hns136_2 := NB330_337.out
         have hms136_0 := NB337_328.out
         have hms136_1 := NB337_329.out
         have hms136_2 := NB337_330.out
         have hs137 : w135.cell? ⟨gb337, 1, none⟩ = some (.int .i64 0) := (blk_cell BK337.out 1).trans rfl
         have hfs137 := blk_frozen BK337.out 1
         have hns137_0 := NB328_337.out
         have hns137_1 := NB329_337.out
         have hns137_2 := NB330_337.out
         have hms137_0 := NB337_328.out
         have hms137_1 := NB337_329.out
         have hms137_2 := NB337_330.out
         have hs138 : w135.cell? ⟨gb337, 2, none⟩ = some (.string (⟨#[]⟩ : ByteArray)) := (blk_cell BK337.out 2).trans rfl
         have hfs138 := blk_frozen BK337.out 2
         have hns138_0 := NB328_337.out
         have hns138_1 := NB329_337.out
         have hns138_2 := NB330_337.out
         have hms138_0 := NB337_328.out
         have hms138_1 := NB337_329.out
         have hms138_2 := NB337_330.out
         refine skip_ (w1 := ?_) (by rfl) rfl ?_ ?_
         rotate_left
         ·
          go_simp
          rfl
         refine hK.out _ _ ⟨(cF3 NB328_337.out hHeld.1), (cF3 NB328_337.out hHeld.2)⟩ (fun hHeld => ?_)
         clear hK K
         refine done_ (done_of HT_.out (by kernel_rfl)) ?_
         have hnb139 := NB328_337.out
         have hnc139 := NB337_328.out
         obtain ⟨hcz140_0, hcz140_1, hfz140_0, hfz140_1⟩ := cells2 BK328.out
         have hnb141 := NB337_329.out
         have hnc141 := NB329_337.out
         have hnb142 := NB337_330.out
         have hnc142 := NB330_337.out
         obtain ⟨hcz143_0, hcz143_1, hcz143_2, hfz143_0, hfz143_1, hfz143_2⟩ := cells3 BK337.out
         obtain ⟨hcz144_0, hcz144_1, hcz144_2, hfz144_0, hfz144_1, hfz144_2⟩ := cells3 BK329.out
         try go_wp2
         refine bodyPost_ret (results_ctt rfl _ _ gb329 52 #[.int .i64 a0_0, .int .i64 0, .string (a1.extract (t332 : Int).toNat ((wrap64 (t332 + (wrap64 (t331)))) : Int).toNat)] (0, 0) _ rfl (by (with_reducible repeat (first | refine kN ?_ _ | refine kD ?_ | refine kA ?_ _)); refine kP (cs := #[.int .i64 a0_0, .int .i64 0, .string (⟨#[]⟩ : ByteArray)]) ?_ 2 _ rfl; (with_reducible repeat (first | refine kN ?_ _ | refine kD ?_ | refine kA ?_ _)); refine kP (cs := #[.int .i64 a0_0, .int .i64 0, .string (⟨#[]⟩ : ByteArray)]) ?_ 1 _ rfl; (with_reducible repeat (first | refine kN ?_ _ | refine kD ?_ | refine kA ?_ _)); refine kP (cs := #[.int .i64 0, .int .i64 0, .string (⟨#[]⟩ : ByteArray)]) ?_ 0 _ rfl; (repeat ((with_reducible repeat (first | refine kN ?_ _ | refine kD ?_ | refine kA ?_ _)); refine kF ?_ NB329_337.out _)); (with_reducible repeat (first | refine kN ?_ _ | refine kD ?_ | refine kA ?_ _)); exact BK329.out) Tryd.underlying52 rfl (by kernel_rfl)) rfl ?_
         exact ⟨yE, yG4 HB GE328.out GE329.out GE330.out GE337.out⟩
       ·
        rw [if_neg c77] at H
        exact absurd H (by simp)
      ·
       rw [if_neg c76] at H
       exact absurd H (by simp)
     ·
      rw [if_neg c75] at H
      exact absurd H (by simp)
 ·
  rw [if_neg c4] at H
  have c4b0 : (t333 == 0) = false := beq_eq_false_iff_ne.mpr c4
  have c4b1 : (t333 != 0) = true := bne_iff_ne.mpr c4
  simp only [Option.some.injEq, Prod.mk.injEq] at H
  obtain ⟨rfl, rfl, rfl, rfl, rfl⟩ := H
  go_enter Tryd.func87, Tryd.ntmps87
  go_wp2_with (first | ((with_reducible refine gate_dst (N := 2) rfl ?_); refine yX (N := 2) (cs := #[.int .i64 a0_0, .int .i64 a0_1]) (t := 50) ?_; intro gb328 hg w145 hbox hb; have BK328 := aM (hbox); have GW328 := yZ hg (yB HB); have GE328 := yZ hg (yB HB); replace HB := aM (bP (yB HB) hb); clear hb hbox hg) | ((with_reducible refine gate_dst (N := 4) rfl ?_); refine yX (N := 4) (cs := #[.int .i64 0, .int .i64 0, .string (⟨#[]⟩ : ByteArray)]) (t := 52) ?_; intro gb329 hg w146 hbox hb; have BK329 := aM (hbox); have GW329 := yZ hg (yG1 HB GE328.out); have GE329 := yZ hg (yG1 HB GE328.out); replace HB := aM (bP (yG1 HB GE328.out) hb); have NB328_329 := yN hg (yK BK328); have NB329_328 := yM hg (yK BK328); replace BK328 := aM (kB (yK BK328) hb); clear hb hbox hg) | ((with_reducible refine gate_dst (N := 7) rfl ?_); refine yX (N := 7) (cs := #[.int .i64 0, .int .i64 0, .string (⟨#[]⟩ : ByteArray)]) (t := 52) ?_; intro gb330 hg w147 hbox hb; have BK330 := aM (hbox); have GW330 := yZ hg (yG2 HB GE328.out GE329.out); have GE330 := yZ hg (yG2 HB GE328.out GE329.out); replace HB := aM (bP (yG2 HB GE328.out GE329.out) hb); have NB328_330 := yN hg (yK BK328); have NB330_328 := yM hg (yK BK328); replace BK328 := aM (kB (yK BK328) hb); have NB329_330 := yN hg (yK BK329); have NB330_329 := yM hg (yK BK329); replace BK329 := aM (kB (yK BK329) hb); clear hb hbox hg; have hnb148 := NB330_328.out; have hnc148 := NB328_330.out; have hnb149 := NB330_329.out; have hnc149 := NB329_330.out; obtain ⟨hcz150_0, hcz150_1, hcz150_2, hfz150_0, hfz150_1, hfz150_2⟩ := cells3 BK330.out) | ((with_reducible refine gate_callee (f := 102) rfl ?_); refine yC 16 Tryd.func102 #[.string a1] rfl ?_; (with_reducible refine (haulageref01_Long.calls k a1 t331 t332 t333 _ A3.out).mono ?_); rintro e w' ⟨rfl, ⟨nd, rfl⟩⟩; refine ⟨_, rfl, ?_⟩; have hnb151 := NB329_328.out; have hnc151 := NB328_329.out; obtain ⟨hcz152_0, hcz152_1, hcz152_2, hfz152_0, hfz152_1, hfz152_2⟩ := cells3 BK329.out))
  refine bodyPost_ret (results_ctt rfl _ _ gb329 52 #[.int .i64 0, .int .i64 0, .string (⟨#[]⟩ : ByteArray)] (0, 0) _ rfl (by (with_reducible repeat (first | refine kN ?_ _ | refine kD ?_ | refine kA ?_ _)); refine kP (cs := #[.int .i64 0, .int .i64 0, .string (⟨#[]⟩ : ByteArray)]) ?_ 2 _ rfl; (with_reducible repeat (first | refine kN ?_ _ | refine kD ?_ | refine kA ?_ _)); refine kP (cs := #[.int .i64 0, .int .i64 0, .string (⟨#[]⟩ : ByteArray)]) ?_ 1 _ rfl; (with_reducible repeat (first | refine kN ?_ _ | refine kD ?_ | refine kA ?_ _)); refine kP (cs := #[.int .i64 0, .int .i64 0, .string (⟨#[]⟩ : ByteArray)]) ?_ 0 _ rfl; (repeat ((with_reducible repeat (first | refine kN ?_ _ | refine kD ?_ | refine kA ?_ _)); refine kF ?_ NB329_330.out _)); (with_reducible repeat (first | refine kN ?_ _ | refine kD ?_ | refine kA ?_ _)); exact BK329.out) Tryd.underlying52 rfl (by kernel_rfl)) rfl ?_
  exact ⟨yE, yG3 HB GE328.out GE329.out GE330.out⟩
end Go.Proofs.YtdeophpjammbpaaDoor.HRowcodeKeys

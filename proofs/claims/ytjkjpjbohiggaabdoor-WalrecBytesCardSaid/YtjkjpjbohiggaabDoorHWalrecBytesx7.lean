/- For Go functions that WalrecBytes reaches: Lean functions, and walks that show that each call comes to what its Lean function tells; no condition but those that each theorem states. (Made by a program of this session over the kit's print.py.) -/
import Derived.Test.YtjkjpjbohiggaabDoorHWalrecBytesx0
import Derived.Test.YtjkjpjbohiggaabDoorHWalrecBytesx5
import Derived.Test.YtjkjpjbohiggaabDoorHWalrecBytesx6
namespace Go.Proofs.YtjkjpjbohiggaabDoor.HWalrecBytes
open Go.RowKit Go.Proofs.YtjkjpjbohiggaabDoorW.PrintWords Go.Proofs.YtjkjpjbohiggaabDoorW.PrintLast Go.Proofs.YtjkjpjbohiggaabDoorW.PrintMore
attribute [local go_sem] max2_int min2_int max_two min_two max_three min_three max_four min_four   -- for this text's walks alone
set_option linter.unusedVariables false
set_option linter.unusedSimpArgs false

attribute [local go_sem] hp_s8 hp_s16 hp_s32 hp_s64 hp_m8 hp_m16 hp_m32 hp_m64
/-! ### haulageref18_Decode: function 17 -/
mutual
def haulageref18_Decode.j0 : Nat → ByteArray → Int → Int → Int → ByteArray → ByteArray → Int → Int → Int → Int → Int → ByteArray → Option (Int × Int × Int × ByteArray × Int)
  | 0, _, _, _, _, _, _, _, _, _, _, _, _ => none
  | k + 1, x0, x171000, x171001, x171002, x171003, x172000, x172001, x172002, x177000, x177001, x177002, x177003 => (haulageref18_rows.f x177000).bind fun t181 => (if t181 = true then ((haulageref11_R_Number.f k x172000 x172001 x172002 9223372036854775807).bind fun bt182 => (haulageref18_Decode.j1 k x0 x171000 x171001 x171002 x171003 bt182.2.1 bt182.2.2.1 bt182.2.2.2 x177000 x177001 bt182.1 x177003)) else (haulageref18_Decode.j1 k x0 x171000 x171001 x171002 x171003 x172000 x172001 x172002 x177000 x177001 x177002 x177003))
def haulageref18_Decode.j1 : Nat → ByteArray → Int → Int → Int → ByteArray → ByteArray → Int → Int → Int → Int → Int → ByteArray → Option (Int × Int × Int × ByteArray × Int)
  | 0, _, _, _, _, _, _, _, _, _, _, _, _ => none
  | k + 1, x0, x171000, x171001, x171002, x171003, x172000, x172001, x172002, x177000, x177001, x177002, x177003 => if x172002 = 0 then (if 0 ≤ x172001 then (if x172001 ≤ (x0.size : Int) then (if (x0.extract (x172001 : Int).toNat x0.size).toList = ([] : List UInt8) then (haulageref18_Decode.j2 k false x171000 x171001 x171002 x171003 x177000 x177001 x177002 (x0.extract (x172001 : Int).toNat x0.size)) else ((haulageref18_rows.f x177000).bind fun t186 => (if t186 = true then (haulageref18_Decode.j2 k false x171000 x171001 x171002 x171003 x177000 x177001 x177002 (x0.extract (x172001 : Int).toNat x0.size)) else (haulageref18_Decode.j2 k (x177000 != 5) x171000 x171001 x171002 x171003 x177000 x177001 x177002 (x0.extract (x172001 : Int).toNat x0.size))))) else (none)) else (none)) else (some (x171000, x171001, x171002, x171003, x172002))
def haulageref18_Decode.j2 : Nat → Bool → Int → Int → Int → ByteArray → Int → Int → Int → ByteArray → Option (Int × Int × Int × ByteArray × Int)
  | 0, _, _, _, _, _, _, _, _, _ => none
  | k + 1, x56, x171000, x171001, x171002, x171003, x177000, x177001, x177002, x177003 => if x56 = true then (some (x171000, x171001, x171002, x171003, 6)) else (if (x177003.size : Int) > 65535 then (some (x171000, x171001, x171002, x171003, 3)) else (some (x177000, x177001, x177002, x177003, 0)))
end
def haulageref18_Decode.f (k : Nat) (a0 : ByteArray) : Option (Int × Int × Int × ByteArray × Int) := (haulageref11_R_Byte.f k a0 0 0 1 8).bind fun bt172 => (if bt172.1 = 8 then (haulageref18_Decode.j0 k a0 0 0 0 (⟨#[]⟩ : ByteArray) bt172.2.1 bt172.2.2.1 bt172.2.2.2 bt172.1 0 0 (⟨#[]⟩ : ByteArray)) else ((haulageref11_R_Number.f k bt172.2.1 bt172.2.2.1 bt172.2.2.2 9223372036854775807).bind fun bt177 => (haulageref18_Decode.j0 k a0 0 0 0 (⟨#[]⟩ : ByteArray) bt177.2.1 bt177.2.2.1 bt177.2.2.2 bt172.1 bt177.1 0 (⟨#[]⟩ : ByteArray))))
theorem haulageref18_Decode.mono_l : ∀ k, (∀ y0 y1 y2 y3 y4 y5 y6 y7 y8 y9 y10 y11, LeO (haulageref18_Decode.j0 k y0 y1 y2 y3 y4 y5 y6 y7 y8 y9 y10 y11) (haulageref18_Decode.j0 (k + 1) y0 y1 y2 y3 y4 y5 y6 y7 y8 y9 y10 y11)) ∧ (∀ y0 y1 y2 y3 y4 y5 y6 y7 y8 y9 y10 y11, LeO (haulageref18_Decode.j1 k y0 y1 y2 y3 y4 y5 y6 y7 y8 y9 y10 y11) (haulageref18_Decode.j1 (k + 1) y0 y1 y2 y3 y4 y5 y6 y7 y8 y9 y10 y11)) ∧ (∀ y0 y1 y2 y3 y4 y5 y6 y7 y8, LeO (haulageref18_Decode.j2 k y0 y1 y2 y3 y4 y5 y6 y7 y8) (haulageref18_Decode.j2 (k + 1) y0 y1 y2 y3 y4 y5 y6 y7 y8))
  | 0 => ⟨fun _ _ _ _ _ _ _ _ _ _ _ _ r h => by simp [haulageref18_Decode.j0] at h, fun _ _ _ _ _ _ _ _ _ _ _ _ r h => by simp [haulageref18_Decode.j1] at h, fun _ _ _ _ _ _ _ _ _ r h => by simp [haulageref18_Decode.j2] at h⟩
  | k + 1 => by
    obtain ⟨ih0, ih1, ih2⟩ := haulageref18_Decode.mono_l k
    refine ⟨?_, ?_, ?_⟩
    · intro y0 y1 y2 y3 y4 y5 y6 y7 y8 y9 y10 y11
      unfold haulageref18_Decode.j0
      repeat' first
      | (with_reducible exact ih0 _ _ _ _ _ _ _ _ _ _ _ _)
      | (with_reducible exact ih1 _ _ _ _ _ _ _ _ _ _ _ _)
      | (with_reducible exact ih2 _ _ _ _ _ _ _ _ _)
      | (with_reducible exact haulageref11_R_Byte.mono _ _ _ _ _ _)
      | (with_reducible exact haulageref11_R_Number.mono _ _ _ _ _)
      | (with_reducible exact LeO.refl _)
      | (with_reducible exact LeO.none _)
      | (with_reducible refine LeO.ite ?_ ?_)
      | (with_reducible refine LeO.bind ?_ (fun _ => ?_))
      | exact ih0 _ _ _ _ _ _ _ _ _ _ _ _
      | exact ih1 _ _ _ _ _ _ _ _ _ _ _ _
      | exact ih2 _ _ _ _ _ _ _ _ _
      | exact haulageref11_R_Byte.mono _ _ _ _ _ _
      | exact haulageref11_R_Number.mono _ _ _ _ _
      | exact LeO.none _
      | refine LeO.ite ?_ ?_
      | refine LeO.bind ?_ (fun _ => ?_)
    · intro y0 y1 y2 y3 y4 y5 y6 y7 y8 y9 y10 y11
      unfold haulageref18_Decode.j1
      repeat' first
      | (with_reducible exact ih0 _ _ _ _ _ _ _ _ _ _ _ _)
      | (with_reducible exact ih1 _ _ _ _ _ _ _ _ _ _ _ _)
      | (with_reducible exact ih2 _ _ _ _ _ _ _ _ _)
      | (with_reducible exact haulageref11_R_Byte.mono _ _ _ _ _ _)
      | (with_reducible exact haulageref11_R_Number.mono _ _ _ _ _)
      | (with_reducible exact LeO.refl _)
      | (with_reducible exact LeO.none _)
      | (with_reducible refine LeO.ite ?_ ?_)
      | (with_reducible refine LeO.bind ?_ (fun _ => ?_))
      | exact ih0 _ _ _ _ _ _ _ _ _ _ _ _
      | exact ih1 _ _ _ _ _ _ _ _ _ _ _ _
      | exact ih2 _ _ _ _ _ _ _ _ _
      | exact haulageref11_R_Byte.mono _ _ _ _ _ _
      | exact haulageref11_R_Number.mono _ _ _ _ _
      | exact LeO.none _
      | refine LeO.ite ?_ ?_
      | refine LeO.bind ?_ (fun _ => ?_)
    · intro y0 y1 y2 y3 y4 y5 y6 y7 y8
      unfold haulageref18_Decode.j2
      repeat' first
      | (with_reducible exact ih0 _ _ _ _ _ _ _ _ _ _ _ _)
      | (with_reducible exact ih1 _ _ _ _ _ _ _ _ _ _ _ _)
      | (with_reducible exact ih2 _ _ _ _ _ _ _ _ _)
      | (with_reducible exact haulageref11_R_Byte.mono _ _ _ _ _ _)
      | (with_reducible exact haulageref11_R_Number.mono _ _ _ _ _)
      | (with_reducible exact LeO.refl _)
      | (with_reducible exact LeO.none _)
      | (with_reducible refine LeO.ite ?_ ?_)
      | (with_reducible refine LeO.bind ?_ (fun _ => ?_))
      | exact ih0 _ _ _ _ _ _ _ _ _ _ _ _
      | exact ih1 _ _ _ _ _ _ _ _ _ _ _ _
      | exact ih2 _ _ _ _ _ _ _ _ _
      | exact haulageref11_R_Byte.mono _ _ _ _ _ _
      | exact haulageref11_R_Number.mono _ _ _ _ _
      | exact LeO.none _
      | refine LeO.ite ?_ ?_
      | refine LeO.bind ?_ (fun _ => ?_)
theorem haulageref18_Decode.mono : ∀ a0 k, LeO (haulageref18_Decode.f k a0) (haulageref18_Decode.f (k + 1) a0) := by
  intro a0 k
  obtain ⟨ih0, ih1, ih2⟩ := haulageref18_Decode.mono_l k
  unfold haulageref18_Decode.f
  repeat' first
      | (with_reducible exact ih0 _ _ _ _ _ _ _ _ _ _ _ _)
      | (with_reducible exact ih1 _ _ _ _ _ _ _ _ _ _ _ _)
      | (with_reducible exact ih2 _ _ _ _ _ _ _ _ _)
      | (with_reducible exact haulageref11_R_Byte.mono _ _ _ _ _ _)
      | (with_reducible exact haulageref11_R_Number.mono _ _ _ _ _)
      | (with_reducible exact LeO.refl _)
      | (with_reducible exact LeO.none _)
      | (with_reducible refine LeO.ite ?_ ?_)
      | (with_reducible refine LeO.bind ?_ (fun _ => ?_))
      | exact ih0 _ _ _ _ _ _ _ _ _ _ _ _
      | exact ih1 _ _ _ _ _ _ _ _ _ _ _ _
      | exact ih2 _ _ _ _ _ _ _ _ _
      | exact haulageref11_R_Byte.mono _ _ _ _ _ _
      | exact haulageref11_R_Number.mono _ _ _ _ _
      | exact LeO.none _
      | refine LeO.ite ?_ ?_
      | refine LeO.bind ?_ (fun _ => ?_)
set_option maxHeartbeats 8000000 in
set_option maxRecDepth 100000 in
theorem haulageref18_Decode.calls (k : Nat) (a0 : ByteArray) (r1 : Int) (r2 : Int) (r3 : Int) (r4 : ByteArray) (r5 : Int) (w : World) (h : haulageref18_Decode.f k a0 = some (r1, r2, r3, r4, r5)) :
    Calls Tryd.prog 17 #[.string a0] w fun e w' => e = .returned (.tuple #[.agg #[.int .i64 r1, .int .i64 r2, .int .i64 r3, .string r4], .int .i64 r5]) ∧ Below w.heap.size w w' := by
  have hu36 := Tryd.underlying36
  have hu57 := Tryd.underlying57
  have HB := Aside0.mk (Below.refl w.heap.size w)
  have H : ((haulageref11_R_Byte.f k a0 0 0 1 8).bind fun bt172 => (if bt172.1 = 8 then (haulageref18_Decode.j0 k a0 0 0 0 (⟨#[]⟩ : ByteArray) bt172.2.1 bt172.2.2.1 bt172.2.2.2 bt172.1 0 0 (⟨#[]⟩ : ByteArray)) else ((haulageref11_R_Number.f k bt172.2.1 bt172.2.2.1 bt172.2.2.2 9223372036854775807).bind fun bt177 => (haulageref18_Decode.j0 k a0 0 0 0 (⟨#[]⟩ : ByteArray) bt177.2.1 bt177.2.2.1 bt177.2.2.2 bt172.1 bt177.1 0 (⟨#[]⟩ : ByteArray))))) = some (r1, r2, r3, r4, r5) := h
  clear h
  replace H := Option.bind_eq_some_iff.mp H
  obtain ⟨⟨t172, t173, t174, t175⟩, A20, H⟩ := H
  replace H : (if t172 = 8 then (haulageref18_Decode.j0 k a0 0 0 0 (⟨#[]⟩ : ByteArray) t173 t174 t175 t172 0 0 (⟨#[]⟩ : ByteArray)) else ((haulageref11_R_Number.f k t173 t174 t175 9223372036854775807).bind fun bt177 => (haulageref18_Decode.j0 k a0 0 0 0 (⟨#[]⟩ : ByteArray) bt177.2.1 bt177.2.2.1 bt177.2.2.2 t172 bt177.1 0 (⟨#[]⟩ : ByteArray)))) = some (r1, r2, r3, r4, r5) := H
  have A2 := Aside0.mk A20
  clear A20
  have HC3 := Aside0.mk H
  clear H
  go_enter Tryd.func17, Tryd.ntmps17
  go_upto_if 16 with (first | ((with_reducible refine gate_dst (N := 2) rfl ?_); refine box_event ?hg (N := 2) ?hd (cs := #[.int .i64 0, .int .i64 0, .int .i64 0, .string (⟨#[]⟩ : ByteArray)]) (t := 36) ?hr ?_; (case hd => rfl); (case hg => rfl); (case hr => first | (go_simp; done) | (go_simp; rfl)); intro gb169 hg w4 hbox hb; have n0_ := Aside0.mk (below_step (by repeat (first | (with_reducible first | exact HB.out | apply below_alloc | apply pw_below_drewN | apply below_drew1) | exact HB.out)) hb); have n1_ := Aside0.mk (hbox); have n2_ := Aside0.mk ((by rw [hg]; exact (below_size (by repeat (first | (with_reducible first | exact HB.out | apply below_alloc | apply pw_below_drewN | apply below_drew1) | exact HB.out))) : w.heap.size ≤ gb169)); have n3_ := Aside0.mk ((by rw [hg]; exact (below_size (by repeat (first | (with_reducible first | exact HB.out | apply below_alloc | apply pw_below_drewN | apply below_drew1) | exact HB.out))) : w.heap.size ≤ gb169)); clear HB; have HB := n0_; have BK169 := n1_; have GW169 := n2_; have GE169 := n3_; clear n0_ n1_ n2_ n3_; clear hb hbox hg) | ((with_reducible refine gate_dst (N := 4) rfl ?_); refine box_event ?hg (N := 4) ?hd (cs := #[.int .i64 0, .int .i64 0, .int .i64 0, .string (⟨#[]⟩ : ByteArray)]) (t := 36) ?hr ?_; (case hd => rfl); (case hg => rfl); (case hr => first | (go_simp; done) | (go_simp; rfl)); intro gb170 hg w5 hbox hb; have n0_ := Aside0.mk (blk_below (g := gb169) (o := .cells #[.int .i64 0, .int .i64 0, .int .i64 0, .string (⟨#[]⟩ : ByteArray)] 36 (0, 0)) (by (with_reducible repeat (first | refine blk_drewN ?_ _ | refine blk_drew ?_ | refine blk_alloc ?_ _)); exact BK169.out) hb); have n1_ := Aside0.mk (below_step (by repeat (first | (with_reducible first | exact HB.out | apply below_alloc | apply pw_below_drewN | apply below_drew1 | refine below_set ?_ GE169.out) | exact HB.out)) hb); have n2_ := Aside0.mk (hbox); have n3_ := Aside0.mk ((by rw [hg]; exact (below_size (by repeat (first | (with_reducible first | exact HB.out | apply below_alloc | apply pw_below_drewN | apply below_drew1 | refine below_set ?_ GE169.out) | exact HB.out))) : w.heap.size ≤ gb170)); have n4_ := Aside0.mk ((by rw [hg]; exact (below_size (by repeat (first | (with_reducible first | exact HB.out | apply below_alloc | apply pw_below_drewN | apply below_drew1 | refine below_set ?_ GE169.out) | exact HB.out))) : w.heap.size ≤ gb170)); have n5_ := Aside0.mk ((by rw [hg]; exact Nat.ne_of_lt (blk_lt (g := gb169) (o := .cells #[.int .i64 0, .int .i64 0, .int .i64 0, .string (⟨#[]⟩ : ByteArray)] 36 (0, 0)) (by (with_reducible repeat (first | refine blk_drewN ?_ _ | refine blk_drew ?_ | refine blk_alloc ?_ _)); exact BK169.out)) : gb169 ≠ gb170)); have n6_ := Aside0.mk ((by rw [hg]; exact Nat.ne_of_gt (blk_lt (g := gb169) (o := .cells #[.int .i64 0, .int .i64 0, .int .i64 0, .string (⟨#[]⟩ : ByteArray)] 36 (0, 0)) (by (with_reducible repeat (first | refine blk_drewN ?_ _ | refine blk_drew ?_ | refine blk_alloc ?_ _)); exact BK169.out)) : gb170 ≠ gb169)); clear BK169; clear HB; have BK169 := n0_; have HB := n1_; have BK170 := n2_; have GW170 := n3_; have GE170 := n4_; have NB169_170 := n5_; have NB170_169 := n6_; clear n0_ n1_ n2_ n3_ n4_ n5_ n6_; clear hb hbox hg; have hnb6 := NB170_169.out; have hnc6 := NB169_170.out; have hcz7_0 : w5.cell? ⟨gb170, 0, none⟩ = some (.int .i64 0) := (blk_cell BK170.out 0).trans rfl; have hcz7_1 : w5.cell? ⟨gb170, 1, none⟩ = some (.int .i64 0) := (blk_cell BK170.out 1).trans rfl; have hcz7_2 : w5.cell? ⟨gb170, 2, none⟩ = some (.int .i64 0) := (blk_cell BK170.out 2).trans rfl; have hcz7_3 : w5.cell? ⟨gb170, 3, none⟩ = some (.string (⟨#[]⟩ : ByteArray)) := (blk_cell BK170.out 3).trans rfl; have hfz7_0 := blk_frozen BK170.out 0; have hfz7_1 := blk_frozen BK170.out 1; have hfz7_2 := blk_frozen BK170.out 2; have hfz7_3 := blk_frozen BK170.out 3) | ((with_reducible refine gate_dst (N := 10) rfl ?_); refine box_event ?hg (N := 10) ?hd (cs := #[.string a0, .int .i64 0, .int .i64 0]) (t := 57) ?hr ?_; (case hd => rfl); (case hg => rfl); (case hr => first | (go_simp; done) | (go_simp; rfl)); intro gb171 hg w8 hbox hb; have n0_ := Aside0.mk (blk_below (g := gb169) (o := .cells #[.int .i64 0, .int .i64 0, .int .i64 0, .string (⟨#[]⟩ : ByteArray)] 36 (0, 0)) (by (with_reducible repeat (first | refine blk_drewN ?_ _ | refine blk_drew ?_ | refine blk_alloc ?_ _)); refine blk_far ?_ NB169_170.out _; (with_reducible repeat (first | refine blk_drewN ?_ _ | refine blk_drew ?_ | refine blk_alloc ?_ _)); refine blk_far ?_ NB169_170.out _; (with_reducible repeat (first | refine blk_drewN ?_ _ | refine blk_drew ?_ | refine blk_alloc ?_ _)); refine blk_far ?_ NB169_170.out _; (with_reducible repeat (first | refine blk_drewN ?_ _ | refine blk_drew ?_ | refine blk_alloc ?_ _)); refine blk_far ?_ NB169_170.out _; (with_reducible repeat (first | refine blk_drewN ?_ _ | refine blk_drew ?_ | refine blk_alloc ?_ _)); exact BK169.out) hb); have n1_ := Aside0.mk (blk_below (g := gb170) (o := .cells #[.int .i64 0, .int .i64 0, .int .i64 0, .string (⟨#[]⟩ : ByteArray)] 36 (0, 0)) (by (with_reducible repeat (first | refine blk_drewN ?_ _ | refine blk_drew ?_ | refine blk_alloc ?_ _)); refine blk_put (cs := #[.int .i64 0, .int .i64 0, .int .i64 0, .string (⟨#[]⟩ : ByteArray)]) ?_ 3 _ rfl; (with_reducible repeat (first | refine blk_drewN ?_ _ | refine blk_drew ?_ | refine blk_alloc ?_ _)); refine blk_put (cs := #[.int .i64 0, .int .i64 0, .int .i64 0, .string (⟨#[]⟩ : ByteArray)]) ?_ 2 _ rfl; (with_reducible repeat (first | refine blk_drewN ?_ _ | refine blk_drew ?_ | refine blk_alloc ?_ _)); refine blk_put (cs := #[.int .i64 0, .int .i64 0, .int .i64 0, .string (⟨#[]⟩ : ByteArray)]) ?_ 1 _ rfl; (with_reducible repeat (first | refine blk_drewN ?_ _ | refine blk_drew ?_ | refine blk_alloc ?_ _)); refine blk_put (cs := #[.int .i64 0, .int .i64 0, .int .i64 0, .string (⟨#[]⟩ : ByteArray)]) ?_ 0 _ rfl; (with_reducible repeat (first | refine blk_drewN ?_ _ | refine blk_drew ?_ | refine blk_alloc ?_ _)); exact BK170.out) hb); have n2_ := Aside0.mk (below_step (by repeat (first | (with_reducible first | exact HB.out | apply below_alloc | apply pw_below_drewN | apply below_drew1 | refine below_set ?_ GE169.out | refine below_set ?_ GE170.out) | exact HB.out)) hb); have n3_ := Aside0.mk ((⟨hbox, by rw [hg]; exact (below_size (by repeat (first | (with_reducible first | exact HB.out | apply below_alloc | apply pw_below_drewN | apply below_drew1 | refine below_set ?_ GE169.out | refine below_set ?_ GE170.out) | exact HB.out)))⟩ : IsS57 w w8 gb171 a0 0 0)); have n4_ := Aside0.mk ((by rw [hg]; exact (below_size (by repeat (first | (with_reducible first | exact HB.out | apply below_alloc | apply pw_below_drewN | apply below_drew1 | refine below_set ?_ GE169.out | refine below_set ?_ GE170.out) | exact HB.out))) : w.heap.size ≤ gb171)); have n5_ := Aside0.mk ((by rw [hg]; exact (below_size (by repeat (first | (with_reducible first | exact HB.out | apply below_alloc | apply pw_below_drewN | apply below_drew1 | refine below_set ?_ GE169.out | refine below_set ?_ GE170.out) | exact HB.out))) : w.heap.size ≤ gb171)); have n6_ := Aside0.mk ((by rw [hg]; exact Nat.ne_of_lt (blk_lt (g := gb169) (o := .cells #[.int .i64 0, .int .i64 0, .int .i64 0, .string (⟨#[]⟩ : ByteArray)] 36 (0, 0)) (by (with_reducible repeat (first | refine blk_drewN ?_ _ | refine blk_drew ?_ | refine blk_alloc ?_ _)); refine blk_far ?_ NB169_170.out _; (with_reducible repeat (first | refine blk_drewN ?_ _ | refine blk_drew ?_ | refine blk_alloc ?_ _)); refine blk_far ?_ NB169_170.out _; (with_reducible repeat (first | refine blk_drewN ?_ _ | refine blk_drew ?_ | refine blk_alloc ?_ _)); refine blk_far ?_ NB169_170.out _; (with_reducible repeat (first | refine blk_drewN ?_ _ | refine blk_drew ?_ | refine blk_alloc ?_ _)); refine blk_far ?_ NB169_170.out _; (with_reducible repeat (first | refine blk_drewN ?_ _ | refine blk_drew ?_ | refine blk_alloc ?_ _)); exact BK169.out)) : gb169 ≠ gb171)); have n7_ := Aside0.mk ((by rw [hg]; exact Nat.ne_of_gt (blk_lt (g := gb169) (o := .cells #[.int .i64 0, .int .i64 0, .int .i64 0, .string (⟨#[]⟩ : ByteArray)] 36 (0, 0)) (by (with_reducible repeat (first | refine blk_drewN ?_ _ | refine blk_drew ?_ | refine blk_alloc ?_ _)); refine blk_far ?_ NB169_170.out _; (with_reducible repeat (first | refine blk_drewN ?_ _ | refine blk_drew ?_ | refine blk_alloc ?_ _)); refine blk_far ?_ NB169_170.out _; (with_reducible repeat (first | refine blk_drewN ?_ _ | refine blk_drew ?_ | refine blk_alloc ?_ _)); refine blk_far ?_ NB169_170.out _; (with_reducible repeat (first | refine blk_drewN ?_ _ | refine blk_drew ?_ | refine blk_alloc ?_ _)); refine blk_far ?_ NB169_170.out _; (with_reducible repeat (first | refine blk_drewN ?_ _ | refine blk_drew ?_ | refine blk_alloc ?_ _)); exact BK169.out)) : gb171 ≠ gb169)); have n8_ := Aside0.mk ((by rw [hg]; exact Nat.ne_of_lt (blk_lt (g := gb170) (o := .cells #[.int .i64 0, .int .i64 0, .int .i64 0, .string (⟨#[]⟩ : ByteArray)] 36 (0, 0)) (by (with_reducible repeat (first | refine blk_drewN ?_ _ | refine blk_drew ?_ | refine blk_alloc ?_ _)); refine blk_put (cs := #[.int .i64 0, .int .i64 0, .int .i64 0, .string (⟨#[]⟩ : ByteArray)]) ?_ 3 _ rfl; (with_reducible repeat (first | refine blk_drewN ?_ _ | refine blk_drew ?_ | refine blk_alloc ?_ _)); refine blk_put (cs := #[.int .i64 0, .int .i64 0, .int .i64 0, .string (⟨#[]⟩ : ByteArray)]) ?_ 2 _ rfl; (with_reducible repeat (first | refine blk_drewN ?_ _ | refine blk_drew ?_ | refine blk_alloc ?_ _)); refine blk_put (cs := #[.int .i64 0, .int .i64 0, .int .i64 0, .string (⟨#[]⟩ : ByteArray)]) ?_ 1 _ rfl; (with_reducible repeat (first | refine blk_drewN ?_ _ | refine blk_drew ?_ | refine blk_alloc ?_ _)); refine blk_put (cs := #[.int .i64 0, .int .i64 0, .int .i64 0, .string (⟨#[]⟩ : ByteArray)]) ?_ 0 _ rfl; (with_reducible repeat (first | refine blk_drewN ?_ _ | refine blk_drew ?_ | refine blk_alloc ?_ _)); exact BK170.out)) : gb170 ≠ gb171)); have n9_ := Aside0.mk ((by rw [hg]; exact Nat.ne_of_gt (blk_lt (g := gb170) (o := .cells #[.int .i64 0, .int .i64 0, .int .i64 0, .string (⟨#[]⟩ : ByteArray)] 36 (0, 0)) (by (with_reducible repeat (first | refine blk_drewN ?_ _ | refine blk_drew ?_ | refine blk_alloc ?_ _)); refine blk_put (cs := #[.int .i64 0, .int .i64 0, .int .i64 0, .string (⟨#[]⟩ : ByteArray)]) ?_ 3 _ rfl; (with_reducible repeat (first | refine blk_drewN ?_ _ | refine blk_drew ?_ | refine blk_alloc ?_ _)); refine blk_put (cs := #[.int .i64 0, .int .i64 0, .int .i64 0, .string (⟨#[]⟩ : ByteArray)]) ?_ 2 _ rfl; (with_reducible repeat (first | refine blk_drewN ?_ _ | refine blk_drew ?_ | refine blk_alloc ?_ _)); refine blk_put (cs := #[.int .i64 0, .int .i64 0, .int .i64 0, .string (⟨#[]⟩ : ByteArray)]) ?_ 1 _ rfl; (with_reducible repeat (first | refine blk_drewN ?_ _ | refine blk_drew ?_ | refine blk_alloc ?_ _)); refine blk_put (cs := #[.int .i64 0, .int .i64 0, .int .i64 0, .string (⟨#[]⟩ : ByteArray)]) ?_ 0 _ rfl; (with_reducible repeat (first | refine blk_drewN ?_ _ | refine blk_drew ?_ | refine blk_alloc ?_ _)); exact BK170.out)) : gb171 ≠ gb170)); clear BK169; clear BK170; clear HB; have BK169 := n0_; have BK170 := n1_; have HB := n2_; have HI171 := n3_; have GW171 := n4_; have GE171 := n5_; have NB169_171 := n6_; have NB171_169 := n7_; have NB170_171 := n8_; have NB171_170 := n9_; clear n0_ n1_ n2_ n3_ n4_ n5_ n6_ n7_ n8_ n9_; clear hb hbox hg) | ((with_reducible refine gate_callee (f := 26) rfl ?_); refine goesL_ (some 12) rfl rfl Tryd.func26 (by kernel_rfl) rfl #[.pointer (some ⟨gb171, 0, none⟩), .int .i64 1, .int .i64 8] rfl (by (try simp only [List.map_toArray, List.map_cons, List.map_nil]); first | done | rfl | (simp only [List.length_drop, List.length_take]; rfl)) ?_; (with_reducible refine (haulageref11_R_Byte.calls k gb171 a0 0 0 1 8 t172 t173 t174 t175 w _ ?side1 ?side2 A2.out).mono ?_); (case side1 => repeat (first | (with_reducible first | exact HI171.out | apply IsS57.alloc | apply IsS57.drewN | apply IsS57.drew | apply IsS57.set_0 | apply IsS57.set_1 | apply IsS57.set_2 | refine IsS57.far ?_ NB171_169.out _ | refine IsS57.far ?_ NB171_170.out _) | exact HI171.out)); (case side2 => repeat (first | (with_reducible first | exact HB.out | apply below_alloc | apply pw_below_drewN | apply below_drew1 | refine below_set ?_ (IsS57.ge HI171.out) | refine below_set ?_ GE169.out | refine below_set ?_ GE170.out) | exact HB.out)); rintro e w9 ⟨rfl, hi, hb, hk⟩; refine ⟨_, rfl, ?_⟩; have n0_ := Aside0.mk (KeepBut.blk hk (g' := gb169) (o := .cells #[.int .i64 0, .int .i64 0, .int .i64 0, .string (⟨#[]⟩ : ByteArray)] 36 (0, 0)) (by (with_reducible repeat (first | refine blk_drewN ?_ _ | refine blk_drew ?_ | refine blk_alloc ?_ _)); exact BK169.out) NB169_171.out (by simp)); have n1_ := Aside0.mk (KeepBut.blk hk (g' := gb170) (o := .cells #[.int .i64 0, .int .i64 0, .int .i64 0, .string (⟨#[]⟩ : ByteArray)] 36 (0, 0)) (by (with_reducible repeat (first | refine blk_drewN ?_ _ | refine blk_drew ?_ | refine blk_alloc ?_ _)); exact BK170.out) NB170_171.out (by simp)); have n2_ := Aside0.mk (hb); have n3_ := Aside0.mk (hi); clear BK169; clear BK170; clear HB; clear HI171; have BK169 := n0_; have BK170 := n1_; have HB := n2_; have HI171 := n3_; clear n0_ n1_ n2_ n3_; (try clear hb); (try clear hb2); (try clear hk); (try clear hi)) | ((with_reducible refine gate_dst (N := 6) rfl ?_); refine box_event ?hg (N := 6) ?hd (cs := #[.int .i64 0, .int .i64 0, .int .i64 0, .string (⟨#[]⟩ : ByteArray)]) (t := 36) ?hr ?_; (case hd => rfl); (case hg => rfl); (case hr => first | (go_simp; done) | (go_simp; rfl)); intro gb176 hg w10 hbox hb; have n0_ := Aside0.mk (blk_below (g := gb169) (o := .cells #[.int .i64 0, .int .i64 0, .int .i64 0, .string (⟨#[]⟩ : ByteArray)] 36 (0, 0)) (by (with_reducible repeat (first | refine blk_drewN ?_ _ | refine blk_drew ?_ | refine blk_alloc ?_ _)); exact BK169.out) hb); have n1_ := Aside0.mk (blk_below (g := gb170) (o := .cells #[.int .i64 0, .int .i64 0, .int .i64 0, .string (⟨#[]⟩ : ByteArray)] 36 (0, 0)) (by (with_reducible repeat (first | refine blk_drewN ?_ _ | refine blk_drew ?_ | refine blk_alloc ?_ _)); exact BK170.out) hb); have n2_ := Aside0.mk (IsS57.below (by repeat (first | (with_reducible first | exact HI171.out | apply IsS57.alloc | apply IsS57.drewN | apply IsS57.drew | apply IsS57.set_0 | apply IsS57.set_1 | apply IsS57.set_2 | refine IsS57.far ?_ NB171_169.out _ | refine IsS57.far ?_ NB171_170.out _) | exact HI171.out)) hb); have n3_ := Aside0.mk (below_step (by repeat (first | (with_reducible first | exact HB.out | apply below_alloc | apply pw_below_drewN | apply below_drew1 | refine below_set ?_ (IsS57.ge HI171.out) | refine below_set ?_ GE169.out | refine below_set ?_ GE170.out) | exact HB.out)) hb); have n4_ := Aside0.mk (hbox); have n5_ := Aside0.mk ((by rw [hg]; exact (below_size (by repeat (first | (with_reducible first | exact HB.out | apply below_alloc | apply pw_below_drewN | apply below_drew1 | refine below_set ?_ (IsS57.ge HI171.out) | refine below_set ?_ GE169.out | refine below_set ?_ GE170.out) | exact HB.out))) : w.heap.size ≤ gb176)); have n6_ := Aside0.mk ((by rw [hg]; exact (below_size (by repeat (first | (with_reducible first | exact HB.out | apply below_alloc | apply pw_below_drewN | apply below_drew1 | refine below_set ?_ (IsS57.ge HI171.out) | refine below_set ?_ GE169.out | refine below_set ?_ GE170.out) | exact HB.out))) : w.heap.size ≤ gb176)); have n7_ := Aside0.mk ((by rw [hg]; exact Nat.ne_of_lt (blk_lt (g := gb169) (o := .cells #[.int .i64 0, .int .i64 0, .int .i64 0, .string (⟨#[]⟩ : ByteArray)] 36 (0, 0)) (by (with_reducible repeat (first | refine blk_drewN ?_ _ | refine blk_drew ?_ | refine blk_alloc ?_ _)); exact BK169.out)) : gb169 ≠ gb176)); have n8_ := Aside0.mk ((by rw [hg]; exact Nat.ne_of_gt (blk_lt (g := gb169) (o := .cells #[.int .i64 0, .int .i64 0, .int .i64 0, .string (⟨#[]⟩ : ByteArray)] 36 (0, 0)) (by (with_reducible repeat (first | refine blk_drewN ?_ _ | refine blk_drew ?_ | refine blk_alloc ?_ _)); exact BK169.out)) : gb176 ≠ gb169)); have n9_ := Aside0.mk ((by rw [hg]; exact Nat.ne_of_lt (blk_lt (g := gb170) (o := .cells #[.int .i64 0, .int .i64 0, .int .i64 0, .string (⟨#[]⟩ : ByteArray)] 36 (0, 0)) (by (with_reducible repeat (first | refine blk_drewN ?_ _ | refine blk_drew ?_ | refine blk_alloc ?_ _)); exact BK170.out)) : gb170 ≠ gb176)); have n10_ := Aside0.mk ((by rw [hg]; exact Nat.ne_of_gt (blk_lt (g := gb170) (o := .cells #[.int .i64 0, .int .i64 0, .int .i64 0, .string (⟨#[]⟩ : ByteArray)] 36 (0, 0)) (by (with_reducible repeat (first | refine blk_drewN ?_ _ | refine blk_drew ?_ | refine blk_alloc ?_ _)); exact BK170.out)) : gb176 ≠ gb170)); have n11_ := Aside0.mk ((by rw [hg]; exact Nat.ne_of_lt (IsS57.lt (show IsS57 w _ gb171 t173 t174 t175 from by repeat (first | (with_reducible first | exact HI171.out | apply IsS57.alloc | apply IsS57.drewN | apply IsS57.drew | apply IsS57.set_0 | apply IsS57.set_1 | apply IsS57.set_2 | refine IsS57.far ?_ NB171_169.out _ | refine IsS57.far ?_ NB171_170.out _) | exact HI171.out))) : gb171 ≠ gb176)); have n12_ := Aside0.mk ((by rw [hg]; exact Nat.ne_of_gt (IsS57.lt (show IsS57 w _ gb171 t173 t174 t175 from by repeat (first | (with_reducible first | exact HI171.out | apply IsS57.alloc | apply IsS57.drewN | apply IsS57.drew | apply IsS57.set_0 | apply IsS57.set_1 | apply IsS57.set_2 | refine IsS57.far ?_ NB171_169.out _ | refine IsS57.far ?_ NB171_170.out _) | exact HI171.out))) : gb176 ≠ gb171)); clear BK169; clear BK170; clear HI171; clear HB; have BK169 := n0_; have BK170 := n1_; have HI171 := n2_; have HB := n3_; have BK176 := n4_; have GW176 := n5_; have GE176 := n6_; have NB169_176 := n7_; have NB176_169 := n8_; have NB170_176 := n9_; have NB176_170 := n10_; have NB171_176 := n11_; have NB176_171 := n12_; clear n0_ n1_ n2_ n3_ n4_ n5_ n6_ n7_ n8_ n9_ n10_ n11_ n12_; clear hb hbox hg; have hnb11 := NB176_169.out; have hnc11 := NB169_176.out; have hnb12 := NB176_170.out; have hnc12 := NB170_176.out; have hnb13 := NB176_171.out; have hnc13 := NB171_176.out; have hcz14_0 : w10.cell? ⟨gb176, 0, none⟩ = some (.int .i64 0) := (blk_cell BK176.out 0).trans rfl; have hcz14_1 : w10.cell? ⟨gb176, 1, none⟩ = some (.int .i64 0) := (blk_cell BK176.out 1).trans rfl; have hcz14_2 : w10.cell? ⟨gb176, 2, none⟩ = some (.int .i64 0) := (blk_cell BK176.out 2).trans rfl; have hcz14_3 : w10.cell? ⟨gb176, 3, none⟩ = some (.string (⟨#[]⟩ : ByteArray)) := (blk_cell BK176.out 3).trans rfl; have hfz14_0 := blk_frozen BK176.out 0; have hfz14_1 := blk_frozen BK176.out 1; have hfz14_2 := blk_frozen BK176.out 2; have hfz14_3 := blk_frozen BK176.out 3))
  (try simp only [Act.put, List.setIfInBounds_toArray, List.set_cons_zero, List.set_cons_succ])
  go_cut [] (fun wc => ∃ (kq : Nat) (x172000_2 : ByteArray) (x172001_2 : Int) (x172002_2 : Int) (x177001_2 : Int), Aside0 (haulageref18_Decode.j0 kq a0 0 0 0 (⟨#[]⟩ : ByteArray) x172000_2 x172001_2 x172002_2 t172 x177001_2 0 (⟨#[]⟩ : ByteArray) = some (r1, r2, r3, r4, r5)) ∧ Aside0 (kq ≤ k) ∧ Aside0 (wc.heap[gb169]? = some (.cells #[.int .i64 0, .int .i64 0, .int .i64 0, .string (⟨#[]⟩ : ByteArray)] 36 (0, 0))) ∧ Aside0 (wc.heap[gb170]? = some (.cells #[.int .i64 0, .int .i64 0, .int .i64 0, .string (⟨#[]⟩ : ByteArray)] 36 (0, 0))) ∧ Aside0 (wc.heap[gb176]? = some (.cells #[.int .i64 t172, .int .i64 x177001_2, .int .i64 0, .string (⟨#[]⟩ : ByteArray)] 36 (0, 0))) ∧ Aside0 (IsS57 w wc gb171 x172000_2 x172001_2 x172002_2) ∧ Aside0 (Below w.heap.size w wc))
  case first =>
    have H := HC3.out
    clear HC3
    by_cases c15 : t172 = 8
    · rw [if_pos c15] at H
      have c15b0 : (t172 == 8) = true := beq_iff_eq.mpr c15
      have c15b1 : (t172 != 8) = false := bne_eq_false_iff_eq.mpr c15
      clear c15
      (first | rw [c15b0] | (simp only [i64_w, i32_w]; rw [c15b0]) | skip)
      have H' := Aside0.mk H
      clear H
      go_wp2
      go_meet
      case rel => exact ⟨_, (t173), (t174), (t175), (0), H', ⟨by first | omega | exact Nat.le_refl _⟩, ⟨by (with_reducible repeat (first | refine blk_drewN ?_ _ | refine blk_drew ?_ | refine blk_alloc ?_ _)); refine blk_far ?_ NB169_176.out _; (with_reducible repeat (first | refine blk_drewN ?_ _ | refine blk_drew ?_ | refine blk_alloc ?_ _)); refine blk_far ?_ NB169_176.out _; (with_reducible repeat (first | refine blk_drewN ?_ _ | refine blk_drew ?_ | refine blk_alloc ?_ _)); refine blk_far ?_ NB169_176.out _; (with_reducible repeat (first | refine blk_drewN ?_ _ | refine blk_drew ?_ | refine blk_alloc ?_ _)); refine blk_far ?_ NB169_176.out _; (with_reducible repeat (first | refine blk_drewN ?_ _ | refine blk_drew ?_ | refine blk_alloc ?_ _)); exact BK169.out⟩, ⟨by (with_reducible repeat (first | refine blk_drewN ?_ _ | refine blk_drew ?_ | refine blk_alloc ?_ _)); refine blk_far ?_ NB170_176.out _; (with_reducible repeat (first | refine blk_drewN ?_ _ | refine blk_drew ?_ | refine blk_alloc ?_ _)); refine blk_far ?_ NB170_176.out _; (with_reducible repeat (first | refine blk_drewN ?_ _ | refine blk_drew ?_ | refine blk_alloc ?_ _)); refine blk_far ?_ NB170_176.out _; (with_reducible repeat (first | refine blk_drewN ?_ _ | refine blk_drew ?_ | refine blk_alloc ?_ _)); refine blk_far ?_ NB170_176.out _; (with_reducible repeat (first | refine blk_drewN ?_ _ | refine blk_drew ?_ | refine blk_alloc ?_ _)); exact BK170.out⟩, ⟨by (with_reducible repeat (first | refine blk_drewN ?_ _ | refine blk_drew ?_ | refine blk_alloc ?_ _)); refine blk_put (cs := #[.int .i64 t172, .int .i64 0, .int .i64 0, .string (⟨#[]⟩ : ByteArray)]) ?_ 3 _ rfl; (with_reducible repeat (first | refine blk_drewN ?_ _ | refine blk_drew ?_ | refine blk_alloc ?_ _)); refine blk_put (cs := #[.int .i64 t172, .int .i64 0, .int .i64 0, .string (⟨#[]⟩ : ByteArray)]) ?_ 2 _ rfl; (with_reducible repeat (first | refine blk_drewN ?_ _ | refine blk_drew ?_ | refine blk_alloc ?_ _)); refine blk_put (cs := #[.int .i64 t172, .int .i64 0, .int .i64 0, .string (⟨#[]⟩ : ByteArray)]) ?_ 1 _ rfl; (with_reducible repeat (first | refine blk_drewN ?_ _ | refine blk_drew ?_ | refine blk_alloc ?_ _)); refine blk_put (cs := #[.int .i64 0, .int .i64 0, .int .i64 0, .string (⟨#[]⟩ : ByteArray)]) ?_ 0 _ rfl; (with_reducible repeat (first | refine blk_drewN ?_ _ | refine blk_drew ?_ | refine blk_alloc ?_ _)); exact BK176.out⟩, ⟨by repeat (first | (with_reducible first | exact HI171.out | apply IsS57.alloc | apply IsS57.drewN | apply IsS57.drew | apply IsS57.set_0 | apply IsS57.set_1 | apply IsS57.set_2 | refine IsS57.far ?_ NB171_169.out _ | refine IsS57.far ?_ NB171_170.out _ | refine IsS57.far ?_ NB171_176.out _) | exact HI171.out)⟩, ⟨by repeat (first | (with_reducible first | exact HB.out | apply below_alloc | apply pw_below_drewN | apply below_drew1 | refine below_set ?_ (IsS57.ge HI171.out) | refine below_set ?_ GE169.out | refine below_set ?_ GE170.out | refine below_set ?_ GE176.out) | exact HB.out)⟩⟩
    · rw [if_neg c15] at H
      have c15b0 : (t172 == 8) = false := beq_eq_false_iff_ne.mpr c15
      have c15b1 : (t172 != 8) = true := bne_iff_ne.mpr c15
      (first | rw [c15b0] | (simp only [i64_w, i32_w]; rw [c15b0]) | skip)
      replace H := Option.bind_eq_some_iff.mp H
      obtain ⟨⟨t177, t178, t179, t180⟩, A160, H⟩ := H
      replace H : (haulageref18_Decode.j0 k a0 0 0 0 (⟨#[]⟩ : ByteArray) t178 t179 t180 t172 t177 0 (⟨#[]⟩ : ByteArray)) = some (r1, r2, r3, r4, r5) := H
      have A16 := Aside0.mk A160
      clear A160
      have H' := Aside0.mk H
      clear H
      go_wp2_with (first | ((with_reducible refine gate_callee (f := 27) rfl ?_); refine goesL_ (some 18) rfl rfl Tryd.func27 (by kernel_rfl) rfl #[.pointer (some ⟨gb171, 0, none⟩), .int .i64 9223372036854775807] rfl (by (try simp only [List.map_toArray, List.map_cons, List.map_nil]); first | done | rfl | (simp only [List.length_drop, List.length_take]; rfl)) ?_; (with_reducible refine (haulageref11_R_Number.calls k gb171 t173 t174 t175 9223372036854775807 t177 t178 t179 t180 w _ ?side1 ?side2 A16.out).mono ?_); (case side1 => repeat (first | (with_reducible first | exact HI171.out | apply IsS57.alloc | apply IsS57.drewN | apply IsS57.drew | apply IsS57.set_0 | apply IsS57.set_1 | apply IsS57.set_2 | refine IsS57.far ?_ NB171_169.out _ | refine IsS57.far ?_ NB171_170.out _ | refine IsS57.far ?_ NB171_176.out _) | exact HI171.out)); (case side2 => repeat (first | (with_reducible first | exact HB.out | apply below_alloc | apply pw_below_drewN | apply below_drew1 | refine below_set ?_ (IsS57.ge HI171.out) | refine below_set ?_ GE169.out | refine below_set ?_ GE170.out | refine below_set ?_ GE176.out) | exact HB.out)); rintro e w17 ⟨rfl, hi, hb, hk⟩; refine ⟨_, rfl, ?_⟩; have n0_ := Aside0.mk (KeepBut.blk hk (g' := gb169) (o := .cells #[.int .i64 0, .int .i64 0, .int .i64 0, .string (⟨#[]⟩ : ByteArray)] 36 (0, 0)) (by (with_reducible repeat (first | refine blk_drewN ?_ _ | refine blk_drew ?_ | refine blk_alloc ?_ _)); refine blk_far ?_ NB169_176.out _; (with_reducible repeat (first | refine blk_drewN ?_ _ | refine blk_drew ?_ | refine blk_alloc ?_ _)); refine blk_far ?_ NB169_176.out _; (with_reducible repeat (first | refine blk_drewN ?_ _ | refine blk_drew ?_ | refine blk_alloc ?_ _)); refine blk_far ?_ NB169_176.out _; (with_reducible repeat (first | refine blk_drewN ?_ _ | refine blk_drew ?_ | refine blk_alloc ?_ _)); refine blk_far ?_ NB169_176.out _; (with_reducible repeat (first | refine blk_drewN ?_ _ | refine blk_drew ?_ | refine blk_alloc ?_ _)); exact BK169.out) NB169_171.out (by simp)); have n1_ := Aside0.mk (KeepBut.blk hk (g' := gb170) (o := .cells #[.int .i64 0, .int .i64 0, .int .i64 0, .string (⟨#[]⟩ : ByteArray)] 36 (0, 0)) (by (with_reducible repeat (first | refine blk_drewN ?_ _ | refine blk_drew ?_ | refine blk_alloc ?_ _)); refine blk_far ?_ NB170_176.out _; (with_reducible repeat (first | refine blk_drewN ?_ _ | refine blk_drew ?_ | refine blk_alloc ?_ _)); refine blk_far ?_ NB170_176.out _; (with_reducible repeat (first | refine blk_drewN ?_ _ | refine blk_drew ?_ | refine blk_alloc ?_ _)); refine blk_far ?_ NB170_176.out _; (with_reducible repeat (first | refine blk_drewN ?_ _ | refine blk_drew ?_ | refine blk_alloc ?_ _)); refine blk_far ?_ NB170_176.out _; (with_reducible repeat (first | refine blk_drewN ?_ _ | refine blk_drew ?_ | refine blk_alloc ?_ _)); exact BK170.out) NB170_171.out (by simp)); have n2_ := Aside0.mk (KeepBut.blk hk (g' := gb176) (o := .cells #[.int .i64 t172, .int .i64 0, .int .i64 0, .string (⟨#[]⟩ : ByteArray)] 36 (0, 0)) (by (with_reducible repeat (first | refine blk_drewN ?_ _ | refine blk_drew ?_ | refine blk_alloc ?_ _)); refine blk_put (cs := #[.int .i64 t172, .int .i64 0, .int .i64 0, .string (⟨#[]⟩ : ByteArray)]) ?_ 3 _ rfl; (with_reducible repeat (first | refine blk_drewN ?_ _ | refine blk_drew ?_ | refine blk_alloc ?_ _)); refine blk_put (cs := #[.int .i64 t172, .int .i64 0, .int .i64 0, .string (⟨#[]⟩ : ByteArray)]) ?_ 2 _ rfl; (with_reducible repeat (first | refine blk_drewN ?_ _ | refine blk_drew ?_ | refine blk_alloc ?_ _)); refine blk_put (cs := #[.int .i64 t172, .int .i64 0, .int .i64 0, .string (⟨#[]⟩ : ByteArray)]) ?_ 1 _ rfl; (with_reducible repeat (first | refine blk_drewN ?_ _ | refine blk_drew ?_ | refine blk_alloc ?_ _)); refine blk_put (cs := #[.int .i64 0, .int .i64 0, .int .i64 0, .string (⟨#[]⟩ : ByteArray)]) ?_ 0 _ rfl; (with_reducible repeat (first | refine blk_drewN ?_ _ | refine blk_drew ?_ | refine blk_alloc ?_ _)); exact BK176.out) NB176_171.out (by simp)); have n3_ := Aside0.mk (hb); have n4_ := Aside0.mk (hi); clear BK169; clear BK170; clear BK176; clear HB; clear HI171; have BK169 := n0_; have BK170 := n1_; have BK176 := n2_; have HB := n3_; have HI171 := n4_; clear n0_ n1_ n2_ n3_ n4_; (try clear hb); (try clear hb2); (try clear hk); (try clear hi); have hnb18 := NB176_169.out; have hnc18 := NB169_176.out; have hnb19 := NB176_170.out; have hnc19 := NB170_176.out; have hnb20 := NB176_171.out; have hnc20 := NB171_176.out; have hcz21_0 : w17.cell? ⟨gb176, 0, none⟩ = some (.int .i64 t172) := (blk_cell BK176.out 0).trans rfl; have hcz21_1 : w17.cell? ⟨gb176, 1, none⟩ = some (.int .i64 0) := (blk_cell BK176.out 1).trans rfl; have hcz21_2 : w17.cell? ⟨gb176, 2, none⟩ = some (.int .i64 0) := (blk_cell BK176.out 2).trans rfl; have hcz21_3 : w17.cell? ⟨gb176, 3, none⟩ = some (.string (⟨#[]⟩ : ByteArray)) := (blk_cell BK176.out 3).trans rfl; have hfz21_0 := blk_frozen BK176.out 0; have hfz21_1 := blk_frozen BK176.out 1; have hfz21_2 := blk_frozen BK176.out 2; have hfz21_3 := blk_frozen BK176.out 3))
      go_meet
      case rel => exact ⟨_, (t178), (t179), (t180), (t177), H', ⟨by first | omega | exact Nat.le_refl _⟩, ⟨by (with_reducible repeat (first | refine blk_drewN ?_ _ | refine blk_drew ?_ | refine blk_alloc ?_ _)); refine blk_far ?_ NB169_176.out _; (with_reducible repeat (first | refine blk_drewN ?_ _ | refine blk_drew ?_ | refine blk_alloc ?_ _)); exact BK169.out⟩, ⟨by (with_reducible repeat (first | refine blk_drewN ?_ _ | refine blk_drew ?_ | refine blk_alloc ?_ _)); refine blk_far ?_ NB170_176.out _; (with_reducible repeat (first | refine blk_drewN ?_ _ | refine blk_drew ?_ | refine blk_alloc ?_ _)); exact BK170.out⟩, ⟨by (with_reducible repeat (first | refine blk_drewN ?_ _ | refine blk_drew ?_ | refine blk_alloc ?_ _)); refine blk_put (cs := #[.int .i64 t172, .int .i64 0, .int .i64 0, .string (⟨#[]⟩ : ByteArray)]) ?_ 1 _ rfl; (with_reducible repeat (first | refine blk_drewN ?_ _ | refine blk_drew ?_ | refine blk_alloc ?_ _)); exact BK176.out⟩, ⟨by repeat (first | (with_reducible first | exact HI171.out | apply IsS57.alloc | apply IsS57.drewN | apply IsS57.drew | apply IsS57.set_0 | apply IsS57.set_1 | apply IsS57.set_2 | refine IsS57.far ?_ NB171_169.out _ | refine IsS57.far ?_ NB171_170.out _ | refine IsS57.far ?_ NB171_176.out _) | exact HI171.out)⟩, ⟨by repeat (first | (with_reducible first | exact HB.out | apply below_alloc | apply pw_below_drewN | apply below_drew1 | refine below_set ?_ (IsS57.ge HI171.out) | refine below_set ?_ GE169.out | refine below_set ?_ GE170.out | refine below_set ?_ GE176.out) | exact HB.out)⟩⟩
  case rest =>
    clear HC3
    try clear c1
    try clear c2
    try clear p2
    try clear c6
    try clear c11
    try clear c12
    try clear c13
    try clear c15
    try clear c15b0
    try clear c15b1
    try clear c17
    try clear c18
    try clear c19
    try clear c20
    try clear hcz14_0
    try clear hcz14_1
    try clear hcz14_2
    try clear hcz14_3
    try clear hcz21_0
    try clear hcz21_1
    try clear hcz21_2
    try clear hcz21_3
    try clear hcz7_0
    try clear hcz7_1
    try clear hcz7_2
    try clear hcz7_3
    try clear hfz14_0
    try clear hfz14_1
    try clear hfz14_2
    try clear hfz14_3
    try clear hfz21_0
    try clear hfz21_1
    try clear hfz21_2
    try clear hfz21_3
    try clear hfz7_0
    try clear hfz7_1
    try clear hfz7_2
    try clear hfz7_3
    obtain ⟨kq, x172000_2, x172001_2, x172002_2, x177001_2, HA, HJ2, BK169, BK170, BK176, HI171, HB⟩ := hcut
    cases kq with
    | zero => exact absurd HA.out (by simp [haulageref18_Decode.j0])
    | succ kj2 =>
      have H := HA.out
      clear HA
      simp only [haulageref18_Decode.j0] at H
      replace H := Option.bind_eq_some_iff.mp H
      obtain ⟨t181, A220, H⟩ := H
      replace H : (if t181 = true then ((haulageref11_R_Number.f kj2 x172000_2 x172001_2 x172002_2 9223372036854775807).bind fun bt182 => (haulageref18_Decode.j1 kj2 a0 0 0 0 (⟨#[]⟩ : ByteArray) bt182.2.1 bt182.2.2.1 bt182.2.2.2 t172 x177001_2 bt182.1 (⟨#[]⟩ : ByteArray))) else (haulageref18_Decode.j1 kj2 a0 0 0 0 (⟨#[]⟩ : ByteArray) x172000_2 x172001_2 x172002_2 t172 x177001_2 0 (⟨#[]⟩ : ByteArray))) = some (r1, r2, r3, r4, r5) := H
      have A22 := Aside0.mk A220
      clear A220
      have HC23 := Aside0.mk H
      clear H
      have hnb24 := NB176_169.out
      have hnc24 := NB169_176.out
      have hnb25 := NB176_170.out
      have hnc25 := NB170_176.out
      have hnb26 := NB176_171.out
      have hnc26 := NB171_176.out
      have hcz27_0 : wc.cell? ⟨gb176, 0, none⟩ = some (.int .i64 t172) := (blk_cell BK176.out 0).trans rfl
      have hcz27_1 : wc.cell? ⟨gb176, 1, none⟩ = some (.int .i64 x177001_2) := (blk_cell BK176.out 1).trans rfl
      have hcz27_2 : wc.cell? ⟨gb176, 2, none⟩ = some (.int .i64 0) := (blk_cell BK176.out 2).trans rfl
      have hcz27_3 : wc.cell? ⟨gb176, 3, none⟩ = some (.string (⟨#[]⟩ : ByteArray)) := (blk_cell BK176.out 3).trans rfl
      have hfz27_0 := blk_frozen BK176.out 0
      have hfz27_1 := blk_frozen BK176.out 1
      have hfz27_2 := blk_frozen BK176.out 2
      have hfz27_3 := blk_frozen BK176.out 3
      go_upto_if 22 with (first | ((with_reducible refine gate_callee (f := 34) rfl ?_); refine goesL_ (some 22) rfl rfl Tryd.func34 (by kernel_rfl) rfl #[.int .i64 t172] rfl (by (try simp only [List.map_toArray, List.map_cons, List.map_nil]); first | done | rfl | (simp only [List.length_drop, List.length_take]; rfl)) ?_; (with_reducible refine (haulageref18_rows.calls t172 t181 _ A22.out).mono ?_); rintro e w' ⟨rfl, ⟨nd, rfl⟩⟩; refine ⟨_, rfl, ?_⟩))
      (try simp only [Act.put, List.setIfInBounds_toArray, List.set_cons_zero, List.set_cons_succ])
      go_cut [] (fun wc => ∃ (kq : Nat) (x172000_22 : ByteArray) (x172001_22 : Int) (x172002_22 : Int) (x177002_22 : Int), Aside0 (haulageref18_Decode.j1 kq a0 0 0 0 (⟨#[]⟩ : ByteArray) x172000_22 x172001_22 x172002_22 t172 x177001_2 x177002_22 (⟨#[]⟩ : ByteArray) = some (r1, r2, r3, r4, r5)) ∧ Aside0 (kq ≤ kj2) ∧ Aside0 (wc.heap[gb169]? = some (.cells #[.int .i64 0, .int .i64 0, .int .i64 0, .string (⟨#[]⟩ : ByteArray)] 36 (0, 0))) ∧ Aside0 (wc.heap[gb170]? = some (.cells #[.int .i64 0, .int .i64 0, .int .i64 0, .string (⟨#[]⟩ : ByteArray)] 36 (0, 0))) ∧ Aside0 (wc.heap[gb176]? = some (.cells #[.int .i64 t172, .int .i64 x177001_2, .int .i64 x177002_22, .string (⟨#[]⟩ : ByteArray)] 36 (0, 0))) ∧ Aside0 (IsS57 w wc gb171 x172000_22 x172001_22 x172002_22) ∧ Aside0 (Below w.heap.size w wc))
      case first =>
        have H := HC23.out
        clear HC23
        by_cases c28 : t181 = true
        · subst c28
          have H1 : ((haulageref11_R_Number.f kj2 x172000_2 x172001_2 x172002_2 9223372036854775807).bind fun bt182 => (haulageref18_Decode.j1 kj2 a0 0 0 0 (⟨#[]⟩ : ByteArray) bt182.2.1 bt182.2.2.1 bt182.2.2.2 t172 x177001_2 bt182.1 (⟨#[]⟩ : ByteArray))) = some (r1, r2, r3, r4, r5) := by rw [if_pos rfl] at H; exact H
          clear H
          have H := H1
          clear H1
          replace H := Option.bind_eq_some_iff.mp H
          obtain ⟨⟨t182, t183, t184, t185⟩, A290, H⟩ := H
          replace H : (haulageref18_Decode.j1 kj2 a0 0 0 0 (⟨#[]⟩ : ByteArray) t183 t184 t185 t172 x177001_2 t182 (⟨#[]⟩ : ByteArray)) = some (r1, r2, r3, r4, r5) := H
          have A29 := Aside0.mk A290
          clear A290
          have H' := Aside0.mk H
          clear H
          go_wp2_with (first | ((with_reducible refine gate_callee (f := 27) rfl ?_); refine goesL_ (some 24) rfl rfl Tryd.func27 (by kernel_rfl) rfl #[.pointer (some ⟨gb171, 0, none⟩), .int .i64 9223372036854775807] rfl (by (try simp only [List.map_toArray, List.map_cons, List.map_nil]); first | done | rfl | (simp only [List.length_drop, List.length_take]; rfl)) ?_; (with_reducible refine (haulageref11_R_Number.calls kj2 gb171 x172000_2 x172001_2 x172002_2 9223372036854775807 t182 t183 t184 t185 w _ ?side1 ?side2 A29.out).mono ?_); (case side1 => repeat (first | (with_reducible first | exact HI171.out | apply IsS57.alloc | apply IsS57.drewN | apply IsS57.drew | apply IsS57.set_0 | apply IsS57.set_1 | apply IsS57.set_2 | refine IsS57.far ?_ NB171_169.out _ | refine IsS57.far ?_ NB171_170.out _ | refine IsS57.far ?_ NB171_176.out _) | exact HI171.out)); (case side2 => repeat (first | (with_reducible first | exact HB.out | apply below_alloc | apply pw_below_drewN | apply below_drew1 | refine below_set ?_ (IsS57.ge HI171.out) | refine below_set ?_ GE169.out | refine below_set ?_ GE170.out | refine below_set ?_ GE176.out) | exact HB.out)); rintro e w30 ⟨rfl, hi, hb, hk⟩; refine ⟨_, rfl, ?_⟩; have n0_ := Aside0.mk (KeepBut.blk hk (g' := gb169) (o := .cells #[.int .i64 0, .int .i64 0, .int .i64 0, .string (⟨#[]⟩ : ByteArray)] 36 (0, 0)) (by (with_reducible repeat (first | refine blk_drewN ?_ _ | refine blk_drew ?_ | refine blk_alloc ?_ _)); exact BK169.out) NB169_171.out (by simp)); have n1_ := Aside0.mk (KeepBut.blk hk (g' := gb170) (o := .cells #[.int .i64 0, .int .i64 0, .int .i64 0, .string (⟨#[]⟩ : ByteArray)] 36 (0, 0)) (by (with_reducible repeat (first | refine blk_drewN ?_ _ | refine blk_drew ?_ | refine blk_alloc ?_ _)); exact BK170.out) NB170_171.out (by simp)); have n2_ := Aside0.mk (KeepBut.blk hk (g' := gb176) (o := .cells #[.int .i64 t172, .int .i64 x177001_2, .int .i64 0, .string (⟨#[]⟩ : ByteArray)] 36 (0, 0)) (by (with_reducible repeat (first | refine blk_drewN ?_ _ | refine blk_drew ?_ | refine blk_alloc ?_ _)); exact BK176.out) NB176_171.out (by simp)); have n3_ := Aside0.mk (hb); have n4_ := Aside0.mk (hi); clear BK169; clear BK170; clear BK176; clear HB; clear HI171; have BK169 := n0_; have BK170 := n1_; have BK176 := n2_; have HB := n3_; have HI171 := n4_; clear n0_ n1_ n2_ n3_ n4_; (try clear hb); (try clear hb2); (try clear hk); (try clear hi); have hnb31 := NB176_169.out; have hnc31 := NB169_176.out; have hnb32 := NB176_170.out; have hnc32 := NB170_176.out; have hnb33 := NB176_171.out; have hnc33 := NB171_176.out; have hcz34_0 : w30.cell? ⟨gb176, 0, none⟩ = some (.int .i64 t172) := (blk_cell BK176.out 0).trans rfl; have hcz34_1 : w30.cell? ⟨gb176, 1, none⟩ = some (.int .i64 x177001_2) := (blk_cell BK176.out 1).trans rfl; have hcz34_2 : w30.cell? ⟨gb176, 2, none⟩ = some (.int .i64 0) := (blk_cell BK176.out 2).trans rfl; have hcz34_3 : w30.cell? ⟨gb176, 3, none⟩ = some (.string (⟨#[]⟩ : ByteArray)) := (blk_cell BK176.out 3).trans rfl; have hfz34_0 := blk_frozen BK176.out 0; have hfz34_1 := blk_frozen BK176.out 1; have hfz34_2 := blk_frozen BK176.out 2; have hfz34_3 := blk_frozen BK176.out 3))
          go_meet
          case rel => exact ⟨_, (t183), (t184), (t185), (t182), H', ⟨by have := HJ2.out; first | omega | exact Nat.le_refl _⟩, ⟨by (with_reducible repeat (first | refine blk_drewN ?_ _ | refine blk_drew ?_ | refine blk_alloc ?_ _)); refine blk_far ?_ NB169_176.out _; (with_reducible repeat (first | refine blk_drewN ?_ _ | refine blk_drew ?_ | refine blk_alloc ?_ _)); exact BK169.out⟩, ⟨by (with_reducible repeat (first | refine blk_drewN ?_ _ | refine blk_drew ?_ | refine blk_alloc ?_ _)); refine blk_far ?_ NB170_176.out _; (with_reducible repeat (first | refine blk_drewN ?_ _ | refine blk_drew ?_ | refine blk_alloc ?_ _)); exact BK170.out⟩, ⟨by (with_reducible repeat (first | refine blk_drewN ?_ _ | refine blk_drew ?_ | refine blk_alloc ?_ _)); refine blk_put (cs := #[.int .i64 t172, .int .i64 x177001_2, .int .i64 0, .string (⟨#[]⟩ : ByteArray)]) ?_ 2 _ rfl; (with_reducible repeat (first | refine blk_drewN ?_ _ | refine blk_drew ?_ | refine blk_alloc ?_ _)); exact BK176.out⟩, ⟨by repeat (first | (with_reducible first | exact HI171.out | apply IsS57.alloc | apply IsS57.drewN | apply IsS57.drew | apply IsS57.set_0 | apply IsS57.set_1 | apply IsS57.set_2 | refine IsS57.far ?_ NB171_169.out _ | refine IsS57.far ?_ NB171_170.out _ | refine IsS57.far ?_ NB171_176.out _) | exact HI171.out)⟩, ⟨by repeat (first | (with_reducible first | exact HB.out | apply below_alloc | apply pw_below_drewN | apply below_drew1 | refine below_set ?_ (IsS57.ge HI171.out) | refine below_set ?_ GE169.out | refine below_set ?_ GE170.out | refine below_set ?_ GE176.out) | exact HB.out)⟩⟩
        · replace c28 := Bool.eq_false_iff.mpr c28
          subst c28
          have H1 : (haulageref18_Decode.j1 kj2 a0 0 0 0 (⟨#[]⟩ : ByteArray) x172000_2 x172001_2 x172002_2 t172 x177001_2 0 (⟨#[]⟩ : ByteArray)) = some (r1, r2, r3, r4, r5) := by rw [if_neg (show ¬ (false = true) by decide)] at H; exact H
          clear H
          have H := H1
          clear H1
          have H' := Aside0.mk H
          clear H
          go_wp2
          go_meet
          case rel => exact ⟨_, (x172000_2), (x172001_2), (x172002_2), (0), H', ⟨by have := HJ2.out; first | omega | exact Nat.le_refl _⟩, ⟨by (with_reducible repeat (first | refine blk_drewN ?_ _ | refine blk_drew ?_ | refine blk_alloc ?_ _)); exact BK169.out⟩, ⟨by (with_reducible repeat (first | refine blk_drewN ?_ _ | refine blk_drew ?_ | refine blk_alloc ?_ _)); exact BK170.out⟩, ⟨by (with_reducible repeat (first | refine blk_drewN ?_ _ | refine blk_drew ?_ | refine blk_alloc ?_ _)); exact BK176.out⟩, ⟨by repeat (first | (with_reducible first | exact HI171.out | apply IsS57.alloc | apply IsS57.drewN | apply IsS57.drew | apply IsS57.set_0 | apply IsS57.set_1 | apply IsS57.set_2 | refine IsS57.far ?_ NB171_169.out _ | refine IsS57.far ?_ NB171_170.out _ | refine IsS57.far ?_ NB171_176.out _) | exact HI171.out)⟩, ⟨by repeat (first | (with_reducible first | exact HB.out | apply below_alloc | apply pw_below_drewN | apply below_drew1 | refine below_set ?_ (IsS57.ge HI171.out) | refine below_set ?_ GE169.out | refine below_set ?_ GE170.out | refine below_set ?_ GE176.out) | exact HB.out)⟩⟩
      case rest =>
        clear HC23
        try clear c1
        try clear c2
        try clear p2
        try clear c3
        try clear c6
        try clear c11
        try clear c12
        try clear c13
        try clear c15
        try clear c15b0
        try clear c15b1
        try clear c17
        try clear c18
        try clear c19
        try clear c20
        try clear c24
        try clear c25
        try clear c26
        try clear c27
        try clear c28
        try clear c31
        try clear c32
        try clear c33
        try clear c34
        try clear hcz14_0
        try clear hcz14_1
        try clear hcz14_2
        try clear hcz14_3
        try clear hcz21_0
        try clear hcz21_1
        try clear hcz21_2
        try clear hcz21_3
        try clear hcz27_0
        try clear hcz27_1
        try clear hcz27_2
        try clear hcz27_3
        try clear hcz34_0
        try clear hcz34_1
        try clear hcz34_2
        try clear hcz34_3
        try clear hcz7_0
        try clear hcz7_1
        try clear hcz7_2
        try clear hcz7_3
        try clear hfz14_0
        try clear hfz14_1
        try clear hfz14_2
        try clear hfz14_3
        try clear hfz21_0
        try clear hfz21_1
        try clear hfz21_2
        try clear hfz21_3
        try clear hfz27_0
        try clear hfz27_1
        try clear hfz27_2
        try clear hfz27_3
        try clear hfz34_0
        try clear hfz34_1
        try clear hfz34_2
        try clear hfz34_3
        try clear hfz7_0
        try clear hfz7_1
        try clear hfz7_2
        try clear hfz7_3
        try clear p2
        obtain ⟨kq, x172000_22, x172001_22, x172002_22, x177002_22, HA, HJ22, BK169, BK170, BK176, HI171, HB⟩ := hcut
        cases kq with
        | zero => exact absurd HA.out (by simp [haulageref18_Decode.j1])
        | succ kj22 =>
          have H := HA.out
          clear HA
          simp only [haulageref18_Decode.j1] at H
          by_cases c35 : x172002_22 = 0
          · rw [if_pos c35] at H
            have c35b0 : (x172002_22 == 0) = true := beq_iff_eq.mpr c35
            have c35b1 : (x172002_22 != 0) = false := bne_eq_false_iff_eq.mpr c35
            clear c35
            by_cases c36 : 0 ≤ x172001_22
            · rw [if_pos c36] at H
              have c36b0 := eq_true c36
              have c36b1 : decide (0 ≤ x172001_22) = true := decide_eq_true c36
              clear c36
              by_cases c37 : x172001_22 ≤ (a0.size : Int)
              · rw [if_pos c37] at H
                have c37b0 := eq_true c37
                have c37b1 : decide (x172001_22 ≤ (a0.size : Int)) = true := decide_eq_true c37
                clear c37
                have HC38 := Aside0.mk H
                clear H
                obtain ⟨HGz39, hgz39⟩ := HI171.out
                have hcz39_0 := cellS57_0 HGz39
                have hcz39_1 := cellS57_1 HGz39
                have hcz39_2 := cellS57_2 HGz39
                have hfz39_0 := blk_frozen HGz39 0
                have hfz39_1 := blk_frozen HGz39 1
                have hfz39_2 := blk_frozen HGz39 2
                clear HGz39 hgz39
                have hnb40 := NB176_169.out
                have hnc40 := NB169_176.out
                have hnb41 := NB176_170.out
                have hnc41 := NB170_176.out
                have hnb42 := NB176_171.out
                have hnc42 := NB171_176.out
                have hcz43_0 : wc.cell? ⟨gb176, 0, none⟩ = some (.int .i64 t172) := (blk_cell BK176.out 0).trans rfl
                have hcz43_1 : wc.cell? ⟨gb176, 1, none⟩ = some (.int .i64 x177001_2) := (blk_cell BK176.out 1).trans rfl
                have hcz43_2 : wc.cell? ⟨gb176, 2, none⟩ = some (.int .i64 x177002_22) := (blk_cell BK176.out 2).trans rfl
                have hcz43_3 : wc.cell? ⟨gb176, 3, none⟩ = some (.string (⟨#[]⟩ : ByteArray)) := (blk_cell BK176.out 3).trans rfl
                have hfz43_0 := blk_frozen BK176.out 0
                have hfz43_1 := blk_frozen BK176.out 1
                have hfz43_2 := blk_frozen BK176.out 2
                have hfz43_3 := blk_frozen BK176.out 3
                go_upto_region 11 with (fail)
                go_cut [56] (fun v56 wc => ∃ (kq : Nat) (x56_37 : Bool), v56 = .bool x56_37 ∧ Aside0 (haulageref18_Decode.j2 kq x56_37 0 0 0 (⟨#[]⟩ : ByteArray) t172 x177001_2 x177002_22 (a0.extract (x172001_22 : Int).toNat a0.size) = some (r1, r2, r3, r4, r5)) ∧ Aside0 (kq ≤ kj22) ∧ Aside0 (wc.heap[gb169]? = some (.cells #[.int .i64 0, .int .i64 0, .int .i64 0, .string (⟨#[]⟩ : ByteArray)] 36 (0, 0))) ∧ Aside0 (wc.heap[gb170]? = some (.cells #[.int .i64 0, .int .i64 0, .int .i64 0, .string (⟨#[]⟩ : ByteArray)] 36 (0, 0))) ∧ Aside0 (wc.heap[gb176]? = some (.cells #[.int .i64 t172, .int .i64 x177001_2, .int .i64 x177002_22, .string (a0.extract (x172001_22 : Int).toNat a0.size)] 36 (0, 0))) ∧ Aside0 (Below w.heap.size w wc))
                case first =>
                  have H := HC38.out
                  clear HC38
                  by_cases c44 : (a0.extract (x172001_22 : Int).toNat a0.size).toList = ([] : List UInt8)
                  · rw [if_pos c44] at H
                    have c44b0 : ((a0.extract (x172001_22 : Int).toNat a0.size).toList == ([] : List UInt8)) = true := beq_iff_eq.mpr c44
                    have c44b0_s := c44b0
                    (try simp only [ByteArray.size_extract, Nat.min_self] at c44b0_s)
                    have c44b1 : ((a0.extract (x172001_22 : Int).toNat a0.size).toList != ([] : List UInt8)) = false := bne_eq_false_iff_eq.mpr c44
                    have c44b1_s := c44b1
                    (try simp only [ByteArray.size_extract, Nat.min_self] at c44b1_s)
                    clear c44
                    (first | rw [c44b0] | (simp only [i64_w, i32_w]; rw [c44b0]) | skip)
                    have H' := Aside0.mk H
                    clear H
                    have hnb45 := NB176_169.out
                    have hnc45 := NB169_176.out
                    have hnb46 := NB176_170.out
                    have hnc46 := NB170_176.out
                    have hnb47 := NB176_171.out
                    have hnc47 := NB171_176.out
                    have hcz48_0 : wc.cell? ⟨gb176, 0, none⟩ = some (.int .i64 t172) := (blk_cell BK176.out 0).trans rfl
                    have hcz48_1 : wc.cell? ⟨gb176, 1, none⟩ = some (.int .i64 x177001_2) := (blk_cell BK176.out 1).trans rfl
                    have hcz48_2 : wc.cell? ⟨gb176, 2, none⟩ = some (.int .i64 x177002_22) := (blk_cell BK176.out 2).trans rfl
                    have hcz48_3 : wc.cell? ⟨gb176, 3, none⟩ = some (.string (⟨#[]⟩ : ByteArray)) := (blk_cell BK176.out 3).trans rfl
                    have hfz48_0 := blk_frozen BK176.out 0
                    have hfz48_1 := blk_frozen BK176.out 1
                    have hfz48_2 := blk_frozen BK176.out 2
                    have hfz48_3 := blk_frozen BK176.out 3
                    go_wp2
                    go_meet
                    case rel => exact ⟨_, (false), (by first | rfl | (simp; done) | (simp [*]; done)), H', ⟨by have := HJ2.out; have := HJ22.out; first | omega | exact Nat.le_refl _⟩, ⟨by (with_reducible repeat (first | refine blk_drewN ?_ _ | refine blk_drew ?_ | refine blk_alloc ?_ _)); refine blk_far ?_ NB169_176.out _; (with_reducible repeat (first | refine blk_drewN ?_ _ | refine blk_drew ?_ | refine blk_alloc ?_ _)); exact BK169.out⟩, ⟨by (with_reducible repeat (first | refine blk_drewN ?_ _ | refine blk_drew ?_ | refine blk_alloc ?_ _)); refine blk_far ?_ NB170_176.out _; (with_reducible repeat (first | refine blk_drewN ?_ _ | refine blk_drew ?_ | refine blk_alloc ?_ _)); exact BK170.out⟩, ⟨by (with_reducible repeat (first | refine blk_drewN ?_ _ | refine blk_drew ?_ | refine blk_alloc ?_ _)); refine blk_put (cs := #[.int .i64 t172, .int .i64 x177001_2, .int .i64 x177002_22, .string (⟨#[]⟩ : ByteArray)]) ?_ 3 _ rfl; (with_reducible repeat (first | refine blk_drewN ?_ _ | refine blk_drew ?_ | refine blk_alloc ?_ _)); exact BK176.out⟩, ⟨by repeat (first | (with_reducible first | exact HB.out | apply below_alloc | apply pw_below_drewN | apply below_drew1 | refine below_set ?_ (IsS57.ge HI171.out) | refine below_set ?_ GE169.out | refine below_set ?_ GE170.out | refine below_set ?_ GE176.out) | exact HB.out)⟩⟩
                  · rw [if_neg c44] at H
                    have c44b0 : ((a0.extract (x172001_22 : Int).toNat a0.size).toList == ([] : List UInt8)) = false := beq_eq_false_iff_ne.mpr c44
                    have c44b0_s := c44b0
                    (try simp only [ByteArray.size_extract, Nat.min_self] at c44b0_s)
                    have c44b1 : ((a0.extract (x172001_22 : Int).toNat a0.size).toList != ([] : List UInt8)) = true := bne_iff_ne.mpr c44
                    have c44b1_s := c44b1
                    (try simp only [ByteArray.size_extract, Nat.min_self] at c44b1_s)
                    (first | rw [c44b0] | (simp only [i64_w, i32_w]; rw [c44b0]) | skip)
                    replace H := Option.bind_eq_some_iff.mp H
                    obtain ⟨t186, A490, H⟩ := H
                    replace H : (if t186 = true then (haulageref18_Decode.j2 kj22 false 0 0 0 (⟨#[]⟩ : ByteArray) t172 x177001_2 x177002_22 (a0.extract (x172001_22 : Int).toNat a0.size)) else (haulageref18_Decode.j2 kj22 (t172 != 5) 0 0 0 (⟨#[]⟩ : ByteArray) t172 x177001_2 x177002_22 (a0.extract (x172001_22 : Int).toNat a0.size))) = some (r1, r2, r3, r4, r5) := H
                    have A49 := Aside0.mk A490
                    clear A490
                    by_cases c50 : t186 = true
                    · subst c50
                      have H1 : (haulageref18_Decode.j2 kj22 false 0 0 0 (⟨#[]⟩ : ByteArray) t172 x177001_2 x177002_22 (a0.extract (x172001_22 : Int).toNat a0.size)) = some (r1, r2, r3, r4, r5) := by rw [if_pos rfl] at H; exact H
                      clear H
                      have H := H1
                      clear H1
                      have H' := Aside0.mk H
                      clear H
                      have hnb51 := NB176_169.out
                      have hnc51 := NB169_176.out
                      have hnb52 := NB176_170.out
                      have hnc52 := NB170_176.out
                      have hnb53 := NB176_171.out
                      have hnc53 := NB171_176.out
                      have hcz54_0 : wc.cell? ⟨gb176, 0, none⟩ = some (.int .i64 t172) := (blk_cell BK176.out 0).trans rfl
                      have hcz54_1 : wc.cell? ⟨gb176, 1, none⟩ = some (.int .i64 x177001_2) := (blk_cell BK176.out 1).trans rfl
                      have hcz54_2 : wc.cell? ⟨gb176, 2, none⟩ = some (.int .i64 x177002_22) := (blk_cell BK176.out 2).trans rfl
                      have hcz54_3 : wc.cell? ⟨gb176, 3, none⟩ = some (.string (⟨#[]⟩ : ByteArray)) := (blk_cell BK176.out 3).trans rfl
                      have hfz54_0 := blk_frozen BK176.out 0
                      have hfz54_1 := blk_frozen BK176.out 1
                      have hfz54_2 := blk_frozen BK176.out 2
                      have hfz54_3 := blk_frozen BK176.out 3
                      go_wp2_with (first | (go_at_call 34; (with_reducible refine (haulageref18_rows.calls t172 true _ A49.out).mono ?_); rintro e w' ⟨rfl, ⟨nd, rfl⟩⟩))
                      go_meet
                      case rel => exact ⟨_, (false), (by first | rfl | (simp; done) | (simp [*]; done)), H', ⟨by have := HJ2.out; have := HJ22.out; first | omega | exact Nat.le_refl _⟩, ⟨by (with_reducible repeat (first | refine blk_drewN ?_ _ | refine blk_drew ?_ | refine blk_alloc ?_ _)); refine blk_far ?_ NB169_176.out _; (with_reducible repeat (first | refine blk_drewN ?_ _ | refine blk_drew ?_ | refine blk_alloc ?_ _)); exact BK169.out⟩, ⟨by (with_reducible repeat (first | refine blk_drewN ?_ _ | refine blk_drew ?_ | refine blk_alloc ?_ _)); refine blk_far ?_ NB170_176.out _; (with_reducible repeat (first | refine blk_drewN ?_ _ | refine blk_drew ?_ | refine blk_alloc ?_ _)); exact BK170.out⟩, ⟨by (with_reducible repeat (first | refine blk_drewN ?_ _ | refine blk_drew ?_ | refine blk_alloc ?_ _)); refine blk_put (cs := #[.int .i64 t172, .int .i64 x177001_2, .int .i64 x177002_22, .string (⟨#[]⟩ : ByteArray)]) ?_ 3 _ rfl; (with_reducible repeat (first | refine blk_drewN ?_ _ | refine blk_drew ?_ | refine blk_alloc ?_ _)); exact BK176.out⟩, ⟨by repeat (first | (with_reducible first | exact HB.out | apply below_alloc | apply pw_below_drewN | apply below_drew1 | refine below_set ?_ (IsS57.ge HI171.out) | refine below_set ?_ GE169.out | refine below_set ?_ GE170.out | refine below_set ?_ GE176.out) | exact HB.out)⟩⟩
                    · replace c50 := Bool.eq_false_iff.mpr c50
                      subst c50
                      have H1 : (haulageref18_Decode.j2 kj22 (t172 != 5) 0 0 0 (⟨#[]⟩ : ByteArray) t172 x177001_2 x177002_22 (a0.extract (x172001_22 : Int).toNat a0.size)) = some (r1, r2, r3, r4, r5) := by rw [if_neg (show ¬ (false = true) by decide)] at H; exact H
                      clear H
                      have H := H1
                      clear H1
                      have H' := Aside0.mk H
                      clear H
                      have hnb55 := NB176_169.out
                      have hnc55 := NB169_176.out
                      have hnb56 := NB176_170.out
                      have hnc56 := NB170_176.out
                      have hnb57 := NB176_171.out
                      have hnc57 := NB171_176.out
                      have hcz58_0 : wc.cell? ⟨gb176, 0, none⟩ = some (.int .i64 t172) := (blk_cell BK176.out 0).trans rfl
                      have hcz58_1 : wc.cell? ⟨gb176, 1, none⟩ = some (.int .i64 x177001_2) := (blk_cell BK176.out 1).trans rfl
                      have hcz58_2 : wc.cell? ⟨gb176, 2, none⟩ = some (.int .i64 x177002_22) := (blk_cell BK176.out 2).trans rfl
                      have hcz58_3 : wc.cell? ⟨gb176, 3, none⟩ = some (.string (⟨#[]⟩ : ByteArray)) := (blk_cell BK176.out 3).trans rfl
                      have hfz58_0 := blk_frozen BK176.out 0
                      have hfz58_1 := blk_frozen BK176.out 1
                      have hfz58_2 := blk_frozen BK176.out 2
                      have hfz58_3 := blk_frozen BK176.out 3
                      go_wp2_with (first | (go_at_call 34; (with_reducible refine (haulageref18_rows.calls t172 false _ A49.out).mono ?_); rintro e w' ⟨rfl, ⟨nd, rfl⟩⟩))
                      go_meet
                      case rel => exact ⟨_, ((t172 != 5)), (by first | rfl | (simp; done) | (simp [*]; done)), H', ⟨by have := HJ2.out; have := HJ22.out; first | omega | exact Nat.le_refl _⟩, ⟨by (with_reducible repeat (first | refine blk_drewN ?_ _ | refine blk_drew ?_ | refine blk_alloc ?_ _)); refine blk_far ?_ NB169_176.out _; (with_reducible repeat (first | refine blk_drewN ?_ _ | refine blk_drew ?_ | refine blk_alloc ?_ _)); exact BK169.out⟩, ⟨by (with_reducible repeat (first | refine blk_drewN ?_ _ | refine blk_drew ?_ | refine blk_alloc ?_ _)); refine blk_far ?_ NB170_176.out _; (with_reducible repeat (first | refine blk_drewN ?_ _ | refine blk_drew ?_ | refine blk_alloc ?_ _)); exact BK170.out⟩, ⟨by (with_reducible repeat (first | refine blk_drewN ?_ _ | refine blk_drew ?_ | refine blk_alloc ?_ _)); refine blk_put (cs := #[.int .i64 t172, .int .i64 x177001_2, .int .i64 x177002_22, .string (⟨#[]⟩ : ByteArray)]) ?_ 3 _ rfl; (with_reducible repeat (first | refine blk_drewN ?_ _ | refine blk_drew ?_ | refine blk_alloc ?_ _)); exact BK176.out⟩, ⟨by repeat (first | (with_reducible first | exact HB.out | apply below_alloc | apply pw_below_drewN | apply below_drew1 | refine below_set ?_ (IsS57.ge HI171.out) | refine below_set ?_ GE169.out | refine below_set ?_ GE170.out | refine below_set ?_ GE176.out) | exact HB.out)⟩⟩
                case rest =>
                  clear HC38
                  try clear c1
                  try clear c2
                  try clear p2
                  try clear c3
                  try clear c4
                  try clear c5
                  try clear c6
                  try clear c11
                  try clear c12
                  try clear c13
                  try clear c15
                  try clear c15b0
                  try clear c15b1
                  try clear c17
                  try clear c18
                  try clear c19
                  try clear c20
                  try clear c24
                  try clear c25
                  try clear c26
                  try clear c27
                  try clear c28
                  try clear c31
                  try clear c32
                  try clear c33
                  try clear c34
                  try clear c35
                  try clear c35b0
                  try clear c35b1
                  try clear c36
                  try clear c36b0
                  try clear c36b1
                  try clear c37
                  try clear c37b0
                  try clear c37b1
                  try clear c40
                  try clear c41
                  try clear c42
                  try clear c44
                  try clear c44b0
                  try clear c44b1
                  try clear c45
                  try clear c46
                  try clear c47
                  try clear c50
                  try clear c51
                  try clear c52
                  try clear c53
                  try clear c55
                  try clear c56
                  try clear c57
                  try clear hcz14_0
                  try clear hcz14_1
                  try clear hcz14_2
                  try clear hcz14_3
                  try clear hcz21_0
                  try clear hcz21_1
                  try clear hcz21_2
                  try clear hcz21_3
                  try clear hcz27_0
                  try clear hcz27_1
                  try clear hcz27_2
                  try clear hcz27_3
                  try clear hcz34_0
                  try clear hcz34_1
                  try clear hcz34_2
                  try clear hcz34_3
                  try clear hcz39_0
                  try clear hcz39_1
                  try clear hcz39_2
                  try clear hcz43_0
                  try clear hcz43_1
                  try clear hcz43_2
                  try clear hcz43_3
                  try clear hcz48_0
                  try clear hcz48_1
                  try clear hcz48_2
                  try clear hcz48_3
                  try clear hcz54_0
                  try clear hcz54_1
                  try clear hcz54_2
                  try clear hcz54_3
                  try clear hcz58_0
                  try clear hcz58_1
                  try clear hcz58_2
                  try clear hcz58_3
                  try clear hcz7_0
                  try clear hcz7_1
                  try clear hcz7_2
                  try clear hcz7_3
                  try clear hfz14_0
                  try clear hfz14_1
                  try clear hfz14_2
                  try clear hfz14_3
                  try clear hfz21_0
                  try clear hfz21_1
                  try clear hfz21_2
                  try clear hfz21_3
                  try clear hfz27_0
                  try clear hfz27_1
                  try clear hfz27_2
                  try clear hfz27_3
                  try clear hfz34_0
                  try clear hfz34_1
                  try clear hfz34_2
                  try clear hfz34_3
                  try clear hfz39_0
                  try clear hfz39_1
                  try clear hfz39_2
                  try clear hfz43_0
                  try clear hfz43_1
                  try clear hfz43_2
                  try clear hfz43_3
                  try clear hfz48_0
                  try clear hfz48_1
                  try clear hfz48_2
                  try clear hfz48_3
                  try clear hfz54_0
                  try clear hfz54_1
                  try clear hfz54_2
                  try clear hfz54_3
                  try clear hfz58_0
                  try clear hfz58_1
                  try clear hfz58_2
                  try clear hfz58_3
                  try clear hfz7_0
                  try clear hfz7_1
                  try clear hfz7_2
                  try clear hfz7_3
                  try clear p2
                  obtain ⟨kq, x56_37, rfl, HA, HJ37, BK169, BK170, BK176, HB⟩ := hcut
                  cases kq with
                  | zero => exact absurd HA.out (by simp [haulageref18_Decode.j2])
                  | succ kj37 =>
                    have H := HA.out
                    clear HA
                    simp only [haulageref18_Decode.j2] at H
                    by_cases c59 : x56_37 = true
                    · subst c59
                      have H1 : (some (0, 0, 0, (⟨#[]⟩ : ByteArray), 6)) = some (r1, r2, r3, r4, r5) := by rw [if_pos rfl] at H; exact H
                      clear H
                      have H := H1
                      clear H1
                      simp only [Option.some.injEq, Prod.mk.injEq] at H
                      obtain ⟨rfl, rfl, rfl, rfl, rfl⟩ := H
                      have hnb60 := NB170_169.out
                      have hnc60 := NB169_170.out
                      have hnb61 := NB170_176.out
                      have hnc61 := NB176_170.out
                      have hcz62_0 : wc.cell? ⟨gb170, 0, none⟩ = some (.int .i64 0) := (blk_cell BK170.out 0).trans rfl
                      have hcz62_1 : wc.cell? ⟨gb170, 1, none⟩ = some (.int .i64 0) := (blk_cell BK170.out 1).trans rfl
                      have hcz62_2 : wc.cell? ⟨gb170, 2, none⟩ = some (.int .i64 0) := (blk_cell BK170.out 2).trans rfl
                      have hcz62_3 : wc.cell? ⟨gb170, 3, none⟩ = some (.string (⟨#[]⟩ : ByteArray)) := (blk_cell BK170.out 3).trans rfl
                      have hfz62_0 := blk_frozen BK170.out 0
                      have hfz62_1 := blk_frozen BK170.out 1
                      have hfz62_2 := blk_frozen BK170.out 2
                      have hfz62_3 := blk_frozen BK170.out 3
                      have hnb63 := NB169_176.out
                      have hnc63 := NB176_169.out
                      have hcz64_0 : wc.cell? ⟨gb169, 0, none⟩ = some (.int .i64 0) := (blk_cell BK169.out 0).trans rfl
                      have hcz64_1 : wc.cell? ⟨gb169, 1, none⟩ = some (.int .i64 0) := (blk_cell BK169.out 1).trans rfl
                      have hcz64_2 : wc.cell? ⟨gb169, 2, none⟩ = some (.int .i64 0) := (blk_cell BK169.out 2).trans rfl
                      have hcz64_3 : wc.cell? ⟨gb169, 3, none⟩ = some (.string (⟨#[]⟩ : ByteArray)) := (blk_cell BK169.out 3).trans rfl
                      have hfz64_0 := blk_frozen BK169.out 0
                      have hfz64_1 := blk_frozen BK169.out 1
                      have hfz64_2 := blk_frozen BK169.out 2
                      have hfz64_3 := blk_frozen BK169.out 3
                      go_wp2
                      refine bodyPost_ret (results_ct rfl _ _ gb169 36 #[.int .i64 0, .int .i64 0, .int .i64 0, .string (⟨#[]⟩ : ByteArray)] (0, 0) _ rfl (by (with_reducible repeat (first | refine blk_drewN ?_ _ | refine blk_drew ?_ | refine blk_alloc ?_ _)); refine blk_put (cs := #[.int .i64 0, .int .i64 0, .int .i64 0, .string (⟨#[]⟩ : ByteArray)]) ?_ 3 _ rfl; (with_reducible repeat (first | refine blk_drewN ?_ _ | refine blk_drew ?_ | refine blk_alloc ?_ _)); refine blk_put (cs := #[.int .i64 0, .int .i64 0, .int .i64 0, .string (⟨#[]⟩ : ByteArray)]) ?_ 2 _ rfl; (with_reducible repeat (first | refine blk_drewN ?_ _ | refine blk_drew ?_ | refine blk_alloc ?_ _)); refine blk_put (cs := #[.int .i64 0, .int .i64 0, .int .i64 0, .string (⟨#[]⟩ : ByteArray)]) ?_ 1 _ rfl; (with_reducible repeat (first | refine blk_drewN ?_ _ | refine blk_drew ?_ | refine blk_alloc ?_ _)); refine blk_put (cs := #[.int .i64 0, .int .i64 0, .int .i64 0, .string (⟨#[]⟩ : ByteArray)]) ?_ 0 _ rfl; (with_reducible repeat (first | refine blk_drewN ?_ _ | refine blk_drew ?_ | refine blk_alloc ?_ _)); exact BK169.out) Tryd.underlying36 rfl (by kernel_rfl)) rfl ?_
                      exact ⟨by first | rfl | (simp [errW_none, errW_some] <;> rfl) | (simp [*, errW_none, errW_some] <;> rfl), by repeat (first | (with_reducible first | exact HB.out | apply below_alloc | apply pw_below_drewN | apply below_drew1 | refine below_set ?_ GE169.out | refine below_set ?_ GE170.out | refine below_set ?_ GE176.out) | exact HB.out)⟩
                    · replace c59 := Bool.eq_false_iff.mpr c59
                      subst c59
                      have H1 : (if ((a0.extract (x172001_22 : Int).toNat a0.size).size : Int) > 65535 then (some (0, 0, 0, (⟨#[]⟩ : ByteArray), 3)) else (some (t172, x177001_2, x177002_22, (a0.extract (x172001_22 : Int).toNat a0.size), 0))) = some (r1, r2, r3, r4, r5) := by rw [if_neg (show ¬ (false = true) by decide)] at H; exact H
                      clear H
                      have H := H1
                      clear H1
                      by_cases c65 : ((a0.extract (x172001_22 : Int).toNat a0.size).size : Int) > 65535
                      · rw [if_pos c65] at H
                        have c65b0 : decide (65535 < ((a0.extract (x172001_22 : Int).toNat a0.size).size : Int)) = true := decide_eq_true c65
                        have c65b0_s := c65b0
                        (try simp only [ByteArray.size_extract, Nat.min_self] at c65b0_s)
                        have c65b1 : decide (65535 < (a0.extract (x172001_22 : Int).toNat a0.size).size) = true := decide_eq_true (by omega)
                        have c65b1_s := c65b1
                        (try simp only [ByteArray.size_extract, Nat.min_self] at c65b1_s)
                        clear c65
                        simp only [Option.some.injEq, Prod.mk.injEq] at H
                        obtain ⟨rfl, rfl, rfl, rfl, rfl⟩ := H
                        have hnb66 := NB176_169.out
                        have hnc66 := NB169_176.out
                        have hnb67 := NB176_170.out
                        have hnc67 := NB170_176.out
                        have hcz68_0 : wc.cell? ⟨gb176, 0, none⟩ = some (.int .i64 t172) := (blk_cell BK176.out 0).trans rfl
                        have hcz68_1 : wc.cell? ⟨gb176, 1, none⟩ = some (.int .i64 x177001_2) := (blk_cell BK176.out 1).trans rfl
                        have hcz68_2 : wc.cell? ⟨gb176, 2, none⟩ = some (.int .i64 x177002_22) := (blk_cell BK176.out 2).trans rfl
                        have hcz68_3 : wc.cell? ⟨gb176, 3, none⟩ = some (.string (a0.extract (x172001_22 : Int).toNat a0.size)) := (blk_cell BK176.out 3).trans rfl
                        have hfz68_0 := blk_frozen BK176.out 0
                        have hfz68_1 := blk_frozen BK176.out 1
                        have hfz68_2 := blk_frozen BK176.out 2
                        have hfz68_3 := blk_frozen BK176.out 3
                        have hnb69 := NB170_169.out
                        have hnc69 := NB169_170.out
                        have hcz70_0 : wc.cell? ⟨gb170, 0, none⟩ = some (.int .i64 0) := (blk_cell BK170.out 0).trans rfl
                        have hcz70_1 : wc.cell? ⟨gb170, 1, none⟩ = some (.int .i64 0) := (blk_cell BK170.out 1).trans rfl
                        have hcz70_2 : wc.cell? ⟨gb170, 2, none⟩ = some (.int .i64 0) := (blk_cell BK170.out 2).trans rfl
                        have hcz70_3 : wc.cell? ⟨gb170, 3, none⟩ = some (.string (⟨#[]⟩ : ByteArray)) := (blk_cell BK170.out 3).trans rfl
                        have hfz70_0 := blk_frozen BK170.out 0
                        have hfz70_1 := blk_frozen BK170.out 1
                        have hfz70_2 := blk_frozen BK170.out 2
                        have hfz70_3 := blk_frozen BK170.out 3
                        have hcz71_0 : wc.cell? ⟨gb169, 0, none⟩ = some (.int .i64 0) := (blk_cell BK169.out 0).trans rfl
                        have hcz71_1 : wc.cell? ⟨gb169, 1, none⟩ = some (.int .i64 0) := (blk_cell BK169.out 1).trans rfl
                        have hcz71_2 : wc.cell? ⟨gb169, 2, none⟩ = some (.int .i64 0) := (blk_cell BK169.out 2).trans rfl
                        have hcz71_3 : wc.cell? ⟨gb169, 3, none⟩ = some (.string (⟨#[]⟩ : ByteArray)) := (blk_cell BK169.out 3).trans rfl
                        have hfz71_0 := blk_frozen BK169.out 0
                        have hfz71_1 := blk_frozen BK169.out 1
                        have hfz71_2 := blk_frozen BK169.out 2
                        have hfz71_3 := blk_frozen BK169.out 3
                        go_wp2
                        refine bodyPost_ret (results_ct rfl _ _ gb169 36 #[.int .i64 0, .int .i64 0, .int .i64 0, .string (⟨#[]⟩ : ByteArray)] (0, 0) _ rfl (by (with_reducible repeat (first | refine blk_drewN ?_ _ | refine blk_drew ?_ | refine blk_alloc ?_ _)); refine blk_put (cs := #[.int .i64 0, .int .i64 0, .int .i64 0, .string (⟨#[]⟩ : ByteArray)]) ?_ 3 _ rfl; (with_reducible repeat (first | refine blk_drewN ?_ _ | refine blk_drew ?_ | refine blk_alloc ?_ _)); refine blk_put (cs := #[.int .i64 0, .int .i64 0, .int .i64 0, .string (⟨#[]⟩ : ByteArray)]) ?_ 2 _ rfl; (with_reducible repeat (first | refine blk_drewN ?_ _ | refine blk_drew ?_ | refine blk_alloc ?_ _)); refine blk_put (cs := #[.int .i64 0, .int .i64 0, .int .i64 0, .string (⟨#[]⟩ : ByteArray)]) ?_ 1 _ rfl; (with_reducible repeat (first | refine blk_drewN ?_ _ | refine blk_drew ?_ | refine blk_alloc ?_ _)); refine blk_put (cs := #[.int .i64 0, .int .i64 0, .int .i64 0, .string (⟨#[]⟩ : ByteArray)]) ?_ 0 _ rfl; (with_reducible repeat (first | refine blk_drewN ?_ _ | refine blk_drew ?_ | refine blk_alloc ?_ _)); exact BK169.out) Tryd.underlying36 rfl (by kernel_rfl)) rfl ?_
                        exact ⟨by first | rfl | (simp [errW_none, errW_some] <;> rfl) | (simp [*, errW_none, errW_some] <;> rfl), by repeat (first | (with_reducible first | exact HB.out | apply below_alloc | apply pw_below_drewN | apply below_drew1 | refine below_set ?_ GE169.out | refine below_set ?_ GE170.out | refine below_set ?_ GE176.out) | exact HB.out)⟩
                      · rw [if_neg c65] at H
                        have c65b0 : decide (65535 < ((a0.extract (x172001_22 : Int).toNat a0.size).size : Int)) = false := decide_eq_false c65
                        have c65b0_s := c65b0
                        (try simp only [ByteArray.size_extract, Nat.min_self] at c65b0_s)
                        have c65b1 : decide (65535 < (a0.extract (x172001_22 : Int).toNat a0.size).size) = false := decide_eq_false (by omega)
                        have c65b1_s := c65b1
                        (try simp only [ByteArray.size_extract, Nat.min_self] at c65b1_s)
                        clear c65
                        simp only [Option.some.injEq, Prod.mk.injEq] at H
                        obtain ⟨rfl, rfl, rfl, rfl, rfl⟩ := H
                        have hnb72 := NB176_169.out
                        have hnc72 := NB169_176.out
                        have hnb73 := NB176_170.out
                        have hnc73 := NB170_176.out
                        have hcz74_0 : wc.cell? ⟨gb176, 0, none⟩ = some (.int .i64 t172) := (blk_cell BK176.out 0).trans rfl
                        have hcz74_1 : wc.cell? ⟨gb176, 1, none⟩ = some (.int .i64 x177001_2) := (blk_cell BK176.out 1).trans rfl
                        have hcz74_2 : wc.cell? ⟨gb176, 2, none⟩ = some (.int .i64 x177002_22) := (blk_cell BK176.out 2).trans rfl
                        have hcz74_3 : wc.cell? ⟨gb176, 3, none⟩ = some (.string (a0.extract (x172001_22 : Int).toNat a0.size)) := (blk_cell BK176.out 3).trans rfl
                        have hfz74_0 := blk_frozen BK176.out 0
                        have hfz74_1 := blk_frozen BK176.out 1
                        have hfz74_2 := blk_frozen BK176.out 2
                        have hfz74_3 := blk_frozen BK176.out 3
                        have hnb75 := NB169_170.out
                        have hnc75 := NB170_169.out
                        have hcz76_0 : wc.cell? ⟨gb169, 0, none⟩ = some (.int .i64 0) := (blk_cell BK169.out 0).trans rfl
                        have hcz76_1 : wc.cell? ⟨gb169, 1, none⟩ = some (.int .i64 0) := (blk_cell BK169.out 1).trans rfl
                        have hcz76_2 : wc.cell? ⟨gb169, 2, none⟩ = some (.int .i64 0) := (blk_cell BK169.out 2).trans rfl
                        have hcz76_3 : wc.cell? ⟨gb169, 3, none⟩ = some (.string (⟨#[]⟩ : ByteArray)) := (blk_cell BK169.out 3).trans rfl
                        have hfz76_0 := blk_frozen BK169.out 0
                        have hfz76_1 := blk_frozen BK169.out 1
                        have hfz76_2 := blk_frozen BK169.out 2
                        have hfz76_3 := blk_frozen BK169.out 3
                        go_wp2
                        refine bodyPost_ret (results_ct rfl _ _ gb169 36 #[.int .i64 t172, .int .i64 x177001_2, .int .i64 x177002_22, .string (a0.extract (x172001_22 : Int).toNat a0.size)] (0, 0) _ rfl (by (with_reducible repeat (first | refine blk_drewN ?_ _ | refine blk_drew ?_ | refine blk_alloc ?_ _)); refine blk_put (cs := #[.int .i64 t172, .int .i64 x177001_2, .int .i64 x177002_22, .string (⟨#[]⟩ : ByteArray)]) ?_ 3 _ rfl; (with_reducible repeat (first | refine blk_drewN ?_ _ | refine blk_drew ?_ | refine blk_alloc ?_ _)); refine blk_put (cs := #[.int .i64 t172, .int .i64 x177001_2, .int .i64 0, .string (⟨#[]⟩ : ByteArray)]) ?_ 2 _ rfl; (with_reducible repeat (first | refine blk_drewN ?_ _ | refine blk_drew ?_ | refine blk_alloc ?_ _)); refine blk_put (cs := #[.int .i64 t172, .int .i64 0, .int .i64 0, .string (⟨#[]⟩ : ByteArray)]) ?_ 1 _ rfl; (with_reducible repeat (first | refine blk_drewN ?_ _ | refine blk_drew ?_ | refine blk_alloc ?_ _)); refine blk_put (cs := #[.int .i64 0, .int .i64 0, .int .i64 0, .string (⟨#[]⟩ : ByteArray)]) ?_ 0 _ rfl; (with_reducible repeat (first | refine blk_drewN ?_ _ | refine blk_drew ?_ | refine blk_alloc ?_ _)); exact BK169.out) Tryd.underlying36 rfl (by kernel_rfl)) rfl ?_
                        exact ⟨by first | rfl | (simp [errW_none, errW_some] <;> rfl) | (simp [*, errW_none, errW_some] <;> rfl), by repeat (first | (with_reducible first | exact HB.out | apply below_alloc | apply pw_below_drewN | apply below_drew1 | refine below_set ?_ GE169.out | refine below_set ?_ GE170.out | refine below_set ?_ GE176.out) | exact HB.out)⟩
              · rw [if_neg c37] at H
                exact absurd H (by simp)
            · rw [if_neg c36] at H
              exact absurd H (by simp)
          · rw [if_neg c35] at H
            have c35b0 : (x172002_22 == 0) = false := beq_eq_false_iff_ne.mpr c35
            have c35b1 : (x172002_22 != 0) = true := bne_iff_ne.mpr c35
            simp only [Option.some.injEq, Prod.mk.injEq] at H
            obtain ⟨rfl, rfl, rfl, rfl, rfl⟩ := H
            obtain ⟨HGz77, hgz77⟩ := HI171.out
            have hcz77_0 := cellS57_0 HGz77
            have hcz77_1 := cellS57_1 HGz77
            have hcz77_2 := cellS57_2 HGz77
            have hfz77_0 := blk_frozen HGz77 0
            have hfz77_1 := blk_frozen HGz77 1
            have hfz77_2 := blk_frozen HGz77 2
            clear HGz77 hgz77
            try go_wp2
            have n0_ := Aside0.mk (blk_drew BK169.out)
            have n1_ := Aside0.mk (blk_drew BK170.out)
            have n2_ := Aside0.mk (blk_drew BK176.out)
            have n3_ := Aside0.mk (IsS57.drew HI171.out)
            have n4_ := Aside0.mk (below_drew1 HB.out)
            clear BK169
            clear BK170
            clear BK176
            clear HI171
            clear HB
            have BK169 := n0_
            have BK170 := n1_
            have BK176 := n2_
            have HI171 := n3_
            have HB := n4_
            clear n0_ n1_ n2_ n3_ n4_
            refine start_ (n := 7) (S := fun w' => w'.cell? ⟨gb170, 0, none⟩ = some (.int .i64 0) ∧ w'.cell? ⟨gb170, 1, none⟩ = some (.int .i64 0) ∧ w'.cell? ⟨gb170, 2, none⟩ = some (.int .i64 0) ∧ w'.cell? ⟨gb170, 3, none⟩ = some (.string (⟨#[]⟩ : ByteArray)) ∧ w'.cell? ⟨gb171, 0, none⟩ = some (.string x172000_22) ∧ w'.cell? ⟨gb171, 1, none⟩ = some (.int .i64 x172001_22) ∧ w'.cell? ⟨gb171, 2, none⟩ = some (.int .i64 x172002_22)) (ds := []) #[false, false, false, false, false, false, false] (by kernel_rfl) rfl rfl ⟨(blk_cell BK170.out 0).trans rfl, (blk_cell BK170.out 1).trans rfl, (blk_cell BK170.out 2).trans rfl, (blk_cell BK170.out 3).trans rfl, (blk_cell (IsS57.box HI171).out 0).trans rfl, (blk_cell (IsS57.box HI171).out 1).trans rfl, (blk_cell (IsS57.box HI171).out 2).trans rfl⟩ (fun hHeld => ?_)
            generalize wc.drew = w78 at BK169 BK170 BK176 HI171 HB hHeld ⊢
            refine pure_ (i := 1) (N := some 32) (v := ?_) (a' := ?_) #[false, true, false, false, false, false, false] rfl rfl (by kernel_rfl) (fun _ _ _ h => h) (Or.inl ⟨by rfl, ?_⟩) ?_ ?_
            rotate_left
            · intro w'
              go_simp
              with_reducible rfl
            rotate_left
            · simp only [Act.put, List.setIfInBounds_toArray, List.set_cons_zero, List.set_cons_succ, i64_w, i32_w]
              rfl
            refine pure_ (i := 2) (N := some 33) (v := ?_) (a' := ?_) #[false, true, true, false, false, false, false] rfl rfl (by kernel_rfl) (fun _ _ _ h => h) (Or.inl ⟨by rfl, ?_⟩) ?_ ?_
            rotate_left
            · intro w'
              go_simp
              with_reducible rfl
            rotate_left
            · simp only [Act.put, List.setIfInBounds_toArray, List.set_cons_zero, List.set_cons_succ, i64_w, i32_w]
              rfl
            refine pure_ (i := 3) (N := some 34) (v := ?_) (a' := ?_) #[false, true, true, true, false, false, false] rfl rfl (by kernel_rfl) (fun _ _ _ h => h) (Or.inl ⟨by rfl, ?_⟩) ?_ ?_
            rotate_left
            · intro w'
              go_simp
              with_reducible rfl
            rotate_left
            · simp only [Act.put, List.setIfInBounds_toArray, List.set_cons_zero, List.set_cons_succ, i64_w, i32_w]
              rfl
            refine take_ (i := 0) (N := some 31) (v := ?_) (a' := ?_) #[true, true, true, true, false, false, false] rfl rfl (by kernel_rfl) (fun _ _ _ h => h) (Or.inl ⟨by rfl, ?_⟩) hHeld ?_ ?_
            rotate_left
            · rintro w' ⟨s0, s1, s2, s3, s4, s5, s6⟩
              go_simp
              with_reducible rfl
            rotate_left
            · simp only [Act.put, List.setIfInBounds_toArray, List.set_cons_zero, List.set_cons_succ, i64_w, i32_w]
              rfl
            refine take_ (i := 4) (N := some 35) (v := ?_) (a' := ?_) #[true, true, true, true, true, false, false] rfl rfl (by kernel_rfl) (fun _ _ _ h => h) (Or.inl ⟨by rfl, ?_⟩) hHeld ?_ ?_
            rotate_left
            · rintro w' ⟨s0, s1, s2, s3, s4, s5, s6⟩
              go_simp
              with_reducible rfl
            rotate_left
            · simp only [Act.put, List.setIfInBounds_toArray, List.set_cons_zero, List.set_cons_succ, i64_w, i32_w]
              rfl
            refine one_ (i := 5) (N := none) #[true, true, true, true, true, true, false] rfl rfl (by kernel_rfl) (by decide) (fun K hK => ?_)
            have hs79 : w78.cell? ⟨gb169, 0, none⟩ = some (.int .i64 0) := (blk_cell BK169.out 0).trans rfl
            have hfs79 := blk_frozen BK169.out 0
            have hns79_1 := NB170_169.out
            have hns79_2 := NB176_169.out
            have hms79_1 := NB169_170.out
            have hms79_2 := NB169_176.out
            have hs80 : w78.cell? ⟨gb169, 1, none⟩ = some (.int .i64 0) := (blk_cell BK169.out 1).trans rfl
            have hfs80 := blk_frozen BK169.out 1
            have hns80_1 := NB170_169.out
            have hns80_2 := NB176_169.out
            have hms80_1 := NB169_170.out
            have hms80_2 := NB169_176.out
            have hs81 : w78.cell? ⟨gb169, 2, none⟩ = some (.int .i64 0) := (blk_cell BK169.out 2).trans rfl
            have hfs81 := blk_frozen BK169.out 2
            have hns81_1 := NB170_169.out
            have hns81_2 := NB176_169.out
            have hms81_1 := NB169_170.out
            have hms81_2 := NB169_176.out
            have hs82 : w78.cell? ⟨gb169, 3, none⟩ = some (.string (⟨#[]⟩ : ByteArray)) := (blk_cell BK169.out 3).trans rfl
            have hfs82 := blk_frozen BK169.out 3
            have hns82_1 := NB170_169.out
            have hns82_2 := NB176_169.out
            have hms82_1 := NB169_170.out
            have hms82_2 := NB169_176.out
            refine skip_ (w1 := ?_) (by rfl) rfl ?_ ?_
            rotate_left
            · go_simp
              rfl
            refine hK.out _ _ ⟨((cell_far (p := ⟨gb169, _, none⟩) NB170_169.out _).trans (((cell_far (p := ⟨gb169, _, none⟩) NB170_169.out _).trans (((cell_far (p := ⟨gb169, _, none⟩) NB170_169.out _).trans (((cell_far (p := ⟨gb169, _, none⟩) NB170_169.out _).trans (hHeld.1)))))))), ((cell_far (p := ⟨gb169, _, none⟩) NB170_169.out _).trans (((cell_far (p := ⟨gb169, _, none⟩) NB170_169.out _).trans (((cell_far (p := ⟨gb169, _, none⟩) NB170_169.out _).trans (((cell_far (p := ⟨gb169, _, none⟩) NB170_169.out _).trans (hHeld.2.1)))))))), ((cell_far (p := ⟨gb169, _, none⟩) NB170_169.out _).trans (((cell_far (p := ⟨gb169, _, none⟩) NB170_169.out _).trans (((cell_far (p := ⟨gb169, _, none⟩) NB170_169.out _).trans (((cell_far (p := ⟨gb169, _, none⟩) NB170_169.out _).trans (hHeld.2.2.1)))))))), ((cell_far (p := ⟨gb169, _, none⟩) NB170_169.out _).trans (((cell_far (p := ⟨gb169, _, none⟩) NB170_169.out _).trans (((cell_far (p := ⟨gb169, _, none⟩) NB170_169.out _).trans (((cell_far (p := ⟨gb169, _, none⟩) NB170_169.out _).trans (hHeld.2.2.2.1)))))))), ((cell_far (p := ⟨gb169, _, none⟩) NB171_169.out _).trans (((cell_far (p := ⟨gb169, _, none⟩) NB171_169.out _).trans (((cell_far (p := ⟨gb169, _, none⟩) NB171_169.out _).trans (((cell_far (p := ⟨gb169, _, none⟩) NB171_169.out _).trans (hHeld.2.2.2.2.1)))))))), ((cell_far (p := ⟨gb169, _, none⟩) NB171_169.out _).trans (((cell_far (p := ⟨gb169, _, none⟩) NB171_169.out _).trans (((cell_far (p := ⟨gb169, _, none⟩) NB171_169.out _).trans (((cell_far (p := ⟨gb169, _, none⟩) NB171_169.out _).trans (hHeld.2.2.2.2.2.1)))))))), ((cell_far (p := ⟨gb169, _, none⟩) NB171_169.out _).trans (((cell_far (p := ⟨gb169, _, none⟩) NB171_169.out _).trans (((cell_far (p := ⟨gb169, _, none⟩) NB171_169.out _).trans (((cell_far (p := ⟨gb169, _, none⟩) NB171_169.out _).trans (hHeld.2.2.2.2.2.2))))))))⟩ (fun hHeld => ?_)
            clear hK K
            refine pure_ (i := 6) (N := some 3) (v := ?_) (a' := ?_) #[true, true, true, true, true, true, true] rfl rfl (by kernel_rfl) (fun _ _ _ h => h) (Or.inl ⟨by rfl, ?_⟩) ?_ ?_
            rotate_left
            · intro w'
              go_simp
              with_reducible rfl
            rotate_left
            · simp only [Act.put, List.setIfInBounds_toArray, List.set_cons_zero, List.set_cons_succ, i64_w, i32_w]
              rfl
            refine done_ (by kernel_rfl) ?_
            try go_wp2
            refine bodyPost_ret (results_ct rfl _ _ gb169 36 #[.int .i64 0, .int .i64 0, .int .i64 0, .string (⟨#[]⟩ : ByteArray)] (0, 0) _ rfl (by (with_reducible repeat (first | refine blk_drewN ?_ _ | refine blk_drew ?_ | refine blk_alloc ?_ _)); refine blk_put (cs := #[.int .i64 0, .int .i64 0, .int .i64 0, .string (⟨#[]⟩ : ByteArray)]) ?_ 3 _ rfl; (with_reducible repeat (first | refine blk_drewN ?_ _ | refine blk_drew ?_ | refine blk_alloc ?_ _)); refine blk_put (cs := #[.int .i64 0, .int .i64 0, .int .i64 0, .string (⟨#[]⟩ : ByteArray)]) ?_ 2 _ rfl; (with_reducible repeat (first | refine blk_drewN ?_ _ | refine blk_drew ?_ | refine blk_alloc ?_ _)); refine blk_put (cs := #[.int .i64 0, .int .i64 0, .int .i64 0, .string (⟨#[]⟩ : ByteArray)]) ?_ 1 _ rfl; (with_reducible repeat (first | refine blk_drewN ?_ _ | refine blk_drew ?_ | refine blk_alloc ?_ _)); refine blk_put (cs := #[.int .i64 0, .int .i64 0, .int .i64 0, .string (⟨#[]⟩ : ByteArray)]) ?_ 0 _ rfl; (with_reducible repeat (first | refine blk_drewN ?_ _ | refine blk_drew ?_ | refine blk_alloc ?_ _)); exact BK169.out) Tryd.underlying36 rfl (by kernel_rfl)) rfl ?_
            exact ⟨by first | rfl | (simp [errW_none, errW_some] <;> rfl) | (simp [*, errW_none, errW_some] <;> rfl), by repeat (first | (with_reducible first | exact HB.out | apply below_alloc | apply pw_below_drewN | apply below_drew1 | refine below_set ?_ (IsS57.ge HI171.out) | refine below_set ?_ GE169.out | refine below_set ?_ GE170.out | refine below_set ?_ GE176.out) | exact HB.out)⟩

end Go.Proofs.YtjkjpjbohiggaabDoor.HWalrecBytes

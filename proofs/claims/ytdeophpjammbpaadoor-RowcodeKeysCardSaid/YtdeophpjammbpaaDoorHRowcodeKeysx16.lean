/- For Go functions that RowcodeKeys reaches: Lean functions, and walks that show that each call comes to what its Lean function tells; no condition but those that each theorem states. (Made by a program of this session over the kit's print.py.) -/
import Derived.Test.YtdeophpjammbpaaDoorHRowcodeKeysx0
import Derived.Test.YtdeophpjammbpaaDoorHRowcodeKeysx14
import Derived.Test.YtdeophpjammbpaaDoorHRowcodeKeysx15
namespace Go.Proofs.YtdeophpjammbpaaDoor.HRowcodeKeys
open Go.RowKit Go.Proofs.YtdeophpjammbpaaDoorW.PrintWords Go.Proofs.YtdeophpjammbpaaDoorW.PrintLast Go.Proofs.YtdeophpjammbpaaDoorW.PrintMore
attribute [local go_sem] max2_int min2_int max_two min_two max_three min_three max_four min_four   -- for this text's walks alone
set_option linter.unusedVariables false
set_option linter.unusedSimpArgs false
attribute [local go_sem] hp_s8 hp_s16 hp_s32 hp_s64 hp_m8 hp_m16 hp_m32 hp_m64
/-! ### rowcode_reader_left: function 85 -/
def rowcode_reader_left.f (s0_0 : ByteArray) : Option (Int × ByteArray) := if s0_0.toList = ([] : List UInt8) then (some (0, s0_0)) else (some (6, s0_0))
set_option maxHeartbeats 8000000 in
set_option maxRecDepth 100000 in
theorem rowcode_reader_left.calls (g : Nat) (s0_0 : ByteArray) (r1 : Int) (r2 : ByteArray) (w0 w : World) (hI : IsS112 w0 w g s0_0) (hB : Below w0.heap.size w0 w) (h : rowcode_reader_left.f s0_0 = some (r1, r2)) :
  Calls Tryd.prog 85 #[.pointer (some ⟨g, 0, none⟩)] w fun e w' => e = .returned (.int .i64 r1) ∧ IsS112 w0 w' g r2 ∧ Below w0.heap.size w0 w' ∧ KeepBut w w' g none := by
 have HI0 := aM hI
 have HK := aM (KeepBut.refl w g none)
 have HL := aM hB.size
 clear hI
 have HW0 := aM hB.size
 have HB := aM hB
 clear hB
 have H : (if s0_0.toList = ([] : List UInt8) then (some (0, s0_0)) else (some (6, s0_0))) = some (r1, r2) := h
 clear h
 by_cases c2 : s0_0.toList = ([] : List UInt8)
 ·
  rw [if_pos c2] at H
  have c2b0 : (s0_0.toList == ([] : List UInt8)) = true := beq_iff_eq.mpr c2
  have c2b1 : (s0_0.toList != ([] : List UInt8)) = false := bne_eq_false_iff_eq.mpr c2
  clear c2
  simp only [Option.some.injEq, Prod.mk.injEq] at H
  obtain ⟨rfl, rfl⟩ := H
  obtain ⟨HGz3, hgz3⟩ := HI0.out
  have hcz3_0 := cellS112_0 HGz3
  have hfz3_0 := blk_frozen HGz3 0
  clear HGz3 hgz3
  go_enter Tryd.func85, Tryd.ntmps85
  go_wp2
  go_ret
  exact ⟨yE, by repeat (first | (with_reducible first | exact HI0.out | apply IsS112.alloc | apply IsS112.drewN | apply IsS112.drew | apply IsS112.set_0) | exact HI0.out), yG1 HB (IsS112.ge HI0.out), by repeat (first | (with_reducible first | exact HK.out | apply KeepBut.set_ | apply keep_drewN | apply keep_drew | apply keep_alloc) | exact HK.out)⟩
 ·
  rw [if_neg c2] at H
  have c2b0 : (s0_0.toList == ([] : List UInt8)) = false := beq_eq_false_iff_ne.mpr c2
  have c2b1 : (s0_0.toList != ([] : List UInt8)) = true := bne_iff_ne.mpr c2
  simp only [Option.some.injEq, Prod.mk.injEq] at H
  obtain ⟨rfl, rfl⟩ := H
  obtain ⟨HGz4, hgz4⟩ := HI0.out
  have hcz4_0 := cellS112_0 HGz4
  have hfz4_0 := blk_frozen HGz4 0
  clear HGz4 hgz4
  go_enter Tryd.func85, Tryd.ntmps85
  go_wp2
  go_ret
  exact ⟨yE, by repeat (first | (with_reducible first | exact HI0.out | apply IsS112.alloc | apply IsS112.drewN | apply IsS112.drew | apply IsS112.set_0) | exact HI0.out), yG1 HB (IsS112.ge HI0.out), by repeat (first | (with_reducible first | exact HK.out | apply KeepBut.set_ | apply keep_drewN | apply keep_drew | apply keep_alloc) | exact HK.out)⟩
/-! ### rowcode_ReadKey: function 55 -/
def rowcode_ReadKey.j0 : Nat → Int → Int → Int → ByteArray → Option (Int × Int × ByteArray × Int)
 | 0, _, _, _, _ => none
 | k + 1, x7, x324000, x324001, x324002 => if x7 = 0 then (some (x324000, x324001, x324002, 0)) else (some (0, 0, (⟨#[]⟩ : ByteArray), x7))
def rowcode_ReadKey.f (k : Nat) (a0_0 : Int) (a0_1 : ByteArray) (a0_2 : Int) (a0_3 : Int) (l0_4 : List (S54)) (a1 : ByteArray) : Option (Int × Int × ByteArray × Int) := (rowcode_key.f k a0_0 a0_1 a0_2 a0_3 l0_4).bind fun bt313 => (if bt313.2.2 = 0 then ((rowcode_reader_value.f k a1 bt313.1 bt313.2.1).bind fun bt318 => (if bt318.2.2.2.1 = 0 then ((rowcode_reader_left.f bt318.2.2.2.2).bind fun bt324 => (rowcode_ReadKey.j0 k bt324.1 bt318.1 bt318.2.1 bt318.2.2.1)) else (rowcode_ReadKey.j0 k bt318.2.2.2.1 bt318.1 bt318.2.1 bt318.2.2.1))) else (some (0, 0, (⟨#[]⟩ : ByteArray), bt313.2.2)))
theorem rowcode_ReadKey.mono_l : ∀ k, (∀ y0 y1 y2 y3, LeO (rowcode_ReadKey.j0 k y0 y1 y2 y3) (rowcode_ReadKey.j0 (k + 1) y0 y1 y2 y3))
 | 0 => fun _ _ _ _ r h => by simp [rowcode_ReadKey.j0] at h
 | k + 1 => by
  have ih0 := rowcode_ReadKey.mono_l k
  ·
   intro y0 y1 y2 y3
   unfold rowcode_ReadKey.j0
   repeat' first
   | (with_reducible exact ih0 _ _ _ _)
   | (with_reducible exact rowcode_key.mono _ _ _ _ _ _)
   | (with_reducible exact rowcode_reader_value.mono _ _ _ _)
   | (with_reducible exact LeO.refl _)
   | (with_reducible exact LeO.none _)
   | (with_reducible refine LeO.ite ?_ ?_)
   | (with_reducible refine LeO.bind ?_ (fun _ => ?_))
   | exact ih0 _ _ _ _
   | exact rowcode_key.mono _ _ _ _ _ _
   | exact rowcode_reader_value.mono _ _ _ _
   | exact LeO.none _
   | refine LeO.ite ?_ ?_
   | refine LeO.bind ?_ (fun _ => ?_)
theorem rowcode_ReadKey.mono : ∀ a0 a1 a2 a3 a4 a5 k, LeO (rowcode_ReadKey.f k a0 a1 a2 a3 a4 a5) (rowcode_ReadKey.f (k + 1) a0 a1 a2 a3 a4 a5) := by
 intro a0 a1 a2 a3 a4 a5 k
 have ih0 := rowcode_ReadKey.mono_l k
 unfold rowcode_ReadKey.f
 repeat' first | with_reducible (first | exact ih0 .. | exact rowcode_key.mono .. | exact rowcode_reader_value.mono .. | exact LeO.refl .. | exact LeO.none .. | refine LeO.ite ?_ ?_ | refine LeO.bind ?_ (fun _ => ?_)) | exact ih0 .. | exact rowcode_key.mono .. | exact rowcode_reader_value.mono .. | exact LeO.none .. | refine LeO.ite ?_ ?_ | refine LeO.bind ?_ (fun _ => ?_)
set_option maxHeartbeats 8000000 in
set_option maxRecDepth 100000 in
theorem rowcode_ReadKey.calls (k : Nat) (a0_0 : Int) (a0_1 : ByteArray) (a0_2 : Int) (a0_3 : Int) (A0_4 : Option Addr) (c0_4 : Nat) (l0_4 : List (S54)) (a1 : ByteArray) (r1 : Int) (r2 : Int) (r3 : ByteArray) (r4 : Int) (w : World) (hr0_4 : Kd.C k54 w A0_4 l0_4.length l0_4) (hc0_4 : l0_4.length ≤ c0_4) (hG : Glob w) (h : rowcode_ReadKey.f k a0_0 a0_1 a0_2 a0_3 l0_4 a1 = some (r1, r2, r3, r4)) :
  Calls Tryd.prog 55 #[.agg #[.int .i64 a0_0, .string a0_1, .int .i64 a0_2, .int .i64 a0_3, .slice A0_4 l0_4.length c0_4], .string a1] w fun e w' => e = .returned (.tuple #[.agg #[.int .i64 r1, .int .i64 r2, .string r3], .int .i64 r4]) ∧ Below w.heap.size w w' := by
 have hu24 := Tryd.underlying24
 have hu52 := Tryd.underlying52
 have hu50 := Tryd.underlying50
 have hu112 := Tryd.underlying112
 have HR0_4 := aM hr0_4
 have HC0_4 := aM hc0_4
 clear hr0_4 hc0_4
 have HG := aM hG
 clear hG
 have HB := aM (Below.refl w.heap.size w)
 have H : ((rowcode_key.f k a0_0 a0_1 a0_2 a0_3 l0_4).bind fun bt313 => (if bt313.2.2 = 0 then ((rowcode_reader_value.f k a1 bt313.1 bt313.2.1).bind fun bt318 => (if bt318.2.2.2.1 = 0 then ((rowcode_reader_left.f bt318.2.2.2.2).bind fun bt324 => (rowcode_ReadKey.j0 k bt324.1 bt318.1 bt318.2.1 bt318.2.2.1)) else (rowcode_ReadKey.j0 k bt318.2.2.2.1 bt318.1 bt318.2.1 bt318.2.2.1))) else (some (0, 0, (⟨#[]⟩ : ByteArray), bt313.2.2)))) = some (r1, r2, r3, r4) := h
 clear h
 obtain ⟨⟨t313, t314, t315⟩, A3, H⟩ := yb H
 try dsimp -simprocs only at H
 by_cases c4 : t315 = 0
 ·
  rw [if_pos c4] at H
  have c4b0 : (t315 == 0) = true := beq_iff_eq.mpr c4
  have c4b1 : (t315 != 0) = false := bne_eq_false_iff_eq.mpr c4
  clear c4
  obtain ⟨⟨t318, t319, t320, t321, t322⟩, A5, H⟩ := yb H
  try dsimp -simprocs only at H
  have HC6 := aM H
  clear H
  go_enter Tryd.func55, Tryd.ntmps55
  go_upto_if 29 with (first | ((with_reducible refine gate_dst (N := 2) rfl ?_); refine yX (N := 2) (cs := #[.int .i64 a0_0, .string a0_1, .int .i64 a0_2, .int .i64 a0_3, .slice A0_4 l0_4.length c0_4]) (t := 24) ?_; intro gb311 hg w7 hbox hb; have BK311 := aM (hbox); have GW311 := yZ hg (yB HB); have GE311 := yZ hg (yB HB); replace HB := aM (bP (yB HB) hb); clear hb hbox hg) | ((with_reducible refine gate_dst (N := 4) rfl ?_); refine yX (N := 4) (cs := #[.int .i64 0, .int .i64 0, .string (⟨#[]⟩ : ByteArray)]) (t := 52) ?_; intro gb312 hg w8 hbox hb; have BK312 := aM (hbox); have GW312 := yZ hg (yG1 HB GE311.out); have GE312 := yZ hg (yG1 HB GE311.out); replace HB := aM (bP (yG1 HB GE311.out) hb); have NB311_312 := yN hg (yK BK311); have NB312_311 := yM hg (yK BK311); replace BK311 := aM (kB (yK BK311) hb); clear hb hbox hg; have hnb9 := NB311_312.out; have hnc9 := NB312_311.out; obtain ⟨hcz10_0, hcz10_1, hcz10_2, hcz10_3, hcz10_4, hfz10_0, hfz10_1, hfz10_2, hfz10_3, hfz10_4⟩ := cells5 BK311.out) | ((with_reducible refine gate_callee (f := 88) rfl ?_); refine yC 12 Tryd.func88 #[.agg #[.int .i64 a0_0, .string a0_1, .int .i64 a0_2, .int .i64 a0_3, .slice A0_4 l0_4.length c0_4]] rfl ?_; (with_reducible refine (rowcode_key.calls k a0_0 a0_1 a0_2 a0_3 _ _ l0_4 t313 t314 t315 _ ?side1 ?side2 ?side3 A3.out).mono ?_); (case side1 => exact yW (Kd.C_below HR0_4.out HB.out)); (case side2 => exact HC0_4.out); (case side3 => first | (with_reducible exact HG.out) | exact Glob.below HG.out (yG2 HB GE311.out GE312.out)); rintro e w11 ⟨rfl, hb⟩; refine ⟨_, rfl, ?_⟩; replace BK311 := aM (kB (yK BK311) hb); replace BK312 := aM (kB (yK BK312) hb); replace HB := aM (bP (yG2 HB GE311.out GE312.out) hb); (try clear hb)) | ((with_reducible refine gate_dst (N := 6) rfl ?_); refine yX (N := 6) (cs := #[.int .i64 0, .int .i64 0]) (t := 50) ?_; intro gb316 hg w12 hbox hb; have BK316 := aM (hbox); have GW316 := yZ hg (yG2 HB GE311.out GE312.out); have GE316 := yZ hg (yG2 HB GE311.out GE312.out); replace HB := aM (bP (yG2 HB GE311.out GE312.out) hb); have NB311_316 := yN hg (yK BK311); have NB316_311 := yM hg (yK BK311); replace BK311 := aM (kB (yK BK311) hb); have NB312_316 := yN hg (yK BK312); have NB316_312 := yM hg (yK BK312); replace BK312 := aM (kB (yK BK312) hb); clear hb hbox hg; have hnb13 := NB316_311.out; have hnc13 := NB311_316.out; have hnb14 := NB316_312.out; have hnc14 := NB312_316.out; obtain ⟨hcz15_0, hcz15_1, hfz15_0, hfz15_1⟩ := cells2 BK316.out) | ((with_reducible refine gate_dst (N := 21) rfl ?_); refine yX (N := 21) (cs := #[.string a1]) (t := 112) ?_; intro gb317 hg w16 hbox hb; have HI317 := aM ((show IsS112 w w16 gb317 a1 from ⟨hbox, by rw [hg]; exact (bZ (yG3 HB GE311.out GE312.out GE316.out))⟩)); have GW317 := yZ hg (yG3 HB GE311.out GE312.out GE316.out); have GE317 := yZ hg (yG3 HB GE311.out GE312.out GE316.out); replace HB := aM (bP (yG3 HB GE311.out GE312.out GE316.out) hb); have NB311_317 := yN hg (yF1 BK311 NB311_316.out); have NB317_311 := yM hg (yF1 BK311 NB311_316.out); replace BK311 := aM (kB (yF1 BK311 NB311_316.out) hb); have NB312_317 := yN hg (yF1 BK312 NB312_316.out); have NB317_312 := yM hg (yF1 BK312 NB312_316.out); replace BK312 := aM (kB (yF1 BK312 NB312_316.out) hb); have NB316_317 := yN hg (puts2 BK316.out); have NB317_316 := yM hg (puts2 BK316.out); replace BK316 := aM (kB (puts2 BK316.out) hb); clear hb hbox hg; have hnb17 := NB316_317.out; have hnc17 := NB317_316.out; obtain ⟨hcz18_0, hcz18_1, hfz18_0, hfz18_1⟩ := cells2 BK316.out) | ((with_reducible refine gate_callee (f := 84) rfl ?_); refine yC 25 Tryd.func84 #[.pointer (some ⟨gb317, 0, none⟩), .agg #[.int .i64 t313, .int .i64 t314]] rfl ?_; (with_reducible refine (rowcode_reader_value.calls k gb317 a1 t313 t314 t318 t319 t320 t321 t322 w _ ?side1 ?side2 ?side3 A5.out).mono ?_); (case side1 => repeat (first | (with_reducible first | exact HI317.out | apply IsS112.alloc | apply IsS112.drewN | apply IsS112.drew | apply IsS112.set_0 | apply IsS112.far (hne := NB317_311.out) | apply IsS112.far (hne := NB317_312.out) | apply IsS112.far (hne := NB317_316.out)) | exact HI317.out)); (case side2 => exact yG4 HB (IsS112.ge HI317.out) GE311.out GE312.out GE316.out); (case side3 => first | (with_reducible exact HG.out) | exact Glob.below HG.out (yG4 HB (IsS112.ge HI317.out) GE311.out GE312.out GE316.out)); rintro e w19 ⟨rfl, hi, hb, hk⟩; refine ⟨_, rfl, ?_⟩; replace BK311 := aM (KeepBut.blk hk (g' := gb311) (o := .cells #[.int .i64 a0_0, .string a0_1, .int .i64 a0_2, .int .i64 a0_3, .slice A0_4 l0_4.length c0_4] 24 (0, 0)) (yK BK311) NB311_317.out (by simp)); replace BK312 := aM (KeepBut.blk hk (g' := gb312) (o := .cells #[.int .i64 0, .int .i64 0, .string (⟨#[]⟩ : ByteArray)] 52 (0, 0)) (yK BK312) NB312_317.out (by simp)); replace BK316 := aM (KeepBut.blk hk (g' := gb316) (o := .cells #[.int .i64 t313, .int .i64 t314] 50 (0, 0)) (yK BK316) NB316_317.out (by simp)); replace HB := aM (hb); replace HI317 := aM (hi); (try clear hb); (try clear hk); (try clear hi)) | ((with_reducible refine gate_dst (N := 9) rfl ?_); refine yX (N := 9) (cs := #[.int .i64 0, .int .i64 0, .string (⟨#[]⟩ : ByteArray)]) (t := 52) ?_; intro gb323 hg w20 hbox hb; have BK323 := aM (hbox); have GW323 := yZ hg (yG4 HB (IsS112.ge HI317.out) GE311.out GE312.out GE316.out); have GE323 := yZ hg (yG4 HB (IsS112.ge HI317.out) GE311.out GE312.out GE316.out); replace HB := aM (bP (yG4 HB (IsS112.ge HI317.out) GE311.out GE312.out GE316.out) hb); have NB311_323 := yN hg (yK BK311); have NB323_311 := yM hg (yK BK311); replace BK311 := aM (kB (yK BK311) hb); have NB312_323 := yN hg (yK BK312); have NB323_312 := yM hg (yK BK312); replace BK312 := aM (kB (yK BK312) hb); have NB316_323 := yN hg (yK BK316); have NB323_316 := yM hg (yK BK316); replace BK316 := aM (kB (yK BK316) hb); have NB317_323 := aM ((by rw [hg]; exact Nat.ne_of_lt (IsS112.lt (show IsS112 w _ gb317 t322 from by repeat (first | (with_reducible first | exact HI317.out | apply IsS112.alloc | apply IsS112.drewN | apply IsS112.drew | apply IsS112.set_0 | apply IsS112.far (hne := NB317_311.out) | apply IsS112.far (hne := NB317_312.out) | apply IsS112.far (hne := NB317_316.out)) | exact HI317.out))) : gb317 ≠ gb323)); have NB323_317 := aM ((by rw [hg]; exact Nat.ne_of_gt (IsS112.lt (show IsS112 w _ gb317 t322 from by repeat (first | (with_reducible first | exact HI317.out | apply IsS112.alloc | apply IsS112.drewN | apply IsS112.drew | apply IsS112.set_0 | apply IsS112.far (hne := NB317_311.out) | apply IsS112.far (hne := NB317_312.out) | apply IsS112.far (hne := NB317_316.out)) | exact HI317.out))) : gb323 ≠ gb317)); replace HI317 := aM (IsS112.below (by repeat (first | (with_reducible first | exact HI317.out | apply IsS112.alloc | apply IsS112.drewN | apply IsS112.drew | apply IsS112.set_0 | apply IsS112.far (hne := NB317_311.out) | apply IsS112.far (hne := NB317_312.out) | apply IsS112.far (hne := NB317_316.out)) | exact HI317.out)) hb); clear hb hbox hg; have hnb21 := NB323_311.out; have hnc21 := NB311_323.out; have hnb22 := NB323_312.out; have hnc22 := NB312_323.out; have hnb23 := NB323_316.out; have hnc23 := NB316_323.out; have hnb24 := NB323_317.out; have hnc24 := NB317_323.out; obtain ⟨hcz25_0, hcz25_1, hcz25_2, hfz25_0, hfz25_1, hfz25_2⟩ := cells3 BK323.out))
  (try simp only [Act.put, s1_, s2_, s3_])
  go_cut [7] (fun v7 wc => ∃ (kq : Nat) (x7_5 : Int), v7 = .int .i64 x7_5 ∧ Aside0 (rowcode_ReadKey.j0 kq x7_5 t318 t319 t320 = some (r1, r2, r3, r4)) ∧ Aside0 (kq ≤ k) ∧ Aside0 (wc.heap[gb311]? = some (.cells #[.int .i64 a0_0, .string a0_1, .int .i64 a0_2, .int .i64 a0_3, (.slice A0_4 l0_4.length c0_4)] 24 (0, 0))) ∧ Aside0 (wc.heap[gb312]? = some (.cells #[.int .i64 0, .int .i64 0, .string (⟨#[]⟩ : ByteArray)] 52 (0, 0))) ∧ Aside0 (wc.heap[gb316]? = some (.cells #[.int .i64 t313, .int .i64 t314] 50 (0, 0))) ∧ Aside0 (wc.heap[gb323]? = some (.cells #[.int .i64 t318, .int .i64 t319, .string t320] 52 (0, 0))) ∧ Aside0 (Below w.heap.size w wc))
  case first =>
   have H := HC6.out
   clear HC6
   by_cases c26 : t321 = 0
   ·
    rw [if_pos c26] at H
    have c26b0 : (t321 == 0) = true := beq_iff_eq.mpr c26
    have c26b1 : (t321 != 0) = false := bne_eq_false_iff_eq.mpr c26
    clear c26
    (first | rw [c26b0] | (simp only [i64_w, i32_w]; rw [c26b0]) | skip)
    obtain ⟨⟨t324, t325⟩, A27, H⟩ := yb H
    try dsimp -simprocs only at H
    have H' := aM H
    clear H
    go_wp2_with (first | ((with_reducible refine gate_callee (f := 85) rfl ?_); refine yC 31 Tryd.func85 #[.pointer (some ⟨gb317, 0, none⟩)] rfl ?_; (with_reducible refine (rowcode_reader_left.calls gb317 t322 t324 t325 w _ ?side1 ?side2 A27.out).mono ?_); (case side1 => repeat (first | (with_reducible first | exact HI317.out | apply IsS112.alloc | apply IsS112.drewN | apply IsS112.drew | apply IsS112.set_0 | apply IsS112.far (hne := NB317_311.out) | apply IsS112.far (hne := NB317_312.out) | apply IsS112.far (hne := NB317_316.out) | apply IsS112.far (hne := NB317_323.out)) | exact HI317.out)); (case side2 => repeat (first | (with_reducible first | exact HB.out | apply bA | apply bN | apply b1 | refine bS ?_ (IsS112.ge HI317.out) | refine bS ?_ GE311.out | refine bS ?_ GE312.out | refine bS ?_ GE316.out | refine bS ?_ GE323.out) | exact HB.out)); rintro e w28 ⟨rfl, hi, hb, hk⟩; refine ⟨_, rfl, ?_⟩; replace BK311 := aM (KeepBut.blk hk (g' := gb311) (o := .cells #[.int .i64 a0_0, .string a0_1, .int .i64 a0_2, .int .i64 a0_3, .slice A0_4 l0_4.length c0_4] 24 (0, 0)) (yF1 BK311 NB311_323.out) NB311_317.out (by simp)); replace BK312 := aM (KeepBut.blk hk (g' := gb312) (o := .cells #[.int .i64 0, .int .i64 0, .string (⟨#[]⟩ : ByteArray)] 52 (0, 0)) (yF1 BK312 NB312_323.out) NB312_317.out (by simp)); replace BK316 := aM (KeepBut.blk hk (g' := gb316) (o := .cells #[.int .i64 t313, .int .i64 t314] 50 (0, 0)) (yF1 BK316 NB316_323.out) NB316_317.out (by simp)); replace BK323 := aM (KeepBut.blk hk (g' := gb323) (o := .cells #[.int .i64 t318, .int .i64 t319, .string t320] 52 (0, 0)) (puts3 BK323.out) NB323_317.out (by simp)); replace HB := aM (hb); replace HI317 := aM (hi); (try clear hb); (try clear hk); (try clear hi)))
    go_meet
    case rel => exact ⟨_, (t324), yS, H', ⟨yO⟩, ⟨yK BK311⟩, ⟨yK BK312⟩, ⟨yK BK316⟩, ⟨yK BK323⟩, ⟨by repeat (first | (with_reducible first | exact HB.out | apply bA | apply bN | apply b1 | refine bS ?_ (IsS112.ge HI317.out) | refine bS ?_ GE311.out | refine bS ?_ GE312.out | refine bS ?_ GE316.out | refine bS ?_ GE323.out) | exact HB.out)⟩⟩
   ·
    rw [if_neg c26] at H
    have c26b0 : (t321 == 0) = false := beq_eq_false_iff_ne.mpr c26
    have c26b1 : (t321 != 0) = true := bne_iff_ne.mpr c26
    (first | rw [c26b0] | (simp only [i64_w, i32_w]; rw [c26b0]) | skip)
    have H' := aM H
    clear H
    go_wp2
    go_meet
    case rel => exact ⟨_, (t321), yS, H', ⟨yO⟩, ⟨yF1 BK311 NB311_323.out⟩, ⟨yF1 BK312 NB312_323.out⟩, ⟨yF1 BK316 NB316_323.out⟩, ⟨puts3 BK323.out⟩, ⟨by repeat (first | (with_reducible first | exact HB.out | apply bA | apply bN | apply b1 | refine bS ?_ (IsS112.ge HI317.out) | refine bS ?_ GE311.out | refine bS ?_ GE312.out | refine bS ?_ GE316.out | refine bS ?_ GE323.out) | exact HB.out)⟩⟩
  case rest =>
   clear HC6
   try clear c4
   try clear c4b0
   try clear c4b1
   try clear hcz10_0 hcz10_1 hcz10_2 hcz10_3 hcz10_4
   try clear hcz15_0 hcz15_1
   try clear hcz18_0 hcz18_1
   try clear hcz25_0 hcz25_1 hcz25_2
   try clear hfz10_0 hfz10_1 hfz10_2 hfz10_3 hfz10_4
   try clear hfz15_0 hfz15_1
   try clear hfz18_0 hfz18_1
   try clear hfz25_0 hfz25_1 hfz25_2
   obtain ⟨kq, x7_5, rfl, HA, HJ5, BK311, BK312, BK316, BK323, HB⟩ := hcut
   cases kq with
   | zero => exact absurd HA.out (by simp [rowcode_ReadKey.j0])
   | succ kj5 =>
    have H := HA.out
    clear HA
    simp only [rowcode_ReadKey.j0] at H
    by_cases c29 : x7_5 = 0
    ·
     rw [if_pos c29] at H
     have c29b0 : (x7_5 == 0) = true := beq_iff_eq.mpr c29
     have c29b1 : (x7_5 != 0) = false := bne_eq_false_iff_eq.mpr c29
     clear c29
     simp only [Option.some.injEq, Prod.mk.injEq] at H
     obtain ⟨rfl, rfl, rfl, rfl⟩ := H
     have hnb30 := NB323_311.out
     have hnc30 := NB311_323.out
     have hnb31 := NB323_312.out
     have hnc31 := NB312_323.out
     have hnb32 := NB323_316.out
     have hnc32 := NB316_323.out
     obtain ⟨hcz33_0, hcz33_1, hcz33_2, hfz33_0, hfz33_1, hfz33_2⟩ := cells3 BK323.out
     have hnb34 := NB312_311.out
     have hnc34 := NB311_312.out
     have hnb35 := NB312_316.out
     have hnc35 := NB316_312.out
     obtain ⟨hcz36_0, hcz36_1, hcz36_2, hfz36_0, hfz36_1, hfz36_2⟩ := cells3 BK312.out
     go_wp2
     refine bodyPost_ret (results_ct rfl _ _ gb312 52 #[.int .i64 t318, .int .i64 t319, .string t320] (0, 0) _ rfl (puts3 BK312.out) Tryd.underlying52 rfl (by kernel_rfl)) rfl ?_
     exact ⟨yE, yG4 HB GE311.out GE312.out GE316.out GE323.out⟩
    ·
     rw [if_neg c29] at H
     have c29b0 : (x7_5 == 0) = false := beq_eq_false_iff_ne.mpr c29
     have c29b1 : (x7_5 != 0) = true := bne_iff_ne.mpr c29
     simp only [Option.some.injEq, Prod.mk.injEq] at H
     obtain ⟨rfl, rfl, rfl, rfl⟩ := H
     have hnb37 := NB312_311.out
     have hnc37 := NB311_312.out
     have hnb38 := NB312_316.out
     have hnc38 := NB316_312.out
     have hnb39 := NB312_323.out
     have hnc39 := NB323_312.out
     obtain ⟨hcz40_0, hcz40_1, hcz40_2, hfz40_0, hfz40_1, hfz40_2⟩ := cells3 BK312.out
     go_wp2
     refine bodyPost_ret (results_ct rfl _ _ gb312 52 #[.int .i64 0, .int .i64 0, .string (⟨#[]⟩ : ByteArray)] (0, 0) _ rfl (puts3 BK312.out) Tryd.underlying52 rfl (by kernel_rfl)) rfl ?_
     exact ⟨yE, yG4 HB GE311.out GE312.out GE316.out GE323.out⟩
 ·
  rw [if_neg c4] at H
  have c4b0 : (t315 == 0) = false := beq_eq_false_iff_ne.mpr c4
  have c4b1 : (t315 != 0) = true := bne_iff_ne.mpr c4
  simp only [Option.some.injEq, Prod.mk.injEq] at H
  obtain ⟨rfl, rfl, rfl, rfl⟩ := H
  go_enter Tryd.func55, Tryd.ntmps55
  go_wp2_with (first | ((with_reducible refine gate_dst (N := 2) rfl ?_); refine yX (N := 2) (cs := #[.int .i64 a0_0, .string a0_1, .int .i64 a0_2, .int .i64 a0_3, .slice A0_4 l0_4.length c0_4]) (t := 24) ?_; intro gb311 hg w41 hbox hb; have BK311 := aM (hbox); have GW311 := yZ hg (yB HB); have GE311 := yZ hg (yB HB); replace HB := aM (bP (yB HB) hb); clear hb hbox hg) | ((with_reducible refine gate_dst (N := 4) rfl ?_); refine yX (N := 4) (cs := #[.int .i64 0, .int .i64 0, .string (⟨#[]⟩ : ByteArray)]) (t := 52) ?_; intro gb312 hg w42 hbox hb; have BK312 := aM (hbox); have GW312 := yZ hg (yG1 HB GE311.out); have GE312 := yZ hg (yG1 HB GE311.out); replace HB := aM (bP (yG1 HB GE311.out) hb); have NB311_312 := yN hg (yK BK311); have NB312_311 := yM hg (yK BK311); replace BK311 := aM (kB (yK BK311) hb); clear hb hbox hg; have hnb43 := NB311_312.out; have hnc43 := NB312_311.out; obtain ⟨hcz44_0, hcz44_1, hcz44_2, hcz44_3, hcz44_4, hfz44_0, hfz44_1, hfz44_2, hfz44_3, hfz44_4⟩ := cells5 BK311.out) | ((with_reducible refine gate_callee (f := 88) rfl ?_); refine yC 12 Tryd.func88 #[.agg #[.int .i64 a0_0, .string a0_1, .int .i64 a0_2, .int .i64 a0_3, .slice A0_4 l0_4.length c0_4]] rfl ?_; (with_reducible refine (rowcode_key.calls k a0_0 a0_1 a0_2 a0_3 _ _ l0_4 t313 t314 t315 _ ?side1 ?side2 ?side3 A3.out).mono ?_); (case side1 => exact yW (Kd.C_below HR0_4.out HB.out)); (case side2 => exact HC0_4.out); (case side3 => first | (with_reducible exact HG.out) | exact Glob.below HG.out (yG2 HB GE311.out GE312.out)); rintro e w45 ⟨rfl, hb⟩; refine ⟨_, rfl, ?_⟩; replace BK311 := aM (kB (yK BK311) hb); replace BK312 := aM (kB (yK BK312) hb); replace HB := aM (bP (yG2 HB GE311.out GE312.out) hb); (try clear hb)) | ((with_reducible refine gate_dst (N := 6) rfl ?_); refine yX (N := 6) (cs := #[.int .i64 0, .int .i64 0]) (t := 50) ?_; intro gb316 hg w46 hbox hb; have BK316 := aM (hbox); have GW316 := yZ hg (yG2 HB GE311.out GE312.out); have GE316 := yZ hg (yG2 HB GE311.out GE312.out); replace HB := aM (bP (yG2 HB GE311.out GE312.out) hb); have NB311_316 := yN hg (yK BK311); have NB316_311 := yM hg (yK BK311); replace BK311 := aM (kB (yK BK311) hb); have NB312_316 := yN hg (yK BK312); have NB316_312 := yM hg (yK BK312); replace BK312 := aM (kB (yK BK312) hb); clear hb hbox hg; have hnb47 := NB316_311.out; have hnc47 := NB311_316.out; have hnb48 := NB316_312.out; have hnc48 := NB312_316.out; obtain ⟨hcz49_0, hcz49_1, hfz49_0, hfz49_1⟩ := cells2 BK316.out; obtain ⟨hcz50_0, hcz50_1, hcz50_2, hfz50_0, hfz50_1, hfz50_2⟩ := cells3 BK312.out))
  refine bodyPost_ret (results_ct rfl _ _ gb312 52 #[.int .i64 0, .int .i64 0, .string (⟨#[]⟩ : ByteArray)] (0, 0) _ rfl (by (with_reducible repeat (first | refine kN ?_ _ | refine kD ?_ | refine kA ?_ _)); refine kP (cs := #[.int .i64 0, .int .i64 0, .string (⟨#[]⟩ : ByteArray)]) ?_ 2 _ rfl; (with_reducible repeat (first | refine kN ?_ _ | refine kD ?_ | refine kA ?_ _)); refine kP (cs := #[.int .i64 0, .int .i64 0, .string (⟨#[]⟩ : ByteArray)]) ?_ 1 _ rfl; (with_reducible repeat (first | refine kN ?_ _ | refine kD ?_ | refine kA ?_ _)); refine kP (cs := #[.int .i64 0, .int .i64 0, .string (⟨#[]⟩ : ByteArray)]) ?_ 0 _ rfl; (repeat ((with_reducible repeat (first | refine kN ?_ _ | refine kD ?_ | refine kA ?_ _)); refine kF ?_ NB312_316.out _)); (with_reducible repeat (first | refine kN ?_ _ | refine kD ?_ | refine kA ?_ _)); exact BK312.out) Tryd.underlying52 rfl (by kernel_rfl)) rfl ?_
  exact ⟨yE, yG3 HB GE311.out GE312.out GE316.out⟩
/-! ### haulageref01_Ends: function 111 -/
mutual
def haulageref01_Ends.l0 : Nat → ByteArray → Int → Option (Int × Int)
 | 0, _, _ => none
 | k + 1, x0, x4 => if x4 < (x0.size : Int) then (haulageref01_Ends.j1 k x0 x4 (decide (x4 < 10))) else (haulageref01_Ends.j1 k x0 x4 false)
def haulageref01_Ends.j1 : Nat → ByteArray → Int → Bool → Option (Int × Int)
 | 0, _, _, _ => none
 | k + 1, x0, x4, x12 => if x12 = true then (if 0 ≤ x4 then (if x4 < (x0.size : Int) then (if (bt x0 x4) < 128 then (if x4 > 0 then (if (bt x0 x4) = 0 then (haulageref01_Ends.j2 k x4 true) else (if x4 = 9 then (haulageref01_Ends.j2 k x4 (decide ((bt x0 x4) > 1))) else (haulageref01_Ends.j2 k x4 false))) else (if x4 = 9 then (haulageref01_Ends.j2 k x4 (decide ((bt x0 x4) > 1))) else (haulageref01_Ends.j2 k x4 false))) else (haulageref01_Ends.l0 k x0 (wrap64 (x4 + 1)))) else (none)) else (none)) else (if (x0.size : Int) < 10 then (some (0, 4)) else (some (0, 5)))
def haulageref01_Ends.j2 : Nat → Int → Bool → Option (Int × Int)
 | 0, _, _ => none
 | k + 1, x4, x36 => if x36 = true then (some (0, 5)) else (some (wrap64 (x4 + 1), 0))
end
def haulageref01_Ends.f (k : Nat) (a0 : ByteArray) : Option (Int × Int) := haulageref01_Ends.l0 k a0 0
theorem haulageref01_Ends.mono_l : ∀ k, (∀ y0 y1, LeO (haulageref01_Ends.l0 k y0 y1) (haulageref01_Ends.l0 (k + 1) y0 y1)) ∧ (∀ y0 y1 y2, LeO (haulageref01_Ends.j1 k y0 y1 y2) (haulageref01_Ends.j1 (k + 1) y0 y1 y2)) ∧ (∀ y0 y1, LeO (haulageref01_Ends.j2 k y0 y1) (haulageref01_Ends.j2 (k + 1) y0 y1))
 | 0 => by refine ⟨?_, ?_, ?_⟩ <;> intros <;> exact LeO.none _
 | k + 1 => by
  obtain ⟨ih0, ih1, ih2⟩ := haulageref01_Ends.mono_l k
  refine ⟨?_, ?_, ?_⟩ <;> intros <;> first | unfold haulageref01_Ends.l0 | unfold haulageref01_Ends.j1 | unfold haulageref01_Ends.j2
  all_goals repeat' first | with_reducible (first | exact ih0 .. | exact ih1 .. | exact ih2 .. | exact LeO.refl .. | exact LeO.none .. | refine LeO.ite ?_ ?_ | refine LeO.bind ?_ (fun _ => ?_)) | exact ih0 .. | exact ih1 .. | exact ih2 .. | exact LeO.none .. | refine LeO.ite ?_ ?_ | refine LeO.bind ?_ (fun _ => ?_)
theorem haulageref01_Ends.mono : ∀ a0 k, LeO (haulageref01_Ends.f k a0) (haulageref01_Ends.f (k + 1) a0) := by
 intro a0 k
 obtain ⟨ih0, ih1, ih2⟩ := haulageref01_Ends.mono_l k
 unfold haulageref01_Ends.f
 repeat' first | with_reducible (first | exact ih0 .. | exact ih1 .. | exact ih2 .. | exact LeO.refl .. | exact LeO.none .. | refine LeO.ite ?_ ?_ | refine LeO.bind ?_ (fun _ => ?_)) | exact ih0 .. | exact ih1 .. | exact ih2 .. | exact LeO.none .. | refine LeO.ite ?_ ?_ | refine LeO.bind ?_ (fun _ => ?_)
set_option maxHeartbeats 8000000 in
set_option maxRecDepth 100000 in
theorem haulageref01_Ends.calls (k : Nat) (a0 : ByteArray) (r1 : Int) (r2 : Int) (w : World) (h : haulageref01_Ends.f k a0 = some (r1, r2)) :
  Calls Tryd.prog 111 #[.string a0] w fun e w' => e = .returned (.tuple #[.int .i64 r1, .int .i64 r2]) ∧ Drawn0 w w' := by
 have H : (haulageref01_Ends.l0 k a0 0) = some (r1, r2) := h
 clear h
 have H' := aM H
 clear H
 go_enter Tryd.func111, Tryd.ntmps111
 go_wp2
 go_loopg [4] k (fun kq v4 w' => ∃ (x4_1 : Int), v4 = .int .i64 x4_1 ∧ Aside0 (haulageref01_Ends.l0 kq a0 x4_1 = some (r1, r2)) ∧ Aside0 (kq ≤ k) ∧ Drawn0 w w')
 case atStart => exact ⟨(0), yS, H', ⟨Nat.le_refl _⟩, yD⟩
 case round =>
  clear H'
  obtain ⟨x4_1, rfl, HA, HK1, ⟨m1, rfl⟩⟩ := hrel
  cases gk with
  | zero => exact absurd HA.out (by simp [haulageref01_Ends.l0])
  | succ k1 =>
   have H := HA.out
   clear HA
   simp only [haulageref01_Ends.l0] at H
   have HC2 := aM H
   clear H
   go_upto_region 2 with (fail)
   go_cut [12] (fun v12 wc => ∃ (kq : Nat) (x12_1 : Bool), v12 = .bool x12_1 ∧ Aside0 (haulageref01_Ends.j1 kq a0 x4_1 x12_1 = some (r1, r2)) ∧ Aside0 (kq ≤ k1) ∧ Drawn0 w wc)
   case first =>
    have H := HC2.out
    clear HC2
    by_cases c3 : x4_1 < (a0.size : Int)
    ·
     rw [if_pos c3] at H
     have c3b0 : decide (x4_1 < (a0.size : Int)) = true := decide_eq_true c3
     clear c3
     (first | rw [c3b0] | (simp only [i64_w, i32_w]; rw [c3b0]) | skip)
     have H' := aM H
     clear H
     go_wp2
     go_meet
     case rel => exact ⟨_, (decide (x4_1 < 10)), yS, H', ⟨by have := HK1.out; first | omega | exact Nat.le_refl _⟩, yD⟩
    ·
     rw [if_neg c3] at H
     have c3b0 : decide (x4_1 < (a0.size : Int)) = false := decide_eq_false c3
     clear c3
     (first | rw [c3b0] | (simp only [i64_w, i32_w]; rw [c3b0]) | skip)
     have H' := aM H
     clear H
     go_wp2
     go_meet
     case rel => exact ⟨_, (false), yS, H', ⟨by have := HK1.out; first | omega | exact Nat.le_refl _⟩, yD⟩
   case rest =>
    clear HC2
    obtain ⟨kq, x12_1, rfl, HA, HJ1, ⟨mc1, rfl⟩⟩ := hcut
    cases kq with
    | zero => exact absurd HA.out (by simp [haulageref01_Ends.j1])
    | succ kj1 =>
     have H := HA.out
     clear HA
     simp only [haulageref01_Ends.j1] at H
     by_cases c4 : x12_1 = true
     ·
      subst c4
      replace H := yt H
      by_cases c5 : 0 ≤ x4_1
      ·
       rw [if_pos c5] at H
       have c5b0 : decide (0 ≤ x4_1) = true := decide_eq_true c5
       clear c5
       by_cases c6 : x4_1 < (a0.size : Int)
       ·
        rw [if_pos c6] at H
        have c6b0 : decide (x4_1 < (a0.size : Int)) = true := decide_eq_true c6
        clear c6
        by_cases c8 : (bt a0 x4_1) < 128
        ·
         rw [if_pos c8] at H
         have c8b0 : decide ((bt a0 x4_1) < 128) = true := decide_eq_true c8
         clear c8
         have HC9 := aM H
         clear H
         have p7 : 0 ≤ (x4_1 : Int) := oD yA
         have q7 : x4_1 < (a0.size : Int) := oD yA
         have hx7 := bt_at a0 x4_1
         replace p7 := eq_true p7
         replace q7 := eq_true q7
         go_upto_region 5 with (fail)
         go_cut [36] (fun v36 wc => ∃ (kq : Nat) (x36_8 : Bool), v36 = .bool x36_8 ∧ Aside0 (haulageref01_Ends.j2 kq x4_1 x36_8 = some (r1, r2)) ∧ Aside0 (kq ≤ kj1) ∧ Drawn0 w wc)
         case first =>
          have H := HC9.out
          clear HC9
          by_cases c10 : x4_1 > 0
          ·
           rw [if_pos c10] at H
           have c10b0 : decide (0 < x4_1) = true := decide_eq_true c10
           clear c10
           (first | rw [c10b0] | (simp only [i64_w, i32_w]; rw [c10b0]) | skip)
           by_cases c12 : (bt a0 x4_1) = 0
           ·
            rw [if_pos c12] at H
            have c12b0 : ((bt a0 x4_1) == 0) = true := beq_iff_eq.mpr c12
            have c12b1 : ((bt a0 x4_1) != 0) = false := bne_eq_false_iff_eq.mpr c12
            clear c12
            have H' := aM H
            clear H
            have p11 : 0 ≤ (x4_1 : Int) := oD yA
            have q11 : x4_1 < (a0.size : Int) := oD yA
            have hx11 := bt_at a0 x4_1
            replace p11 := eq_true p11
            replace q11 := eq_true q11
            go_wp2
            go_meet
            case rel => exact ⟨_, (true), yS, H', ⟨by have := HK1.out; have := HJ1.out; first | omega | exact Nat.le_refl _⟩, yD⟩
           ·
            rw [if_neg c12] at H
            have c12b0 : ((bt a0 x4_1) == 0) = false := beq_eq_false_iff_ne.mpr c12
            have c12b1 : ((bt a0 x4_1) != 0) = true := bne_iff_ne.mpr c12
            by_cases c13 : x4_1 = 9
            ·
             rw [if_pos c13] at H
             have c13b0 : (x4_1 == 9) = true := beq_iff_eq.mpr c13
             have c13b1 : (x4_1 != 9) = false := bne_eq_false_iff_eq.mpr c13
             clear c13
             have H' := aM H
             clear H
             have p11 : 0 ≤ (x4_1 : Int) := oD yA
             have q11 : x4_1 < (a0.size : Int) := oD yA
             have hx11 := bt_at a0 x4_1
             replace p11 := eq_true p11
             replace q11 := eq_true q11
             have p14 : 0 ≤ (x4_1 : Int) := oD yA
             have q14 : x4_1 < (a0.size : Int) := oD yA
             have hx14 := bt_at a0 x4_1
             replace p14 := eq_true p14
             replace q14 := eq_true q14
             go_wp2
             go_meet
             case rel => exact ⟨_, (decide ((bt a0 x4_1) > 1)), yS, H', ⟨by have := HK1.out; have := HJ1.out; first | omega | exact Nat.le_refl _⟩, yD⟩
            ·
             rw [if_neg c13] at H
             have c13b0 : (x4_1 == 9) = false := beq_eq_false_iff_ne.mpr c13
             have c13b1 : (x4_1 != 9) = true := bne_iff_ne.mpr c13
             have H' := aM H
             clear H
             have p11 : 0 ≤ (x4_1 : Int) := oD yA
             have q11 : x4_1 < (a0.size : Int) := oD yA
             have hx11 := bt_at a0 x4_1
             replace p11 := eq_true p11
             replace q11 := eq_true q11
             go_wp2
             go_meet
             case rel => exact ⟨_, (false), yS, H', ⟨by have := HK1.out; have := HJ1.out; first | omega | exact Nat.le_refl _⟩, yD⟩
          ·
           rw [if_neg c10] at H
           have c10b0 : decide (0 < x4_1) = false := decide_eq_false c10
           clear c10
           (first | rw [c10b0] | (simp only [i64_w, i32_w]; rw [c10b0]) | skip)
           by_cases c15 : x4_1 = 9
           ·
            rw [if_pos c15] at H
            have c15b0 : (x4_1 == 9) = true := beq_iff_eq.mpr c15
            have c15b1 : (x4_1 != 9) = false := bne_eq_false_iff_eq.mpr c15
            clear c15
            have H' := aM H
            clear H
            have p16 : 0 ≤ (x4_1 : Int) := oD yA
            have q16 : x4_1 < (a0.size : Int) := oD yA
            have hx16 := bt_at a0 x4_1
            replace p16 := eq_true p16
            replace q16 := eq_true q16
            go_wp2
            go_meet
            case rel => exact ⟨_, (decide ((bt a0 x4_1) > 1)), yS, H', ⟨by have := HK1.out; have := HJ1.out; first | omega | exact Nat.le_refl _⟩, yD⟩
           ·
            rw [if_neg c15] at H
            have c15b0 : (x4_1 == 9) = false := beq_eq_false_iff_ne.mpr c15
            have c15b1 : (x4_1 != 9) = true := bne_iff_ne.mpr c15
            have H' := aM H
            clear H
            go_wp2
            go_meet
            case rel => exact ⟨_, (false), yS, H', ⟨by have := HK1.out; have := HJ1.out; first | omega | exact Nat.le_refl _⟩, yD⟩
         case rest =>
          clear HC9
          try clear c4
          try clear c5
          try clear c5b0
          try clear c6
          try clear c6b0
          try clear p7
          try clear q7
          try clear hx7
          try clear c8
          try clear c8b0
          try clear p7
          try clear q7
          obtain ⟨kq, x36_8, rfl, HA, HJ8, ⟨mc8, rfl⟩⟩ := hcut
          cases kq with
          | zero => exact absurd HA.out (by simp [haulageref01_Ends.j2])
          | succ kj8 =>
           have H := HA.out
           clear HA
           simp only [haulageref01_Ends.j2] at H
           by_cases c17 : x36_8 = true
           ·
            subst c17
            replace H := yt H
            simp only [Option.some.injEq, Prod.mk.injEq] at H
            obtain ⟨rfl, rfl⟩ := H
            go_wp2
            go_ret2
            exact ⟨yS, yD⟩
           ·
            replace c17 := Bool.eq_false_iff.mpr c17
            subst c17
            replace H := yf H
            simp only [Option.some.injEq, Prod.mk.injEq] at H
            obtain ⟨rfl, rfl⟩ := H
            go_wp2
            go_ret2
            exact ⟨yS, yD⟩
        ·
         rw [if_neg c8] at H
         have c8b0 : decide ((bt a0 x4_1) < 128) = false := decide_eq_false c8
         clear c8
         have H' := aM H
         clear H
         have p7 : 0 ≤ (x4_1 : Int) := oD yA
         have q7 : x4_1 < (a0.size : Int) := oD yA
         have hx7 := bt_at a0 x4_1
         replace p7 := eq_true p7
         replace q7 := eq_true q7
         go_wp2
         go_roundg kj1
         case measure => have := HK1.out; have := HJ1.out; omega
         case rel => exact ⟨(wrap64 (x4_1 + 1)), yS, H', ⟨by have := HK1.out; have := HJ1.out; omega⟩, yD⟩
       ·
        rw [if_neg c6] at H
        exact absurd H (by simp)
      ·
       rw [if_neg c5] at H
       exact absurd H (by simp)
     ·
      replace c4 := Bool.eq_false_iff.mpr c4
      subst c4
      replace H := yf H
      by_cases c18 : (a0.size : Int) < 10
      ·
       rw [if_pos c18] at H
       have c18b0 : decide ((a0.size : Int) < 10) = true := decide_eq_true c18
       have c18b1 : decide (a0.size < 10) = true := decide_eq_true (by omega)
       clear c18
       simp only [Option.some.injEq, Prod.mk.injEq] at H
       obtain ⟨rfl, rfl⟩ := H
       go_wp2
       go_ret2
       exact ⟨yS, yD⟩
      ·
       rw [if_neg c18] at H
       have c18b0 : decide ((a0.size : Int) < 10) = false := decide_eq_false c18
       have c18b1 : decide (a0.size < 10) = false := decide_eq_false (by omega)
       clear c18
       simp only [Option.some.injEq, Prod.mk.injEq] at H
       obtain ⟨rfl, rfl⟩ := H
       go_wp2
       go_ret2
       exact ⟨yS, yD⟩
/-! ### haulageref01_Long: function 102 -/
def haulageref01_Long.l0 : Nat → ByteArray → Int → Int → Int → Option (Int × Int × Int)
 | 0, _, _, _, _ => none
 | k + 1, x0, x5, x7, x8 => if x8 ≥ 0 then (if 0 ≤ x8 then (if x8 < (x0.size : Int) then (haulageref01_Long.l0 k x0 x5 (IntKind.u64.wrap ((IntKind.u64.wrap (x7 * 128)) + (IntKind.u64.wrap (Int.tmod (bt x0 x8) 128)))) (wrap64 (x8 - 1))) else (none)) else (none)) else (some (x7, x5, 0))
def haulageref01_Long.f (k : Nat) (a0 : ByteArray) : Option (Int × Int × Int) := (haulageref01_Ends.f k a0).bind fun bt326 => (if bt326.2 = 0 then (haulageref01_Long.l0 k a0 bt326.1 0 (wrap64 (bt326.1 - 1))) else (some (0, 0, bt326.2)))
theorem haulageref01_Long.mono_l : ∀ k, (∀ y0 y1 y2 y3, LeO (haulageref01_Long.l0 k y0 y1 y2 y3) (haulageref01_Long.l0 (k + 1) y0 y1 y2 y3))
 | 0 => fun _ _ _ _ r h => by simp [haulageref01_Long.l0] at h
 | k + 1 => by
  have ih0 := haulageref01_Long.mono_l k
  ·
   intro y0 y1 y2 y3
   unfold haulageref01_Long.l0
   repeat' first
   | (with_reducible exact ih0 _ _ _ _)
   | (with_reducible exact haulageref01_Ends.mono _ _)
   | (with_reducible exact LeO.refl _)
   | (with_reducible exact LeO.none _)
   | (with_reducible refine LeO.ite ?_ ?_)
   | (with_reducible refine LeO.bind ?_ (fun _ => ?_))
   | exact ih0 _ _ _ _
   | exact haulageref01_Ends.mono _ _
   | exact LeO.none _
   | refine LeO.ite ?_ ?_
   | refine LeO.bind ?_ (fun _ => ?_)
theorem haulageref01_Long.mono : ∀ a0 k, LeO (haulageref01_Long.f k a0) (haulageref01_Long.f (k + 1) a0) := by
 intro a0 k
 have ih0 := haulageref01_Long.mono_l k
 unfold haulageref01_Long.f
 repeat' first | with_reducible (first | exact ih0 .. | exact haulageref01_Ends.mono .. | exact LeO.refl .. | exact LeO.none .. | refine LeO.ite ?_ ?_ | refine LeO.bind ?_ (fun _ => ?_)) | exact ih0 .. | exact haulageref01_Ends.mono .. | exact LeO.none .. | refine LeO.ite ?_ ?_ | refine LeO.bind ?_ (fun _ => ?_)
set_option maxHeartbeats 8000000 in
set_option maxRecDepth 100000 in
theorem haulageref01_Long.calls (k : Nat) (a0 : ByteArray) (r1 : Int) (r2 : Int) (r3 : Int) (w : World) (h : haulageref01_Long.f k a0 = some (r1, r2, r3)) :
  Calls Tryd.prog 102 #[.string a0] w fun e w' => e = .returned (.tuple #[.int .u64 r1, .int .i64 r2, .int .i64 r3]) ∧ Drawn0 w w' := by
 have H : ((haulageref01_Ends.f k a0).bind fun bt326 => (if bt326.2 = 0 then (haulageref01_Long.l0 k a0 bt326.1 0 (wrap64 (bt326.1 - 1))) else (some (0, 0, bt326.2)))) = some (r1, r2, r3) := h
 clear h
 obtain ⟨⟨t326, t327⟩, A2, H⟩ := yb H
 try dsimp -simprocs only at H
 by_cases c3 : t327 = 0
 ·
  rw [if_pos c3] at H
  have c3b0 : (t327 == 0) = true := beq_iff_eq.mpr c3
  have c3b1 : (t327 != 0) = false := bne_eq_false_iff_eq.mpr c3
  clear c3
  have H' := aM H
  clear H
  go_enter Tryd.func102, Tryd.ntmps102
  go_wp2_with (first | ((with_reducible refine gate_callee (f := 111) rfl ?_); refine yC 11 Tryd.func111 #[.string a0] rfl ?_; (with_reducible refine (haulageref01_Ends.calls k a0 t326 t327 _ A2.out).mono ?_); rintro e w' ⟨rfl, ⟨nd, rfl⟩⟩; refine ⟨_, rfl, ?_⟩))
  go_loopg [7, 8] k (fun kq v7 v8 w' => ∃ (x7_1 : Int) (x8_1 : Int), v7 = .int .u64 x7_1 ∧ v8 = .int .i64 x8_1 ∧ Aside0 (haulageref01_Long.l0 kq a0 t326 x7_1 x8_1 = some (r1, r2, r3)) ∧ Aside0 (kq ≤ k) ∧ Drawn0 w w')
  case atStart => exact ⟨(0), (wrap64 (t326 - 1)), yS, yS, H', ⟨Nat.le_refl _⟩, yD⟩
  case round =>
   clear H'
   try clear c3
   try clear c3b0
   try clear c3b1
   obtain ⟨x7_1, x8_1, rfl, rfl, HA, HK1, ⟨m1, rfl⟩⟩ := hrel
   cases gk with
   | zero => exact absurd HA.out (by simp [haulageref01_Long.l0])
   | succ k1 =>
    have H := HA.out
    clear HA
    simp only [haulageref01_Long.l0] at H
    by_cases c4 : x8_1 ≥ 0
    ·
     rw [if_pos c4] at H
     have c4b0 : decide (0 ≤ x8_1) = true := decide_eq_true c4
     clear c4
     by_cases c5 : 0 ≤ x8_1
     ·
      rw [if_pos c5] at H
      have c5b0 : decide (0 ≤ x8_1) = true := decide_eq_true c5
      clear c5
      by_cases c6 : x8_1 < (a0.size : Int)
      ·
       rw [if_pos c6] at H
       have c6b0 : decide (x8_1 < (a0.size : Int)) = true := decide_eq_true c6
       clear c6
       have H' := aM H
       clear H
       have p7 : 0 ≤ (x8_1 : Int) := oD yA
       have q7 : x8_1 < (a0.size : Int) := oD yA
       have hx7 := bt_at a0 x8_1
       replace p7 := eq_true p7
       replace q7 := eq_true q7
       go_wp2
       go_roundg k1
       case measure => have := HK1.out; omega
       case rel => exact ⟨(IntKind.u64.wrap ((IntKind.u64.wrap (x7_1 * 128)) + (IntKind.u64.wrap (Int.tmod (bt a0 x8_1) 128)))), (wrap64 (x8_1 - 1)), yS, yS, H', ⟨by have := HK1.out; omega⟩, yD⟩
      ·
       rw [if_neg c6] at H
       exact absurd H (by simp)
     ·
      rw [if_neg c5] at H
      exact absurd H (by simp)
    ·
     rw [if_neg c4] at H
     have c4b0 : decide (0 ≤ x8_1) = false := decide_eq_false c4
     clear c4
     simp only [Option.some.injEq, Prod.mk.injEq] at H
     obtain ⟨rfl, rfl, rfl⟩ := H
     go_wp2
     go_ret3
     exact ⟨yS, yD⟩
 ·
  rw [if_neg c3] at H
  have c3b0 : (t327 == 0) = false := beq_eq_false_iff_ne.mpr c3
  have c3b1 : (t327 != 0) = true := bne_iff_ne.mpr c3
  simp only [Option.some.injEq, Prod.mk.injEq] at H
  obtain ⟨rfl, rfl, rfl⟩ := H
  go_enter Tryd.func102, Tryd.ntmps102
  go_wp2_with (first | ((with_reducible refine gate_callee (f := 111) rfl ?_); refine yC 11 Tryd.func111 #[.string a0] rfl ?_; (with_reducible refine (haulageref01_Ends.calls k a0 t326 t327 _ A2.out).mono ?_); rintro e w' ⟨rfl, ⟨nd, rfl⟩⟩; refine ⟨_, rfl, ?_⟩))
  go_ret3
  exact ⟨yS, yD⟩
/-! ### haulageref01_Zag: function 103 -/
def haulageref01_Zag.f (a0 : Int) : Option (Int) := if (Int.tmod a0 2) = 0 then (some (wrap64 (IntKind.u64.wrap (Int.tdiv a0 2)))) else (some (wrap64 ((-1) - (wrap64 (IntKind.u64.wrap (Int.tdiv a0 2))))))
set_option maxHeartbeats 8000000 in
set_option maxRecDepth 100000 in
theorem haulageref01_Zag.calls (a0 : Int) (r : Int) (w : World) (h : haulageref01_Zag.f a0 = some r) :
  Calls Tryd.prog 103 #[.int .u64 a0] w fun e w' => e = .returned (.int .i64 r) ∧ Drawn0 w w' := by
 have H : (if (Int.tmod a0 2) = 0 then (some (wrap64 (IntKind.u64.wrap (Int.tdiv a0 2)))) else (some (wrap64 ((-1) - (wrap64 (IntKind.u64.wrap (Int.tdiv a0 2))))))) = some r := h
 clear h
 by_cases c2 : (Int.tmod a0 2) = 0
 ·
  rw [if_pos c2] at H
  have c2b0 : ((Int.tmod a0 2) == 0) = true := beq_iff_eq.mpr c2
  have c2b1 : ((Int.tmod a0 2) != 0) = false := bne_eq_false_iff_eq.mpr c2
  clear c2
  obtain rfl := Option.some.inj H
  go_enter Tryd.func103, Tryd.ntmps103
  go_wp2
  go_ret
  exact ⟨yS, yD⟩
 ·
  rw [if_neg c2] at H
  have c2b0 : ((Int.tmod a0 2) == 0) = false := beq_eq_false_iff_ne.mpr c2
  have c2b1 : ((Int.tmod a0 2) != 0) = true := bne_iff_ne.mpr c2
  obtain rfl := Option.some.inj H
  go_enter Tryd.func103, Tryd.ntmps103
  go_wp2
  go_ret
  exact ⟨yS, yD⟩
end Go.Proofs.YtdeophpjammbpaaDoor.HRowcodeKeys

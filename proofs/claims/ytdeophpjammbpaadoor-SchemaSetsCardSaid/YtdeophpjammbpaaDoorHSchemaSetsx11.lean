/- For Go functions that SchemaSets reaches: Lean functions, and walks that show that each call comes to what its Lean function tells; no condition but those that each theorem states. (Made by a program of this session over the kit's print.py.) -/
import Derived.Test.YtdeophpjammbpaaDoorHSchemaSetsx0
import Derived.Test.YtdeophpjammbpaaDoorHSchemaSetsx8
import Derived.Test.YtdeophpjammbpaaDoorHSchemaSetsx9
import Derived.Test.YtdeophpjammbpaaDoorHSchemaSetsx10
namespace Go.Proofs.YtdeophpjammbpaaDoor.HSchemaSets
open Go.RowKit Go.Proofs.YtdeophpjammbpaaDoorW.PrintWords Go.Proofs.YtdeophpjammbpaaDoorW.PrintLast Go.Proofs.YtdeophpjammbpaaDoorW.PrintMore
attribute [local go_sem] max2_int min2_int max_two min_two max_three min_three max_four min_four   -- for this text's walks alone
set_option linter.unusedVariables false
set_option linter.unusedSimpArgs false
attribute [local go_sem] hp_s8 hp_s16 hp_s32 hp_s64 hp_m8 hp_m16 hp_m32 hp_m64
/-! ### schema_lay_f73: function 63 -/
def schema_lay_f73.l0 : Nat → List (S52) → List (S24) → List (S96) → Int → Int → Int → ByteArray → Int → Int → List (S54) → List Bool → Option ((List (S52)) × Int)
 | 0, _, _, _, _, _, _, _, _, _, _, _ => none
 | k + 1, x1, x3, x20, x21, x22, x230000, x230001, x230002, x230003, x230004, x231000 => if x22 < x21 then (if 0 ≤ x22 then (if x22 < (x20.length : Int) then ((schema_Col.f k x230000 x230001 x230002 x230003 x230004 ((rd_T96 x20 x22).f0)).bind fun bt233 => (if bt233.2 = true then (if 0 ≤ bt233.1 then (if bt233.1 < (10 : Int) then (if hpAt x231000 bt233.1 = true then (some (([] : List (S52)), 14)) else (if bt233.1 < (x230004.length : Int) then ((schema_Set_1.f ((rd_T54 x230004 bt233.1).f0) ((rd_T54 x230004 bt233.1).f1) ((rd_T54 x230004 bt233.1).f2.f0) ((rd_T54 x230004 bt233.1).f2.f1) ((rd_T54 x230004 bt233.1).f3) ((rd_T54 x230004 bt233.1).f4.f0) ((rd_T54 x230004 bt233.1).f4.f1) ((rd_T54 x230004 bt233.1).f4.f2) x3).bind fun t236 => (if t236 = 0 then ((hparr_put.f x231000 bt233.1).bind fun t237 => (if bt233.1 < (x1.length : Int) then (schema_lay_f73.l0 k (x1.set (bt233.1 : Int).toNat (⟨(rd_T96 x20 x22).f1.f0, (rd_T96 x20 x22).f1.f1, (rd_T96 x20 x22).f1.f2⟩ : S52)) x3 x20 x21 (wrap64 (x22 + 1)) x230000 x230001 x230002 x230003 x230004 t237) else (none))) else (some (([] : List (S52)), t236)))) else (none))) else (none)) else (none)) else (some (([] : List (S52)), 13)))) else (none)) else (none)) else ((schema_fits.f k x230000 x230001 x230002 x230003 x230004 x1).bind fun t239 => (if t239 = 0 then (some (x1, 0)) else (some (([] : List (S52)), t239))))
def schema_lay_f73.f (k : Nat) (a0_0 : Int) (a0_1 : ByteArray) (a0_2 : Int) (a0_3 : Int) (l0_4 : List (S54)) (l1 : List (S52)) (l2 : List (S96)) (l3 : List (S24)) : Option ((List (S52)) × Int) := if (l2.length : Int) > 10 then (some (([] : List (S52)), 3)) else (schema_lay_f73.l0 k l1 l3 l2 (l2.length : Int) 0 a0_0 a0_1 a0_2 a0_3 l0_4 (List.replicate 10 false))
theorem schema_lay_f73.mono_l : ∀ k, (∀ y0 y1 y2 y3 y4 y5 y6 y7 y8 y9 y10, LeO (schema_lay_f73.l0 k y0 y1 y2 y3 y4 y5 y6 y7 y8 y9 y10) (schema_lay_f73.l0 (k + 1) y0 y1 y2 y3 y4 y5 y6 y7 y8 y9 y10))
 | 0 => fun _ _ _ _ _ _ _ _ _ _ _ r h => by simp [schema_lay_f73.l0] at h
 | k + 1 => by
  have ih0 := schema_lay_f73.mono_l k
  ·
   intro y0 y1 y2 y3 y4 y5 y6 y7 y8 y9 y10
   unfold schema_lay_f73.l0
   repeat' first
   | (with_reducible exact ih0 _ _ _ _ _ _ _ _ _ _ _)
   | (with_reducible exact schema_Col.mono _ _ _ _ _ _ _)
   | (with_reducible exact schema_fits.mono _ _ _ _ _ _ _)
   | (with_reducible exact LeO.refl _)
   | (with_reducible exact LeO.none _)
   | (with_reducible refine LeO.ite ?_ ?_)
   | (with_reducible refine LeO.bind ?_ (fun _ => ?_))
   | exact ih0 _ _ _ _ _ _ _ _ _ _ _
   | exact schema_Col.mono _ _ _ _ _ _ _
   | exact schema_fits.mono _ _ _ _ _ _ _
   | exact LeO.none _
   | refine LeO.ite ?_ ?_
   | refine LeO.bind ?_ (fun _ => ?_)
theorem schema_lay_f73.mono : ∀ a0 a1 a2 a3 a4 a5 a6 a7 k, LeO (schema_lay_f73.f k a0 a1 a2 a3 a4 a5 a6 a7) (schema_lay_f73.f (k + 1) a0 a1 a2 a3 a4 a5 a6 a7) := by
 intro a0 a1 a2 a3 a4 a5 a6 a7 k
 have ih0 := schema_lay_f73.mono_l k
 unfold schema_lay_f73.f
 repeat' first
   | (with_reducible exact ih0 _ _ _ _ _ _ _ _ _ _ _)
   | (with_reducible exact schema_Col.mono _ _ _ _ _ _ _)
   | (with_reducible exact schema_fits.mono _ _ _ _ _ _ _)
   | (with_reducible exact LeO.refl _)
   | (with_reducible exact LeO.none _)
   | (with_reducible refine LeO.ite ?_ ?_)
   | (with_reducible refine LeO.bind ?_ (fun _ => ?_))
   | exact ih0 _ _ _ _ _ _ _ _ _ _ _
   | exact schema_Col.mono _ _ _ _ _ _ _
   | exact schema_fits.mono _ _ _ _ _ _ _
   | exact LeO.none _
   | refine LeO.ite ?_ ?_
   | refine LeO.bind ?_ (fun _ => ?_)
def schema_lay_f73.T15 : Bool × List (List Nat × List Nat) := (true, [([], []), ([], []), ([], []), ([], []), ([3], [3]), ([0, 0], [0]), ([5, 0], [5]), ([1, 2, 0, 1, 2, 3, 4, 5, 6], [1, 2]), ([7, 4, 6, 0, 1, 2, 3, 4, 5, 6], [4, 7])])
def schema_lay_f73.B15 : List Nat := [0, 0, 0, 0, 8, 1, 33, 127, 255]
theorem schema_lay_f73.tab15 : rtab .any (opsOf Tryd.f63 15) = schema_lay_f73.T15 := by kernel_rfl
theorem schema_lay_f73.bits15 : waitsOk schema_lay_f73.T15.2 schema_lay_f73.B15 = true := by kernel_rfl
set_option maxHeartbeats 8000000 in
set_option maxRecDepth 100000 in
theorem schema_lay_f73.calls (k : Nat) (a0_0 : Int) (a0_1 : ByteArray) (a0_2 : Int) (a0_3 : Int) (A0_4 : Option Addr) (c0_4 : Nat) (l0_4 : List (S54)) (P1_ : Nat → Prop) (u9000_ : Value) (l1 : List (S52)) (A2 : Option Addr) (c2 : Nat) (l2 : List (S96)) (A3 : Option Addr) (c3 : Nat) (l3 : List (S24)) (r1 : List (S52)) (r2 : Int) (w0 w : World) (hB : Below w0.heap.size w0 w) (hr0_4 : ∀ W_, Kept w W_ (fun k_ => P1_ k_) → Kd.C k54 W_ A0_4 l0_4.length l0_4) (hc0_4 : l0_4.length ≤ c0_4) (ho1 : Kd.R k52 52 w w0.heap.size P1_ u9000_ l1) (hr2 : ∀ W_, Kept w W_ (fun k_ => P1_ k_) → Kd.C k96 W_ A2 l2.length l2) (hc2 : l2.length ≤ c2) (hr3 : ∀ W_, Kept w W_ (fun k_ => P1_ k_) → Kd.C k24 W_ A3 l3.length l3) (hc3 : l3.length ≤ c3) (hG : Glob w0) (h : schema_lay_f73.f k a0_0 a0_1 a0_2 a0_3 l0_4 l1 l2 l3 = some (r1, r2)) :
  Calls Tryd.prog 63 #[.agg #[.int .i64 a0_0, .string a0_1, .int .i64 a0_2, .int .i64 a0_3, .slice A0_4 l0_4.length c0_4], u9000_, .slice A2 l2.length c2, .func (.func 73) #[] #[.pointer A3]] w fun e w' => ∃ v0_ : Value, e = .returned (.tuple #[v0_, .int .i64 r2]) ∧ Kd.R k52 52 w' w0.heap.size (fun k_ => (P1_ k_ ∨ w.heap.size ≤ k_)) v0_ r1 ∧ Below w0.heap.size w0 w' ∧ Kept w w' (fun k_ => P1_ k_) := by
 have hmf : ∀ (fn : Go.Fn) (first cap : Array Value) (w : World), (Instr.makeFunc fn first cap).run Tryd.prog w = .ok (.func fn first cap) w := fun _ _ _ _ => rfl
 have hu24 := Tryd.underlying24
 have hu96 := Tryd.underlying96
 have hu54 := Tryd.underlying54
 have hu52 := Tryd.underlying52
 have HR0_4 := aM hr0_4
 have HC0_4 := aM hc0_4
 clear hr0_4 hc0_4
 have HO1 := aM (show Kd.R k52 52 w w0.heap.size (fun k_ => (P1_ k_ ∨ w.heap.size ≤ k_)) u9000_ l1 from Kd.R_mono ho1 (fun k_ hk => (.inl hk)))
 have HR2 := aM hr2
 have HC2 := aM hc2
 clear hr2 hc2
 have HR3 := aM hr3
 have HC3 := aM hc3
 clear hr3 hc3
 have HG := aM hG
 clear hG
 have HK := aM (Kept.refl w (fun k_ => P1_ k_))
 have HW0 := aM hB.size
 have HB := aM hB
 clear hB
 have H : (if (l2.length : Int) > 10 then (some (([] : List (S52)), 3)) else (schema_lay_f73.l0 k l1 l3 l2 (l2.length : Int) 0 a0_0 a0_1 a0_2 a0_3 l0_4 (List.replicate 10 false))) = some (r1, r2) := h
 clear h
 by_cases c5 : (l2.length : Int) > 10
 ·
  rw [if_pos c5] at H
  have c5b0 : decide (10 < (l2.length : Int)) = true := decide_eq_true c5
  have c5b1 : decide (10 < l2.length) = true := decide_eq_true (by omega)
  clear c5
  simp only [Option.some.injEq, Prod.mk.injEq] at H
  obtain ⟨rfl, rfl⟩ := H
  go_enter Tryd.func63, Tryd.ntmps63
  go_wp2_with (first | ((with_reducible refine gate_dst (N := 4) rfl ?_); refine yX (N := 4) (cs := #[.int .i64 a0_0, .string a0_1, .int .i64 a0_2, .int .i64 a0_3, .slice A0_4 l0_4.length c0_4]) (t := 24) ?_; intro gb229 hg w6 hbox hb; replace HO1 := aM (Kd.R_below (yR HO1.out) hb); have BK229 := aM (hbox); have GW229 := aM ((by rw [hg]; exact (by first | exact HK.out.1 | exact (show Kept w _ (fun k_ => P1_ k_) from by repeat (first | (with_reducible first | exact HK.out | apply Kept.alloc | apply Kept.drewN | apply Kept.drew) | exact HK.out)).1) : w.heap.size ≤ gb229)); replace HK := aM (Kept.below (S := (fun k_ => P1_ k_)) (by repeat (first | (with_reducible first | exact HK.out | apply Kept.alloc | apply Kept.drewN | apply Kept.drew) | exact HK.out)) hb); have GE229 := yZ hg (yB HB); replace HB := aM (bP (yB HB) hb); clear hb hbox hg))
  go_ret2
  exact ⟨_, yE, by first | exact Kd.R_nil _ _ _ _ _ | exact Kd.N_nil _ _ _ _ _ | exact Kd.V_nil _ _ _ _ _ | exact Kd.Q_nil _ _ _ _ _ | exact Kd.S_nil _ _ _ _ _, yG1 HB GE229.out, by repeat (first | (with_reducible first | exact HK.out | apply Kept.alloc | apply Kept.drewN | apply Kept.drew | refine Kept.setCell ?_ (.inr GW229.out) _) | exact HK.out)⟩
 ·
  rw [if_neg c5] at H
  have c5b0 : decide (10 < (l2.length : Int)) = false := decide_eq_false c5
  have c5b1 : decide (10 < l2.length) = false := decide_eq_false (by omega)
  clear c5
  have H' := aM H
  clear H
  go_enter Tryd.func63, Tryd.ntmps63
  go_wp2_with (first | ((with_reducible refine gate_dst (N := 4) rfl ?_); refine yX (N := 4) (cs := #[.int .i64 a0_0, .string a0_1, .int .i64 a0_2, .int .i64 a0_3, .slice A0_4 l0_4.length c0_4]) (t := 24) ?_; intro gb229 hg w7 hbox hb; replace HO1 := aM (Kd.R_below (yR HO1.out) hb); have BK229 := aM (hbox); have GW229 := aM ((by rw [hg]; exact (by first | exact HK.out.1 | exact (show Kept w _ (fun k_ => P1_ k_) from by repeat (first | (with_reducible first | exact HK.out | apply Kept.alloc | apply Kept.drewN | apply Kept.drew) | exact HK.out)).1) : w.heap.size ≤ gb229)); replace HK := aM (Kept.below (S := (fun k_ => P1_ k_)) (by repeat (first | (with_reducible first | exact HK.out | apply Kept.alloc | apply Kept.drewN | apply Kept.drew) | exact HK.out)) hb); have GE229 := yZ hg (yB HB); replace HB := aM (bP (yB HB) hb); clear hb hbox hg) | ((with_reducible refine gate_dst (N := 10) rfl ?_); refine yX (N := 10) (cs := hpB (List.replicate 10 false)) (t := 125) ?_; intro gb230 hg w8 hbox hb; replace HO1 := aM (Kd.R_below (yR HO1.out) hb); have HI230 := aM ((show IsS172 w0 w8 gb230 (List.replicate 10 false) from ⟨⟨hbox, rfl⟩, by rw [hg]; exact (bZ (yG1 HB GE229.out))⟩)); have GW230 := aM ((by rw [hg]; exact (by first | exact HK.out.1 | exact (show Kept w _ (fun k_ => P1_ k_) from by repeat (first | (with_reducible first | exact HK.out | apply Kept.alloc | apply Kept.drewN | apply Kept.drew | refine Kept.setCell ?_ (.inr GW229.out) _) | exact HK.out)).1) : w.heap.size ≤ gb230)); replace HK := aM (Kept.below (S := (fun k_ => P1_ k_)) (by repeat (first | (with_reducible first | exact HK.out | apply Kept.alloc | apply Kept.drewN | apply Kept.drew | refine Kept.setCell ?_ (.inr GW229.out) _) | exact HK.out)) hb); have GE230 := yZ hg (yG1 HB GE229.out); replace HB := aM (bP (yG1 HB GE229.out) hb); have NB229_230 := yN hg (yK BK229); have NB230_229 := yM hg (yK BK229); replace BK229 := aM (kB (yK BK229) hb); clear hb hbox hg))
  go_loopg [22] k (fun kq v22 w' => ∃ (x1_1 : List (S52)) (x22_1 : Int) (x231000_1 : List Bool), v22 = .int .i64 x22_1 ∧ Aside0 (schema_lay_f73.l0 kq x1_1 l3 l2 (l2.length : Int) x22_1 a0_0 a0_1 a0_2 a0_3 l0_4 x231000_1 = some (r1, r2)) ∧ Aside0 (kq ≤ k) ∧ Aside0 (Kd.R k52 52 w' w0.heap.size (fun k_ => (P1_ k_ ∨ w.heap.size ≤ k_)) u9000_ x1_1) ∧ Aside0 (w'.heap[gb229]? = some (.cells #[.int .i64 a0_0, .string a0_1, .int .i64 a0_2, .int .i64 a0_3, (.slice A0_4 l0_4.length c0_4)] 24 (0, 0))) ∧ Aside0 (IsS172 w0 w' gb230 x231000_1) ∧ Aside0 (Kept w w' (fun k_ => P1_ k_)) ∧ Aside0 (Below w0.heap.size w0 w'))
  case atStart => exact ⟨(l1), (0), ((List.replicate 10 false)), yS, H', ⟨Nat.le_refl _⟩, ⟨yR HO1.out⟩, ⟨yK BK229⟩, ⟨by repeat (first | (with_reducible first | exact HI230.out | apply IsS172.alloc | apply IsS172.drewN | apply IsS172.drew | apply IsS172.set_0 | refine IsS172.far ?_ NB230_229.out _) | exact HI230.out)⟩, ⟨by repeat (first | (with_reducible first | exact HK.out | apply Kept.alloc | apply Kept.drewN | apply Kept.drew | refine Kept.setCell ?_ (.inr GW229.out) _) | exact HK.out)⟩, ⟨yG2 HB (IsS172.ge HI230.out) GE229.out⟩⟩
  case round =>
   clear H'
   try clear c2
   try clear p2
   try clear c3
   try clear c5
   try clear c5b0
   try clear c5b1
   try clear c7
   obtain ⟨x1_1, x22_1, x231000_1, rfl, HA, HK1, HO_1, BK229, HI230, HK, HB⟩ := hrel
   cases gk with
   | zero => exact absurd HA.out (by simp [schema_lay_f73.l0])
   | succ k1 =>
    have H := HA.out
    clear HA
    simp only [schema_lay_f73.l0] at H
    by_cases c9 : x22_1 < (l2.length : Int)
    ·
     rw [if_pos c9] at H
     have c9b0 : decide (x22_1 < (l2.length : Int)) = true := decide_eq_true c9
     clear c9
     by_cases c10 : 0 ≤ x22_1
     ·
      rw [if_pos c10] at H
      have c10b0 : decide (0 ≤ x22_1) = true := decide_eq_true c10
      clear c10
      by_cases c11 : x22_1 < (l2.length : Int)
      ·
       rw [if_pos c11] at H
       have c11b0 : decide (x22_1 < (l2.length : Int)) = true := decide_eq_true c11
       clear c11
       replace H := Option.bind_eq_some_iff.mp H
       obtain ⟨⟨t233, t234⟩, A120, H⟩ := H
       replace H : (if t234 = true then (if 0 ≤ t233 then (if t233 < (10 : Int) then (if hpAt x231000_1 t233 = true then (some (([] : List (S52)), 14)) else (if t233 < (l0_4.length : Int) then ((schema_Set_1.f ((rd_T54 l0_4 t233).f0) ((rd_T54 l0_4 t233).f1) ((rd_T54 l0_4 t233).f2.f0) ((rd_T54 l0_4 t233).f2.f1) ((rd_T54 l0_4 t233).f3) ((rd_T54 l0_4 t233).f4.f0) ((rd_T54 l0_4 t233).f4.f1) ((rd_T54 l0_4 t233).f4.f2) l3).bind fun t236 => (if t236 = 0 then ((hparr_put.f x231000_1 t233).bind fun t237 => (if t233 < (x1_1.length : Int) then (schema_lay_f73.l0 k1 (x1_1.set (t233 : Int).toNat (⟨(rd_T96 l2 x22_1).f1.f0, (rd_T96 l2 x22_1).f1.f1, (rd_T96 l2 x22_1).f1.f2⟩ : S52)) l3 l2 (l2.length : Int) (wrap64 (x22_1 + 1)) a0_0 a0_1 a0_2 a0_3 l0_4 t237) else (none))) else (some (([] : List (S52)), t236)))) else (none))) else (none)) else (none)) else (some (([] : List (S52)), 13))) = some (r1, r2) := H
       have A12 := aM A120
       clear A120
       by_cases c13 : t234 = true
       ·
        subst c13
        have H1 : (if 0 ≤ t233 then (if t233 < (10 : Int) then (if hpAt x231000_1 t233 = true then (some (([] : List (S52)), 14)) else (if t233 < (l0_4.length : Int) then ((schema_Set_1.f ((rd_T54 l0_4 t233).f0) ((rd_T54 l0_4 t233).f1) ((rd_T54 l0_4 t233).f2.f0) ((rd_T54 l0_4 t233).f2.f1) ((rd_T54 l0_4 t233).f3) ((rd_T54 l0_4 t233).f4.f0) ((rd_T54 l0_4 t233).f4.f1) ((rd_T54 l0_4 t233).f4.f2) l3).bind fun t236 => (if t236 = 0 then ((hparr_put.f x231000_1 t233).bind fun t237 => (if t233 < (x1_1.length : Int) then (schema_lay_f73.l0 k1 (x1_1.set (t233 : Int).toNat (⟨(rd_T96 l2 x22_1).f1.f0, (rd_T96 l2 x22_1).f1.f1, (rd_T96 l2 x22_1).f1.f2⟩ : S52)) l3 l2 (l2.length : Int) (wrap64 (x22_1 + 1)) a0_0 a0_1 a0_2 a0_3 l0_4 t237) else (none))) else (some (([] : List (S52)), t236)))) else (none))) else (none)) else (none)) = some (r1, r2) := by rw [if_pos rfl] at H; exact H
        clear H
        have H := H1
        clear H1
        by_cases c14 : 0 ≤ t233
        ·
         rw [if_pos c14] at H
         have c14b0 : decide (0 ≤ t233) = true := decide_eq_true c14
         clear c14
         by_cases c15 : t233 < (10 : Int)
         ·
          rw [if_pos c15] at H
          have c15b0 : decide (t233 < (10 : Int)) = true := decide_eq_true c15
          clear c15
          by_cases c16 : hpAt x231000_1 t233 = true
          ·
           rw [if_pos c16] at H
           have c16b0 : hpAt x231000_1 t233 = true := c16
           clear c16
           simp only [Option.some.injEq, Prod.mk.injEq] at H
           obtain ⟨rfl, rfl⟩ := H
           have p231 : 0 ≤ (x22_1 : Int) := oD yA
           have q231 : x22_1 < (l2.length : Int) := oD yA
           obtain ⟨ad231, e231, hx231_0, hx231_1, hx231_2, hx231_3⟩ := at_T96 (Kd.C_kept_now HR2.out HK.out) x22_1 p231 q231
           cases e231
           replace p231 := eq_true p231
           replace q231 := eq_true q231
           go_wp2_with (first | ((with_reducible refine gate_dst (N := 12) rfl ?_); refine yX (N := 12) (cs := #[.string (⟨#[]⟩ : ByteArray), .int .i64 0, .int .i64 0, .string (⟨#[]⟩ : ByteArray)]) (t := 96) ?_; intro gb232 hg w17 hbox hb; replace HO_1 := aM (Kd.R_below (yR HO_1.out) hb); have BK232 := aM (hbox); have GW232 := aM ((by rw [hg]; exact (by first | exact HK.out.1 | exact (show Kept w _ (fun k_ => P1_ k_) from by repeat (first | (with_reducible first | exact HK.out | apply Kept.alloc | apply Kept.drewN | apply Kept.drew | refine Kept.setCell ?_ (.inr GW229.out) _) | exact HK.out)).1) : w.heap.size ≤ gb232)); replace HK := aM (Kept.below (S := (fun k_ => P1_ k_)) (by repeat (first | (with_reducible first | exact HK.out | apply Kept.alloc | apply Kept.drewN | apply Kept.drew | refine Kept.setCell ?_ (.inr GW229.out) _) | exact HK.out)) hb); have GE232 := yZ hg (yG2 HB (IsS172.ge HI230.out) GE229.out); replace HB := aM (bP (yG2 HB (IsS172.ge HI230.out) GE229.out) hb); have NB229_232 := yN hg (yK BK229); have NB232_229 := yM hg (yK BK229); replace BK229 := aM (kB (yK BK229) hb); have NB230_232 := aM ((by rw [hg]; exact Nat.ne_of_lt (IsS172.lt (show IsS172 w0 _ gb230 x231000_1 from by repeat (first | (with_reducible first | exact HI230.out | apply IsS172.alloc | apply IsS172.drewN | apply IsS172.drew | apply IsS172.set_0 | refine IsS172.far ?_ NB230_229.out _) | exact HI230.out))) : gb230 ≠ gb232)); have NB232_230 := aM ((by rw [hg]; exact Nat.ne_of_gt (IsS172.lt (show IsS172 w0 _ gb230 x231000_1 from by repeat (first | (with_reducible first | exact HI230.out | apply IsS172.alloc | apply IsS172.drewN | apply IsS172.drew | apply IsS172.set_0 | refine IsS172.far ?_ NB230_229.out _) | exact HI230.out))) : gb232 ≠ gb230)); replace HI230 := aM (IsS172.below (by repeat (first | (with_reducible first | exact HI230.out | apply IsS172.alloc | apply IsS172.drewN | apply IsS172.drew | apply IsS172.set_0 | refine IsS172.far ?_ NB230_229.out _) | exact HI230.out)) hb); clear hb hbox hg; have hnb18 := NB232_229.out; have hnc18 := NB229_232.out; have hnb19 := NB232_230.out; have hnc19 := NB230_232.out; obtain ⟨hcz20_0, hcz20_1, hcz20_2, hcz20_3, hfz20_0, hfz20_1, hfz20_2, hfz20_3⟩ := cells4 BK232.out; have hnb21 := NB229_230.out; have hnc21 := NB230_229.out; obtain ⟨hcz22_0, hcz22_1, hcz22_2, hcz22_3, hcz22_4, hfz22_0, hfz22_1, hfz22_2, hfz22_3, hfz22_4⟩ := cells5 BK229.out) | ((with_reducible refine gate_callee (f := 46) rfl ?_); refine yC 30 Tryd.func46 #[.agg #[.int .i64 a0_0, .string a0_1, .int .i64 a0_2, .int .i64 a0_3, .slice A0_4 l0_4.length c0_4], .string ((rd_T96 l2 x22_1).f0)] rfl ?_; (with_reducible refine (schema_Col.calls k1 a0_0 a0_1 a0_2 a0_3 _ _ l0_4 ((rd_T96 l2 x22_1).f0) t233 true _ ?side1 ?side2 A12.out).mono ?_); (case side1 => exact Kd.C_kept_now HR0_4.out (by repeat (first | (with_reducible first | exact HK.out | apply Kept.alloc | apply Kept.drewN | apply Kept.drew | refine Kept.setCell ?_ (.inr GW229.out) _ | refine Kept.setCell ?_ (.inr GW232.out) _) | exact HK.out))); (case side2 => exact HC0_4.out); rintro e w23 ⟨rfl, hb⟩; refine ⟨_, rfl, ?_⟩; replace HO_1 := aM (Kd.R_below (by (with_reducible repeat (first | apply Kd.R_alloc | apply Kd.R_drewN | apply Kd.R_drew)); exact (Kd.R_mono (Kd.R_far (p := ⟨gb232, 3, none⟩) (Kd.R_far (p := ⟨gb232, 2, none⟩) (Kd.R_far (p := ⟨gb232, 1, none⟩) (Kd.R_far (p := ⟨gb232, 0, none⟩) (Kd.R_types HO_1.out BK232.out (by decide)) (fun _ hk => hk.2) (.string ((rd_T96 l2 x22_1).f0))) (fun _ hk => hk.2) (.int .i64 ((rd_T96 l2 x22_1).f1.f0))) (fun _ hk => hk.2) (.int .i64 ((rd_T96 l2 x22_1).f1.f1))) (fun _ hk => hk.2) (.string ((rd_T96 l2 x22_1).f1.f2))) (fun _ h_ => h_.1))) hb); replace BK229 := aM (kB (yF1 BK229 NB229_232.out) hb); replace BK232 := aM (kB (puts4 BK232.out) hb); replace HK := aM (Kept.below (S := (fun k_ => P1_ k_)) (by repeat (first | (with_reducible first | exact HK.out | apply Kept.alloc | apply Kept.drewN | apply Kept.drew | refine Kept.setCell ?_ (.inr GW229.out) _ | refine Kept.setCell ?_ (.inr GW232.out) _) | exact HK.out)) hb); replace HB := aM (bP (yG3 HB (IsS172.ge HI230.out) GE229.out GE232.out) hb); replace HI230 := aM (IsS172.below (show IsS172 w0 ((((w17.setCell ⟨gb232, 0, none⟩ (.string ((rd_T96 l2 x22_1).f0))).setCell ⟨gb232, 1, none⟩ (.int .i64 ((rd_T96 l2 x22_1).f1.f0))).setCell ⟨gb232, 2, none⟩ (.int .i64 ((rd_T96 l2 x22_1).f1.f1))).setCell ⟨gb232, 3, none⟩ (.string ((rd_T96 l2 x22_1).f1.f2))) gb230 x231000_1 from by repeat (first | (with_reducible first | exact HI230.out | apply IsS172.alloc | apply IsS172.drewN | apply IsS172.drew | apply IsS172.set_0 | refine IsS172.far ?_ NB230_229.out _ | refine IsS172.far ?_ NB230_232.out _) | exact HI230.out)) hb); (try clear hb); have hczz24_0 := hparr_cell HI230.out (i := t233) (oD yA) (oD yA); have pz24 : (0 ≤ t233) = True := eq_true (oD yA); have qz24 : (t233 < 10) = True := eq_true (oD yA)))
           go_ret2
           exact ⟨_, yE, by first | exact Kd.R_nil _ _ _ _ _ | exact Kd.N_nil _ _ _ _ _ | exact Kd.V_nil _ _ _ _ _ | exact Kd.Q_nil _ _ _ _ _ | exact Kd.S_nil _ _ _ _ _, yG3 HB (IsS172.ge HI230.out) GE229.out GE232.out, by repeat (first | (with_reducible first | exact HK.out | apply Kept.alloc | apply Kept.drewN | apply Kept.drew | refine Kept.setCell ?_ (.inr GW229.out) _ | refine Kept.setCell ?_ (.inr GW232.out) _) | exact HK.out)⟩
          ·
           rw [if_neg c16] at H
           have c16b0 : hpAt x231000_1 t233 = false := by simpa using c16
           clear c16
           by_cases c25 : t233 < (l0_4.length : Int)
           ·
            rw [if_pos c25] at H
            have c25b0 : decide (t233 < (l0_4.length : Int)) = true := decide_eq_true c25
            clear c25
            replace H := Option.bind_eq_some_iff.mp H
            obtain ⟨t236, A260, H⟩ := H
            replace H : (if t236 = 0 then ((hparr_put.f x231000_1 t233).bind fun t237 => (if t233 < (x1_1.length : Int) then (schema_lay_f73.l0 k1 (x1_1.set (t233 : Int).toNat (⟨(rd_T96 l2 x22_1).f1.f0, (rd_T96 l2 x22_1).f1.f1, (rd_T96 l2 x22_1).f1.f2⟩ : S52)) l3 l2 (l2.length : Int) (wrap64 (x22_1 + 1)) a0_0 a0_1 a0_2 a0_3 l0_4 t237) else (none))) else (some (([] : List (S52)), t236))) = some (r1, r2) := H
            have A26 := aM A260
            clear A260
            by_cases c27 : t236 = 0
            ·
             rw [if_pos c27] at H
             have c27b0 : (t236 == 0) = true := beq_iff_eq.mpr c27
             have c27b1 : (t236 != 0) = false := bne_eq_false_iff_eq.mpr c27
             clear c27
             replace H := Option.bind_eq_some_iff.mp H
             obtain ⟨t237, A280, H⟩ := H
             replace H : (if t233 < (x1_1.length : Int) then (schema_lay_f73.l0 k1 (x1_1.set (t233 : Int).toNat (⟨(rd_T96 l2 x22_1).f1.f0, (rd_T96 l2 x22_1).f1.f1, (rd_T96 l2 x22_1).f1.f2⟩ : S52)) l3 l2 (l2.length : Int) (wrap64 (x22_1 + 1)) a0_0 a0_1 a0_2 a0_3 l0_4 t237) else (none)) = some (r1, r2) := H
             have A28 := aM A280
             clear A280
             by_cases c29 : t233 < (x1_1.length : Int)
             ·
              rw [if_pos c29] at H
              have c29b0 : decide (t233 < (x1_1.length : Int)) = true := decide_eq_true c29
              clear c29
              obtain ⟨y238, hy238⟩ : ∃ y_ : List (S52), y_ = (x1_1.set (t233 : Int).toNat (⟨(rd_T96 l2 x22_1).f1.f0, (rd_T96 l2 x22_1).f1.f1, (rd_T96 l2 x22_1).f1.f2⟩ : S52)) := ⟨_, rfl⟩
              replace H : (schema_lay_f73.l0 k1 y238 l3 l2 (l2.length : Int) (wrap64 (x22_1 + 1)) a0_0 a0_1 a0_2 a0_3 l0_4 t237) = some (r1, r2) := by first | (rw [hy238]; with_reducible exact H) | (have H2_ := (Option.bind_some _ _).symm.trans H; rw [hy238]; with_reducible exact H2_) | (have H2_ := (Option.bind_some _ _).symm.trans H; with_reducible exact H2_) | with_reducible exact H | (rw [hy238]; exact H) | exact H
              have Ny238 := aM hy238
              clear hy238
              have H' := aM H
              clear H
              have p231 : 0 ≤ (x22_1 : Int) := oD yA
              have q231 : x22_1 < (l2.length : Int) := oD yA
              obtain ⟨ad231, e231, hx231_0, hx231_1, hx231_2, hx231_3⟩ := at_T96 (Kd.C_kept_now HR2.out HK.out) x22_1 p231 q231
              cases e231
              replace p231 := eq_true p231
              replace q231 := eq_true q231
              try go_wp2_with (first | ((with_reducible refine gate_dst (N := 12) rfl ?_); refine yX (N := 12) (cs := #[.string (⟨#[]⟩ : ByteArray), .int .i64 0, .int .i64 0, .string (⟨#[]⟩ : ByteArray)]) (t := 96) ?_; intro gb232 hg w31 hbox hb; replace HO_1 := aM (Kd.R_below (yR HO_1.out) hb); have BK232 := aM (hbox); have GW232 := aM ((by rw [hg]; exact (by first | exact HK.out.1 | exact (show Kept w _ (fun k_ => P1_ k_) from by repeat (first | (with_reducible first | exact HK.out | apply Kept.alloc | apply Kept.drewN | apply Kept.drew | refine Kept.setCell ?_ (.inr GW229.out) _) | exact HK.out)).1) : w.heap.size ≤ gb232)); replace HK := aM (Kept.below (S := (fun k_ => P1_ k_)) (by repeat (first | (with_reducible first | exact HK.out | apply Kept.alloc | apply Kept.drewN | apply Kept.drew | refine Kept.setCell ?_ (.inr GW229.out) _) | exact HK.out)) hb); have GE232 := yZ hg (yG2 HB (IsS172.ge HI230.out) GE229.out); replace HB := aM (bP (yG2 HB (IsS172.ge HI230.out) GE229.out) hb); have NB229_232 := yN hg (yK BK229); have NB232_229 := yM hg (yK BK229); replace BK229 := aM (kB (yK BK229) hb); have NB230_232 := aM ((by rw [hg]; exact Nat.ne_of_lt (IsS172.lt (show IsS172 w0 _ gb230 x231000_1 from by repeat (first | (with_reducible first | exact HI230.out | apply IsS172.alloc | apply IsS172.drewN | apply IsS172.drew | apply IsS172.set_0 | refine IsS172.far ?_ NB230_229.out _) | exact HI230.out))) : gb230 ≠ gb232)); have NB232_230 := aM ((by rw [hg]; exact Nat.ne_of_gt (IsS172.lt (show IsS172 w0 _ gb230 x231000_1 from by repeat (first | (with_reducible first | exact HI230.out | apply IsS172.alloc | apply IsS172.drewN | apply IsS172.drew | apply IsS172.set_0 | refine IsS172.far ?_ NB230_229.out _) | exact HI230.out))) : gb232 ≠ gb230)); replace HI230 := aM (IsS172.below (by repeat (first | (with_reducible first | exact HI230.out | apply IsS172.alloc | apply IsS172.drewN | apply IsS172.drew | apply IsS172.set_0 | refine IsS172.far ?_ NB230_229.out _) | exact HI230.out)) hb); clear hb hbox hg; have hnb32 := NB232_229.out; have hnc32 := NB229_232.out; have hnb33 := NB232_230.out; have hnc33 := NB230_232.out; obtain ⟨hcz34_0, hcz34_1, hcz34_2, hcz34_3, hfz34_0, hfz34_1, hfz34_2, hfz34_3⟩ := cells4 BK232.out; have hnb35 := NB229_230.out; have hnc35 := NB230_229.out; obtain ⟨hcz36_0, hcz36_1, hcz36_2, hcz36_3, hcz36_4, hfz36_0, hfz36_1, hfz36_2, hfz36_3, hfz36_4⟩ := cells5 BK229.out) | ((with_reducible refine gate_callee (f := 46) rfl ?_); refine yC 30 Tryd.func46 #[.agg #[.int .i64 a0_0, .string a0_1, .int .i64 a0_2, .int .i64 a0_3, .slice A0_4 l0_4.length c0_4], .string ((rd_T96 l2 x22_1).f0)] rfl ?_; (with_reducible refine (schema_Col.calls k1 a0_0 a0_1 a0_2 a0_3 _ _ l0_4 ((rd_T96 l2 x22_1).f0) t233 true _ ?side1 ?side2 A12.out).mono ?_); (case side1 => exact Kd.C_kept_now HR0_4.out (by repeat (first | (with_reducible first | exact HK.out | apply Kept.alloc | apply Kept.drewN | apply Kept.drew | refine Kept.setCell ?_ (.inr GW229.out) _ | refine Kept.setCell ?_ (.inr GW232.out) _) | exact HK.out))); (case side2 => exact HC0_4.out); rintro e w37 ⟨rfl, hb⟩; refine ⟨_, rfl, ?_⟩; replace HO_1 := aM (Kd.R_below (by (with_reducible repeat (first | apply Kd.R_alloc | apply Kd.R_drewN | apply Kd.R_drew)); exact (Kd.R_mono (Kd.R_far (p := ⟨gb232, 3, none⟩) (Kd.R_far (p := ⟨gb232, 2, none⟩) (Kd.R_far (p := ⟨gb232, 1, none⟩) (Kd.R_far (p := ⟨gb232, 0, none⟩) (Kd.R_types HO_1.out BK232.out (by decide)) (fun _ hk => hk.2) (.string ((rd_T96 l2 x22_1).f0))) (fun _ hk => hk.2) (.int .i64 ((rd_T96 l2 x22_1).f1.f0))) (fun _ hk => hk.2) (.int .i64 ((rd_T96 l2 x22_1).f1.f1))) (fun _ hk => hk.2) (.string ((rd_T96 l2 x22_1).f1.f2))) (fun _ h_ => h_.1))) hb); replace BK229 := aM (kB (yF1 BK229 NB229_232.out) hb); replace BK232 := aM (kB (puts4 BK232.out) hb); replace HK := aM (Kept.below (S := (fun k_ => P1_ k_)) (by repeat (first | (with_reducible first | exact HK.out | apply Kept.alloc | apply Kept.drewN | apply Kept.drew | refine Kept.setCell ?_ (.inr GW229.out) _ | refine Kept.setCell ?_ (.inr GW232.out) _) | exact HK.out)) hb); replace HB := aM (bP (yG3 HB (IsS172.ge HI230.out) GE229.out GE232.out) hb); replace HI230 := aM (IsS172.below (show IsS172 w0 ((((w31.setCell ⟨gb232, 0, none⟩ (.string ((rd_T96 l2 x22_1).f0))).setCell ⟨gb232, 1, none⟩ (.int .i64 ((rd_T96 l2 x22_1).f1.f0))).setCell ⟨gb232, 2, none⟩ (.int .i64 ((rd_T96 l2 x22_1).f1.f1))).setCell ⟨gb232, 3, none⟩ (.string ((rd_T96 l2 x22_1).f1.f2))) gb230 x231000_1 from by repeat (first | (with_reducible first | exact HI230.out | apply IsS172.alloc | apply IsS172.drewN | apply IsS172.drew | apply IsS172.set_0 | refine IsS172.far ?_ NB230_229.out _ | refine IsS172.far ?_ NB230_232.out _) | exact HI230.out)) hb); (try clear hb); have hczz38_0 := hparr_cell HI230.out (i := t233) (oD yA) (oD yA); have pz38 : (0 ≤ t233) = True := eq_true (oD yA); have qz38 : (t233 < 10) = True := eq_true (oD yA); obtain ⟨hcz39_0, hcz39_1, hcz39_2, hcz39_3, hcz39_4, hfz39_0, hfz39_1, hfz39_2, hfz39_3, hfz39_4⟩ := cells5 BK229.out; have p235 : 0 ≤ (t233 : Int) := oD yA; have q235 : t233 < (l0_4.length : Int) := oD yA; obtain ⟨ad235, e235, hx235_0, hx235_1, hx235_2, hx235_3, hx235_4, hx235_5, hx235_6, hx235_7⟩ := at_T54 (Kd.C_kept_now HR0_4.out HK.out) t233 p235 q235; cases e235; replace p235 := eq_true p235; replace q235 := eq_true q235) | (go_at_call 73; (with_reducible refine (schema_Set_1.calls ((rd_T54 l0_4 t233).f0) ((rd_T54 l0_4 t233).f1) ((rd_T54 l0_4 t233).f2.f0) ((rd_T54 l0_4 t233).f2.f1) ((rd_T54 l0_4 t233).f3) ((rd_T54 l0_4 t233).f4.f0) ((rd_T54 l0_4 t233).f4.f1) ((rd_T54 l0_4 t233).f4.f2) A3 c3 l3 t236 _ ?side1 ?side2 A26.out).mono ?_); (case side1 => exact Kd.C_kept_now HR3.out (by repeat (first | (with_reducible first | exact HK.out | apply Kept.alloc | apply Kept.drewN | apply Kept.drew | refine Kept.setCell ?_ (.inr GW229.out) _ | refine Kept.setCell ?_ (.inr GW232.out) _) | exact HK.out))); (case side2 => exact HC3.out); rintro e w40 ⟨rfl, hb⟩; replace HO_1 := aM (Kd.R_below (yR HO_1.out) hb); replace BK229 := aM (kB (yK BK229) hb); replace BK232 := aM (kB (yK BK232) hb); replace HK := aM (Kept.below (S := (fun k_ => P1_ k_)) (by repeat (first | (with_reducible first | exact HK.out | apply Kept.alloc | apply Kept.drewN | apply Kept.drew | refine Kept.setCell ?_ (.inr GW229.out) _ | refine Kept.setCell ?_ (.inr GW232.out) _) | exact HK.out)) hb); replace HB := aM (bP (yG3 HB (IsS172.ge HI230.out) GE229.out GE232.out) hb); replace HI230 := aM (IsS172.below (by repeat (first | (with_reducible first | exact HI230.out | apply IsS172.alloc | apply IsS172.drewN | apply IsS172.drew | apply IsS172.set_0 | refine IsS172.far ?_ NB230_229.out _ | refine IsS172.far ?_ NB230_232.out _) | exact HI230.out)) hb); (try clear hb)))
              have n0_ := aM (Kd.R_drew HO_1.out)
              have n1_ := aM (kD BK229.out)
              have n2_ := aM (kD BK232.out)
              have n3_ := aM (IsS172.drew HI230.out)
              have n4_ := aM (Kept.drew HK.out)
              have n5_ := aM (b1 HB.out)
              clear HO_1
              clear BK229
              clear BK232
              clear HI230
              clear HK
              clear HB
              have HO_1 := n0_
              have BK229 := n1_
              have BK232 := n2_
              have HI230 := n3_
              have HK := n4_
              have HB := n5_
              clear n0_ n1_ n2_ n3_ n4_ n5_
              refine start_ (n := 9) (S := fun w' => w'.cell? ⟨gb232, 0, none⟩ = some (.string ((rd_T96 l2 x22_1).f0)) ∧ w'.cell? ⟨gb232, 1, none⟩ = some (.int .i64 ((rd_T96 l2 x22_1).f1.f0)) ∧ w'.cell? ⟨gb232, 2, none⟩ = some (.int .i64 ((rd_T96 l2 x22_1).f1.f1)) ∧ w'.cell? ⟨gb232, 3, none⟩ = some (.string ((rd_T96 l2 x22_1).f1.f2))) (ds := [8]) (tB 0 9) (by kernel_rfl) rfl rfl (cellc4 BK232.out) (fun hHeld => ?_); refine with_tabW schema_lay_f73.tab15 schema_lay_f73.bits15 (fun HT_ HW_ => ?_)
              generalize w40.drew = w41 at HO_1 BK229 BK232 HI230 HK HB hHeld ⊢
              refine yP HT_ 0 48 (tB 1 9) rfl rfl ?_
              refine yP HT_ 1 49 (tB 3 9) rfl rfl ?_
              refine yP HT_ 2 50 (tB 7 9) rfl rfl ?_
              refine yP HT_ 3 51 (tB 15 9) rfl rfl ?_
              refine yP HT_ 5 53 (tB 47 9) rfl rfl ?_
              refine yT HT_ HW_ 4 52 (tB 63 9) rfl rfl hHeld ?_
              refine yI HT_ 6 (tB 127 9) rfl rfl fun K hK => ?_
              refine hparr_goes_put (by rfl) rfl rfl (by first | rfl | (go_simp; rfl)) ?_
              with_reducible refine (hparr_put.calls gb230 x231000_1 t233 t237 w0 _ ?side1 ?side2 A28.out).mono ?_
              (case side1 => repeat (first | (with_reducible first | exact HI230.out | apply IsS172.alloc | apply IsS172.drewN | apply IsS172.drew | apply IsS172.set_0 | refine IsS172.far ?_ NB230_229.out _ | refine IsS172.far ?_ NB230_232.out _) | exact HI230.out))
              (case side2 => exact yG3 HB (IsS172.ge HI230.out) GE229.out GE232.out)
              rintro e w42 ⟨rfl, hi, hb, hk⟩
              refine ⟨_, rfl, ?_⟩
              have n0_ := aM (Kd.R_mono (Kd.R_keep (IsS172.apart (show IsS172 w0 _ gb230 x231000_1 from by repeat (first | (with_reducible first | exact HI230.out | apply IsS172.alloc | apply IsS172.drewN | apply IsS172.drew | apply IsS172.set_0 | refine IsS172.far ?_ NB230_229.out _ | refine IsS172.far ?_ NB230_232.out _) | exact HI230.out)) (yR HO_1.out) (by decide)) hk (fun _ h => h.2)) (fun _ h => h.1))
              have n1_ := aM (KeepBut.blk hk (g' := gb229) (o := .cells #[.int .i64 a0_0, .string a0_1, .int .i64 a0_2, .int .i64 a0_3, .slice (some ad235) l0_4.length c0_4] 24 (0, 0)) (yK BK229) NB229_230.out (by simp))
              have n2_ := aM (KeepBut.blk hk (g' := gb232) (o := .cells #[.string ((rd_T96 l2 x22_1).f0), .int .i64 ((rd_T96 l2 x22_1).f1.f0), .int .i64 ((rd_T96 l2 x22_1).f1.f1), .string ((rd_T96 l2 x22_1).f1.f2)] 96 (0, 0)) (yK BK232) NB232_230.out (by simp))
              have n3_ := aM (hp_kept_new (S := (fun k_ => P1_ k_)) (by repeat (first | (with_reducible first | exact HK.out | apply Kept.alloc | apply Kept.drewN | apply Kept.drew | refine Kept.setCell ?_ (.inr GW229.out) _ | refine Kept.setCell ?_ (.inr GW232.out) _) | exact HK.out)) hk GW230.out)
              have n4_ := aM (hb)
              have n5_ := aM (hi)
              clear HO_1
              clear BK229
              clear BK232
              clear HK
              clear HB
              clear HI230
              have HO_1 := n0_
              have BK229 := n1_
              have BK232 := n2_
              have HK := n3_
              have HB := n4_
              have HI230 := n5_
              clear n0_ n1_ n2_ n3_ n4_ n5_
              (try clear hb)
              (try clear hb2)
              (try clear hk)
              (try clear hi)
              have p30 : 0 ≤ (t233 : Int) := oD yA
              have q30 : (t233 : Int) < ((x1_1.length : Int) : Int) := oD yA
              obtain ⟨go30, co30, eo30, gb30, gl30, cl30, HG30⟩ := Kd.R_form HO_1.out (by omega)
              (first | cases eo30 | (injection eo30 with ea_ en_ ec_; (first | subst ea_ | (injection ea_ with ea_; subst ea_)); subst ec_; clear en_))
              have GB30 := aM gb30
              have GG30 := aM HG30
              clear gb30 gl30 HG30
              have HMgo30 := aM (show (P1_ go30 ∨ w.heap.size ≤ go30) from (HO_1.out.1 _ rfl))
              obtain ⟨ce30, hcl30, hM30, hcc30, hfr30⟩ := Kd.R_elem HO_1.out z52 (t233 : Int) p30 q30
              obtain rfl := k52_openM hM30
              have hx30_0 : World.cell? _ ⟨go30, (t233 : Int).toNat * 3, none⟩ = some (.int .i64 ((rd_T52 x1_1 t233).f0)) := hcc30 0 _ rfl
              have hx30_1 : World.cell? _ ⟨go30, (t233 : Int).toNat * 3 + 1, none⟩ = some (.int .i64 ((rd_T52 x1_1 t233).f1)) := hcc30 1 _ rfl
              have hx30_2 : World.cell? _ ⟨go30, (t233 : Int).toNat * 3 + 2, none⟩ = some (.string ((rd_T52 x1_1 t233).f2)) := hcc30 2 _ rfl
              have hf30_0 : World.frozen? _ ⟨go30, (t233 : Int).toNat * 3, none⟩ = false := hfr30 0
              have hf30_1 : World.frozen? _ ⟨go30, (t233 : Int).toNat * 3 + 1, none⟩ = false := hfr30 1
              have hf30_2 : World.frozen? _ ⟨go30, (t233 : Int).toNat * 3 + 2, none⟩ = false := hfr30 2
              clear hcl30 hcc30 hfr30 hM30
              replace p30 := eq_true p30
              replace q30 := eq_true q30
              have HN230_go30 := aM (show gb230 ≠ go30 from by have h_ := IsS172.own_ne HI230.out HO_1.out (by decide); intro e_; exact h_ (by rw [e_]; rfl))
              obtain ⟨ce43, hcl43, hM43, hcc43, hfr43⟩ := Kd.R_elem HO_1.out z52 (t233 : Int) (oD yA) (by have h_ : (t233 : Int) < ((x1_1.length : Int) : Int) := oD yA; first | exact h_ | (have e_ := (Kd.R_reads' HO_1.out).1; omega) | simpa using h_)
              obtain rfl := k52_openM hM43
              have HP43 := (Kd.R_seg HO_1.out (t233 : Int) (oD yA) (by have h_ : (t233 : Int) < ((x1_1.length : Int) : Int) := oD yA; first | exact h_ | (have e_ := (Kd.R_reads' HO_1.out).1; omega) | simpa using h_) (seg := [.int .i64 ((rd_T96 l2 x22_1).f1.f0), .int .i64 ((rd_T96 l2 x22_1).f1.f1), .string ((rd_T96 l2 x22_1).f1.f2)]) (j := 0) hcl43 hcc43 (show 3 ≤ 3 from by decide) (x' := (⟨(rd_T96 l2 x22_1).f1.f0, (rd_T96 l2 x22_1).f1.f1, (rd_T96 l2 x22_1).f1.f2⟩ : S52)) (k52_mkM _ _ _ (⟨(rd_T96 l2 x22_1).f1.f0, (rd_T96 l2 x22_1).f1.f1, (rd_T96 l2 x22_1).f1.f2⟩ : S52) ) (fun _ hk => hk)).1
              rw [← Ny238.out] at HP43
              have HQ43 := aM HP43
              clear hcl43 hcc43 hfr43 hM43 HP43
              refine hK.out _ _ (cellc4 BK232.out) (fun hHeld => ?_)
              clear hK K
              refine yP HT_ 7 54 (tB 255 9) rfl rfl ?_
              refine last_ (i := 8) (N := none) (tB 511 9) rfl rfl (one_of HT_.out (by kernel_rfl)) (by decide) (fun K hK => ?_)
              refine skip_ (w1 := ?_) (by rfl) rfl ?_ ?_
              rotate_left
              ·
               go_simp
               rfl
              refine hK.out _ _ ?_
              clear hK K
              refine done_ (done_of HT_.out (by kernel_rfl)) ?_
              try go_wp2
              go_roundg k1
              case measure => have := HK1.out; omega
              case rel => exact ⟨(y238), (wrap64 (x22_1 + 1)), (t237), yS, H', ⟨by have := HK1.out; omega⟩, ⟨yR HQ43.out⟩, ⟨by (with_reducible repeat (first | refine kN ?_ _ | refine kD ?_ | refine kA ?_ _)); refine kF ?_ (by have h_ := Kd.R_ne HO_1.out BK229.out (by decide); intro e_; exact h_ (by rw [e_]; rfl)) _; (with_reducible repeat (first | refine kN ?_ _ | refine kD ?_ | refine kA ?_ _)); refine kF ?_ (by have h_ := Kd.R_ne HO_1.out BK229.out (by decide); intro e_; exact h_ (by rw [e_]; rfl)) _; (with_reducible repeat (first | refine kN ?_ _ | refine kD ?_ | refine kA ?_ _)); refine kF ?_ (by have h_ := Kd.R_ne HO_1.out BK229.out (by decide); intro e_; exact h_ (by rw [e_]; rfl)) _; (with_reducible repeat (first | refine kN ?_ _ | refine kD ?_ | refine kA ?_ _)); exact BK229.out⟩, ⟨by repeat (first | (with_reducible first | exact HI230.out | apply IsS172.alloc | apply IsS172.drewN | apply IsS172.drew | apply IsS172.set_0 | refine IsS172.far ?_ HN230_go30.out _ | refine IsS172.far ?_ HN230_go30.out _ | refine IsS172.far ?_ HN230_go30.out _ | refine IsS172.far ?_ NB230_229.out _ | refine IsS172.far ?_ NB230_232.out _) | exact HI230.out)⟩, ⟨by repeat (first | (with_reducible first | exact HK.out | apply Kept.alloc | apply Kept.drewN | apply Kept.drew | refine Kept.setCell ?_ HMgo30.out _ | refine Kept.setCell ?_ HMgo30.out _ | refine Kept.setCell ?_ HMgo30.out _ | refine Kept.setCell ?_ (.inr GW229.out) _ | refine Kept.setCell ?_ (.inr GW232.out) _) | exact HK.out)⟩, ⟨by repeat (first | (with_reducible first | exact HB.out | apply bA | apply bN | apply b1 | refine bS ?_ GB30.out | refine bS ?_ GB30.out | refine bS ?_ GB30.out | refine bS ?_ (IsS172.ge HI230.out) | refine bS ?_ GE229.out | refine bS ?_ GE232.out) | exact HB.out)⟩⟩
             ·
              rw [if_neg c29] at H
              exact absurd H (by simp)
            ·
             rw [if_neg c27] at H
             have c27b0 : (t236 == 0) = false := beq_eq_false_iff_ne.mpr c27
             have c27b1 : (t236 != 0) = true := bne_iff_ne.mpr c27
             simp only [Option.some.injEq, Prod.mk.injEq] at H
             obtain ⟨rfl, rfl⟩ := H
             have p231 : 0 ≤ (x22_1 : Int) := oD yA
             have q231 : x22_1 < (l2.length : Int) := oD yA
             obtain ⟨ad231, e231, hx231_0, hx231_1, hx231_2, hx231_3⟩ := at_T96 (Kd.C_kept_now HR2.out HK.out) x22_1 p231 q231
             cases e231
             replace p231 := eq_true p231
             replace q231 := eq_true q231
             go_wp2_with (first | ((with_reducible refine gate_dst (N := 12) rfl ?_); refine yX (N := 12) (cs := #[.string (⟨#[]⟩ : ByteArray), .int .i64 0, .int .i64 0, .string (⟨#[]⟩ : ByteArray)]) (t := 96) ?_; intro gb232 hg w44 hbox hb; replace HO_1 := aM (Kd.R_below (yR HO_1.out) hb); have BK232 := aM (hbox); have GW232 := aM ((by rw [hg]; exact (by first | exact HK.out.1 | exact (show Kept w _ (fun k_ => P1_ k_) from by repeat (first | (with_reducible first | exact HK.out | apply Kept.alloc | apply Kept.drewN | apply Kept.drew | refine Kept.setCell ?_ (.inr GW229.out) _) | exact HK.out)).1) : w.heap.size ≤ gb232)); replace HK := aM (Kept.below (S := (fun k_ => P1_ k_)) (by repeat (first | (with_reducible first | exact HK.out | apply Kept.alloc | apply Kept.drewN | apply Kept.drew | refine Kept.setCell ?_ (.inr GW229.out) _) | exact HK.out)) hb); have GE232 := yZ hg (yG2 HB (IsS172.ge HI230.out) GE229.out); replace HB := aM (bP (yG2 HB (IsS172.ge HI230.out) GE229.out) hb); have NB229_232 := yN hg (yK BK229); have NB232_229 := yM hg (yK BK229); replace BK229 := aM (kB (yK BK229) hb); have NB230_232 := aM ((by rw [hg]; exact Nat.ne_of_lt (IsS172.lt (show IsS172 w0 _ gb230 x231000_1 from by repeat (first | (with_reducible first | exact HI230.out | apply IsS172.alloc | apply IsS172.drewN | apply IsS172.drew | apply IsS172.set_0 | refine IsS172.far ?_ NB230_229.out _) | exact HI230.out))) : gb230 ≠ gb232)); have NB232_230 := aM ((by rw [hg]; exact Nat.ne_of_gt (IsS172.lt (show IsS172 w0 _ gb230 x231000_1 from by repeat (first | (with_reducible first | exact HI230.out | apply IsS172.alloc | apply IsS172.drewN | apply IsS172.drew | apply IsS172.set_0 | refine IsS172.far ?_ NB230_229.out _) | exact HI230.out))) : gb232 ≠ gb230)); replace HI230 := aM (IsS172.below (by repeat (first | (with_reducible first | exact HI230.out | apply IsS172.alloc | apply IsS172.drewN | apply IsS172.drew | apply IsS172.set_0 | refine IsS172.far ?_ NB230_229.out _) | exact HI230.out)) hb); clear hb hbox hg; have hnb45 := NB232_229.out; have hnc45 := NB229_232.out; have hnb46 := NB232_230.out; have hnc46 := NB230_232.out; obtain ⟨hcz47_0, hcz47_1, hcz47_2, hcz47_3, hfz47_0, hfz47_1, hfz47_2, hfz47_3⟩ := cells4 BK232.out; have hnb48 := NB229_230.out; have hnc48 := NB230_229.out; obtain ⟨hcz49_0, hcz49_1, hcz49_2, hcz49_3, hcz49_4, hfz49_0, hfz49_1, hfz49_2, hfz49_3, hfz49_4⟩ := cells5 BK229.out) | ((with_reducible refine gate_callee (f := 46) rfl ?_); refine yC 30 Tryd.func46 #[.agg #[.int .i64 a0_0, .string a0_1, .int .i64 a0_2, .int .i64 a0_3, .slice A0_4 l0_4.length c0_4], .string ((rd_T96 l2 x22_1).f0)] rfl ?_; (with_reducible refine (schema_Col.calls k1 a0_0 a0_1 a0_2 a0_3 _ _ l0_4 ((rd_T96 l2 x22_1).f0) t233 true _ ?side1 ?side2 A12.out).mono ?_); (case side1 => exact Kd.C_kept_now HR0_4.out (by repeat (first | (with_reducible first | exact HK.out | apply Kept.alloc | apply Kept.drewN | apply Kept.drew | refine Kept.setCell ?_ (.inr GW229.out) _ | refine Kept.setCell ?_ (.inr GW232.out) _) | exact HK.out))); (case side2 => exact HC0_4.out); rintro e w50 ⟨rfl, hb⟩; refine ⟨_, rfl, ?_⟩; replace HO_1 := aM (Kd.R_below (by (with_reducible repeat (first | apply Kd.R_alloc | apply Kd.R_drewN | apply Kd.R_drew)); exact (Kd.R_mono (Kd.R_far (p := ⟨gb232, 3, none⟩) (Kd.R_far (p := ⟨gb232, 2, none⟩) (Kd.R_far (p := ⟨gb232, 1, none⟩) (Kd.R_far (p := ⟨gb232, 0, none⟩) (Kd.R_types HO_1.out BK232.out (by decide)) (fun _ hk => hk.2) (.string ((rd_T96 l2 x22_1).f0))) (fun _ hk => hk.2) (.int .i64 ((rd_T96 l2 x22_1).f1.f0))) (fun _ hk => hk.2) (.int .i64 ((rd_T96 l2 x22_1).f1.f1))) (fun _ hk => hk.2) (.string ((rd_T96 l2 x22_1).f1.f2))) (fun _ h_ => h_.1))) hb); replace BK229 := aM (kB (yF1 BK229 NB229_232.out) hb); replace BK232 := aM (kB (puts4 BK232.out) hb); replace HK := aM (Kept.below (S := (fun k_ => P1_ k_)) (by repeat (first | (with_reducible first | exact HK.out | apply Kept.alloc | apply Kept.drewN | apply Kept.drew | refine Kept.setCell ?_ (.inr GW229.out) _ | refine Kept.setCell ?_ (.inr GW232.out) _) | exact HK.out)) hb); replace HB := aM (bP (yG3 HB (IsS172.ge HI230.out) GE229.out GE232.out) hb); replace HI230 := aM (IsS172.below (show IsS172 w0 ((((w44.setCell ⟨gb232, 0, none⟩ (.string ((rd_T96 l2 x22_1).f0))).setCell ⟨gb232, 1, none⟩ (.int .i64 ((rd_T96 l2 x22_1).f1.f0))).setCell ⟨gb232, 2, none⟩ (.int .i64 ((rd_T96 l2 x22_1).f1.f1))).setCell ⟨gb232, 3, none⟩ (.string ((rd_T96 l2 x22_1).f1.f2))) gb230 x231000_1 from by repeat (first | (with_reducible first | exact HI230.out | apply IsS172.alloc | apply IsS172.drewN | apply IsS172.drew | apply IsS172.set_0 | refine IsS172.far ?_ NB230_229.out _ | refine IsS172.far ?_ NB230_232.out _) | exact HI230.out)) hb); (try clear hb); have hczz51_0 := hparr_cell HI230.out (i := t233) (oD yA) (oD yA); have pz51 : (0 ≤ t233) = True := eq_true (oD yA); have qz51 : (t233 < 10) = True := eq_true (oD yA); obtain ⟨hcz52_0, hcz52_1, hcz52_2, hcz52_3, hcz52_4, hfz52_0, hfz52_1, hfz52_2, hfz52_3, hfz52_4⟩ := cells5 BK229.out; have p235 : 0 ≤ (t233 : Int) := oD yA; have q235 : t233 < (l0_4.length : Int) := oD yA; obtain ⟨ad235, e235, hx235_0, hx235_1, hx235_2, hx235_3, hx235_4, hx235_5, hx235_6, hx235_7⟩ := at_T54 (Kd.C_kept_now HR0_4.out HK.out) t233 p235 q235; cases e235; replace p235 := eq_true p235; replace q235 := eq_true q235) | (go_at_call 73; (with_reducible refine (schema_Set_1.calls ((rd_T54 l0_4 t233).f0) ((rd_T54 l0_4 t233).f1) ((rd_T54 l0_4 t233).f2.f0) ((rd_T54 l0_4 t233).f2.f1) ((rd_T54 l0_4 t233).f3) ((rd_T54 l0_4 t233).f4.f0) ((rd_T54 l0_4 t233).f4.f1) ((rd_T54 l0_4 t233).f4.f2) A3 c3 l3 t236 _ ?side1 ?side2 A26.out).mono ?_); (case side1 => exact Kd.C_kept_now HR3.out (by repeat (first | (with_reducible first | exact HK.out | apply Kept.alloc | apply Kept.drewN | apply Kept.drew | refine Kept.setCell ?_ (.inr GW229.out) _ | refine Kept.setCell ?_ (.inr GW232.out) _) | exact HK.out))); (case side2 => exact HC3.out); rintro e w53 ⟨rfl, hb⟩; replace HO_1 := aM (Kd.R_below (yR HO_1.out) hb); replace BK229 := aM (kB (yK BK229) hb); replace BK232 := aM (kB (yK BK232) hb); replace HK := aM (Kept.below (S := (fun k_ => P1_ k_)) (by repeat (first | (with_reducible first | exact HK.out | apply Kept.alloc | apply Kept.drewN | apply Kept.drew | refine Kept.setCell ?_ (.inr GW229.out) _ | refine Kept.setCell ?_ (.inr GW232.out) _) | exact HK.out)) hb); replace HB := aM (bP (yG3 HB (IsS172.ge HI230.out) GE229.out GE232.out) hb); replace HI230 := aM (IsS172.below (by repeat (first | (with_reducible first | exact HI230.out | apply IsS172.alloc | apply IsS172.drewN | apply IsS172.drew | apply IsS172.set_0 | refine IsS172.far ?_ NB230_229.out _ | refine IsS172.far ?_ NB230_232.out _) | exact HI230.out)) hb); (try clear hb)))
             go_ret2
             exact ⟨_, yE, by first | exact Kd.R_nil _ _ _ _ _ | exact Kd.N_nil _ _ _ _ _ | exact Kd.V_nil _ _ _ _ _ | exact Kd.Q_nil _ _ _ _ _ | exact Kd.S_nil _ _ _ _ _, yG3 HB (IsS172.ge HI230.out) GE229.out GE232.out, by repeat (first | (with_reducible first | exact HK.out | apply Kept.alloc | apply Kept.drewN | apply Kept.drew | refine Kept.setCell ?_ (.inr GW229.out) _ | refine Kept.setCell ?_ (.inr GW232.out) _) | exact HK.out)⟩
           ·
            rw [if_neg c25] at H
            exact absurd H (by simp)
         ·
          rw [if_neg c15] at H
          exact absurd H (by simp)
        ·
         rw [if_neg c14] at H
         exact absurd H (by simp)
       ·
        replace c13 := Bool.eq_false_iff.mpr c13
        subst c13
        have H1 : (some (([] : List (S52)), 13)) = some (r1, r2) := by rw [if_neg (show ¬ (false = true) by decide)] at H; exact H
        clear H
        have H := H1
        clear H1
        simp only [Option.some.injEq, Prod.mk.injEq] at H
        obtain ⟨rfl, rfl⟩ := H
        have p231 : 0 ≤ (x22_1 : Int) := oD yA
        have q231 : x22_1 < (l2.length : Int) := oD yA
        obtain ⟨ad231, e231, hx231_0, hx231_1, hx231_2, hx231_3⟩ := at_T96 (Kd.C_kept_now HR2.out HK.out) x22_1 p231 q231
        cases e231
        replace p231 := eq_true p231
        replace q231 := eq_true q231
        go_wp2_with (first | ((with_reducible refine gate_dst (N := 12) rfl ?_); refine yX (N := 12) (cs := #[.string (⟨#[]⟩ : ByteArray), .int .i64 0, .int .i64 0, .string (⟨#[]⟩ : ByteArray)]) (t := 96) ?_; intro gb232 hg w54 hbox hb; replace HO_1 := aM (Kd.R_below (yR HO_1.out) hb); have BK232 := aM (hbox); have GW232 := aM ((by rw [hg]; exact (by first | exact HK.out.1 | exact (show Kept w _ (fun k_ => P1_ k_) from by repeat (first | (with_reducible first | exact HK.out | apply Kept.alloc | apply Kept.drewN | apply Kept.drew | refine Kept.setCell ?_ (.inr GW229.out) _) | exact HK.out)).1) : w.heap.size ≤ gb232)); replace HK := aM (Kept.below (S := (fun k_ => P1_ k_)) (by repeat (first | (with_reducible first | exact HK.out | apply Kept.alloc | apply Kept.drewN | apply Kept.drew | refine Kept.setCell ?_ (.inr GW229.out) _) | exact HK.out)) hb); have GE232 := yZ hg (yG2 HB (IsS172.ge HI230.out) GE229.out); replace HB := aM (bP (yG2 HB (IsS172.ge HI230.out) GE229.out) hb); have NB229_232 := yN hg (yK BK229); have NB232_229 := yM hg (yK BK229); replace BK229 := aM (kB (yK BK229) hb); have NB230_232 := aM ((by rw [hg]; exact Nat.ne_of_lt (IsS172.lt (show IsS172 w0 _ gb230 x231000_1 from by repeat (first | (with_reducible first | exact HI230.out | apply IsS172.alloc | apply IsS172.drewN | apply IsS172.drew | apply IsS172.set_0 | refine IsS172.far ?_ NB230_229.out _) | exact HI230.out))) : gb230 ≠ gb232)); have NB232_230 := aM ((by rw [hg]; exact Nat.ne_of_gt (IsS172.lt (show IsS172 w0 _ gb230 x231000_1 from by repeat (first | (with_reducible first | exact HI230.out | apply IsS172.alloc | apply IsS172.drewN | apply IsS172.drew | apply IsS172.set_0 | refine IsS172.far ?_ NB230_229.out _) | exact HI230.out))) : gb232 ≠ gb230)); replace HI230 := aM (IsS172.below (by repeat (first | (with_reducible first | exact HI230.out | apply IsS172.alloc | apply IsS172.drewN | apply IsS172.drew | apply IsS172.set_0 | refine IsS172.far ?_ NB230_229.out _) | exact HI230.out)) hb); clear hb hbox hg; have hnb55 := NB232_229.out; have hnc55 := NB229_232.out; have hnb56 := NB232_230.out; have hnc56 := NB230_232.out; obtain ⟨hcz57_0, hcz57_1, hcz57_2, hcz57_3, hfz57_0, hfz57_1, hfz57_2, hfz57_3⟩ := cells4 BK232.out; have hnb58 := NB229_230.out; have hnc58 := NB230_229.out; obtain ⟨hcz59_0, hcz59_1, hcz59_2, hcz59_3, hcz59_4, hfz59_0, hfz59_1, hfz59_2, hfz59_3, hfz59_4⟩ := cells5 BK229.out) | ((with_reducible refine gate_callee (f := 46) rfl ?_); refine yC 30 Tryd.func46 #[.agg #[.int .i64 a0_0, .string a0_1, .int .i64 a0_2, .int .i64 a0_3, .slice A0_4 l0_4.length c0_4], .string ((rd_T96 l2 x22_1).f0)] rfl ?_; (with_reducible refine (schema_Col.calls k1 a0_0 a0_1 a0_2 a0_3 _ _ l0_4 ((rd_T96 l2 x22_1).f0) t233 false _ ?side1 ?side2 A12.out).mono ?_); (case side1 => exact Kd.C_kept_now HR0_4.out (by repeat (first | (with_reducible first | exact HK.out | apply Kept.alloc | apply Kept.drewN | apply Kept.drew | refine Kept.setCell ?_ (.inr GW229.out) _ | refine Kept.setCell ?_ (.inr GW232.out) _) | exact HK.out))); (case side2 => exact HC0_4.out); rintro e w60 ⟨rfl, hb⟩; refine ⟨_, rfl, ?_⟩; replace HO_1 := aM (Kd.R_below (by (with_reducible repeat (first | apply Kd.R_alloc | apply Kd.R_drewN | apply Kd.R_drew)); exact (Kd.R_mono (Kd.R_far (p := ⟨gb232, 3, none⟩) (Kd.R_far (p := ⟨gb232, 2, none⟩) (Kd.R_far (p := ⟨gb232, 1, none⟩) (Kd.R_far (p := ⟨gb232, 0, none⟩) (Kd.R_types HO_1.out BK232.out (by decide)) (fun _ hk => hk.2) (.string ((rd_T96 l2 x22_1).f0))) (fun _ hk => hk.2) (.int .i64 ((rd_T96 l2 x22_1).f1.f0))) (fun _ hk => hk.2) (.int .i64 ((rd_T96 l2 x22_1).f1.f1))) (fun _ hk => hk.2) (.string ((rd_T96 l2 x22_1).f1.f2))) (fun _ h_ => h_.1))) hb); replace BK229 := aM (kB (yF1 BK229 NB229_232.out) hb); replace BK232 := aM (kB (puts4 BK232.out) hb); replace HK := aM (Kept.below (S := (fun k_ => P1_ k_)) (by repeat (first | (with_reducible first | exact HK.out | apply Kept.alloc | apply Kept.drewN | apply Kept.drew | refine Kept.setCell ?_ (.inr GW229.out) _ | refine Kept.setCell ?_ (.inr GW232.out) _) | exact HK.out)) hb); replace HB := aM (bP (yG3 HB (IsS172.ge HI230.out) GE229.out GE232.out) hb); replace HI230 := aM (IsS172.below (show IsS172 w0 ((((w54.setCell ⟨gb232, 0, none⟩ (.string ((rd_T96 l2 x22_1).f0))).setCell ⟨gb232, 1, none⟩ (.int .i64 ((rd_T96 l2 x22_1).f1.f0))).setCell ⟨gb232, 2, none⟩ (.int .i64 ((rd_T96 l2 x22_1).f1.f1))).setCell ⟨gb232, 3, none⟩ (.string ((rd_T96 l2 x22_1).f1.f2))) gb230 x231000_1 from by repeat (first | (with_reducible first | exact HI230.out | apply IsS172.alloc | apply IsS172.drewN | apply IsS172.drew | apply IsS172.set_0 | refine IsS172.far ?_ NB230_229.out _ | refine IsS172.far ?_ NB230_232.out _) | exact HI230.out)) hb); (try clear hb)))
        go_ret2
        exact ⟨_, yE, by first | exact Kd.R_nil _ _ _ _ _ | exact Kd.N_nil _ _ _ _ _ | exact Kd.V_nil _ _ _ _ _ | exact Kd.Q_nil _ _ _ _ _ | exact Kd.S_nil _ _ _ _ _, yG3 HB (IsS172.ge HI230.out) GE229.out GE232.out, by repeat (first | (with_reducible first | exact HK.out | apply Kept.alloc | apply Kept.drewN | apply Kept.drew | refine Kept.setCell ?_ (.inr GW229.out) _ | refine Kept.setCell ?_ (.inr GW232.out) _) | exact HK.out)⟩
      ·
       rw [if_neg c11] at H
       exact absurd H (by simp)
     ·
      rw [if_neg c10] at H
      exact absurd H (by simp)
    ·
     rw [if_neg c9] at H
     have c9b0 : decide (x22_1 < (l2.length : Int)) = false := decide_eq_false c9
     clear c9
     replace H := Option.bind_eq_some_iff.mp H
     obtain ⟨t239, A610, H⟩ := H
     replace H : (if t239 = 0 then (some (x1_1, 0)) else (some (([] : List (S52)), t239))) = some (r1, r2) := H
     have A61 := aM A610
     clear A610
     by_cases c62 : t239 = 0
     ·
      rw [if_pos c62] at H
      have c62b0 : (t239 == 0) = true := beq_iff_eq.mpr c62
      have c62b1 : (t239 != 0) = false := bne_eq_false_iff_eq.mpr c62
      clear c62
      simp only [Option.some.injEq, Prod.mk.injEq] at H
      obtain ⟨rfl, rfl⟩ := H
      have hnb63 := NB229_230.out
      have hnc63 := NB230_229.out
      obtain ⟨hcz64_0, hcz64_1, hcz64_2, hcz64_3, hcz64_4, hfz64_0, hfz64_1, hfz64_2, hfz64_3, hfz64_4⟩ := cells5 BK229.out
      obtain ⟨Ao65, co65, eo65⟩ := Kd.R_slice HO_1.out
      subst eo65
      go_wp2_with (first | ((with_reducible refine gate_callee (f := 67) rfl ?_); refine yC 58 Tryd.func67 #[.agg #[.int .i64 a0_0, .string a0_1, .int .i64 a0_2, .int .i64 a0_3, .slice A0_4 l0_4.length c0_4], .slice Ao65 x1_1.length co65] rfl ?_; (with_reducible refine (schema_fits.calls k1 a0_0 a0_1 a0_2 a0_3 _ _ l0_4 _ _ x1_1 t239 _ ?side1 ?side2 ?side3 ?side4 ?side5 A61.out).mono ?_); (case side1 => exact Kd.C_kept_now HR0_4.out (by repeat (first | (with_reducible first | exact HK.out | apply Kept.alloc | apply Kept.drewN | apply Kept.drew | refine Kept.setCell ?_ (.inr GW229.out) _) | exact HK.out))); (case side2 => exact HC0_4.out); (case side3 => exact yW (Kd.R_reads' HO_1.out).2.2); (case side4 => exact (Kd.R_reads' HO_1.out).2.1); (case side5 => first | (with_reducible exact HG.out) | exact Glob.below HG.out (yG2 HB (IsS172.ge HI230.out) GE229.out)); rintro e w66 ⟨rfl, hb⟩; refine ⟨_, rfl, ?_⟩; replace HO_1 := aM (Kd.R_below (yR HO_1.out) hb); replace BK229 := aM (kB (yK BK229) hb); replace HK := aM (Kept.below (S := (fun k_ => P1_ k_)) (by repeat (first | (with_reducible first | exact HK.out | apply Kept.alloc | apply Kept.drewN | apply Kept.drew | refine Kept.setCell ?_ (.inr GW229.out) _) | exact HK.out)) hb); replace HB := aM (bP (yG2 HB (IsS172.ge HI230.out) GE229.out) hb); replace HI230 := aM (IsS172.below (by repeat (first | (with_reducible first | exact HI230.out | apply IsS172.alloc | apply IsS172.drewN | apply IsS172.drew | apply IsS172.set_0 | refine IsS172.far ?_ NB230_229.out _) | exact HI230.out)) hb); (try clear hb)))
      go_ret2
      exact ⟨_, yE, yR HO_1.out, yG2 HB (IsS172.ge HI230.out) GE229.out, by repeat (first | (with_reducible first | exact HK.out | apply Kept.alloc | apply Kept.drewN | apply Kept.drew | refine Kept.setCell ?_ (.inr GW229.out) _) | exact HK.out)⟩
     ·
      rw [if_neg c62] at H
      have c62b0 : (t239 == 0) = false := beq_eq_false_iff_ne.mpr c62
      have c62b1 : (t239 != 0) = true := bne_iff_ne.mpr c62
      simp only [Option.some.injEq, Prod.mk.injEq] at H
      obtain ⟨rfl, rfl⟩ := H
      have hnb67 := NB229_230.out
      have hnc67 := NB230_229.out
      obtain ⟨hcz68_0, hcz68_1, hcz68_2, hcz68_3, hcz68_4, hfz68_0, hfz68_1, hfz68_2, hfz68_3, hfz68_4⟩ := cells5 BK229.out
      obtain ⟨Ao69, co69, eo69⟩ := Kd.R_slice HO_1.out
      subst eo69
      go_wp2_with (first | ((with_reducible refine gate_callee (f := 67) rfl ?_); refine yC 58 Tryd.func67 #[.agg #[.int .i64 a0_0, .string a0_1, .int .i64 a0_2, .int .i64 a0_3, .slice A0_4 l0_4.length c0_4], .slice Ao69 x1_1.length co69] rfl ?_; (with_reducible refine (schema_fits.calls k1 a0_0 a0_1 a0_2 a0_3 _ _ l0_4 _ _ x1_1 t239 _ ?side1 ?side2 ?side3 ?side4 ?side5 A61.out).mono ?_); (case side1 => exact Kd.C_kept_now HR0_4.out (by repeat (first | (with_reducible first | exact HK.out | apply Kept.alloc | apply Kept.drewN | apply Kept.drew | refine Kept.setCell ?_ (.inr GW229.out) _) | exact HK.out))); (case side2 => exact HC0_4.out); (case side3 => exact yW (Kd.R_reads' HO_1.out).2.2); (case side4 => exact (Kd.R_reads' HO_1.out).2.1); (case side5 => first | (with_reducible exact HG.out) | exact Glob.below HG.out (yG2 HB (IsS172.ge HI230.out) GE229.out)); rintro e w70 ⟨rfl, hb⟩; refine ⟨_, rfl, ?_⟩; replace HO_1 := aM (Kd.R_below (yR HO_1.out) hb); replace BK229 := aM (kB (yK BK229) hb); replace HK := aM (Kept.below (S := (fun k_ => P1_ k_)) (by repeat (first | (with_reducible first | exact HK.out | apply Kept.alloc | apply Kept.drewN | apply Kept.drew | refine Kept.setCell ?_ (.inr GW229.out) _) | exact HK.out)) hb); replace HB := aM (bP (yG2 HB (IsS172.ge HI230.out) GE229.out) hb); replace HI230 := aM (IsS172.below (by repeat (first | (with_reducible first | exact HI230.out | apply IsS172.alloc | apply IsS172.drewN | apply IsS172.drew | apply IsS172.set_0 | refine IsS172.far ?_ NB230_229.out _) | exact HI230.out)) hb); (try clear hb)))
      go_ret2
      exact ⟨_, yE, by first | exact Kd.R_nil _ _ _ _ _ | exact Kd.N_nil _ _ _ _ _ | exact Kd.V_nil _ _ _ _ _ | exact Kd.Q_nil _ _ _ _ _ | exact Kd.S_nil _ _ _ _ _, yG2 HB (IsS172.ge HI230.out) GE229.out, by repeat (first | (with_reducible first | exact HK.out | apply Kept.alloc | apply Kept.drewN | apply Kept.drew | refine Kept.setCell ?_ (.inr GW229.out) _) | exact HK.out)⟩
/-! ### schema_Set: function 35 -/
def schema_Set.f (k : Nat) (a0_0 : Int) (a0_1 : ByteArray) (a0_2 : Int) (a0_3 : Int) (l0_4 : List (S54)) (l1 : List (S52)) (l2 : List (S96)) : Option ((List (S52)) × Int) := (schema_Row.f k a0_0 a0_1 a0_2 a0_3 l0_4 l1).bind fun t241 => (if t241 = 0 then ((some (([] : List (S52)) : List (S52))).bind fun y242 => (if y242.length + l1.length < 4398046511104 then ((schema_lay_f73.f k a0_0 a0_1 a0_2 a0_3 l0_4 (y242 ++ l1) l2 [(⟨a0_0, a0_1, a0_2, a0_3, l0_4⟩ : S24)]).bind fun bt248 => (some (bt248.1, bt248.2))) else (none))) else (some (([] : List (S52)), t241)))
theorem schema_Set.mono : ∀ a0 a1 a2 a3 a4 a5 a6 k, LeO (schema_Set.f k a0 a1 a2 a3 a4 a5 a6) (schema_Set.f (k + 1) a0 a1 a2 a3 a4 a5 a6) := by
 intro a0 a1 a2 a3 a4 a5 a6 k
 unfold schema_Set.f
 repeat' first
   | (with_reducible exact schema_Row.mono _ _ _ _ _ _ _)
   | (with_reducible exact schema_lay_f73.mono _ _ _ _ _ _ _ _ _)
   | (with_reducible exact LeO.refl _)
   | (with_reducible exact LeO.none _)
   | (with_reducible refine LeO.ite ?_ ?_)
   | (with_reducible refine LeO.bind ?_ (fun _ => ?_))
   | exact schema_Row.mono _ _ _ _ _ _ _
   | exact schema_lay_f73.mono _ _ _ _ _ _ _ _ _
   | exact LeO.none _
   | refine LeO.ite ?_ ?_
   | refine LeO.bind ?_ (fun _ => ?_)
def schema_Set.T4 : Bool × List (List Nat × List Nat) := (true, [([], []), ([], []), ([], []), ([1, 2], [1, 2]), ([], []), ([], []), ([0, 3, 4, 5, 3], [0, 3, 4, 5]), ([6], [6]), ([6], [6]), ([7, 6, 0, 1, 2, 3, 4, 5, 6, 7, 8], [7]), ([8, 9, 0, 1, 2, 3, 4, 5, 6, 7, 8, 9], [8])])
def schema_Set.B4 : List Nat := [0, 0, 0, 6, 0, 0, 63, 127, 127, 511, 1023]
theorem schema_Set.tab4 : rtab .any (opsOf Tryd.f35 4) = schema_Set.T4 := by kernel_rfl
theorem schema_Set.bits4 : waitsOk schema_Set.T4.2 schema_Set.B4 = true := by kernel_rfl
set_option maxHeartbeats 8000000 in
set_option maxRecDepth 100000 in
theorem schema_Set.calls (k : Nat) (a0_0 : Int) (a0_1 : ByteArray) (a0_2 : Int) (a0_3 : Int) (A0_4 : Option Addr) (c0_4 : Nat) (l0_4 : List (S54)) (A1 : Option Addr) (c1 : Nat) (l1 : List (S52)) (A2 : Option Addr) (c2 : Nat) (l2 : List (S96)) (r1 : List (S52)) (r2 : Int) (w : World) (hr0_4 : Kd.C k54 w A0_4 l0_4.length l0_4) (hc0_4 : l0_4.length ≤ c0_4) (hr1 : Kd.C k52 w A1 l1.length l1) (hc1 : l1.length ≤ c1) (hr2 : Kd.C k96 w A2 l2.length l2) (hc2 : l2.length ≤ c2) (hG : Glob w) (h : schema_Set.f k a0_0 a0_1 a0_2 a0_3 l0_4 l1 l2 = some (r1, r2)) :
  Calls Tryd.prog 35 #[.agg #[.int .i64 a0_0, .string a0_1, .int .i64 a0_2, .int .i64 a0_3, .slice A0_4 l0_4.length c0_4], .slice A1 l1.length c1, .slice A2 l2.length c2] w fun e w' => ∃ v0_ : Value, e = .returned (.tuple #[v0_, .int .i64 r2]) ∧ Kd.R k52 52 w' w.heap.size (fun _ => True) v0_ r1 ∧ Below w.heap.size w w' := by
 have hmf : ∀ (fn : Go.Fn) (first cap : Array Value) (w : World), (Instr.makeFunc fn first cap).run Tryd.prog w = .ok (.func fn first cap) w := fun _ _ _ _ => rfl
 have hu24 := Tryd.underlying24
 have HR0_4 := aM hr0_4
 have HC0_4 := aM hc0_4
 clear hr0_4 hc0_4
 have HR1 := aM hr1
 have HC1 := aM hc1
 clear hr1 hc1
 have HR2 := aM hr2
 have HC2 := aM hc2
 clear hr2 hc2
 have HG := aM hG
 clear hG
 have HB := aM (Below.refl w.heap.size w)
 have H : ((schema_Row.f k a0_0 a0_1 a0_2 a0_3 l0_4 l1).bind fun t241 => (if t241 = 0 then ((some (([] : List (S52)) : List (S52))).bind fun y242 => (if y242.length + l1.length < 4398046511104 then ((schema_lay_f73.f k a0_0 a0_1 a0_2 a0_3 l0_4 (y242 ++ l1) l2 [(⟨a0_0, a0_1, a0_2, a0_3, l0_4⟩ : S24)]).bind fun bt248 => (some (bt248.1, bt248.2))) else (none))) else (some (([] : List (S52)), t241)))) = some (r1, r2) := h
 clear h
 replace H := Option.bind_eq_some_iff.mp H
 obtain ⟨t241, A40, H⟩ := H
 replace H : (if t241 = 0 then ((some (([] : List (S52)) : List (S52))).bind fun y242 => (if y242.length + l1.length < 4398046511104 then ((schema_lay_f73.f k a0_0 a0_1 a0_2 a0_3 l0_4 (y242 ++ l1) l2 [(⟨a0_0, a0_1, a0_2, a0_3, l0_4⟩ : S24)]).bind fun bt248 => (some (bt248.1, bt248.2))) else (none))) else (some (([] : List (S52)), t241))) = some (r1, r2) := H
 have A4 := aM A40
 clear A40
 by_cases c5 : t241 = 0
 ·
  rw [if_pos c5] at H
  have c5b0 : (t241 == 0) = true := beq_iff_eq.mpr c5
  have c5b1 : (t241 != 0) = false := bne_eq_false_iff_eq.mpr c5
  clear c5
  obtain ⟨y242, hy242⟩ : ∃ y_ : List (S52), y_ = (([] : List (S52))) := ⟨_, rfl⟩
  replace H : (if y242.length + l1.length < 4398046511104 then ((schema_lay_f73.f k a0_0 a0_1 a0_2 a0_3 l0_4 (y242 ++ l1) l2 [(⟨a0_0, a0_1, a0_2, a0_3, l0_4⟩ : S24)]).bind fun bt248 => (some (bt248.1, bt248.2))) else (none)) = some (r1, r2) := by first | (rw [hy242]; with_reducible exact H) | (have H2_ := (Option.bind_some _ _).symm.trans H; rw [hy242]; with_reducible exact H2_) | (have H2_ := (Option.bind_some _ _).symm.trans H; with_reducible exact H2_) | with_reducible exact H | (rw [hy242]; exact H) | exact H
  have Ny242 := aM hy242
  clear hy242
  by_cases c6 : y242.length + l1.length < 4398046511104
  ·
   rw [if_pos c6] at H
   have LMc6 := aM c6
   clear c6
   obtain ⟨y245, hy245⟩ : ∃ y_ : List (S52), y_ = (y242 ++ l1) := ⟨_, rfl⟩
   replace H : ((schema_lay_f73.f k a0_0 a0_1 a0_2 a0_3 l0_4 y245 l2 [(⟨a0_0, a0_1, a0_2, a0_3, l0_4⟩ : S24)]).bind fun bt248 => (some (bt248.1, bt248.2))) = some (r1, r2) := by first | (rw [hy245]; with_reducible exact H) | (have H2_ := (Option.bind_some _ _).symm.trans H; rw [hy245]; with_reducible exact H2_) | (have H2_ := (Option.bind_some _ _).symm.trans H; with_reducible exact H2_) | with_reducible exact H | (rw [hy245]; exact H) | exact H
   have Ny245 := aM hy245
   clear hy245
   replace H := Option.bind_eq_some_iff.mp H
   obtain ⟨⟨t248, t251⟩, A70, H⟩ := H
   replace H : (some (t248, t251)) = some (r1, r2) := H
   have A7 := aM A70
   clear A70
   simp only [Option.some.injEq, Prod.mk.injEq] at H
   obtain ⟨rfl, rfl⟩ := H
   go_enter Tryd.func35, Tryd.ntmps35
   try go_wp2_with (first | ((with_reducible refine gate_dst (N := 3) rfl ?_); refine yX (N := 3) (cs := #[.int .i64 a0_0, .string a0_1, .int .i64 a0_2, .int .i64 a0_3, .slice A0_4 l0_4.length c0_4]) (t := 24) ?_; intro gb240 hg w8 hbox hb; have BK240 := aM (hbox); have GW240 := yZ hg (yB HB); have GE240 := yZ hg (yB HB); replace HB := aM (bP (yB HB) hb); clear hb hbox hg; obtain ⟨hcz9_0, hcz9_1, hcz9_2, hcz9_3, hcz9_4, hfz9_0, hfz9_1, hfz9_2, hfz9_3, hfz9_4⟩ := cells5 BK240.out) | ((with_reducible refine gate_callee (f := 24) rfl ?_); refine yC 11 Tryd.func24 #[.agg #[.int .i64 a0_0, .string a0_1, .int .i64 a0_2, .int .i64 a0_3, .slice A0_4 l0_4.length c0_4], .slice A1 l1.length c1] rfl ?_; (with_reducible refine (schema_Row.calls k a0_0 a0_1 a0_2 a0_3 _ _ l0_4 _ _ l1 t241 _ ?side1 ?side2 ?side3 ?side4 ?side5 A4.out).mono ?_); (case side1 => exact yW (Kd.C_below HR0_4.out HB.out)); (case side2 => exact HC0_4.out); (case side3 => exact yW (Kd.C_below HR1.out HB.out)); (case side4 => exact HC1.out); (case side5 => first | (with_reducible exact HG.out) | exact Glob.below HG.out (yG1 HB GE240.out)); rintro e w10 ⟨rfl, hb⟩; refine ⟨_, rfl, ?_⟩; replace BK240 := aM (kB (yK BK240) hb); replace HB := aM (bP (yG1 HB GE240.out) hb); (try clear hb)))
   have n0_ := aM (kD BK240.out)
   have n1_ := aM (b1 HB.out)
   clear BK240
   clear HB
   have BK240 := n0_
   have HB := n1_
   clear n0_ n1_
   refine start_ (n := 11) (S := fun w' => w'.cell? ⟨gb240, 0, none⟩ = some (.int .i64 a0_0) ∧ w'.cell? ⟨gb240, 1, none⟩ = some (.string a0_1) ∧ w'.cell? ⟨gb240, 2, none⟩ = some (.int .i64 a0_2) ∧ w'.cell? ⟨gb240, 3, none⟩ = some (.int .i64 a0_3) ∧ w'.cell? ⟨gb240, 4, none⟩ = some (.slice A0_4 l0_4.length c0_4)) (ds := []) (tB 0 11) (by kernel_rfl) rfl rfl (cellc5 BK240.out) (fun hHeld => ?_); refine with_tabW schema_Set.tab4 schema_Set.bits4 (fun HT_ HW_ => ?_)
   generalize w10.drew = w11 at BK240 HB hHeld ⊢
   refine yP HT_ 2 17 (tB 4 11) rfl rfl ?_
   refine yP HT_ 4 19 (tB 20 11) rfl rfl ?_
   refine yP HT_ 5 20 (tB 52 11) rfl rfl ?_
   refine yT HT_ HW_ 0 15 (tB 53 11) rfl rfl hHeld ?_
   refine yI HT_ 1 (tB 55 11) rfl rfl fun K hK => ?_
   refine Kd.R_lit_step k52 _ 52 ?hg (N := 16) ?hd (xs := ([] : List (S52))) (inner := []) (ok := fun _ => True) (okp := fun _ => True) ?hr ?hp (fun _ hk => hk) trivial (Below.refl _ _) (Nat.le_refl _) (by simp) ?_; (case hd => rfl); (case hg => rfl); (case hr => first | (go_simp; done) | (go_simp; rfl)); (case hp => exact (Reps.none _ _))
   intro v243 w12 ho13 hb hg_ hnew_
   clear hg_ hnew_
   (first | rw [← Ny242.out] at ho13 | (simp only [Int.reduceToNat] at ho13; rw [← Ny242.out] at ho13))
   have n0_ := aM (Kd.R_lower ho13 (bZ (yG1 HB GE240.out)))
   have n1_ := aM (kB (yK BK240) hb)
   have n2_ := aM (bP (yG1 HB GE240.out) hb)
   clear BK240
   clear HB
   have HO244 := n0_
   have BK240 := n1_
   have HB := n2_
   clear n0_ n1_ n2_
   clear hb ho13
   refine hK.out _ _ (cellc5 BK240.out) (fun hHeld => ?_)
   clear hK K
   refine norm_ (a' := ?_) ?_ ?_
   rotate_left
   ·
    show Act.put _ (some 16) _ = _
    simp only [Act.put, s1_, s2_, s3_, i64_w, i32_w]
    rfl
   refine yI HT_ 3 (tB 63 11) rfl rfl fun K hK => ?_
   refine Kd.R_append_rows_step k52 (w0 := w) w.heap.size (by rfl) (.tmp 16) (.tmp 17) 25 52 (.agg #[(.int .i64 0), (.int .i64 0), (.string ⟨#[]⟩)]) 32 rfl Tryd.underlying25 info52 rfl (by decide) (by omega) v243 y242 l1 _ _ _ (fun _ => True) (fun _ => False) rfl rfl ?aO ?aR (fun _ _ h => h) (fun _ h => h.elim) ?aF ?aB ?aS ?aL ?_
   (case aR => exact yW (Kd.C_below HR1.out HB.out))
   (case aB => exact (yG1 HB GE240.out))
   (case aF => exact (fun _ _ => trivial))
   (case aO => exact (yR HO244.out))
   (case aS => exact (bZ (yG1 HB GE240.out)))
   (case aL => have := LMc6.out; omega)
   intro v246 w14 ho hb hg hat
   rw [← Ny245.out] at ho
   have n0_ := aM (blk_grown (g := gb240) (o := .cells #[.int .i64 a0_0, .string a0_1, .int .i64 a0_2, .int .i64 a0_3, .slice A0_4 l0_4.length c0_4] 24 (0, 0)) (yK BK240) hg (Kd.R_ne HO244.out BK240.out (by decide)))
   have n1_ := aM (hb)
   have n2_ := aM (ho)
   clear BK240
   clear HB
   clear HO244
   have BK240 := n0_
   have HB := n1_
   have HO247 := n2_
   clear n0_ n1_ n2_
   clear ho hb hg hat
   obtain ⟨Ao15, co15, eo15⟩ := Kd.R_slice HO247.out
   (first | subst eo15 | (injection eo15 with f1_ f2_ f3_; have f4_ := f1_.symm; have f5_ := f3_.symm; clear f1_ f2_ f3_; subst f4_; subst f5_))
   refine hK.out _ _ (cellc5 BK240.out) (fun hHeld => ?_)
   clear hK K
   refine norm_ (a' := ?_) ?_ ?_
   rotate_left
   ·
    show Act.put _ (some 18) _ = _
    simp only [Act.put, s1_, s2_, s3_, i64_w, i32_w]
    rfl
   refine yI HT_ 6 (tB 127 11) rfl rfl fun K hK => ?_
   refine yc Tryd.func63 #[.agg #[.int .i64 a0_0, .string a0_1, .int .i64 a0_2, .int .i64 a0_3, .slice A0_4 l0_4.length c0_4], .slice Ao15 y245.length co15, .slice A2 l2.length c2, .func (.func 73) #[] #[.pointer (some ⟨gb240, 0, none⟩)]] rfl rfl ?_
   with_reducible refine (schema_lay_f73.calls k a0_0 a0_1 a0_2 a0_3 _ _ l0_4 (fun k_ => some k_ = (.slice Ao15 y245.length co15 : Value).ownBlock) (.slice Ao15 y245.length co15) y245 _ _ l2 (some ⟨gb240, 0, none⟩) 1 [(⟨a0_0, a0_1, a0_2, a0_3, l0_4⟩ : S24)] t248 t251 w _ ?side1 ?side2 ?side3 ?side4 ?side5 ?side6 ?side7 ?side8 ?side9 A7.out).mono ?_
   (case side1 => exact yG1 HB GE240.out)
   (case side2 => exact Kd.C_kept_came k54_heap HR0_4.out (yG1 HB GE240.out) (fun k_ hs_ => (fun e_ => Kd.R_base HO247.out k_ e_.symm) hs_))
   (case side3 => exact HC0_4.out)
   (case side4 => exact Kd.R_tight rfl HO247.out)
   (case side5 => exact Kd.C_kept_came k96_heap HR2.out (yG1 HB GE240.out) (fun k_ hs_ => (fun e_ => Kd.R_base HO247.out k_ e_.symm) hs_))
   (case side6 => exact HC2.out)
   (case side7 => exact fun W_ hk_ => hp_C_kept_one hk_ (k24_mk _ (⟨a0_0, a0_1, a0_2, a0_3, l0_4⟩ : S24) (by exact HC0_4.out) (Kd.C_kept_came k54_heap HR0_4.out (yG1 HB GE240.out) (fun k_ hs_ => (fun e_ => Kd.R_base HO247.out k_ e_.symm) hs_) W_ hk_)) (yK BK240) (fun e_ => Kd.R_ne HO247.out BK240.out (by decide) e_))
   (case side8 => exact Nat.le_refl _)
   (case side9 => first | (with_reducible exact HG.out) | exact Glob.below HG.out (yG1 HB GE240.out))
   rintro e w16 ⟨v249, rfl, ho0, hb, hkp⟩
   refine ⟨_, rfl, ?_⟩
   have n0_ := aM (blk_kept (yK BK240) hkp (fun hs_ => (fun e_ => (Kd.R_ne HO247.out BK240.out (by decide)) e_) hs_))
   have n1_ := aM (Kd.R_mono (ok' := fun k_ => True) ho0 (fun k_ hk_ => trivial))
   have n2_ := aM (hb)
   clear BK240
   clear HB
   clear HO247
   have BK240 := n0_
   have HO250 := n1_
   have HB := n2_
   clear n0_ n1_ n2_
   (try clear hb)
   (try clear hkp)
   (try clear ho0)
   refine hK.out _ _ (cellc5 BK240.out) (fun hHeld => ?_)
   clear hK K
   refine norm_ (a' := ?_) ?_ ?_
   rotate_left
   ·
    show Act.put _ (some 21) _ = _
    simp only [Act.put, s1_, s2_, s3_, i64_w, i32_w]
    rfl
   refine yP HT_ 7 22 (tB 255 11) rfl rfl ?_
   refine yP HT_ 8 23 (tB 511 11) rfl rfl ?_
   refine yP HT_ 9 6 (tB 1023 11) rfl rfl ?_
   refine yP HT_ 10 7 (tB 2047 11) rfl rfl ?_
   refine done_ (done_of HT_.out (by kernel_rfl)) ?_
   try go_wp2
   go_ret2
   exact ⟨_, yE, yR HO250.out, yG1 HB GE240.out⟩
  ·
   rw [if_neg c6] at H
   exact absurd H (by simp)
 ·
  rw [if_neg c5] at H
  have c5b0 : (t241 == 0) = false := beq_eq_false_iff_ne.mpr c5
  have c5b1 : (t241 != 0) = true := bne_iff_ne.mpr c5
  simp only [Option.some.injEq, Prod.mk.injEq] at H
  obtain ⟨rfl, rfl⟩ := H
  go_enter Tryd.func35, Tryd.ntmps35
  go_wp2_with (first | ((with_reducible refine gate_dst (N := 3) rfl ?_); refine yX (N := 3) (cs := #[.int .i64 a0_0, .string a0_1, .int .i64 a0_2, .int .i64 a0_3, .slice A0_4 l0_4.length c0_4]) (t := 24) ?_; intro gb240 hg w17 hbox hb; have BK240 := aM (hbox); have GW240 := yZ hg (yB HB); have GE240 := yZ hg (yB HB); replace HB := aM (bP (yB HB) hb); clear hb hbox hg; obtain ⟨hcz18_0, hcz18_1, hcz18_2, hcz18_3, hcz18_4, hfz18_0, hfz18_1, hfz18_2, hfz18_3, hfz18_4⟩ := cells5 BK240.out) | ((with_reducible refine gate_callee (f := 24) rfl ?_); refine yC 11 Tryd.func24 #[.agg #[.int .i64 a0_0, .string a0_1, .int .i64 a0_2, .int .i64 a0_3, .slice A0_4 l0_4.length c0_4], .slice A1 l1.length c1] rfl ?_; (with_reducible refine (schema_Row.calls k a0_0 a0_1 a0_2 a0_3 _ _ l0_4 _ _ l1 t241 _ ?side1 ?side2 ?side3 ?side4 ?side5 A4.out).mono ?_); (case side1 => exact yW (Kd.C_below HR0_4.out HB.out)); (case side2 => exact HC0_4.out); (case side3 => exact yW (Kd.C_below HR1.out HB.out)); (case side4 => exact HC1.out); (case side5 => first | (with_reducible exact HG.out) | exact Glob.below HG.out (yG1 HB GE240.out)); rintro e w19 ⟨rfl, hb⟩; refine ⟨_, rfl, ?_⟩; replace BK240 := aM (kB (yK BK240) hb); replace HB := aM (bP (yG1 HB GE240.out) hb); (try clear hb)))
  go_ret2
  exact ⟨_, yE, by first | exact Kd.R_nil _ _ _ _ _ | exact Kd.N_nil _ _ _ _ _ | exact Kd.V_nil _ _ _ _ _ | exact Kd.Q_nil _ _ _ _ _ | exact Kd.S_nil _ _ _ _ _, yG1 HB GE240.out⟩
/-! ### haulageref06_Right: function 72 -/
def haulageref06_Right.f (a0_0 : Int) (a0_1 : Int) : Option (Bool) := if a0_0 = 1 then (some (a0_1 == 0)) else (if a0_0 = 2 then (some (a0_1 == 0)) else (if a0_0 = 3 then (if a0_1 ≥ 1 then (some (decide (a0_1 ≤ 120))) else (some false)) else (if a0_0 = 4 then (if a0_1 ≥ 1 then (some (decide (a0_1 ≤ 120))) else (some false)) else (some false))))
set_option maxHeartbeats 8000000 in
set_option maxRecDepth 100000 in
theorem haulageref06_Right.calls (a0_0 : Int) (a0_1 : Int) (r : Bool) (w : World) (h : haulageref06_Right.f a0_0 a0_1 = some r) :
  Calls Tryd.prog 72 #[.agg #[.int .i64 a0_0, .int .i64 a0_1]] w fun e w' => e = .returned (.bool r) ∧ Below w.heap.size w w' := by
 have hu50 := Tryd.underlying50
 have HB := aM (Below.refl w.heap.size w)
 have H : (if a0_0 = 1 then (some (a0_1 == 0)) else (if a0_0 = 2 then (some (a0_1 == 0)) else (if a0_0 = 3 then (if a0_1 ≥ 1 then (some (decide (a0_1 ≤ 120))) else (some false)) else (if a0_0 = 4 then (if a0_1 ≥ 1 then (some (decide (a0_1 ≤ 120))) else (some false)) else (some false))))) = some r := h
 clear h
 by_cases c2 : a0_0 = 1
 ·
  rw [if_pos c2] at H
  have c2b0 : (a0_0 == 1) = true := beq_iff_eq.mpr c2
  have c2b1 : (a0_0 != 1) = false := bne_eq_false_iff_eq.mpr c2
  clear c2
  obtain rfl := Option.some.inj H
  go_enter Tryd.func72, Tryd.ntmps72
  go_wp2_with (first | ((with_reducible refine gate_dst (N := 1) rfl ?_); refine yX (N := 1) (cs := #[.int .i64 a0_0, .int .i64 a0_1]) (t := 50) ?_; intro gb252 hg w3 hbox hb; have BK252 := aM (hbox); have GW252 := yZ hg (yB HB); have GE252 := yZ hg (yB HB); replace HB := aM (bP (yB HB) hb); clear hb hbox hg; obtain ⟨hcz4_0, hcz4_1, hfz4_0, hfz4_1⟩ := cells2 BK252.out))
  go_ret
  exact ⟨yE, yG1 HB GE252.out⟩
 ·
  rw [if_neg c2] at H
  have c2b0 : (a0_0 == 1) = false := beq_eq_false_iff_ne.mpr c2
  have c2b1 : (a0_0 != 1) = true := bne_iff_ne.mpr c2
  by_cases c5 : a0_0 = 2
  ·
   rw [if_pos c5] at H
   have c5b0 : (a0_0 == 2) = true := beq_iff_eq.mpr c5
   have c5b1 : (a0_0 != 2) = false := bne_eq_false_iff_eq.mpr c5
   clear c5
   obtain rfl := Option.some.inj H
   go_enter Tryd.func72, Tryd.ntmps72
   go_wp2_with (first | ((with_reducible refine gate_dst (N := 1) rfl ?_); refine yX (N := 1) (cs := #[.int .i64 a0_0, .int .i64 a0_1]) (t := 50) ?_; intro gb252 hg w6 hbox hb; have BK252 := aM (hbox); have GW252 := yZ hg (yB HB); have GE252 := yZ hg (yB HB); replace HB := aM (bP (yB HB) hb); clear hb hbox hg; obtain ⟨hcz7_0, hcz7_1, hfz7_0, hfz7_1⟩ := cells2 BK252.out))
   go_ret
   exact ⟨yE, yG1 HB GE252.out⟩
  ·
   rw [if_neg c5] at H
   have c5b0 : (a0_0 == 2) = false := beq_eq_false_iff_ne.mpr c5
   have c5b1 : (a0_0 != 2) = true := bne_iff_ne.mpr c5
   by_cases c8 : a0_0 = 3
   ·
    rw [if_pos c8] at H
    have c8b0 : (a0_0 == 3) = true := beq_iff_eq.mpr c8
    have c8b1 : (a0_0 != 3) = false := bne_eq_false_iff_eq.mpr c8
    clear c8
    by_cases c9 : a0_1 ≥ 1
    ·
     rw [if_pos c9] at H
     have c9b0 : decide (1 ≤ a0_1) = true := decide_eq_true c9
     clear c9
     obtain rfl := Option.some.inj H
     go_enter Tryd.func72, Tryd.ntmps72
     go_wp2_with (first | ((with_reducible refine gate_dst (N := 1) rfl ?_); refine yX (N := 1) (cs := #[.int .i64 a0_0, .int .i64 a0_1]) (t := 50) ?_; intro gb252 hg w10 hbox hb; have BK252 := aM (hbox); have GW252 := yZ hg (yB HB); have GE252 := yZ hg (yB HB); replace HB := aM (bP (yB HB) hb); clear hb hbox hg; obtain ⟨hcz11_0, hcz11_1, hfz11_0, hfz11_1⟩ := cells2 BK252.out))
     go_ret
     exact ⟨yE, yG1 HB GE252.out⟩
    ·
     rw [if_neg c9] at H
     have c9b0 : decide (1 ≤ a0_1) = false := decide_eq_false c9
     clear c9
     obtain rfl := Option.some.inj H
     go_enter Tryd.func72, Tryd.ntmps72
     go_wp2_with (first | ((with_reducible refine gate_dst (N := 1) rfl ?_); refine yX (N := 1) (cs := #[.int .i64 a0_0, .int .i64 a0_1]) (t := 50) ?_; intro gb252 hg w12 hbox hb; have BK252 := aM (hbox); have GW252 := yZ hg (yB HB); have GE252 := yZ hg (yB HB); replace HB := aM (bP (yB HB) hb); clear hb hbox hg; obtain ⟨hcz13_0, hcz13_1, hfz13_0, hfz13_1⟩ := cells2 BK252.out))
     go_ret
     exact ⟨yE, yG1 HB GE252.out⟩
   ·
    rw [if_neg c8] at H
    have c8b0 : (a0_0 == 3) = false := beq_eq_false_iff_ne.mpr c8
    have c8b1 : (a0_0 != 3) = true := bne_iff_ne.mpr c8
    by_cases c14 : a0_0 = 4
    ·
     rw [if_pos c14] at H
     have c14b0 : (a0_0 == 4) = true := beq_iff_eq.mpr c14
     have c14b1 : (a0_0 != 4) = false := bne_eq_false_iff_eq.mpr c14
     clear c14
     by_cases c15 : a0_1 ≥ 1
     ·
      rw [if_pos c15] at H
      have c15b0 : decide (1 ≤ a0_1) = true := decide_eq_true c15
      clear c15
      obtain rfl := Option.some.inj H
      go_enter Tryd.func72, Tryd.ntmps72
      go_wp2_with (first | ((with_reducible refine gate_dst (N := 1) rfl ?_); refine yX (N := 1) (cs := #[.int .i64 a0_0, .int .i64 a0_1]) (t := 50) ?_; intro gb252 hg w16 hbox hb; have BK252 := aM (hbox); have GW252 := yZ hg (yB HB); have GE252 := yZ hg (yB HB); replace HB := aM (bP (yB HB) hb); clear hb hbox hg; obtain ⟨hcz17_0, hcz17_1, hfz17_0, hfz17_1⟩ := cells2 BK252.out))
      go_ret
      exact ⟨yE, yG1 HB GE252.out⟩
     ·
      rw [if_neg c15] at H
      have c15b0 : decide (1 ≤ a0_1) = false := decide_eq_false c15
      clear c15
      obtain rfl := Option.some.inj H
      go_enter Tryd.func72, Tryd.ntmps72
      go_wp2_with (first | ((with_reducible refine gate_dst (N := 1) rfl ?_); refine yX (N := 1) (cs := #[.int .i64 a0_0, .int .i64 a0_1]) (t := 50) ?_; intro gb252 hg w18 hbox hb; have BK252 := aM (hbox); have GW252 := yZ hg (yB HB); have GE252 := yZ hg (yB HB); replace HB := aM (bP (yB HB) hb); clear hb hbox hg; obtain ⟨hcz19_0, hcz19_1, hfz19_0, hfz19_1⟩ := cells2 BK252.out))
      go_ret
      exact ⟨yE, yG1 HB GE252.out⟩
    ·
     rw [if_neg c14] at H
     have c14b0 : (a0_0 == 4) = false := beq_eq_false_iff_ne.mpr c14
     have c14b1 : (a0_0 != 4) = true := bne_iff_ne.mpr c14
     obtain rfl := Option.some.inj H
     go_enter Tryd.func72, Tryd.ntmps72
     go_wp2_with (first | ((with_reducible refine gate_dst (N := 1) rfl ?_); refine yX (N := 1) (cs := #[.int .i64 a0_0, .int .i64 a0_1]) (t := 50) ?_; intro gb252 hg w20 hbox hb; have BK252 := aM (hbox); have GW252 := yZ hg (yB HB); have GE252 := yZ hg (yB HB); replace HB := aM (bP (yB HB) hb); clear hb hbox hg; obtain ⟨hcz21_0, hcz21_1, hfz21_0, hfz21_1⟩ := cells2 BK252.out))
     go_ret
     exact ⟨yE, yG1 HB GE252.out⟩
/-! ### haulageref03_Is: function 119 -/
def haulageref03_Is.f (a0 : Int) : Option (Bool) := if a0 ≥ 0 then (if a0 ≤ 1114111 then (if a0 < 55296 then (some true) else (some (decide (a0 > 57343)))) else (some false)) else (some false)
set_option maxHeartbeats 8000000 in
set_option maxRecDepth 100000 in
theorem haulageref03_Is.calls (a0 : Int) (r : Bool) (w : World) (h : haulageref03_Is.f a0 = some r) :
  Calls Tryd.prog 119 #[.int .i64 a0] w fun e w' => e = .returned (.bool r) ∧ Drawn0 w w' := by
 have H : (if a0 ≥ 0 then (if a0 ≤ 1114111 then (if a0 < 55296 then (some true) else (some (decide (a0 > 57343)))) else (some false)) else (some false)) = some r := h
 clear h
 by_cases c2 : a0 ≥ 0
 ·
  rw [if_pos c2] at H
  have c2b0 : decide (0 ≤ a0) = true := decide_eq_true c2
  clear c2
  by_cases c3 : a0 ≤ 1114111
  ·
   rw [if_pos c3] at H
   have c3b0 : decide (a0 ≤ 1114111) = true := decide_eq_true c3
   clear c3
   by_cases c4 : a0 < 55296
   ·
    rw [if_pos c4] at H
    have c4b0 : decide (a0 < 55296) = true := decide_eq_true c4
    clear c4
    obtain rfl := Option.some.inj H
    go_enter Tryd.func119, Tryd.ntmps119
    go_wp2
    go_ret
    exact ⟨yS, yD⟩
   ·
    rw [if_neg c4] at H
    have c4b0 : decide (a0 < 55296) = false := decide_eq_false c4
    clear c4
    obtain rfl := Option.some.inj H
    go_enter Tryd.func119, Tryd.ntmps119
    go_wp2
    go_ret
    exact ⟨yS, yD⟩
  ·
   rw [if_neg c3] at H
   have c3b0 : decide (a0 ≤ 1114111) = false := decide_eq_false c3
   clear c3
   obtain rfl := Option.some.inj H
   go_enter Tryd.func119, Tryd.ntmps119
   go_wp2
   go_ret
   exact ⟨yS, yD⟩
 ·
  rw [if_neg c2] at H
  have c2b0 : decide (0 ≤ a0) = false := decide_eq_false c2
  clear c2
  obtain rfl := Option.some.inj H
  go_enter Tryd.func119, Tryd.ntmps119
  go_wp2
  go_ret
  exact ⟨yS, yD⟩
/-! ### haulageref03_one: function 124 -/
def haulageref03_one.f (a0 : Int) : Option (ByteArray) := some (strOfNums (([(a0) % 256] : List Int)))
set_option maxHeartbeats 8000000 in
set_option maxRecDepth 100000 in
theorem haulageref03_one.calls (a0 : Int) (r : ByteArray) (w : World) (h : haulageref03_one.f a0 = some r) :
  Calls Tryd.prog 124 #[.int .i64 a0] w fun e w' => e = .returned (.string r) ∧ Below w.heap.size w w' := by
 have HB := aM (Below.refl w.heap.size w)
 have H : (some (strOfNums (([(a0) % 256] : List Int)))) = some r := h
 clear h
 obtain ⟨y253, hy253⟩ : ∃ y_ : List Int, y_ = (([(a0) % 256] : List Int)) := ⟨_, rfl⟩
 replace H : (some (strOfNums y253)) = some r := by first | (rw [hy253]; with_reducible exact H) | (have H2_ := (Option.bind_some _ _).symm.trans H; rw [hy253]; with_reducible exact H2_) | (have H2_ := (Option.bind_some _ _).symm.trans H; with_reducible exact H2_) | with_reducible exact H | (rw [hy253]; exact H) | exact H
 have Ny253 := aM hy253
 clear hy253
 obtain rfl := Option.some.inj H
 go_enter Tryd.func124, Tryd.ntmps124
 go_wp2_with (first | ((with_reducible refine gate_dst (N := 5) rfl ?_); refine Kd.R_lit (Kd.int .u8) _ 5 ?hg (N := 5) ?hd (xs := ([(a0) % 256] : List Int)) (inner := [.int .u8 ((a0) % 256)]) (ok := fun _ => True) (okp := fun _ => True) ?hr ?hp (fun _ hk => hk) trivial (Below.refl _ _) (Nat.le_refl _) (by simp) ?_; (case hd => rfl); (case hg => rfl); (case hr => first | (go_simp; done) | (go_simp; rfl)); (case hp => exact (Reps.one (show Kd.M (Kd.int .u8) _ _ _ ((a0) % 256) [.int .u8 ((a0) % 256)] from rfl) (Reps.none _ _))); intro v254 w2 ho3 hb hg_ hnew_; clear hg_ hnew_; (first | rw [← Ny253.out] at ho3 | (simp only [Int.reduceToNat] at ho3; rw [← Ny253.out] at ho3)); have HO255 := aM (Kd.R_lower ho3 (bZ (yB HB))); replace HB := aM (bP (yB HB) hb); clear hb ho3; have hcv4 := own_string (P := Tryd.prog) Tryd.underlying91 Tryd.underlying5 Tryd.underlying9 (Kd.own_of_R HO255.out)))
 go_ret
 exact ⟨yE, yB HB⟩
end Go.Proofs.YtdeophpjammbpaaDoor.HSchemaSets

/- The statement's row for CatcodeBack: for every input that can be read the law returns true and leaves its arguments as they were; no condition but that the listed package-level tables hold what the program's text lays in them, which the card ties. -/
import Derived.Test.YtgefikclhfjcgaaDoorRows
import Derived.Test.YtgefikclhfjcgaaDoorGCatcodeBack0
import Derived.Test.YtgefikclhfjcgaaDoorPureCatcodeBack
import Derived.Test.YtgefikclhfjcgaaDoorCards
import Derived.Test.YtgefikclhfjcgaaDoorTie
import Derived.WalkKit
import Derived.ProofKit
import Derived.OpenShut
import Derived.ShutString
import Derived.ChangeOld
import Derived.Below
import Derived.SizedLaws
import Derived.LaidMore
import Derived.Stop.Joined
import Derived.SevenTiedAt
namespace Go.Proofs.YtgefikclhfjcgaaDoor.ECatcodeBack
open Go Go.Proofs.YtgefikclhfjcgaaDoorEv Go.Proofs
set_option linter.unusedVariables false
set_option linter.unusedSimpArgs false
set_option maxRecDepth 100000
def Ok97 (x : S_Column) : Prop := (Lit.int .i64 x.f0).wf = true ∧ x.f1.size ≤ reachBytes ∧ (Lit.int .i64 x.f2.f0).wf = true ∧ (Lit.int .i64 x.f2.f1).wf = true ∧ True ∧ (Lit.int .i64 x.f4.f0).wf = true ∧ (Lit.int .i64 x.f4.f1).wf = true ∧ x.f4.f2.size ≤ reachBytes
theorem ok97 {x : S_Column} (h : ∀ c ∈ TT.cells 97 x, OkC TT c) : Ok97 x := by
  have e : TT.cells 97 x = [C.int .i64 x.f0, C.str x.f1, C.int .i64 x.f2.f0, C.int .i64 x.f2.f1, C.bool (.b x.f3), C.int .i64 x.f4.f0, C.int .i64 x.f4.f1, C.str x.f4.f2] := rfl
  rw [e] at h
  have h0 := (h _ (by simp only [List.mem_cons, true_or, or_true]) : OkC TT (C.int .i64 x.f0))
  have h1 := (h _ (by simp only [List.mem_cons, true_or, or_true]) : OkC TT (C.str x.f1))
  have h2 := (h _ (by simp only [List.mem_cons, true_or, or_true]) : OkC TT (C.int .i64 x.f2.f0))
  have h3 := (h _ (by simp only [List.mem_cons, true_or, or_true]) : OkC TT (C.int .i64 x.f2.f1))
  have h4 := (h _ (by simp only [List.mem_cons, true_or, or_true]) : OkC TT (C.bool (.b x.f3)))
  have h5 := (h _ (by simp only [List.mem_cons, true_or, or_true]) : OkC TT (C.int .i64 x.f4.f0))
  have h6 := (h _ (by simp only [List.mem_cons, true_or, or_true]) : OkC TT (C.int .i64 x.f4.f1))
  have h7 := (h _ (by simp only [List.mem_cons, true_or, or_true]) : OkC TT (C.str x.f4.f2))
  exact ⟨h0.int_inv, h1.str_inv, h2.int_inv, h3.int_inv, (let _ := h4; trivial), h5.int_inv, h6.int_inv, h7.str_inv⟩
def Ok63 (x : S_Table) : Prop := (Lit.int .i64 x.f0).wf = true ∧ x.f1.size ≤ reachBytes ∧ (Lit.int .i64 x.f2).wf = true ∧ (Lit.int .i64 x.f3).wf = true ∧ (x.f4.length ≤ reachBytes ∧ ∀ y ∈ x.f4, Ok97 y)
theorem ok63 {x : S_Table} (h : ∀ c ∈ TT.cells 63 x, OkC TT c) : Ok63 x := by
  have e : TT.cells 63 x = [C.int .i64 x.f0, C.str x.f1, C.int .i64 x.f2, C.int .i64 x.f3, C.sl 97 x.f4] := rfl
  rw [e] at h
  have h0 := (h _ (by simp only [List.mem_cons, true_or, or_true]) : OkC TT (C.int .i64 x.f0))
  have h1 := (h _ (by simp only [List.mem_cons, true_or, or_true]) : OkC TT (C.str x.f1))
  have h2 := (h _ (by simp only [List.mem_cons, true_or, or_true]) : OkC TT (C.int .i64 x.f2))
  have h3 := (h _ (by simp only [List.mem_cons, true_or, or_true]) : OkC TT (C.int .i64 x.f3))
  have h4 := (h _ (by simp only [List.mem_cons, true_or, or_true]) : OkC TT (C.sl 97 x.f4))
  exact ⟨h0.int_inv, h1.str_inv, h2.int_inv, h3.int_inv, ⟨h4.sl_inv.1, fun y hy => ok97 (h4.sl_inv.2 y hy)⟩⟩
def A0 (z : List S_Table) : Prop := (z.length ≤ reachBytes ∧ ∀ y ∈ z, Ok63 y)
theorem a0 {z : List S_Table} (h : OkX TT (SX.enc ((.agg [(.sl 63)]) : SX) (z : ((.agg [(.sl 63)]) : SX).ty II))) : A0 z := by
  have h : ∀ c ∈ [(C.sl 63 z : C II)], OkC TT c := h
  have h0 := (h _ (by simp only [List.mem_cons, true_or, or_true]) : OkC TT (C.sl 63 z))
  exact ⟨h0.sl_inv.1, fun y hy => ok63 (h0.sl_inv.2 y hy)⟩
def A1 (z : Int × ByteArray × ByteArray × ByteArray × ByteArray × Int × Int × Bool × Int × Int × ByteArray × List S_Column) : Prop := (Lit.int .i64 z.1).wf = true ∧ z.2.1.size ≤ reachBytes ∧ z.2.2.1.size ≤ reachBytes ∧ z.2.2.2.1.size ≤ reachBytes ∧ z.2.2.2.2.1.size ≤ reachBytes ∧ (Lit.int .i64 z.2.2.2.2.2.1).wf = true ∧ (Lit.int .i64 z.2.2.2.2.2.2.1).wf = true ∧ True ∧ (Lit.int .i64 z.2.2.2.2.2.2.2.2.1).wf = true ∧ (Lit.int .i64 z.2.2.2.2.2.2.2.2.2.1).wf = true ∧ z.2.2.2.2.2.2.2.2.2.2.1.size ≤ reachBytes ∧ (z.2.2.2.2.2.2.2.2.2.2.2.length ≤ reachBytes ∧ ∀ y ∈ z.2.2.2.2.2.2.2.2.2.2.2, Ok97 y)
theorem a1 {z : Int × ByteArray × ByteArray × ByteArray × ByteArray × Int × Int × Bool × Int × Int × ByteArray × List S_Column} (h : OkX TT (SX.enc ((.agg [(.int .i64), .str, .str, .str, .str, (.int .i64), (.int .i64), .bool, (.int .i64), (.int .i64), .str, (.sl 97)]) : SX) (z : ((.agg [(.int .i64), .str, .str, .str, .str, (.int .i64), (.int .i64), .bool, (.int .i64), (.int .i64), .str, (.sl 97)]) : SX).ty II))) : A1 z := by
  have h : ∀ c ∈ [(C.int .i64 z.1 : C II), (C.str z.2.1 : C II), (C.str z.2.2.1 : C II), (C.str z.2.2.2.1 : C II), (C.str z.2.2.2.2.1 : C II), (C.int .i64 z.2.2.2.2.2.1 : C II), (C.int .i64 z.2.2.2.2.2.2.1 : C II), (C.bool (.b z.2.2.2.2.2.2.2.1) : C II), (C.int .i64 z.2.2.2.2.2.2.2.2.1 : C II), (C.int .i64 z.2.2.2.2.2.2.2.2.2.1 : C II), (C.str z.2.2.2.2.2.2.2.2.2.2.1 : C II), (C.sl 97 z.2.2.2.2.2.2.2.2.2.2.2 : C II)], OkC TT c := h
  have h0 := (h _ (by simp only [List.mem_cons, true_or, or_true]) : OkC TT (C.int .i64 z.1))
  have h1 := (h _ (by simp only [List.mem_cons, true_or, or_true]) : OkC TT (C.str z.2.1))
  have h2 := (h _ (by simp only [List.mem_cons, true_or, or_true]) : OkC TT (C.str z.2.2.1))
  have h3 := (h _ (by simp only [List.mem_cons, true_or, or_true]) : OkC TT (C.str z.2.2.2.1))
  have h4 := (h _ (by simp only [List.mem_cons, true_or, or_true]) : OkC TT (C.str z.2.2.2.2.1))
  have h5 := (h _ (by simp only [List.mem_cons, true_or, or_true]) : OkC TT (C.int .i64 z.2.2.2.2.2.1))
  have h6 := (h _ (by simp only [List.mem_cons, true_or, or_true]) : OkC TT (C.int .i64 z.2.2.2.2.2.2.1))
  have h7 := (h _ (by simp only [List.mem_cons, true_or, or_true]) : OkC TT (C.bool (.b z.2.2.2.2.2.2.2.1)))
  have h8 := (h _ (by simp only [List.mem_cons, true_or, or_true]) : OkC TT (C.int .i64 z.2.2.2.2.2.2.2.2.1))
  have h9 := (h _ (by simp only [List.mem_cons, true_or, or_true]) : OkC TT (C.int .i64 z.2.2.2.2.2.2.2.2.2.1))
  have h10 := (h _ (by simp only [List.mem_cons, true_or, or_true]) : OkC TT (C.str z.2.2.2.2.2.2.2.2.2.2.1))
  have h11 := (h _ (by simp only [List.mem_cons, true_or, or_true]) : OkC TT (C.sl 97 z.2.2.2.2.2.2.2.2.2.2.2))
  exact ⟨h0.int_inv, h1.str_inv, h2.str_inv, h3.str_inv, h4.str_inv, h5.int_inv, h6.int_inv, (let _ := h7; trivial), h8.int_inv, h9.int_inv, h10.str_inv, ⟨h11.sl_inv.1, fun y hy => ok97 (h11.sl_inv.2 y hy)⟩⟩
def A2 (z : ByteArray) : Prop := z.size ≤ reachBytes
theorem a2 {z : ByteArray} (h : OkX TT (SX.enc ((.one .str) : SX) (z : ((.one .str) : SX).ty II))) : A2 z := by
  have h0 : OkC TT (C.str z) := h
  exact h0.str_inv
theorem wf64_le {n : Int} (h : (Lit.int .i64 n).wf = true) : n ≤ maxN := (wf64 h).2
theorem law_of (zc : List S_Table) (z0 : Int × ByteArray × ByteArray × ByteArray × ByteArray × Int × Int × Bool × Int × Int × ByteArray × List S_Column) (z1 : ByteArray) (hc : A0 zc) (h0 : A1 z0) (h1 : A2 z1) :
    ∃ k, haulagelaw11_CatcodeBack k zc z0.1 z0.2.1 z0.2.2.1 z0.2.2.2.1 z0.2.2.2.2.1 z0.2.2.2.2.2.1 z0.2.2.2.2.2.2.1 z0.2.2.2.2.2.2.2.1 z0.2.2.2.2.2.2.2.2.1 z0.2.2.2.2.2.2.2.2.2.1 z0.2.2.2.2.2.2.2.2.2.2.1 z0.2.2.2.2.2.2.2.2.2.2.2 z1 = some true := by
  obtain ⟨_, e1, e2, e3, e4, _, _, _, _, e9, e10, e11, e12⟩ := h0
  obtain ⟨k, h⟩ := law_ev zc ⟨z0.1, z0.2.1, z0.2.2.1, z0.2.2.2.1, z0.2.2.2.2.1, ⟨z0.2.2.2.2.2.1, z0.2.2.2.2.2.2.1⟩, z0.2.2.2.2.2.2.2.1, ⟨z0.2.2.2.2.2.2.2.2.1, z0.2.2.2.2.2.2.2.2.2.1, z0.2.2.2.2.2.2.2.2.2.2.1⟩, z0.2.2.2.2.2.2.2.2.2.2.2⟩ z1
    (Nat.le_trans hc.1 (by decide)) (fun t ht => by
      obtain ⟨c0, _, c2, _, c4⟩ := hc.2 t ht
      exact ⟨wf64_le c0, wf64_le c2, Nat.le_trans c4.1 (by decide), fun c hc => (c4.2 c hc).2.2.2.2.2.2.1⟩)
    e1 e2 e3 e4 e10 e11 e9 (fun c hc => (e12 c hc).2.2.2.2.2.2.1)
  exact ⟨k, h k (Nat.le_refl _)⟩

end Go.Proofs.YtgefikclhfjcgaaDoor.ECatcodeBack
namespace Go.Proofs.YtgefikclhfjcgaaDoor.catcodeBack
open Go.ChangeShapes Go.WideShapes Go.ChangeAt Go.RowKit
open Go.ChangeMaps (open_string shut_string)
open Go.Proofs.YtgefikclhfjcgaaDoorEv
set_option linter.unusedVariables false
set_option linter.unusedSimpArgs false
theorem own : ownKnob Tryd.prog.godebug = none := by kernel_rfl
theorem laidOut : laidOutB Tryd.prog = true := by kernel_rfl
noncomputable abbrev laidL : List (String × DataW Unit) := [("haulage/utf.least", Rows.laid_haulage_utf_least)]
abbrev steps : Nat := 19
theorem door_met (os : Os) (args : Array Value) : laidMetH Tryd.prog laidL ((World.doorLaid Tryd.prog steps os).forCall (fun _ _ => 0) ⟨#[], args, []⟩).memory :=
  laidMetH_of_parts3 (fuel := 8) (laidMet_of_run' 8 (by kernel_rfl) (by kernel_rfl)) (by kernel_rfl) (by kernel_rfl)
theorem glob_of {W : World} (h : laidMetH Tryd.prog laidL W) : GlobOK Go.Proofs.YtgefikclhfjcgaaDoor.ECatcodeBack.TT W := by
  rw [MakeChecks.laidMetH_plain _ _ _ (by kernel_rfl)] at h
  obtain ⟨ps, ⟨g0, t0, cs0, f0, p0, q0, hg0, ht0, hv0, hd0, _, _⟩, _⟩ := h
  obtain rfl := Option.some.inj ((show Tryd.prog.globalNamed "haulage/utf.least" = some 1 by kernel_rfl).symm.trans hg0)
  obtain rfl := Option.some.inj ((show (Tryd.prog.globals[1]?).map (·.type) = some 181 by kernel_rfl).symm.trans ht0)
  obtain ⟨N0, r0⟩ := glob_ints (nm := "haulage/utf.least") Go.Proofs.YtgefikclhfjcgaaDoor.ECatcodeBack.TT_ok (W := W) (e := 3) (fun x => x) (fun x => rfl) Go.Proofs.YtgefikclhfjcgaaDoor.ECatcodeBack.G1 hg0 Tryd.underlying181 Tryd.underlying3 (by kernel_rfl) ((tyD_of Go.Proofs.YtgefikclhfjcgaaDoor.ECatcodeBack.ED_ok).sz 3) hv0 hd0
  refine ⟨max N0 (0), fun M hM g x hx => ?_⟩
  have hx : Go.Proofs.YtgefikclhfjcgaaDoor.ECatcodeBack.GL g = some x := hx
  unfold Go.Proofs.YtgefikclhfjcgaaDoor.ECatcodeBack.GL at hx
  split at hx
  · cases hx; exact ⟨_, _, rfl, r0 M (by omega)⟩
  · cases hx
set_option maxRecDepth 100000 in
set_option maxHeartbeats 1000000 in
theorem lifted (os : Os) (started : os.Started) (H : Type) (enc : TypeId × Value → H) :
    ReturnsInHanded {} Tryd.checked os 6 .any (fun w args => (Rows.catcodeBackSpec.pre enc Tryd.prog Tryd.f6 [] false w args ∧ laidMetH Tryd.prog laidL w) ∧ sizedMet enc Tryd.prog Tryd.f6 (OpenSpec.ofChange Rows.catcodeBackSpec) false w args) (Rows.catcodeBackSpec.post enc Tryd.prog Tryd.f6 false true false false) := by
  refine returnsInHanded_of_change_and (C := Tryd.checked) (X := (fun w _ => laidMetH Tryd.prog laidL w)) (fun _ _ _ hh h => h.of_heap hh) own started (by kernel_rfl) Tryd.func6
    (ChangeSpec.witness_shaped (enc := enc) (C := Tryd.checked) (os := os) (X := (fun w _ => laidMetH Tryd.prog laidL w)) false (World.doorLaid Tryd.prog steps os) #[.agg #[.slice none 0 0], .agg #[.int .i64 0, .string ByteArray.empty, .string ByteArray.empty, .string ByteArray.empty, .string ByteArray.empty, .int .i64 0, .int .i64 0, .bool false, .int .i64 0, .int .i64 0, .string ByteArray.empty, .slice none 0 0], .string ByteArray.empty] 8 rfl (World.shaped_of_RefB (by kernel_rfl) (by kernel_rfl)) (by kernel_rfl) (by kernel_rfl) (by kernel_rfl) (door_met os _)) ?_
  intro W base args ds gs before hval0 hW hcnd hsz0 hL _
  have hsz : (DataW.weightsEach Tryd.prog (Tryd.f6.params.toList ++ Rows.catcodeBackSpec.plain.varTypes Tryd.prog) (ds ++ gs)).all (· ≤ reachBytes) = true := hsz0
  have hval : ∀ (j : Nat) t v, Tryd.f6.params[j]? = some t → args[j]? = some v → Value.okWide Tryd.prog W .any base t v := hval0
  have hW' := hW
  obtain ⟨p, q, hA0, hV, rfl, hfz, hnd⟩ := hW
  have hA : DataW.TrodAll enc Tryd.prog W 0 (fun _ => true) true Tryd.f6.params.toList args.toList ds p := hA0
  rw [Tryd.params6] at hA hval hsz
  have hG : GlobOK Go.Proofs.YtgefikclhfjcgaaDoor.ECatcodeBack.TT W := glob_of hL
  obtain ⟨v0, vs0, d0, ds0, p0, q0, hargs, rfl, rfl, h0, r0⟩ := trodAll_cons hA
  obtain ⟨v1, vs1, d1, ds1, p1, q1, rfl, rfl, rfl, h1, r1⟩ := trodAll_cons r0
  obtain ⟨v2, vs2, d2, ds2, p2, q2, rfl, rfl, rfl, h2, r2⟩ := trodAll_cons r1
  obtain ⟨rfl, rfl, rfl⟩ := trodAll_nil r2
  obtain rfl : args = #[v0, v1, v2] := by cases args; simp_all
  obtain ⟨rfl, rfl⟩ := trodVars_none hV
  have k0 := h0
  have lt0 : ∀ x ∈ p0, x.block < W.heap.size := by obtain ⟨m, hm⟩ := k0; exact DataW.trod_lt m _ _ _ hm
  obtain ⟨fu0, hf0⟩ := h0
  obtain ⟨z0, N0, o0⟩ := open_arg Go.Proofs.YtgefikclhfjcgaaDoor.ECatcodeBack.TT_ok (tyD_of Go.Proofs.YtgefikclhfjcgaaDoor.ECatcodeBack.ED_ok) (s := (.agg [(.sl 63)])) (by kernel_rfl) (hval 0 37 v0 rfl rfl) ⟨H, enc, 0, true, fu0, _, hf0, fun z hz => of_decide_eq_true (List.all_eq_true.1 hsz z (DataW.weights_mem_each (j := 0) (t := 37) rfl rfl z hz))⟩
  have k1 := h1
  have lt1 : ∀ x ∈ p1, x.block < W.heap.size := by obtain ⟨m, hm⟩ := k1; exact DataW.trod_lt m _ _ _ hm
  obtain ⟨fu1, hf1⟩ := h1
  obtain ⟨z1, N1, o1⟩ := open_arg Go.Proofs.YtgefikclhfjcgaaDoor.ECatcodeBack.TT_ok (tyD_of Go.Proofs.YtgefikclhfjcgaaDoor.ECatcodeBack.ED_ok) (s := (.agg [(.int .i64), .str, .str, .str, .str, (.int .i64), (.int .i64), .bool, (.int .i64), (.int .i64), .str, (.sl 97)])) (by kernel_rfl) (hval 1 51 v1 rfl rfl) ⟨H, enc, 0, true, fu1, _, hf1, fun z hz => of_decide_eq_true (List.all_eq_true.1 hsz z (DataW.weights_mem_each (j := 1) (t := 51) rfl rfl z hz))⟩
  have k2 := h2
  have lt2 : ∀ x ∈ p2, x.block < W.heap.size := by obtain ⟨m, hm⟩ := k2; exact DataW.trod_lt m _ _ _ hm
  obtain ⟨fu2, hf2⟩ := h2
  obtain ⟨z2, N2, o2⟩ := open_arg Go.Proofs.YtgefikclhfjcgaaDoor.ECatcodeBack.TT_ok (tyD_of Go.Proofs.YtgefikclhfjcgaaDoor.ECatcodeBack.ED_ok) (s := (.one .str)) (by kernel_rfl) (hval 2 9 v2 rfl rfl) ⟨H, enc, 0, true, fu2, _, hf2, fun z hz => of_decide_eq_true (List.all_eq_true.1 hsz z (DataW.weights_mem_each (j := 2) (t := 9) rfl rfl z hz))⟩
  obtain ⟨k, hk⟩ := Go.Proofs.YtgefikclhfjcgaaDoor.ECatcodeBack.law_of z0 z1 z2 (Go.Proofs.YtgefikclhfjcgaaDoor.ECatcodeBack.a0 o0.ok) (Go.Proofs.YtgefikclhfjcgaaDoor.ECatcodeBack.a1 o1.ok) (Go.Proofs.YtgefikclhfjcgaaDoor.ECatcodeBack.a2 o2.ok)
  have hcall := Go.Proofs.YtgefikclhfjcgaaDoor.ECatcodeBack.haulagelaw11_CatcodeBack.says k (z0, z1, z2) () true hk
  refine (row_calls hcall (show OpenA Go.Proofs.YtgefikclhfjcgaaDoor.ECatcodeBack.TT W [v0, v1, v2] _ from (.cons o0 (.cons o1 (.cons o2 .nil)))) hG).mono fun e W' ⟨he, bel⟩ => ?_
  subst he
  exact ⟨_, rfl, _, _, _, [], _, [], hW', trodAll_mk1 (shut_bool Tryd.underlying4 _), (trodAll_cons_mk (Below.trod laidOut (by kernel_rfl) (of_decide_eq_true (by kernel_rfl)) k0 bel lt0) (trodAll_cons_mk (Below.trod laidOut (by kernel_rfl) (of_decide_eq_true (by kernel_rfl)) k1 bel lt1) (trodAll_cons_mk (Below.trod laidOut (by kernel_rfl) (of_decide_eq_true (by kernel_rfl)) k2 bel lt2) trodAll_mk0))), rfl, bel.frame _, fun h => by cases h⟩
theorem over : Rows.catcodeBackRow.holds Tryd.pinned (OpenSpec.ofChange Rows.catcodeBackSpec) :=
  OpenClaim.holds_of_wide 6 Tryd.f6 rfl rfl rfl rfl rfl rfl rfl ⟨rfl, rfl, rfl, rfl, rfl⟩ rfl rfl rfl rfl rfl (by kernel_rfl) Tryd.func6 (by kernel_rfl)
    (of_decide_eq_true (by kernel_rfl)) (by unfold Func.isWrapper; first | (rw [if_pos (by decide +kernel)]; kernel_rfl) | (rw [if_neg (by decide +kernel)]; exact ⟨rfl, rfl⟩))
    (fun os started H enc _ => lifted os started H enc)
theorem card : Rows.CatcodeBackCardSaid :=
  Claim7.holds_tied_plain_at .later [] [.data] true (true, "a57c6745df4c4cf36b2dbda400e9f3c0bac3c1b626461761b71c2c2fabfbedc4") false
    over (fun _ h => by cases h) (by kernel_rfl) (fun _ h => by cases h) catcodeBack_row_tie rfl ⟨rfl, rfl⟩ (by kernel_rfl) rfl
    (fun f fn hf hfn => by
      obtain rfl : f = 6 := Option.some.inj ((show Tryd.prog.funcNamed "haulage/haulagelaw11.CatcodeBack" = some 6 by kernel_rfl).symm.trans hf) |>.symm
      obtain rfl : fn = Tryd.f6 := (Option.some.inj (Tryd.func6.symm.trans hfn)).symm
      exact ⟨by kernel_rfl, fun j t ht => by
        rw [Tryd.params6] at ht
        have hm : t ∈ [37, 51, 9] := by simpa using Array.mem_of_getElem? ht
        have hall : ([37, 51, 9].all fun u => !Tryd.prog.wantsStandIn u) = true := by kernel_rfl
        exact (show Tryd.prog.wantsStandIn t = false by simpa using List.all_eq_true.1 hall t hm)⟩)
    (by kernel_rfl)
theorem proved : Rows.CatcodeBackCardSaid := card
#print axioms proved
end Go.Proofs.YtgefikclhfjcgaaDoor.catcodeBack
namespace Go.Proofs.YtgefikclhfjcgaaDoor
/-- The statement, under a short name, for the claim. -/
theorem catcodeBack_holds : Rows.CatcodeBackCardSaid := catcodeBack.proved
end Go.Proofs.YtgefikclhfjcgaaDoor

/- The statement's row for WalrecKeeps: for every input that can be read the law returns true and leaves its arguments as they were; no condition but that the listed package-level tables hold what the program's text lays in them, which the card ties. -/
import Derived.Test.YtgefikclhfjcgaaDoorRows
import Derived.Test.YtgefikclhfjcgaaDoorGWalrecKeeps0
import Derived.Test.YtgefikclhfjcgaaDoorPureWalrecKeeps1
import Derived.Test.YtgefikclhfjcgaaDoorCards
import Derived.Test.YtgefikclhfjcgaaDoorTie
import Derived.WalkKit
import Derived.ProofKit
import Derived.OpenShut
import Derived.ShutString
import Derived.ChangeOld
import Derived.Below
import Derived.SizedLaws
import Derived.LaidMore
import Derived.Stop.Joined
import Derived.SevenTiedAt
namespace Go.Proofs.YtgefikclhfjcgaaDoor.EWalrecKeeps
open Go Go.Proofs.YtgefikclhfjcgaaDoorEv Go.Proofs
set_option linter.unusedVariables false
set_option linter.unusedSimpArgs false
set_option maxRecDepth 100000
def A0 (z : Int) : Prop := (Lit.int .i64 z).wf = true
theorem a0 {z : Int} (h : OkX TT (SX.enc ((.one (.int .i64)) : SX) (z : ((.one (.int .i64)) : SX).ty II))) : A0 z := by
  have h0 : OkC TT (C.int .i64 z) := h
  exact h0.int_inv
def Ok97 (x : S_Column) : Prop := (Lit.int .i64 x.f0).wf = true ∧ x.f1.size ≤ reachBytes ∧ (Lit.int .i64 x.f2.f0).wf = true ∧ (Lit.int .i64 x.f2.f1).wf = true ∧ True ∧ (Lit.int .i64 x.f4.f0).wf = true ∧ (Lit.int .i64 x.f4.f1).wf = true ∧ x.f4.f2.size ≤ reachBytes
theorem ok97 {x : S_Column} (h : ∀ c ∈ TT.cells 97 x, OkC TT c) : Ok97 x := by
  have e : TT.cells 97 x = [C.int .i64 x.f0, C.str x.f1, C.int .i64 x.f2.f0, C.int .i64 x.f2.f1, C.bool (.b x.f3), C.int .i64 x.f4.f0, C.int .i64 x.f4.f1, C.str x.f4.f2] := rfl
  rw [e] at h
  have h0 := (h _ (by simp only [List.mem_cons, true_or, or_true]) : OkC TT (C.int .i64 x.f0))
  have h1 := (h _ (by simp only [List.mem_cons, true_or, or_true]) : OkC TT (C.str x.f1))
  have h2 := (h _ (by simp only [List.mem_cons, true_or, or_true]) : OkC TT (C.int .i64 x.f2.f0))
  have h3 := (h _ (by simp only [List.mem_cons, true_or, or_true]) : OkC TT (C.int .i64 x.f2.f1))
  have h4 := (h _ (by simp only [List.mem_cons, true_or, or_true]) : OkC TT (C.bool (.b x.f3)))
  have h5 := (h _ (by simp only [List.mem_cons, true_or, or_true]) : OkC TT (C.int .i64 x.f4.f0))
  have h6 := (h _ (by simp only [List.mem_cons, true_or, or_true]) : OkC TT (C.int .i64 x.f4.f1))
  have h7 := (h _ (by simp only [List.mem_cons, true_or, or_true]) : OkC TT (C.str x.f4.f2))
  exact ⟨h0.int_inv, h1.str_inv, h2.int_inv, h3.int_inv, (let _ := h4; trivial), h5.int_inv, h6.int_inv, h7.str_inv⟩
def A1 (z : Int × ByteArray × Int × Int × List S_Column) : Prop := (Lit.int .i64 z.1).wf = true ∧ z.2.1.size ≤ reachBytes ∧ (Lit.int .i64 z.2.2.1).wf = true ∧ (Lit.int .i64 z.2.2.2.1).wf = true ∧ (z.2.2.2.2.length ≤ reachBytes ∧ ∀ y ∈ z.2.2.2.2, Ok97 y)
theorem a1 {z : Int × ByteArray × Int × Int × List S_Column} (h : OkX TT (SX.enc ((.agg [(.int .i64), .str, (.int .i64), (.int .i64), (.sl 97)]) : SX) (z : ((.agg [(.int .i64), .str, (.int .i64), (.int .i64), (.sl 97)]) : SX).ty II))) : A1 z := by
  have h : ∀ c ∈ [(C.int .i64 z.1 : C II), (C.str z.2.1 : C II), (C.int .i64 z.2.2.1 : C II), (C.int .i64 z.2.2.2.1 : C II), (C.sl 97 z.2.2.2.2 : C II)], OkC TT c := h
  have h0 := (h _ (by simp only [List.mem_cons, true_or, or_true]) : OkC TT (C.int .i64 z.1))
  have h1 := (h _ (by simp only [List.mem_cons, true_or, or_true]) : OkC TT (C.str z.2.1))
  have h2 := (h _ (by simp only [List.mem_cons, true_or, or_true]) : OkC TT (C.int .i64 z.2.2.1))
  have h3 := (h _ (by simp only [List.mem_cons, true_or, or_true]) : OkC TT (C.int .i64 z.2.2.2.1))
  have h4 := (h _ (by simp only [List.mem_cons, true_or, or_true]) : OkC TT (C.sl 97 z.2.2.2.2))
  exact ⟨h0.int_inv, h1.str_inv, h2.int_inv, h3.int_inv, ⟨h4.sl_inv.1, fun y hy => ok97 (h4.sl_inv.2 y hy)⟩⟩
def Ok118 (x : S_Cell) : Prop := x.f0.size ≤ reachBytes ∧ (Lit.int .i64 x.f1.f0).wf = true ∧ (Lit.int .i64 x.f1.f1).wf = true ∧ (Lit.int .i64 x.f2.f0).wf = true ∧ (Lit.int .i64 x.f2.f1).wf = true ∧ x.f2.f2.size ≤ reachBytes
theorem ok118 {x : S_Cell} (h : ∀ c ∈ TT.cells 118 x, OkC TT c) : Ok118 x := by
  have e : TT.cells 118 x = [C.str x.f0, C.int .i64 x.f1.f0, C.int .i64 x.f1.f1, C.int .i64 x.f2.f0, C.int .i64 x.f2.f1, C.str x.f2.f2] := rfl
  rw [e] at h
  have h0 := (h _ (by simp only [List.mem_cons, true_or, or_true]) : OkC TT (C.str x.f0))
  have h1 := (h _ (by simp only [List.mem_cons, true_or, or_true]) : OkC TT (C.int .i64 x.f1.f0))
  have h2 := (h _ (by simp only [List.mem_cons, true_or, or_true]) : OkC TT (C.int .i64 x.f1.f1))
  have h3 := (h _ (by simp only [List.mem_cons, true_or, or_true]) : OkC TT (C.int .i64 x.f2.f0))
  have h4 := (h _ (by simp only [List.mem_cons, true_or, or_true]) : OkC TT (C.int .i64 x.f2.f1))
  have h5 := (h _ (by simp only [List.mem_cons, true_or, or_true]) : OkC TT (C.str x.f2.f2))
  exact ⟨h0.str_inv, h1.int_inv, h2.int_inv, h3.int_inv, h4.int_inv, h5.str_inv⟩
def A2 (z : Int × Int × ByteArray × Int × Int × ByteArray × List S_Cell × Int × ByteArray × ByteArray × ByteArray × ByteArray × Int × Int × Bool × Int × Int × ByteArray × List S_Column) : Prop := (Lit.int .i64 z.1).wf = true ∧ (Lit.int .i64 z.2.1).wf = true ∧ z.2.2.1.size ≤ reachBytes ∧ (Lit.int .i64 z.2.2.2.1).wf = true ∧ (Lit.int .i64 z.2.2.2.2.1).wf = true ∧ z.2.2.2.2.2.1.size ≤ reachBytes ∧ (z.2.2.2.2.2.2.1.length ≤ reachBytes ∧ ∀ y ∈ z.2.2.2.2.2.2.1, Ok118 y) ∧ (Lit.int .i64 z.2.2.2.2.2.2.2.1).wf = true ∧ z.2.2.2.2.2.2.2.2.1.size ≤ reachBytes ∧ z.2.2.2.2.2.2.2.2.2.1.size ≤ reachBytes ∧ z.2.2.2.2.2.2.2.2.2.2.1.size ≤ reachBytes ∧ z.2.2.2.2.2.2.2.2.2.2.2.1.size ≤ reachBytes ∧ (Lit.int .i64 z.2.2.2.2.2.2.2.2.2.2.2.2.1).wf = true ∧ (Lit.int .i64 z.2.2.2.2.2.2.2.2.2.2.2.2.2.1).wf = true ∧ True ∧ (Lit.int .i64 z.2.2.2.2.2.2.2.2.2.2.2.2.2.2.2.1).wf = true ∧ (Lit.int .i64 z.2.2.2.2.2.2.2.2.2.2.2.2.2.2.2.2.1).wf = true ∧ z.2.2.2.2.2.2.2.2.2.2.2.2.2.2.2.2.2.1.size ≤ reachBytes ∧ (z.2.2.2.2.2.2.2.2.2.2.2.2.2.2.2.2.2.2.length ≤ reachBytes ∧ ∀ y ∈ z.2.2.2.2.2.2.2.2.2.2.2.2.2.2.2.2.2.2, Ok97 y)
theorem a2 {z : Int × Int × ByteArray × Int × Int × ByteArray × List S_Cell × Int × ByteArray × ByteArray × ByteArray × ByteArray × Int × Int × Bool × Int × Int × ByteArray × List S_Column} (h : OkX TT (SX.enc ((.agg [(.int .i64), (.int .i64), .str, (.int .i64), (.int .i64), .str, (.sl 118), (.int .i64), .str, .str, .str, .str, (.int .i64), (.int .i64), .bool, (.int .i64), (.int .i64), .str, (.sl 97)]) : SX) (z : ((.agg [(.int .i64), (.int .i64), .str, (.int .i64), (.int .i64), .str, (.sl 118), (.int .i64), .str, .str, .str, .str, (.int .i64), (.int .i64), .bool, (.int .i64), (.int .i64), .str, (.sl 97)]) : SX).ty II))) : A2 z := by
  have h : ∀ c ∈ [(C.int .i64 z.1 : C II), (C.int .i64 z.2.1 : C II), (C.str z.2.2.1 : C II), (C.int .i64 z.2.2.2.1 : C II), (C.int .i64 z.2.2.2.2.1 : C II), (C.str z.2.2.2.2.2.1 : C II), (C.sl 118 z.2.2.2.2.2.2.1 : C II), (C.int .i64 z.2.2.2.2.2.2.2.1 : C II), (C.str z.2.2.2.2.2.2.2.2.1 : C II), (C.str z.2.2.2.2.2.2.2.2.2.1 : C II), (C.str z.2.2.2.2.2.2.2.2.2.2.1 : C II), (C.str z.2.2.2.2.2.2.2.2.2.2.2.1 : C II), (C.int .i64 z.2.2.2.2.2.2.2.2.2.2.2.2.1 : C II), (C.int .i64 z.2.2.2.2.2.2.2.2.2.2.2.2.2.1 : C II), (C.bool (.b z.2.2.2.2.2.2.2.2.2.2.2.2.2.2.1) : C II), (C.int .i64 z.2.2.2.2.2.2.2.2.2.2.2.2.2.2.2.1 : C II), (C.int .i64 z.2.2.2.2.2.2.2.2.2.2.2.2.2.2.2.2.1 : C II), (C.str z.2.2.2.2.2.2.2.2.2.2.2.2.2.2.2.2.2.1 : C II), (C.sl 97 z.2.2.2.2.2.2.2.2.2.2.2.2.2.2.2.2.2.2 : C II)], OkC TT c := h
  have h0 := (h _ (by simp only [List.mem_cons, true_or, or_true]) : OkC TT (C.int .i64 z.1))
  have h1 := (h _ (by simp only [List.mem_cons, true_or, or_true]) : OkC TT (C.int .i64 z.2.1))
  have h2 := (h _ (by simp only [List.mem_cons, true_or, or_true]) : OkC TT (C.str z.2.2.1))
  have h3 := (h _ (by simp only [List.mem_cons, true_or, or_true]) : OkC TT (C.int .i64 z.2.2.2.1))
  have h4 := (h _ (by simp only [List.mem_cons, true_or, or_true]) : OkC TT (C.int .i64 z.2.2.2.2.1))
  have h5 := (h _ (by simp only [List.mem_cons, true_or, or_true]) : OkC TT (C.str z.2.2.2.2.2.1))
  have h6 := (h _ (by simp only [List.mem_cons, true_or, or_true]) : OkC TT (C.sl 118 z.2.2.2.2.2.2.1))
  have h7 := (h _ (by simp only [List.mem_cons, true_or, or_true]) : OkC TT (C.int .i64 z.2.2.2.2.2.2.2.1))
  have h8 := (h _ (by simp only [List.mem_cons, true_or, or_true]) : OkC TT (C.str z.2.2.2.2.2.2.2.2.1))
  have h9 := (h _ (by simp only [List.mem_cons, true_or, or_true]) : OkC TT (C.str z.2.2.2.2.2.2.2.2.2.1))
  have h10 := (h _ (by simp only [List.mem_cons, true_or, or_true]) : OkC TT (C.str z.2.2.2.2.2.2.2.2.2.2.1))
  have h11 := (h _ (by simp only [List.mem_cons, true_or, or_true]) : OkC TT (C.str z.2.2.2.2.2.2.2.2.2.2.2.1))
  have h12 := (h _ (by simp only [List.mem_cons, true_or, or_true]) : OkC TT (C.int .i64 z.2.2.2.2.2.2.2.2.2.2.2.2.1))
  have h13 := (h _ (by simp only [List.mem_cons, true_or, or_true]) : OkC TT (C.int .i64 z.2.2.2.2.2.2.2.2.2.2.2.2.2.1))
  have h14 := (h _ (by simp only [List.mem_cons, true_or, or_true]) : OkC TT (C.bool (.b z.2.2.2.2.2.2.2.2.2.2.2.2.2.2.1)))
  have h15 := (h _ (by simp only [List.mem_cons, true_or, or_true]) : OkC TT (C.int .i64 z.2.2.2.2.2.2.2.2.2.2.2.2.2.2.2.1))
  have h16 := (h _ (by simp only [List.mem_cons, true_or, or_true]) : OkC TT (C.int .i64 z.2.2.2.2.2.2.2.2.2.2.2.2.2.2.2.2.1))
  have h17 := (h _ (by simp only [List.mem_cons, true_or, or_true]) : OkC TT (C.str z.2.2.2.2.2.2.2.2.2.2.2.2.2.2.2.2.2.1))
  have h18 := (h _ (by simp only [List.mem_cons, true_or, or_true]) : OkC TT (C.sl 97 z.2.2.2.2.2.2.2.2.2.2.2.2.2.2.2.2.2.2))
  exact ⟨h0.int_inv, h1.int_inv, h2.str_inv, h3.int_inv, h4.int_inv, h5.str_inv, ⟨h6.sl_inv.1, fun y hy => ok118 (h6.sl_inv.2 y hy)⟩, h7.int_inv, h8.str_inv, h9.str_inv, h10.str_inv, h11.str_inv, h12.int_inv, h13.int_inv, (let _ := h14; trivial), h15.int_inv, h16.int_inv, h17.str_inv, ⟨h18.sl_inv.1, fun y hy => ok97 (h18.sl_inv.2 y hy)⟩⟩
def A3 (z : Int × Int × Int × ByteArray) : Prop := (Lit.int .i64 z.1).wf = true ∧ (Lit.int .i64 z.2.1).wf = true ∧ (Lit.int .i64 z.2.2.1).wf = true ∧ z.2.2.2.size ≤ reachBytes
theorem a3 {z : Int × Int × Int × ByteArray} (h : OkX TT (SX.enc ((.agg [(.int .i64), (.int .i64), (.int .i64), .str]) : SX) (z : ((.agg [(.int .i64), (.int .i64), (.int .i64), .str]) : SX).ty II))) : A3 z := by
  have h : ∀ c ∈ [(C.int .i64 z.1 : C II), (C.int .i64 z.2.1 : C II), (C.int .i64 z.2.2.1 : C II), (C.str z.2.2.2 : C II)], OkC TT c := h
  have h0 := (h _ (by simp only [List.mem_cons, true_or, or_true]) : OkC TT (C.int .i64 z.1))
  have h1 := (h _ (by simp only [List.mem_cons, true_or, or_true]) : OkC TT (C.int .i64 z.2.1))
  have h2 := (h _ (by simp only [List.mem_cons, true_or, or_true]) : OkC TT (C.int .i64 z.2.2.1))
  have h3 := (h _ (by simp only [List.mem_cons, true_or, or_true]) : OkC TT (C.str z.2.2.2))
  exact ⟨h0.int_inv, h1.int_inv, h2.int_inv, h3.str_inv⟩
def A4 (z : Int) : Prop := (Lit.int .i64 z).wf = true
theorem a4 {z : Int} (h : OkX TT (SX.enc ((.one (.int .i64)) : SX) (z : ((.one (.int .i64)) : SX).ty II))) : A4 z := by
  have h0 : OkC TT (C.int .i64 z) := h
  exact h0.int_inv
theorem law_of (z0 : Int) (z1 : Int × ByteArray × Int × Int × List S_Column) (z2 : Int × Int × ByteArray × Int × Int × ByteArray × List S_Cell × Int × ByteArray × ByteArray × ByteArray × ByteArray × Int × Int × Bool × Int × Int × ByteArray × List S_Column) (z3 : Int × Int × Int × ByteArray) (z4 : Int) (h0 : A0 z0) (h1 : A1 z1) (h2 : A2 z2) (h3 : A3 z3) (h4 : A4 z4) :
    ∃ k, haulagelaw18_WalrecKeeps k z0 z1.1 z1.2.1 z1.2.2.1 z1.2.2.2.1 z1.2.2.2.2 z2.1 z2.2.1 z2.2.2.1 z2.2.2.2.1 z2.2.2.2.2.1 z2.2.2.2.2.2.1 z2.2.2.2.2.2.2.1 z2.2.2.2.2.2.2.2.1 z2.2.2.2.2.2.2.2.2.1 z2.2.2.2.2.2.2.2.2.2.1 z2.2.2.2.2.2.2.2.2.2.2.1 z2.2.2.2.2.2.2.2.2.2.2.2.1 z2.2.2.2.2.2.2.2.2.2.2.2.2.1 z2.2.2.2.2.2.2.2.2.2.2.2.2.2.1 z2.2.2.2.2.2.2.2.2.2.2.2.2.2.2.1 z2.2.2.2.2.2.2.2.2.2.2.2.2.2.2.2.1 z2.2.2.2.2.2.2.2.2.2.2.2.2.2.2.2.2.1 z2.2.2.2.2.2.2.2.2.2.2.2.2.2.2.2.2.2.1 z2.2.2.2.2.2.2.2.2.2.2.2.2.2.2.2.2.2.2 z3.1 z3.2.1 z3.2.2.1 z3.2.2.2 z4 = some true := by
  obtain ⟨_, _, _, _, e5⟩ := h1
  obtain ⟨_, _, b2, _, b4, b5, b6, _, b8, b9, b10, b11, _, _, _, _, b16, b17, b18⟩ := h2
  have hr : reachBytes = 140737488351232 := by decide
  rw [hr] at b2 b5 b6 b8 b9 b10 b11 b17 b18
  obtain ⟨k, h⟩ := law_ev z0 z1.1 z1.2.1 z1.2.2.1 z1.2.2.2.1 z1.2.2.2.2 ⟨z2.1, z2.2.1, z2.2.2.1, ⟨z2.2.2.2.1, z2.2.2.2.2.1, z2.2.2.2.2.2.1⟩, z2.2.2.2.2.2.2.1, ⟨z2.2.2.2.2.2.2.2.1, z2.2.2.2.2.2.2.2.2.1, z2.2.2.2.2.2.2.2.2.2.1, z2.2.2.2.2.2.2.2.2.2.2.1, z2.2.2.2.2.2.2.2.2.2.2.2.1, ⟨z2.2.2.2.2.2.2.2.2.2.2.2.2.1, z2.2.2.2.2.2.2.2.2.2.2.2.2.2.1⟩, z2.2.2.2.2.2.2.2.2.2.2.2.2.2.2.1, ⟨z2.2.2.2.2.2.2.2.2.2.2.2.2.2.2.2.1, z2.2.2.2.2.2.2.2.2.2.2.2.2.2.2.2.2.1, z2.2.2.2.2.2.2.2.2.2.2.2.2.2.2.2.2.2.1⟩, z2.2.2.2.2.2.2.2.2.2.2.2.2.2.2.2.2.2.2⟩⟩ z3.1 z3.2.1 z3.2.2.1 z3.2.2.2 z4 (by have := e5.1; omega) (fun c hc => (e5.2 c hc).2.2.2.2.2.2.1)
    ⟨b2, b5, b4, b6.1, fun x hx => by obtain ⟨q1, _, _, _, q5, q6⟩ := b6.2 x hx; exact ⟨by omega, by omega, q5⟩, b8, b9, b10, b11, b17, b18.1, b16, fun x hx => (b18.2 x hx).2.2.2.2.2.2.1⟩
  exact ⟨k, h k (Nat.le_refl _)⟩

end Go.Proofs.YtgefikclhfjcgaaDoor.EWalrecKeeps
namespace Go.Proofs.YtgefikclhfjcgaaDoor.walrecKeeps
open Go.ChangeShapes Go.WideShapes Go.ChangeAt Go.RowKit
open Go.ChangeMaps (open_string shut_string)
open Go.Proofs.YtgefikclhfjcgaaDoorEv
set_option linter.unusedVariables false
set_option linter.unusedSimpArgs false
theorem own : ownKnob Tryd.prog.godebug = none := by kernel_rfl
theorem laidOut : laidOutB Tryd.prog = true := by kernel_rfl
noncomputable abbrev laidL : List (String × DataW Unit) := [("haulage/utf.least", Rows.laid_haulage_utf_least), ("haulage/walrec.words", Rows.laid_haulage_walrec_words)]
abbrev steps : Nat := 19
theorem door_met (os : Os) (args : Array Value) : laidMetH Tryd.prog laidL ((World.doorLaid Tryd.prog steps os).forCall (fun _ _ => 0) ⟨#[], args, []⟩).memory :=
  laidMetH_of_parts3 (fuel := 8) (laidMet_of_run' 8 (by kernel_rfl) (by kernel_rfl)) (by kernel_rfl) (by kernel_rfl)
theorem glob_of {W : World} (h : laidMetH Tryd.prog laidL W) : GlobOK Go.Proofs.YtgefikclhfjcgaaDoor.EWalrecKeeps.TT W := by
  rw [MakeChecks.laidMetH_plain _ _ _ (by kernel_rfl)] at h
  obtain ⟨ps, ⟨g0, t0, cs0, f0, p0, q0, hg0, ht0, hv0, hd0, ⟨g1, t1, cs1, f1, p1, q1, hg1, ht1, hv1, hd1, _, _⟩, _⟩, _⟩ := h
  obtain rfl := Option.some.inj ((show Tryd.prog.globalNamed "haulage/utf.least" = some 1 by kernel_rfl).symm.trans hg0)
  obtain rfl := Option.some.inj ((show (Tryd.prog.globals[1]?).map (·.type) = some 181 by kernel_rfl).symm.trans ht0)
  obtain ⟨N0, r0⟩ := glob_ints (nm := "haulage/utf.least") Go.Proofs.YtgefikclhfjcgaaDoor.EWalrecKeeps.TT_ok (W := W) (e := 3) (fun x => x) (fun x => rfl) Go.Proofs.YtgefikclhfjcgaaDoor.EWalrecKeeps.G1 hg0 Tryd.underlying181 Tryd.underlying3 (by kernel_rfl) ((tyD_of Go.Proofs.YtgefikclhfjcgaaDoor.EWalrecKeeps.ED_ok).sz 3) hv0 hd0
  obtain rfl := Option.some.inj ((show Tryd.prog.globalNamed "haulage/walrec.words" = some 0 by kernel_rfl).symm.trans hg1)
  obtain rfl := Option.some.inj ((show (Tryd.prog.globals[0]?).map (·.type) = some 139 by kernel_rfl).symm.trans ht1)
  obtain ⟨N1, r1⟩ := glob_strs (nm := "haulage/walrec.words") Go.Proofs.YtgefikclhfjcgaaDoor.EWalrecKeeps.TT_ok (W := W) (e := 9) (fun x => x) (fun x => rfl) Go.Proofs.YtgefikclhfjcgaaDoor.EWalrecKeeps.G0 hg1 Tryd.underlying139 Tryd.underlying9 (by kernel_rfl) ((tyD_of Go.Proofs.YtgefikclhfjcgaaDoor.EWalrecKeeps.ED_ok).sz 9) hv1 hd1
  refine ⟨max N0 (max N1 (0)), fun M hM g x hx => ?_⟩
  have hx : Go.Proofs.YtgefikclhfjcgaaDoor.EWalrecKeeps.GL g = some x := hx
  unfold Go.Proofs.YtgefikclhfjcgaaDoor.EWalrecKeeps.GL at hx
  split at hx
  · cases hx; exact ⟨_, _, rfl, r1 M (by omega)⟩
  · cases hx; exact ⟨_, _, rfl, r0 M (by omega)⟩
  · cases hx
set_option maxRecDepth 100000 in
set_option maxHeartbeats 1000000 in
theorem lifted (os : Os) (started : os.Started) (H : Type) (enc : TypeId × Value → H) :
    ReturnsInHanded {} Tryd.checked os 7 .any (fun w args => (Rows.walrecKeepsSpec.pre enc Tryd.prog Tryd.f7 [] false w args ∧ laidMetH Tryd.prog laidL w) ∧ sizedMet enc Tryd.prog Tryd.f7 (OpenSpec.ofChange Rows.walrecKeepsSpec) false w args) (Rows.walrecKeepsSpec.post enc Tryd.prog Tryd.f7 false true false false) := by
  refine returnsInHanded_of_change_and (C := Tryd.checked) (X := (fun w _ => laidMetH Tryd.prog laidL w)) (fun _ _ _ hh h => h.of_heap hh) own started (by kernel_rfl) Tryd.func7
    (ChangeSpec.witness_shaped (enc := enc) (C := Tryd.checked) (os := os) (X := (fun w _ => laidMetH Tryd.prog laidL w)) false (World.doorLaid Tryd.prog steps os) #[.int .i64 0, .agg #[.int .i64 0, .string ByteArray.empty, .int .i64 0, .int .i64 0, .slice none 0 0], .agg #[.int .i64 0, .int .i64 0, .string ByteArray.empty, .int .i64 0, .int .i64 0, .string ByteArray.empty, .slice none 0 0, .int .i64 0, .string ByteArray.empty, .string ByteArray.empty, .string ByteArray.empty, .string ByteArray.empty, .int .i64 0, .int .i64 0, .bool false, .int .i64 0, .int .i64 0, .string ByteArray.empty, .slice none 0 0], .agg #[.int .i64 0, .int .i64 0, .int .i64 0, .string ByteArray.empty], .int .i64 0] 8 rfl (World.shaped_of_RefB (by kernel_rfl) (by kernel_rfl)) (by kernel_rfl) (by kernel_rfl) (by kernel_rfl) (door_met os _)) ?_
  intro W base args ds gs before hval0 hW hcnd hsz0 hL _
  have hsz : (DataW.weightsEach Tryd.prog (Tryd.f7.params.toList ++ Rows.walrecKeepsSpec.plain.varTypes Tryd.prog) (ds ++ gs)).all (· ≤ reachBytes) = true := hsz0
  have hval : ∀ (j : Nat) t v, Tryd.f7.params[j]? = some t → args[j]? = some v → Value.okWide Tryd.prog W .any base t v := hval0
  have hW' := hW
  obtain ⟨p, q, hA0, hV, rfl, hfz, hnd⟩ := hW
  have hA : DataW.TrodAll enc Tryd.prog W 0 (fun _ => true) true Tryd.f7.params.toList args.toList ds p := hA0
  rw [Tryd.params7] at hA hval hsz
  have hG : GlobOK Go.Proofs.YtgefikclhfjcgaaDoor.EWalrecKeeps.TT W := glob_of hL
  obtain ⟨v0, vs0, d0, ds0, p0, q0, hargs, rfl, rfl, h0, r0⟩ := trodAll_cons hA
  obtain ⟨v1, vs1, d1, ds1, p1, q1, rfl, rfl, rfl, h1, r1⟩ := trodAll_cons r0
  obtain ⟨v2, vs2, d2, ds2, p2, q2, rfl, rfl, rfl, h2, r2⟩ := trodAll_cons r1
  obtain ⟨v3, vs3, d3, ds3, p3, q3, rfl, rfl, rfl, h3, r3⟩ := trodAll_cons r2
  obtain ⟨v4, vs4, d4, ds4, p4, q4, rfl, rfl, rfl, h4, r4⟩ := trodAll_cons r3
  obtain ⟨rfl, rfl, rfl⟩ := trodAll_nil r4
  obtain rfl : args = #[v0, v1, v2, v3, v4] := by cases args; simp_all
  obtain ⟨rfl, rfl⟩ := trodVars_none hV
  have k0 := h0
  have lt0 : ∀ x ∈ p0, x.block < W.heap.size := by obtain ⟨m, hm⟩ := k0; exact DataW.trod_lt m _ _ _ hm
  obtain ⟨fu0, hf0⟩ := h0
  obtain ⟨z0, N0, o0⟩ := open_arg Go.Proofs.YtgefikclhfjcgaaDoor.EWalrecKeeps.TT_ok (tyD_of Go.Proofs.YtgefikclhfjcgaaDoor.EWalrecKeeps.ED_ok) (s := (.one (.int .i64))) (by kernel_rfl) (hval 0 3 v0 rfl rfl) ⟨H, enc, 0, true, fu0, _, hf0, fun z hz => of_decide_eq_true (List.all_eq_true.1 hsz z (DataW.weights_mem_each (j := 0) (t := 3) rfl rfl z hz))⟩
  have k1 := h1
  have lt1 : ∀ x ∈ p1, x.block < W.heap.size := by obtain ⟨m, hm⟩ := k1; exact DataW.trod_lt m _ _ _ hm
  obtain ⟨fu1, hf1⟩ := h1
  obtain ⟨z1, N1, o1⟩ := open_arg Go.Proofs.YtgefikclhfjcgaaDoor.EWalrecKeeps.TT_ok (tyD_of Go.Proofs.YtgefikclhfjcgaaDoor.EWalrecKeeps.ED_ok) (s := (.agg [(.int .i64), .str, (.int .i64), (.int .i64), (.sl 97)])) (by kernel_rfl) (hval 1 63 v1 rfl rfl) ⟨H, enc, 0, true, fu1, _, hf1, fun z hz => of_decide_eq_true (List.all_eq_true.1 hsz z (DataW.weights_mem_each (j := 1) (t := 63) rfl rfl z hz))⟩
  have k2 := h2
  have lt2 : ∀ x ∈ p2, x.block < W.heap.size := by obtain ⟨m, hm⟩ := k2; exact DataW.trod_lt m _ _ _ hm
  obtain ⟨fu2, hf2⟩ := h2
  obtain ⟨z2, N2, o2⟩ := open_arg Go.Proofs.YtgefikclhfjcgaaDoor.EWalrecKeeps.TT_ok (tyD_of Go.Proofs.YtgefikclhfjcgaaDoor.EWalrecKeeps.ED_ok) (s := (.agg [(.int .i64), (.int .i64), .str, (.int .i64), (.int .i64), .str, (.sl 118), (.int .i64), .str, .str, .str, .str, (.int .i64), (.int .i64), .bool, (.int .i64), (.int .i64), .str, (.sl 97)])) (by kernel_rfl) (hval 2 66 v2 rfl rfl) ⟨H, enc, 0, true, fu2, _, hf2, fun z hz => of_decide_eq_true (List.all_eq_true.1 hsz z (DataW.weights_mem_each (j := 2) (t := 66) rfl rfl z hz))⟩
  have k3 := h3
  have lt3 : ∀ x ∈ p3, x.block < W.heap.size := by obtain ⟨m, hm⟩ := k3; exact DataW.trod_lt m _ _ _ hm
  obtain ⟨fu3, hf3⟩ := h3
  obtain ⟨z3, N3, o3⟩ := open_arg Go.Proofs.YtgefikclhfjcgaaDoor.EWalrecKeeps.TT_ok (tyD_of Go.Proofs.YtgefikclhfjcgaaDoor.EWalrecKeeps.ED_ok) (s := (.agg [(.int .i64), (.int .i64), (.int .i64), .str])) (by kernel_rfl) (hval 3 68 v3 rfl rfl) ⟨H, enc, 0, true, fu3, _, hf3, fun z hz => of_decide_eq_true (List.all_eq_true.1 hsz z (DataW.weights_mem_each (j := 3) (t := 68) rfl rfl z hz))⟩
  have k4 := h4
  have lt4 : ∀ x ∈ p4, x.block < W.heap.size := by obtain ⟨m, hm⟩ := k4; exact DataW.trod_lt m _ _ _ hm
  obtain ⟨fu4, hf4⟩ := h4
  obtain ⟨z4, N4, o4⟩ := open_arg Go.Proofs.YtgefikclhfjcgaaDoor.EWalrecKeeps.TT_ok (tyD_of Go.Proofs.YtgefikclhfjcgaaDoor.EWalrecKeeps.ED_ok) (s := (.one (.int .i64))) (by kernel_rfl) (hval 4 3 v4 rfl rfl) ⟨H, enc, 0, true, fu4, _, hf4, fun z hz => of_decide_eq_true (List.all_eq_true.1 hsz z (DataW.weights_mem_each (j := 4) (t := 3) rfl rfl z hz))⟩
  obtain ⟨k, hk⟩ := Go.Proofs.YtgefikclhfjcgaaDoor.EWalrecKeeps.law_of z0 z1 z2 z3 z4 (Go.Proofs.YtgefikclhfjcgaaDoor.EWalrecKeeps.a0 o0.ok) (Go.Proofs.YtgefikclhfjcgaaDoor.EWalrecKeeps.a1 o1.ok) (Go.Proofs.YtgefikclhfjcgaaDoor.EWalrecKeeps.a2 o2.ok) (Go.Proofs.YtgefikclhfjcgaaDoor.EWalrecKeeps.a3 o3.ok) (Go.Proofs.YtgefikclhfjcgaaDoor.EWalrecKeeps.a4 o4.ok)
  have hcall := Go.Proofs.YtgefikclhfjcgaaDoor.EWalrecKeeps.haulagelaw18_WalrecKeeps.says k (z0, z1, z2, z3, z4) () true hk
  refine (row_calls hcall (show OpenA Go.Proofs.YtgefikclhfjcgaaDoor.EWalrecKeeps.TT W [v0, v1, v2, v3, v4] _ from (.cons o0 (.cons o1 (.cons o2 (.cons o3 (.cons o4 .nil)))))) hG).mono fun e W' ⟨he, bel⟩ => ?_
  subst he
  exact ⟨_, rfl, _, _, _, [], _, [], hW', trodAll_mk1 (shut_bool Tryd.underlying4 _), (trodAll_cons_mk (Below.trod laidOut (by kernel_rfl) (of_decide_eq_true (by kernel_rfl)) k0 bel lt0) (trodAll_cons_mk (Below.trod laidOut (by kernel_rfl) (of_decide_eq_true (by kernel_rfl)) k1 bel lt1) (trodAll_cons_mk (Below.trod laidOut (by kernel_rfl) (of_decide_eq_true (by kernel_rfl)) k2 bel lt2) (trodAll_cons_mk (Below.trod laidOut (by kernel_rfl) (of_decide_eq_true (by kernel_rfl)) k3 bel lt3) (trodAll_cons_mk (Below.trod laidOut (by kernel_rfl) (of_decide_eq_true (by kernel_rfl)) k4 bel lt4) trodAll_mk0))))), rfl, bel.frame _, fun h => by cases h⟩
theorem over : Rows.walrecKeepsRow.holds Tryd.pinned (OpenSpec.ofChange Rows.walrecKeepsSpec) :=
  OpenClaim.holds_of_wide 7 Tryd.f7 rfl rfl rfl rfl rfl rfl rfl ⟨rfl, rfl, rfl, rfl, rfl⟩ rfl rfl rfl rfl rfl (by kernel_rfl) Tryd.func7 (by kernel_rfl)
    (of_decide_eq_true (by kernel_rfl)) (by unfold Func.isWrapper; first | (rw [if_pos (by decide +kernel)]; kernel_rfl) | (rw [if_neg (by decide +kernel)]; exact ⟨rfl, rfl⟩))
    (fun os started H enc _ => lifted os started H enc)
theorem card : Rows.WalrecKeepsCardSaid :=
  Claim7.holds_tied_plain_at .later [] [.data, .data] true (true, "a57c6745df4c4cf36b2dbda400e9f3c0bac3c1b626461761b71c2c2fabfbedc4") false
    over (fun _ h => by cases h) (by kernel_rfl) (fun _ h => by cases h) walrecKeeps_row_tie rfl ⟨rfl, rfl⟩ (by kernel_rfl) rfl
    (fun f fn hf hfn => by
      obtain rfl : f = 7 := Option.some.inj ((show Tryd.prog.funcNamed "haulage/haulagelaw18.WalrecKeeps" = some 7 by kernel_rfl).symm.trans hf) |>.symm
      obtain rfl : fn = Tryd.f7 := (Option.some.inj (Tryd.func7.symm.trans hfn)).symm
      exact ⟨by kernel_rfl, fun j t ht => by
        rw [Tryd.params7] at ht
        have hm : t ∈ [3, 63, 66, 68, 3] := by simpa using Array.mem_of_getElem? ht
        have hall : ([3, 63, 66, 68, 3].all fun u => !Tryd.prog.wantsStandIn u) = true := by kernel_rfl
        exact (show Tryd.prog.wantsStandIn t = false by simpa using List.all_eq_true.1 hall t hm)⟩)
    (by kernel_rfl)
theorem proved : Rows.WalrecKeepsCardSaid := card
#print axioms proved
end Go.Proofs.YtgefikclhfjcgaaDoor.walrecKeeps
namespace Go.Proofs.YtgefikclhfjcgaaDoor
/-- The statement, under a short name, for the claim. -/
theorem walrecKeeps_holds : Rows.WalrecKeepsCardSaid := walrecKeeps.proved
end Go.Proofs.YtgefikclhfjcgaaDoor

/-
  NARROWER THAN 'FOR EVERY INPUT', by the rows' own cells (each row's printed sentence says how): CatcodeValues: laid · CatcodeCatalogs: laid · CatcodeChanges: laid · CatcodeBack: laid · WalrecKeeps: laid.
  DERIVED. THE GIVEN ROWS OF THIS SEAT. 5 by the template 'for every input the law returns true; each argument reads behind the call as it read before'; 0 by the template 'total and deterministic' (their statements: YtgefikclhfjcgaaDoorTotals.lean).
  GIVEN WITH THE SEED: the statements are not yours to turn. If you find one false, say at which input.
  Laid BY PROGRAM, IN A SANDBOX (cutbox-rows.mjs): the forced cells as the released guide's own fill.sh prints them over the translation 5b06b56cb16e4ce3… (all of the seat's roots in one cut). By AI agents, Wed Nov 11 2026. No macro, syntax, notation, axiom, sorry.
-/
import Derived.Test.YtgefikclhfjcgaaDoorChecked
import GoSem.Claim
import GoSem.ClaimJoined
import GoSem.ClaimMapViews
import Derived.JoinedTies
import Derived.KernelRfl
namespace Go.Proofs.YtgefikclhfjcgaaDoor
/- THE CELL 'sum', in the pinned program and in every row, IS THE sha256 OF THE DUMP (.gsa) THAT YtgefikclhfjcgaaDoorProg.lean LOADS. Nothing in Lean hashes anything: it is a label: what it is worth is what the hold of that sum in a sandbox is worth. -/
noncomputable def Tryd.pinned : Pinned := { name := "ytgefikclhfjcgaadoor", sum := "5b06b56cb16e4ce3776dff9d2e90c932e96a79a403cf74f0e1419105dedc4496", checked := Tryd.checked }
namespace Rows
def none {H : Type} : Left H := { results := [], args := [] }

/- WHAT THE LISTED PACKAGE-LEVEL VARIABLES READ AS WHEN THE CALL BEGINS. Each datum BY PROGRAM (the guide's laid-datum.mjs) off the statement by which the dump's own 'gosem.cut.vars' lays the variable. In a bare row this is a premise. The card (YtgefikclhfjcgaaDoorCards.lean) ties it to the program's text. -/
def laid_haulage_utf_least {H : Type} : DataW H := .agg [.lit (.int .i64 0), .lit (.int .i64 0), .lit (.int .i64 128), .lit (.int .i64 2048), .lit (.int .i64 65536)]
def laid_haulage_walrec_words {H : Type} : DataW H := .agg [.lit (.string []), .lit (.string [98, 101, 103, 105, 110]), .lit (.string [105, 110, 115, 101, 114, 116]), .lit (.string [117, 112, 100, 97, 116, 101]), .lit (.string [100, 101, 108, 101, 116, 101]), .lit (.string [100, 100, 108]), .lit (.string [99, 111, 109, 109, 105, 116]), .lit (.string [97, 98, 111, 114, 116]), .lit (.string [114, 101, 115, 101, 116])]

/-- 'haulagelaw11.CatcodeValues': WHATEVER THE INPUT: true; the input reads as it did. -/
def catcodeValuesSpec : ChangeSpec := { name := "catcodeValues", fn := fun _ => fun
  | [d1, d2] => { results := [.lit (.bool true)], args := [d1, d2] }
  | _ => none }
def catcodeValuesRow : OpenClaim := { program := "ytgefikclhfjcgaadoor", sum := "5b06b56cb16e4ce3776dff9d2e90c932e96a79a403cf74f0e1419105dedc4496", func := "haulage/haulagelaw11.CatcodeValues", spec := "catcodeValues", unfollowed := true, recurses := true, named := ["haulage/utf.least"], apart := false, laid := [("haulage/utf.least", laid_haulage_utf_least)] }
def CatcodeValuesSaid : Prop := catcodeValuesRow.holds Tryd.pinned (OpenSpec.ofChange catcodeValuesSpec)

/-- ITS FALSE NEIGHBOUR: 'it returns false'. Refute it at one input. -/
def catcodeValuesWrong : ChangeSpec := { name := "catcodeValues", fn := fun _ => fun
  | [d1, d2] => { results := [.lit (.bool false)], args := [d1, d2] }
  | _ => none }
def CatcodeValuesWrongFalsely : Prop := catcodeValuesRow.holds Tryd.pinned (OpenSpec.ofChange catcodeValuesWrong)

/-- 'haulagelaw11.CatcodeCatalogs': WHATEVER THE INPUT: true; the input reads as it did. -/
def catcodeCatalogsSpec : ChangeSpec := { name := "catcodeCatalogs", fn := fun _ => fun
  | [d1, d2] => { results := [.lit (.bool true)], args := [d1, d2] }
  | _ => none }
def catcodeCatalogsRow : OpenClaim := { program := "ytgefikclhfjcgaadoor", sum := "5b06b56cb16e4ce3776dff9d2e90c932e96a79a403cf74f0e1419105dedc4496", func := "haulage/haulagelaw11.CatcodeCatalogs", spec := "catcodeCatalogs", unfollowed := true, recurses := true, named := ["haulage/utf.least"], apart := false, laid := [("haulage/utf.least", laid_haulage_utf_least)] }
def CatcodeCatalogsSaid : Prop := catcodeCatalogsRow.holds Tryd.pinned (OpenSpec.ofChange catcodeCatalogsSpec)

/-- ITS FALSE NEIGHBOUR: 'it returns false'. Refute it at one input. -/
def catcodeCatalogsWrong : ChangeSpec := { name := "catcodeCatalogs", fn := fun _ => fun
  | [d1, d2] => { results := [.lit (.bool false)], args := [d1, d2] }
  | _ => none }
def CatcodeCatalogsWrongFalsely : Prop := catcodeCatalogsRow.holds Tryd.pinned (OpenSpec.ofChange catcodeCatalogsWrong)

/-- 'haulagelaw11.CatcodeChanges': WHATEVER THE INPUT: true; the input reads as it did. -/
def catcodeChangesSpec : ChangeSpec := { name := "catcodeChanges", fn := fun _ => fun
  | [d1, d2] => { results := [.lit (.bool true)], args := [d1, d2] }
  | _ => none }
def catcodeChangesRow : OpenClaim := { program := "ytgefikclhfjcgaadoor", sum := "5b06b56cb16e4ce3776dff9d2e90c932e96a79a403cf74f0e1419105dedc4496", func := "haulage/haulagelaw11.CatcodeChanges", spec := "catcodeChanges", unfollowed := true, recurses := true, named := ["haulage/utf.least"], apart := false, laid := [("haulage/utf.least", laid_haulage_utf_least)] }
def CatcodeChangesSaid : Prop := catcodeChangesRow.holds Tryd.pinned (OpenSpec.ofChange catcodeChangesSpec)

/-- ITS FALSE NEIGHBOUR: 'it returns false'. Refute it at one input. -/
def catcodeChangesWrong : ChangeSpec := { name := "catcodeChanges", fn := fun _ => fun
  | [d1, d2] => { results := [.lit (.bool false)], args := [d1, d2] }
  | _ => none }
def CatcodeChangesWrongFalsely : Prop := catcodeChangesRow.holds Tryd.pinned (OpenSpec.ofChange catcodeChangesWrong)

/-- 'haulagelaw11.CatcodeBack': WHATEVER THE INPUT: true; the input reads as it did. -/
def catcodeBackSpec : ChangeSpec := { name := "catcodeBack", fn := fun _ => fun
  | [d1, d2, d3] => { results := [.lit (.bool true)], args := [d1, d2, d3] }
  | _ => none }
def catcodeBackRow : OpenClaim := { program := "ytgefikclhfjcgaadoor", sum := "5b06b56cb16e4ce3776dff9d2e90c932e96a79a403cf74f0e1419105dedc4496", func := "haulage/haulagelaw11.CatcodeBack", spec := "catcodeBack", unfollowed := true, recurses := true, named := ["haulage/utf.least"], apart := false, laid := [("haulage/utf.least", laid_haulage_utf_least)] }
def CatcodeBackSaid : Prop := catcodeBackRow.holds Tryd.pinned (OpenSpec.ofChange catcodeBackSpec)

/-- ITS FALSE NEIGHBOUR: 'it returns false'. Refute it at one input. -/
def catcodeBackWrong : ChangeSpec := { name := "catcodeBack", fn := fun _ => fun
  | [d1, d2, d3] => { results := [.lit (.bool false)], args := [d1, d2, d3] }
  | _ => none }
def CatcodeBackWrongFalsely : Prop := catcodeBackRow.holds Tryd.pinned (OpenSpec.ofChange catcodeBackWrong)

/-- 'haulagelaw18.WalrecKeeps': WHATEVER THE INPUT: true; the input reads as it did. -/
def walrecKeepsSpec : ChangeSpec := { name := "walrecKeeps", fn := fun _ => fun
  | [d1, d2, d3, d4, d5] => { results := [.lit (.bool true)], args := [d1, d2, d3, d4, d5] }
  | _ => none }
def walrecKeepsRow : OpenClaim := { program := "ytgefikclhfjcgaadoor", sum := "5b06b56cb16e4ce3776dff9d2e90c932e96a79a403cf74f0e1419105dedc4496", func := "haulage/haulagelaw18.WalrecKeeps", spec := "walrecKeeps", unfollowed := true, recurses := true, named := ["haulage/walrec.words", "haulage/utf.least"], apart := false, laid := [("haulage/utf.least", laid_haulage_utf_least), ("haulage/walrec.words", laid_haulage_walrec_words)] }
def WalrecKeepsSaid : Prop := walrecKeepsRow.holds Tryd.pinned (OpenSpec.ofChange walrecKeepsSpec)

/-- ITS FALSE NEIGHBOUR: 'it returns false'. Refute it at one input. -/
def walrecKeepsWrong : ChangeSpec := { name := "walrecKeeps", fn := fun _ => fun
  | [d1, d2, d3, d4, d5] => { results := [.lit (.bool false)], args := [d1, d2, d3, d4, d5] }
  | _ => none }
def WalrecKeepsWrongFalsely : Prop := walrecKeepsRow.holds Tryd.pinned (OpenSpec.ofChange walrecKeepsWrong)

/- THE SECOND FORM. 'bulk': how many values and letters a reading holds, each counted each time it is reached (what is shared counts as often as it is met; a slice's spare places count too). A statement '..UptoSaid' is the law's where the arguments, and the package variables that the reading takes, are together of bulk at most 1048576: NARROWER than '..Said'. Prove '..Said' where nothing that the law and all that it calls make is longer than what came in: it says more and counts as full. Else prove '..UptoSaid'. A law counts once. -/
mutual
def uptoBulk {H : Type} : DataW H → Nat
  | .lit (.string bytes) => bytes.length + 1
  | .lit _ => 1
  | .nil => 1
  | .ptr d => uptoBulk d + 1
  | .slice elems spare => uptoBulkAll elems + uptoBulkAll spare + 1
  | .agg parts => uptoBulkAll parts + 1
  | .iface _ d => uptoBulk d + 1
  | .map entries => uptoBulkEntries entries + 1
  | .held _ => 1
def uptoBulkAll {H : Type} : List (DataW H) → Nat
  | [] => 0
  | d :: r => uptoBulk d + uptoBulkAll r
def uptoBulkEntries {H : Type} : List (Lit × DataW H) → Nat
  | [] => 0
  | x :: r => uptoBulkEntry x + uptoBulkEntries r
def uptoBulkEntry {H : Type} : Lit × DataW H → Nat
  | (.string bytes, d) => bytes.length + uptoBulk d + 1
  | (_, d) => uptoBulk d + 1
 end
def uptoSmall : (H : Type) → List (DataW H) → Bool := fun _ ds => decide (uptoBulkAll ds ≤ 1048576)
def OpenSpec.upto (s : _root_.Go.ChangeSpec) : _root_.Go.OpenSpec := { _root_.Go.OpenSpec.ofChange s with cond := some uptoSmall }

/-- 'haulagelaw11.CatcodeValues', WHERE WHAT IT READS IS OF BULK AT MOST 1048576: true; the input reads as it did. -/
def catcodeValuesUptoRow : OpenClaim := { program := "ytgefikclhfjcgaadoor", sum := "5b06b56cb16e4ce3776dff9d2e90c932e96a79a403cf74f0e1419105dedc4496", func := "haulage/haulagelaw11.CatcodeValues", spec := "catcodeValues", unfollowed := true, recurses := true, named := ["haulage/utf.least"], apart := false, laid := [("haulage/utf.least", laid_haulage_utf_least)], narrowed := true }
def CatcodeValuesUptoSaid : Prop := catcodeValuesUptoRow.holds Tryd.pinned (OpenSpec.upto catcodeValuesSpec)

/-- 'haulagelaw11.CatcodeCatalogs', WHERE WHAT IT READS IS OF BULK AT MOST 1048576: true; the input reads as it did. -/
def catcodeCatalogsUptoRow : OpenClaim := { program := "ytgefikclhfjcgaadoor", sum := "5b06b56cb16e4ce3776dff9d2e90c932e96a79a403cf74f0e1419105dedc4496", func := "haulage/haulagelaw11.CatcodeCatalogs", spec := "catcodeCatalogs", unfollowed := true, recurses := true, named := ["haulage/utf.least"], apart := false, laid := [("haulage/utf.least", laid_haulage_utf_least)], narrowed := true }
def CatcodeCatalogsUptoSaid : Prop := catcodeCatalogsUptoRow.holds Tryd.pinned (OpenSpec.upto catcodeCatalogsSpec)

/-- 'haulagelaw11.CatcodeChanges', WHERE WHAT IT READS IS OF BULK AT MOST 1048576: true; the input reads as it did. -/
def catcodeChangesUptoRow : OpenClaim := { program := "ytgefikclhfjcgaadoor", sum := "5b06b56cb16e4ce3776dff9d2e90c932e96a79a403cf74f0e1419105dedc4496", func := "haulage/haulagelaw11.CatcodeChanges", spec := "catcodeChanges", unfollowed := true, recurses := true, named := ["haulage/utf.least"], apart := false, laid := [("haulage/utf.least", laid_haulage_utf_least)], narrowed := true }
def CatcodeChangesUptoSaid : Prop := catcodeChangesUptoRow.holds Tryd.pinned (OpenSpec.upto catcodeChangesSpec)

/-- 'haulagelaw11.CatcodeBack', WHERE WHAT IT READS IS OF BULK AT MOST 1048576: true; the input reads as it did. -/
def catcodeBackUptoRow : OpenClaim := { program := "ytgefikclhfjcgaadoor", sum := "5b06b56cb16e4ce3776dff9d2e90c932e96a79a403cf74f0e1419105dedc4496", func := "haulage/haulagelaw11.CatcodeBack", spec := "catcodeBack", unfollowed := true, recurses := true, named := ["haulage/utf.least"], apart := false, laid := [("haulage/utf.least", laid_haulage_utf_least)], narrowed := true }
def CatcodeBackUptoSaid : Prop := catcodeBackUptoRow.holds Tryd.pinned (OpenSpec.upto catcodeBackSpec)

/-- 'haulagelaw18.WalrecKeeps', WHERE WHAT IT READS IS OF BULK AT MOST 1048576: true; the input reads as it did. -/
def walrecKeepsUptoRow : OpenClaim := { program := "ytgefikclhfjcgaadoor", sum := "5b06b56cb16e4ce3776dff9d2e90c932e96a79a403cf74f0e1419105dedc4496", func := "haulage/haulagelaw18.WalrecKeeps", spec := "walrecKeeps", unfollowed := true, recurses := true, named := ["haulage/walrec.words", "haulage/utf.least"], apart := false, laid := [("haulage/utf.least", laid_haulage_utf_least), ("haulage/walrec.words", laid_haulage_walrec_words)], narrowed := true }
def WalrecKeepsUptoSaid : Prop := walrecKeepsUptoRow.holds Tryd.pinned (OpenSpec.upto walrecKeepsSpec)

end Rows
end Go.Proofs.YtgefikclhfjcgaaDoor
